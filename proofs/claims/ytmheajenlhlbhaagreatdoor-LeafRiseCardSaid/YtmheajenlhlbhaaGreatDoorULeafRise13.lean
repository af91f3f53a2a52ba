/- What functions of the given program compute, step by step: the walks that the law LeafRise leans on, part 13. No conditions. -/
import Derived.Test.YtmheajenlhlbhaaGreatDoorULeafRise01
import Derived.Test.YtmheajenlhlbhaaGreatDoorULeafRise06
import Derived.Test.YtmheajenlhlbhaaGreatDoorULeafRise10
import Derived.Test.YtmheajenlhlbhaaGreatDoorULeafRise05
import Derived.Test.YtmheajenlhlbhaaGreatDoorULeafRise12
import Derived.Test.YtmheajenlhlbhaaGreatDoorULeafRise02
import Derived.Test.YtmheajenlhlbhaaGreatDoorULeafRise07
import Derived.Test.YtmheajenlhlbhaaGreatDoorULeafRise08
import Derived.Test.YtmheajenlhlbhaaGreatDoorULeafRise09
import Derived.Test.YtmheajenlhlbhaaGreatDoorULeafRise11
import Derived.Test.YtmheajenlhlbhaaGreatDoorULeafRise03
import Derived.Test.YtmheajenlhlbhaaGreatDoorVLeafRiseShelf
import Derived.Sort.Walk0
import Derived.Deep.LoopGhost
namespace Go.Proofs.YtmheajenlhlbhaaGreatDoor.X
open Go.RowKit Go.Proofs.YtmheajenlhlbhaaGreatDoorW.PrintWords Go.Proofs.YtmheajenlhlbhaaGreatDoorW.PrintLast Go.Proofs.YtmheajenlhlbhaaGreatDoorW.PrintMore
attribute [local go_sem] max2_int min2_int max_two min_two max_three min_three max_four min_four   -- for this text's walks alone
set_option linter.unusedVariables false
set_option linter.unusedSimpArgs false

def leaf_Encode.f (a0_0 : Int) (a0_1 : Int) (a0_2 : ByteArray) (l0_3 : List (S32)) (a1 : Int) : Option (ByteArray × Int) := (disk_Size.f a1).bind fun t202 => (if t202 = true then ((leaf_May.f a0_0 a0_1 a0_2 l0_3 a1).bind fun t203 => (if t203 = true then ((leaf_parts.f a0_0 a0_1 a0_2 l0_3).bind fun bt204 => ((slot_Pack.f (wrap64 (a1 - 16)) bt204.1 bt204.2).bind fun bt208 => (if bt208.2 = 0 then ((head_Seal.f 2 0 (l0_3.length : Int) a0_1 a0_0 bt208.1 a1).bind fun bt210 => (some (bt210.1, bt210.2))) else (some ((⟨#[]⟩ : ByteArray), bt208.2))))) else (some ((⟨#[]⟩ : ByteArray), 3)))) else (some ((⟨#[]⟩ : ByteArray), 4)))
set_option maxHeartbeats 8000000 in
set_option maxRecDepth 100000 in
theorem leaf_Encode.calls (a0_0 : Int) (a0_1 : Int) (a0_2 : ByteArray) (A0_3 : Option Addr) (c0_3 : Nat) (l0_3 : List (S32)) (a1 : Int) (r1 : ByteArray) (r2 : Int) (w : World) (hr0_3 : Kd.C k32 w A0_3 l0_3.length l0_3) (hc0_3 : l0_3.length ≤ c0_3) (h : leaf_Encode.f a0_0 a0_1 a0_2 l0_3 a1 = some (r1, r2)) :
    Calls Tryz.prog 42 #[.agg #[.int .i64 a0_0, .int .i64 a0_1, .string a0_2, .slice A0_3 l0_3.length c0_3], .int .i64 a1] w fun e w' => e = .returned (.tuple #[.string r1, .int .i64 r2]) ∧ Below w.heap.size w w' := by
  have hu24 := Tryz.underlying24
  have hu82 := Tryz.underlying82
  have HR0_3 := Aside0.mk hr0_3
  have HC0_3 := Aside0.mk hc0_3
  clear hr0_3 hc0_3
  have HB := Aside0.mk (Below.refl w.heap.size w)
  have H : ((disk_Size.f a1).bind fun t202 => (if t202 = true then ((leaf_May.f a0_0 a0_1 a0_2 l0_3 a1).bind fun t203 => (if t203 = true then ((leaf_parts.f a0_0 a0_1 a0_2 l0_3).bind fun bt204 => ((slot_Pack.f (wrap64 (a1 - 16)) bt204.1 bt204.2).bind fun bt208 => (if bt208.2 = 0 then ((head_Seal.f 2 0 (l0_3.length : Int) a0_1 a0_0 bt208.1 a1).bind fun bt210 => (some (bt210.1, bt210.2))) else (some ((⟨#[]⟩ : ByteArray), bt208.2))))) else (some ((⟨#[]⟩ : ByteArray), 3)))) else (some ((⟨#[]⟩ : ByteArray), 4)))) = some (r1, r2) := h
  clear h
  replace H := Option.bind_eq_some_iff.mp H
  obtain ⟨t202, A30, H⟩ := H
  replace H : (if t202 = true then ((leaf_May.f a0_0 a0_1 a0_2 l0_3 a1).bind fun t203 => (if t203 = true then ((leaf_parts.f a0_0 a0_1 a0_2 l0_3).bind fun bt204 => ((slot_Pack.f (wrap64 (a1 - 16)) bt204.1 bt204.2).bind fun bt208 => (if bt208.2 = 0 then ((head_Seal.f 2 0 (l0_3.length : Int) a0_1 a0_0 bt208.1 a1).bind fun bt210 => (some (bt210.1, bt210.2))) else (some ((⟨#[]⟩ : ByteArray), bt208.2))))) else (some ((⟨#[]⟩ : ByteArray), 3)))) else (some ((⟨#[]⟩ : ByteArray), 4))) = some (r1, r2) := H
  have A3 := Aside0.mk A30
  clear A30
  by_cases c4 : t202 = true
  · subst c4
    have H1 : ((leaf_May.f a0_0 a0_1 a0_2 l0_3 a1).bind fun t203 => (if t203 = true then ((leaf_parts.f a0_0 a0_1 a0_2 l0_3).bind fun bt204 => ((slot_Pack.f (wrap64 (a1 - 16)) bt204.1 bt204.2).bind fun bt208 => (if bt208.2 = 0 then ((head_Seal.f 2 0 (l0_3.length : Int) a0_1 a0_0 bt208.1 a1).bind fun bt210 => (some (bt210.1, bt210.2))) else (some ((⟨#[]⟩ : ByteArray), bt208.2))))) else (some ((⟨#[]⟩ : ByteArray), 3)))) = some (r1, r2) := by rw [if_pos rfl] at H; exact H
    clear H
    have H := H1
    clear H1
    replace H := Option.bind_eq_some_iff.mp H
    obtain ⟨t203, A50, H⟩ := H
    replace H : (if t203 = true then ((leaf_parts.f a0_0 a0_1 a0_2 l0_3).bind fun bt204 => ((slot_Pack.f (wrap64 (a1 - 16)) bt204.1 bt204.2).bind fun bt208 => (if bt208.2 = 0 then ((head_Seal.f 2 0 (l0_3.length : Int) a0_1 a0_0 bt208.1 a1).bind fun bt210 => (some (bt210.1, bt210.2))) else (some ((⟨#[]⟩ : ByteArray), bt208.2))))) else (some ((⟨#[]⟩ : ByteArray), 3))) = some (r1, r2) := H
    have A5 := Aside0.mk A50
    clear A50
    by_cases c6 : t203 = true
    · subst c6
      have H1 : ((leaf_parts.f a0_0 a0_1 a0_2 l0_3).bind fun bt204 => ((slot_Pack.f (wrap64 (a1 - 16)) bt204.1 bt204.2).bind fun bt208 => (if bt208.2 = 0 then ((head_Seal.f 2 0 (l0_3.length : Int) a0_1 a0_0 bt208.1 a1).bind fun bt210 => (some (bt210.1, bt210.2))) else (some ((⟨#[]⟩ : ByteArray), bt208.2))))) = some (r1, r2) := by rw [if_pos rfl] at H; exact H
      clear H
      have H := H1
      clear H1
      replace H := Option.bind_eq_some_iff.mp H
      obtain ⟨⟨t204, t205⟩, A70, H⟩ := H
      replace H : ((slot_Pack.f (wrap64 (a1 - 16)) t204 t205).bind fun bt208 => (if bt208.2 = 0 then ((head_Seal.f 2 0 (l0_3.length : Int) a0_1 a0_0 bt208.1 a1).bind fun bt210 => (some (bt210.1, bt210.2))) else (some ((⟨#[]⟩ : ByteArray), bt208.2)))) = some (r1, r2) := H
      have A7 := Aside0.mk A70
      clear A70
      replace H := Option.bind_eq_some_iff.mp H
      obtain ⟨⟨t208, t209⟩, A80, H⟩ := H
      replace H : (if t209 = 0 then ((head_Seal.f 2 0 (l0_3.length : Int) a0_1 a0_0 t208 a1).bind fun bt210 => (some (bt210.1, bt210.2))) else (some ((⟨#[]⟩ : ByteArray), t209))) = some (r1, r2) := H
      have A8 := Aside0.mk A80
      clear A80
      by_cases c9 : t209 = 0
      · rw [if_pos c9] at H
        have c9b0 : (t209 == 0) = true := beq_iff_eq.mpr c9
        have c9b1 : (t209 != 0) = false := bne_eq_false_iff_eq.mpr c9
        clear c9
        replace H := Option.bind_eq_some_iff.mp H
        obtain ⟨⟨t210, t211⟩, A100, H⟩ := H
        replace H : (some (t210, t211)) = some (r1, r2) := H
        have A10 := Aside0.mk A100
        clear A100
        simp only [Option.some.injEq, Prod.mk.injEq] at H
        obtain ⟨rfl, rfl⟩ := H
        go_enter Tryz.func42, Tryz.ntmps42
        go_wp2_with (first | ((with_reducible refine gate_dst (N := 2) rfl ?_); refine box_event ?hg (N := 2) ?hd (cs := #[.int .i64 a0_0, .int .i64 a0_1, .string a0_2, .slice A0_3 l0_3.length c0_3]) (t := 24) ?hr ?_; (case hd => rfl); (case hg => rfl); (case hr => first | (go_simp; done) | (go_simp; rfl)); intro gb201 hg w11 hbox hb; have n0_ := Aside0.mk (below_step (by repeat (first | (with_reducible first | exact HB.out | apply below_alloc | apply pw_below_drewN | apply below_drew1) | exact HB.out)) hb); have n1_ := Aside0.mk (hbox); have n2_ := Aside0.mk ((by rw [hg]; exact (below_size (by repeat (first | (with_reducible first | exact HB.out | apply below_alloc | apply pw_below_drewN | apply below_drew1) | exact HB.out))) : w.heap.size ≤ gb201)); have n3_ := Aside0.mk ((by rw [hg]; exact (below_size (by repeat (first | (with_reducible first | exact HB.out | apply below_alloc | apply pw_below_drewN | apply below_drew1) | exact HB.out))) : w.heap.size ≤ gb201)); clear HB; have HB := n0_; have BK201 := n1_; have GW201 := n2_; have GE201 := n3_; clear n0_ n1_ n2_ n3_; clear hb hbox hg) | ((with_reducible refine gate_callee (f := 83) rfl ?_); refine goesL_ (some 11) rfl rfl Tryz.func83 (by kernel_rfl) rfl #[.int .i64 a1] rfl (by (try simp only [List.map_toArray, List.map_cons, List.map_nil]); first | done | rfl | (simp only [List.length_drop, List.length_take]; rfl)) ?_; (with_reducible refine (disk_Size.calls a1 true _ A3.out).mono ?_); rintro e w12 ⟨rfl, hb⟩; refine ⟨_, rfl, ?_⟩; have n0_ := Aside0.mk (blk_below (g := gb201) (o := .cells #[.int .i64 a0_0, .int .i64 a0_1, .string a0_2, .slice A0_3 l0_3.length c0_3] 24 (0, 0)) (by (with_reducible repeat (first | refine blk_drewN ?_ _ | refine blk_drew ?_ | refine blk_alloc ?_ _)); exact BK201.out) hb); have n1_ := Aside0.mk (below_step (by repeat (first | (with_reducible first | exact HB.out | apply below_alloc | apply pw_below_drewN | apply below_drew1 | refine below_set ?_ GE201.out) | exact HB.out)) hb); clear BK201; clear HB; have BK201 := n0_; have HB := n1_; clear n0_ n1_; (try clear hb); (try clear hb2); (try clear hk); (try clear hi); have hcz13_0 : w12.cell? ⟨gb201, 0, none⟩ = some (.int .i64 a0_0) := (blk_cell BK201.out 0).trans rfl; have hcz13_1 : w12.cell? ⟨gb201, 1, none⟩ = some (.int .i64 a0_1) := (blk_cell BK201.out 1).trans rfl; have hcz13_2 : w12.cell? ⟨gb201, 2, none⟩ = some (.string a0_2) := (blk_cell BK201.out 2).trans rfl; have hcz13_3 : w12.cell? ⟨gb201, 3, none⟩ = some (.slice A0_3 l0_3.length c0_3) := (blk_cell BK201.out 3).trans rfl; have hfz13_0 := blk_frozen BK201.out 0; have hfz13_1 := blk_frozen BK201.out 1; have hfz13_2 := blk_frozen BK201.out 2; have hfz13_3 := blk_frozen BK201.out 3) | ((with_reducible refine gate_callee (f := 47) rfl ?_); refine goesL_ (some 15) rfl rfl Tryz.func47 (by kernel_rfl) rfl #[.agg #[.int .i64 a0_0, .int .i64 a0_1, .string a0_2, .slice A0_3 l0_3.length c0_3], .int .i64 a1] rfl (by (try simp only [List.map_toArray, List.map_cons, List.map_nil]); first | done | rfl | (simp only [List.length_drop, List.length_take]; rfl)) ?_; (with_reducible refine (leaf_May.calls a0_0 a0_1 a0_2 _ _ l0_3 a1 true _ ?side1 ?side2 A5.out).mono ?_); (case side1 => repeat (first | exact (Kd.C_below HR0_3.out HB.out) | (with_reducible refine Kd.C_alloc ?_ _) | (with_reducible refine Kd.C_drewN ?_ _) | (with_reducible refine Kd.C_drew ?_))); (case side2 => exact HC0_3.out); rintro e w14 ⟨rfl, hb⟩; refine ⟨_, rfl, ?_⟩; have n0_ := Aside0.mk (blk_below (g := gb201) (o := .cells #[.int .i64 a0_0, .int .i64 a0_1, .string a0_2, .slice A0_3 l0_3.length c0_3] 24 (0, 0)) (by (with_reducible repeat (first | refine blk_drewN ?_ _ | refine blk_drew ?_ | refine blk_alloc ?_ _)); exact BK201.out) hb); have n1_ := Aside0.mk (below_step (by repeat (first | (with_reducible first | exact HB.out | apply below_alloc | apply pw_below_drewN | apply below_drew1 | refine below_set ?_ GE201.out) | exact HB.out)) hb); clear BK201; clear HB; have BK201 := n0_; have HB := n1_; clear n0_ n1_; (try clear hb); (try clear hb2); (try clear hk); (try clear hi); have hcz15_0 : w14.cell? ⟨gb201, 0, none⟩ = some (.int .i64 a0_0) := (blk_cell BK201.out 0).trans rfl; have hcz15_1 : w14.cell? ⟨gb201, 1, none⟩ = some (.int .i64 a0_1) := (blk_cell BK201.out 1).trans rfl; have hcz15_2 : w14.cell? ⟨gb201, 2, none⟩ = some (.string a0_2) := (blk_cell BK201.out 2).trans rfl; have hcz15_3 : w14.cell? ⟨gb201, 3, none⟩ = some (.slice A0_3 l0_3.length c0_3) := (blk_cell BK201.out 3).trans rfl; have hfz15_0 := blk_frozen BK201.out 0; have hfz15_1 := blk_frozen BK201.out 1; have hfz15_2 := blk_frozen BK201.out 2; have hfz15_3 := blk_frozen BK201.out 3) | ((with_reducible refine gate_callee (f := 95) rfl ?_); refine goesL_ (some 19) rfl rfl Tryz.func95 (by kernel_rfl) rfl #[.agg #[.int .i64 a0_0, .int .i64 a0_1, .string a0_2, .slice A0_3 l0_3.length c0_3]] rfl (by (try simp only [List.map_toArray, List.map_cons, List.map_nil]); first | done | rfl | (simp only [List.length_drop, List.length_take]; rfl)) ?_; (with_reducible refine (leaf_parts.calls a0_0 a0_1 a0_2 _ _ l0_3 t204 t205 _ ?side1 ?side2 A7.out).mono ?_); (case side1 => repeat (first | exact (Kd.C_below HR0_3.out HB.out) | (with_reducible refine Kd.C_alloc ?_ _) | (with_reducible refine Kd.C_drewN ?_ _) | (with_reducible refine Kd.C_drew ?_))); (case side2 => exact HC0_3.out); rintro e w16 ⟨v206, rfl, ho0, hb⟩; refine ⟨_, rfl, ?_⟩; have n0_ := Aside0.mk (Kd.R_lower ho0 (below_size (by repeat (first | (with_reducible first | exact HB.out | apply below_alloc | apply pw_below_drewN | apply below_drew1 | refine below_set ?_ GE201.out) | exact HB.out)))); have n1_ := Aside0.mk (blk_below (g := gb201) (o := .cells #[.int .i64 a0_0, .int .i64 a0_1, .string a0_2, .slice A0_3 l0_3.length c0_3] 24 (0, 0)) (by (with_reducible repeat (first | refine blk_drewN ?_ _ | refine blk_drew ?_ | refine blk_alloc ?_ _)); exact BK201.out) hb); have n2_ := Aside0.mk (below_step (by repeat (first | (with_reducible first | exact HB.out | apply below_alloc | apply pw_below_drewN | apply below_drew1 | refine below_set ?_ GE201.out) | exact HB.out)) hb); clear BK201; clear HB; have HO207 := n0_; have BK201 := n1_; have HB := n2_; clear n0_ n1_ n2_; (try clear hb); (try clear hb2); (try clear hk); (try clear hi); (try clear ho0); obtain ⟨Ao17, co17, eo17⟩ := Kd.R_slice HO207.out; subst eo17) | ((with_reducible refine gate_callee (f := 96) rfl ?_); refine goesL_ (some 27) rfl rfl Tryz.func96 (by kernel_rfl) rfl #[.int .i64 (wrap64 (a1 - 16)), .string t204, .slice Ao17 t205.length co17] rfl (by (try simp only [List.map_toArray, List.map_cons, List.map_nil]); first | done | rfl | (simp only [List.length_drop, List.length_take]; rfl)) ?_; (with_reducible refine (slot_Pack.calls (wrap64 (a1 - 16)) t204 _ _ t205 t208 t209 _ ?side1 ?side2 A8.out).mono ?_); (case side1 => repeat (first | exact (Kd.R_reads' HO207.out).2.2 | (with_reducible refine Kd.C_alloc ?_ _) | (with_reducible refine Kd.C_drewN ?_ _) | (with_reducible refine Kd.C_drew ?_))); (case side2 => exact (Kd.R_reads' HO207.out).2.1); rintro e w18 ⟨rfl, hb⟩; refine ⟨_, rfl, ?_⟩; have n0_ := Aside0.mk (Kd.R_below (by (with_reducible repeat (first | apply Kd.R_alloc | apply Kd.R_drewN | apply Kd.R_drew)); exact HO207.out) hb); have n1_ := Aside0.mk (blk_below (g := gb201) (o := .cells #[.int .i64 a0_0, .int .i64 a0_1, .string a0_2, .slice A0_3 l0_3.length c0_3] 24 (0, 0)) (by (with_reducible repeat (first | refine blk_drewN ?_ _ | refine blk_drew ?_ | refine blk_alloc ?_ _)); exact BK201.out) hb); have n2_ := Aside0.mk (below_step (by repeat (first | (with_reducible first | exact HB.out | apply below_alloc | apply pw_below_drewN | apply below_drew1 | refine below_set ?_ GE201.out) | exact HB.out)) hb); clear HO207; clear BK201; clear HB; have HO207 := n0_; have BK201 := n1_; have HB := n2_; clear n0_ n1_ n2_; (try clear hb); (try clear hb2); (try clear hk); (try clear hi); have hcz19_0 : w18.cell? ⟨gb201, 0, none⟩ = some (.int .i64 a0_0) := (blk_cell BK201.out 0).trans rfl; have hcz19_1 : w18.cell? ⟨gb201, 1, none⟩ = some (.int .i64 a0_1) := (blk_cell BK201.out 1).trans rfl; have hcz19_2 : w18.cell? ⟨gb201, 2, none⟩ = some (.string a0_2) := (blk_cell BK201.out 2).trans rfl; have hcz19_3 : w18.cell? ⟨gb201, 3, none⟩ = some (.slice A0_3 l0_3.length c0_3) := (blk_cell BK201.out 3).trans rfl; have hfz19_0 := blk_frozen BK201.out 0; have hfz19_1 := blk_frozen BK201.out 1; have hfz19_2 := blk_frozen BK201.out 2; have hfz19_3 := blk_frozen BK201.out 3) | ((with_reducible refine gate_callee (f := 84) rfl ?_); refine goesL_ (some 43) rfl rfl Tryz.func84 (by kernel_rfl) rfl #[.agg #[.int .i64 2, .int .i64 0, .int .i64 (l0_3.length : Int), .int .i64 a0_1, .int .i64 a0_0], .string t208, .int .i64 a1] rfl (by (try simp only [List.map_toArray, List.map_cons, List.map_nil]); first | done | rfl | (simp only [List.length_drop, List.length_take]; rfl)) ?_; (with_reducible refine (head_Seal.calls 2 0 (l0_3.length : Int) a0_1 a0_0 t208 a1 t210 t211 _ A10.out).mono ?_); rintro e w20 ⟨rfl, hb⟩; refine ⟨_, rfl, ?_⟩; have n0_ := Aside0.mk (Kd.R_below (by (with_reducible repeat (first | apply Kd.R_alloc | apply Kd.R_drewN | apply Kd.R_drew)); exact HO207.out) hb); have n1_ := Aside0.mk (blk_below (g := gb201) (o := .cells #[.int .i64 a0_0, .int .i64 a0_1, .string a0_2, .slice A0_3 l0_3.length c0_3] 24 (0, 0)) (by (with_reducible repeat (first | refine blk_drewN ?_ _ | refine blk_drew ?_ | refine blk_alloc ?_ _)); exact BK201.out) hb); have n2_ := Aside0.mk (below_step (by repeat (first | (with_reducible first | exact HB.out | apply below_alloc | apply pw_below_drewN | apply below_drew1 | refine below_set ?_ GE201.out) | exact HB.out)) hb); clear HO207; clear BK201; clear HB; have HO207 := n0_; have BK201 := n1_; have HB := n2_; clear n0_ n1_ n2_; (try clear hb); (try clear hb2); (try clear hk); (try clear hi)))
        go_ret2
        exact ⟨by first | rfl | (simp [errW_none, errW_some] <;> rfl) | (simp [*, errW_none, errW_some] <;> rfl), by repeat (first | (with_reducible first | exact HB.out | apply below_alloc | apply pw_below_drewN | apply below_drew1 | refine below_set ?_ GE201.out) | exact HB.out)⟩
      · rw [if_neg c9] at H
        have c9b0 : (t209 == 0) = false := beq_eq_false_iff_ne.mpr c9
        have c9b1 : (t209 != 0) = true := bne_iff_ne.mpr c9
        simp only [Option.some.injEq, Prod.mk.injEq] at H
        obtain ⟨rfl, rfl⟩ := H
        go_enter Tryz.func42, Tryz.ntmps42
        go_wp2_with (first | ((with_reducible refine gate_dst (N := 2) rfl ?_); refine box_event ?hg (N := 2) ?hd (cs := #[.int .i64 a0_0, .int .i64 a0_1, .string a0_2, .slice A0_3 l0_3.length c0_3]) (t := 24) ?hr ?_; (case hd => rfl); (case hg => rfl); (case hr => first | (go_simp; done) | (go_simp; rfl)); intro gb201 hg w21 hbox hb; have n0_ := Aside0.mk (below_step (by repeat (first | (with_reducible first | exact HB.out | apply below_alloc | apply pw_below_drewN | apply below_drew1) | exact HB.out)) hb); have n1_ := Aside0.mk (hbox); have n2_ := Aside0.mk ((by rw [hg]; exact (below_size (by repeat (first | (with_reducible first | exact HB.out | apply below_alloc | apply pw_below_drewN | apply below_drew1) | exact HB.out))) : w.heap.size ≤ gb201)); have n3_ := Aside0.mk ((by rw [hg]; exact (below_size (by repeat (first | (with_reducible first | exact HB.out | apply below_alloc | apply pw_below_drewN | apply below_drew1) | exact HB.out))) : w.heap.size ≤ gb201)); clear HB; have HB := n0_; have BK201 := n1_; have GW201 := n2_; have GE201 := n3_; clear n0_ n1_ n2_ n3_; clear hb hbox hg) | ((with_reducible refine gate_callee (f := 83) rfl ?_); refine goesL_ (some 11) rfl rfl Tryz.func83 (by kernel_rfl) rfl #[.int .i64 a1] rfl (by (try simp only [List.map_toArray, List.map_cons, List.map_nil]); first | done | rfl | (simp only [List.length_drop, List.length_take]; rfl)) ?_; (with_reducible refine (disk_Size.calls a1 true _ A3.out).mono ?_); rintro e w22 ⟨rfl, hb⟩; refine ⟨_, rfl, ?_⟩; have n0_ := Aside0.mk (blk_below (g := gb201) (o := .cells #[.int .i64 a0_0, .int .i64 a0_1, .string a0_2, .slice A0_3 l0_3.length c0_3] 24 (0, 0)) (by (with_reducible repeat (first | refine blk_drewN ?_ _ | refine blk_drew ?_ | refine blk_alloc ?_ _)); exact BK201.out) hb); have n1_ := Aside0.mk (below_step (by repeat (first | (with_reducible first | exact HB.out | apply below_alloc | apply pw_below_drewN | apply below_drew1 | refine below_set ?_ GE201.out) | exact HB.out)) hb); clear BK201; clear HB; have BK201 := n0_; have HB := n1_; clear n0_ n1_; (try clear hb); (try clear hb2); (try clear hk); (try clear hi); have hcz23_0 : w22.cell? ⟨gb201, 0, none⟩ = some (.int .i64 a0_0) := (blk_cell BK201.out 0).trans rfl; have hcz23_1 : w22.cell? ⟨gb201, 1, none⟩ = some (.int .i64 a0_1) := (blk_cell BK201.out 1).trans rfl; have hcz23_2 : w22.cell? ⟨gb201, 2, none⟩ = some (.string a0_2) := (blk_cell BK201.out 2).trans rfl; have hcz23_3 : w22.cell? ⟨gb201, 3, none⟩ = some (.slice A0_3 l0_3.length c0_3) := (blk_cell BK201.out 3).trans rfl; have hfz23_0 := blk_frozen BK201.out 0; have hfz23_1 := blk_frozen BK201.out 1; have hfz23_2 := blk_frozen BK201.out 2; have hfz23_3 := blk_frozen BK201.out 3) | ((with_reducible refine gate_callee (f := 47) rfl ?_); refine goesL_ (some 15) rfl rfl Tryz.func47 (by kernel_rfl) rfl #[.agg #[.int .i64 a0_0, .int .i64 a0_1, .string a0_2, .slice A0_3 l0_3.length c0_3], .int .i64 a1] rfl (by (try simp only [List.map_toArray, List.map_cons, List.map_nil]); first | done | rfl | (simp only [List.length_drop, List.length_take]; rfl)) ?_; (with_reducible refine (leaf_May.calls a0_0 a0_1 a0_2 _ _ l0_3 a1 true _ ?side1 ?side2 A5.out).mono ?_); (case side1 => repeat (first | exact (Kd.C_below HR0_3.out HB.out) | (with_reducible refine Kd.C_alloc ?_ _) | (with_reducible refine Kd.C_drewN ?_ _) | (with_reducible refine Kd.C_drew ?_))); (case side2 => exact HC0_3.out); rintro e w24 ⟨rfl, hb⟩; refine ⟨_, rfl, ?_⟩; have n0_ := Aside0.mk (blk_below (g := gb201) (o := .cells #[.int .i64 a0_0, .int .i64 a0_1, .string a0_2, .slice A0_3 l0_3.length c0_3] 24 (0, 0)) (by (with_reducible repeat (first | refine blk_drewN ?_ _ | refine blk_drew ?_ | refine blk_alloc ?_ _)); exact BK201.out) hb); have n1_ := Aside0.mk (below_step (by repeat (first | (with_reducible first | exact HB.out | apply below_alloc | apply pw_below_drewN | apply below_drew1 | refine below_set ?_ GE201.out) | exact HB.out)) hb); clear BK201; clear HB; have BK201 := n0_; have HB := n1_; clear n0_ n1_; (try clear hb); (try clear hb2); (try clear hk); (try clear hi); have hcz25_0 : w24.cell? ⟨gb201, 0, none⟩ = some (.int .i64 a0_0) := (blk_cell BK201.out 0).trans rfl; have hcz25_1 : w24.cell? ⟨gb201, 1, none⟩ = some (.int .i64 a0_1) := (blk_cell BK201.out 1).trans rfl; have hcz25_2 : w24.cell? ⟨gb201, 2, none⟩ = some (.string a0_2) := (blk_cell BK201.out 2).trans rfl; have hcz25_3 : w24.cell? ⟨gb201, 3, none⟩ = some (.slice A0_3 l0_3.length c0_3) := (blk_cell BK201.out 3).trans rfl; have hfz25_0 := blk_frozen BK201.out 0; have hfz25_1 := blk_frozen BK201.out 1; have hfz25_2 := blk_frozen BK201.out 2; have hfz25_3 := blk_frozen BK201.out 3) | ((with_reducible refine gate_callee (f := 95) rfl ?_); refine goesL_ (some 19) rfl rfl Tryz.func95 (by kernel_rfl) rfl #[.agg #[.int .i64 a0_0, .int .i64 a0_1, .string a0_2, .slice A0_3 l0_3.length c0_3]] rfl (by (try simp only [List.map_toArray, List.map_cons, List.map_nil]); first | done | rfl | (simp only [List.length_drop, List.length_take]; rfl)) ?_; (with_reducible refine (leaf_parts.calls a0_0 a0_1 a0_2 _ _ l0_3 t204 t205 _ ?side1 ?side2 A7.out).mono ?_); (case side1 => repeat (first | exact (Kd.C_below HR0_3.out HB.out) | (with_reducible refine Kd.C_alloc ?_ _) | (with_reducible refine Kd.C_drewN ?_ _) | (with_reducible refine Kd.C_drew ?_))); (case side2 => exact HC0_3.out); rintro e w26 ⟨v206, rfl, ho0, hb⟩; refine ⟨_, rfl, ?_⟩; have n0_ := Aside0.mk (Kd.R_lower ho0 (below_size (by repeat (first | (with_reducible first | exact HB.out | apply below_alloc | apply pw_below_drewN | apply below_drew1 | refine below_set ?_ GE201.out) | exact HB.out)))); have n1_ := Aside0.mk (blk_below (g := gb201) (o := .cells #[.int .i64 a0_0, .int .i64 a0_1, .string a0_2, .slice A0_3 l0_3.length c0_3] 24 (0, 0)) (by (with_reducible repeat (first | refine blk_drewN ?_ _ | refine blk_drew ?_ | refine blk_alloc ?_ _)); exact BK201.out) hb); have n2_ := Aside0.mk (below_step (by repeat (first | (with_reducible first | exact HB.out | apply below_alloc | apply pw_below_drewN | apply below_drew1 | refine below_set ?_ GE201.out) | exact HB.out)) hb); clear BK201; clear HB; have HO207 := n0_; have BK201 := n1_; have HB := n2_; clear n0_ n1_ n2_; (try clear hb); (try clear hb2); (try clear hk); (try clear hi); (try clear ho0); obtain ⟨Ao27, co27, eo27⟩ := Kd.R_slice HO207.out; subst eo27) | ((with_reducible refine gate_callee (f := 96) rfl ?_); refine goesL_ (some 27) rfl rfl Tryz.func96 (by kernel_rfl) rfl #[.int .i64 (wrap64 (a1 - 16)), .string t204, .slice Ao27 t205.length co27] rfl (by (try simp only [List.map_toArray, List.map_cons, List.map_nil]); first | done | rfl | (simp only [List.length_drop, List.length_take]; rfl)) ?_; (with_reducible refine (slot_Pack.calls (wrap64 (a1 - 16)) t204 _ _ t205 t208 t209 _ ?side1 ?side2 A8.out).mono ?_); (case side1 => repeat (first | exact (Kd.R_reads' HO207.out).2.2 | (with_reducible refine Kd.C_alloc ?_ _) | (with_reducible refine Kd.C_drewN ?_ _) | (with_reducible refine Kd.C_drew ?_))); (case side2 => exact (Kd.R_reads' HO207.out).2.1); rintro e w28 ⟨rfl, hb⟩; refine ⟨_, rfl, ?_⟩; have n0_ := Aside0.mk (Kd.R_below (by (with_reducible repeat (first | apply Kd.R_alloc | apply Kd.R_drewN | apply Kd.R_drew)); exact HO207.out) hb); have n1_ := Aside0.mk (blk_below (g := gb201) (o := .cells #[.int .i64 a0_0, .int .i64 a0_1, .string a0_2, .slice A0_3 l0_3.length c0_3] 24 (0, 0)) (by (with_reducible repeat (first | refine blk_drewN ?_ _ | refine blk_drew ?_ | refine blk_alloc ?_ _)); exact BK201.out) hb); have n2_ := Aside0.mk (below_step (by repeat (first | (with_reducible first | exact HB.out | apply below_alloc | apply pw_below_drewN | apply below_drew1 | refine below_set ?_ GE201.out) | exact HB.out)) hb); clear HO207; clear BK201; clear HB; have HO207 := n0_; have BK201 := n1_; have HB := n2_; clear n0_ n1_ n2_; (try clear hb); (try clear hb2); (try clear hk); (try clear hi)))
        go_ret2
        exact ⟨by first | rfl | (simp [errW_none, errW_some] <;> rfl) | (simp [*, errW_none, errW_some] <;> rfl), by repeat (first | (with_reducible first | exact HB.out | apply below_alloc | apply pw_below_drewN | apply below_drew1 | refine below_set ?_ GE201.out) | exact HB.out)⟩
    · replace c6 := Bool.eq_false_iff.mpr c6
      subst c6
      have H1 : (some ((⟨#[]⟩ : ByteArray), 3)) = some (r1, r2) := by rw [if_neg (show ¬ (false = true) by decide)] at H; exact H
      clear H
      have H := H1
      clear H1
      simp only [Option.some.injEq, Prod.mk.injEq] at H
      obtain ⟨rfl, rfl⟩ := H
      go_enter Tryz.func42, Tryz.ntmps42
      go_wp2_with (first | ((with_reducible refine gate_dst (N := 2) rfl ?_); refine box_event ?hg (N := 2) ?hd (cs := #[.int .i64 a0_0, .int .i64 a0_1, .string a0_2, .slice A0_3 l0_3.length c0_3]) (t := 24) ?hr ?_; (case hd => rfl); (case hg => rfl); (case hr => first | (go_simp; done) | (go_simp; rfl)); intro gb201 hg w29 hbox hb; have n0_ := Aside0.mk (below_step (by repeat (first | (with_reducible first | exact HB.out | apply below_alloc | apply pw_below_drewN | apply below_drew1) | exact HB.out)) hb); have n1_ := Aside0.mk (hbox); have n2_ := Aside0.mk ((by rw [hg]; exact (below_size (by repeat (first | (with_reducible first | exact HB.out | apply below_alloc | apply pw_below_drewN | apply below_drew1) | exact HB.out))) : w.heap.size ≤ gb201)); have n3_ := Aside0.mk ((by rw [hg]; exact (below_size (by repeat (first | (with_reducible first | exact HB.out | apply below_alloc | apply pw_below_drewN | apply below_drew1) | exact HB.out))) : w.heap.size ≤ gb201)); clear HB; have HB := n0_; have BK201 := n1_; have GW201 := n2_; have GE201 := n3_; clear n0_ n1_ n2_ n3_; clear hb hbox hg) | ((with_reducible refine gate_callee (f := 83) rfl ?_); refine goesL_ (some 11) rfl rfl Tryz.func83 (by kernel_rfl) rfl #[.int .i64 a1] rfl (by (try simp only [List.map_toArray, List.map_cons, List.map_nil]); first | done | rfl | (simp only [List.length_drop, List.length_take]; rfl)) ?_; (with_reducible refine (disk_Size.calls a1 true _ A3.out).mono ?_); rintro e w30 ⟨rfl, hb⟩; refine ⟨_, rfl, ?_⟩; have n0_ := Aside0.mk (blk_below (g := gb201) (o := .cells #[.int .i64 a0_0, .int .i64 a0_1, .string a0_2, .slice A0_3 l0_3.length c0_3] 24 (0, 0)) (by (with_reducible repeat (first | refine blk_drewN ?_ _ | refine blk_drew ?_ | refine blk_alloc ?_ _)); exact BK201.out) hb); have n1_ := Aside0.mk (below_step (by repeat (first | (with_reducible first | exact HB.out | apply below_alloc | apply pw_below_drewN | apply below_drew1 | refine below_set ?_ GE201.out) | exact HB.out)) hb); clear BK201; clear HB; have BK201 := n0_; have HB := n1_; clear n0_ n1_; (try clear hb); (try clear hb2); (try clear hk); (try clear hi); have hcz31_0 : w30.cell? ⟨gb201, 0, none⟩ = some (.int .i64 a0_0) := (blk_cell BK201.out 0).trans rfl; have hcz31_1 : w30.cell? ⟨gb201, 1, none⟩ = some (.int .i64 a0_1) := (blk_cell BK201.out 1).trans rfl; have hcz31_2 : w30.cell? ⟨gb201, 2, none⟩ = some (.string a0_2) := (blk_cell BK201.out 2).trans rfl; have hcz31_3 : w30.cell? ⟨gb201, 3, none⟩ = some (.slice A0_3 l0_3.length c0_3) := (blk_cell BK201.out 3).trans rfl; have hfz31_0 := blk_frozen BK201.out 0; have hfz31_1 := blk_frozen BK201.out 1; have hfz31_2 := blk_frozen BK201.out 2; have hfz31_3 := blk_frozen BK201.out 3) | ((with_reducible refine gate_callee (f := 47) rfl ?_); refine goesL_ (some 15) rfl rfl Tryz.func47 (by kernel_rfl) rfl #[.agg #[.int .i64 a0_0, .int .i64 a0_1, .string a0_2, .slice A0_3 l0_3.length c0_3], .int .i64 a1] rfl (by (try simp only [List.map_toArray, List.map_cons, List.map_nil]); first | done | rfl | (simp only [List.length_drop, List.length_take]; rfl)) ?_; (with_reducible refine (leaf_May.calls a0_0 a0_1 a0_2 _ _ l0_3 a1 false _ ?side1 ?side2 A5.out).mono ?_); (case side1 => repeat (first | exact (Kd.C_below HR0_3.out HB.out) | (with_reducible refine Kd.C_alloc ?_ _) | (with_reducible refine Kd.C_drewN ?_ _) | (with_reducible refine Kd.C_drew ?_))); (case side2 => exact HC0_3.out); rintro e w32 ⟨rfl, hb⟩; refine ⟨_, rfl, ?_⟩; have n0_ := Aside0.mk (blk_below (g := gb201) (o := .cells #[.int .i64 a0_0, .int .i64 a0_1, .string a0_2, .slice A0_3 l0_3.length c0_3] 24 (0, 0)) (by (with_reducible repeat (first | refine blk_drewN ?_ _ | refine blk_drew ?_ | refine blk_alloc ?_ _)); exact BK201.out) hb); have n1_ := Aside0.mk (below_step (by repeat (first | (with_reducible first | exact HB.out | apply below_alloc | apply pw_below_drewN | apply below_drew1 | refine below_set ?_ GE201.out) | exact HB.out)) hb); clear BK201; clear HB; have BK201 := n0_; have HB := n1_; clear n0_ n1_; (try clear hb); (try clear hb2); (try clear hk); (try clear hi)))
      go_ret2
      exact ⟨by first | rfl | (simp [errW_none, errW_some] <;> rfl) | (simp [*, errW_none, errW_some] <;> rfl), by repeat (first | (with_reducible first | exact HB.out | apply below_alloc | apply pw_below_drewN | apply below_drew1 | refine below_set ?_ GE201.out) | exact HB.out)⟩
  · replace c4 := Bool.eq_false_iff.mpr c4
    subst c4
    have H1 : (some ((⟨#[]⟩ : ByteArray), 4)) = some (r1, r2) := by rw [if_neg (show ¬ (false = true) by decide)] at H; exact H
    clear H
    have H := H1
    clear H1
    simp only [Option.some.injEq, Prod.mk.injEq] at H
    obtain ⟨rfl, rfl⟩ := H
    go_enter Tryz.func42, Tryz.ntmps42
    go_wp2_with (first | ((with_reducible refine gate_dst (N := 2) rfl ?_); refine box_event ?hg (N := 2) ?hd (cs := #[.int .i64 a0_0, .int .i64 a0_1, .string a0_2, .slice A0_3 l0_3.length c0_3]) (t := 24) ?hr ?_; (case hd => rfl); (case hg => rfl); (case hr => first | (go_simp; done) | (go_simp; rfl)); intro gb201 hg w33 hbox hb; have n0_ := Aside0.mk (below_step (by repeat (first | (with_reducible first | exact HB.out | apply below_alloc | apply pw_below_drewN | apply below_drew1) | exact HB.out)) hb); have n1_ := Aside0.mk (hbox); have n2_ := Aside0.mk ((by rw [hg]; exact (below_size (by repeat (first | (with_reducible first | exact HB.out | apply below_alloc | apply pw_below_drewN | apply below_drew1) | exact HB.out))) : w.heap.size ≤ gb201)); have n3_ := Aside0.mk ((by rw [hg]; exact (below_size (by repeat (first | (with_reducible first | exact HB.out | apply below_alloc | apply pw_below_drewN | apply below_drew1) | exact HB.out))) : w.heap.size ≤ gb201)); clear HB; have HB := n0_; have BK201 := n1_; have GW201 := n2_; have GE201 := n3_; clear n0_ n1_ n2_ n3_; clear hb hbox hg) | ((with_reducible refine gate_callee (f := 83) rfl ?_); refine goesL_ (some 11) rfl rfl Tryz.func83 (by kernel_rfl) rfl #[.int .i64 a1] rfl (by (try simp only [List.map_toArray, List.map_cons, List.map_nil]); first | done | rfl | (simp only [List.length_drop, List.length_take]; rfl)) ?_; (with_reducible refine (disk_Size.calls a1 false _ A3.out).mono ?_); rintro e w34 ⟨rfl, hb⟩; refine ⟨_, rfl, ?_⟩; have n0_ := Aside0.mk (blk_below (g := gb201) (o := .cells #[.int .i64 a0_0, .int .i64 a0_1, .string a0_2, .slice A0_3 l0_3.length c0_3] 24 (0, 0)) (by (with_reducible repeat (first | refine blk_drewN ?_ _ | refine blk_drew ?_ | refine blk_alloc ?_ _)); exact BK201.out) hb); have n1_ := Aside0.mk (below_step (by repeat (first | (with_reducible first | exact HB.out | apply below_alloc | apply pw_below_drewN | apply below_drew1 | refine below_set ?_ GE201.out) | exact HB.out)) hb); clear BK201; clear HB; have BK201 := n0_; have HB := n1_; clear n0_ n1_; (try clear hb); (try clear hb2); (try clear hk); (try clear hi)))
    go_ret2
    exact ⟨by first | rfl | (simp [errW_none, errW_some] <;> rfl) | (simp [*, errW_none, errW_some] <;> rfl), by repeat (first | (with_reducible first | exact HB.out | apply below_alloc | apply pw_below_drewN | apply below_drew1 | refine below_set ?_ GE201.out) | exact HB.out)⟩

end Go.Proofs.YtmheajenlhlbhaaGreatDoor.X


namespace Go.Proofs.YtmheajenlhlbhaaGreatDoor.X
open Go.RowKit Go.Proofs.YtmheajenlhlbhaaGreatDoorW.PrintWords Go.Proofs.YtmheajenlhlbhaaGreatDoorW.PrintLast Go.Proofs.YtmheajenlhlbhaaGreatDoorW.PrintMore
attribute [local go_sem] max2_int min2_int max_two min_two max_three min_three max_four min_four   -- for this text's walks alone
set_option linter.unusedVariables false
set_option linter.unusedSimpArgs false

def leaf_Decode.f (s : ByteArray) : Option (Int × Int × ByteArray × List S32 × Int) :=
  (head_Open.f 20 s).bind fun o => if o.2.2.2.2.2.2 ≠ 0 ∨ o.1 ≠ 2 then some (0, 0, ⟨#[]⟩, [], 3) else
    (leaf_items.f 20 o.2.2.2.2.2.1 o.2.2.1).bind fun z => if z.2.2 = true then some (0, 0, ⟨#[]⟩, [], 3) else
      (leaf_Encode.f o.2.2.2.2.1 o.2.2.2.1 z.2.1 z.1 s.size).bind fun t => if t.2 ≠ 0 ∨ t.1.toList ≠ s.toList then some (0, 0, ⟨#[]⟩, [], 3) else some (o.2.2.2.2.1, o.2.2.2.1, z.2.1, z.1, 0)
theorem leaf_zero_end {w W : World} (hL : Below w.heap.size w W) {a b c d : Value} : Below w.heap.size w ((((W.setCell ⟨w.heap.size, 0, none⟩ a).setCell ⟨w.heap.size, 1, none⟩ b).setCell ⟨w.heap.size, 2, none⟩ c).setCell ⟨w.heap.size, 3, none⟩ d) :=
  below_set (below_set (below_set (below_set hL (Nat.le_refl _)) (Nat.le_refl _)) (Nat.le_refl _)) (Nat.le_refl _)
theorem dec_open {w w1 : World} (kind lev cnt right self : Int) (h1 : Below (w.alloc (.cells #[.int .i64 0, .int .i64 0, .string ⟨#[]⟩, .slice none 0 0] 24)).heap.size (w.alloc (.cells #[.int .i64 0, .int .i64 0, .string ⟨#[]⟩, .slice none 0 0] 24)) w1) :
    Block (w1.alloc (.cells #[.int .i64 kind, .int .i64 lev, .int .i64 cnt, .int .i64 right, .int .i64 self] 82)) w.heap.size 24 #[.int .i64 0, .int .i64 0, .string ⟨#[]⟩, .slice none 0 0] ∧ Block (w1.alloc (.cells #[.int .i64 kind, .int .i64 lev, .int .i64 cnt, .int .i64 right, .int .i64 self] 82)) w1.heap.size 82 #[.int .i64 kind, .int .i64 lev, .int .i64 cnt, .int .i64 right, .int .i64 self] ∧ Below w.heap.size w (w1.alloc (.cells #[.int .i64 kind, .int .i64 lev, .int .i64 cnt, .int .i64 right, .int .i64 self] 82)) := by
  have hX : Block (w.alloc (.cells #[.int .i64 0, .int .i64 0, .string ⟨#[]⟩, .slice none 0 0] 24)) w.heap.size 24 #[.int .i64 0, .int .i64 0, .string ⟨#[]⟩, .slice none 0 0] := World.alloc_heap_new w _
  exact ⟨hX.below (below_alloc h1 _) (by simp), World.alloc_heap_new w1 _, below_step (below_alloc (Below.refl w.heap.size w) _) (below_alloc h1 _)⟩
theorem As_leafErr (v : Value) (b : Bool) (x0 : Value) (B : Nat) (w : World) (hg : GlobE w) (hB : Block w B 90 #[x0]) (hv : LeafErr w v b) :
    Calls Tryz.prog 41 #[v, .iface 92 (.pointer (some ⟨B, 0, none⟩))] w fun e w' => e = .returned (.bool b) ∧ Kept w.heap.size (· = B) w w' := by
  cases hv with
  | nil => exact (As_nil B w).mono fun e w' ⟨h1, h2⟩ => ⟨h1, by rw [h2]; exact Kept.refl _ _ _⟩
  | fault s => exact (As_hit s x0 B w hg hB).mono fun e w' ⟨h1, h2, h3⟩ => ⟨h1, h3⟩
  | join _ s h => exact (As_join v s x0 B w hg hB h).mono fun e w' ⟨h1, h2, h3⟩ => ⟨h1, h3⟩
set_option maxRecDepth 100000 in
set_option maxHeartbeats 4000000 in
theorem leaf_Decode.calls (s : ByteArray) (r1 r2 : Int) (r3 : ByteArray) (r4 : List S32) (r5 : Int) (w : World) (h : leaf_Decode.f s = some (r1, r2, r3, r4, r5)) (hg : GlobE w) :
    Calls Tryz.prog 11 #[.string s] w fun e w' => ∃ v3_ : Value, e = .returned (.tuple #[.agg #[.int .i64 r1, .int .i64 r2, .string r3, v3_], .int .i64 r5]) ∧ Kd.R k32 32 w' w.heap.size (fun _ => True) v3_ r4 ∧ Below w.heap.size w w' := by
  unfold leaf_Decode.f at h
  obtain ⟨⟨kind, lev, cnt, right, self, body, e0⟩, ho, h⟩ := Option.bind_eq_some_iff.mp h
  dsimp only at h
  have HO := Aside0.mk ho
  have HG := Aside0.mk hg
  clear ho hg
  by_cases hk : e0 ≠ 0 ∨ kind ≠ 2
  · rw [if_pos hk] at h
    simp only [Option.some.injEq, Prod.mk.injEq] at h
    obtain ⟨rfl, rfl, rfl, rfl, rfl⟩ := h
    have hd : (e0 != 0) = true ∨ ((e0 != 0) = false ∧ (kind != 2) = true) := by
      by_cases c : e0 = 0
      · exact .inr ⟨by simp [c], by simpa [c] using hk⟩
      · exact .inl (by simpa using c)
    clear hk
    rcases hd with d1 | ⟨d1, d2⟩
    all_goals
      go_enter Tryz.func11, Tryz.ntmps11
      go_wp2_with (first | (go_at_call 39; ((with_reducible refine (head_Open.calls 20 s kind lev cnt right self body e0 _ HO.out).mono ?_); rintro e w1 ⟨rfl, h1⟩; obtain ⟨hx1, hh1, hb1⟩ := dec_open kind lev cnt right self h1; have HX1 := Aside0.mk hx1; have HH1 := Aside0.mk hh1; have HB1 := Aside0.mk hb1; clear h1 hx1 hh1 hb1; have q0 := HX1.out.cell 0 (by simp); have q1 := HX1.out.cell 1 (by simp); have q2 := HX1.out.cell 2 (by simp); have q3 := HX1.out.cell 3 (by simp); have f0 := HX1.out.frozen 0; have f1 := HX1.out.frozen 1; have f2 := HX1.out.frozen 2; have f3 := HX1.out.frozen 3)))
      refine bodyPost_ret (v := .tuple #[.agg #[.int .i64 0, .int .i64 0, .string ⟨#[]⟩, .slice none 0 0], .int .i64 3]) (by simp [results, Tryz.results11, go_sem, q0, q1, q2, q3, f0, f1, f2, f3]) rfl ⟨_, rfl, Kd.R_nil _ _ _ _ _, leaf_zero_end HB1.out⟩
  · rw [if_neg hk] at h
    have d1 : (e0 != 0) = false := by
      by_cases c : e0 = 0
      · simp [c]
      · exact absurd (.inl c) hk
    have d2 : (kind != 2) = false := by
      by_cases c : kind = 2
      · simp [c]
      · exact absurd (.inr c) hk
    clear hk
    obtain ⟨⟨l, high, er⟩, hi, h⟩ := Option.bind_eq_some_iff.mp h
    dsimp only at h
    have HI := Aside0.mk hi
    clear hi
    cases er with
    | true =>
      rw [if_pos rfl] at h
      simp only [Option.some.injEq, Prod.mk.injEq] at h
      obtain ⟨rfl, rfl, rfl, rfl, rfl⟩ := h
      go_enter Tryz.func11, Tryz.ntmps11
      go_wp2_with (first | (go_at_call 39; ((with_reducible refine (head_Open.calls 20 s kind lev cnt right self body e0 _ HO.out).mono ?_); rintro e w1 ⟨rfl, h1⟩; obtain ⟨hx1, hh1, hb1⟩ := dec_open kind lev cnt right self h1; have HX1 := Aside0.mk hx1; have HH1 := Aside0.mk hh1; have HB1 := Aside0.mk hb1; clear h1 hx1 hh1 hb1; have q0 := HX1.out.cell 0 (by simp); have q1 := HX1.out.cell 1 (by simp); have q2 := HX1.out.cell 2 (by simp); have q3 := HX1.out.cell 3 (by simp); have f0 := HX1.out.frozen 0; have f1 := HX1.out.frozen 1; have f2 := HX1.out.frozen 2; have f3 := HX1.out.frozen 3)) | (go_at_call 40; ((with_reducible refine (leaf_items.calls 20 body cnt l high _ _ HI.out).mono ?_); rintro e w2 ⟨v0, ve, rfl, hR, hE, hb2⟩; have HR2 := Aside0.mk hR; have HE2 := Aside0.mk hE; have HB2 := Aside0.mk (below_step HB1.out hb2); have HX2 := Aside0.mk (HX1.out.below hb2 HX1.out.lt); have HH2 := Aside0.mk (HH1.out.below hb2 HH1.out.lt); have hlow := below_size HB1.out; clear hR hE hb2; clear q0 q1 q2 q3 f0 f1 f2 f3)) | (go_at_call 41; refine (As_leafErr ve _ (.string ⟨#[]⟩) w2.heap.size _ (HG.out.below (below_alloc HB2.out (.cells #[.string ⟨#[]⟩] 90))) (World.alloc_heap_new w2 _) (HE2.out.below (below_alloc (Below.refl _ _) _))).mono ?_; rintro e w3 ⟨rfl, hk3⟩; have hb3 := (below_alloc (Below.refl w2.heap.size w2) (.cells #[.string ⟨#[]⟩] 90)).trans ((hk3.mono (Nat.le_of_lt (by simp)) (fun _ x => x)).below (fun q hq => (by omega))); have HX3 := Aside0.mk (HX2.out.below hb3 HX2.out.lt); have HH3 := Aside0.mk (HH2.out.below hb3 HH2.out.lt); have HR3 := Aside0.mk (Kd.R_below HR2.out hb3); have HB3 := Aside0.mk (below_step HB2.out hb3); clear hb3 hk3; have q0 := HX3.out.cell 0 (by simp); have q1 := HX3.out.cell 1 (by simp); have q2 := HX3.out.cell 2 (by simp); have q3 := HX3.out.cell 3 (by simp); have f0 := HX3.out.frozen 0; have f1 := HX3.out.frozen 1; have f2 := HX3.out.frozen 2; have f3 := HX3.out.frozen 3; have hq0 := HH3.out.cell 0 (by simp); have hq1 := HH3.out.cell 1 (by simp); have hq2 := HH3.out.cell 2 (by simp); have hq3 := HH3.out.cell 3 (by simp); have hq4 := HH3.out.cell 4 (by simp); have hf0 := HH3.out.frozen 0; have hf1 := HH3.out.frozen 1; have hf2 := HH3.out.frozen 2; have hf3 := HH3.out.frozen 3; have hf4 := HH3.out.frozen 4))
      refine bodyPost_ret (v := .tuple #[.agg #[.int .i64 0, .int .i64 0, .string ⟨#[]⟩, .slice none 0 0], .int .i64 3]) (by simp [results, Tryz.results11, go_sem, q0, q1, q2, q3, f0, f1, f2, f3]) rfl ⟨_, rfl, Kd.R_nil _ _ _ _ _, leaf_zero_end HB3.out⟩
    | false =>
      rw [if_neg (by decide)] at h
      obtain ⟨⟨t, te⟩, ht, h⟩ := Option.bind_eq_some_iff.mp h
      have HT := Aside0.mk ht
      dsimp only at h
      have hcs : ((te != 0) = true ∧ r1 = 0 ∧ r2 = 0 ∧ r3 = ⟨#[]⟩ ∧ r4 = [] ∧ r5 = 3) ∨ ((te != 0) = false ∧ (t.toList == s.toList) = false ∧ r1 = 0 ∧ r2 = 0 ∧ r3 = ⟨#[]⟩ ∧ r4 = [] ∧ r5 = 3) ∨ ((te != 0) = false ∧ (t.toList == s.toList) = true ∧ self = r1 ∧ right = r2 ∧ high = r3 ∧ l = r4 ∧ r5 = 0) := by
        by_cases he : te = 0
        · by_cases hu : t.toList = s.toList
          · rw [if_neg (by simp [he, hu])] at h
            simp only [Option.some.injEq, Prod.mk.injEq] at h
            exact .inr (.inr ⟨by simp [he], by simp [hu], h.1, h.2.1, h.2.2.1, h.2.2.2.1, h.2.2.2.2.symm⟩)
          · rw [if_pos (.inr hu)] at h
            simp only [Option.some.injEq, Prod.mk.injEq] at h
            exact .inr (.inl ⟨by simp [he], by simpa using hu, h.1.symm, h.2.1.symm, h.2.2.1.symm, h.2.2.2.1.symm, h.2.2.2.2.symm⟩)
        · rw [if_pos (.inl he)] at h
          simp only [Option.some.injEq, Prod.mk.injEq] at h
          exact .inl ⟨by simpa using he, h.1.symm, h.2.1.symm, h.2.2.1.symm, h.2.2.2.1.symm, h.2.2.2.2.symm⟩
      clear h ht
      rcases hcs with ⟨g1, rfl, rfl, rfl, rfl, rfl⟩ | ⟨g1, g2, rfl, rfl, rfl, rfl, rfl⟩ | ⟨g1, g2, rfl, rfl, rfl, rfl, rfl⟩
      all_goals
        go_enter Tryz.func11, Tryz.ntmps11
        go_wp2_with (first | (go_at_call 39; ((with_reducible refine (head_Open.calls 20 s kind lev cnt right self body e0 _ HO.out).mono ?_); rintro e w1 ⟨rfl, h1⟩; obtain ⟨hx1, hh1, hb1⟩ := dec_open kind lev cnt right self h1; have HX1 := Aside0.mk hx1; have HH1 := Aside0.mk hh1; have HB1 := Aside0.mk hb1; clear h1 hx1 hh1 hb1; have q0 := HX1.out.cell 0 (by simp); have q1 := HX1.out.cell 1 (by simp); have q2 := HX1.out.cell 2 (by simp); have q3 := HX1.out.cell 3 (by simp); have f0 := HX1.out.frozen 0; have f1 := HX1.out.frozen 1; have f2 := HX1.out.frozen 2; have f3 := HX1.out.frozen 3)) | (go_at_call 40; ((with_reducible refine (leaf_items.calls 20 body cnt l high _ _ HI.out).mono ?_); rintro e w2 ⟨v0, ve, rfl, hR, hE, hb2⟩; obtain ⟨A0, c0, rfl⟩ := Kd.R_slice hR; have HR2 := Aside0.mk hR; have HE2 := Aside0.mk hE; have HB2 := Aside0.mk (below_step HB1.out hb2); have HX2 := Aside0.mk (HX1.out.below hb2 HX1.out.lt); have HH2 := Aside0.mk (HH1.out.below hb2 HH1.out.lt); have hlow := below_size HB1.out; clear hR hE hb2; clear q0 q1 q2 q3 f0 f1 f2 f3)) | (go_at_call 41; refine (As_leafErr ve _ (.string ⟨#[]⟩) w2.heap.size _ (HG.out.below (below_alloc HB2.out (.cells #[.string ⟨#[]⟩] 90))) (World.alloc_heap_new w2 _) (HE2.out.below (below_alloc (Below.refl _ _) _))).mono ?_; rintro e w3 ⟨rfl, hk3⟩; have hb3 := (below_alloc (Below.refl w2.heap.size w2) (.cells #[.string ⟨#[]⟩] 90)).trans ((hk3.mono (Nat.le_of_lt (by simp)) (fun _ x => x)).below (fun q hq => (by omega))); have HX3 := Aside0.mk (HX2.out.below hb3 HX2.out.lt); have HH3 := Aside0.mk (HH2.out.below hb3 HH2.out.lt); have HR3 := Aside0.mk (Kd.R_below HR2.out hb3); have HB3 := Aside0.mk (below_step HB2.out hb3); clear hb3 hk3; have q0 := HX3.out.cell 0 (by simp); have q1 := HX3.out.cell 1 (by simp); have q2 := HX3.out.cell 2 (by simp); have q3 := HX3.out.cell 3 (by simp); have f0 := HX3.out.frozen 0; have f1 := HX3.out.frozen 1; have f2 := HX3.out.frozen 2; have f3 := HX3.out.frozen 3; have hq0 := HH3.out.cell 0 (by simp); have hq1 := HH3.out.cell 1 (by simp); have hq2 := HH3.out.cell 2 (by simp); have hq3 := HH3.out.cell 3 (by simp); have hq4 := HH3.out.cell 4 (by simp); have hf0 := HH3.out.frozen 0; have hf1 := HH3.out.frozen 1; have hf2 := HH3.out.frozen 2; have hf3 := HH3.out.frozen 3; have hf4 := HH3.out.frozen 4) | (go_at_call 42; ((with_reducible refine (leaf_Encode.calls _ _ _ A0 c0 _ s.size t te _ (Kd.C_below (Kd.R_reads' HR3.out).2.2 (below_alloc (Below.refl _ _) _)) (Kd.R_reads' HR3.out).2.1 HT.out).mono ?_); rintro e w4 ⟨rfl, h4⟩; have HY4 := Aside0.mk (Block.below (World.alloc_heap_new w3 _) h4 (by simp)); have hb4 := below_step (below_alloc (Below.refl w3.heap.size w3) _) h4; have HX4 := Aside0.mk (HX3.out.below hb4 HX3.out.lt); have HR4 := Aside0.mk (Kd.R_below HR3.out hb4); have HB4 := Aside0.mk (below_step HB3.out hb4); clear h4 hb4; clear q0 q1 q2 q3 f0 f1 f2 f3; clear hq0 hq1 hq2 hq3 hq4 hf0 hf1 hf2 hf3 hf4; have q0 := HX4.out.cell 0 (by simp); have q1 := HX4.out.cell 1 (by simp); have q2 := HX4.out.cell 2 (by simp); have q3 := HX4.out.cell 3 (by simp); have f0 := HX4.out.frozen 0; have f1 := HX4.out.frozen 1; have f2 := HX4.out.frozen 2; have f3 := HX4.out.frozen 3; have yq0 := HY4.out.cell 0 (by simp); have yq1 := HY4.out.cell 1 (by simp); have yq2 := HY4.out.cell 2 (by simp); have yq3 := HY4.out.cell 3 (by simp); have yf0 := HY4.out.frozen 0; have yf1 := HY4.out.frozen 1; have yf2 := HY4.out.frozen 2; have yf3 := HY4.out.frozen 3)))
        first
          | refine bodyPost_ret (v := .tuple #[.agg #[.int .i64 0, .int .i64 0, .string ⟨#[]⟩, .slice none 0 0], .int .i64 3]) (by simp [results, Tryz.results11, go_sem, q0, q1, q2, q3, f0, f1, f2, f3]) rfl ⟨_, rfl, Kd.R_nil _ _ _ _ _, leaf_zero_end HB4.out⟩
          | (refine bodyPost_ret (v := .tuple #[.agg #[.int .i64 self, .int .i64 right, .string high, .slice A0 l.length c0], .int .i64 0]) (by simp [results, Tryz.results11, go_sem, q0, q1, q2, q3, f0, f1, f2, f3]) rfl ⟨_, rfl, Kd.R_lower (R_high HR4.out (fun k' hk1 hk2 => (((((Kept.refl _ (· = w.heap.size) w4).set _ _ (.inl rfl)).set _ _ (.inl rfl)).set _ _ (.inl rfl)).set _ _ (.inl rfl)).block k' hk2 (by have := HX1.out.lt; omega))) (Nat.le_of_lt HX1.out.lt), leaf_zero_end HB4.out⟩)
theorem u64_range (x : Int) : 0 ≤ IntKind.u64.wrap x ∧ IntKind.u64.wrap x < 18446744073709551616 := by
  simp only [IntKind.wrap, IntKind.signed, IntKind.bits]
  constructor
  · exact Int.emod_nonneg _ (by decide)
  · exact Int.emod_lt_of_pos _ (by decide)
theorem put_some (n : Int) (h : 0 ≤ n ∧ n < 18446744073709551616) : ∃ b, word_Put.f n = some b := ⟨_, by unfold word_Put.f; rw [if_pos h]⟩
theorem more_total (c : Int) (h : 0 ≤ c ∧ c ≤ 255) : ∃ m, word_more.f c = some m ∧ 0 ≤ m ∧ m ≤ 8 := by
  unfold word_more.f
  by_cases h1 : c > 249
  · rw [if_pos h1, wrap64_id (n := c) (by omega) (by omega), wrap64_id (by omega) (by omega)]
    exact ⟨_, rfl, by omega, by omega⟩
  · rw [if_neg h1]
    by_cases h2 : c = 249
    · rw [if_pos h2]; exact ⟨_, rfl, by omega, by omega⟩
    · rw [if_neg h2]
      by_cases h3 : c ≥ 241
      · rw [if_pos h3]; exact ⟨_, rfl, by omega, by omega⟩
      · rw [if_neg h3]; exact ⟨_, rfl, by omega, by omega⟩
theorem get_l0 (s : ByteArray) (a m : Int) (hs : s.size ≤ 1000000) (ha : 0 ≤ a ∧ a < s.size) (hm : 0 ≤ m ∧ m ≤ 8) (hb : a + 1 + m ≤ s.size) (d : Nat) : ∀ (k : Nat) (n i : Int), i + d = m → 0 ≤ i → d < k → (0 ≤ n ∧ n < 18446744073709551616) →
    ∃ r t e, word_Get.l0 k s a m n m i = some (r, t, e) ∧ (e = 0 → 0 ≤ r ∧ 0 ≤ t ∧ t ≤ s.size) := by
  induction d with
  | zero =>
    intro k n i h1 h2 hk hn
    obtain ⟨k, rfl⟩ : ∃ x, k = x + 1 := ⟨k - 1, by omega⟩
    simp only [word_Get.l0]
    have e1 : wrap64 (wrap64 (a + 1) + m) = a + 1 + m := by rw [wrap64_id (n := a + 1) (by omega) (by omega), wrap64_id (by omega) (by omega)]
    rw [if_neg (by omega), if_pos ha.1, if_pos ha.2, e1]
    have fin : ∀ v : Int, (0 ≤ v ∧ v < 18446744073709551616) → ∃ r t e, ((word_Put.f v).bind fun t146 => (if a ≤ a + 1 + m then (if a + 1 + m ≤ (s.size : Int) then (if t146.toList = (s.extract a.toNat (a + 1 + m).toNat).toList then (some (v, a + 1 + m, (0 : Int))) else (some (0, 0, 3))) else none) else none)) = some (r, t, e) ∧ (e = 0 → 0 ≤ r ∧ 0 ≤ t ∧ t ≤ s.size) := by
      intro v hv
      obtain ⟨b, hb2⟩ := put_some v hv
      rw [hb2]
      simp only [Option.bind_some]
      rw [if_pos (by omega), if_pos hb]
      by_cases hq : b.toList = (s.extract a.toNat (a + 1 + m).toNat).toList
      · rw [if_pos hq]
        exact ⟨_, _, _, rfl, fun _ => ⟨hv.1, by omega, hb⟩⟩
      · rw [if_neg hq]
        exact ⟨_, _, _, rfl, fun h => by simp at h⟩
    by_cases c0 : m = 0
    · rw [if_pos c0]; exact fin _ (u64_range _)
    · rw [if_neg c0]
      by_cases c1 : m = 1
      · rw [if_pos c1]; exact fin _ (u64_range _)
      · rw [if_neg c1]
        by_cases c2 : m = 2
        · rw [if_pos c2]; exact fin _ (u64_range _)
        · rw [if_neg c2]; exact fin _ hn
  | succ d ih =>
    intro k n i h1 h2 hk hn
    obtain ⟨k, rfl⟩ : ∃ x, k = x + 1 := ⟨k - 1, by omega⟩
    simp only [word_Get.l0]
    have e1 : wrap64 (wrap64 (a + 1) + i) = a + 1 + i := by rw [wrap64_id (n := a + 1) (by omega) (by omega), wrap64_id (by omega) (by omega)]
    rw [if_pos (by omega), e1, if_pos (by omega), if_pos (by omega), wrap64_id (n := i + 1) (by omega) (by omega)]
    refine ih k _ (i + 1) (by omega) (by omega) (by omega) ?_
    have := bits_within .or .u64 (IntKind.u64.wrap (n * 256)) (IntKind.u64.wrap (bt s (a + 1 + i)))
    simp [IntKind.min, IntKind.max, IntKind.signed, IntKind.bits] at this
    omega
theorem get_total (s : ByteArray) (a : Int) (hs : s.size ≤ 1000000) : ∃ r t e, word_Get.f 20 s a = some (r, t, e) ∧ (e = 0 → 0 ≤ r ∧ 0 ≤ t ∧ t ≤ s.size) := by
  unfold word_Get.f
  by_cases h1 : a < 0
  · rw [if_pos h1]
    simp only [word_Get.j0]
    exact ⟨_, _, _, rfl, fun h => by simp at h⟩
  · rw [if_neg h1]
    by_cases h2 : a > (s.size : Int)
    · rw [decide_eq_true h2]
      simp only [word_Get.j0]
      exact ⟨_, _, _, rfl, fun h => by simp at h⟩
    · rw [decide_eq_false h2]
      simp only [word_Get.j0]
      rw [if_neg (by decide)]
      by_cases h3 : a = (s.size : Int)
      · rw [if_pos h3]
        simp only [word_Get.j1]
        exact ⟨_, _, _, rfl, fun h => by simp at h⟩
      · rw [if_neg h3, if_pos (by omega), if_pos (by omega)]
        obtain ⟨m, hm, hm0, hm8⟩ := more_total (bt s a) (bt_range s a)
        rw [hm]
        simp only [Option.bind_some]
        have e1 : wrap64 (wrap64 ((s.size : Int) - a) - 1) = s.size - a - 1 := by rw [wrap64_id (n := (s.size : Int) - a) (by omega) (by omega), wrap64_id (by omega) (by omega)]
        rw [e1]
        by_cases h4 : (s.size : Int) - a - 1 < m
        · rw [decide_eq_true h4]
          simp only [word_Get.j1]
          exact ⟨_, _, _, rfl, fun h => by simp at h⟩
        · rw [decide_eq_false h4]
          simp only [word_Get.j1]
          rw [if_neg (by decide), if_pos (by omega), if_pos (by omega), hm]
          simp only [Option.bind_some]
          exact get_l0 s a m hs ⟨by omega, by omega⟩ ⟨hm0, hm8⟩ (by omega) m.toNat 18 0 0 (by omega) (by omega) (by omega) ⟨by omega, by omega⟩
theorem text_total (s : ByteArray) (a : Int) (hs : s.size ≤ 1000000) : ∃ r t b, leaf_text.f 20 s a = some (r, t, b) ∧ r.size ≤ s.size := by
  obtain ⟨n, t, e, hg, hr⟩ := get_total s a hs
  unfold leaf_text.f
  rw [hg]
  simp only [Option.bind_some]
  by_cases he : e = 0
  · rw [if_pos he]
    have := hr he
    rw [if_pos ⟨this.1, this.2.1, this.2.2, by omega⟩]
    by_cases hn : (s.size : Int) - t < n
    · rw [if_pos hn]; exact ⟨_, _, _, rfl, Nat.zero_le _⟩
    · rw [if_neg hn]; exact ⟨_, _, _, rfl, by rw [ByteArray.size_extract]; omega⟩
  · rw [if_neg he]; exact ⟨_, _, _, rfl, Nat.zero_le _⟩
theorem number_total (s : ByteArray) (a : Int) (bad : Bool) (hs : s.size ≤ 1000000) (ha : 0 ≤ a ∧ a ≤ s.size) : ∃ r a2 b2, cell_reader_number.f 20 s a bad = some (r, a2, b2) ∧ (0 ≤ r ∧ r ≤ 4096) ∧ (0 ≤ a2 ∧ a2 ≤ s.size) := by
  obtain ⟨n, t, e, hg, hr⟩ := get_total s a hs
  unfold cell_reader_number.f
  rw [hg]
  simp only [Option.bind_some]
  by_cases he : e = 0
  · rw [if_pos he]
    have := hr he
    rw [if_pos this.1]
    by_cases hn : 4096 < n
    · rw [if_pos hn]; exact ⟨_, _, _, rfl, ⟨by omega, by omega⟩, ha⟩
    · rw [if_neg hn]; exact ⟨_, _, _, rfl, ⟨by omega, by omega⟩, this.2⟩
  · rw [if_neg he]; exact ⟨_, _, _, rfl, ⟨by omega, by omega⟩, ha⟩
theorem take_total (s : ByteArray) (a : Int) (bad : Bool) (m : Int) (hs : s.size ≤ 1000000) (ha : 0 ≤ a ∧ a ≤ s.size) (hm : 0 ≤ m ∧ m ≤ 4096) : ∃ r a2 b2, cell_reader_take.f s a bad m = some (r, a2, b2) ∧ r.size ≤ s.size ∧ (0 ≤ a2 ∧ a2 ≤ s.size) := by
  unfold cell_reader_take.f
  rw [if_pos ⟨ha.1, ha.2, by omega, hm.1, by omega⟩]
  by_cases hb : bad = true
  · rw [if_pos hb]; exact ⟨_, _, _, rfl, Nat.zero_le _, ha⟩
  · rw [if_neg hb]
    by_cases hn : (s.size : Int) - a < m
    · rw [if_pos hn]; exact ⟨_, _, _, rfl, Nat.zero_le _, ha⟩
    · rw [if_neg hn]; exact ⟨_, _, _, rfl, by rw [ByteArray.size_extract]; omega, by omega, by omega⟩
theorem read_l0 (s : ByteArray) (a : Int) (hs : s.size ≤ 1000000) (ha : 0 ≤ a ∧ a + 4 ≤ s.size) (d : Nat) : ∀ (k : Nat) (n i : Int), i + d = 4 → 0 ≤ i → d < k → (0 ≤ n ∧ n < 4294967296) → ∃ r, word_Read.l0 k s a n i = some (r, 0) ∧ 0 ≤ r ∧ r < 4294967296 := by
  induction d with
  | zero =>
    intro k n i h1 h2 hk hn
    obtain ⟨k, rfl⟩ : ∃ x, k = x + 1 := ⟨k - 1, by omega⟩
    simp only [word_Read.l0]
    rw [if_neg (by omega)]
    exact ⟨_, rfl, hn⟩
  | succ d ih =>
    intro k n i h1 h2 hk hn
    obtain ⟨k, rfl⟩ : ∃ x, k = x + 1 := ⟨k - 1, by omega⟩
    simp only [word_Read.l0]
    rw [wrap64_id (n := a + i) (by omega) (by omega), wrap64_id (n := 8 * i) (by omega) (by omega), if_pos (by omega), if_pos (by omega), if_pos (by omega), if_pos (by omega), wrap64_id (n := i + 1) (by omega) (by omega)]
    refine ih k _ (i + 1) (by omega) (by omega) (by omega) ?_
    have := bits_within .or .u32 n (shl .u32 (bt s (a + i) % 4294967296) (8 * i))
    simp [IntKind.min, IntKind.max, IntKind.signed, IntKind.bits] at this
    omega
theorem read_total (s : ByteArray) (a : Int) (hs : s.size ≤ 1000000) : ∃ r e, word_Read.f 20 s a = some (r, e) ∧ 0 ≤ r ∧ r < 4294967296 := by
  unfold word_Read.f
  by_cases h1 : a < 0
  · rw [if_pos h1]
    simp only [word_Read.j0]
    exact ⟨_, _, rfl, by omega, by omega⟩
  · rw [if_neg h1]
    by_cases h2 : a > (s.size : Int)
    · rw [decide_eq_true h2]
      simp only [word_Read.j0]
      exact ⟨_, _, rfl, by omega, by omega⟩
    · rw [decide_eq_false h2]
      simp only [word_Read.j0]
      rw [if_neg (by decide), wrap64_id (n := (s.size : Int) - a) (by omega) (by omega)]
      by_cases h3 : (s.size : Int) - a < 4
      · rw [if_pos h3]; exact ⟨_, _, rfl, by omega, by omega⟩
      · rw [if_neg h3]
        obtain ⟨r, hr, h0⟩ := read_l0 s a hs ⟨by omega, by omega⟩ 4 19 0 0 (by omega) (by omega) (by omega) ⟨by omega, by omega⟩
        exact ⟨r, 0, hr, h0⟩
theorem four_total (s : ByteArray) (a : Int) (bad : Bool) (hs : s.size ≤ 1000000) (ha : 0 ≤ a ∧ a ≤ s.size) : ∃ r a2 b2, cell_reader_four.f 20 s a bad = some (r, a2, b2) := by
  obtain ⟨n, e, hr, h0, h1⟩ := read_total s a hs
  unfold cell_reader_four.f
  rw [hr]
  simp only [Option.bind_some]
  by_cases he : e = 0
  · rw [if_pos he, if_pos ⟨h0, ha.1, by omega⟩]
    by_cases hn : 4096 ≤ n
    · rw [if_pos hn]; exact ⟨_, _, _, rfl⟩
    · rw [if_neg hn]; exact ⟨_, _, _, rfl⟩
  · rw [if_neg he]; exact ⟨_, _, _, rfl⟩
theorem getValue_total (c : ByteArray) (hs : c.size ≤ 1000000) : ∃ r v e, cell_GetValue.f 20 c = some (r, v, e) ∧ r.size ≤ c.size := by
  unfold cell_GetValue.f
  obtain ⟨m, a1, b1, h1, hm, ha1⟩ := number_total c 0 false hs ⟨by omega, by omega⟩
  rw [h1]
  simp only [Option.bind_some]
  obtain ⟨y, a2, b2, h2, hy, ha2⟩ := take_total c a1 b1 m hs ha1 hm
  rw [h2]
  simp only [Option.bind_some]
  have hv : ∃ z, cell_value.f 20 c a2 b2 = some z := by
    unfold cell_value.f
    obtain ⟨x, a3, b3, h3, hx, ha3⟩ := take_total c a2 b2 1 hs ha2 ⟨by omega, by omega⟩
    rw [h3]
    simp only [Option.bind_some]
    by_cases c1 : x.toList = [1]
    · rw [if_pos c1]
      obtain ⟨n, a4, b4, h4, hn, ha4⟩ := number_total c a3 b3 hs ha3
      rw [h4]
      simp only [Option.bind_some]
      obtain ⟨q, a5, b5, h5⟩ := four_total c a4 b4 hs ha4
      rw [h5]
      simp only [Option.bind_some]
      exact ⟨_, rfl⟩
    · rw [if_neg c1]
      by_cases c0 : x.toList = [0]
      · rw [if_pos c0]
        obtain ⟨n, a4, b4, h4, hn, ha4⟩ := number_total c a3 b3 hs ha3
        rw [h4]
        simp only [Option.bind_some]
        obtain ⟨q, a5, b5, h5, _, _⟩ := take_total c a4 b4 n hs ha4 hn
        rw [h5]
        simp only [Option.bind_some]
        exact ⟨_, rfl⟩
      · rw [if_neg c0]; exact ⟨_, rfl⟩
  obtain ⟨z, hz⟩ := hv
  rw [hz]
  simp only [Option.bind_some]
  have hp : ∃ u, cell_PutValue.f y z.2.2.1 z.2.2.2.1 z.2.2.2.2.1 z.2.2.2.2.2 = some u := by
    unfold cell_PutValue.f
    split
    · exact ⟨_, rfl⟩
    · exact ⟨_, rfl⟩
  obtain ⟨u, hu⟩ := hp
  rw [hu]
  simp only [Option.bind_some]
  split
  · exact ⟨_, _, _, rfl, Nat.zero_le _⟩
  · exact ⟨_, _, _, rfl, hy⟩
theorem sizeSum_le2 (n : Nat) : ∀ l : List ByteArray, (∀ c ∈ l, c.size ≤ n) → sizeSum l ≤ l.length * n
  | [], _ => by simp [sizeSum]
  | c :: r, h => by
    have h1 := h c (by simp)
    have h2 := sizeSum_le2 n r (fun x hx => h x (by simp [hx]))
    have e : sizeSum (c :: r) = c.size + sizeSum r := by simp [sizeSum]
    rw [e, List.length_cons, Nat.add_mul]
    omega
theorem unpackGo_sizes (s : ByteArray) : ∀ (d i : Nat) (l : List ByteArray), unpackGo s d i = some l → ∀ c ∈ l, c.size ≤ s.size
  | 0, _, l, h => by cases h; simp
  | d + 1, i, l, h => by
    unfold unpackGo at h
    split at h
    · obtain ⟨r, hr, rfl⟩ := Option.map_eq_some_iff.1 h
      intro c hc
      rcases List.mem_cons.1 hc with rfl | hc
      · rw [ByteArray.size_extract]; omega
      · exact unpackGo_sizes s d (i + 1) r hr c hc
    · cases h
theorem unpack_total (s : ByteArray) (fx n : Int) (hs : s.size ≤ 65535) : ∃ cs e, slot_Unpack.f s fx n = some (cs, e) ∧ cs.length ≤ 65535 ∧ ∀ c ∈ cs, c.size ≤ s.size := by
  unfold slot_Unpack.f
  by_cases h1 : fx < 0 ∨ n < 0 ∨ 65535 < (s.size : Int)
  · rw [if_pos h1]; exact ⟨_, _, rfl, by simp, by simp⟩
  · rw [if_neg h1]
    by_cases h2 : (s.size : Int) < fx ∨ (s.size : Int) / 2 - 1 < n
    · rw [if_pos h2]; exact ⟨_, _, rfl, by simp, by simp⟩
    · rw [if_neg h2]
      cases hg : unpackGo s n.toNat 0 with
      | none => exact ⟨_, _, rfl, by simp, by simp⟩
      | some cs =>
        have hl := unpackGo_length s _ _ _ hg
        have hz := unpackGo_sizes s _ _ _ hg
        have hsum := sizeSum_le2 s.size cs hz
        have hmul : cs.length * s.size ≤ 65535 * 65535 := Nat.mul_le_mul (by omega) hs
        dsimp only
        have hp : ∃ u, slot_Pack.f s.size (s.extract 0 fx.toNat) cs = some u := by
          unfold slot_Pack.f
          rw [if_neg (by omega), if_pos ⟨by rw [ByteArray.size_extract]; omega, by omega, by omega⟩]
          split
          · exact ⟨_, rfl⟩
          · exact ⟨_, rfl⟩
        obtain ⟨u, hu⟩ := hp
        rw [hu]
        simp only [Option.bind_some]
        split
        · exact ⟨_, _, rfl, by simp, by simp⟩
        · exact ⟨_, _, rfl, by omega, hz⟩
theorem told_total (all : ByteArray) (ha : all.size ≤ 1000000) : ∀ cs : List ByteArray, (∀ c ∈ cs, c.size ≤ 1000000) → ∃ out er, toldItems 20 all cs = some (out, er) ∧ out.length = cs.length ∧ ∀ x ∈ out, x.f0.size ≤ 2000000
  | [], _ => ⟨_, _, rfl, rfl, by simp⟩
  | c :: r, h => by
    obtain ⟨s, v, e, hv, hz⟩ := getValue_total c (h c (by simp))
    obtain ⟨out, er, ho, hl, hx⟩ := told_total all ha r (fun x hx => h x (by simp [hx]))
    have hc := h c (by simp)
    unfold toldItems
    rw [hv]
    simp only [Option.bind_some]
    rw [if_pos ⟨by omega, by omega⟩, ho]
    refine ⟨_, _, rfl, by simp [hl], fun x hx2 => ?_⟩
    rcases List.mem_cons.1 hx2 with rfl | hx2
    · show (all ++ s).size ≤ _
      rw [ByteArray.size_append]; omega
    · exact hx x hx2
theorem items_total (s : ByteArray) (n : Int) (hs : s.size ≤ 65535) : ∃ l hi er, leaf_items.f 20 s n = some (l, hi, er) ∧ l.length ≤ 65535 ∧ hi.size ≤ 65535 ∧ ∀ x ∈ l, x.f0.size ≤ 2000000 := by
  unfold leaf_items.f
  obtain ⟨all, a1, b1, h1, z1⟩ := text_total s 0 (by omega)
  rw [h1]
  simp only [Option.bind_some]
  by_cases c1 : b1 = true
  · rw [if_pos c1]; exact ⟨_, _, _, rfl, by simp, Nat.zero_le _, by simp⟩
  · rw [if_neg c1]
    obtain ⟨hi, a2, b2, h2, z2⟩ := text_total s a1 (by omega)
    rw [h2]
    simp only [Option.bind_some]
    by_cases c2 : b2 = true
    · rw [if_pos c2]; exact ⟨_, _, _, rfl, by simp, Nat.zero_le _, by simp⟩
    · rw [if_neg c2]
      obtain ⟨cs, e, h3, z3, z4⟩ := unpack_total s a2 n hs
      rw [h3]
      simp only [Option.bind_some]
      by_cases c3 : e ≠ 0
      · rw [if_pos c3]; exact ⟨_, _, _, rfl, by simp, Nat.zero_le _, by simp⟩
      · rw [if_neg c3, if_pos (by omega)]
        obtain ⟨out, er, h4, z5, z6⟩ := told_total all (by omega) cs (fun c hc => by have := z4 c hc; omega)
        rw [h4]
        exact ⟨_, _, _, rfl, by show out.length ≤ _; omega, by show hi.size ≤ _; omega, z6⟩
theorem valB_size (v : S30) (h : valOk v = true) : (valB v).size ≤ 300 := by
  unfold valB
  by_cases hb : v.f0 = true
  · rw [if_pos hb, ByteArray.size_append, ByteArray.size_append, strOfNums_size, strOfNums_size, strOfNums_size]
    have := putL_length_le v.f2.toNat
    simp
    omega
  · rw [if_neg hb, ByteArray.size_append, strOfNums_size]
    have h1 := textB_size v.f1
    have h2 : v.f1.size ≤ 256 := by
      unfold valOk at h
      rw [if_neg hb] at h
      simp at h
      omega
    simp
    omega
theorem itemCell_size2 (r : ByteArray) (v : S30) : (itemCell r v).size ≤ 1000 := by
  unfold itemCell
  by_cases h : r.size ≤ 128 ∧ valOk v = true
  · rw [if_pos h]
    unfold cellB
    rw [ByteArray.size_append]
    have h1 := textB_size r
    have h2 := valB_size v h.2
    omega
  · rw [if_neg h]
    exact Nat.zero_le _
theorem leafCells_sizes (l : List S32) : ∀ c ∈ leafCells l, c.size ≤ 1000 := by
  intro c hc
  unfold leafCells at hc
  obtain ⟨i, hi, rfl⟩ := List.getElem_of_mem hc
  rw [List.getElem_zipWith]
  exact itemCell_size2 _ _
theorem encode_total (self right : Int) (high : ByteArray) (l : List S32) (p : Int) (hl : l.length ≤ 65535) (hh : high.size ≤ 65535) (hk : ∀ x ∈ l, x.f0.size ≤ 2000000) (hp : 0 ≤ p ∧ p ≤ 100000) :
    ∃ t e, leaf_Encode.f self right high l p = some (t, e) ∧ (e = 0 → sizeOk p = true ∧ mayB self right high l p = true) := by
  unfold leaf_Encode.f disk_Size.f
  simp only [Option.bind_some]
  by_cases h1 : (p == 128 || p == 256 || p == 512 || p == 1024) = true
  · rw [if_pos h1]
    have hm : leaf_May.f self right high l p = some (mayB self right high l p) := by unfold leaf_May.f; rw [if_pos (by omega)]
    rw [hm]
    simp only [Option.bind_some]
    by_cases h2 : mayB self right high l p = true
    · rw [if_pos h2]
      have hpt : leaf_parts.f self right high l = some (leafFixed high l, leafCells l) := by
        unfold leaf_parts.f
        rw [if_pos ⟨by omega, by omega, fun x hx => by have := hk x hx; omega⟩]
      rw [hpt]
      simp only [Option.bind_some]
      have hs : (leafFixed high l).size ≤ 10000000 := by
        unfold leafFixed
        rw [ByteArray.size_append, ByteArray.size_append, ByteArray.size_append, strOfNums_size, strOfNums_size]
        have a1 := putL_length_le (stripAll (leafKeys l)).size
        have a2 := putL_length_le high.size
        have a3 := stripAll_size_le (leafKeys l) 2000000 (fun s hs => by obtain ⟨x, hx, rfl⟩ := List.mem_map.1 hs; exact hk x hx)
        omega
      have hc := sizeSum_le2 1000 (leafCells l) (leafCells_sizes l)
      rw [leafCells_length] at hc
      have hpk : ∃ u, slot_Pack.f (wrap64 (p - 16)) (leafFixed high l) (leafCells l) = some u := by
        unfold slot_Pack.f
        split
        · exact ⟨_, rfl⟩
        · rw [if_pos ⟨by omega, by rw [leafCells_length]; omega, by omega⟩]
          split
          · exact ⟨_, rfl⟩
          · exact ⟨_, rfl⟩
      obtain ⟨u, hu⟩ := hpk
      rw [hu]
      simp only [Option.bind_some]
      by_cases h3 : u.2 = 0
      · rw [if_pos h3]
        unfold head_Seal.f
        simp only [Option.bind_some]
        exact ⟨_, _, rfl, fun _ => ⟨h1, h2⟩⟩
      · rw [if_neg h3]
        exact ⟨_, _, rfl, fun h => absurd h h3⟩
    · rw [if_neg h2]
      exact ⟨_, _, rfl, fun h => by simp at h⟩
  · rw [if_neg h1]
    exact ⟨_, _, rfl, fun h => by simp at h⟩
theorem open_total (s : ByteArray) (hs : s.size ≤ 65535) : ∃ a b c d e f g, head_Open.f 20 s = some (a, b, c, d, e, f, g) ∧ f.size ≤ s.size ∧ (g = 0 → 16 ≤ s.size) := by
  unfold head_Open.f disk_Size.f
  simp only [Option.bind_some]
  by_cases h1 : ((s.size : Int) == 128 || (s.size : Int) == 256 || (s.size : Int) == 512 || (s.size : Int) == 1024) = true
  · rw [if_pos h1]
    have hb : 128 ≤ s.size := by simp at h1; omega
    obtain ⟨r4, e4, h4, _, _⟩ := read_total s 4 (by omega)
    obtain ⟨r8, e8, h8, _, _⟩ := read_total s 8 (by omega)
    rw [h4]
    simp only [Option.bind_some]
    rw [h8]
    simp only [Option.bind_some]
    rw [if_pos (by omega), if_pos (by omega), if_pos (by omega), if_pos (by omega), if_pos (by omega)]
    unfold head_Seal.f
    simp only [Option.bind_some]
    split
    · split
      · exact ⟨_, _, _, _, _, _, _, rfl, by rw [ByteArray.size_extract]; omega, fun _ => by omega⟩
      · exact ⟨_, _, _, _, _, _, _, rfl, Nat.zero_le _, fun h => by simp at h⟩
    · exact ⟨_, _, _, _, _, _, _, rfl, Nat.zero_le _, fun h => by simp at h⟩
  · rw [if_neg h1]
    exact ⟨_, _, _, _, _, _, _, rfl, Nat.zero_le _, fun h => by simp at h⟩
theorem decode_total (s : ByteArray) (hs : s.size ≤ 65535) : ∃ self right high l e, leaf_Decode.f s = some (self, right, high, l, e) ∧ l.length ≤ 65535 ∧ (e = 0 → sizeOk s.size = true ∧ mayB self right high l s.size = true) ∧ (e ≠ 0 → self = 0 ∧ right = 0 ∧ high = ⟨#[]⟩ ∧ l = [] ∧ e = 3) := by
  unfold leaf_Decode.f
  obtain ⟨a, b, c, d, e, f, g, ho, hf, _⟩ := open_total s hs
  rw [ho]
  simp only [Option.bind_some]
  by_cases h1 : g ≠ 0 ∨ a ≠ 2
  · rw [if_pos h1]; exact ⟨_, _, _, _, _, rfl, by simp, fun h => by simp at h, fun _ => ⟨rfl, rfl, rfl, rfl, rfl⟩⟩
  · rw [if_neg h1]
    obtain ⟨l, hi, er, h2, h3, h4, h5⟩ := items_total f c (by omega)
    rw [h2]
    simp only [Option.bind_some]
    by_cases h6 : er = true
    · rw [if_pos h6]; exact ⟨_, _, _, _, _, rfl, by simp, fun h => by simp at h, fun _ => ⟨rfl, rfl, rfl, rfl, rfl⟩⟩
    · rw [if_neg h6]
      obtain ⟨t, te, h7, h8⟩ := encode_total e d hi l s.size h3 h4 h5 ⟨by omega, by omega⟩
      rw [h7]
      simp only [Option.bind_some]
      by_cases h9 : te ≠ 0 ∨ t.toList ≠ s.toList
      · rw [if_pos h9]; exact ⟨_, _, _, _, _, rfl, by simp, fun h => by simp at h, fun _ => ⟨rfl, rfl, rfl, rfl, rfl⟩⟩
      · rw [if_neg h9]
        have hte : te = 0 := by
          by_cases c : te = 0
          · exact c
          · exact absurd (.inl c) h9
        exact ⟨_, _, _, _, _, rfl, h3, fun _ => h8 hte, fun h => absurd rfl h⟩


end Go.Proofs.YtmheajenlhlbhaaGreatDoor.X


namespace Go.Proofs.YtmheajenlhlbhaaGreatDoor.X
open Go.RowKit Go.Proofs.YtmheajenlhlbhaaGreatDoorW.PrintWords Go.Proofs.YtmheajenlhlbhaaGreatDoorW.PrintLast Go.Proofs.YtmheajenlhlbhaaGreatDoorW.PrintMore
attribute [local go_sem] max2_int min2_int max_two min_two max_three min_three max_four min_four   -- for this text's walks alone
set_option linter.unusedVariables false
set_option linter.unusedSimpArgs false

theorem cmp_neg : ∀ a b : List UInt8, decide (Lib.compareBytes a b < 0) = Op.bytesLess a b
  | [], [] => rfl
  | [], _ :: _ => rfl
  | _ :: _, [] => rfl
  | a :: x, b :: y => by
    unfold Lib.compareBytes Op.bytesLess
    by_cases h : a < b
    · rw [if_pos h]; simp [h]
    · rw [if_neg h]
      by_cases h2 : b < a
      · rw [if_pos h2]
        have hne : ¬ a = b := by rintro rfl; exact h h2
        simp [h, hne]
      · rw [if_neg h2, cmp_neg x y]
        have heq : a = b := UInt8.le_antisymm (UInt8.not_lt.1 h2) (UInt8.not_lt.1 h)
        simp [heq]
theorem cmp_zero : ∀ a b : List UInt8, (Lib.compareBytes a b == 0) = (a == b)
  | [], [] => rfl
  | [], _ :: _ => rfl
  | _ :: _, [] => rfl
  | a :: x, b :: y => by
    unfold Lib.compareBytes
    by_cases h : a < b
    · rw [if_pos h]
      have hne : ¬ a = b := by rintro rfl; exact UInt8.lt_irrefl _ h
      simp [hne]
    · rw [if_neg h]
      by_cases h2 : b < a
      · rw [if_pos h2]
        have hne : ¬ a = b := by rintro rfl; exact h h2
        simp [hne]
      · rw [if_neg h2, cmp_zero x y]
        have heq : a = b := UInt8.le_antisymm (UInt8.not_lt.1 h2) (UInt8.not_lt.1 h)
        subst heq
        simp
theorem bl_trans {a b c : List UInt8} (h1 : Op.bytesLess a b = true) (h2 : Op.bytesLess b c = true) : Op.bytesLess a c = true := by
  rw [bytesLess_eq] at h1 h2 ⊢
  exact decide_eq_true (List.lt_trans (of_decide_eq_true h1) (of_decide_eq_true h2))
def SortedI (l : List S32) : Prop := ∀ j, (h : j < l.length) → ∀ i, (g : i < j) → Op.bytesLess (l[i]'(Nat.lt_trans g h)).f0.toList l[j].f0.toList = true
instance (l : List S32) : Decidable (SortedI l) := by unfold SortedI; exact inferInstance
def StandsAt (l : List S32) (key : ByteArray) (i : Nat) : Prop := i ≤ l.length ∧ (∀ j, j < i → (h : j < l.length) → Op.bytesLess l[j].f0.toList key.toList = true) ∧ (∀ j, i ≤ j → (h : j < l.length) → Op.bytesLess l[j].f0.toList key.toList = false)
def isAt (l : List S32) (key : ByteArray) (i : Nat) : Bool := if h : i < l.length then l[i].f0.toList == key.toList else false
set_option maxHeartbeats 1000000 in
theorem leaf_Find1.calls (x : S32) (key : ByteArray) (w : World) :
    Calls Tryz.prog 51 #[.agg #[.string x.f0, .bool x.f1.f0, .string x.f1.f1, .int .i64 x.f1.f2, .int .i64 x.f1.f3], .string key] w fun e w' => e = .returned (.int .i64 (Lib.compareBytes x.f0.data.toList key.data.toList)) ∧ Below w.heap.size w w' := by
  go_enter Tryz.func51, Tryz.ntmps51
  go_wp2_with (first | (go_at_call 52; refine (Tryz.strings_Compare x.f0 key _).mono ?_; rintro e w1 ⟨rfl, rfl⟩))
  go_ret
  exact ⟨rfl, below_alloc (Below.refl _ _) _⟩
set_option maxRecDepth 100000 in
set_option maxHeartbeats 2000000 in
theorem leaf_search.calls (A0 : Option Addr) (c0 : Nat) (l0 : List S32) (key : ByteArray) (w : World) (hr0 : Kd.C k32 w A0 l0.length l0) (hl : l0.length ≤ 1000000000) (hs : SortedI l0) :
    Calls Tryz.prog 50 #[.slice A0 l0.length c0, .string key, .func (.func 51) #[] #[]] w fun e w' => ∃ i : Nat, e = .returned (.tuple #[.int .i64 i, .bool (isAt l0 key i)]) ∧ StandsAt l0 key i ∧ Below w.heap.size w w' := by
  have HR := Aside0.mk hr0
  have HS := Aside0.mk hs
  clear hr0 hs
  go_enter Tryz.func50, Tryz.ntmps50
  go_wp2
  go_loopg [9, 10] l0.length (fun kx s9 s10 wr => ∃ lo hi : Nat, s9 = .int .i64 lo ∧ s10 = .int .i64 hi ∧ lo ≤ hi ∧ hi ≤ l0.length ∧ hi - lo ≤ kx ∧ Aside0 (Below w.heap.size w wr) ∧ Aside0 ((∀ j, j < lo → (h : j < l0.length) → Op.bytesLess l0[j].f0.toList key.toList = true) ∧ (∀ j, hi ≤ j → (h : j < l0.length) → Op.bytesLess l0[j].f0.toList key.toList = false)))
  case atStart => exact ⟨0, l0.length, rfl, rfl, Nat.zero_le _, Nat.le_refl _, by omega, ⟨Below.refl _ _⟩, ⟨fun j hj => absurd hj (Nat.not_lt_zero _), fun j h1 h2 => by omega⟩⟩
  case round =>
    obtain ⟨lo, hi, rfl, rfl, hlh, hin, hg, HB, HI⟩ := hrel
    by_cases hlt : lo < hi
    · have hm : (lo + hi) / 2 < l0.length := by omega
      obtain ⟨ad0, e0, q0, q1, q2, q3, q4⟩ := at_T32 HR.out (((lo + hi) / 2 : Nat) : Int) (by omega) (by omega)
      cases e0
      rw [Int.toNat_natCast] at q0 q1 q2 q3 q4
      replace q0 := (HB.out.cell (World.block_lt_of_cell? w _ q0)).trans q0
      replace q1 := (HB.out.cell (World.block_lt_of_cell? w _ q1)).trans q1
      replace q2 := (HB.out.cell (World.block_lt_of_cell? w _ q2)).trans q2
      replace q3 := (HB.out.cell (World.block_lt_of_cell? w _ q3)).trans q3
      replace q4 := (HB.out.cell (World.block_lt_of_cell? w _ q4)).trans q4
      have hx0 : rd_T32 l0 (((lo + hi) / 2 : Nat) : Int) = l0[(lo + hi) / 2] := by unfold rd_T32; rw [Int.toNat_natCast, List.getD_eq_getElem?_getD, List.getElem?_eq_getElem hm]; rfl
      rw [hx0] at q0 q1 q2 q3 q4
      clear hx0
      by_cases hc : Op.bytesLess l0[(lo + hi) / 2].f0.toList key.toList = true
      · have HI2 : Aside0 ((∀ j, j < (lo + hi) / 2 + 1 → (h : j < l0.length) → Op.bytesLess l0[j].f0.toList key.toList = true) ∧ (∀ j, hi ≤ j → (h : j < l0.length) → Op.bytesLess l0[j].f0.toList key.toList = false)) := ⟨fun j hj h => by
          by_cases hjm : j = (lo + hi) / 2
          · subst hjm; exact hc
          · exact bl_trans (HS.out _ hm j (by omega)) hc, HI.out.2⟩
        generalize l0[(lo + hi) / 2] = x at q0 q1 q2 q3 q4 hc
        have d1 : decide (Lib.compareBytes x.f0.data.toList key.data.toList < 0) = true := by rw [cmp_neg, ← ByteArray.toList_eq, ← ByteArray.toList_eq]; exact hc
        clear hc HI
        go_wp2_with (first | (go_at_call 51; refine (leaf_Find1.calls x key _).mono ?_; rintro e w1 ⟨rfl, hb1⟩; have HB1 := Aside0.mk (below_step HB.out hb1); clear hb1 HB))
        go_roundg (hi - ((lo + hi) / 2 + 1))
        case measure => omega
        case rel => exact ⟨(lo + hi) / 2 + 1, hi, by rw [show ((lo : Int) + (hi : Int)) / 2 + 1 = (((lo + hi) / 2 + 1 : Nat) : Int) by omega], rfl, by omega, hin, Nat.le_refl _, HB1, HI2⟩
      · have hcf : Op.bytesLess l0[(lo + hi) / 2].f0.toList key.toList = false := by simpa using hc
        have HI2 : Aside0 ((∀ j, j < lo → (h : j < l0.length) → Op.bytesLess l0[j].f0.toList key.toList = true) ∧ (∀ j, (lo + hi) / 2 ≤ j → (h : j < l0.length) → Op.bytesLess l0[j].f0.toList key.toList = false)) := ⟨HI.out.1, fun j hj h => by
          by_cases hjm : (lo + hi) / 2 = j
          · subst hjm; exact hcf
          · cases hq : Op.bytesLess l0[j].f0.toList key.toList with
            | false => rfl
            | true => rw [bl_trans (HS.out j h ((lo + hi) / 2) (by omega)) hq] at hcf; cases hcf⟩
        generalize l0[(lo + hi) / 2] = x at q0 q1 q2 q3 q4 hcf
        have d1 : decide (Lib.compareBytes x.f0.data.toList key.data.toList < 0) = false := by rw [cmp_neg, ← ByteArray.toList_eq, ← ByteArray.toList_eq]; exact hcf
        clear hc hcf HI
        go_wp2_with (first | (go_at_call 51; refine (leaf_Find1.calls x key _).mono ?_; rintro e w1 ⟨rfl, hb1⟩; have HB1 := Aside0.mk (below_step HB.out hb1); clear hb1 HB))
        go_roundg ((lo + hi) / 2 - lo)
        case measure => omega
        case rel => exact ⟨lo, (lo + hi) / 2, rfl, by rw [show ((lo : Int) + (hi : Int)) / 2 = (((lo + hi) / 2 : Nat) : Int) by omega], by omega, by omega, Nat.le_refl _, HB1, HI2⟩
    · obtain rfl : hi = lo := by omega
      have hst : Aside0 (StandsAt l0 key hi) := ⟨⟨hin, HI.out.1, HI.out.2⟩⟩
      by_cases hn : hi < l0.length
      · obtain ⟨ad0, e0, q0, q1, q2, q3, q4⟩ := at_T32 HR.out ((hi : Nat)) (by omega) (by omega)
        cases e0
        rw [Int.toNat_natCast] at q0 q1 q2 q3 q4
        replace q0 := (HB.out.cell (World.block_lt_of_cell? w _ q0)).trans q0
        replace q1 := (HB.out.cell (World.block_lt_of_cell? w _ q1)).trans q1
        replace q2 := (HB.out.cell (World.block_lt_of_cell? w _ q2)).trans q2
        replace q3 := (HB.out.cell (World.block_lt_of_cell? w _ q3)).trans q3
        replace q4 := (HB.out.cell (World.block_lt_of_cell? w _ q4)).trans q4
        have hx0 : rd_T32 l0 ((hi : Nat)) = l0[hi] := by unfold rd_T32; rw [Int.toNat_natCast, List.getD_eq_getElem?_getD, List.getElem?_eq_getElem hn]; rfl
        rw [hx0] at q0 q1 q2 q3 q4
        clear hx0
        have hisat : isAt l0 key hi = (l0[hi].f0.toList == key.toList) := by unfold isAt; rw [dif_pos hn]
        have d2 : decide ((hi : Int) < (l0.length : Int)) = true := decide_eq_true (by omega)
        have d3 : decide (hi < l0.length) = true := decide_eq_true hn
        generalize l0[hi] = x at q0 q1 q2 q3 q4 hisat
        have d1 : (Lib.compareBytes x.f0.data.toList key.data.toList == 0) = (x.f0.toList == key.toList) := by rw [cmp_zero, ← ByteArray.toList_eq, ← ByteArray.toList_eq]
        generalize (x.f0.toList == key.toList) = bq at d1 hisat
        have HA := Aside0.mk hisat
        clear hisat
        go_wp2_with (first | (go_at_call 51; refine (leaf_Find1.calls x key _).mono ?_; rintro e w1 ⟨rfl, hb1⟩; have HB1 := Aside0.mk (below_step HB.out hb1); clear hb1 HB))
        go_ret2
        exact ⟨hi, by rw [HA.out]; rfl, hst.out, HB1.out⟩
      · have hisat : isAt l0 key hi = false := by unfold isAt; rw [dif_neg hn]
        have d2 : decide ((hi : Int) < (l0.length : Int)) = false := decide_eq_false (by omega)
        have d3 : decide (hi < l0.length) = false := decide_eq_false hn
        have HA := Aside0.mk hisat
        clear hisat
        go_wp2
        go_ret2
        exact ⟨hi, by rw [HA.out]; rfl, hst.out, HB.out⟩
def leaf_Find.f (a0 a1 : Int) (a2 : ByteArray) (l : List S32) (key : ByteArray) : Option (Bool × ByteArray × Int × Int × Bool) :=
  if SortedI l ∧ l.length ≤ 1000000000 then (match l.find? (fun x => x.f0.toList == key.toList) with
    | some x => some (x.f1.f0, x.f1.f1, x.f1.f2, x.f1.f3, true)
    | none => some (false, ⟨#[]⟩, 0, 0, false)) else none
theorem bl_irrefl : ∀ a : List UInt8, Op.bytesLess a a = false := fun a => by
  rw [bytesLess_eq]
  exact decide_eq_false (List.lt_irrefl a)
theorem find_at (l : List S32) (key : ByteArray) (i : Nat) (h : StandsAt l key i) (hi : i < l.length) (ha : isAt l key i = true) : l.find? (fun x => x.f0.toList == key.toList) = some l[i] := by
  unfold isAt at ha
  rw [dif_pos hi] at ha
  rw [List.find?_eq_some_iff_getElem]
  refine ⟨ha, i, hi, rfl, fun j hj => ?_⟩
  have hlt := h.2.1 j hj (by omega)
  cases hq : (l[j].f0.toList == key.toList) with
  | false => rfl
  | true => rw [beq_iff_eq.1 hq, bl_irrefl] at hlt; cases hlt
theorem find_no (l : List S32) (key : ByteArray) (i : Nat) (hs : SortedI l) (h : StandsAt l key i) (ha : isAt l key i = false) : l.find? (fun x => x.f0.toList == key.toList) = none := by
  rw [List.find?_eq_none]
  intro x hx
  obtain ⟨j, hj, rfl⟩ := List.getElem_of_mem hx
  intro hq
  have he := beq_iff_eq.1 hq
  by_cases h1 : j < i
  · have hlt := h.2.1 j h1 hj
    rw [he, bl_irrefl] at hlt
    cases hlt
  · by_cases h2 : j = i
    · subst h2
      unfold isAt at ha
      rw [dif_pos hj, he] at ha
      simp at ha
    · have hl := hs j hj i (by omega)
      rw [he] at hl
      rw [h.2.2 i (Nat.le_refl _) (by omega)] at hl
      cases hl
theorem find_open {w w3 : World} {o : Obj} (h3 : Below ((w.alloc o).alloc (.cells #[.bool false, .string ⟨#[]⟩, .int .i64 0, .int .i64 0] 30)).heap.size ((w.alloc o).alloc (.cells #[.bool false, .string ⟨#[]⟩, .int .i64 0, .int .i64 0] 30)) w3) :
    Block w3 (w.heap.size + 1) 30 #[.bool false, .string ⟨#[]⟩, .int .i64 0, .int .i64 0] ∧ Below w.heap.size w w3 ∧ w3.heap[w.heap.size]? = some o := by
  refine ⟨?_, below_step (below_alloc (below_alloc (Below.refl _ _) _) _) h3, ?_⟩
  · have := World.alloc_heap_new (w.alloc o) (.cells #[.bool false, .string ⟨#[]⟩, .int .i64 0, .int .i64 0] 30)
    rw [World.size_alloc] at this
    exact Block.below this h3 (by simp)
  · rw [h3.block w.heap.size (by simp; omega)]
    have := below_alloc (Below.refl (w.alloc o).heap.size (w.alloc o)) (.cells #[.bool false, .string ⟨#[]⟩, .int .i64 0, .int .i64 0] 30)
    rw [this.block w.heap.size (by simp)]
    exact World.alloc_heap_new w o
set_option maxRecDepth 100000 in
set_option maxHeartbeats 2000000 in
theorem leaf_Find.calls (a0_0 : Int) (a0_1 : Int) (a0_2 : ByteArray) (A0_3 : Option Addr) (c0_3 : Nat) (l0_3 : List S32) (a1 : ByteArray) (r1 : Bool) (r2 : ByteArray) (r3 r4 : Int) (r5 : Bool) (w : World) (hr0_3 : Kd.C k32 w A0_3 l0_3.length l0_3) (hc0_3 : l0_3.length ≤ c0_3) (h : leaf_Find.f a0_0 a0_1 a0_2 l0_3 a1 = some (r1, r2, r3, r4, r5)) :
    Calls Tryz.prog 13 #[.agg #[.int .i64 a0_0, .int .i64 a0_1, .string a0_2, .slice A0_3 l0_3.length c0_3], .string a1] w fun e w' => e = .returned (.tuple #[.agg #[.bool r1, .string r2, .int .i64 r3, .int .i64 r4], .bool r5]) ∧ Below w.heap.size w w' := by
  unfold leaf_Find.f at h
  by_cases hs : SortedI l0_3 ∧ l0_3.length ≤ 1000000000
  · rw [if_pos hs] at h
    obtain ⟨hs1, hs2⟩ := hs
    have HH := Aside0.mk h
    have HS := Aside0.mk hs1
    have HR := Aside0.mk hr0_3
    have HRs := Aside0.mk (Kd.C_below hr0_3 (below_alloc (below_alloc (Below.refl w.heap.size w) (.cells #[.int .i64 a0_0, .int .i64 a0_1, .string a0_2, .slice A0_3 l0_3.length c0_3] 24)) (.cells #[.bool false, .string ⟨#[]⟩, .int .i64 0, .int .i64 0] 30)))
    clear h hs1 hr0_3 hc0_3
    go_enter Tryz.func13, Tryz.ntmps13
    go_wp2_with fail
    refine (leaf_search.calls A0_3 c0_3 l0_3 a1 _ HRs.out hs2 HS.out).mono ?_
    rintro e w3 ⟨i, rfl, hst, h3⟩
    obtain ⟨hx, hb, hbx⟩ := find_open h3
    have hbx : Block w3 w.heap.size 24 #[.int .i64 a0_0, .int .i64 a0_1, .string a0_2, .slice A0_3 l0_3.length c0_3] := hbx
    have HX := Aside0.mk hx
    have HB := Aside0.mk hb
    have yq3 := hbx.cell 3 (by simp)
    clear hx hb h3 hbx
    have rq0 := HX.out.cell 0 (by simp)
    have rq1 := HX.out.cell 1 (by simp)
    have rq2 := HX.out.cell 2 (by simp)
    have rq3 := HX.out.cell 3 (by simp)
    have rf0 := HX.out.frozen 0
    have rf1 := HX.out.frozen 1
    have rf2 := HX.out.frozen 2
    have rf3 := HX.out.frozen 3
    by_cases ha : isAt l0_3 a1 i = true
    · have hi : i < l0_3.length := by
        unfold isAt at ha
        by_cases hi : i < l0_3.length
        · exact hi
        · rw [dif_neg hi] at ha; cases ha
      have hf := HH.out
      rw [find_at l0_3 a1 i hst hi ha] at hf
      simp only [Option.some.injEq, Prod.mk.injEq] at hf
      obtain ⟨ad0, e0, q0, q1, q2, q3, q4⟩ := at_T32 HR.out ((i : Nat) : Int) (by omega) (by omega)
      cases e0
      rw [Int.toNat_natCast] at q0 q1 q2 q3 q4
      replace q1 := (HB.out.cell (World.block_lt_of_cell? w _ q1)).trans q1
      replace q2 := (HB.out.cell (World.block_lt_of_cell? w _ q2)).trans q2
      replace q3 := (HB.out.cell (World.block_lt_of_cell? w _ q3)).trans q3
      replace q4 := (HB.out.cell (World.block_lt_of_cell? w _ q4)).trans q4
      have hx0 : rd_T32 l0_3 ((i : Nat) : Int) = l0_3[i] := by unfold rd_T32; rw [Int.toNat_natCast, List.getD_eq_getElem?_getD, List.getElem?_eq_getElem hi]; rfl
      rw [hx0] at q1 q2 q3 q4
      clear hx0 q0
      generalize l0_3[i] = x at q1 q2 q3 q4 hf
      obtain ⟨rfl, rfl, rfl, rfl, rfl⟩ := hf
      rw [ha]
      clear ha hst
      go_wp2
      refine bodyPost_ret (v := .tuple #[.agg #[.bool x.f1.f0, .string x.f1.f1, .int .i64 x.f1.f2, .int .i64 x.f1.f3], .bool true]) (by simp [results, Tryz.results13, go_sem, rq0, rq1, rq2, rq3, rf0, rf1, rf2, rf3]) rfl ⟨rfl, ?_⟩
      exact below_set (below_set (below_set (below_set HB.out (Nat.le_succ _)) (Nat.le_succ _)) (Nat.le_succ _)) (Nat.le_succ _)
    · have ha2 : isAt l0_3 a1 i = false := by simpa using ha
      have hf := HH.out
      rw [find_no l0_3 a1 i HS.out hst ha2] at hf
      simp only [Option.some.injEq, Prod.mk.injEq] at hf
      obtain ⟨rfl, rfl, rfl, rfl, rfl⟩ := hf
      rw [ha2]
      clear ha ha2 hst
      go_wp2
      refine bodyPost_ret (v := .tuple #[.agg #[.bool false, .string ⟨#[]⟩, .int .i64 0, .int .i64 0], .bool false]) (by simp [results, Tryz.results13, go_sem, rq0, rq1, rq2, rq3, rf0, rf1, rf2, rf3]) rfl ⟨rfl, ?_⟩
      exact below_set (below_set (below_set (below_set HB.out (Nat.le_succ _)) (Nat.le_succ _)) (Nat.le_succ _)) (Nat.le_succ _)
  · rw [if_neg hs] at h
    cases h


end Go.Proofs.YtmheajenlhlbhaaGreatDoor.X

