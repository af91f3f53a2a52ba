/- What functions of the given program compute, step by step: the walks that the law PageMoves leans on, part 6. No conditions. -/
import Derived.Test.YtlbodfkhenkcjaaGreatDoorUPageMoves05
import Derived.Test.YtlbodfkhenkcjaaGreatDoorUPageMoves04
import Derived.SliceStrings
namespace Go.Proofs.YtlbodfkhenkcjaaGreatDoor.X
open Go Go.Proofs Go.RowKit Go.Proofs.YtlbodfkhenkcjaaGreatDoor.D
set_option maxRecDepth 100000
set_option maxHeartbeats 1000000
set_option linter.unusedVariables false
set_option linter.unusedSimpArgs false
variable {I : D.Inv}
attribute [local irreducible] D.DPure D.DEff D.callable opH opB opE mayE mayT sealS rdN rdE fourB zeroB

def c63 : DFun := ⟨48, [.t 2], .seq (.reg [⟨some 1, .box (.t 0), none⟩, ⟨some 2, .mv (.c (.bool false)), none⟩]) (.seq (.reg [⟨some 3, .fa 0 (.t 1), none⟩, ⟨some 4, .ld 1 false (.t 3), none⟩, ⟨some 5, .call 67 [.t 4], none⟩, ⟨some 6, .mv (.t 5), none⟩, ⟨some 7, .fa 1 (.t 1), some (6, true)⟩, ⟨some 8, .ld 1 false (.t 7), some (6, true)⟩, ⟨some 9, .bin .geq (.t 8) (.c (.int .i64 2)), some (6, true)⟩, ⟨some 10, .pick (.t 6) (.t 9) (.c (.bool false)), none⟩, ⟨some 11, .mv (.t 10), none⟩, ⟨some 12, .fa 1 (.t 1), some (11, true)⟩, ⟨some 13, .ld 1 false (.t 12), some (11, true)⟩, ⟨some 14, .bin .leq (.t 13) (.c (.int .i64 4096)), some (11, true)⟩, ⟨some 15, .pick (.t 11) (.t 14) (.c (.bool false)), none⟩, ⟨some 16, .mv (.t 15), none⟩, ⟨some 17, .fa 2 (.t 1), some (16, true)⟩, ⟨some 18, .ld 1 false (.t 17), some (16, true)⟩, ⟨some 19, .bin .geq (.t 18) (.c (.int .i64 1)), some (16, true)⟩, ⟨some 20, .pick (.t 16) (.t 19) (.c (.bool false)), none⟩, ⟨some 21, .mv (.t 20), none⟩, ⟨some 22, .fa 2 (.t 1), some (21, true)⟩, ⟨some 23, .ld 1 false (.t 22), some (21, true)⟩, ⟨some 24, .fa 1 (.t 1), some (21, true)⟩, ⟨some 25, .ld 1 false (.t 24), some (21, true)⟩, ⟨some 26, .bin .lss (.t 23) (.t 25), some (21, true)⟩, ⟨some 27, .pick (.t 21) (.t 26) (.c (.bool false)), none⟩, ⟨some 28, .mv (.t 27), none⟩, ⟨some 29, .fa 3 (.t 1), some (28, true)⟩, ⟨some 30, .ld 1 false (.t 29), some (28, true)⟩, ⟨some 31, .bin .geq (.t 30) (.c (.int .i64 0)), some (28, true)⟩, ⟨some 32, .pick (.t 28) (.t 31) (.c (.bool false)), none⟩, ⟨some 33, .mv (.t 32), none⟩, ⟨some 34, .fa 3 (.t 1), some (33, true)⟩, ⟨some 35, .ld 1 false (.t 34), some (33, true)⟩, ⟨some 36, .bin .lss (.t 35) (.c (.int .i64 256)), some (33, true)⟩, ⟨some 37, .pick (.t 33) (.t 36) (.c (.bool false)), none⟩, ⟨some 38, .mv (.t 37), none⟩, ⟨some 39, .fa 4 (.t 1), some (38, true)⟩, ⟨some 40, .ld 1 false (.t 39), some (38, true)⟩, ⟨some 41, .bin .geq (.t 40) (.c (.int .i64 0)), some (38, true)⟩, ⟨some 42, .pick (.t 38) (.t 41) (.c (.bool false)), none⟩, ⟨some 43, .mv (.t 42), none⟩, ⟨some 44, .fa 4 (.t 1), some (43, true)⟩, ⟨some 45, .ld 1 false (.t 44), some (43, true)⟩, ⟨some 46, .bin .leq (.t 45) (.c (.int .i64 2147483647)), some (43, true)⟩, ⟨some 47, .pick (.t 43) (.t 46) (.c (.bool false)), none⟩, ⟨some 2, .mv (.t 47), none⟩]) .ret)⟩
theorem e63 : cfun Tryz.prog 63 = some c63 := by kernel_rfl
def c32 : DFun := ⟨50, [.t 2, .t 3], .seq (.reg [⟨some 1, .box (.t 0), none⟩, ⟨some 2, .mv (.c (.string ⟨#[]⟩)), none⟩, ⟨some 3, .mv (.c (.int .i64 0)), none⟩]) (.seq (.seq (.reg [⟨some 7, .ld 5 true (.t 1), none⟩, ⟨some 8, .call 63 [.t 7], none⟩, ⟨some 9, .un .not (.t 8), none⟩]) (.cond (.t 9) (.seq (.reg [⟨some 2, .mv (.c (.string ⟨#[]⟩)), none⟩, ⟨some 3, .mv (.c (.int .i64 3)), none⟩]) .ret) .skip)) (.seq (.reg [⟨some 4, .mv (.c (.string ⟨#[119, 105, 116, 104, 121]⟩)), none⟩]) (.seq (.seq (.reg [⟨some 10, .fa 0 (.t 1), none⟩, ⟨some 11, .ld 1 false (.t 10), none⟩, ⟨some 12, .fa 1 (.t 1), none⟩, ⟨some 13, .ld 1 false (.t 12), none⟩, ⟨some 14, .fa 4 (.t 1), none⟩, ⟨some 15, .ld 1 false (.t 14), none⟩, ⟨some 16, .bsl 1 [.t 11, .t 13, .t 15], none⟩, ⟨some 17, .len false (.t 16), none⟩, ⟨some 18, .mv (.c (.int .i64 0)), none⟩]) (.block 0 (.loop (.seq (.reg [⟨some 19, .bin .lss (.t 18) (.t 17), none⟩]) (.seq (.cond (.t 19) .skip (.exit 0)) (.seq (.block 1 (.seq (.reg [⟨some 20, .ixa 1 (.t 16) (.t 18), none⟩, ⟨some 21, .ld 1 false (.t 20), none⟩, ⟨some 6, .mv (.t 21), none⟩]) (.reg [⟨some 22, .mv (.t 4), none⟩, ⟨some 23, .mv (.t 6), none⟩, ⟨some 24, .cvt .u32 (.t 23), none⟩, ⟨some 25, .call 64 [.t 24], none⟩, ⟨some 26, .bin .add (.t 22) (.t 25), none⟩, ⟨some 4, .mv (.t 26), none⟩]))) (.reg [⟨some 27, .bin .add (.t 18) (.c (.int .i64 1)), none⟩, ⟨some 18, .mv (.t 27), none⟩]))))))) (.seq (.reg [⟨some 28, .mv (.t 4), none⟩, ⟨some 29, .fa 0 (.t 1), none⟩, ⟨some 30, .ld 1 false (.t 29), none⟩, ⟨some 31, .bin .sub (.t 30) (.c (.int .i64 16)), none⟩, ⟨some 32, .mv (.t 4), none⟩, ⟨some 33, .len true (.t 32), none⟩, ⟨some 34, .bin .sub (.t 31) (.t 33), none⟩, ⟨some 35, .bin .sub (.t 34) (.c (.int .i64 1)), none⟩, ⟨some 36, .call 65 [.c (.string ⟨#[0]⟩), .t 35], none⟩, ⟨some 37, .bin .add (.t 36) (.c (.string ⟨#[87]⟩)), none⟩, ⟨some 38, .bin .add (.t 28) (.t 37), none⟩, ⟨some 4, .mv (.t 38), none⟩]) (.seq (.reg [⟨some 39, .fa 3 (.t 1), none⟩, ⟨some 40, .ld 1 false (.t 39), none⟩, ⟨some 41, .fa 2 (.t 1), none⟩, ⟨some 42, .ld 1 false (.t 41), none⟩, ⟨some 43, .bld [.int .i64 0, .int .i64 0, .int .i64 0, .int .i64 0, .int .i64 0] [(0, 1, .c (.int .i64 1)), (1, 1, .t 40), (3, 1, .t 42)], none⟩, ⟨some 44, .mv (.t 4), none⟩, ⟨some 45, .fa 0 (.t 1), none⟩, ⟨some 46, .ld 1 false (.t 45), none⟩, ⟨some 47, .call 66 [.t 43, .t 44, .t 46], none⟩, ⟨some 48, .ext (.t 47) 0, none⟩, ⟨some 49, .ext (.t 47) 1, none⟩, ⟨some 2, .mv (.t 48), none⟩, ⟨some 3, .mv (.t 49), none⟩]) .ret)))))⟩
theorem e32 : cfun Tryz.prog 32 = some c32 := by kernel_rfl
def c28 : DFun := ⟨72, [.c 2 5 true, .t 3], .seq (.reg [⟨some 2, .zero (.agg #[.int .i64 0, .int .i64 0, .int .i64 0, .int .i64 0, .int .i64 0]), none⟩, ⟨some 3, .mv (.c (.int .i64 0)), none⟩]) (.seq (.reg [⟨some 16, .mv (.t 0), none⟩, ⟨some 17, .call 51 [.t 16], none⟩, ⟨some 15, .mv (.t 17), none⟩, ⟨some 18, .ext (.t 15) 0, none⟩, ⟨some 19, .ext (.t 15) 1, none⟩, ⟨some 20, .ext (.t 15) 2, none⟩, ⟨some 4, .zero (.agg #[.int .i64 0, .int .i64 0, .int .i64 0, .int .i64 0, .int .i64 0]), none⟩, ⟨none, .st 5 (.t 4) (.t 18), none⟩, ⟨some 5, .mv (.t 19), none⟩, ⟨some 6, .mv (.t 20), none⟩]) (.seq (.seq (.reg [⟨some 21, .mv (.t 6), none⟩, ⟨some 22, .bin .neq (.t 21) (.c (.int .i64 0)), none⟩]) (.cond (.t 22) (.seq (.reg [⟨some 23, .bld [.int .i64 0, .int .i64 0, .int .i64 0, .int .i64 0, .int .i64 0] [], none⟩, ⟨none, .st 5 (.t 2) (.t 23), none⟩, ⟨some 3, .mv (.c (.int .i64 3)), none⟩]) .ret) .skip)) (.seq (.reg [⟨some 7, .zero (.agg #[.int .i64 0, .int .i64 0, .int .i64 0]), none⟩]) (.seq (.reg [⟨some 8, .mv (.c (.int .i64 5)), none⟩]) (.seq .skip (.seq (.seq (.reg [⟨some 24, .mv (.c (.int .i64 0)), none⟩]) (.block 0 (.loop (.seq (.reg [⟨some 25, .bin .lss (.t 24) (.c (.int .i64 3)), none⟩]) (.seq (.cond (.t 25) .skip (.exit 0)) (.seq (.block 1 (.seq (.reg [⟨some 26, .mv (.t 24), none⟩, ⟨some 9, .mv (.t 26), none⟩]) (.seq (.reg [⟨some 28, .mv (.t 5), none⟩, ⟨some 29, .mv (.t 8), none⟩, ⟨some 30, .call 59 [.t 28, .t 29], none⟩, ⟨some 27, .mv (.t 30), none⟩, ⟨some 31, .ext (.t 27) 0, none⟩, ⟨some 32, .ext (.t 27) 1, none⟩, ⟨some 10, .mv (.t 31), none⟩, ⟨some 11, .mv (.t 32), none⟩]) (.seq (.seq (.reg [⟨some 33, .mv (.t 11), none⟩, ⟨some 34, .bin .neq (.t 33) (.c (.int .i64 0)), none⟩]) (.cond (.t 34) (.exit 0) .skip)) (.seq (.reg [⟨some 35, .mv (.t 9), none⟩, ⟨some 36, .mv (.t 10), none⟩, ⟨some 37, .cvt .i64 (.t 36), none⟩, ⟨some 38, .ixp 3 1 (.t 7) (.t 35), none⟩, ⟨none, .st 1 (.t 38) (.t 37), none⟩]) (.reg [⟨some 39, .mv (.t 8), none⟩, ⟨some 40, .bin .add (.t 39) (.c (.int .i64 4)), none⟩, ⟨some 8, .mv (.t 40), none⟩])))))) (.reg [⟨some 41, .bin .add (.t 24) (.c (.int .i64 1)), none⟩, ⟨some 24, .mv (.t 41), none⟩]))))))) (.seq (.reg [⟨some 42, .ixp 3 1 (.t 7) (.c (.int .i64 0)), none⟩, ⟨some 43, .ld 1 false (.t 42), none⟩, ⟨some 44, .ixp 3 1 (.t 7) (.c (.int .i64 1)), none⟩, ⟨some 45, .ld 1 false (.t 44), none⟩, ⟨some 46, .fa 3 (.t 4), none⟩, ⟨some 47, .ld 1 false (.t 46), none⟩, ⟨some 48, .fa 1 (.t 4), none⟩, ⟨some 49, .ld 1 false (.t 48), none⟩, ⟨some 50, .ixp 3 1 (.t 7) (.c (.int .i64 2)), none⟩, ⟨some 51, .ld 1 false (.t 50), none⟩, ⟨some 52, .bld [.int .i64 0, .int .i64 0, .int .i64 0, .int .i64 0, .int .i64 0] [(0, 1, .t 43), (1, 1, .t 45), (2, 1, .t 47), (3, 1, .t 49), (4, 1, .t 51)], none⟩, ⟨some 12, .zero (.agg #[.int .i64 0, .int .i64 0, .int .i64 0, .int .i64 0, .int .i64 0]), none⟩, ⟨none, .st 5 (.t 12) (.t 52), none⟩]) (.seq (.seq (.reg [⟨some 54, .ld 5 true (.t 12), none⟩, ⟨some 55, .call 32 [.t 54], none⟩, ⟨some 53, .mv (.t 55), none⟩, ⟨some 56, .ext (.t 53) 0, none⟩, ⟨some 57, .ext (.t 53) 1, none⟩, ⟨some 13, .mv (.t 56), none⟩, ⟨some 14, .mv (.t 57), none⟩]) (.seq (.reg [⟨some 58, .mv (.t 14), none⟩, ⟨some 59, .bin .neq (.t 58) (.c (.int .i64 0)), none⟩, ⟨some 60, .mv (.t 59), none⟩, ⟨some 61, .mv (.t 13), some (60, false)⟩, ⟨some 62, .mv (.t 0), some (60, false)⟩, ⟨some 63, .bin .neq (.t 61) (.t 62), some (60, false)⟩, ⟨some 64, .pick (.t 60) (.c (.bool true)) (.t 63), none⟩, ⟨some 65, .mv (.t 64), none⟩, ⟨some 66, .ld 5 true (.t 12), some (65, false)⟩, ⟨some 67, .bld [.int .i64 0, .int .i64 0, .int .i64 0, .int .i64 0, .int .i64 0] [], some (65, false)⟩, ⟨some 68, .eqs false [1, 1, 1, 1, 1] (.t 66) (.t 67), some (65, false)⟩, ⟨some 69, .pick (.t 65) (.c (.bool true)) (.t 68), none⟩]) (.cond (.t 69) (.seq (.reg [⟨some 70, .bld [.int .i64 0, .int .i64 0, .int .i64 0, .int .i64 0, .int .i64 0] [], none⟩, ⟨none, .st 5 (.t 2) (.t 70), none⟩, ⟨some 3, .mv (.c (.int .i64 3)), none⟩]) .ret) .skip))) (.seq (.reg [⟨some 71, .ld 5 true (.t 12), none⟩, ⟨none, .st 5 (.t 2) (.t 71), none⟩, ⟨some 3, .mv (.c (.int .i64 0)), none⟩]) .ret)))))))))⟩
theorem e28 : cfun Tryz.prog 28 = some c28 := by kernel_rfl
structure MetaM where
  p : Int
  pages : Int
  root : Int
  level : Int
  pairs : Int
abbrev metaV (m : MetaM) : Value := .agg #[.int .i64 m.p, .int .i64 m.pages, .int .i64 m.root, .int .i64 m.level, .int .i64 m.pairs]
def mayM (m : MetaM) : Prop := sizeB m.p = true ∧ 2 ≤ m.pages ∧ m.pages ≤ 4096 ∧ 1 ≤ m.root ∧ m.root < m.pages ∧ 0 ≤ m.level ∧ m.level < 256 ∧ 0 ≤ m.pairs ∧ m.pairs ≤ 2147483647
instance (m : MetaM) : Decidable (mayM m) := inferInstanceAs (Decidable (_ ∧ _))
theorem mayM_D0 (p g r l q : Int) : DPure Tp I 63 [.v (.agg #[.int .i64 p, .int .i64 g, .int .i64 r, .int .i64 l, .int .i64 q])] (BV (decide (mayM ⟨p, g, r, l, q⟩))) := by
  by_cases hs : sizeB p = true
  · have d1 : DPure Tp I 67 [VN .i64 p] (BV true) := by have := size_D (I := I) p; rwa [hs] at this
    refine z_pure (e0 := ?e0x1) mix e63 rfl ?z01 ?_
    (case z01 => exact rfl)
    dsimp only [c63]
    repeat' (first | ((with_reducible apply z_call); (case' hd => apply d1); (case hw => exact wknL_ok rfl); (try any_goals exact sd)) | refine zs ?_ | refine Br.mk ?_ ?_ | intro _ | refine zf ?_ | fail)
    all_goals first
      | (refine bool_of (b := true) ?_ (Eq.symm (decide_eq_true (by refine ⟨hs, ?_⟩; dsimp only; omega))); kernel_rfl)
      | (refine bool_of (b := false) ?_ (Eq.symm (decide_eq_false (fun h => by have h2 := h.2; dsimp only at h2; omega))); kernel_rfl)
  · have d1 : DPure Tp I 67 [VN .i64 p] (BV false) := by have := size_D (I := I) p; rwa [show sizeB p = false by simpa using hs] at this
    have hn : ¬ mayM ⟨p, g, r, l, q⟩ := fun h => hs h.1
    refine z_pure (e0 := ?e0x2) mix e63 rfl ?z02 ?_
    (case z02 => exact rfl)
    dsimp only [c63]
    repeat' (first | ((with_reducible apply z_call); (case' hd => apply d1); (case hw => exact wknL_ok rfl); (try any_goals exact sd)) | refine zs ?_ | refine Br.mk ?_ ?_ | intro _ | refine zf ?_ | fail)
    exact bool_of (b := false) (by kernel_rfl) (decide_eq_false hn).symm
def withyS : ByteArray := ⟨#[119, 105, 116, 104, 121]⟩
def mbS (p g q : Int) : Nat → ByteArray
  | 0 => withyS
  | 1 => withyS ++ fourB p
  | 2 => withyS ++ fourB p ++ fourB g
  | _ => withyS ++ fourB p ++ fourB g ++ fourB q
theorem mbS_size (p g q : Int) (i : Nat) : (mbS p g q i).size ≤ 17 := by
  unfold mbS
  split <;> simp only [ByteArray.size_append, fourB_size, show withyS.size = 5 from rfl] <;> omega
theorem mbS_3 (p g q : Int) : (mbS p g q 3).size = 17 := by simp only [mbS, ByteArray.size_append, fourB_size, show withyS.size = 5 from rfl]
def metB (m : MetaM) : ByteArray := mbS m.p m.pages m.pairs 3 ++ (zeroB (m.p - 16 - (mbS m.p m.pages m.pairs 3).size - 1).toNat ++ ⟨#[87]⟩)
def metH (m : MetaM) : HeadM := ⟨1, m.level, 0, m.root, 0⟩
def meE (m : MetaM) : Int := if mayM m then mayE (metH m) (metB m) m.p else 3
def meS (m : MetaM) : ByteArray := if meE m = 0 then sealS (metH m) (metB m) m.p else nilS
theorem menc_D0 (p g r l q : Int) : DPure Tp I 32 [.v (.agg #[.int .i64 p, .int .i64 g, .int .i64 r, .int .i64 l, .int .i64 q])] (.v (.tuple #[.string (meS ⟨p, g, r, l, q⟩), .int .i64 (meE ⟨p, g, r, l, q⟩)])) := by
  by_cases hm : mayM ⟨p, g, r, l, q⟩
  · have d1 := dp_t (mayM_D0 (I := I) p g r l q) hm
    have hE : meE ⟨p, g, r, l, q⟩ = mayE (metH ⟨p, g, r, l, q⟩) (metB ⟨p, g, r, l, q⟩) p := if_pos hm
    have hS : meS ⟨p, g, r, l, q⟩ = sealS (metH ⟨p, g, r, l, q⟩) (metB ⟨p, g, r, l, q⟩) p := by
      unfold meS
      rw [hE]
      split
      · rfl
      · unfold sealS; rw [if_neg ‹_›]
    obtain ⟨g1, g2, g3, g4, g5, g6, g7, g8, g9⟩ := hm
    dsimp only at g1 g2 g3 g4 g5 g6 g7 g8 g9
    have hp := sizeB_in g1
    have h3 := mbS_3 p g q
    have hW : (⟨#[87]⟩ : ByteArray).size = 1 := rfl
    have hz := zeroB_size (p - 16 - (mbS p g q 3).size - 1).toNat
    have hB : (metB ⟨p, g, r, l, q⟩).size ≤ 1000000 := by unfold metB; simp only [ByteArray.size_append, zeroB_size]; omega
    have dR := repeat_D (I := I) (p - 16 - (mbS p g q 3).size - 1) (by omega)
    have dS := seal_D0 (I := I) 1 l 0 r 0 (metH ⟨p, g, r, l, q⟩) rfl (metB ⟨p, g, r, l, q⟩) p hB
    refine z_pure (e0 := ?e0x3) mix e32 rfl ?z03 ?_
    (case z03 => exact rfl)
    dsimp only [c32]
    repeat' (first | ((with_reducible apply z_call); (case' hd => apply d1); (case hw => exact wknL_ok rfl); (try any_goals exact sd)) | refine zs ?_ | refine Br.mk ?_ ?_ | intro _ | refine zf ?_ | fail)
    refine z_loop (fun i : Nat => ⟨[(1, .lp 0 0), (4, SV (mbS p g q i)), (16, .full 1 [VN .i64 p, VN .i64 g, VN .i64 q]), (17, VN .i64 3), (18, VN .i64 i)], [[VN .i64 p, VN .i64 g, VN .i64 r, VN .i64 l, VN .i64 q]], []⟩) (fun i : Nat => i ≤ 3) (fun i : Nat => 3 - i) (0) ?_ ?_ fun i hi => ?_
    · exact (less_of 1 0 0 rfl rfl (lessE_cons (ltd_eq rfl (by kernel_rfl)) (lessE_cons (ltd_eq rfl (by kernel_rfl)) (lessE_cons (ltd_eq rfl (by kernel_rfl)) (lessE_cons (ltd_eq rfl (by kernel_rfl)) (lessE_cons (ltd_eq rfl (by kernel_rfl)) lessE_nil))))) (by kernel_rfl) (by kernel_rfl) (by kernel_rfl) (by kernel_rfl))
    · omega
    have hsz := mbS_size p g q i
    have hf1 := fourB_size p
    have hf2 := fourB_size g
    have hf3 := fourB_size q
    have hc : i = 0 ∨ i = 1 ∨ i = 2 ∨ i = 3 := by omega
    rcases hc with rfl | rfl | rfl | rfl
    · repeat' (first | ((with_reducible apply z_call); (case' hd => apply four_D); (case hw => exact wknL_ok rfl); (try any_goals exact sd)) | refine zs ?_ | refine Br.mk ?_ ?_ | intro _ | refine zf ?_ | fail)
      exact ⟨1, (less_of 1 0 0 rfl rfl (lessE_cons (ltd_eq rfl (by kernel_rfl)) (lessE_cons (ltd_eq rfl (by kernel_rfl)) (lessE_cons (ltd_eq rfl (by kernel_rfl)) (lessE_cons (ltd_eq rfl (by kernel_rfl)) (lessE_cons (ltd_eq rfl (by kernel_rfl)) lessE_nil))))) (by kernel_rfl) (by kernel_rfl) (by kernel_rfl) (by kernel_rfl)), by omega, by omega⟩
    · repeat' (first | ((with_reducible apply z_call); (case' hd => apply four_D); (case hw => exact wknL_ok rfl); (try any_goals exact sd)) | refine zs ?_ | refine Br.mk ?_ ?_ | intro _ | refine zf ?_ | fail)
      exact ⟨2, (less_of 1 0 0 rfl rfl (lessE_cons (ltd_eq rfl (by kernel_rfl)) (lessE_cons (ltd_eq rfl (by kernel_rfl)) (lessE_cons (ltd_eq rfl (by kernel_rfl)) (lessE_cons (ltd_eq rfl (by kernel_rfl)) (lessE_cons (ltd_eq rfl (by kernel_rfl)) lessE_nil))))) (by kernel_rfl) (by kernel_rfl) (by kernel_rfl) (by kernel_rfl)), by omega, by omega⟩
    · repeat' (first | ((with_reducible apply z_call); (case' hd => apply four_D); (case hw => exact wknL_ok rfl); (try any_goals exact sd)) | refine zs ?_ | refine Br.mk ?_ ?_ | intro _ | refine zf ?_ | fail)
      exact ⟨3, (less_of 1 0 0 rfl rfl (lessE_cons (ltd_eq rfl (by kernel_rfl)) (lessE_cons (ltd_eq rfl (by kernel_rfl)) (lessE_cons (ltd_eq rfl (by kernel_rfl)) (lessE_cons (ltd_eq rfl (by kernel_rfl)) (lessE_cons (ltd_eq rfl (by kernel_rfl)) lessE_nil))))) (by kernel_rfl) (by kernel_rfl) (by kernel_rfl) (by kernel_rfl)), by omega, by omega⟩
    · repeat' (first | ((with_reducible apply z_call); (case' hd => apply dR); (case hw => exact wknL_ok rfl); (try any_goals exact sd)) | ((with_reducible apply z_call); (case' hd => apply dS); (case hw => exact wknL_ok rfl); (try any_goals exact sd)) | refine zs ?_ | refine Br.mk ?_ ?_ | intro _ | refine zf ?_ | fail)
      refine tup2_of (a := .string (sealS (metH ⟨p, g, r, l, q⟩) (metB ⟨p, g, r, l, q⟩) p)) (b := .int .i64 (mayE (metH ⟨p, g, r, l, q⟩) (metB ⟨p, g, r, l, q⟩) p)) (by kernel_rfl) ?_ ?_
      · exact congrArg Value.string hS
      · exact congrArg (Value.int .i64) hE
  · have d1 := dp_f (mayM_D0 (I := I) p g r l q) hm
    have hE : meE ⟨p, g, r, l, q⟩ = 3 := if_neg hm
    refine z_pure (e0 := ?e0x4) mix e32 rfl ?z04 ?_
    (case z04 => exact rfl)
    dsimp only [c32]
    repeat' (first | ((with_reducible apply z_call); (case' hd => apply d1); (case hw => exact wknL_ok rfl); (try any_goals exact sd)) | refine zs ?_ | refine Br.mk ?_ ?_ | intro _ | refine zf ?_ | fail)
    refine tup2_of (a := .string nilS) (b := .int .i64 3) (by kernel_rfl) ?_ ?_
    · exact congrArg Value.string (if_neg (by rw [hE]; decide))
    · exact congrArg (Value.int .i64) hE
end Go.Proofs.YtlbodfkhenkcjaaGreatDoor.X


namespace Go.Proofs.YtlbodfkhenkcjaaGreatDoor.X
open Go Go.Proofs Go.RowKit Go.Proofs.YtlbodfkhenkcjaaGreatDoor.D
set_option maxRecDepth 100000
set_option maxHeartbeats 1000000
set_option linter.unusedVariables false
set_option linter.unusedSimpArgs false
variable {I : D.Inv}
attribute [local irreducible] D.DPure D.DEff D.callable opH opB opE rdN rdE meE meS

def mRaw (s : ByteArray) : MetaM := ⟨rdN (opB s) 5, rdN (opB s) 9, (opH s).right, (opH s).level, rdN (opB s) 13⟩
def mtP (s : ByteArray) : Prop := opE s = 0 ∧ meE (mRaw s) = 0 ∧ meS (mRaw s) = s
instance (s : ByteArray) : Decidable (mtP s) := inferInstanceAs (Decidable (_ ∧ _))
def meta0 : MetaM := ⟨0, 0, 0, 0, 0⟩
def mtM (s : ByteArray) : MetaM := if mtP s then mRaw s else meta0
def mtE (s : ByteArray) : Int := if mtP s then 0 else 3
theorem mt_yes {s : ByteArray} (h : mtP s) : mtM s = mRaw s ∧ mtE s = 0 := ⟨if_pos h, if_pos h⟩
theorem mt_no {s : ByteArray} (h : ¬ mtP s) : mtM s = meta0 ∧ mtE s = 3 := ⟨if_neg h, if_neg h⟩
theorem meE_0 {m : MetaM} (h : meE m = 0) : mayM m := by
  by_cases hm : mayM m
  · exact hm
  · unfold meE at h; rw [if_neg hm] at h; omega
def mlV (b : ByteArray) : Nat → List DV
  | 0 => [VN .i64 0, VN .i64 0, VN .i64 0]
  | 1 => [VN .i64 (rdN b 5), VN .i64 0, VN .i64 0]
  | 2 => [VN .i64 (rdN b 5), VN .i64 (rdN b 9), VN .i64 0]
  | _ => [VN .i64 (rdN b 5), VN .i64 (rdN b 9), VN .i64 (rdN b 13)]
theorem meta_D (s : ByteArray) (hs : s.size ≤ 1000000) : DPure Tp I 28 [SV s] (.v (.tuple #[metaV (mtM s), .int .i64 (mtE s)])) := by
  have hin := opH_in s
  have hbs := opB_size s
  have hmt : mtP s ↔ (opE s = 0 ∧ meE ⟨rdN (opB s) 5, rdN (opB s) 9, (opH s).right, (opH s).level, rdN (opB s) 13⟩ = 0 ∧ meS ⟨rdN (opB s) 5, rdN (opB s) 9, (opH s).right, (opH s).level, rdN (opB s) 13⟩ = s) := Iff.rfl
  have hraw : mtP s → mtM s = ⟨rdN (opB s) 5, rdN (opB s) 9, (opH s).right, (opH s).level, rdN (opB s) 13⟩ := fun h => (mt_yes h).1
  have hbz : opE s = 0 → 112 ≤ (opB s).size := by
    intro h
    have := op_in s h
    rw [this.2.2]
    have hp := sizeB_in this.1.1
    unfold bodyOf
    rw [ByteArray.size_extract]
    omega
  obtain ⟨⟨k, l, c, r, m⟩, hh⟩ : ∃ h, opH s = h := ⟨_, rfl⟩
  obtain ⟨b, hb⟩ : ∃ b, opB s = b := ⟨_, rfl⟩
  obtain ⟨e, he⟩ : ∃ e, opE s = e := ⟨_, rfl⟩
  have d0 := openE_D (I := I) s k l c r m b e hs hh hb he
  rw [hh, hb] at hmt hraw
  rw [he] at hmt hbz
  rw [hb] at hbz hbs
  rw [hh] at hin
  dsimp only at hin hmt hraw
  have no : ∀ {d : DV}, ¬ mtP s → d = .v (.tuple #[metaV meta0, .int .i64 3]) → Wk d (.v (.tuple #[metaV (mtM s), .int .i64 (mtE s)])) := fun h e => by rw [(mt_no h).1, (mt_no h).2, e]; exact .v _
  by_cases he0 : e = 0
  · have hz := hbz he0
    have e5 : rdE b 5 = 0 := (rdE_0 (by omega) (by omega)).1
    have e9 : rdE b 9 = 0 := (rdE_0 (by omega) (by omega)).1
    have e13 : rdE b 13 = 0 := (rdE_0 (by omega) (by omega)).1
    have n5 := rdN_lo e5
    have n9 := rdN_lo e9
    have n13 := rdN_lo e13
    have d5 := read_D (I := I) b 5 (by omega) (by omega)
    have d9 := read_D (I := I) b 9 (by omega) (by omega)
    have d13 := read_D (I := I) b 13 (by omega) (by omega)
    rw [e5] at d5
    rw [e9] at d9
    rw [e13] at d13
    have dE := menc_D0 (I := I) (rdN b 5) (rdN b 9) r l (rdN b 13)
    refine z_pure (e0 := ?e0x1) mix e28 rfl ?z01 ?_
    (case z01 => exact rfl)
    dsimp only [c28]
    repeat' (first | ((with_reducible apply z_call); (case' hd => apply d0); (case hw => exact wknL_ok rfl); (try any_goals exact sd)) | refine zs ?_ | refine Br.mk ?_ ?_ | intro _ | refine zf ?_ | fail)
    refine z_loop (fun i : Nat => ⟨[(0, SV s), (2, .lp 0 0), (4, .lp 1 0), (5, SV b), (7, .lp 2 0), (8, VN .i64 (5 + 4 * i)), (24, VN .i64 i)], [[VN .i64 0, VN .i64 0, VN .i64 0, VN .i64 0, VN .i64 0], [VN .i64 k, VN .i64 l, VN .i64 c, VN .i64 r, VN .i64 m], mlV b i], []⟩) (fun i : Nat => i ≤ 3) (fun i : Nat => 3 - i) (0) ?_ ?_ fun i hi => ?_
    · exact (less_of 3 0 0 rfl rfl (lessE_cons (ltd_eq rfl (by kernel_rfl)) (lessE_cons (ltd_eq rfl (by kernel_rfl)) (lessE_cons (ltd_eq rfl (by kernel_rfl)) (lessE_cons (ltd_eq rfl (by kernel_rfl)) (lessE_cons (ltd_eq rfl (by kernel_rfl)) (lessE_cons (ltd_eq rfl (by kernel_rfl)) (lessE_cons (ltd_eq rfl (by kernel_rfl)) lessE_nil))))))) (by kernel_rfl) (by kernel_rfl) (by kernel_rfl) (by kernel_rfl))
    · omega
    have hc : i = 0 ∨ i = 1 ∨ i = 2 ∨ i = 3 := by omega
    rcases hc with rfl | rfl | rfl | rfl
    · repeat' (first | ((with_reducible apply z_call); (case' hd => apply d5); (case hw => exact wknL_ok rfl); (try any_goals exact sd)) | refine zs ?_ | refine Br.mk ?_ ?_ | intro _ | refine zf ?_ | fail)
      exact ⟨1, (less_of 3 0 0 rfl rfl (lessE_cons (ltd_eq rfl (by kernel_rfl)) (lessE_cons (ltd_eq rfl (by kernel_rfl)) (lessE_cons (ltd_eq rfl (by kernel_rfl)) (lessE_cons (ltd_eq rfl (by kernel_rfl)) (lessE_cons (ltd_eq rfl (by kernel_rfl)) (lessE_cons (ltd_eq rfl (by kernel_rfl)) (lessE_cons (ltd_eq rfl (by kernel_rfl)) lessE_nil))))))) (by kernel_rfl) (by kernel_rfl) (by kernel_rfl) (by kernel_rfl)), by omega, by omega⟩
    · repeat' (first | ((with_reducible apply z_call); (case' hd => apply d9); (case hw => exact wknL_ok rfl); (try any_goals exact sd)) | refine zs ?_ | refine Br.mk ?_ ?_ | intro _ | refine zf ?_ | fail)
      exact ⟨2, (less_of 3 0 0 rfl rfl (lessE_cons (ltd_eq rfl (by kernel_rfl)) (lessE_cons (ltd_eq rfl (by kernel_rfl)) (lessE_cons (ltd_eq rfl (by kernel_rfl)) (lessE_cons (ltd_eq rfl (by kernel_rfl)) (lessE_cons (ltd_eq rfl (by kernel_rfl)) (lessE_cons (ltd_eq rfl (by kernel_rfl)) (lessE_cons (ltd_eq rfl (by kernel_rfl)) lessE_nil))))))) (by kernel_rfl) (by kernel_rfl) (by kernel_rfl) (by kernel_rfl)), by omega, by omega⟩
    · repeat' (first | ((with_reducible apply z_call); (case' hd => apply d13); (case hw => exact wknL_ok rfl); (try any_goals exact sd)) | refine zs ?_ | refine Br.mk ?_ ?_ | intro _ | refine zf ?_ | fail)
      exact ⟨3, (less_of 3 0 0 rfl rfl (lessE_cons (ltd_eq rfl (by kernel_rfl)) (lessE_cons (ltd_eq rfl (by kernel_rfl)) (lessE_cons (ltd_eq rfl (by kernel_rfl)) (lessE_cons (ltd_eq rfl (by kernel_rfl)) (lessE_cons (ltd_eq rfl (by kernel_rfl)) (lessE_cons (ltd_eq rfl (by kernel_rfl)) (lessE_cons (ltd_eq rfl (by kernel_rfl)) lessE_nil))))))) (by kernel_rfl) (by kernel_rfl) (by kernel_rfl) (by kernel_rfl)), by omega, by omega⟩
    · repeat' (first | ((with_reducible apply z_call); (case' hd => apply dE); (case hw => exact wknL_ok rfl); (try any_goals exact sd)) | refine zs ?_ | refine Br.mk ?_ ?_ | intro _ | refine zf ?_ | fail)
      all_goals first
        | exact no (fun h => ‹¬ meE _ = 0› (hmt.1 h).2.1) (by kernel_rfl)
        | exact no (fun h => ‹¬ meS _ = s› (hmt.1 h).2.2) (by kernel_rfl)
        | (exfalso
           have hm := sizeB_in (meE_0 ‹meE _ = 0›).1
           dsimp only at hm
           rename_i hq
           have h5 : (rdN b 5 == 0) = false := by simpa using (show rdN b 5 ≠ 0 by omega)
           rw [h5] at hq
           exact Bool.noConfusion hq)
        | (have hy : mtP s := hmt.2 ⟨he0, ‹_›, ‹_›⟩
           refine tup2_of (a := .agg #[.int .i64 (rdN b 5), .int .i64 (rdN b 9), .int .i64 r, .int .i64 l, .int .i64 (rdN b 13)]) (b := .int .i64 0) (by kernel_rfl) ?_ ?_
           · rw [hraw hy]
           · rw [(mt_yes hy).2])
  · have hn : ¬ mtP s := fun h => he0 (hmt.1 h).1
    refine z_pure (e0 := ?e0x2) mix e28 rfl ?z02 ?_
    (case z02 => exact rfl)
    dsimp only [c28]
    repeat' (first | ((with_reducible apply z_call); (case' hd => apply d0); (case hw => exact wknL_ok rfl); (try any_goals exact sd)) | refine zs ?_ | refine Br.mk ?_ ?_ | intro _ | refine zf ?_ | fail)
    exact no hn (by kernel_rfl)
end Go.Proofs.YtlbodfkhenkcjaaGreatDoor.X


namespace Go.Proofs.YtlbodfkhenkcjaaGreatDoor.X
open Go Go.Proofs Go.RowKit Go.Proofs.YtlbodfkhenkcjaaGreatDoor.D
set_option maxRecDepth 100000
set_option maxHeartbeats 1000000
set_option linter.unusedVariables false
set_option linter.unusedSimpArgs false
variable {I : D.Inv}
attribute [local irreducible] D.DPure D.DEff D.callable lfM lfE inM inE chM chE mtM mtE

def c45 : DFun := ⟨56, [.t 2], .seq (.reg [⟨some 2, .mv (.c .nilIface), none⟩]) (.seq (.seq (.reg [⟨some 11, .mv (.t 0), none⟩, ⟨some 12, .bin .eql (.t 11) (.c (.string ⟨#[]⟩)), none⟩]) (.cond (.t 12) (.seq (.reg [⟨some 2, .mv (.c .nilIface), none⟩]) .ret) .skip)) (.seq (.seq (.reg [⟨some 13, .mv (.t 0), none⟩, ⟨some 14, .ixs (.t 13) (.c (.int .i64 0)), none⟩, ⟨some 15, .cvt .i64 (.t 14), none⟩]) (.block 0 (.seq (.reg [⟨some 17, .bin .eql (.t 15) (.c (.int .i64 2)), none⟩, ⟨some 16, .mv (.t 17), none⟩]) (.cond (.t 16) (.seq (.reg [⟨some 19, .mv (.t 0), none⟩, ⟨some 20, .call 25 [.t 19], none⟩, ⟨some 18, .mv (.t 20), none⟩, ⟨some 21, .ext (.t 18) 0, none⟩, ⟨some 22, .ext (.t 18) 1, none⟩, ⟨some 3, .zero (.agg #[.int .i64 0, .int .i64 0, .string ⟨#[]⟩, .slice none 0 0]), none⟩, ⟨none, .st 4 (.t 3) (.t 21), none⟩, ⟨some 4, .mv (.t 22), none⟩]) (.seq (.reg [⟨some 23, .ld 4 true (.t 3), none⟩, ⟨some 24, .bld [.int .i64 0, .int .i64 0, .string ⟨#[]⟩, .slice none 0 0] [(0, 4, .t 23)], none⟩, ⟨some 25, .mki 100 (.t 24), none⟩, ⟨some 2, .mv (.t 25), none⟩]) .ret)) (.seq (.reg [⟨some 27, .bin .eql (.t 15) (.c (.int .i64 3)), none⟩, ⟨some 26, .mv (.t 27), none⟩]) (.cond (.t 26) (.seq (.reg [⟨some 29, .mv (.t 0), none⟩, ⟨some 30, .call 26 [.t 29], none⟩, ⟨some 28, .mv (.t 30), none⟩, ⟨some 31, .ext (.t 28) 0, none⟩, ⟨some 32, .ext (.t 28) 1, none⟩, ⟨some 5, .zero (.agg #[.int .i64 0, .int .i64 0, .int .i64 0, .string ⟨#[]⟩, .slice none 0 0, .slice none 0 0]), none⟩, ⟨none, .st 6 (.t 5) (.t 31), none⟩, ⟨some 6, .mv (.t 32), none⟩]) (.seq (.reg [⟨some 33, .ld 6 true (.t 5), none⟩, ⟨some 34, .bld [.int .i64 0, .int .i64 0, .int .i64 0, .string ⟨#[]⟩, .slice none 0 0, .slice none 0 0] [(0, 6, .t 33)], none⟩, ⟨some 35, .mki 102 (.t 34), none⟩, ⟨some 2, .mv (.t 35), none⟩]) .ret)) (.seq (.reg [⟨some 37, .bin .eql (.t 15) (.c (.int .i64 4)), none⟩, ⟨some 36, .mv (.t 37), none⟩]) (.cond (.t 36) (.seq (.reg [⟨some 39, .mv (.t 0), none⟩, ⟨some 40, .call 27 [.t 39], none⟩, ⟨some 38, .mv (.t 40), none⟩, ⟨some 41, .ext (.t 38) 0, none⟩, ⟨some 42, .ext (.t 38) 1, none⟩, ⟨some 7, .zero (.agg #[.int .i64 0, .int .i64 0, .string ⟨#[]⟩]), none⟩, ⟨none, .st 3 (.t 7) (.t 41), none⟩, ⟨some 8, .mv (.t 42), none⟩]) (.seq (.reg [⟨some 43, .ld 3 true (.t 7), none⟩, ⟨some 44, .bld [.int .i64 0, .int .i64 0, .string ⟨#[]⟩] [(0, 3, .t 43)], none⟩, ⟨some 45, .mki 104 (.t 44), none⟩, ⟨some 2, .mv (.t 45), none⟩]) .ret)) (.seq (.reg [⟨some 47, .bin .eql (.t 15) (.c (.int .i64 1)), none⟩, ⟨some 46, .mv (.t 47), none⟩]) (.cond (.t 46) (.seq (.reg [⟨some 49, .mv (.t 0), none⟩, ⟨some 50, .call 28 [.t 49], none⟩, ⟨some 48, .mv (.t 50), none⟩, ⟨some 51, .ext (.t 48) 0, none⟩, ⟨some 52, .ext (.t 48) 1, none⟩, ⟨some 9, .zero (.agg #[.int .i64 0, .int .i64 0, .int .i64 0, .int .i64 0, .int .i64 0]), none⟩, ⟨none, .st 5 (.t 9) (.t 51), none⟩, ⟨some 10, .mv (.t 52), none⟩]) (.seq (.reg [⟨some 53, .ld 5 true (.t 9), none⟩, ⟨some 54, .bld [.int .i64 0, .int .i64 0, .int .i64 0, .int .i64 0, .int .i64 0] [(0, 5, .t 53)], none⟩, ⟨some 55, .mki 106 (.t 54), none⟩, ⟨some 2, .mv (.t 55), none⟩]) .ret)) .skip)))))))))) (.seq (.reg [⟨some 2, .mv (.c .nilIface), none⟩]) .ret)))⟩
theorem e45 : cfun Tryz.prog 45 = some c45 := by kernel_rfl
noncomputable def pageD (s : ByteArray) : DV :=
  if s.size = 0 then .v .nilIface
  else if byteAt s 0 = 2 then .ifc 100 (leafD (lfM s))
  else if byteAt s 0 = 3 then .ifc 102 (innerD (inM s))
  else if byteAt s 0 = 4 then .v (.iface 104 (chainV (chM s)))
  else if byteAt s 0 = 1 then .v (.iface 106 (metaV (mtM s)))
  else .v .nilIface
theorem pg_nil {s : ByteArray} (h : s = nilS) : pageD s = .v .nilIface := by subst h; rfl
theorem sz_ne {s : ByteArray} (h : ¬ s = nilS) : ¬ s.size = 0 := fun h0 => h (by
  obtain ⟨d⟩ := s
  exact congrArg ByteArray.mk (Array.eq_empty_of_size_eq_zero h0))
theorem pg_2 {s : ByteArray} (h : ¬ s = nilS) (hb : byteAt s (Int.toNat 0) = 2) : pageD s = .ifc 100 (leafD (lfM s)) := by
  have hb' : byteAt s 0 = 2 := hb
  unfold pageD; rw [if_neg (sz_ne h), if_pos hb']
theorem pg_3 {s : ByteArray} (h : ¬ s = nilS) (hb : byteAt s (Int.toNat 0) = 3) : pageD s = .ifc 102 (innerD (inM s)) := by
  have hb' : byteAt s 0 = 3 := hb
  unfold pageD; rw [if_neg (sz_ne h), if_neg (by omega), if_pos hb']
theorem pg_4 {s : ByteArray} (h : ¬ s = nilS) (hb : byteAt s (Int.toNat 0) = 4) : pageD s = .v (.iface 104 (chainV (chM s))) := by
  have hb' : byteAt s 0 = 4 := hb
  unfold pageD; rw [if_neg (sz_ne h), if_neg (by omega), if_neg (by omega), if_pos hb']
theorem pg_1 {s : ByteArray} (h : ¬ s = nilS) (hb : byteAt s (Int.toNat 0) = 1) : pageD s = .v (.iface 106 (metaV (mtM s))) := by
  have hb' : byteAt s 0 = 1 := hb
  unfold pageD; rw [if_neg (sz_ne h), if_neg (by omega), if_neg (by omega), if_neg (by omega), if_pos hb']
theorem pg_no {s : ByteArray} (h1 : ¬ byteAt s (Int.toNat 0) = 2) (h2 : ¬ byteAt s (Int.toNat 0) = 3) (h3 : ¬ byteAt s (Int.toNat 0) = 4) (h4 : ¬ byteAt s (Int.toNat 0) = 1) : pageD s = .v .nilIface := by
  unfold pageD
  split
  · rfl
  · have g1 : ¬ byteAt s 0 = 2 := h1
    have g2 : ¬ byteAt s 0 = 3 := h2
    have g3 : ¬ byteAt s 0 = 4 := h3
    have g4 : ¬ byteAt s 0 = 1 := h4
    rw [if_neg g1, if_neg g2, if_neg g3, if_neg g4]
theorem read_page (s : ByteArray) (hs : s.size ≤ 1200) : DPure Tp GI 45 [SV s] (pageD s) := by
  have d1 := leaf_D s hs
  have d2 := inner_D s hs
  have d3 := chain_D (I := GI) s (by omega)
  have d4 := meta_D (I := GI) s (by omega)
  have hlo := byteAt_lo s (Int.toNat 0)
  have hhi := byteAt_hi s (Int.toNat 0)
  refine z_pure (e0 := ?e0x1) mix e45 rfl ?z01 ?_
  (case z01 => exact rfl)
  dsimp only [c45]
  repeat' (first | ((with_reducible apply z_call); (case' hd => apply d1); (case hw => exact wknL_ok rfl); (try any_goals exact sd)) | ((with_reducible apply z_call); (case' hd => apply d2); (case hw => exact wknL_ok rfl); (try any_goals exact sd)) | ((with_reducible apply z_call); (case' hd => apply d3); (case hw => exact wknL_ok rfl); (try any_goals exact sd)) | ((with_reducible apply z_call); (case' hd => apply d4); (case hw => exact wknL_ok rfl); (try any_goals exact sd)) | refine And.intro (Nat.pos_of_ne_zero (sz_ne ‹_›)) ?_ | refine z1 ?_ | refine Br.mk ?_ ?_ | intro _ | refine zf ?_ | fail)
  · rw [pg_nil ‹_›]; exact wkn_ok (by kernel_rfl)
  · rw [pg_2 ‹_› ‹_›]; exact wkn_ok (by kernel_rfl)
  · rw [pg_3 ‹_› ‹_›]; exact wkn_ok (by kernel_rfl)
  · rw [pg_4 ‹_› ‹_›]; exact wkn_ok (by kernel_rfl)
  · rw [pg_1 ‹_› ‹_›]; exact wkn_ok (by kernel_rfl)
  · rw [pg_no ‹_› ‹_› ‹_› ‹_›]; exact wkn_ok (by kernel_rfl)
end Go.Proofs.YtlbodfkhenkcjaaGreatDoor.X


namespace Go.Proofs.YtlbodfkhenkcjaaGreatDoor.X
open Go Go.Proofs Go.RowKit Go.Proofs.YtlbodfkhenkcjaaGreatDoor.D
set_option maxRecDepth 100000
set_option maxHeartbeats 1000000
set_option linter.unusedVariables false
set_option linter.unusedSimpArgs false
variable {I : D.Inv}
attribute [local irreducible] D.DPure D.DEff D.callable D.dops D.dwp D.dxops D.optNat D.seqQ D.blkQ D.lopQ D.xK

def c228 : DFun := ⟨7, [.t 2], .seq (.reg [⟨some 1, .box (.t 0), none⟩, ⟨some 2, .mv (.c (.bool false)), none⟩]) (.seq (.reg [⟨some 3, .fa 0 (.t 1), none⟩, ⟨some 4, .fa 0 (.t 3), none⟩, ⟨some 5, .ld 1 false (.t 4), none⟩, ⟨some 6, .bin .eql (.t 5) (.c (.int .i64 0)), none⟩, ⟨some 2, .mv (.t 6), none⟩]) .ret)⟩
theorem e228 : cfun Tryz.prog 228 = some c228 := by kernel_rfl
def c229 : DFun := ⟨7, [.t 2], .seq (.reg [⟨some 1, .box (.t 0), none⟩, ⟨some 2, .mv (.c (.bool false)), none⟩]) (.seq (.reg [⟨some 3, .fa 0 (.t 1), none⟩, ⟨some 4, .fa 0 (.t 3), none⟩, ⟨some 5, .ld 1 false (.t 4), none⟩, ⟨some 6, .bin .eql (.t 5) (.c (.int .i64 0)), none⟩, ⟨some 2, .mv (.t 6), none⟩]) .ret)⟩
theorem e229 : cfun Tryz.prog 229 = some c229 := by kernel_rfl
def c230 : DFun := ⟨7, [.t 2], .seq (.reg [⟨some 1, .box (.t 0), none⟩, ⟨some 2, .mv (.c (.bool false)), none⟩]) (.seq (.reg [⟨some 3, .fa 0 (.t 1), none⟩, ⟨some 4, .fa 0 (.t 3), none⟩, ⟨some 5, .ld 1 false (.t 4), none⟩, ⟨some 6, .bin .eql (.t 5) (.c (.int .i64 0)), none⟩, ⟨some 2, .mv (.t 6), none⟩]) .ret)⟩
theorem e230 : cfun Tryz.prog 230 = some c230 := by kernel_rfl
def c231 : DFun := ⟨7, [.t 2], .seq (.reg [⟨some 1, .box (.t 0), none⟩, ⟨some 2, .mv (.c (.bool false)), none⟩]) (.seq (.reg [⟨some 3, .fa 0 (.t 1), none⟩, ⟨some 4, .fa 0 (.t 3), none⟩, ⟨some 5, .ld 1 false (.t 4), none⟩, ⟨some 6, .bin .eql (.t 5) (.c (.int .i64 0)), none⟩, ⟨some 2, .mv (.t 6), none⟩]) .ret)⟩
theorem e231 : cfun Tryz.prog 231 = some c231 := by kernel_rfl
theorem none_leaf (a b : Int) (h : ByteArray) (l : List ItemM) : DPure Tp I 228 [.agg [VN .i64 a, VN .i64 b, SV h, .list 5 (itemsL l)]] (BV (decide (a = 0))) := by
  refine z_pure (e0 := ?e0x1) mix e228 rfl ?z01 ?_
  (case z01 => exact rfl)
  dsimp only [c228]
  repeat' (first | refine zs ?_ | refine Br.mk ?_ ?_ | intro _ | refine zf ?_ | fail)
  all_goals first
    | exact bool_of (b := true) (by kernel_rfl) (decide_eq_true ‹_›).symm
    | exact bool_of (b := false) (by kernel_rfl) (decide_eq_false ‹_›).symm
theorem none_inner (a b c : Int) (h : ByteArray) (k : List Int) (l : List ByteArray) : DPure Tp I 229 [.agg [VN .i64 a, VN .i64 b, VN .i64 c, SV h, .list 1 (k.map fun n => VN .i64 n), .list 1 (strsL l)]] (BV (decide (a = 0))) := by
  refine z_pure (e0 := ?e0x2) mix e229 rfl ?z02 ?_
  (case z02 => exact rfl)
  dsimp only [c229]
  repeat' (first | refine zs ?_ | refine Br.mk ?_ ?_ | intro _ | refine zf ?_ | fail)
  all_goals first
    | exact bool_of (b := true) (by kernel_rfl) (decide_eq_true ‹_›).symm
    | exact bool_of (b := false) (by kernel_rfl) (decide_eq_false ‹_›).symm
theorem none_chain (a b : Int) (h : ByteArray) : DPure Tp I 230 [.v (.agg #[.int .i64 a, .int .i64 b, .string h])] (BV (decide (a = 0))) := by
  refine z_pure (e0 := ?e0x3) mix e230 rfl ?z03 ?_
  (case z03 => exact rfl)
  dsimp only [c230]
  repeat' (first | refine zs ?_ | refine Br.mk ?_ ?_ | intro _ | refine zf ?_ | fail)
  all_goals first
    | exact bool_of (b := true) (by kernel_rfl) (decide_eq_true ‹_›).symm
    | exact bool_of (b := false) (by kernel_rfl) (decide_eq_false ‹_›).symm
theorem none_meta (a b c d e : Int) : DPure Tp I 231 [.v (.agg #[.int .i64 a, .int .i64 b, .int .i64 c, .int .i64 d, .int .i64 e])] (BV (decide (a = 0))) := by
  refine z_pure (e0 := ?e0x4) mix e231 rfl ?z04 ?_
  (case z04 => exact rfl)
  dsimp only [c231]
  repeat' (first | refine zs ?_ | refine Br.mk ?_ ?_ | intro _ | refine zf ?_ | fail)
  all_goals first
    | exact bool_of (b := true) (by kernel_rfl) (decide_eq_true ‹_›).symm
    | exact bool_of (b := false) (by kernel_rfl) (decide_eq_false ‹_›).symm
end Go.Proofs.YtlbodfkhenkcjaaGreatDoor.X


namespace Go.Proofs.YtlbodfkhenkcjaaGreatDoor.X
open Go Go.Proofs Go.RowKit Go.Proofs.YtlbodfkhenkcjaaGreatDoor.D
set_option maxRecDepth 100000
set_option maxHeartbeats 1000000
set_option linter.unusedVariables false
set_option linter.unusedSimpArgs false
variable {I : D.Inv}
attribute [local irreducible] D.DPure D.DEff D.callable D.dops D.dwp D.dxops D.optNat D.seqQ D.blkQ D.lopQ D.xK

def c50 : DFun := ⟨35, [.t 2, .t 3], .seq (.reg [⟨some 1, .box (.t 0), none⟩, ⟨some 2, .mv (.c (.int .i64 0)), none⟩, ⟨some 3, .mv (.c (.int .i64 0)), none⟩]) (.seq (.seq (.reg [⟨some 4, .fa 0 (.t 1), none⟩, ⟨some 5, .ld 1 false (.t 4), none⟩]) (.block 0 (.seq (.reg [⟨some 7, .bin .eql (.t 5) (.c (.int .i64 2)), none⟩, ⟨some 6, .mv (.t 7), none⟩]) (.cond (.t 6) (.seq (.reg [⟨some 8, .fa 1 (.t 1), none⟩, ⟨some 9, .fa 0 (.t 8), none⟩, ⟨some 10, .ld 1 false (.t 9), none⟩, ⟨some 11, .fa 1 (.t 1), none⟩, ⟨some 12, .fa 1 (.t 11), none⟩, ⟨some 13, .ld 1 false (.t 12), none⟩, ⟨some 2, .mv (.t 10), none⟩, ⟨some 3, .mv (.t 13), none⟩]) .ret) (.seq (.reg [⟨some 15, .bin .eql (.t 5) (.c (.int .i64 3)), none⟩, ⟨some 14, .mv (.t 15), none⟩]) (.cond (.t 14) (.seq (.reg [⟨some 16, .fa 5 (.t 1), none⟩, ⟨some 17, .fa 0 (.t 16), none⟩, ⟨some 18, .ld 1 false (.t 17), none⟩, ⟨some 19, .fa 5 (.t 1), none⟩, ⟨some 20, .fa 2 (.t 19), none⟩, ⟨some 21, .ld 1 false (.t 20), none⟩, ⟨some 2, .mv (.t 18), none⟩, ⟨some 3, .mv (.t 21), none⟩]) .ret) (.seq (.reg [⟨some 23, .bin .eql (.t 5) (.c (.int .i64 4)), none⟩, ⟨some 22, .mv (.t 23), none⟩]) (.cond (.t 22) (.seq (.reg [⟨some 24, .fa 11 (.t 1), none⟩, ⟨some 25, .fa 0 (.t 24), none⟩, ⟨some 26, .ld 1 false (.t 25), none⟩, ⟨some 27, .fa 11 (.t 1), none⟩, ⟨some 28, .fa 1 (.t 27), none⟩, ⟨some 29, .ld 1 false (.t 28), none⟩, ⟨some 2, .mv (.t 26), none⟩, ⟨some 3, .mv (.t 29), none⟩]) .ret) (.seq (.reg [⟨some 31, .bin .eql (.t 5) (.c (.int .i64 1)), none⟩, ⟨some 30, .mv (.t 31), none⟩]) (.cond (.t 30) (.seq (.reg [⟨some 32, .fa 14 (.t 1), none⟩, ⟨some 33, .fa 2 (.t 32), none⟩, ⟨some 34, .ld 1 false (.t 33), none⟩, ⟨some 2, .mv (.c (.int .i64 0)), none⟩, ⟨some 3, .mv (.t 34), none⟩]) .ret) .skip)))))))))) (.seq (.reg [⟨some 2, .mv (.c (.int .i64 0)), none⟩, ⟨some 3, .mv (.c (.int .i64 0)), none⟩]) .ret))⟩
theorem e50 : cfun Tryz.prog 50 = some c50 := by kernel_rfl
def pageF (t : Int) (lf : LeafM) (n : InnerM) (ch : ChainM) (mt : MetaM) : DV :=
  .agg [VN .i64 t, VN .i64 lf.self, VN .i64 lf.right, SV lf.high, .list 5 (itemsL lf.items), VN .i64 n.self, VN .i64 n.level, VN .i64 n.right, SV n.high, .list 1 (n.kids.map fun n => VN .i64 n), .list 1 (strsL n.seps),
    VN .i64 ch.self, VN .i64 ch.next, SV ch.data, VN .i64 mt.p, VN .i64 mt.pages, VN .i64 mt.root, VN .i64 mt.level, VN .i64 mt.pairs]
theorem num_D0 (t a1 a2 b1 b2 b3 c1 c2 m1 m2 m3 m4 m5 : Int) (h1 h2 h3 : ByteArray) (l : List ItemM) (k : List Int) (q : List ByteArray) (x y : Int)
    (hx : (t = 2 ∧ x = a1 ∧ y = a2) ∨ (t = 3 ∧ x = b1 ∧ y = b3) ∨ (t = 4 ∧ x = c1 ∧ y = c2)) :
    DPure Tp I 50 [.agg [VN .i64 t, VN .i64 a1, VN .i64 a2, SV h1, .list 5 (itemsL l), VN .i64 b1, VN .i64 b2, VN .i64 b3, SV h2, .list 1 (k.map fun n => VN .i64 n), .list 1 (strsL q), VN .i64 c1, VN .i64 c2, SV h3, VN .i64 m1, VN .i64 m2, VN .i64 m3, VN .i64 m4, VN .i64 m5]] (.v (.tuple #[.int .i64 x, .int .i64 y])) := by
  rcases hx with ⟨rfl, rfl, rfl⟩ | ⟨rfl, rfl, rfl⟩ | ⟨rfl, rfl, rfl⟩
  · refine z_pure (e0 := ?e0x1) mix e50 rfl ?z01 ?_
    (case z01 => exact rfl)
    dsimp only [c50]
    repeat' (first | refine zs ?_ | refine Br.mk ?_ ?_ | intro _ | refine zf ?_ | fail)
    all_goals exact wkn_ok (by kernel_rfl)
  · refine z_pure (e0 := ?e0x2) mix e50 rfl ?z02 ?_
    (case z02 => exact rfl)
    dsimp only [c50]
    repeat' (first | refine zs ?_ | refine Br.mk ?_ ?_ | intro _ | refine zf ?_ | fail)
    all_goals exact wkn_ok (by kernel_rfl)
  · refine z_pure (e0 := ?e0x3) mix e50 rfl ?z03 ?_
    (case z03 => exact rfl)
    dsimp only [c50]
    repeat' (first | refine zs ?_ | refine Br.mk ?_ ?_ | intro _ | refine zf ?_ | fail)
    all_goals exact wkn_ok (by kernel_rfl)
end Go.Proofs.YtlbodfkhenkcjaaGreatDoor.X


namespace Go.Proofs.YtlbodfkhenkcjaaGreatDoor.X
open Go Go.Proofs Go.RowKit Go.Proofs.YtlbodfkhenkcjaaGreatDoor.D
set_option maxRecDepth 100000
set_option maxHeartbeats 2000000
set_option linter.unusedVariables false
set_option linter.unusedSimpArgs false
attribute [local irreducible] D.DPure D.DEff D.callable lfM lfE inM inE chM chE mtM mtE

def c17 : DFun := ⟨45, [.c 2 19 true, .t 3], .seq (.reg [⟨some 2, .zero (.agg #[.int .i64 0, .int .i64 0, .int .i64 0, .string ⟨#[]⟩, .slice none 0 0, .int .i64 0, .int .i64 0, .int .i64 0, .string ⟨#[]⟩, .slice none 0 0, .slice none 0 0, .int .i64 0, .int .i64 0, .string ⟨#[]⟩, .int .i64 0, .int .i64 0, .int .i64 0, .int .i64 0, .int .i64 0]), none⟩, ⟨some 3, .mv (.c (.int .i64 0)), none⟩]) (.seq (.reg [⟨some 10, .mv (.t 0), none⟩, ⟨some 11, .call 45 [.t 10], none⟩, ⟨some 4, .mv (.t 11), none⟩]) (.seq (.seq (.reg [⟨some 12, .mv (.t 4), none⟩, ⟨some 13, .isnil 0 false (.t 12), none⟩, ⟨some 14, .mv (.t 13), none⟩, ⟨some 15, .mv (.t 4), some (14, false)⟩, ⟨some 16, .inv "withy/page.none" (.t 15) [], some (14, false)⟩, ⟨some 17, .pick (.t 14) (.c (.bool true)) (.t 16), none⟩]) (.cond (.t 17) (.seq (.reg [⟨some 18, .bld [.int .i64 0, .int .i64 0, .int .i64 0, .string ⟨#[]⟩, .slice none 0 0, .int .i64 0, .int .i64 0, .int .i64 0, .string ⟨#[]⟩, .slice none 0 0, .slice none 0 0, .int .i64 0, .int .i64 0, .string ⟨#[]⟩, .int .i64 0, .int .i64 0, .int .i64 0, .int .i64 0, .int .i64 0] [], none⟩, ⟨none, .st 19 (.t 2) (.t 18), none⟩, ⟨some 3, .mv (.c (.int .i64 3)), none⟩]) .ret) .skip)) (.seq (.reg [⟨some 5, .zero (.agg #[.int .i64 0, .int .i64 0, .int .i64 0, .string ⟨#[]⟩, .slice none 0 0, .int .i64 0, .int .i64 0, .int .i64 0, .string ⟨#[]⟩, .slice none 0 0, .slice none 0 0, .int .i64 0, .int .i64 0, .string ⟨#[]⟩, .int .i64 0, .int .i64 0, .int .i64 0, .int .i64 0, .int .i64 0]), none⟩]) (.seq (.seq (.reg [⟨some 19, .mv (.t 4), none⟩]) (.block 0 (.seq (.reg [⟨some 20, .ta 100 true (.agg #[.int .i64 0, .int .i64 0, .string ⟨#[]⟩, .slice none 0 0]) (.t 19), none⟩, ⟨some 21, .ext (.t 20) 1, none⟩, ⟨some 22, .ext (.t 20) 0, none⟩]) (.cond (.t 21) (.seq (.reg [⟨some 6, .zero (.agg #[.int .i64 0, .int .i64 0, .string ⟨#[]⟩, .slice none 0 0]), none⟩, ⟨none, .st 4 (.t 6) (.t 22), none⟩]) (.reg [⟨some 23, .fa 0 (.t 6), none⟩, ⟨some 24, .ld 4 true (.t 23), none⟩, ⟨some 25, .bld [.int .i64 0, .int .i64 0, .int .i64 0, .string ⟨#[]⟩, .slice none 0 0, .int .i64 0, .int .i64 0, .int .i64 0, .string ⟨#[]⟩, .slice none 0 0, .slice none 0 0, .int .i64 0, .int .i64 0, .string ⟨#[]⟩, .int .i64 0, .int .i64 0, .int .i64 0, .int .i64 0, .int .i64 0] [(0, 1, .c (.int .i64 2)), (1, 4, .t 24)], none⟩, ⟨none, .st 19 (.t 5) (.t 25), none⟩])) (.seq (.reg [⟨some 26, .ta 102 true (.agg #[.int .i64 0, .int .i64 0, .int .i64 0, .string ⟨#[]⟩, .slice none 0 0, .slice none 0 0]) (.t 19), none⟩, ⟨some 27, .ext (.t 26) 1, none⟩, ⟨some 28, .ext (.t 26) 0, none⟩]) (.cond (.t 27) (.seq (.reg [⟨some 7, .zero (.agg #[.int .i64 0, .int .i64 0, .int .i64 0, .string ⟨#[]⟩, .slice none 0 0, .slice none 0 0]), none⟩, ⟨none, .st 6 (.t 7) (.t 28), none⟩]) (.reg [⟨some 29, .fa 0 (.t 7), none⟩, ⟨some 30, .ld 6 true (.t 29), none⟩, ⟨some 31, .bld [.int .i64 0, .int .i64 0, .int .i64 0, .string ⟨#[]⟩, .slice none 0 0, .int .i64 0, .int .i64 0, .int .i64 0, .string ⟨#[]⟩, .slice none 0 0, .slice none 0 0, .int .i64 0, .int .i64 0, .string ⟨#[]⟩, .int .i64 0, .int .i64 0, .int .i64 0, .int .i64 0, .int .i64 0] [(0, 1, .c (.int .i64 3)), (5, 6, .t 30)], none⟩, ⟨none, .st 19 (.t 5) (.t 31), none⟩])) (.seq (.reg [⟨some 32, .ta 104 true (.agg #[.int .i64 0, .int .i64 0, .string ⟨#[]⟩]) (.t 19), none⟩, ⟨some 33, .ext (.t 32) 1, none⟩, ⟨some 34, .ext (.t 32) 0, none⟩]) (.cond (.t 33) (.seq (.reg [⟨some 8, .zero (.agg #[.int .i64 0, .int .i64 0, .string ⟨#[]⟩]), none⟩, ⟨none, .st 3 (.t 8) (.t 34), none⟩]) (.reg [⟨some 35, .fa 0 (.t 8), none⟩, ⟨some 36, .ld 3 true (.t 35), none⟩, ⟨some 37, .bld [.int .i64 0, .int .i64 0, .int .i64 0, .string ⟨#[]⟩, .slice none 0 0, .int .i64 0, .int .i64 0, .int .i64 0, .string ⟨#[]⟩, .slice none 0 0, .slice none 0 0, .int .i64 0, .int .i64 0, .string ⟨#[]⟩, .int .i64 0, .int .i64 0, .int .i64 0, .int .i64 0, .int .i64 0] [(0, 1, .c (.int .i64 4)), (11, 3, .t 36)], none⟩, ⟨none, .st 19 (.t 5) (.t 37), none⟩])) (.seq (.reg [⟨some 38, .ta 106 true (.agg #[.int .i64 0, .int .i64 0, .int .i64 0, .int .i64 0, .int .i64 0]) (.t 19), none⟩, ⟨some 39, .ext (.t 38) 1, none⟩, ⟨some 40, .ext (.t 38) 0, none⟩]) (.cond (.t 39) (.seq (.reg [⟨some 9, .zero (.agg #[.int .i64 0, .int .i64 0, .int .i64 0, .int .i64 0, .int .i64 0]), none⟩, ⟨none, .st 5 (.t 9) (.t 40), none⟩]) (.reg [⟨some 41, .fa 0 (.t 9), none⟩, ⟨some 42, .ld 5 true (.t 41), none⟩, ⟨some 43, .bld [.int .i64 0, .int .i64 0, .int .i64 0, .string ⟨#[]⟩, .slice none 0 0, .int .i64 0, .int .i64 0, .int .i64 0, .string ⟨#[]⟩, .slice none 0 0, .slice none 0 0, .int .i64 0, .int .i64 0, .string ⟨#[]⟩, .int .i64 0, .int .i64 0, .int .i64 0, .int .i64 0, .int .i64 0] [(0, 1, .c (.int .i64 1)), (14, 5, .t 42)], none⟩, ⟨none, .st 19 (.t 5) (.t 43), none⟩])) .skip)))))))))) (.seq (.reg [⟨some 44, .ld 19 true (.t 5), none⟩, ⟨none, .st 19 (.t 2) (.t 44), none⟩, ⟨some 3, .mv (.c (.int .i64 0)), none⟩]) .ret)))))⟩
theorem e17 : cfun Tryz.prog 17 = some c17 := by kernel_rfl
theorem m_leaf : Meth Tp 100 "withy/page.none" 228 := fun v W => by kernel_rfl
theorem m_inner : Meth Tp 102 "withy/page.none" 229 := fun v W => by kernel_rfl
theorem m_chain : Meth Tp 104 "withy/page.none" 230 := fun v W => by kernel_rfl
theorem m_meta : Meth Tp 106 "withy/page.none" 231 := fun v W => by kernel_rfl
theorem pgz {d : DV} (hd : d = .v (.tuple #[.agg #[.int .i64 0, .int .i64 0, .int .i64 0, .string nilS, .slice none 0 0, .int .i64 0, .int .i64 0, .int .i64 0, .string nilS, .slice none 0 0, .slice none 0 0, .int .i64 0, .int .i64 0, .string nilS, .int .i64 0, .int .i64 0, .int .i64 0, .int .i64 0, .int .i64 0], .int .i64 3])) :
    Wk d (.tup [pageF 0 leaf0 inner0 chain0 meta0, VN .i64 3]) := by
  subst hd
  exact Wk.vtupL (xs := [.agg #[.int .i64 0, .int .i64 0, .int .i64 0, .string nilS, .slice none 0 0, .int .i64 0, .int .i64 0, .int .i64 0, .string nilS, .slice none 0 0, .slice none 0 0, .int .i64 0, .int .i64 0, .string nilS, .int .i64 0, .int .i64 0, .int .i64 0, .int .i64 0, .int .i64 0], .int .i64 3])
    (.cons (Wk.vaggL (xs := [.int .i64 0, .int .i64 0, .int .i64 0, .string nilS, .slice none 0 0, .int .i64 0, .int .i64 0, .int .i64 0, .string nilS, .slice none 0 0, .slice none 0 0, .int .i64 0, .int .i64 0, .string nilS, .int .i64 0, .int .i64 0, .int .i64 0, .int .i64 0, .int .i64 0])
      (.cons (.v _) (.cons (.v _) (.cons (.v _) (.cons (.v _) (.cons (.nil _ _ _) (.cons (.v _) (.cons (.v _) (.cons (.v _) (.cons (.v _) (.cons (.nil _ _ _) (.cons (.nil _ _ _) (.cons (.v _) (.cons (.v _) (.cons (.v _) (.cons (.v _) (.cons (.v _) (.cons (.v _) (.cons (.v _) (.cons (.v _) .nil)))))))))))))))))))) (.cons (.v _) .nil))
theorem dec_nil (s : ByteArray) (d0 : DPure Tp GI 45 [SV s] (.v .nilIface)) : DPure Tp GI 17 [SV s] (.tup [pageF 0 leaf0 inner0 chain0 meta0, VN .i64 3]) := by
  refine z_pure (e0 := ?e0x1) mix e17 rfl ?z01 ?_
  (case z01 => exact rfl)
  dsimp only [c17]
  repeat' (first | ((with_reducible apply z_call); (case' hd => apply d0); (case hw => exact wknL_ok rfl); (try any_goals exact sd)) | refine zs ?_ | refine Br.mk ?_ ?_ | intro _ | refine zf ?_ | fail)
  exact pgz (by kernel_rfl)
theorem dec_leaf0 (s : ByteArray) (b : Int) (h : ByteArray) (l : List ItemM) (d0 : DPure Tp GI 45 [SV s] (.ifc 100 (.agg [VN .i64 0, VN .i64 b, SV h, .list 5 (itemsL l)]))) : DPure Tp GI 17 [SV s] (.tup [pageF 0 leaf0 inner0 chain0 meta0, VN .i64 3]) := by
  have d1 : DPure Tp GI 228 _ (BV true) := none_leaf 0 b h l
  refine z_pure (e0 := ?e0x2) mix e17 rfl ?z02 ?_
  (case z02 => exact rfl)
  dsimp only [c17]
  repeat' (first | ((with_reducible apply z_call); (case' hd => apply d0); (case hw => exact wknL_ok rfl); (try any_goals exact sd)) | ((with_reducible apply z_inv); (case hx => (conv => {lhs; whnf}) <;> exact rfl); (case hm => exact m_leaf); (case' hd => apply d1); (try any_goals exact sd); (case hw => exact wknL_ok rfl)) | refine zs ?_ | refine Br.mk ?_ ?_ | intro _ | refine zf ?_ | fail)
  exact pgz (by kernel_rfl)
theorem dec_inner0 (s : ByteArray) (b c : Int) (h : ByteArray) (k : List Int) (l : List ByteArray) (d0 : DPure Tp GI 45 [SV s] (.ifc 102 (.agg [VN .i64 0, VN .i64 b, VN .i64 c, SV h, .list 1 (k.map fun n => VN .i64 n), .list 1 (strsL l)]))) : DPure Tp GI 17 [SV s] (.tup [pageF 0 leaf0 inner0 chain0 meta0, VN .i64 3]) := by
  have d1 : DPure Tp GI 229 _ (BV true) := none_inner 0 b c h k l
  refine z_pure (e0 := ?e0x3) mix e17 rfl ?z03 ?_
  (case z03 => exact rfl)
  dsimp only [c17]
  repeat' (first | ((with_reducible apply z_call); (case' hd => apply d0); (case hw => exact wknL_ok rfl); (try any_goals exact sd)) | ((with_reducible apply z_inv); (case hx => (conv => {lhs; whnf}) <;> exact rfl); (case hm => exact m_inner); (case' hd => apply d1); (try any_goals exact sd); (case hw => exact wknL_ok rfl)) | refine zs ?_ | refine Br.mk ?_ ?_ | intro _ | refine zf ?_ | fail)
  exact pgz (by kernel_rfl)
theorem dec_chain0 (s : ByteArray) (b : Int) (h : ByteArray) (d0 : DPure Tp GI 45 [SV s] (.v (.iface 104 (.agg #[.int .i64 0, .int .i64 b, .string h])))) : DPure Tp GI 17 [SV s] (.tup [pageF 0 leaf0 inner0 chain0 meta0, VN .i64 3]) := by
  have d1 : DPure Tp GI 230 _ (BV true) := none_chain 0 b h
  refine z_pure (e0 := ?e0x4) mix e17 rfl ?z04 ?_
  (case z04 => exact rfl)
  dsimp only [c17]
  repeat' (first | ((with_reducible apply z_call); (case' hd => apply d0); (case hw => exact wknL_ok rfl); (try any_goals exact sd)) | ((with_reducible apply z_inv); (case hx => (conv => {lhs; whnf}) <;> exact rfl); (case hm => exact m_chain); (case' hd => apply d1); (try any_goals exact sd); (case hw => exact wknL_ok rfl)) | refine zs ?_ | refine Br.mk ?_ ?_ | intro _ | refine zf ?_ | fail)
  exact pgz (by kernel_rfl)
theorem dec_meta0 (s : ByteArray) (b c d e : Int) (d0 : DPure Tp GI 45 [SV s] (.v (.iface 106 (.agg #[.int .i64 0, .int .i64 b, .int .i64 c, .int .i64 d, .int .i64 e])))) : DPure Tp GI 17 [SV s] (.tup [pageF 0 leaf0 inner0 chain0 meta0, VN .i64 3]) := by
  have d1 : DPure Tp GI 231 _ (BV true) := none_meta 0 b c d e
  refine z_pure (e0 := ?e0x5) mix e17 rfl ?z05 ?_
  (case z05 => exact rfl)
  dsimp only [c17]
  repeat' (first | ((with_reducible apply z_call); (case' hd => apply d0); (case hw => exact wknL_ok rfl); (try any_goals exact sd)) | ((with_reducible apply z_inv); (case hx => (conv => {lhs; whnf}) <;> exact rfl); (case hm => exact m_meta); (case' hd => apply d1); (try any_goals exact sd); (case hw => exact wknL_ok rfl)) | refine zs ?_ | refine Br.mk ?_ ?_ | intro _ | refine zf ?_ | fail)
  exact pgz (by kernel_rfl)
theorem dec_leaf1 (s : ByteArray) (a b : Int) (h : ByteArray) (l : List ItemM) (ha : a ≠ 0) (d0 : DPure Tp GI 45 [SV s] (.ifc 100 (.agg [VN .i64 a, VN .i64 b, SV h, .list 5 (itemsL l)]))) : DPure Tp GI 17 [SV s] (.tup [pageF 2 ⟨a, b, h, l⟩ inner0 chain0 meta0, VN .i64 0]) := by
  have d1 := none_leaf (I := GI) a b h l
  rw [decide_eq_false ha] at d1
  refine z_pure (e0 := ?e0x6) mix e17 rfl ?z06 ?_
  (case z06 => exact rfl)
  dsimp only [c17]
  repeat' (first | ((with_reducible apply z_call); (case' hd => apply d0); (case hw => exact wknL_ok rfl); (try any_goals exact sd)) | ((with_reducible apply z_inv); (case hx => (conv => {lhs; whnf}) <;> exact rfl); (case hm => exact m_leaf); (case' hd => apply d1); (try any_goals exact sd); (case hw => exact wknL_ok rfl)) | refine zs ?_ | refine Br.mk ?_ ?_ | intro _ | refine zf ?_ | fail)
  exact tup2w (x1 := .agg [VN .i64 2, VN .i64 a, VN .i64 b, SV h, .list 5 (itemsL l), VN .i64 0, VN .i64 0, VN .i64 0, SV nilS, .v (.slice none 0 0), .v (.slice none 0 0), VN .i64 0, VN .i64 0, SV nilS, VN .i64 0, VN .i64 0, VN .i64 0, VN .i64 0, VN .i64 0]) (x2 := VN .i64 0) (by kernel_rfl) (.aggL (.cons (.v _) (.cons (.v _) (.cons (.v _) (.cons (.v _) (.cons (.list _ _) (.cons (.v _) (.cons (.v _) (.cons (.v _) (.cons (.v _) (.cons (.nil _ _ _) (.cons (.nil _ _ _) (.cons (.v _) (.cons (.v _) (.cons (.v _) (.cons (.v _) (.cons (.v _) (.cons (.v _) (.cons (.v _) (.cons (.v _) .nil)))))))))))))))))))) (.v _)
theorem dec_inner1 (s : ByteArray) (a b c : Int) (h : ByteArray) (k : List Int) (l : List ByteArray) (ha : a ≠ 0) (d0 : DPure Tp GI 45 [SV s] (.ifc 102 (.agg [VN .i64 a, VN .i64 b, VN .i64 c, SV h, .list 1 (k.map fun n => VN .i64 n), .list 1 (strsL l)]))) : DPure Tp GI 17 [SV s] (.tup [pageF 3 leaf0 ⟨a, b, c, h, k, l⟩ chain0 meta0, VN .i64 0]) := by
  have d1 := none_inner (I := GI) a b c h k l
  rw [decide_eq_false ha] at d1
  refine z_pure (e0 := ?e0x7) mix e17 rfl ?z07 ?_
  (case z07 => exact rfl)
  dsimp only [c17]
  repeat' (first | ((with_reducible apply z_call); (case' hd => apply d0); (case hw => exact wknL_ok rfl); (try any_goals exact sd)) | ((with_reducible apply z_inv); (case hx => (conv => {lhs; whnf}) <;> exact rfl); (case hm => exact m_inner); (case' hd => apply d1); (try any_goals exact sd); (case hw => exact wknL_ok rfl)) | refine zs ?_ | refine Br.mk ?_ ?_ | intro _ | refine zf ?_ | fail)
  exact tup2w (x1 := .agg [VN .i64 3, VN .i64 0, VN .i64 0, SV nilS, .v (.slice none 0 0), VN .i64 a, VN .i64 b, VN .i64 c, SV h, .list 1 (k.map fun n => VN .i64 n), .list 1 (strsL l), VN .i64 0, VN .i64 0, SV nilS, VN .i64 0, VN .i64 0, VN .i64 0, VN .i64 0, VN .i64 0]) (x2 := VN .i64 0) (by kernel_rfl) (.aggL (.cons (.v _) (.cons (.v _) (.cons (.v _) (.cons (.v _) (.cons (.nil _ _ _) (.cons (.v _) (.cons (.v _) (.cons (.v _) (.cons (.v _) (.cons (.list _ _) (.cons (.list _ _) (.cons (.v _) (.cons (.v _) (.cons (.v _) (.cons (.v _) (.cons (.v _) (.cons (.v _) (.cons (.v _) (.cons (.v _) .nil)))))))))))))))))))) (.v _)
theorem pgw {cs : List Value} {m : Value} {t a1 a2 n1 n2 n3 c1 c2 m1 m2 m3 m4 m5 : Int} {hi h2 h3 : ByteArray} {d : DV} (hd : d = .v (.tuple #[.agg #[.int .i64 t, .int .i64 a1, .int .i64 a2, .string hi, .slice none 0 0, .int .i64 n1, .int .i64 n2, .int .i64 n3, .string h2, .slice none 0 0, .slice none 0 0, .int .i64 c1, .int .i64 c2, .string h3, .int .i64 m1, .int .i64 m2, .int .i64 m3, .int .i64 m4, .int .i64 m5], .int .i64 0])) :
    Wk d (.tup [pageF t ⟨a1, a2, hi, []⟩ ⟨n1, n2, n3, h2, [], []⟩ ⟨c1, c2, h3⟩ ⟨m1, m2, m3, m4, m5⟩, VN .i64 0]) := by
  subst hd
  exact Wk.vtupL (xs := [.agg #[.int .i64 t, .int .i64 a1, .int .i64 a2, .string hi, .slice none 0 0, .int .i64 n1, .int .i64 n2, .int .i64 n3, .string h2, .slice none 0 0, .slice none 0 0, .int .i64 c1, .int .i64 c2, .string h3, .int .i64 m1, .int .i64 m2, .int .i64 m3, .int .i64 m4, .int .i64 m5], .int .i64 0])
    (.cons (Wk.vaggL (xs := [.int .i64 t, .int .i64 a1, .int .i64 a2, .string hi, .slice none 0 0, .int .i64 n1, .int .i64 n2, .int .i64 n3, .string h2, .slice none 0 0, .slice none 0 0, .int .i64 c1, .int .i64 c2, .string h3, .int .i64 m1, .int .i64 m2, .int .i64 m3, .int .i64 m4, .int .i64 m5])
      (.cons (.v _) (.cons (.v _) (.cons (.v _) (.cons (.v _) (.cons (.nil _ _ _) (.cons (.v _) (.cons (.v _) (.cons (.v _) (.cons (.v _) (.cons (.nil _ _ _) (.cons (.nil _ _ _) (.cons (.v _) (.cons (.v _) (.cons (.v _) (.cons (.v _) (.cons (.v _) (.cons (.v _) (.cons (.v _) (.cons (.v _) .nil)))))))))))))))))))) (.cons (.v _) .nil))
theorem dec_chain1 (s : ByteArray) (a b : Int) (h : ByteArray) (ha : a ≠ 0) (d0 : DPure Tp GI 45 [SV s] (.v (.iface 104 (.agg #[.int .i64 a, .int .i64 b, .string h])))) : DPure Tp GI 17 [SV s] (.tup [pageF 4 leaf0 inner0 ⟨a, b, h⟩ meta0, VN .i64 0]) := by
  have d1 := none_chain (I := GI) a b h
  rw [decide_eq_false ha] at d1
  refine z_pure (e0 := ?e0x8) mix e17 rfl ?z08 ?_
  (case z08 => exact rfl)
  dsimp only [c17]
  repeat' (first | ((with_reducible apply z_call); (case' hd => apply d0); (case hw => exact wknL_ok rfl); (try any_goals exact sd)) | ((with_reducible apply z_inv); (case hx => (conv => {lhs; whnf}) <;> exact rfl); (case hm => exact m_chain); (case' hd => apply d1); (try any_goals exact sd); (case hw => exact wknL_ok rfl)) | refine zs ?_ | refine Br.mk ?_ ?_ | intro _ | refine zf ?_ | fail)
  exact pgw (cs := []) (m := .nilIface) (by kernel_rfl)
theorem dec_meta1 (s : ByteArray) (a b c d e : Int) (ha : a ≠ 0) (d0 : DPure Tp GI 45 [SV s] (.v (.iface 106 (.agg #[.int .i64 a, .int .i64 b, .int .i64 c, .int .i64 d, .int .i64 e])))) : DPure Tp GI 17 [SV s] (.tup [pageF 1 leaf0 inner0 chain0 ⟨a, b, c, d, e⟩, VN .i64 0]) := by
  have d1 := none_meta (I := GI) a b c d e
  rw [decide_eq_false ha] at d1
  refine z_pure (e0 := ?e0x9) mix e17 rfl ?z09 ?_
  (case z09 => exact rfl)
  dsimp only [c17]
  repeat' (first | ((with_reducible apply z_call); (case' hd => apply d0); (case hw => exact wknL_ok rfl); (try any_goals exact sd)) | ((with_reducible apply z_inv); (case hx => (conv => {lhs; whnf}) <;> exact rfl); (case hm => exact m_meta); (case' hd => apply d1); (try any_goals exact sd); (case hw => exact wknL_ok rfl)) | refine zs ?_ | refine Br.mk ?_ ?_ | intro _ | refine zf ?_ | fail)
  exact pgw (cs := []) (m := .nilIface) (by kernel_rfl)
structure PageM where
  kind : Int
  l : LeafM
  n : InnerM
  c : ChainM
  m : MetaM
abbrev pageT (x : PageM) : DV := pageF x.kind x.l x.n x.c x.m
def page0 : PageM := ⟨0, leaf0, inner0, chain0, meta0⟩
noncomputable def decM (s : ByteArray) : PageM :=
  if s.size = 0 then page0
  else if byteAt s 0 = 2 then (if (lfM s).self = 0 then page0 else ⟨2, lfM s, inner0, chain0, meta0⟩)
  else if byteAt s 0 = 3 then (if (inM s).self = 0 then page0 else ⟨3, leaf0, inM s, chain0, meta0⟩)
  else if byteAt s 0 = 4 then (if (chM s).self = 0 then page0 else ⟨4, leaf0, inner0, chM s, meta0⟩)
  else if byteAt s 0 = 1 then (if (mtM s).p = 0 then page0 else ⟨1, leaf0, inner0, chain0, mtM s⟩)
  else page0
noncomputable def decE (s : ByteArray) : Int := if (decM s).kind = 0 then 3 else 0
theorem decode_D (s : ByteArray) (hs : s.size ≤ 1200) : DPure Tp GI 17 [SV s] (.tup [pageT (decM s), VN .i64 (decE s)]) := by
  have d0 := read_page s hs
  unfold pageD at d0
  have z : ∀ {x : PageM}, x = page0 → DPure Tp GI 17 [SV s] (.tup [pageF 0 leaf0 inner0 chain0 meta0, VN .i64 3]) → DPure Tp GI 17 [SV s] (.tup [pageT x, VN .i64 (if x.kind = 0 then 3 else 0)]) := by
    intro x hx h; subst hx; exact h
  unfold decE decM
  by_cases h0 : s.size = 0
  · rw [if_pos h0] at d0
    rw [if_pos h0]
    exact z rfl (dec_nil s d0)
  rw [if_neg h0] at d0
  rw [if_neg h0]
  by_cases h2 : byteAt s 0 = 2
  · rw [if_pos h2] at d0
    rw [if_pos h2]
    obtain ⟨⟨a, b, h, l⟩, hL⟩ : ∃ x, lfM s = x := ⟨_, rfl⟩
    rw [hL] at d0 ⊢
    by_cases ha : a = 0
    · subst ha
      exact z rfl (dec_leaf0 s b h l d0)
    · rw [if_neg ha]
      exact dec_leaf1 s a b h l ha d0
  rw [if_neg h2] at d0
  rw [if_neg h2]
  by_cases h3 : byteAt s 0 = 3
  · rw [if_pos h3] at d0
    rw [if_pos h3]
    obtain ⟨⟨a, b, c, h, k, l⟩, hL⟩ : ∃ x, inM s = x := ⟨_, rfl⟩
    rw [hL] at d0 ⊢
    by_cases ha : a = 0
    · subst ha
      exact z rfl (dec_inner0 s b c h k l d0)
    · rw [if_neg ha]
      exact dec_inner1 s a b c h k l ha d0
  rw [if_neg h3] at d0
  rw [if_neg h3]
  by_cases h4 : byteAt s 0 = 4
  · rw [if_pos h4] at d0
    rw [if_pos h4]
    obtain ⟨⟨a, b, h⟩, hL⟩ : ∃ x, chM s = x := ⟨_, rfl⟩
    rw [hL] at d0 ⊢
    by_cases ha : a = 0
    · subst ha
      exact z rfl (dec_chain0 s b h d0)
    · rw [if_neg ha]
      exact dec_chain1 s a b h ha d0
  rw [if_neg h4] at d0
  rw [if_neg h4]
  by_cases h1 : byteAt s 0 = 1
  · rw [if_pos h1] at d0
    rw [if_pos h1]
    obtain ⟨⟨a, b, c, d, e⟩, hL⟩ : ∃ x, mtM s = x := ⟨_, rfl⟩
    rw [hL] at d0 ⊢
    by_cases ha : a = 0
    · subst ha
      exact z rfl (dec_meta0 s b c d e d0)
    · rw [if_neg ha]
      exact dec_meta1 s a b c d e ha d0
  rw [if_neg h1] at d0
  rw [if_neg h1]
  exact z rfl (dec_nil s d0)
end Go.Proofs.YtlbodfkhenkcjaaGreatDoor.X


namespace Go.Proofs.YtlbodfkhenkcjaaGreatDoor.X
open Go Go.Proofs Go.RowKit Go.Proofs.YtlbodfkhenkcjaaGreatDoor.D
set_option maxRecDepth 100000
set_option maxHeartbeats 1000000
set_option linter.unusedVariables false
set_option linter.unusedSimpArgs false
variable {I : D.Inv}
attribute [local irreducible] D.DPure D.DEff D.callable D.dops D.dwp D.dxops D.optNat D.seqQ D.blkQ D.lopQ D.xK

def c19 : DFun := ⟨11, [.t 2], .seq (.reg [⟨some 1, .box (.t 0), none⟩, ⟨some 2, .mv (.c (.int .i64 0)), none⟩]) (.seq (.reg [⟨some 6, .ld 19 true (.t 1), none⟩, ⟨some 7, .call 50 [.t 6], none⟩, ⟨some 5, .mv (.t 7), none⟩, ⟨some 8, .ext (.t 5) 0, none⟩, ⟨some 9, .ext (.t 5) 1, none⟩, ⟨some 3, .mv (.t 8), none⟩, ⟨some 4, .mv (.t 9), none⟩]) (.seq (.reg [⟨some 10, .mv (.t 3), none⟩, ⟨some 2, .mv (.t 10), none⟩]) .ret))⟩
theorem e19 : cfun Tryz.prog 19 = some c19 := by kernel_rfl
def c21 : DFun := ⟨11, [.t 2], .seq (.reg [⟨some 1, .box (.t 0), none⟩, ⟨some 2, .mv (.c (.int .i64 0)), none⟩]) (.seq (.reg [⟨some 6, .ld 19 true (.t 1), none⟩, ⟨some 7, .call 50 [.t 6], none⟩, ⟨some 5, .mv (.t 7), none⟩, ⟨some 8, .ext (.t 5) 0, none⟩, ⟨some 9, .ext (.t 5) 1, none⟩, ⟨some 3, .mv (.t 8), none⟩, ⟨some 4, .mv (.t 9), none⟩]) (.seq (.reg [⟨some 10, .mv (.t 4), none⟩, ⟨some 2, .mv (.t 10), none⟩]) .ret))⟩
theorem e21 : cfun Tryz.prog 21 = some c21 := by kernel_rfl
theorem num_D1 (t a1 a2 b1 b2 b3 c1 c2 m1 m2 m3 m4 m5 : Int) (h1 h2 h3 : ByteArray) (l : List ItemM) (k : List Int) (q : List ByteArray) (x y : Int)
    (hx : (t = 1 ∧ x = 0 ∧ y = m3) ∨ (¬ t = 1 ∧ ¬ t = 2 ∧ ¬ t = 3 ∧ ¬ t = 4 ∧ x = 0 ∧ y = 0)) :
    DPure Tp I 50 [.agg [VN .i64 t, VN .i64 a1, VN .i64 a2, SV h1, .list 5 (itemsL l), VN .i64 b1, VN .i64 b2, VN .i64 b3, SV h2, .list 1 (k.map fun n => VN .i64 n), .list 1 (strsL q), VN .i64 c1, VN .i64 c2, SV h3, VN .i64 m1, VN .i64 m2, VN .i64 m3, VN .i64 m4, VN .i64 m5]] (.v (.tuple #[.int .i64 x, .int .i64 y])) := by
  rcases hx with ⟨rfl, rfl, rfl⟩ | ⟨g1, g2, g3, g4, rfl, rfl⟩
  · refine z_pure (e0 := ?e0x1) mix e50 rfl ?z01 ?_
    (case z01 => exact rfl)
    dsimp only [c50]
    repeat' (first | refine zs ?_ | refine Br.mk ?_ ?_ | intro _ | refine zf ?_ | fail)
    all_goals exact wkn_ok (by kernel_rfl)
  · refine z_pure (e0 := ?e0x2) mix e50 rfl ?z02 ?_
    (case z02 => exact rfl)
    dsimp only [c50]
    repeat' (first | refine zs ?_ | refine Br.mk ?_ ?_ | intro _ | refine zf ?_ | fail)
    all_goals exact wkn_ok (by kernel_rfl)
def selfN (x : PageM) : Int := if x.kind = 2 then x.l.self else if x.kind = 3 then x.n.self else if x.kind = 4 then x.c.self else 0
def rightN (x : PageM) : Int := if x.kind = 2 then x.l.right else if x.kind = 3 then x.n.right else if x.kind = 4 then x.c.next else if x.kind = 1 then x.m.root else 0
theorem num_D (x : PageM) : DPure Tp I 50 [pageT x] (.v (.tuple #[.int .i64 (selfN x), .int .i64 (rightN x)])) := by
  obtain ⟨t, ⟨a1, a2, h1, l⟩, ⟨b1, b2, b3, h2, k, q⟩, ⟨c1, c2, h3⟩, ⟨m1, m2, m3, m4, m5⟩⟩ := x
  unfold selfN rightN
  dsimp only
  by_cases e2 : t = 2
  · rw [if_pos e2, if_pos e2]; exact num_D0 _ _ _ _ _ _ _ _ _ _ _ _ _ _ _ _ _ _ _ _ _ (.inl ⟨e2, rfl, rfl⟩)
  rw [if_neg e2, if_neg e2]
  by_cases e3 : t = 3
  · rw [if_pos e3, if_pos e3]; exact num_D0 _ _ _ _ _ _ _ _ _ _ _ _ _ _ _ _ _ _ _ _ _ (.inr (.inl ⟨e3, rfl, rfl⟩))
  rw [if_neg e3, if_neg e3]
  by_cases e4 : t = 4
  · rw [if_pos e4, if_pos e4]; exact num_D0 _ _ _ _ _ _ _ _ _ _ _ _ _ _ _ _ _ _ _ _ _ (.inr (.inr ⟨e4, rfl, rfl⟩))
  rw [if_neg e4, if_neg e4]
  by_cases e1 : t = 1
  · rw [if_pos e1]; exact num_D1 _ _ _ _ _ _ _ _ _ _ _ _ _ _ _ _ _ _ _ _ _ (.inl ⟨e1, rfl, rfl⟩)
  rw [if_neg e1]; exact num_D1 _ _ _ _ _ _ _ _ _ _ _ _ _ _ _ _ _ _ _ _ _ (.inr ⟨e1, e2, e3, e4, rfl, rfl⟩)
theorem self_D0 (t a1 a2 b1 b2 b3 c1 c2 m1 m2 m3 m4 m5 : Int) (h1 h2 h3 : ByteArray) (l : List ItemM) (k : List Int) (q : List ByteArray) (x y : Int)
    (d0 : DPure Tp I 50 [.agg [VN .i64 t, VN .i64 a1, VN .i64 a2, SV h1, .list 5 (itemsL l), VN .i64 b1, VN .i64 b2, VN .i64 b3, SV h2, .list 1 (k.map fun n => VN .i64 n), .list 1 (strsL q), VN .i64 c1, VN .i64 c2, SV h3, VN .i64 m1, VN .i64 m2, VN .i64 m3, VN .i64 m4, VN .i64 m5]] (.v (.tuple #[.int .i64 x, .int .i64 y]))) :
    DPure Tp I 19 [.agg [VN .i64 t, VN .i64 a1, VN .i64 a2, SV h1, .list 5 (itemsL l), VN .i64 b1, VN .i64 b2, VN .i64 b3, SV h2, .list 1 (k.map fun n => VN .i64 n), .list 1 (strsL q), VN .i64 c1, VN .i64 c2, SV h3, VN .i64 m1, VN .i64 m2, VN .i64 m3, VN .i64 m4, VN .i64 m5]] (VN .i64 x) := by
  refine z_pure (e0 := ?e0x3) mix e19 rfl ?z03 ?_
  (case z03 => exact rfl)
  dsimp only [c19]
  repeat' (first | ((with_reducible apply z_call); (case' hd => apply d0); (case hw => exact wknL_ok rfl); (try any_goals exact sd)) | refine zs ?_ | refine Br.mk ?_ ?_ | intro _ | refine zf ?_ | fail)
  exact wkn_ok (by kernel_rfl)
theorem right_D0 (t a1 a2 b1 b2 b3 c1 c2 m1 m2 m3 m4 m5 : Int) (h1 h2 h3 : ByteArray) (l : List ItemM) (k : List Int) (q : List ByteArray) (x y : Int)
    (d0 : DPure Tp I 50 [.agg [VN .i64 t, VN .i64 a1, VN .i64 a2, SV h1, .list 5 (itemsL l), VN .i64 b1, VN .i64 b2, VN .i64 b3, SV h2, .list 1 (k.map fun n => VN .i64 n), .list 1 (strsL q), VN .i64 c1, VN .i64 c2, SV h3, VN .i64 m1, VN .i64 m2, VN .i64 m3, VN .i64 m4, VN .i64 m5]] (.v (.tuple #[.int .i64 x, .int .i64 y]))) :
    DPure Tp I 21 [.agg [VN .i64 t, VN .i64 a1, VN .i64 a2, SV h1, .list 5 (itemsL l), VN .i64 b1, VN .i64 b2, VN .i64 b3, SV h2, .list 1 (k.map fun n => VN .i64 n), .list 1 (strsL q), VN .i64 c1, VN .i64 c2, SV h3, VN .i64 m1, VN .i64 m2, VN .i64 m3, VN .i64 m4, VN .i64 m5]] (VN .i64 y) := by
  refine z_pure (e0 := ?e0x4) mix e21 rfl ?z04 ?_
  (case z04 => exact rfl)
  dsimp only [c21]
  repeat' (first | ((with_reducible apply z_call); (case' hd => apply d0); (case hw => exact wknL_ok rfl); (try any_goals exact sd)) | refine zs ?_ | refine Br.mk ?_ ?_ | intro _ | refine zf ?_ | fail)
  exact wkn_ok (by kernel_rfl)
theorem self_D (x : PageM) : DPure Tp I 19 [pageT x] (VN .i64 (selfN x)) := by
  have d0 := num_D (I := I) x
  obtain ⟨t, ⟨a1, a2, h1, l⟩, ⟨b1, b2, b3, h2, k, q⟩, ⟨c1, c2, h3⟩, ⟨m1, m2, m3, m4, m5⟩⟩ := x
  exact self_D0 _ _ _ _ _ _ _ _ _ _ _ _ _ _ _ _ _ _ _ _ _ d0
theorem rightp_D (x : PageM) : DPure Tp I 21 [pageT x] (VN .i64 (rightN x)) := by
  have d0 := num_D (I := I) x
  obtain ⟨t, ⟨a1, a2, h1, l⟩, ⟨b1, b2, b3, h2, k, q⟩, ⟨c1, c2, h3⟩, ⟨m1, m2, m3, m4, m5⟩⟩ := x
  exact right_D0 _ _ _ _ _ _ _ _ _ _ _ _ _ _ _ _ _ _ _ _ _ d0
end Go.Proofs.YtlbodfkhenkcjaaGreatDoor.X


namespace Go.Proofs.YtlbodfkhenkcjaaGreatDoor.X
open Go Go.Proofs Go.RowKit Go.Proofs.YtlbodfkhenkcjaaGreatDoor.D
set_option maxRecDepth 100000
set_option maxHeartbeats 1000000
set_option linter.unusedVariables false
set_option linter.unusedSimpArgs false
variable {I : D.Inv}
attribute [local irreducible] D.DPure D.DEff D.callable D.dops D.dwp D.dxops D.optNat D.seqQ D.blkQ D.lopQ D.xK

def c61 : DFun := ⟨26, [.t 4], .seq (.reg [⟨some 4, .mv (.c (.bool false)), none⟩]) (.seq (.seq (.reg [⟨some 6, .mv (.t 0), none⟩, ⟨some 7, .len false (.t 6), none⟩, ⟨some 8, .mv (.t 1), none⟩, ⟨some 9, .len false (.t 8), none⟩, ⟨some 10, .bin .neq (.t 7) (.t 9), none⟩]) (.cond (.t 10) (.seq (.reg [⟨some 4, .mv (.c (.bool false)), none⟩]) .ret) .skip)) (.seq (.seq (.reg [⟨some 11, .mv (.t 0), none⟩, ⟨some 12, .len false (.t 11), none⟩, ⟨some 13, .mv (.c (.int .i64 0)), none⟩]) (.block 0 (.loop (.seq (.reg [⟨some 14, .bin .lss (.t 13) (.t 12), none⟩]) (.seq (.cond (.t 14) .skip (.exit 0)) (.seq (.block 1 (.seq (.reg [⟨some 15, .mv (.t 13), none⟩, ⟨some 5, .mv (.t 15), none⟩]) (.seq (.reg [⟨some 16, .mv (.t 0), none⟩, ⟨some 17, .mv (.t 5), none⟩, ⟨some 18, .ixa 1 (.t 16) (.t 17), none⟩, ⟨some 19, .ld 1 false (.t 18), none⟩, ⟨some 20, .mv (.t 1), none⟩, ⟨some 21, .mv (.t 5), none⟩, ⟨some 22, .ixa 1 (.t 20) (.t 21), none⟩, ⟨some 23, .ld 1 false (.t 22), none⟩, ⟨some 24, .bin .neq (.t 19) (.t 23), none⟩]) (.cond (.t 24) (.seq (.reg [⟨some 4, .mv (.c (.bool false)), none⟩]) .ret) .skip)))) (.reg [⟨some 25, .bin .add (.t 13) (.c (.int .i64 1)), none⟩, ⟨some 13, .mv (.t 25), none⟩]))))))) (.seq (.reg [⟨some 4, .mv (.c (.bool true)), none⟩]) .ret)))⟩
theorem e61 : cfun Tryz.prog 61 = some c61 := by kernel_rfl
def c62 : DFun := ⟨26, [.t 4], .seq (.reg [⟨some 4, .mv (.c (.bool false)), none⟩]) (.seq (.seq (.reg [⟨some 6, .mv (.t 0), none⟩, ⟨some 7, .len false (.t 6), none⟩, ⟨some 8, .mv (.t 1), none⟩, ⟨some 9, .len false (.t 8), none⟩, ⟨some 10, .bin .neq (.t 7) (.t 9), none⟩]) (.cond (.t 10) (.seq (.reg [⟨some 4, .mv (.c (.bool false)), none⟩]) .ret) .skip)) (.seq (.seq (.reg [⟨some 11, .mv (.t 0), none⟩, ⟨some 12, .len false (.t 11), none⟩, ⟨some 13, .mv (.c (.int .i64 0)), none⟩]) (.block 0 (.loop (.seq (.reg [⟨some 14, .bin .lss (.t 13) (.t 12), none⟩]) (.seq (.cond (.t 14) .skip (.exit 0)) (.seq (.block 1 (.seq (.reg [⟨some 15, .mv (.t 13), none⟩, ⟨some 5, .mv (.t 15), none⟩]) (.seq (.reg [⟨some 16, .mv (.t 0), none⟩, ⟨some 17, .mv (.t 5), none⟩, ⟨some 18, .ixa 1 (.t 16) (.t 17), none⟩, ⟨some 19, .ld 1 false (.t 18), none⟩, ⟨some 20, .mv (.t 1), none⟩, ⟨some 21, .mv (.t 5), none⟩, ⟨some 22, .ixa 1 (.t 20) (.t 21), none⟩, ⟨some 23, .ld 1 false (.t 22), none⟩, ⟨some 24, .bin .neq (.t 19) (.t 23), none⟩]) (.cond (.t 24) (.seq (.reg [⟨some 4, .mv (.c (.bool false)), none⟩]) .ret) .skip)))) (.reg [⟨some 25, .bin .add (.t 13) (.c (.int .i64 1)), none⟩, ⟨some 13, .mv (.t 25), none⟩]))))))) (.seq (.reg [⟨some 4, .mv (.c (.bool true)), none⟩]) .ret)))⟩
theorem e62 : cfun Tryz.prog 62 = some c62 := by kernel_rfl
theorem eq_ext {α : Type} {l m : List α} (hn : l.length = m.length) (h : ∀ j (h : j < l.length) (h' : j < m.length), j < l.length → l[j] = m[j]) : l = m := List.ext_getElem hn fun j h1 h2 => h j h1 h2 h1
theorem equalS_D (l m : List ByteArray) (hl : l.length ≤ 100000) (hm : m.length ≤ 100000) : DPure Tp I 62 [.list 1 (strsL l), .list 1 (strsL m)] (BV (decide (l = m))) := by
  have hll := strs_len l
  have hml := strs_len m
  by_cases hlm : l.length = m.length
  · refine z_pure (e0 := ?e0x1) mix e62 rfl ?z01 ?_
    (case z01 => exact rfl)
    dsimp only [c62]
    repeat' (first | refine zs ?_ | refine Br.mk ?_ ?_ | intro _ | refine zf ?_ | fail)
    refine z_loop (fun i : Nat => ⟨[(0, .list 1 (strsL l)), (1, .list 1 (strsL m)), (12, VN .i64 (strsL l).length), (13, VN .i64 i)], [], []⟩) (fun i : Nat => i ≤ l.length ∧ ∀ j (h : j < l.length) (h' : j < m.length), j < i → l[j] = m[j]) (fun i : Nat => l.length - i) (0) ?_ ?_ fun i hi => ?_
    · exact (less_of 0 0 0 rfl rfl (lessE_cons (ltd_eq rfl (by kernel_rfl)) (lessE_cons (ltd_eq rfl (by kernel_rfl)) (lessE_cons (ltd_eq rfl (by kernel_rfl)) (lessE_cons (ltd_eq rfl (by kernel_rfl)) lessE_nil)))) (by kernel_rfl) (by kernel_rfl) (by kernel_rfl) (by kernel_rfl))
    · exact ⟨by omega, fun j _ _ h => absurd h (Nat.not_lt_zero j)⟩
    by_cases hil : i < l.length
    · have him : i < m.length := by omega
      repeat' (first | refine ⟨_, strs_get hil, ?_⟩ | refine ⟨_, strs_get him, ?_⟩ | refine z1 ?_ | refine Br.mk ?_ ?_ | intro _ | refine zf ?_ | fail)
      · refine ⟨i + 1, (less_of 0 0 0 rfl rfl (lessE_cons (ltd_eq rfl (by kernel_rfl)) (lessE_cons (ltd_eq rfl (by kernel_rfl)) (lessE_cons (ltd_eq rfl (by kernel_rfl)) (lessE_cons (ltd_eq rfl (by kernel_rfl)) lessE_nil)))) (by kernel_rfl) (by kernel_rfl) (by kernel_rfl) (by kernel_rfl)), ⟨by omega, fun j h h' hj => ?_⟩, by omega⟩
        rcases Nat.lt_or_eq_of_le (Nat.le_of_lt_succ hj) with q | q
        · exact hi.2 j h h' q
        · subst q; assumption
      · refine bool_of (b := false) (by kernel_rfl) (decide_eq_false fun e => ?_).symm
        subst e
        exact absurd rfl ‹¬ _ = _›
    · repeat' (first | refine zs ?_ | refine Br.mk ?_ ?_ | intro _ | refine zf ?_ | fail)
      exact bool_of (b := true) (by kernel_rfl) (decide_eq_true (eq_ext hlm fun j h h' hj => hi.2 j h h' (by omega))).symm
  · refine z_pure (e0 := ?e0x2) mix e62 rfl ?z02 ?_
    (case z02 => exact rfl)
    dsimp only [c62]
    repeat' (first | refine zs ?_ | refine Br.mk ?_ ?_ | intro _ | refine zf ?_ | fail)
    exact bool_of (b := false) (by kernel_rfl) (decide_eq_false fun e => hlm (congrArg List.length e)).symm
theorem equalI_D (l m : List Int) (hl : l.length ≤ 100000) (hm : m.length ≤ 100000) : DPure Tp I 61 [.list 1 (l.map fun n => VN .i64 n), .list 1 (m.map fun n => VN .i64 n)] (BV (decide (l = m))) := by
  have hll := ints_len l
  have hml := ints_len m
  by_cases hlm : l.length = m.length
  · refine z_pure (e0 := ?e0x3) mix e61 rfl ?z03 ?_
    (case z03 => exact rfl)
    dsimp only [c61]
    repeat' (first | refine zs ?_ | refine Br.mk ?_ ?_ | intro _ | refine zf ?_ | fail)
    refine z_loop (fun i : Nat => ⟨[(0, .list 1 (l.map fun n => VN .i64 n)), (1, .list 1 (m.map fun n => VN .i64 n)), (12, VN .i64 (l.map fun n => VN .i64 n).length), (13, VN .i64 i)], [], []⟩) (fun i : Nat => i ≤ l.length ∧ ∀ j (h : j < l.length) (h' : j < m.length), j < i → l[j] = m[j]) (fun i : Nat => l.length - i) (0) ?_ ?_ fun i hi => ?_
    · exact (less_of 0 0 0 rfl rfl (lessE_cons (ltd_eq rfl (by kernel_rfl)) (lessE_cons (ltd_eq rfl (by kernel_rfl)) (lessE_cons (ltd_eq rfl (by kernel_rfl)) (lessE_cons (ltd_eq rfl (by kernel_rfl)) lessE_nil)))) (by kernel_rfl) (by kernel_rfl) (by kernel_rfl) (by kernel_rfl))
    · exact ⟨by omega, fun j _ _ h => absurd h (Nat.not_lt_zero j)⟩
    by_cases hil : i < l.length
    · have him : i < m.length := by omega
      repeat' (first | refine ⟨_, ints_get hil, ?_⟩ | refine ⟨_, ints_get him, ?_⟩ | refine z1 ?_ | refine Br.mk ?_ ?_ | intro _ | refine zf ?_ | fail)
      · refine ⟨i + 1, (less_of 0 0 0 rfl rfl (lessE_cons (ltd_eq rfl (by kernel_rfl)) (lessE_cons (ltd_eq rfl (by kernel_rfl)) (lessE_cons (ltd_eq rfl (by kernel_rfl)) (lessE_cons (ltd_eq rfl (by kernel_rfl)) lessE_nil)))) (by kernel_rfl) (by kernel_rfl) (by kernel_rfl) (by kernel_rfl)), ⟨by omega, fun j h h' hj => ?_⟩, by omega⟩
        rcases Nat.lt_or_eq_of_le (Nat.le_of_lt_succ hj) with q | q
        · exact hi.2 j h h' q
        · subst q; assumption
      · refine bool_of (b := false) (by kernel_rfl) (decide_eq_false fun e => ?_).symm
        subst e
        exact absurd rfl ‹¬ _ = _›
    · repeat' (first | refine zs ?_ | refine Br.mk ?_ ?_ | intro _ | refine zf ?_ | fail)
      exact bool_of (b := true) (by kernel_rfl) (decide_eq_true (eq_ext hlm fun j h h' hj => hi.2 j h h' (by omega))).symm
  · refine z_pure (e0 := ?e0x4) mix e61 rfl ?z04 ?_
    (case z04 => exact rfl)
    dsimp only [c61]
    repeat' (first | refine zs ?_ | refine Br.mk ?_ ?_ | intro _ | refine zf ?_ | fail)
    exact bool_of (b := false) (by kernel_rfl) (decide_eq_false fun e => hlm (congrArg List.length e)).symm
end Go.Proofs.YtlbodfkhenkcjaaGreatDoor.X


namespace Go.Proofs.YtlbodfkhenkcjaaGreatDoor.X
open Go Go.Proofs Go.RowKit Go.Proofs.YtlbodfkhenkcjaaGreatDoor.D
set_option maxRecDepth 100000
set_option maxHeartbeats 1000000
set_option linter.unusedVariables false
set_option linter.unusedSimpArgs false
variable {I : D.Inv}
attribute [local irreducible] D.DPure D.DEff D.callable D.dops D.dwp D.dxops D.optNat D.seqQ D.blkQ D.lopQ D.xK

def c60 : DFun := ⟨26, [.t 4], .seq (.reg [⟨some 4, .mv (.c (.bool false)), none⟩]) (.seq (.seq (.reg [⟨some 6, .mv (.t 0), none⟩, ⟨some 7, .len false (.t 6), none⟩, ⟨some 8, .mv (.t 1), none⟩, ⟨some 9, .len false (.t 8), none⟩, ⟨some 10, .bin .neq (.t 7) (.t 9), none⟩]) (.cond (.t 10) (.seq (.reg [⟨some 4, .mv (.c (.bool false)), none⟩]) .ret) .skip)) (.seq (.seq (.reg [⟨some 11, .mv (.t 0), none⟩, ⟨some 12, .len false (.t 11), none⟩, ⟨some 13, .mv (.c (.int .i64 0)), none⟩]) (.block 0 (.loop (.seq (.reg [⟨some 14, .bin .lss (.t 13) (.t 12), none⟩]) (.seq (.cond (.t 14) .skip (.exit 0)) (.seq (.block 1 (.seq (.reg [⟨some 15, .mv (.t 13), none⟩, ⟨some 5, .mv (.t 15), none⟩]) (.seq (.reg [⟨some 16, .mv (.t 0), none⟩, ⟨some 17, .mv (.t 5), none⟩, ⟨some 18, .ixa 5 (.t 16) (.t 17), none⟩, ⟨some 19, .ld 5 true (.t 18), none⟩, ⟨some 20, .mv (.t 1), none⟩, ⟨some 21, .mv (.t 5), none⟩, ⟨some 22, .ixa 5 (.t 20) (.t 21), none⟩, ⟨some 23, .ld 5 true (.t 22), none⟩, ⟨some 24, .eqs true [2, 0, 2, 1, 1] (.t 19) (.t 23), none⟩]) (.cond (.t 24) (.seq (.reg [⟨some 4, .mv (.c (.bool false)), none⟩]) .ret) .skip)))) (.reg [⟨some 25, .bin .add (.t 13) (.c (.int .i64 1)), none⟩, ⟨some 13, .mv (.t 25), none⟩]))))))) (.seq (.reg [⟨some 4, .mv (.c (.bool true)), none⟩]) .ret)))⟩
theorem e60 : cfun Tryz.prog 60 = some c60 := by kernel_rfl
noncomputable instance : DecidableEq ItemM := fun _ _ => Classical.propDecidable _
theorem tl_inj {s t : ByteArray} (h : s.toList = t.toList) : s = t := by
  rw [ByteArray.toList_eq, ByteArray.toList_eq] at h
  obtain ⟨⟨l⟩⟩ := s
  obtain ⟨⟨m⟩⟩ := t
  exact congrArg (fun l => ByteArray.mk (Array.mk l)) h
theorem it_eqb (x y : ItemM) : ((x.key.toList == y.key.toList) && ((x.v.over == y.v.over) && ((x.v.s.toList == y.v.s.toList) && ((x.v.len == y.v.len) && ((x.v.page == y.v.page) && true))))) = decide (x = y) := by
  rw [Bool.eq_iff_iff, decide_eq_true_iff]
  simp only [Bool.and_eq_true, beq_iff_eq, and_true]
  constructor
  · rintro ⟨h1, h2, h3, h4, h5⟩
    obtain ⟨k, v, s, n, p⟩ := x
    obtain ⟨k', v', s', n', p'⟩ := y
    dsimp only at h1 h2 h3 h4 h5
    obtain rfl := tl_inj h1
    obtain rfl := tl_inj h3
    subst h2 h4 h5
    rfl
  · rintro rfl
    exact ⟨rfl, rfl, rfl, rfl, rfl⟩
theorem it_ne {x y : ItemM} (h : (!((x.key.toList == y.key.toList) && ((x.v.over == y.v.over) && ((x.v.s.toList == y.v.s.toList) && ((x.v.len == y.v.len) && ((x.v.page == y.v.page) && true)))))) = true) : ¬ x = y := by
  rw [it_eqb] at h
  simpa using h
theorem it_same {x y : ItemM} (h : (!((x.key.toList == y.key.toList) && ((x.v.over == y.v.over) && ((x.v.s.toList == y.v.s.toList) && ((x.v.len == y.v.len) && ((x.v.page == y.v.page) && true)))))) = false) : x = y := by
  rw [it_eqb] at h
  simpa using h
theorem equalT_D (l m : List ItemM) (hl : l.length ≤ 100000) (hm : m.length ≤ 100000) : DPure Tp I 60 [.list 5 (itemsL l), .list 5 (itemsL m)] (BV (decide (l = m))) := by
  have hll := items_len l
  have hml := items_len m
  by_cases hlm : l.length = m.length
  · refine z_pure (e0 := ?e0x1) mix e60 rfl ?z01 ?_
    (case z01 => exact rfl)
    dsimp only [c60]
    repeat' (first | refine zs ?_ | refine Br.mk ?_ ?_ | intro _ | refine zf ?_ | fail)
    refine z_loop (fun i : Nat => ⟨[(0, .list 5 (itemsL l)), (1, .list 5 (itemsL m)), (12, VN .i64 (itemsL l).length), (13, VN .i64 i)], [], []⟩) (fun i : Nat => i ≤ l.length ∧ ∀ j (h : j < l.length) (h' : j < m.length), j < i → l[j] = m[j]) (fun i : Nat => l.length - i) (0) ?_ ?_ fun i hi => ?_
    · exact (less_of 0 0 0 rfl rfl (lessE_cons (ltd_eq rfl (by kernel_rfl)) (lessE_cons (ltd_eq rfl (by kernel_rfl)) (lessE_cons (ltd_eq rfl (by kernel_rfl)) (lessE_cons (ltd_eq rfl (by kernel_rfl)) lessE_nil)))) (by kernel_rfl) (by kernel_rfl) (by kernel_rfl) (by kernel_rfl))
    · exact ⟨by omega, fun j _ _ h => absurd h (Nat.not_lt_zero j)⟩
    by_cases hil : i < l.length
    · have him : i < m.length := by omega
      repeat' (first | refine ⟨_, items_get hil, ?_⟩ | refine ⟨_, items_get him, ?_⟩ | refine z1 ?_ | refine Br.mk ?_ ?_ | intro _ | refine zf ?_ | fail)
      · rename_i hx
        have hne := it_ne hx
        refine bool_of (b := false) (by kernel_rfl) (decide_eq_false fun e => ?_).symm
        subst e
        exact absurd rfl hne
      · rename_i hx
        have hsm := it_same hx
        refine ⟨i + 1, (less_of 0 0 0 rfl rfl (lessE_cons (ltd_eq rfl (by kernel_rfl)) (lessE_cons (ltd_eq rfl (by kernel_rfl)) (lessE_cons (ltd_eq rfl (by kernel_rfl)) (lessE_cons (ltd_eq rfl (by kernel_rfl)) lessE_nil)))) (by kernel_rfl) (by kernel_rfl) (by kernel_rfl) (by kernel_rfl)), ⟨by omega, fun j h h' hj => ?_⟩, by omega⟩
        rcases Nat.lt_or_eq_of_le (Nat.le_of_lt_succ hj) with q | q
        · exact hi.2 j h h' q
        · subst q; exact hsm
    · repeat' (first | refine zs ?_ | refine Br.mk ?_ ?_ | intro _ | refine zf ?_ | fail)
      exact bool_of (b := true) (by kernel_rfl) (decide_eq_true (eq_ext hlm fun j h h' hj => hi.2 j h h' (by omega))).symm
  · refine z_pure (e0 := ?e0x2) mix e60 rfl ?z02 ?_
    (case z02 => exact rfl)
    dsimp only [c60]
    repeat' (first | refine zs ?_ | refine Br.mk ?_ ?_ | intro _ | refine zf ?_ | fail)
    exact bool_of (b := false) (by kernel_rfl) (decide_eq_false fun e => hlm (congrArg List.length e)).symm
end Go.Proofs.YtlbodfkhenkcjaaGreatDoor.X


namespace Go.Proofs.YtlbodfkhenkcjaaGreatDoor.X
open Go Go.Proofs Go.RowKit Go.Proofs.YtlbodfkhenkcjaaGreatDoor.D
set_option maxRecDepth 100000
set_option maxHeartbeats 4000000
set_option linter.unusedVariables false
set_option linter.unusedSimpArgs false
variable {I : D.Inv}
attribute [local irreducible] D.DPure D.DEff D.callable D.dops D.dwp D.dxops D.optNat D.seqQ D.blkQ D.lopQ D.xK

def c29 : DFun := ⟨31, [.t 4], .seq (.reg [⟨some 2, .box (.t 0), none⟩, ⟨some 3, .box (.t 1), none⟩, ⟨some 4, .mv (.c (.bool false)), none⟩]) (.seq (.reg [⟨some 5, .fa 0 (.t 2), none⟩, ⟨some 6, .ld 1 false (.t 5), none⟩, ⟨some 7, .fa 0 (.t 3), none⟩, ⟨some 8, .ld 1 false (.t 7), none⟩, ⟨some 9, .bin .eql (.t 6) (.t 8), none⟩, ⟨some 10, .mv (.t 9), none⟩, ⟨some 11, .fa 1 (.t 2), some (10, true)⟩, ⟨some 12, .ld 1 false (.t 11), some (10, true)⟩, ⟨some 13, .fa 1 (.t 3), some (10, true)⟩, ⟨some 14, .ld 1 false (.t 13), some (10, true)⟩, ⟨some 15, .bin .eql (.t 12) (.t 14), some (10, true)⟩, ⟨some 16, .pick (.t 10) (.t 15) (.c (.bool false)), none⟩, ⟨some 17, .mv (.t 16), none⟩, ⟨some 18, .fa 2 (.t 2), some (17, true)⟩, ⟨some 19, .ld 1 false (.t 18), some (17, true)⟩, ⟨some 20, .fa 2 (.t 3), some (17, true)⟩, ⟨some 21, .ld 1 false (.t 20), some (17, true)⟩, ⟨some 22, .bin .eql (.t 19) (.t 21), some (17, true)⟩, ⟨some 23, .pick (.t 17) (.t 22) (.c (.bool false)), none⟩, ⟨some 24, .mv (.t 23), none⟩, ⟨some 25, .fa 3 (.t 2), some (24, true)⟩, ⟨some 26, .ld 1 false (.t 25), some (24, true)⟩, ⟨some 27, .fa 3 (.t 3), some (24, true)⟩, ⟨some 28, .ld 1 false (.t 27), some (24, true)⟩, ⟨some 29, .call 60 [.t 26, .t 28], some (24, true)⟩, ⟨some 30, .pick (.t 24) (.t 29) (.c (.bool false)), none⟩, ⟨some 4, .mv (.t 30), none⟩]) .ret)⟩
theorem e29 : cfun Tryz.prog 29 = some c29 := by kernel_rfl
def c30 : DFun := ⟨45, [.t 4], .seq (.reg [⟨some 2, .box (.t 0), none⟩, ⟨some 3, .box (.t 1), none⟩, ⟨some 4, .mv (.c (.bool false)), none⟩]) (.seq (.reg [⟨some 5, .fa 0 (.t 2), none⟩, ⟨some 6, .ld 1 false (.t 5), none⟩, ⟨some 7, .fa 0 (.t 3), none⟩, ⟨some 8, .ld 1 false (.t 7), none⟩, ⟨some 9, .bin .eql (.t 6) (.t 8), none⟩, ⟨some 10, .mv (.t 9), none⟩, ⟨some 11, .fa 1 (.t 2), some (10, true)⟩, ⟨some 12, .ld 1 false (.t 11), some (10, true)⟩, ⟨some 13, .fa 1 (.t 3), some (10, true)⟩, ⟨some 14, .ld 1 false (.t 13), some (10, true)⟩, ⟨some 15, .bin .eql (.t 12) (.t 14), some (10, true)⟩, ⟨some 16, .pick (.t 10) (.t 15) (.c (.bool false)), none⟩, ⟨some 17, .mv (.t 16), none⟩, ⟨some 18, .fa 2 (.t 2), some (17, true)⟩, ⟨some 19, .ld 1 false (.t 18), some (17, true)⟩, ⟨some 20, .fa 2 (.t 3), some (17, true)⟩, ⟨some 21, .ld 1 false (.t 20), some (17, true)⟩, ⟨some 22, .bin .eql (.t 19) (.t 21), some (17, true)⟩, ⟨some 23, .pick (.t 17) (.t 22) (.c (.bool false)), none⟩, ⟨some 24, .mv (.t 23), none⟩, ⟨some 25, .fa 3 (.t 2), some (24, true)⟩, ⟨some 26, .ld 1 false (.t 25), some (24, true)⟩, ⟨some 27, .fa 3 (.t 3), some (24, true)⟩, ⟨some 28, .ld 1 false (.t 27), some (24, true)⟩, ⟨some 29, .bin .eql (.t 26) (.t 28), some (24, true)⟩, ⟨some 30, .pick (.t 24) (.t 29) (.c (.bool false)), none⟩, ⟨some 31, .mv (.t 30), none⟩, ⟨some 32, .fa 4 (.t 2), some (31, true)⟩, ⟨some 33, .ld 1 false (.t 32), some (31, true)⟩, ⟨some 34, .fa 4 (.t 3), some (31, true)⟩, ⟨some 35, .ld 1 false (.t 34), some (31, true)⟩, ⟨some 36, .call 61 [.t 33, .t 35], some (31, true)⟩, ⟨some 37, .pick (.t 31) (.t 36) (.c (.bool false)), none⟩, ⟨some 38, .mv (.t 37), none⟩, ⟨some 39, .fa 5 (.t 2), some (38, true)⟩, ⟨some 40, .ld 1 false (.t 39), some (38, true)⟩, ⟨some 41, .fa 5 (.t 3), some (38, true)⟩, ⟨some 42, .ld 1 false (.t 41), some (38, true)⟩, ⟨some 43, .call 62 [.t 40, .t 42], some (38, true)⟩, ⟨some 44, .pick (.t 38) (.t 43) (.c (.bool false)), none⟩, ⟨some 4, .mv (.t 44), none⟩]) .ret)⟩
theorem e30 : cfun Tryz.prog 30 = some c30 := by kernel_rfl
theorem lsame_D0 (a b a' b' : Int) (h h' : ByteArray) (l l' : List ItemM) (hl : l.length ≤ 100000) (hm : l'.length ≤ 100000) : DPure Tp I 29 [.agg [VN .i64 a, VN .i64 b, SV h, .list 5 (itemsL l)], .agg [VN .i64 a', VN .i64 b', SV h', .list 5 (itemsL l')]] (BV (decide (((a = a' ∧ b = b') ∧ h = h') ∧ l = l'))) := by
  have d1 := equalT_D (I := I) l l' hl hm
  by_cases hll : l = l'
  · rw [decide_eq_true hll] at d1
    refine z_pure (e0 := ?e0x1) mix e29 rfl ?z01 ?_
    (case z01 => exact rfl)
    dsimp only [c29]
    repeat' (first | ((with_reducible apply z_call); (case' hd => apply d1); (case hw => exact wknL_ok rfl); (try any_goals exact sd)) | refine zs ?_ | refine Br.mk ?_ ?_ | intro _ | refine zf ?_ | fail)
    all_goals first
      | exact bool_of (b := true) (by kernel_rfl) (decide_eq_true ⟨⟨⟨‹_›, ‹_›⟩, ‹_›⟩, hll⟩).symm
      | exact bool_of (b := false) (by kernel_rfl) (decide_eq_false fun e => absurd e.1.1.1 ‹_›).symm
      | exact bool_of (b := false) (by kernel_rfl) (decide_eq_false fun e => absurd e.1.1.2 ‹_›).symm
      | exact bool_of (b := false) (by kernel_rfl) (decide_eq_false fun e => absurd e.1.2 ‹_›).symm
  · rw [decide_eq_false hll] at d1
    refine z_pure (e0 := ?e0x2) mix e29 rfl ?z02 ?_
    (case z02 => exact rfl)
    dsimp only [c29]
    repeat' (first | ((with_reducible apply z_call); (case' hd => apply d1); (case hw => exact wknL_ok rfl); (try any_goals exact sd)) | refine zs ?_ | refine Br.mk ?_ ?_ | intro _ | refine zf ?_ | fail)
    all_goals exact bool_of (b := false) (by kernel_rfl) (decide_eq_false fun e => hll e.2).symm
theorem isame_D0 (a b c a' b' c' : Int) (h h' : ByteArray) (k k' : List Int) (l l' : List ByteArray) (hk : k.length ≤ 100000) (hk' : k'.length ≤ 100000) (hl : l.length ≤ 100000) (hm : l'.length ≤ 100000) : DPure Tp I 30 [.agg [VN .i64 a, VN .i64 b, VN .i64 c, SV h, .list 1 (k.map fun n => VN .i64 n), .list 1 (strsL l)], .agg [VN .i64 a', VN .i64 b', VN .i64 c', SV h', .list 1 (k'.map fun n => VN .i64 n), .list 1 (strsL l')]] (BV (decide (((((a = a' ∧ b = b') ∧ c = c') ∧ h = h') ∧ k = k') ∧ l = l'))) := by
  have d1 := equalI_D (I := I) k k' hk hk'
  have d2 := equalS_D (I := I) l l' hl hm
  by_cases hkk : k = k'
  · rw [decide_eq_true hkk] at d1
    by_cases hll : l = l'
    · rw [decide_eq_true hll] at d2
      refine z_pure (e0 := ?e0x3) mix e30 rfl ?z03 ?_
      (case z03 => exact rfl)
      dsimp only [c30]
      repeat' (first | ((with_reducible apply z_call); (case' hd => apply d1); (case hw => exact wknL_ok rfl); (try any_goals exact sd)) | ((with_reducible apply z_call); (case' hd => apply d2); (case hw => exact wknL_ok rfl); (try any_goals exact sd)) | refine zs ?_ | refine Br.mk ?_ ?_ | intro _ | refine zf ?_ | fail)
      all_goals first
        | exact bool_of (b := true) (by kernel_rfl) (decide_eq_true ⟨⟨⟨⟨⟨‹_›, ‹_›⟩, ‹_›⟩, ‹_›⟩, hkk⟩, hll⟩).symm
        | exact bool_of (b := false) (by kernel_rfl) (decide_eq_false fun e => absurd e.1.1.1.1.1 ‹_›).symm
        | exact bool_of (b := false) (by kernel_rfl) (decide_eq_false fun e => absurd e.1.1.1.1.2 ‹_›).symm
        | exact bool_of (b := false) (by kernel_rfl) (decide_eq_false fun e => absurd e.1.1.1.2 ‹_›).symm
        | exact bool_of (b := false) (by kernel_rfl) (decide_eq_false fun e => absurd e.1.1.2 ‹_›).symm
    · rw [decide_eq_false hll] at d2
      refine z_pure (e0 := ?e0x4) mix e30 rfl ?z04 ?_
      (case z04 => exact rfl)
      dsimp only [c30]
      repeat' (first | ((with_reducible apply z_call); (case' hd => apply d1); (case hw => exact wknL_ok rfl); (try any_goals exact sd)) | ((with_reducible apply z_call); (case' hd => apply d2); (case hw => exact wknL_ok rfl); (try any_goals exact sd)) | refine zs ?_ | refine Br.mk ?_ ?_ | intro _ | refine zf ?_ | fail)
      all_goals exact bool_of (b := false) (by kernel_rfl) (decide_eq_false fun e => hll e.2).symm
  · rw [decide_eq_false hkk] at d1
    refine z_pure (e0 := ?e0x5) mix e30 rfl ?z05 ?_
    (case z05 => exact rfl)
    dsimp only [c30]
    repeat' (first | ((with_reducible apply z_call); (case' hd => apply d1); (case hw => exact wknL_ok rfl); (try any_goals exact sd)) | refine zs ?_ | refine Br.mk ?_ ?_ | intro _ | refine zf ?_ | fail)
    all_goals exact bool_of (b := false) (by kernel_rfl) (decide_eq_false fun e => hkk e.1.2).symm
end Go.Proofs.YtlbodfkhenkcjaaGreatDoor.X


namespace Go.Proofs.YtlbodfkhenkcjaaGreatDoor.X
open Go Go.Proofs Go.RowKit Go.Proofs.YtlbodfkhenkcjaaGreatDoor.D
set_option maxRecDepth 100000
set_option maxHeartbeats 4000000
set_option linter.unusedVariables false
set_option linter.unusedSimpArgs false
variable {I : D.Inv}
attribute [local irreducible] D.DPure D.DEff D.callable D.dops D.dwp D.dxops D.optNat D.seqQ D.blkQ D.lopQ D.xK

def c23 : DFun := ⟨38, [.t 4], .seq (.reg [⟨some 2, .box (.t 0), none⟩, ⟨some 3, .box (.t 1), none⟩, ⟨some 4, .mv (.c (.bool false)), none⟩]) (.seq (.reg [⟨some 5, .fa 0 (.t 2), none⟩, ⟨some 6, .ld 1 false (.t 5), none⟩, ⟨some 7, .fa 0 (.t 3), none⟩, ⟨some 8, .ld 1 false (.t 7), none⟩, ⟨some 9, .bin .eql (.t 6) (.t 8), none⟩, ⟨some 10, .mv (.t 9), none⟩, ⟨some 11, .fa 1 (.t 2), some (10, true)⟩, ⟨some 12, .ld 4 true (.t 11), some (10, true)⟩, ⟨some 13, .fa 1 (.t 3), some (10, true)⟩, ⟨some 14, .ld 4 true (.t 13), some (10, true)⟩, ⟨some 15, .call 29 [.t 12, .t 14], some (10, true)⟩, ⟨some 16, .pick (.t 10) (.t 15) (.c (.bool false)), none⟩, ⟨some 17, .mv (.t 16), none⟩, ⟨some 18, .fa 5 (.t 2), some (17, true)⟩, ⟨some 19, .ld 6 true (.t 18), some (17, true)⟩, ⟨some 20, .fa 5 (.t 3), some (17, true)⟩, ⟨some 21, .ld 6 true (.t 20), some (17, true)⟩, ⟨some 22, .call 30 [.t 19, .t 21], some (17, true)⟩, ⟨some 23, .pick (.t 17) (.t 22) (.c (.bool false)), none⟩, ⟨some 24, .mv (.t 23), none⟩, ⟨some 25, .fa 11 (.t 2), some (24, true)⟩, ⟨some 26, .ld 3 true (.t 25), some (24, true)⟩, ⟨some 27, .fa 11 (.t 3), some (24, true)⟩, ⟨some 28, .ld 3 true (.t 27), some (24, true)⟩, ⟨some 29, .eqs false [1, 1, 2] (.t 26) (.t 28), some (24, true)⟩, ⟨some 30, .pick (.t 24) (.t 29) (.c (.bool false)), none⟩, ⟨some 31, .mv (.t 30), none⟩, ⟨some 32, .fa 14 (.t 2), some (31, true)⟩, ⟨some 33, .ld 5 true (.t 32), some (31, true)⟩, ⟨some 34, .fa 14 (.t 3), some (31, true)⟩, ⟨some 35, .ld 5 true (.t 34), some (31, true)⟩, ⟨some 36, .eqs false [1, 1, 1, 1, 1] (.t 33) (.t 35), some (31, true)⟩, ⟨some 37, .pick (.t 31) (.t 36) (.c (.bool false)), none⟩, ⟨some 4, .mv (.t 37), none⟩]) .ret)⟩
theorem e23 : cfun Tryz.prog 23 = some c23 := by kernel_rfl
noncomputable instance : DecidableEq PageM := fun _ _ => Classical.propDecidable _
theorem ch_eqb (c1 c2 e1 e2 : Int) (s t : ByteArray) : ((c1 == e1) && ((c2 == e2) && ((s.toList == t.toList) && true))) = decide ((c1 = e1 ∧ c2 = e2) ∧ s = t) := by
  rw [Bool.eq_iff_iff, decide_eq_true_iff]
  simp only [Bool.and_eq_true, beq_iff_eq, and_true]
  exact ⟨fun ⟨h1, h2, h3⟩ => ⟨⟨h1, h2⟩, tl_inj h3⟩, fun ⟨⟨h1, h2⟩, h3⟩ => ⟨h1, h2, by rw [h3]⟩⟩
theorem mt_eqb (a b c d e a' b' c' d' e' : Int) : ((a == a') && ((b == b') && ((c == c') && ((d == d') && ((e == e') && true))))) = decide (a = a' ∧ b = b' ∧ c = c' ∧ d = d' ∧ e = e') := by
  rw [Bool.eq_iff_iff, decide_eq_true_iff]
  simp only [Bool.and_eq_true, beq_iff_eq, and_true]
theorem ch_t {c1 c2 e1 e2 : Int} {s t : ByteArray} (h : ((c1 == e1) && ((c2 == e2) && ((s.toList == t.toList) && true))) = true) : (c1 = e1 ∧ c2 = e2) ∧ s = t := by rw [ch_eqb] at h; exact of_decide_eq_true h
theorem ch_f {c1 c2 e1 e2 : Int} {s t : ByteArray} (h : ((c1 == e1) && ((c2 == e2) && ((s.toList == t.toList) && true))) = false) : ¬ ((c1 = e1 ∧ c2 = e2) ∧ s = t) := by rw [ch_eqb] at h; exact of_decide_eq_false h
theorem mt_t {a b c d e a' b' c' d' e' : Int} (h : ((a == a') && ((b == b') && ((c == c') && ((d == d') && ((e == e') && true))))) = true) : a = a' ∧ b = b' ∧ c = c' ∧ d = d' ∧ e = e' := by rw [mt_eqb] at h; exact of_decide_eq_true h
theorem mt_f {a b c d e a' b' c' d' e' : Int} (h : ((a == a') && ((b == b') && ((c == c') && ((d == d') && ((e == e') && true))))) = false) : ¬ (a = a' ∧ b = b' ∧ c = c' ∧ d = d' ∧ e = e') := by rw [mt_eqb] at h; exact of_decide_eq_false h
theorem psame_D0 (t a1 a2 b1 b2 b3 c1 c2 m1 m2 m3 m4 m5 t' a1' a2' b1' b2' b3' c1' c2' m1' m2' m3' m4' m5' : Int) (h1 h2 h3 h1' h2' h3' : ByteArray) (l l' : List ItemM) (k k' : List Int) (q q' : List ByteArray)
    (hl : l.length ≤ 100000) (hk : k.length ≤ 100000) (hq : q.length ≤ 100000) (hl' : l'.length ≤ 100000) (hk' : k'.length ≤ 100000) (hq' : q'.length ≤ 100000) :
    DPure Tp I 23 [.agg [VN .i64 t, VN .i64 a1, VN .i64 a2, SV h1, .list 5 (itemsL l), VN .i64 b1, VN .i64 b2, VN .i64 b3, SV h2, .list 1 (k.map fun n => VN .i64 n), .list 1 (strsL q), VN .i64 c1, VN .i64 c2, SV h3, VN .i64 m1, VN .i64 m2, VN .i64 m3, VN .i64 m4, VN .i64 m5],
      .agg [VN .i64 t', VN .i64 a1', VN .i64 a2', SV h1', .list 5 (itemsL l'), VN .i64 b1', VN .i64 b2', VN .i64 b3', SV h2', .list 1 (k'.map fun n => VN .i64 n), .list 1 (strsL q'), VN .i64 c1', VN .i64 c2', SV h3', VN .i64 m1', VN .i64 m2', VN .i64 m3', VN .i64 m4', VN .i64 m5']]
      (BV (decide (t = t' ∧ (((a1 = a1' ∧ a2 = a2') ∧ h1 = h1') ∧ l = l') ∧ (((((b1 = b1' ∧ b2 = b2') ∧ b3 = b3') ∧ h2 = h2') ∧ k = k') ∧ q = q') ∧ ((c1 = c1' ∧ c2 = c2') ∧ h3 = h3') ∧ (m1 = m1' ∧ m2 = m2' ∧ m3 = m3' ∧ m4 = m4' ∧ m5 = m5')))) := by
  have d1 := lsame_D0 (I := I) a1 a2 a1' a2' h1 h1' l l' hl hl'
  have d2 := isame_D0 (I := I) b1 b2 b3 b1' b2' b3' h2 h2' k k' q q' hk hk' hq hq'
  refine z_pure (e0 := ?e0x1) mix e23 rfl ?z01 ?_
  (case z01 => exact rfl)
  dsimp only [c23]
  repeat' (first | ((with_reducible apply z_callb); (case' hd => apply d1); (case hw => exact wknL_ok rfl); (try any_goals exact sd)) | ((with_reducible apply z_callb); (case' hd => apply d2); (case hw => exact wknL_ok rfl); (try any_goals exact sd)) | ((with_reducible apply z_eqsb); (case hx | hy | h => (conv => {lhs; whnf}) <;> exact rfl)) | refine z1 ?_ | refine Br.mk ?_ ?_ | intro _ | refine zf ?_ | fail)
  · have e1 := of_decide_eq_true ‹decide (((a1 = a1' ∧ a2 = a2') ∧ h1 = h1') ∧ l = l') = true›
    have e2 := of_decide_eq_true ‹decide (((((b1 = b1' ∧ b2 = b2') ∧ b3 = b3') ∧ h2 = h2') ∧ k = k') ∧ q = q') = true›
    exact bool_of (b := true) (by kernel_rfl) (decide_eq_true ⟨‹_›, e1, e2, ch_t ‹_›, mt_t ‹_›⟩).symm
  · exact bool_of (b := false) (by kernel_rfl) (decide_eq_false fun e => mt_f ‹_› e.2.2.2.2).symm
  · exact bool_of (b := false) (by kernel_rfl) (decide_eq_false fun e => ch_f ‹_› e.2.2.2.1).symm
  · exact bool_of (b := false) (by kernel_rfl) (decide_eq_false fun e => (of_decide_eq_false ‹_›) e.2.2.1).symm
  · exact bool_of (b := false) (by kernel_rfl) (decide_eq_false fun e => (of_decide_eq_false ‹_›) e.2.1).symm
  · exact bool_of (b := false) (by kernel_rfl) (decide_eq_false fun e => absurd e.1 ‹_›).symm
structure pgB (x : PageM) : Prop where
  l : x.l.items.length ≤ 100000
  k : x.n.kids.length ≤ 100000
  q : x.n.seps.length ≤ 100000
theorem psame_D (x y : PageM) (hx : pgB x) (hy : pgB y) : DPure Tp I 23 [pageT x, pageT y] (BV (decide (x = y))) := by
  have := psame_D0 (I := I) x.kind x.l.self x.l.right x.n.self x.n.level x.n.right x.c.self x.c.next x.m.p x.m.pages x.m.root x.m.level x.m.pairs y.kind y.l.self y.l.right y.n.self y.n.level y.n.right y.c.self y.c.next y.m.p y.m.pages y.m.root y.m.level y.m.pairs
    x.l.high x.n.high x.c.data y.l.high y.n.high y.c.data x.l.items y.l.items x.n.kids y.n.kids x.n.seps y.n.seps hx.l hx.k hx.q hy.l hy.k hy.q
  refine (congrArg (fun b => DPure Tp I 23 [pageT x, pageT y] (BV b)) ?_).mp this
  rw [Bool.eq_iff_iff, decide_eq_true_iff, decide_eq_true_iff]
  constructor
  · rintro ⟨e1, ⟨⟨⟨e2, e3⟩, e4⟩, e5⟩, ⟨⟨⟨⟨⟨e6, e7⟩, e8⟩, e9⟩, e10⟩, e11⟩, ⟨⟨e12, e13⟩, e14⟩, e15, e16, e17, e18, e19⟩
    obtain ⟨t, ⟨a1, a2, h1, l⟩, ⟨b1, b2, b3, h2, k, q⟩, ⟨c1, c2, h3⟩, ⟨m1, m2, m3, m4, m5⟩⟩ := x
    obtain ⟨t', ⟨a1', a2', h1', l'⟩, ⟨b1', b2', b3', h2', k', q'⟩, ⟨c1', c2', h3'⟩, ⟨m1', m2', m3', m4', m5'⟩⟩ := y
    dsimp only at *
    subst e1 e2 e3 e4 e5 e6 e7 e8 e9 e10 e11 e12 e13 e14 e15 e16 e17 e18 e19
    rfl
  · rintro rfl
    exact ⟨rfl, ⟨⟨⟨rfl, rfl⟩, rfl⟩, rfl⟩, ⟨⟨⟨⟨⟨rfl, rfl⟩, rfl⟩, rfl⟩, rfl⟩, rfl⟩, ⟨⟨rfl, rfl⟩, rfl⟩, rfl, rfl, rfl, rfl, rfl⟩
end Go.Proofs.YtlbodfkhenkcjaaGreatDoor.X


namespace Go.Proofs.YtlbodfkhenkcjaaGreatDoor.X
open Go Go.Proofs Go.RowKit Go.Proofs.YtlbodfkhenkcjaaGreatDoor.D
set_option maxRecDepth 100000
set_option maxHeartbeats 2000000
set_option linter.unusedVariables false
set_option linter.unusedSimpArgs false
attribute [local irreducible] D.DPure D.DEff D.callable decM decE

def c10 : DFun := ⟨35, [.c 4 19 true, .t 5], .seq (.reg [⟨some 4, .zero (.agg #[.int .i64 0, .int .i64 0, .int .i64 0, .string ⟨#[]⟩, .slice none 0 0, .int .i64 0, .int .i64 0, .int .i64 0, .string ⟨#[]⟩, .slice none 0 0, .slice none 0 0, .int .i64 0, .int .i64 0, .string ⟨#[]⟩, .int .i64 0, .int .i64 0, .int .i64 0, .int .i64 0, .int .i64 0]), none⟩, ⟨some 5, .mv (.c (.int .i64 0)), none⟩]) (.seq (.seq (.reg [⟨some 8, .mv (.t 1), none⟩, ⟨some 9, .bin .lss (.t 8) (.c (.int .i64 0)), none⟩, ⟨some 10, .mv (.t 9), none⟩, ⟨some 11, .mv (.t 1), some (10, false)⟩, ⟨some 12, .mv (.t 0), some (10, false)⟩, ⟨some 13, .len false (.t 12), some (10, false)⟩, ⟨some 14, .bin .geq (.t 11) (.t 13), some (10, false)⟩, ⟨some 15, .pick (.t 10) (.c (.bool true)) (.t 14), none⟩]) (.cond (.t 15) (.seq (.reg [⟨some 16, .bld [.int .i64 0, .int .i64 0, .int .i64 0, .string ⟨#[]⟩, .slice none 0 0, .int .i64 0, .int .i64 0, .int .i64 0, .string ⟨#[]⟩, .slice none 0 0, .slice none 0 0, .int .i64 0, .int .i64 0, .string ⟨#[]⟩, .int .i64 0, .int .i64 0, .int .i64 0, .int .i64 0, .int .i64 0] [], none⟩, ⟨none, .st 19 (.t 4) (.t 16), none⟩, ⟨some 5, .mv (.c (.int .i64 4)), none⟩]) .ret) .skip)) (.seq (.reg [⟨some 18, .mv (.t 0), none⟩, ⟨some 19, .mv (.t 1), none⟩, ⟨some 20, .ixa 1 (.t 18) (.t 19), none⟩, ⟨some 21, .ld 1 false (.t 20), none⟩, ⟨some 22, .call 17 [.t 21], none⟩, ⟨some 17, .mv (.t 22), none⟩, ⟨some 23, .ext (.t 17) 0, none⟩, ⟨some 24, .ext (.t 17) 1, none⟩, ⟨some 6, .zero (.agg #[.int .i64 0, .int .i64 0, .int .i64 0, .string ⟨#[]⟩, .slice none 0 0, .int .i64 0, .int .i64 0, .int .i64 0, .string ⟨#[]⟩, .slice none 0 0, .slice none 0 0, .int .i64 0, .int .i64 0, .string ⟨#[]⟩, .int .i64 0, .int .i64 0, .int .i64 0, .int .i64 0, .int .i64 0]), none⟩, ⟨none, .st 19 (.t 6) (.t 23), none⟩, ⟨some 7, .mv (.t 24), none⟩]) (.seq (.seq (.reg [⟨some 25, .mv (.t 7), none⟩, ⟨some 26, .bin .neq (.t 25) (.c (.int .i64 0)), none⟩, ⟨some 27, .mv (.t 26), none⟩, ⟨some 28, .ld 19 true (.t 6), some (27, false)⟩, ⟨some 29, .call 19 [.t 28], some (27, false)⟩, ⟨some 30, .mv (.t 1), some (27, false)⟩, ⟨some 31, .bin .neq (.t 29) (.t 30), some (27, false)⟩, ⟨some 32, .pick (.t 27) (.c (.bool true)) (.t 31), none⟩]) (.cond (.t 32) (.seq (.reg [⟨some 33, .bld [.int .i64 0, .int .i64 0, .int .i64 0, .string ⟨#[]⟩, .slice none 0 0, .int .i64 0, .int .i64 0, .int .i64 0, .string ⟨#[]⟩, .slice none 0 0, .slice none 0 0, .int .i64 0, .int .i64 0, .string ⟨#[]⟩, .int .i64 0, .int .i64 0, .int .i64 0, .int .i64 0, .int .i64 0] [], none⟩, ⟨none, .st 19 (.t 4) (.t 33), none⟩, ⟨some 5, .mv (.c (.int .i64 3)), none⟩]) .ret) .skip)) (.seq (.reg [⟨some 34, .ld 19 true (.t 6), none⟩, ⟨none, .st 19 (.t 4) (.t 34), none⟩, ⟨some 5, .mv (.c (.int .i64 0)), none⟩]) .ret))))⟩
theorem e10 : cfun Tryz.prog 10 = some c10 := by kernel_rfl
def c15 : DFun := ⟨25, [.t 2], .seq (.reg [⟨some 2, .mv (.c (.slice none 0 0)), none⟩]) (.seq (.reg [⟨some 3, .mv (.c (.slice none 0 0)), none⟩]) (.seq (.seq (.reg [⟨some 7, .mv (.t 0), none⟩, ⟨some 8, .len false (.t 7), none⟩, ⟨some 9, .mv (.c (.int .i64 0)), none⟩]) (.block 0 (.loop (.seq (.reg [⟨some 10, .bin .lss (.t 9) (.t 8), none⟩]) (.seq (.cond (.t 10) .skip (.exit 0)) (.seq (.block 1 (.seq (.reg [⟨some 11, .mv (.t 9), none⟩, ⟨some 4, .mv (.t 11), none⟩]) (.seq (.reg [⟨some 13, .mv (.t 0), none⟩, ⟨some 14, .mv (.t 4), none⟩, ⟨some 15, .call 10 [.t 13, .t 14], none⟩, ⟨some 12, .mv (.t 15), none⟩, ⟨some 16, .ext (.t 12) 0, none⟩, ⟨some 17, .ext (.t 12) 1, none⟩, ⟨some 5, .zero (.agg #[.int .i64 0, .int .i64 0, .int .i64 0, .string ⟨#[]⟩, .slice none 0 0, .int .i64 0, .int .i64 0, .int .i64 0, .string ⟨#[]⟩, .slice none 0 0, .slice none 0 0, .int .i64 0, .int .i64 0, .string ⟨#[]⟩, .int .i64 0, .int .i64 0, .int .i64 0, .int .i64 0, .int .i64 0]), none⟩, ⟨none, .st 19 (.t 5) (.t 16), none⟩, ⟨some 6, .mv (.t 17), none⟩]) (.reg [⟨some 18, .mv (.t 3), none⟩, ⟨some 19, .fa 0 (.t 5), none⟩, ⟨some 20, .ld 1 false (.t 19), none⟩, ⟨some 21, .bsl 1 [.t 20], none⟩, ⟨some 22, .app 3 1 8 (.t 18) (.t 21), none⟩, ⟨some 3, .mv (.t 22), none⟩])))) (.reg [⟨some 23, .bin .add (.t 9) (.c (.int .i64 1)), none⟩, ⟨some 9, .mv (.t 23), none⟩]))))))) (.seq (.reg [⟨some 24, .mv (.t 3), none⟩, ⟨some 2, .mv (.t 24), none⟩]) .ret)))⟩
theorem e15 : cfun Tryz.prog 15 = some c15 := by kernel_rfl
def strAt (l : List ByteArray) (i : Int) : ByteArray := (l[i.toNat]?).getD nilS
noncomputable def atM (l : List ByteArray) (i : Int) : PageM := if i < 0 ∨ (l.length : Int) ≤ i then page0 else if decE (strAt l i) = 0 ∧ selfN (decM (strAt l i)) = i then decM (strAt l i) else page0
noncomputable def atE (l : List ByteArray) (i : Int) : Int := if i < 0 ∨ (l.length : Int) ≤ i then 4 else if decE (strAt l i) = 0 ∧ selfN (decM (strAt l i)) = i then 0 else 3
theorem str_at {l : List ByteArray} {i : Int} (h0 : 0 ≤ i) (h : i < l.length) : (strsL l)[i.toNat]? = some (SV (strAt l i)) := by
  have hi : i.toNat < l.length := by omega
  have : strAt l i = l[i.toNat] := by simp [strAt, hi]
  rw [this]
  exact strs_get (i := i.toNat) hi
theorem pgz' {d : DV} {e : Int} (hd : d = .v (.tuple #[.agg #[.int .i64 0, .int .i64 0, .int .i64 0, .string nilS, .slice none 0 0, .int .i64 0, .int .i64 0, .int .i64 0, .string nilS, .slice none 0 0, .slice none 0 0, .int .i64 0, .int .i64 0, .string nilS, .int .i64 0, .int .i64 0, .int .i64 0, .int .i64 0, .int .i64 0], .int .i64 e])) :
    Wk d (.tup [pageF 0 leaf0 inner0 chain0 meta0, VN .i64 e]) := by
  subst hd
  exact Wk.vtupL (xs := [.agg #[.int .i64 0, .int .i64 0, .int .i64 0, .string nilS, .slice none 0 0, .int .i64 0, .int .i64 0, .int .i64 0, .string nilS, .slice none 0 0, .slice none 0 0, .int .i64 0, .int .i64 0, .string nilS, .int .i64 0, .int .i64 0, .int .i64 0, .int .i64 0, .int .i64 0], .int .i64 e])
    (.cons (Wk.vaggL (xs := [.int .i64 0, .int .i64 0, .int .i64 0, .string nilS, .slice none 0 0, .int .i64 0, .int .i64 0, .int .i64 0, .string nilS, .slice none 0 0, .slice none 0 0, .int .i64 0, .int .i64 0, .string nilS, .int .i64 0, .int .i64 0, .int .i64 0, .int .i64 0, .int .i64 0])
      (.cons (.v _) (.cons (.v _) (.cons (.v _) (.cons (.v _) (.cons (.nil _ _ _) (.cons (.v _) (.cons (.v _) (.cons (.v _) (.cons (.v _) (.cons (.nil _ _ _) (.cons (.nil _ _ _) (.cons (.v _) (.cons (.v _) (.cons (.v _) (.cons (.v _) (.cons (.v _) (.cons (.v _) (.cons (.v _) (.cons (.v _) .nil)))))))))))))))))))) (.cons (.v _) .nil))
theorem at_D0 (l : List ByteArray) (i : Int) (hl : l.length ≤ 1000000) (t a1 a2 b1 b2 b3 c1 c2 m1 m2 m3 m4 m5 : Int) (h1 h2 h3 : ByteArray) (li : List ItemM) (k : List Int) (q : List ByteArray) (e x : Int) (hi : 0 ≤ i ∧ i < l.length)
    (d0 : DPure Tp GI 17 [SV (strAt l i)] (.tup [.agg [VN .i64 t, VN .i64 a1, VN .i64 a2, SV h1, .list 5 (itemsL li), VN .i64 b1, VN .i64 b2, VN .i64 b3, SV h2, .list 1 (k.map fun n => VN .i64 n), .list 1 (strsL q), VN .i64 c1, VN .i64 c2, SV h3, VN .i64 m1, VN .i64 m2, VN .i64 m3, VN .i64 m4, VN .i64 m5], VN .i64 e]))
    (d1 : DPure Tp GI 19 [.agg [VN .i64 t, VN .i64 a1, VN .i64 a2, SV h1, .list 5 (itemsL li), VN .i64 b1, VN .i64 b2, VN .i64 b3, SV h2, .list 1 (k.map fun n => VN .i64 n), .list 1 (strsL q), VN .i64 c1, VN .i64 c2, SV h3, VN .i64 m1, VN .i64 m2, VN .i64 m3, VN .i64 m4, VN .i64 m5]] (VN .i64 x)) :
    (e = 0 ∧ x = i → DPure Tp GI 10 [.list 1 (strsL l), VN .i64 i] (.tup [.agg [VN .i64 t, VN .i64 a1, VN .i64 a2, SV h1, .list 5 (itemsL li), VN .i64 b1, VN .i64 b2, VN .i64 b3, SV h2, .list 1 (k.map fun n => VN .i64 n), .list 1 (strsL q), VN .i64 c1, VN .i64 c2, SV h3, VN .i64 m1, VN .i64 m2, VN .i64 m3, VN .i64 m4, VN .i64 m5], VN .i64 0])) ∧
    (¬ (e = 0 ∧ x = i) → DPure Tp GI 10 [.list 1 (strsL l), VN .i64 i] (.tup [pageT page0, VN .i64 3])) := by
  have hsl := strs_len l
  have hg := str_at hi.1 hi.2
  constructor
  · rintro ⟨he, hx⟩
    refine z_pure (e0 := ?e0x1) mix e10 rfl ?z01 ?_
    (case z01 => exact rfl)
    dsimp only [c10]
    repeat' (first | ((with_reducible apply z_call); (case' hd => apply d0); (case hw => exact wknL_ok rfl); (try any_goals exact sd)) | ((with_reducible apply z_call); (case' hd => apply d1); (case hw => exact wknL_ok rfl); (try any_goals exact sd)) | refine ⟨_, hg, ?_⟩ | refine z1 ?_ | refine Br.mk ?_ ?_ | intro _ | refine zf ?_ | fail)
    exact wkn_ok (by kernel_rfl)
  · intro hn
    refine z_pure (e0 := ?e0x2) mix e10 rfl ?z02 ?_
    (case z02 => exact rfl)
    dsimp only [c10]
    repeat' (first | ((with_reducible apply z_call); (case' hd => apply d0); (case hw => exact wknL_ok rfl); (try any_goals exact sd)) | ((with_reducible apply z_call); (case' hd => apply d1); (case hw => exact wknL_ok rfl); (try any_goals exact sd)) | refine ⟨_, hg, ?_⟩ | refine z1 ?_ | refine Br.mk ?_ ?_ | intro _ | refine zf ?_ | fail)
    all_goals first
      | exact absurd ⟨‹_›, ‹_›⟩ hn
      | exact pgz' (by kernel_rfl)
theorem at_D1 (l : List ByteArray) (i : Int) (hl : l.length ≤ 1000000) (hi : i < 0 ∨ (l.length : Int) ≤ i) : DPure Tp GI 10 [.list 1 (strsL l), VN .i64 i] (.tup [pageT page0, VN .i64 4]) := by
  have hsl := strs_len l
  refine z_pure (e0 := ?e0x3) mix e10 rfl ?z03 ?_
  (case z03 => exact rfl)
  dsimp only [c10]
  repeat' (first | refine zs ?_ | refine Br.mk ?_ ?_ | intro _ | refine zf ?_ | fail)
  all_goals exact pgz' (by kernel_rfl)
theorem pat_D (l : List ByteArray) (i : Int) (hl : l.length ≤ 1000000) (hs : ∀ s ∈ l, s.size ≤ 1200) : DPure Tp GI 10 [.list 1 (strsL l), VN .i64 i] (.tup [pageT (atM l i), VN .i64 (atE l i)]) := by
  unfold atM atE
  by_cases hi : i < 0 ∨ (l.length : Int) ≤ i
  · rw [if_pos hi, if_pos hi]; exact at_D1 l i hl hi
  rw [if_neg hi, if_neg hi]
  have hm : (strAt l i).size ≤ 1200 := by
    have h' : i.toNat < l.length := by omega
    have : strAt l i = l[i.toNat] := by simp [strAt, h']
    rw [this]
    exact hs _ (List.getElem_mem h')
  have d0 := decode_D (strAt l i) hm
  have d1 := self_D (I := GI) (decM (strAt l i))
  obtain ⟨h1, h2⟩ := at_D0 l i hl _ _ _ _ _ _ _ _ _ _ _ _ _ _ _ _ _ _ _ _ _ (by omega) d0 d1
  by_cases hc : decE (strAt l i) = 0 ∧ selfN (decM (strAt l i)) = i
  · rw [if_pos hc, if_pos hc]; exact h1 hc
  · rw [if_neg hc, if_neg hc]; exact h2 hc
noncomputable def svL (l : List ByteArray) : List Int := (List.range l.length).map fun (i : Nat) => (atM l i).kind
noncomputable def svI (l : List ByteArray) (i : Nat) : List DV := (List.range i).map fun (j : Nat) => VN .i64 (atM l j).kind
theorem svI_len (l : List ByteArray) (i : Nat) : (svI l i).length = i := by simp [svI]
theorem svI_succ (l : List ByteArray) (i : Nat) : svI l i ++ [VN .i64 (atM l i).kind] = svI l (i + 1) := by simp [svI, List.range_succ]
theorem survey_D (l : List ByteArray) (hl : l.length ≤ 100000) (hs : ∀ s ∈ l, s.size ≤ 1200) : DPure Tp GI 15 [.list 1 (strsL l)] (ints (svL l)) := by
  have hsl := strs_len l
  have e0 : ints (svL l) = .list 1 (svI l l.length) := by
    unfold ints svL svI
    rw [List.map_map]
    rfl
  rw [e0]
  refine z_pure (e0 := ?e0x4) mix e15 rfl ?z04 ?_
  (case z04 => exact rfl)
  dsimp only [c15]
  repeat' (first | refine zs ?_ | refine Br.mk ?_ ?_ | intro _ | refine zf ?_ | fail)
  refine z_loop (fun i : Nat => ⟨[(0, .list 1 (strsL l)), (3, .own 0 3 1 (svI l i)), (8, VN .i64 (strsL l).length), (9, VN .i64 i)], [], [(svI l i).length * 1]⟩) (fun i : Nat => i ≤ l.length) (fun i : Nat => l.length - i) (0) ?_ ?_ fun i hi => ?_
  · exact (less_of 0 0 1 rfl rfl (lessE_cons (ltd_eq rfl (by kernel_rfl)) (lessE_cons (ltd_own rfl rfl (by kernel_rfl)) (lessE_cons (ltd_eq rfl (by kernel_rfl)) (lessE_cons (ltd_eq rfl (by kernel_rfl)) lessE_nil)))) (by kernel_rfl) (by kernel_rfl) (by kernel_rfl) (by kernel_rfl))
  · omega
  by_cases hil : i < l.length
  · have d0 := pat_D l i (by omega) hs
    obtain ⟨⟨t, ⟨a1, a2, h1, li⟩, ⟨b1, b2, b3, h2, k, q⟩, ⟨c1, c2, h3⟩, ⟨m1, m2, m3, m4, m5⟩⟩, hx⟩ : ∃ x, atM l (i : Int) = x := ⟨_, rfl⟩
    have hsu := svI_succ l i
    rw [hx] at d0 hsu
    dsimp only at hsu
    have hln := svI_len l i
    repeat' (first | ((with_reducible apply z_call); (case' hd => apply d0); (case hw => exact wknL_ok rfl); (try any_goals exact sd)) | refine zs ?_ | refine Br.mk ?_ ?_ | intro _ | refine zf ?_ | fail)
    refine ⟨i + 1, (less_of 0 1 0 rfl rfl (lessE_cons (ltd_eq rfl (by kernel_rfl)) (lessE_cons (ltd_eq rfl ?_) (lessE_cons (ltd_eq rfl (by kernel_rfl)) (lessE_cons (ltd_eq rfl (by kernel_rfl)) lessE_nil)))) (by kernel_rfl) (by kernel_rfl) ?_ (by kernel_rfl)), hil, by omega⟩
    · rw [← hsu]; kernel_rfl
    · rw [← hsu, List.length_append]; kernel_rfl
  · have e : i = l.length := by omega
    repeat' (first | refine zs ?_ | refine Br.mk ?_ ?_ | intro _ | refine zf ?_ | fail)
    exact wk_own (id := 0) (e := 3) (l := svI l i) (by kernel_rfl) (by rw [e])
end Go.Proofs.YtlbodfkhenkcjaaGreatDoor.X


namespace Go.Proofs.YtlbodfkhenkcjaaGreatDoor.X
open Go Go.Proofs Go.RowKit Go.Proofs.YtlbodfkhenkcjaaGreatDoor.D
set_option maxRecDepth 100000
set_option maxHeartbeats 1000000
set_option linter.unusedVariables false
set_option linter.unusedSimpArgs false
variable {I : D.Inv}

abbrev cutE (s : ByteArray) : ByteArray := s.extract 0 (min (s.size : Int) 1100).toNat
theorem cutE_size (s : ByteArray) : (cutE s).size ≤ 1100 := by rw [ByteArray.size_extract]; omega
theorem dp_wk {f : FuncId} {cs es : List DV} {r : DV} (h : DPure Tp I f es r) (w : WkL cs es) : DPure Tp I f cs r :=
  ⟨h.1, fun S W vals hI hr => h.2 S W vals hI (hr.wk w)⟩
attribute [local irreducible] D.DPure D.DEff D.callable D.dops D.dwp D.dxops D.optNat D.seqQ D.blkQ D.lopQ D.xK
def c14 : DFun := ⟨26, [.t 4], .seq (.reg [⟨some 4, .mv (.c (.bool false)), none⟩]) (.seq (.seq (.reg [⟨some 6, .mv (.t 0), none⟩, ⟨some 7, .len false (.t 6), none⟩, ⟨some 8, .mv (.t 1), none⟩, ⟨some 9, .len false (.t 8), none⟩, ⟨some 10, .bin .neq (.t 7) (.t 9), none⟩]) (.cond (.t 10) (.seq (.reg [⟨some 4, .mv (.c (.bool false)), none⟩]) .ret) .skip)) (.seq (.seq (.reg [⟨some 5, .mv (.c (.int .i64 0)), none⟩]) (.block 0 (.loop (.seq (.seq (.reg [⟨some 11, .mv (.t 5), none⟩, ⟨some 12, .mv (.t 0), none⟩, ⟨some 13, .len false (.t 12), none⟩, ⟨some 14, .bin .lss (.t 11) (.t 13), none⟩]) (.cond (.t 14) .skip (.exit 0))) (.seq (.block 1 (.seq (.reg [⟨some 17, .mv (.t 0), none⟩, ⟨some 18, .mv (.t 5), none⟩, ⟨some 19, .ixa 1 (.t 17) (.t 18), none⟩, ⟨some 20, .ld 1 false (.t 19), none⟩, ⟨some 21, .mv (.t 1), none⟩, ⟨some 22, .mv (.t 5), none⟩, ⟨some 23, .ixa 1 (.t 21) (.t 22), none⟩, ⟨some 24, .ld 1 false (.t 23), none⟩, ⟨some 25, .bin .neq (.t 20) (.t 24), none⟩]) (.cond (.t 25) (.seq (.reg [⟨some 4, .mv (.c (.bool false)), none⟩]) .ret) .skip))) (.reg [⟨some 15, .mv (.t 5), none⟩, ⟨some 16, .bin .add (.t 15) (.c (.int .i64 1)), none⟩, ⟨some 5, .mv (.t 16), none⟩])))))) (.seq (.reg [⟨some 4, .mv (.c (.bool true)), none⟩]) .ret)))⟩
theorem e14 : cfun Tryz.prog 14 = some c14 := by kernel_rfl
theorem rints_D (l m : List Int) (hl : l.length ≤ 100000) (hm : m.length ≤ 100000) : DPure Tp I 14 [ints l, ints m] (BV (decide (l = m))) := by
  have hll := ints_len l
  have hml := ints_len m
  by_cases hlm : l.length = m.length
  · refine z_pure (e0 := ?e0x1) mix e14 rfl ?z01 ?_
    (case z01 => exact rfl)
    dsimp only [c14]
    repeat' (first | refine zs ?_ | refine Br.mk ?_ ?_ | intro _ | refine zf ?_ | fail)
    refine z_loop (fun i : Nat => ⟨[(0, ints l), (1, ints m), (5, VN .i64 i)], [], []⟩) (fun i : Nat => i ≤ l.length ∧ ∀ j (h : j < l.length) (h' : j < m.length), j < i → l[j] = m[j]) (fun i : Nat => l.length - i) (0) ?_ ?_ fun i hi => ?_
    · exact (less_of 0 0 0 rfl rfl (lessE_cons (ltd_eq rfl (by kernel_rfl)) (lessE_cons (ltd_eq rfl (by kernel_rfl)) (lessE_cons (ltd_eq rfl (by kernel_rfl)) lessE_nil))) (by kernel_rfl) (by kernel_rfl) (by kernel_rfl) (by kernel_rfl))
    · exact ⟨by omega, fun j _ _ h => absurd h (Nat.not_lt_zero j)⟩
    by_cases hil : i < l.length
    · have him : i < m.length := by omega
      repeat' (first | refine ⟨_, ints_get hil, ?_⟩ | refine ⟨_, ints_get him, ?_⟩ | refine z1 ?_ | refine Br.mk ?_ ?_ | intro _ | refine zf ?_ | fail)
      · refine ⟨i + 1, (less_of 0 0 0 rfl rfl (lessE_cons (ltd_eq rfl (by kernel_rfl)) (lessE_cons (ltd_eq rfl (by kernel_rfl)) (lessE_cons (ltd_eq rfl (by kernel_rfl)) lessE_nil))) (by kernel_rfl) (by kernel_rfl) (by kernel_rfl) (by kernel_rfl)), ⟨by omega, fun j h h' hj => ?_⟩, by omega⟩
        rcases Nat.lt_or_eq_of_le (Nat.le_of_lt_succ hj) with q | q
        · exact hi.2 j h h' q
        · subst q; assumption
      · refine bool_of (b := false) (by kernel_rfl) (decide_eq_false fun e => ?_).symm
        subst e
        exact absurd rfl ‹¬ _ = _›
    · repeat' (first | refine zs ?_ | refine Br.mk ?_ ?_ | intro _ | refine zf ?_ | fail)
      exact bool_of (b := true) (by kernel_rfl) (decide_eq_true (eq_ext hlm fun j h h' hj => hi.2 j h h' (by omega))).symm
  · refine z_pure (e0 := ?e0x2) mix e14 rfl ?z02 ?_
    (case z02 => exact rfl)
    dsimp only [c14]
    repeat' (first | refine zs ?_ | refine Br.mk ?_ ?_ | intro _ | refine zf ?_ | fail)
    exact bool_of (b := false) (by kernel_rfl) (decide_eq_false fun e => hlm (congrArg List.length e)).symm
def repB (c : Int) (n : Nat) : ByteArray := strOfNums (List.replicate n c)
end Go.Proofs.YtlbodfkhenkcjaaGreatDoor.X


namespace Go.Proofs.YtlbodfkhenkcjaaGreatDoor.X
open Go Go.Proofs Go.RowKit Go.Proofs.YtlbodfkhenkcjaaGreatDoor.D
set_option maxRecDepth 100000
set_option maxHeartbeats 1000000
set_option linter.unusedVariables false
set_option linter.unusedSimpArgs false

theorem byteAt_out {s : ByteArray} {i : Nat} (h : s.size ≤ i) : byteAt s i = 0 := by
  unfold byteAt
  rw [List.getElem?_eq_none (by simpa using h)]
  rfl
theorem byteAt_app (a b : ByteArray) (i : Nat) : byteAt (a ++ b) i = if i < a.size then byteAt a i else byteAt b (i - a.size) := by
  unfold byteAt
  rw [ByteArray.data_append, Array.toList_append, List.getElem?_append]
  have : a.data.toList.length = a.size := by simp
  rw [this]
  split <;> rfl
theorem byteAt_app1 {a b : ByteArray} {i : Nat} (h : i < a.size) : byteAt (a ++ b) i = byteAt a i := by rw [byteAt_app, if_pos h]
theorem byteAt_cut {s : ByteArray} {a b i : Nat} : byteAt (s.extract a b) i = if a + i < b then byteAt s (a + i) else 0 := by
  by_cases hi : i < (s.extract a b).size
  · rw [ByteArray.size_extract] at hi
    have hb : byteAt (s.extract a b) i = byteAt (s.extract a (min b s.size)) i := by
      unfold byteAt
      congr 3
      simp only [ByteArray.data_extract, Array.toList_extract]
      rw [show s.data.toList.extract a (min b s.size) = s.data.toList.extract a b from ?_]
      simp only [List.extract_eq_take_drop]
      have hl : (s.data.toList.drop a).length = s.size - a := by simp
      rcases Nat.le_total b s.size with h | h
      · rw [Nat.min_eq_left h]
      · rw [Nat.min_eq_right h, List.take_of_length_le (by omega), List.take_of_length_le (by omega)]
    rw [hb, byteAt_ext (by omega) (Nat.min_le_right _ _), if_pos (by omega)]
  · rw [byteAt_out (by omega)]
    rw [ByteArray.size_extract] at hi
    split
    · rw [byteAt_out (by omega)]
    · rfl
theorem byteAt_num {l : List Int} {i : Nat} {n : Int} (h : l[i]? = some n) (h0 : 0 ≤ n) (h1 : n < 256) : byteAt (strOfNums l) i = n := by
  unfold byteAt strOfNums
  rw [List.getElem?_map, h]
  simp only [Option.map_some, Option.getD_some, UInt8.toNat_ofNat']
  omega
theorem byteAt_bytesS {l : List Int} {i : Nat} {n : Int} (h : l[i]? = some n) : byteAt (bytesS l) i = n % 256 := by
  have e : (l.map IntKind.u8.wrap)[i]? = some (n % 256) := by
    rw [List.getElem?_map, h]
    rfl
  exact byteAt_num e (by omega) (by omega)
end Go.Proofs.YtlbodfkhenkcjaaGreatDoor.X


namespace Go.Proofs.YtlbodfkhenkcjaaGreatDoor.X
open Go Go.Proofs Go.RowKit Go.Proofs.YtlbodfkhenkcjaaGreatDoor.D
set_option maxRecDepth 100000
set_option maxHeartbeats 1000000
set_option linter.unusedVariables false
set_option linter.unusedSimpArgs false

theorem seal_is {h : HeadM} {b : ByteArray} {p : Int} (h0 : mayE h b p = 0) : sealS h b p = sealB h b p := if_pos h0
theorem sealZ_size {h : HeadM} {b : ByteArray} {p : Int} (h0 : mayE h b p = 0) : ((sealZ h b p).size : Int) = p := by
  have h1 := mayE_0 h0
  have h2 := sizeB_in h1.1
  unfold sealZ
  rw [ByteArray.size_append, sealA_size, zeroB_size]
  omega
theorem seal_kind {h : HeadM} {b : ByteArray} {p : Int} (h0 : mayE h b p = 0) : byteAt (sealS h b p) 0 = h.kind := by
  have h1 := mayE_0 h0
  have h2 := sizeB_in h1.1
  have h3 := hdB_in h1.2.1
  have hz := sealZ_size h0
  rw [seal_is h0]
  unfold sealB
  rw [byteAt_app1 (by simp only [ByteArray.size_append, ByteArray.size_extract]; omega), byteAt_app1 (by rw [ByteArray.size_extract]; omega), byteAt_cut, if_pos (by omega)]
  unfold sealZ
  rw [byteAt_app1 (by rw [sealA_size]; omega)]
  unfold sealA
  have e : (bytesS [h.kind, h.level, h.count, h.count / 256]).size = 4 := by rw [bytesS_size]; rfl
  rw [byteAt_app1 (by simp only [ByteArray.size_append, e]; omega), byteAt_app1 (by simp only [ByteArray.size_append, e]; omega), byteAt_app1 (by simp only [ByteArray.size_append, e]; omega), byteAt_app1 (by omega), byteAt_bytesS (n := h.kind) rfl]
  omega
theorem open_is {s : ByteArray} (h : opE s = 0) : openP s := by
  by_cases ho : openP s
  · exact ho
  · rw [(op_no ho).2.2] at h; omega
theorem open_kind {s : ByteArray} (h : opE s = 0) : (opH s).kind = byteAt s 0 := by rw [(op_yes (open_is h)).1]; rfl
theorem lf_kind {s : ByteArray} (h : lfP s) : byteAt s 0 = 2 ∧ 1 ≤ (lfM s).self ∧ opE s = 0 := by
  have hm := (lf_yes h).1
  obtain ⟨h1, h2, _, _, h5, _⟩ := h
  refine ⟨by rw [← open_kind h1]; exact h2, ?_, h1⟩
  rw [hm]
  unfold encE at h5
  split at h5
  · split at h5
    · rename_i q; exact q.1.2.1.1
    · omega
  · omega
theorem in_kind {s : ByteArray} (h : inP s) : byteAt s 0 = 3 ∧ 1 ≤ (inM s).self ∧ opE s = 0 := by
  have hm := (in_yes h).1
  obtain ⟨h1, h2, _, h5, _⟩ := h
  refine ⟨by rw [← open_kind h1]; exact h2, ?_, h1⟩
  rw [hm]
  unfold iencE at h5
  split at h5
  · split at h5
    · rename_i q; exact q.1.2.1.1
    · omega
  · omega
theorem ch_kind {s : ByteArray} (h : chP s) : byteAt s 0 = 4 ∧ 1 ≤ (chM s).self ∧ opE s = 0 := by
  have hm : chM s = ckRaw s := if_pos h
  obtain ⟨h1, h2, _, _, h5, _⟩ := h
  refine ⟨by rw [← open_kind h1]; exact h2, ?_, h1⟩
  rw [hm]
  exact h5.2.1
theorem mt_kind {s : ByteArray} (h : mtP s) : byteAt s 0 = 1 ∧ 1 ≤ (mtM s).p ∧ opE s = 0 := by
  have hm : mtM s = mRaw s := if_pos h
  obtain ⟨h1, h2, h3⟩ := h
  unfold meS at h3
  rw [if_pos h2] at h3
  unfold meE at h2
  split at h2
  · rename_i q
    refine ⟨?_, ?_, h1⟩
    · rw [← h3]; exact seal_kind h2
    · rw [hm]; have := sizeB_in q.1; omega
  · omega
theorem lf_zero {s : ByteArray} (h : ¬ lfP s) : lfM s = leaf0 := if_neg h
theorem in_zero {s : ByteArray} (h : ¬ inP s) : inM s = inner0 := if_neg h
theorem ch_zero {s : ByteArray} (h : ¬ chP s) : chM s = chain0 := if_neg h
theorem mt_zero {s : ByteArray} (h : ¬ mtP s) : mtM s = meta0 := if_neg h
theorem dec_cases (s : ByteArray) : (mtP s ∧ ¬ lfP s ∧ ¬ inP s ∧ ¬ chP s ∧ decM s = ⟨1, leaf0, inner0, chain0, mtM s⟩) ∨ (¬ mtP s ∧ lfP s ∧ ¬ inP s ∧ ¬ chP s ∧ decM s = ⟨2, lfM s, inner0, chain0, meta0⟩) ∨
    (¬ mtP s ∧ ¬ lfP s ∧ inP s ∧ ¬ chP s ∧ decM s = ⟨3, leaf0, inM s, chain0, meta0⟩) ∨ (¬ mtP s ∧ ¬ lfP s ∧ ¬ inP s ∧ chP s ∧ decM s = ⟨4, leaf0, inner0, chM s, meta0⟩) ∨
    (¬ mtP s ∧ ¬ lfP s ∧ ¬ inP s ∧ ¬ chP s ∧ decM s = page0) := by
  have sz : ∀ {n : Int}, n ≠ 0 → byteAt s 0 = n → s.size ≠ 0 := fun hn hb h0 => hn (by rw [← hb, byteAt_out (by omega)])
  by_cases hm : mtP s
  · obtain ⟨b, p, o⟩ := mt_kind hm
    refine .inl ⟨hm, fun h => ?_, fun h => ?_, fun h => ?_, ?_⟩
    · have := (lf_kind h).1; omega
    · have := (in_kind h).1; omega
    · have := (ch_kind h).1; omega
    · unfold decM; rw [if_neg (sz (by decide) b), if_neg (by omega), if_neg (by omega), if_neg (by omega), if_pos b, if_neg (by omega)]
  by_cases hl : lfP s
  · obtain ⟨b, p, o⟩ := lf_kind hl
    refine .inr (.inl ⟨hm, hl, fun h => ?_, fun h => ?_, ?_⟩)
    · have := (in_kind h).1; omega
    · have := (ch_kind h).1; omega
    · unfold decM; rw [if_neg (sz (by decide) b), if_pos b, if_neg (by omega)]
  by_cases hn : inP s
  · obtain ⟨b, p, o⟩ := in_kind hn
    refine .inr (.inr (.inl ⟨hm, hl, hn, fun h => ?_, ?_⟩))
    · have := (ch_kind h).1; omega
    · unfold decM; rw [if_neg (sz (by decide) b), if_neg (by omega), if_pos b, if_neg (by omega)]
  by_cases hc : chP s
  · obtain ⟨b, p, o⟩ := ch_kind hc
    refine .inr (.inr (.inr (.inl ⟨hm, hl, hn, hc, ?_⟩)))
    unfold decM; rw [if_neg (sz (by decide) b), if_neg (by omega), if_neg (by omega), if_pos b, if_neg (by omega)]
  · refine .inr (.inr (.inr (.inr ⟨hm, hl, hn, hc, ?_⟩)))
    unfold decM
    rw [lf_zero hl, in_zero hn, ch_zero hc, mt_zero hm]
    have a1 : leaf0.self = 0 := rfl
    have a2 : inner0.self = 0 := rfl
    have a3 : chain0.self = 0 := rfl
    have a4 : meta0.p = 0 := rfl
    rw [if_pos a1, if_pos a2, if_pos a3, if_pos a4]
    (repeat' split) <;> rfl
theorem dec_E (s : ByteArray) : decE s = if (decM s).kind = 0 then 3 else 0 := rfl
theorem lf_len {s : ByteArray} (hs : s.size ≤ 1200) (h : lfP s) : (lfM s).items.length ≤ 1200 := by
  rw [(lf_yes h).1]
  have h1 := it_in h.2.2.1
  have h2 := opB_size s
  show (itemsOf _ _).length ≤ _
  rw [List.length_map]
  omega
theorem in_len {s : ByteArray} (hs : s.size ≤ 1200) (h : inP s) : (inM s).kids.length ≤ 1200 ∧ (inM s).seps.length ≤ 1200 := by
  rw [(in_yes h).1]
  have h0 := kdP_pos h.2.2.1.2.2
  have h1 := nd_up h0
  have h2 := opB_size s
  have h3 := upL_size (s := opB s) (fx := ndF (opB s)) (n := (opH s).count)
  have h4 : (ndC (opB s) (opH s).count).length ≤ (opH s).count.toNat := h3.1
  have h5 := h1.2.2
  refine ⟨?_, ?_⟩
  · show (kidK _).length ≤ _
    rw [kidK_len]
    omega
  · show ((kidS _ _).drop 1).length ≤ _
    rw [List.length_drop, kidS_len]
    omega
end Go.Proofs.YtlbodfkhenkcjaaGreatDoor.X


namespace Go.Proofs.YtlbodfkhenkcjaaGreatDoor.X
open Go Go.Proofs Go.RowKit Go.Proofs.YtlbodfkhenkcjaaGreatDoor.D
set_option maxRecDepth 100000
set_option maxHeartbeats 8000000
set_option linter.unusedVariables false
set_option linter.unusedSimpArgs false

def sF : ByteArray := ⟨#[2, 0, 0, 0, 2, 0, 0, 0, 3, 0, 0, 0, 201, 205, 213, 175, 0, 1, 98, 0, 0, 0, 0, 0, 0, 0, 0, 0, 0, 0, 0, 0, 0, 0, 0, 0, 0, 0, 0, 0, 0, 0, 0, 0, 0, 0, 0, 0, 0, 0, 0, 0, 0, 0, 0, 0, 0, 0, 0, 0, 0, 0, 0, 0, 0, 0, 0, 0, 0, 0, 0, 0, 0, 0, 0, 0, 0, 0, 0, 0, 0, 0, 0, 0, 0, 0, 0, 0, 0, 0, 0, 0, 0, 0, 0, 0, 0, 0, 0, 0, 0, 0, 0, 0, 0, 0, 0, 0, 0, 0, 0, 0, 0, 0, 0, 0, 0, 0, 0, 0, 0, 0, 0, 0, 0, 0, 3, 0]⟩
def tF : ByteArray := ⟨#[1, 0, 0, 0, 4, 0, 0, 0, 0, 0, 0, 0, 16, 84, 223, 146, 119, 105, 116, 104, 121, 128, 0, 0, 0, 9, 0, 0, 0, 0, 0, 0, 0, 0, 0, 0, 0, 0, 0, 0, 0, 0, 0, 0, 0, 0, 0, 0, 0, 0, 0, 0, 0, 0, 0, 0, 0, 0, 0, 0, 0, 0, 0, 0, 0, 0, 0, 0, 0, 0, 0, 0, 0, 0, 0, 0, 0, 0, 0, 0, 0, 0, 0, 0, 0, 0, 0, 0, 0, 0, 0, 0, 0, 0, 0, 0, 0, 0, 0, 0, 0, 0, 0, 0, 0, 0, 0, 0, 0, 0, 0, 0, 0, 0, 0, 0, 0, 0, 0, 0, 0, 0, 0, 0, 0, 0, 0, 87]⟩
def lF : LeafM := ⟨3, 2, ⟨#[98]⟩, []⟩
def mF : MetaM := ⟨128, 9, 4, 0, 0⟩
theorem f_enc : encS lF 128 = sF ∧ encE lF 128 = 0 := ⟨by kernel_rfl, by kernel_rfl⟩
theorem f_men : meS mF = tF ∧ meE mF = 0 := ⟨by kernel_rfl, by kernel_rfl⟩
theorem f_lf : lfM sF = lF := by kernel_rfl
theorem f_mt : mtM tF = mF := by kernel_rfl
theorem f_ds : decM sF = ⟨2, lF, inner0, chain0, meta0⟩ := by
  have h0 : ¬ sF.size = 0 := by decide
  have h2 : byteAt sF 0 = 2 := by decide
  unfold decM
  rw [if_neg h0, if_pos h2, f_lf]
  rfl
theorem f_dt : decM tF = ⟨1, leaf0, inner0, chain0, mF⟩ := by
  have h0 : ¬ tF.size = 0 := by decide
  have h1 : byteAt tF 0 = 1 := by decide
  unfold decM
  rw [if_neg h0, if_neg (by omega), if_neg (by omega), if_neg (by omega), if_pos h1, f_mt]
  rfl
theorem f_dn : decM nilS = page0 := rfl
def lst : List ByteArray := [tF, sF, nilS, sF]
theorem f_a0 : atM lst 0 = ⟨1, leaf0, inner0, chain0, mF⟩ ∧ atE lst 0 = 0 := by
  have h : strAt lst 0 = tF := rfl
  unfold atM atE decE
  rw [h, f_dt]
  exact ⟨rfl, rfl⟩
theorem f_a1 : atM lst 1 = page0 ∧ atE lst 1 = 3 := by
  have h : strAt lst 1 = sF := rfl
  unfold atM atE decE
  rw [h, f_ds]
  exact ⟨rfl, rfl⟩
theorem f_a2 : atM lst 2 = page0 ∧ atE lst 2 = 3 := by
  have h : strAt lst 2 = nilS := rfl
  unfold atM atE decE
  rw [h, f_dn]
  exact ⟨rfl, rfl⟩
theorem f_a3 : atM lst 3 = ⟨2, lF, inner0, chain0, meta0⟩ ∧ atE lst 3 = 0 := by
  have h : strAt lst 3 = sF := rfl
  unfold atM atE decE
  rw [h, f_ds]
  exact ⟨rfl, rfl⟩
theorem f_a4 : atM lst 4 = page0 ∧ atE lst 4 = 4 := ⟨rfl, rfl⟩
theorem f_sv : svL lst = [1, 0, 0, 2] := by
  have : svL lst = [(atM lst 0).kind, (atM lst 1).kind, (atM lst 2).kind, (atM lst 3).kind] := rfl
  rw [this, f_a0.1, f_a1.1, f_a2.1, f_a3.1]
  rfl
attribute [local irreducible] D.DPure D.DEff D.callable decM decE atM atE svL sF tF
theorem pgB_0 : pgB page0 := ⟨by decide, by decide, by decide⟩
theorem pgB_s : pgB ⟨2, lF, inner0, chain0, meta0⟩ := ⟨by decide, by decide, by decide⟩
theorem pgB_t : pgB ⟨1, leaf0, inner0, chain0, mF⟩ := ⟨by decide, by decide, by decide⟩
theorem pgwk {t a1 a2 n1 n2 n3 c1 c2 m1 m2 m3 m4 m5 : Int} {hi h2 h3 : ByteArray} : Wk (.v (.agg #[.int .i64 t, .int .i64 a1, .int .i64 a2, .string hi, .slice none 0 0, .int .i64 n1, .int .i64 n2, .int .i64 n3, .string h2, .slice none 0 0, .slice none 0 0, .int .i64 c1, .int .i64 c2, .string h3, .int .i64 m1, .int .i64 m2, .int .i64 m3, .int .i64 m4, .int .i64 m5]))
    (pageF t ⟨a1, a2, hi, []⟩ ⟨n1, n2, n3, h2, [], []⟩ ⟨c1, c2, h3⟩ ⟨m1, m2, m3, m4, m5⟩) :=
  Wk.vaggL (xs := [.int .i64 t, .int .i64 a1, .int .i64 a2, .string hi, .slice none 0 0, .int .i64 n1, .int .i64 n2, .int .i64 n3, .string h2, .slice none 0 0, .slice none 0 0, .int .i64 c1, .int .i64 c2, .string h3, .int .i64 m1, .int .i64 m2, .int .i64 m3, .int .i64 m4, .int .i64 m5])
    (.cons (.v _) (.cons (.v _) (.cons (.v _) (.cons (.v _) (.cons (.nil _ _ _) (.cons (.v _) (.cons (.v _) (.cons (.v _) (.cons (.v _) (.cons (.nil _ _ _) (.cons (.nil _ _ _) (.cons (.v _) (.cons (.v _) (.cons (.v _) (.cons (.v _) (.cons (.v _) (.cons (.v _) (.cons (.v _) (.cons (.v _) .nil)))))))))))))))))))
theorem lst_in : ∀ s ∈ lst, s.size ≤ 1200 := by
  intro s hs
  have e1 : tF.size = 128 := by kernel_rfl
  have e2 : sF.size = 128 := by kernel_rfl
  have e3 : nilS.size = 0 := rfl
  unfold lst at hs
  simp only [List.mem_cons, List.not_mem_nil, or_false] at hs
  rcases hs with rfl | rfl | rfl | rfl <;> omega
theorem pgB_dec (s : ByteArray) (hs : s.size ≤ 1200) : pgB (decM s) := by
  have z : pgB page0 := ⟨by decide, by decide, by decide⟩
  rcases dec_cases s with ⟨_, _, _, _, e⟩ | ⟨_, hl, _, _, e⟩ | ⟨_, _, hn, _, e⟩ | ⟨_, _, _, _, e⟩ | ⟨_, _, _, _, e⟩
  all_goals rw [e]
  · exact ⟨z.l, z.k, z.q⟩
  · refine ⟨?_, z.k, z.q⟩
    have := lf_len hs hl
    show (lfM s).items.length ≤ _
    omega
  · have := in_len hs hn
    exact ⟨z.l, by show (inM s).kids.length ≤ _; omega, by show (inM s).seps.length ≤ _; omega⟩
  · exact ⟨z.l, z.k, z.q⟩
  · exact z
end Go.Proofs.YtlbodfkhenkcjaaGreatDoor.X


namespace Go.Proofs.YtlbodfkhenkcjaaGreatDoor.X
open Go Go.Proofs Go.RowKit Go.Proofs.YtlbodfkhenkcjaaGreatDoor.D
set_option maxRecDepth 100000
set_option maxHeartbeats 8000000
set_option linter.unusedVariables false
set_option linter.unusedSimpArgs false
attribute [local irreducible] D.DPure D.DEff D.callable decM decE atM atE svL sF tF
def c24 : DFun := ⟨147, [.t 0], .seq (.reg [⟨some 0, .mv (.c (.bool false)), none⟩]) (.seq (.reg [⟨some 19, .bld [.int .i64 0, .int .i64 0, .string ⟨#[]⟩, .slice none 0 0] [(0, 1, .c (.int .i64 3)), (1, 1, .c (.int .i64 2)), (2, 1, .c (.string ⟨#[98]⟩))], none⟩, ⟨some 20, .call 33 [.t 19, .c (.int .i64 128)], none⟩, ⟨some 18, .mv (.t 20), none⟩, ⟨some 21, .ext (.t 18) 0, none⟩, ⟨some 22, .ext (.t 18) 1, none⟩, ⟨some 1, .mv (.t 21), none⟩, ⟨some 2, .mv (.t 22), none⟩]) (.seq (.reg [⟨some 24, .bld [.int .i64 0, .int .i64 0, .int .i64 0, .int .i64 0, .int .i64 0] [(0, 1, .c (.int .i64 128)), (1, 1, .c (.int .i64 9)), (2, 1, .c (.int .i64 4))], none⟩, ⟨some 25, .call 32 [.t 24], none⟩, ⟨some 23, .mv (.t 25), none⟩, ⟨some 26, .ext (.t 23) 0, none⟩, ⟨some 27, .ext (.t 23) 1, none⟩, ⟨some 3, .mv (.t 26), none⟩, ⟨some 4, .mv (.t 27), none⟩]) (.seq (.seq (.reg [⟨some 28, .mv (.t 2), none⟩, ⟨some 29, .bin .neq (.t 28) (.c (.int .i64 0)), none⟩, ⟨some 30, .mv (.t 29), none⟩, ⟨some 31, .mv (.t 4), some (30, false)⟩, ⟨some 32, .bin .neq (.t 31) (.c (.int .i64 0)), some (30, false)⟩, ⟨some 33, .pick (.t 30) (.c (.bool true)) (.t 32), none⟩]) (.cond (.t 33) (.seq (.reg [⟨some 0, .mv (.c (.bool false)), none⟩]) .ret) .skip)) (.seq (.reg [⟨some 34, .mv (.t 3), none⟩, ⟨some 35, .mv (.t 1), none⟩, ⟨some 36, .mv (.t 1), none⟩, ⟨some 37, .bsl 1 [.t 34, .t 35, .c (.string ⟨#[]⟩), .t 36], none⟩, ⟨some 5, .mv (.t 37), none⟩]) (.seq (.reg [⟨some 39, .mv (.t 1), none⟩, ⟨some 40, .call 17 [.t 39], none⟩, ⟨some 38, .mv (.t 40), none⟩, ⟨some 41, .ext (.t 38) 0, none⟩, ⟨some 42, .ext (.t 38) 1, none⟩, ⟨some 6, .zero (.agg #[.int .i64 0, .int .i64 0, .int .i64 0, .string ⟨#[]⟩, .slice none 0 0, .int .i64 0, .int .i64 0, .int .i64 0, .string ⟨#[]⟩, .slice none 0 0, .slice none 0 0, .int .i64 0, .int .i64 0, .string ⟨#[]⟩, .int .i64 0, .int .i64 0, .int .i64 0, .int .i64 0, .int .i64 0]), none⟩, ⟨none, .st 19 (.t 6) (.t 41), none⟩, ⟨some 7, .mv (.t 42), none⟩]) (.seq (.reg [⟨some 44, .mv (.t 5), none⟩, ⟨some 45, .call 10 [.t 44, .c (.int .i64 3)], none⟩, ⟨some 43, .mv (.t 45), none⟩, ⟨some 46, .ext (.t 43) 0, none⟩, ⟨some 47, .ext (.t 43) 1, none⟩, ⟨some 8, .zero (.agg #[.int .i64 0, .int .i64 0, .int .i64 0, .string ⟨#[]⟩, .slice none 0 0, .int .i64 0, .int .i64 0, .int .i64 0, .string ⟨#[]⟩, .slice none 0 0, .slice none 0 0, .int .i64 0, .int .i64 0, .string ⟨#[]⟩, .int .i64 0, .int .i64 0, .int .i64 0, .int .i64 0, .int .i64 0]), none⟩, ⟨none, .st 19 (.t 8) (.t 46), none⟩, ⟨some 9, .mv (.t 47), none⟩]) (.seq (.reg [⟨some 49, .mv (.t 5), none⟩, ⟨some 50, .call 10 [.t 49, .c (.int .i64 1)], none⟩, ⟨some 48, .mv (.t 50), none⟩, ⟨some 51, .ext (.t 48) 0, none⟩, ⟨some 52, .ext (.t 48) 1, none⟩, ⟨some 10, .zero (.agg #[.int .i64 0, .int .i64 0, .int .i64 0, .string ⟨#[]⟩, .slice none 0 0, .int .i64 0, .int .i64 0, .int .i64 0, .string ⟨#[]⟩, .slice none 0 0, .slice none 0 0, .int .i64 0, .int .i64 0, .string ⟨#[]⟩, .int .i64 0, .int .i64 0, .int .i64 0, .int .i64 0, .int .i64 0]), none⟩, ⟨none, .st 19 (.t 10) (.t 51), none⟩, ⟨some 11, .mv (.t 52), none⟩]) (.seq (.reg [⟨some 54, .mv (.t 5), none⟩, ⟨some 55, .call 10 [.t 54, .c (.int .i64 4)], none⟩, ⟨some 53, .mv (.t 55), none⟩, ⟨some 56, .ext (.t 53) 0, none⟩, ⟨some 57, .ext (.t 53) 1, none⟩, ⟨some 12, .zero (.agg #[.int .i64 0, .int .i64 0, .int .i64 0, .string ⟨#[]⟩, .slice none 0 0, .int .i64 0, .int .i64 0, .int .i64 0, .string ⟨#[]⟩, .slice none 0 0, .slice none 0 0, .int .i64 0, .int .i64 0, .string ⟨#[]⟩, .int .i64 0, .int .i64 0, .int .i64 0, .int .i64 0, .int .i64 0]), none⟩, ⟨none, .st 19 (.t 12) (.t 56), none⟩, ⟨some 13, .mv (.t 57), none⟩]) (.seq (.reg [⟨some 59, .mv (.t 5), none⟩, ⟨some 60, .call 10 [.t 59, .c (.int .i64 2)], none⟩, ⟨some 58, .mv (.t 60), none⟩, ⟨some 61, .ext (.t 58) 0, none⟩, ⟨some 62, .ext (.t 58) 1, none⟩, ⟨some 14, .zero (.agg #[.int .i64 0, .int .i64 0, .int .i64 0, .string ⟨#[]⟩, .slice none 0 0, .int .i64 0, .int .i64 0, .int .i64 0, .string ⟨#[]⟩, .slice none 0 0, .slice none 0 0, .int .i64 0, .int .i64 0, .string ⟨#[]⟩, .int .i64 0, .int .i64 0, .int .i64 0, .int .i64 0, .int .i64 0]), none⟩, ⟨none, .st 19 (.t 14) (.t 61), none⟩, ⟨some 15, .mv (.t 62), none⟩]) (.seq (.reg [⟨some 64, .mv (.t 5), none⟩, ⟨some 65, .call 10 [.t 64, .c (.int .i64 0)], none⟩, ⟨some 63, .mv (.t 65), none⟩, ⟨some 66, .ext (.t 63) 0, none⟩, ⟨some 67, .ext (.t 63) 1, none⟩, ⟨some 16, .zero (.agg #[.int .i64 0, .int .i64 0, .int .i64 0, .string ⟨#[]⟩, .slice none 0 0, .int .i64 0, .int .i64 0, .int .i64 0, .string ⟨#[]⟩, .slice none 0 0, .slice none 0 0, .int .i64 0, .int .i64 0, .string ⟨#[]⟩, .int .i64 0, .int .i64 0, .int .i64 0, .int .i64 0, .int .i64 0]), none⟩, ⟨none, .st 19 (.t 16) (.t 66), none⟩, ⟨some 17, .mv (.t 67), none⟩]) (.seq (.reg [⟨some 68, .fa 0 (.t 6), none⟩, ⟨some 69, .ld 1 false (.t 68), none⟩, ⟨some 70, .bin .eql (.t 69) (.c (.int .i64 2)), none⟩, ⟨some 71, .mv (.t 70), none⟩, ⟨some 72, .ld 19 true (.t 6), some (71, true)⟩, ⟨some 73, .call 19 [.t 72], some (71, true)⟩, ⟨some 74, .bin .eql (.t 73) (.c (.int .i64 3)), some (71, true)⟩, ⟨some 75, .pick (.t 71) (.t 74) (.c (.bool false)), none⟩, ⟨some 76, .mv (.t 75), none⟩, ⟨some 77, .ld 19 true (.t 6), some (76, true)⟩, ⟨some 78, .call 21 [.t 77], some (76, true)⟩, ⟨some 79, .bin .eql (.t 78) (.c (.int .i64 2)), some (76, true)⟩, ⟨some 80, .pick (.t 76) (.t 79) (.c (.bool false)), none⟩, ⟨some 81, .mv (.t 80), none⟩, ⟨some 82, .mv (.t 7), some (81, true)⟩, ⟨some 83, .bin .eql (.t 82) (.c (.int .i64 0)), some (81, true)⟩, ⟨some 84, .pick (.t 81) (.t 83) (.c (.bool false)), none⟩, ⟨some 85, .mv (.t 84), none⟩, ⟨some 86, .ld 19 true (.t 6), some (85, true)⟩, ⟨some 87, .ld 19 true (.t 8), some (85, true)⟩, ⟨some 88, .call 23 [.t 86, .t 87], some (85, true)⟩, ⟨some 89, .pick (.t 85) (.t 88) (.c (.bool false)), none⟩, ⟨some 90, .mv (.t 89), none⟩, ⟨some 91, .mv (.t 9), some (90, true)⟩, ⟨some 92, .bin .eql (.t 91) (.c (.int .i64 0)), some (90, true)⟩, ⟨some 93, .pick (.t 90) (.t 92) (.c (.bool false)), none⟩, ⟨some 94, .mv (.t 93), none⟩, ⟨some 95, .mv (.t 11), some (94, true)⟩, ⟨some 96, .bin .eql (.t 95) (.c (.int .i64 3)), some (94, true)⟩, ⟨some 97, .pick (.t 94) (.t 96) (.c (.bool false)), none⟩, ⟨some 98, .mv (.t 97), none⟩, ⟨some 99, .mv (.t 13), some (98, true)⟩, ⟨some 100, .bin .eql (.t 99) (.c (.int .i64 4)), some (98, true)⟩, ⟨some 101, .pick (.t 98) (.t 100) (.c (.bool false)), none⟩, ⟨some 102, .mv (.t 101), none⟩, ⟨some 103, .mv (.t 15), some (102, true)⟩, ⟨some 104, .bin .eql (.t 103) (.c (.int .i64 3)), some (102, true)⟩, ⟨some 105, .pick (.t 102) (.t 104) (.c (.bool false)), none⟩, ⟨some 106, .mv (.t 105), none⟩, ⟨some 107, .fa 0 (.t 16), some (106, true)⟩, ⟨some 108, .ld 1 false (.t 107), some (106, true)⟩, ⟨some 109, .bin .eql (.t 108) (.c (.int .i64 1)), some (106, true)⟩, ⟨some 110, .pick (.t 106) (.t 109) (.c (.bool false)), none⟩, ⟨some 111, .mv (.t 110), none⟩, ⟨some 112, .ld 19 true (.t 16), some (111, true)⟩, ⟨some 113, .call 19 [.t 112], some (111, true)⟩, ⟨some 114, .bin .eql (.t 113) (.c (.int .i64 0)), some (111, true)⟩, ⟨some 115, .pick (.t 111) (.t 114) (.c (.bool false)), none⟩, ⟨some 116, .mv (.t 115), none⟩, ⟨some 117, .ld 19 true (.t 16), some (116, true)⟩, ⟨some 118, .call 21 [.t 117], some (116, true)⟩, ⟨some 119, .bin .eql (.t 118) (.c (.int .i64 4)), some (116, true)⟩, ⟨some 120, .pick (.t 116) (.t 119) (.c (.bool false)), none⟩, ⟨some 121, .mv (.t 120), none⟩, ⟨some 122, .mv (.t 17), some (121, true)⟩, ⟨some 123, .bin .eql (.t 122) (.c (.int .i64 0)), some (121, true)⟩, ⟨some 124, .pick (.t 121) (.t 123) (.c (.bool false)), none⟩, ⟨some 125, .mv (.t 124), none⟩, ⟨some 126, .mv (.t 5), some (125, true)⟩, ⟨some 127, .call 15 [.t 126], some (125, true)⟩, ⟨some 128, .bsl 1 [.c (.int .i64 1), .c (.int .i64 0), .c (.int .i64 0), .c (.int .i64 2)], some (125, true)⟩, ⟨some 129, .call 14 [.t 127, .t 128], some (125, true)⟩, ⟨some 130, .pick (.t 125) (.t 129) (.c (.bool false)), none⟩, ⟨some 131, .mv (.t 130), none⟩, ⟨some 132, .ld 19 true (.t 6), some (131, true)⟩, ⟨some 133, .ld 19 true (.t 16), some (131, true)⟩, ⟨some 134, .call 23 [.t 132, .t 133], some (131, true)⟩, ⟨some 135, .un .not (.t 134), some (131, true)⟩, ⟨some 136, .pick (.t 131) (.t 135) (.c (.bool false)), none⟩, ⟨some 137, .mv (.t 136), none⟩, ⟨some 138, .bld [.int .i64 0, .int .i64 0, .int .i64 0, .string ⟨#[]⟩, .slice none 0 0, .int .i64 0, .int .i64 0, .int .i64 0, .string ⟨#[]⟩, .slice none 0 0, .slice none 0 0, .int .i64 0, .int .i64 0, .string ⟨#[]⟩, .int .i64 0, .int .i64 0, .int .i64 0, .int .i64 0, .int .i64 0] [], some (137, true)⟩, ⟨some 139, .call 19 [.t 138], some (137, true)⟩, ⟨some 140, .bin .eql (.t 139) (.c (.int .i64 0)), some (137, true)⟩, ⟨some 141, .pick (.t 137) (.t 140) (.c (.bool false)), none⟩, ⟨some 142, .mv (.t 141), none⟩, ⟨some 143, .bld [.int .i64 0, .int .i64 0, .int .i64 0, .string ⟨#[]⟩, .slice none 0 0, .int .i64 0, .int .i64 0, .int .i64 0, .string ⟨#[]⟩, .slice none 0 0, .slice none 0 0, .int .i64 0, .int .i64 0, .string ⟨#[]⟩, .int .i64 0, .int .i64 0, .int .i64 0, .int .i64 0, .int .i64 0] [], some (142, true)⟩, ⟨some 144, .call 21 [.t 143], some (142, true)⟩, ⟨some 145, .bin .eql (.t 144) (.c (.int .i64 0)), some (142, true)⟩, ⟨some 146, .pick (.t 142) (.t 145) (.c (.bool false)), none⟩, ⟨some 0, .mv (.t 146), none⟩]) .ret)))))))))))⟩
theorem e24 : cfun Tryz.prog 24 = some c24 := by kernel_rfl
abbrev pgS : DV := .agg [VN .i64 2, VN .i64 3, VN .i64 2, SV ⟨#[98]⟩, .list 5 [], VN .i64 0, VN .i64 0, VN .i64 0, SV nilS, .list 1 [], .list 1 [], VN .i64 0, VN .i64 0, SV nilS, VN .i64 0, VN .i64 0, VN .i64 0, VN .i64 0, VN .i64 0]
abbrev pgT : DV := .agg [VN .i64 1, VN .i64 0, VN .i64 0, SV nilS, .list 5 [], VN .i64 0, VN .i64 0, VN .i64 0, SV nilS, .list 1 [], .list 1 [], VN .i64 0, VN .i64 0, SV nilS, VN .i64 128, VN .i64 9, VN .i64 4, VN .i64 0, VN .i64 0]
abbrev pg0 : DV := .agg [VN .i64 0, VN .i64 0, VN .i64 0, SV nilS, .list 5 [], VN .i64 0, VN .i64 0, VN .i64 0, SV nilS, .list 1 [], .list 1 [], VN .i64 0, VN .i64 0, SV nilS, VN .i64 0, VN .i64 0, VN .i64 0, VN .i64 0, VN .i64 0]
theorem fixed14_D : DPure Tp GI 24 [] (BV true) := by
  have w0 : Wk (.v (.agg #[.int .i64 3, .int .i64 2, .string ⟨#[98]⟩, .slice none 0 0])) (.agg [VN .i64 3, VN .i64 2, SV ⟨#[98]⟩, .list 5 (itemsL [])]) := Wk.vaggL (xs := [.int .i64 3, .int .i64 2, .string ⟨#[98]⟩, .slice none 0 0]) (.cons (.v _) (.cons (.v _) (.cons (.v _) (.cons (.nil _ _ _) .nil))))
  have d0 := dp_wk (encode_D0 (I := GI) 3 2 ⟨#[98]⟩ [] 128 (by decide) (by simp) (by decide)) (.cons w0 (.cons (.v _) .nil))
  have d1 := menc_D0 (I := GI) 128 9 4 0 0
  have e1 := f_enc
  have e2 := f_men
  unfold lF at e1
  unfold mF at e2
  rw [e1.1, e1.2] at d0
  rw [e2.1, e2.2] at d1
  have hsz : sF.size ≤ 1200 := Nat.le_of_ble_eq_true (by kernel_rfl)
  have d2 := decode_D sF hsz
  have hE : decE sF = 0 := by unfold decE; rw [f_ds]; rfl
  rw [f_ds, hE] at d2
  have d3 := pat_D lst 3 (by decide) lst_in
  have d4 := pat_D lst 1 (by decide) lst_in
  have d5 := pat_D lst 4 (by decide) lst_in
  have d6 := pat_D lst 2 (by decide) lst_in
  have d7 := pat_D lst 0 (by decide) lst_in
  rw [f_a3.1, f_a3.2] at d3
  rw [f_a1.1, f_a1.2] at d4
  rw [f_a4.1, f_a4.2] at d5
  rw [f_a2.1, f_a2.2] at d6
  rw [f_a0.1, f_a0.2] at d7
  have d8 := survey_D lst (by decide) lst_in
  rw [f_sv] at d8
  have d9 := rints_D (I := GI) [1, 0, 0, 2] [1, 0, 0, 2] (by decide) (by decide)
  rw [decide_eq_true rfl] at d9
  have s1 := self_D (I := GI) ⟨2, lF, inner0, chain0, meta0⟩
  have r1 := rightp_D (I := GI) ⟨2, lF, inner0, chain0, meta0⟩
  have s2 := self_D (I := GI) ⟨1, leaf0, inner0, chain0, mF⟩
  have r2 := rightp_D (I := GI) ⟨1, leaf0, inner0, chain0, mF⟩
  have s3 := dp_wk (self_D (I := GI) page0) (.cons pgwk .nil)
  have r3 := dp_wk (rightp_D (I := GI) page0) (.cons pgwk .nil)
  have q1 := psame_D (I := GI) ⟨2, lF, inner0, chain0, meta0⟩ ⟨2, lF, inner0, chain0, meta0⟩ pgB_s pgB_s
  have q2 := psame_D (I := GI) ⟨2, lF, inner0, chain0, meta0⟩ ⟨1, leaf0, inner0, chain0, mF⟩ pgB_s pgB_t
  rw [decide_eq_true rfl] at q1
  rw [decide_eq_false (by intro e; injection e with e _; exact absurd e (by decide))] at q2
  have g1 : selfN ⟨2, lF, inner0, chain0, meta0⟩ = 3 := rfl
  have g2 : rightN ⟨2, lF, inner0, chain0, meta0⟩ = 2 := rfl
  have g3 : selfN ⟨1, leaf0, inner0, chain0, mF⟩ = 0 := rfl
  have g4 : rightN ⟨1, leaf0, inner0, chain0, mF⟩ = 4 := rfl
  have g5 : selfN page0 = 0 := rfl
  have g6 : rightN page0 = 0 := rfl
  rw [g1] at s1
  rw [g2] at r1
  rw [g3] at s2
  rw [g4] at r2
  rw [g5] at s3
  rw [g6] at r3
  replace d2 : DPure Tp GI 17 [SV sF] (.tup [pgS, VN .i64 0]) := d2
  replace d3 : DPure Tp GI 10 [.list 1 [SV tF, SV sF, SV nilS, SV sF], VN .i64 3] (.tup [pgS, VN .i64 0]) := d3
  replace d4 : DPure Tp GI 10 [.list 1 [SV tF, SV sF, SV nilS, SV sF], VN .i64 1] (.tup [pg0, VN .i64 3]) := d4
  replace d5 : DPure Tp GI 10 [.list 1 [SV tF, SV sF, SV nilS, SV sF], VN .i64 4] (.tup [pg0, VN .i64 4]) := d5
  replace d6 : DPure Tp GI 10 [.list 1 [SV tF, SV sF, SV nilS, SV sF], VN .i64 2] (.tup [pg0, VN .i64 3]) := d6
  replace d7 : DPure Tp GI 10 [.list 1 [SV tF, SV sF, SV nilS, SV sF], VN .i64 0] (.tup [pgT, VN .i64 0]) := d7
  replace d8 : DPure Tp GI 15 [.list 1 [SV tF, SV sF, SV nilS, SV sF]] (.list 1 [VN .i64 1, VN .i64 0, VN .i64 0, VN .i64 2]) := d8
  replace s1 : DPure Tp GI 19 [pgS] (VN .i64 3) := s1
  replace r1 : DPure Tp GI 21 [pgS] (VN .i64 2) := r1
  replace s2 : DPure Tp GI 19 [pgT] (VN .i64 0) := s2
  replace r2 : DPure Tp GI 21 [pgT] (VN .i64 4) := r2
  replace q1 : DPure Tp GI 23 [pgS, pgS] (BV true) := q1
  replace q2 : DPure Tp GI 23 [pgS, pgT] (BV false) := q2
  refine z_pure (e0 := ?e0x1) mix e24 rfl ?z01 ?_
  (case z01 => exact rfl)
  dsimp only [c24]
  repeat' (first | ((with_reducible apply z_call); (case' hd => apply d0); (case hw => exact wknL_ok rfl); (try any_goals exact sd)) | ((with_reducible apply z_call); (case' hd => apply d1); (case hw => exact wknL_ok rfl); (try any_goals exact sd)) | ((with_reducible apply z_call); (case' hd => apply d2); (case hw => exact wknL_ok rfl); (try any_goals exact sd)) | ((with_reducible apply z_call); (case' hd => apply d3); (case hw => exact wknL_ok rfl); (try any_goals exact sd)) | ((with_reducible apply z_call); (case' hd => apply d4); (case hw => exact wknL_ok rfl); (try any_goals exact sd)) | ((with_reducible apply z_call); (case' hd => apply d5); (case hw => exact wknL_ok rfl); (try any_goals exact sd)) | ((with_reducible apply z_call); (case' hd => apply d6); (case hw => exact wknL_ok rfl); (try any_goals exact sd)) | ((with_reducible apply z_call); (case' hd => apply d7); (case hw => exact wknL_ok rfl); (try any_goals exact sd)) | ((with_reducible apply z_call); (case' hd => apply d8); (case hw => exact wknL_ok rfl); (try any_goals exact sd)) | ((with_reducible apply z_call); (case' hd => apply d9); (case hw => exact wknL_ok rfl); (try any_goals exact sd)) | ((with_reducible apply z_call); (case' hd => apply s1); (case hw => exact wknL_ok rfl); (try any_goals exact sd)) | ((with_reducible apply z_call); (case' hd => apply r1); (case hw => exact wknL_ok rfl); (try any_goals exact sd)) | ((with_reducible apply z_call); (case' hd => apply s2); (case hw => exact wknL_ok rfl); (try any_goals exact sd)) | ((with_reducible apply z_call); (case' hd => apply r2); (case hw => exact wknL_ok rfl); (try any_goals exact sd)) | ((with_reducible apply z_call); (case' hd => apply s3); (case hw => exact wknL_ok rfl); (try any_goals exact sd)) | ((with_reducible apply z_call); (case' hd => apply r3); (case hw => exact wknL_ok rfl); (try any_goals exact sd)) | ((with_reducible apply z_call); (case' hd => apply q1); (case hw => exact wknL_ok rfl); (try any_goals exact sd)) | ((with_reducible apply z_call); (case' hd => apply q2); (case hw => exact wknL_ok rfl); (try any_goals exact sd)) | refine zs ?_ | refine Br.mk ?_ ?_ | intro _ | refine zf ?_ | fail)
  exact wkn_ok (by kernel_rfl)
end Go.Proofs.YtlbodfkhenkcjaaGreatDoor.X


namespace Go.Proofs.YtlbodfkhenkcjaaGreatDoor.X
open Go Go.Proofs Go.RowKit Go.Proofs.YtlbodfkhenkcjaaGreatDoor.D
set_option maxRecDepth 100000
set_option maxHeartbeats 2000000
set_option linter.unusedVariables false
set_option linter.unusedSimpArgs false
variable {I : D.Inv}
attribute [local irreducible] D.DPure D.DEff D.callable ByteArray.extract ByteArray.append

def c9 : DFun := ⟨31, [.t 2], .seq (.reg [⟨some 2, .mv (.c (.slice none 0 0)), none⟩]) (.seq (.reg [⟨some 5, .bsl 1 [], none⟩, ⟨some 3, .mv (.t 5), none⟩]) (.seq (.seq (.reg [⟨some 4, .mv (.c (.int .i64 0)), none⟩]) (.block 0 (.loop (.seq (.seq (.reg [⟨some 6, .mv (.t 4), none⟩, ⟨some 7, .mv (.t 0), none⟩, ⟨some 8, .len false (.t 7), none⟩, ⟨some 9, .bin .lss (.t 6) (.t 8), none⟩, ⟨some 10, .mv (.t 9), none⟩, ⟨some 11, .mv (.t 4), some (10, true)⟩, ⟨some 12, .bin .lss (.t 11) (.c (.int .i64 30)), some (10, true)⟩, ⟨some 13, .pick (.t 10) (.t 12) (.c (.bool false)), none⟩]) (.cond (.t 13) .skip (.exit 0))) (.seq (.block 1 (.reg [⟨some 16, .mv (.t 3), none⟩, ⟨some 17, .mv (.t 0), none⟩, ⟨some 18, .mv (.t 4), none⟩, ⟨some 19, .ixa 1 (.t 17) (.t 18), none⟩, ⟨some 20, .ld 1 false (.t 19), none⟩, ⟨some 21, .mv (.t 0), none⟩, ⟨some 22, .mv (.t 4), none⟩, ⟨some 23, .ixa 1 (.t 21) (.t 22), none⟩, ⟨some 24, .ld 1 false (.t 23), none⟩, ⟨some 25, .len true (.t 24), none⟩, ⟨some 26, .mm false (.t 25) [.c (.int .i64 1100)], none⟩, ⟨some 27, .slS (.t 20) none (some (.t 26)), none⟩, ⟨some 28, .bsl 1 [.t 27], none⟩, ⟨some 29, .app 9 1 16 (.t 16) (.t 28), none⟩, ⟨some 3, .mv (.t 29), none⟩])) (.reg [⟨some 14, .mv (.t 4), none⟩, ⟨some 15, .bin .add (.t 14) (.c (.int .i64 1)), none⟩, ⟨some 4, .mv (.t 15), none⟩])))))) (.seq (.reg [⟨some 30, .mv (.t 3), none⟩, ⟨some 2, .mv (.t 30), none⟩]) .ret)))⟩
theorem e9 : cfun Tryz.prog 9 = some c9 := by kernel_rfl
def cutL (l : List ByteArray) : List ByteArray := (l.take 30).map cutE
theorem cutL_len (l : List ByteArray) : (cutL l).length ≤ 30 := by simp [cutL]; omega
theorem cutL_in (l : List ByteArray) : ∀ s ∈ cutL l, s.size ≤ 1100 := by
  intro s hs
  obtain ⟨t, _, rfl⟩ := List.mem_map.1 hs
  exact cutE_size t
theorem cut_snoc {l : List ByteArray} {i : Nat} (h : i < l.length) : strsL ((l.take i).map cutE) ++ [SV (cutE l[i])] = strsL ((l.take (i + 1)).map cutE) := by
  rw [List.take_succ_eq_append_getElem h, List.map_append]
  simp [strsL]
theorem cut_E (l : List ByteArray) : DEff Tp I 9 [.list 1 (strsL l)] [] [] (.own 0 9 1 (strsL (cutL l))) [] [(strsL (cutL l)).length * 1] := by
  have hsl := strs_len l
  refine z_eff (e0 := ?e0x1) mix e9 rfl ?z01 rfl rfl ?_
  (case z01 => exact rfl)
  dsimp only [c9]
  repeat' (first | refine zs ?_ | refine Br.mk ?_ ?_ | intro _ | refine zf ?_ | fail)
  refine z_loop (fun i : Nat => ⟨[(0, .list 1 (strsL l)), (3, .own 0 9 1 (strsL ((l.take i).map cutE))), (4, VN .i64 i)], [], [(strsL ((l.take i).map cutE)).length * 1]⟩) (fun i : Nat => i ≤ l.length ∧ i ≤ 30) (fun i : Nat => l.length - i) (0) ?_ ?_ fun i hi => ?_
  · exact (less_of 0 0 1 rfl rfl (lessE_cons (ltd_eq rfl (by kernel_rfl)) (lessE_cons (ltd_ownf rfl rfl (by kernel_rfl)) (lessE_cons (ltd_eq rfl (by kernel_rfl)) lessE_nil))) (by kernel_rfl) (by kernel_rfl) (by kernel_rfl) (by kernel_rfl))
  · exact ⟨by omega, by omega⟩
  have hln : (strsL ((l.take i).map cutE)).length ≤ 30 := by rw [strs_len, List.length_map, List.length_take]; omega
  have fin : (i = l.length ∨ i = 30) → (l.take i).map cutE = cutL l := by
    intro h
    unfold cutL
    rcases h with h | h
    · rw [List.take_of_length_le (by omega), List.take_of_length_le (by omega)]
    · rw [h]
  by_cases hil : i < l.length
  · by_cases hi30 : i < 30
    · have hsn := cut_snoc hil
      have hsz := cutE_size l[i]
      repeat' (first | refine ⟨_, strs_get hil, ?_⟩ | refine z1 ?_ | refine Br.mk ?_ ?_ | intro _ | refine zf ?_ | fail)
      refine ⟨i + 1, (less_of 0 1 0 rfl rfl (lessE_cons (ltd_eq rfl (by kernel_rfl)) (lessE_cons (ltd_eq rfl ?_) (lessE_cons (ltd_eq rfl (by kernel_rfl)) lessE_nil))) (by kernel_rfl) (by kernel_rfl) ?_ (by kernel_rfl)), ⟨hil, hi30⟩, by omega⟩
      · rw [← hsn]; kernel_rfl
      · rw [← hsn, List.length_append]; kernel_rfl
    · have e := fin (.inr (by omega))
      repeat' (first | refine zs ?_ | refine Br.mk ?_ ?_ | intro _ | refine zf ?_ | fail)
      refine .same ?_ rfl ?_
      · (rw [← e]) <;> kernel_rfl
      · (rw [← e]) <;> kernel_rfl
  · have e := fin (.inl (by omega))
    repeat' (first | refine zs ?_ | refine Br.mk ?_ ?_ | intro _ | refine zf ?_ | fail)
    refine .same ?_ rfl ?_
    · (rw [← e]) <;> kernel_rfl
    · (rw [← e]) <;> kernel_rfl
theorem cut_own (l : List ByteArray) : DOwn Tp I 9 [.list 1 (strsL l)] 1 (strsL (cutL l)) := ⟨9, [], _, cut_E l, rfl⟩
end Go.Proofs.YtlbodfkhenkcjaaGreatDoor.X


namespace Go.Proofs.YtlbodfkhenkcjaaGreatDoor.X
open Go Go.Proofs Go.RowKit Go.Proofs.YtlbodfkhenkcjaaGreatDoor.D
set_option maxRecDepth 100000
set_option linter.unusedVariables false
set_option linter.unusedSimpArgs false

theorem law_W {f : FuncId} {ds : List DV} {r : Value} (h : DPure Tp GI f ds (.v r)) (S : Nat → Nat → Prop) (W : World) (vals : List Value) (hg : GlobE W) (hr : RepL S W noLink ds vals) :
    Calls Tp f vals.toArray W fun e W' => e = .returned r ∧ Below W.heap.size W W' := by
  refine (h.2 S W vals hg hr).mono ?_
  rintro e W' ⟨y, rfl, hy, hb⟩
  cases hy
  exact ⟨rfl, hb⟩
theorem rep_s (S : Nat → Nat → Prop) (W : World) (s : ByteArray) : Rep S W noLink (SV s) (.string s) := .v _ _
end Go.Proofs.YtlbodfkhenkcjaaGreatDoor.X


namespace Go.Proofs.YtlbodfkhenkcjaaGreatDoor.X
open Go Go.Proofs Go.RowKit Go.Proofs.YtlbodfkhenkcjaaGreatDoor.D
set_option maxRecDepth 100000
set_option maxHeartbeats 8000000
set_option linter.unusedVariables false
set_option linter.unusedSimpArgs false

theorem decE_is (t : ByteArray) : decE t = 0 ∨ decE t = 3 := by rw [dec_E]; split <;> simp
attribute [local irreducible] D.DPure D.DEff D.callable decM decE opE repB strOfNums ByteArray.extract ByteArray.append
def c7 : DFun := ⟨84, [.t 6], .seq (.reg [⟨some 6, .mv (.c (.bool false)), none⟩]) (.seq (.reg [⟨some 17, .mv (.t 2), none⟩, ⟨some 18, .mv (.t 2), none⟩, ⟨some 19, .len true (.t 18), none⟩, ⟨some 20, .mm false (.t 19) [.c (.int .i64 1100)], none⟩, ⟨some 21, .slS (.t 17) none (some (.t 20)), none⟩, ⟨some 2, .mv (.t 21), none⟩]) (.seq (.reg [⟨some 23, .mv (.t 0), none⟩, ⟨some 24, .mv (.t 1), none⟩, ⟨some 25, .cvt .i64 (.t 24), none⟩, ⟨some 26, .bin .rem (.t 25) (.c (.int .i64 1100)), none⟩, ⟨some 27, .call 31 [.t 23, .t 26], none⟩, ⟨some 28, .call 17 [.t 27], none⟩, ⟨some 22, .mv (.t 28), none⟩, ⟨some 29, .ext (.t 22) 0, none⟩, ⟨some 30, .ext (.t 22) 1, none⟩, ⟨some 7, .zero (.agg #[.int .i64 0, .int .i64 0, .int .i64 0, .string ⟨#[]⟩, .slice none 0 0, .int .i64 0, .int .i64 0, .int .i64 0, .string ⟨#[]⟩, .slice none 0 0, .slice none 0 0, .int .i64 0, .int .i64 0, .string ⟨#[]⟩, .int .i64 0, .int .i64 0, .int .i64 0, .int .i64 0, .int .i64 0]), none⟩, ⟨none, .st 19 (.t 7) (.t 29), none⟩, ⟨some 8, .mv (.t 30), none⟩]) (.seq (.reg [⟨some 32, .mv (.t 2), none⟩, ⟨some 33, .call 17 [.t 32], none⟩, ⟨some 31, .mv (.t 33), none⟩, ⟨some 34, .ext (.t 31) 0, none⟩, ⟨some 35, .ext (.t 31) 1, none⟩, ⟨some 9, .zero (.agg #[.int .i64 0, .int .i64 0, .int .i64 0, .string ⟨#[]⟩, .slice none 0 0, .int .i64 0, .int .i64 0, .int .i64 0, .string ⟨#[]⟩, .slice none 0 0, .slice none 0 0, .int .i64 0, .int .i64 0, .string ⟨#[]⟩, .int .i64 0, .int .i64 0, .int .i64 0, .int .i64 0, .int .i64 0]), none⟩, ⟨none, .st 19 (.t 9) (.t 34), none⟩, ⟨some 10, .mv (.t 35), none⟩]) (.seq (.seq (.reg [⟨some 36, .mv (.t 8), none⟩, ⟨some 37, .bin .neq (.t 36) (.c (.int .i64 3)), none⟩]) (.cond (.t 37) (.seq (.reg [⟨some 6, .mv (.c (.bool false)), none⟩]) .ret) .skip)) (.seq (.seq (.reg [⟨some 38, .mv (.t 10), none⟩, ⟨some 39, .bin .neq (.t 38) (.c (.int .i64 0)), none⟩]) (.cond (.t 39) (.seq (.reg [⟨some 40, .mv (.t 10), none⟩, ⟨some 41, .bin .eql (.t 40) (.c (.int .i64 3)), none⟩, ⟨some 42, .mv (.t 41), none⟩, ⟨some 43, .call 24 [], some (42, true)⟩, ⟨some 44, .pick (.t 42) (.t 43) (.c (.bool false)), none⟩, ⟨some 6, .mv (.t 44), none⟩]) .ret) .skip)) (.seq (.reg [⟨some 46, .mv (.t 2), none⟩, ⟨some 47, .mv (.t 0), none⟩, ⟨some 48, .bsl 1 [.t 47], none⟩, ⟨some 49, .b2s (.t 48), none⟩, ⟨some 50, .bin .add (.t 46) (.t 49), none⟩, ⟨some 51, .call 17 [.t 50], none⟩, ⟨some 45, .mv (.t 51), none⟩, ⟨some 52, .ext (.t 45) 0, none⟩, ⟨some 53, .ext (.t 45) 1, none⟩, ⟨some 11, .zero (.agg #[.int .i64 0, .int .i64 0, .int .i64 0, .string ⟨#[]⟩, .slice none 0 0, .int .i64 0, .int .i64 0, .int .i64 0, .string ⟨#[]⟩, .slice none 0 0, .slice none 0 0, .int .i64 0, .int .i64 0, .string ⟨#[]⟩, .int .i64 0, .int .i64 0, .int .i64 0, .int .i64 0, .int .i64 0]), none⟩, ⟨none, .st 19 (.t 11) (.t 52), none⟩, ⟨some 12, .mv (.t 53), none⟩]) (.seq (.reg [⟨some 55, .mv (.t 2), none⟩, ⟨some 56, .slS (.t 55) (some (.c (.int .i64 1))) none, none⟩, ⟨some 57, .call 17 [.t 56], none⟩, ⟨some 54, .mv (.t 57), none⟩, ⟨some 58, .ext (.t 54) 0, none⟩, ⟨some 59, .ext (.t 54) 1, none⟩, ⟨some 13, .zero (.agg #[.int .i64 0, .int .i64 0, .int .i64 0, .string ⟨#[]⟩, .slice none 0 0, .int .i64 0, .int .i64 0, .int .i64 0, .string ⟨#[]⟩, .slice none 0 0, .slice none 0 0, .int .i64 0, .int .i64 0, .string ⟨#[]⟩, .int .i64 0, .int .i64 0, .int .i64 0, .int .i64 0, .int .i64 0]), none⟩, ⟨none, .st 19 (.t 13) (.t 58), none⟩, ⟨some 14, .mv (.t 59), none⟩]) (.seq (.reg [⟨some 61, .mv (.t 2), none⟩, ⟨some 62, .mv (.t 2), none⟩, ⟨some 63, .len true (.t 62), none⟩, ⟨some 64, .bin .sub (.t 63) (.c (.int .i64 1)), none⟩, ⟨some 65, .slS (.t 61) none (some (.t 64)), none⟩, ⟨some 66, .call 17 [.t 65], none⟩, ⟨some 60, .mv (.t 66), none⟩, ⟨some 67, .ext (.t 60) 0, none⟩, ⟨some 68, .ext (.t 60) 1, none⟩, ⟨some 15, .zero (.agg #[.int .i64 0, .int .i64 0, .int .i64 0, .string ⟨#[]⟩, .slice none 0 0, .int .i64 0, .int .i64 0, .int .i64 0, .string ⟨#[]⟩, .slice none 0 0, .slice none 0 0, .int .i64 0, .int .i64 0, .string ⟨#[]⟩, .int .i64 0, .int .i64 0, .int .i64 0, .int .i64 0, .int .i64 0]), none⟩, ⟨none, .st 19 (.t 15) (.t 67), none⟩, ⟨some 16, .mv (.t 68), none⟩]) (.seq (.reg [⟨some 69, .mv (.t 12), none⟩, ⟨some 70, .bin .eql (.t 69) (.c (.int .i64 3)), none⟩, ⟨some 71, .mv (.t 70), none⟩, ⟨some 72, .mv (.t 14), some (71, true)⟩, ⟨some 73, .bin .eql (.t 72) (.c (.int .i64 3)), some (71, true)⟩, ⟨some 74, .pick (.t 71) (.t 73) (.c (.bool false)), none⟩, ⟨some 75, .mv (.t 74), none⟩, ⟨some 76, .mv (.t 16), some (75, true)⟩, ⟨some 77, .bin .eql (.t 76) (.c (.int .i64 3)), some (75, true)⟩, ⟨some 78, .pick (.t 75) (.t 77) (.c (.bool false)), none⟩, ⟨some 79, .mv (.t 78), none⟩, ⟨some 80, .pick (.t 79) (.c (.bool true)) (.c (.bool false)), none⟩, ⟨some 81, .mv (.t 80), none⟩, ⟨some 82, .call 24 [], some (81, true)⟩, ⟨some 83, .pick (.t 81) (.t 82) (.c (.bool false)), none⟩, ⟨some 6, .mv (.t 83), none⟩]) .ret)))))))))⟩
theorem e7 : cfun Tryz.prog 7 = some c7 := by kernel_rfl
end Go.Proofs.YtlbodfkhenkcjaaGreatDoor.X


namespace Go.Proofs.YtlbodfkhenkcjaaGreatDoor.X
open Go Go.Proofs Go.RowKit Go.Proofs.YtlbodfkhenkcjaaGreatDoor.D
set_option maxRecDepth 100000
set_option maxHeartbeats 8000000
set_option linter.unusedVariables false
set_option linter.unusedSimpArgs false

theorem frz_put {l : List ByteArray} {k t : Nat} {s : ByteArray} {env : List (Nat × DV)} {rest : List (List DV)} {ow : List Nat} (hk : k < l.length) :
    frzOk 0 1 (strsL (l.set k s)) ⟨env, ((strsL l ++ List.replicate t DV.u).take (k * 1) ++ [SV s] ++ (strsL l ++ List.replicate t DV.u).drop (k * 1 + 1)) :: rest, ow⟩ := by
  have hf := strsL_flat (l.set k s)
  have hlen := strs_len (l.set k s)
  have hl := strs_len l
  have e : (strsL l ++ List.replicate t DV.u).take (k * 1) ++ [SV s] ++ (strsL l ++ List.replicate t DV.u).drop (k * 1 + 1) = strsL (l.set k s) ++ List.replicate t DV.u := by
    have e1 : strsL (l.set k s) = (strsL l).set k (SV s) := by unfold strsL; rw [List.map_set]
    rw [e1, Nat.mul_one, List.take_append_of_le_length (by omega), List.drop_append_of_le_length (by omega), List.set_eq_take_append_cons_drop, if_pos (by omega)]
    simp
  refine ⟨_, rfl, ?_, ?_, ?_, ?_, ?_⟩
  · rw [e]
    rw [List.isEmpty_eq_false_iff]
    intro h
    have := congrArg List.length h
    rw [List.length_append, hlen, List.length_set, List.length_nil] at this
    omega
  · intro d hd
    obtain ⟨x, _, rfl⟩ := List.mem_map.1 hd
    rfl
  · rw [hf]
    refine List.all_eq_true.2 fun d hd => ?_
    obtain ⟨x, _, rfl⟩ := List.mem_map.1 hd
    rfl
  · rw [hf, e, List.length_append]
    omega
  · rw [hf, e]
    exact List.take_left
theorem rowsL_of {k sz n : Nat} : ∀ {cs : List DV}, (∀ d ∈ cs, rowP k sz n d) → rowsL k sz n cs
  | [], _ => trivial
  | d :: r, h => ⟨h d (by simp), rowsL_of fun c hc => h c (by simp [hc])⟩
theorem rows_put {l : List ByteArray} {i j t n : Nat} {s : ByteArray} : rowsL 0 1 n ((strsL l ++ List.replicate t DV.u).take i ++ [SV s] ++ (strsL l ++ List.replicate t DV.u).drop j) := by
  have h0 : ∀ d ∈ strsL l ++ List.replicate t DV.u, rowP 0 1 n d := by
    intro d hd
    rcases List.mem_append.1 hd with hd | hd
    · obtain ⟨x, _, rfl⟩ := List.mem_map.1 hd
      trivial
    · rw [(List.mem_replicate.1 hd).2]
      trivial
  refine rowsL_of fun d hd => ?_
  rcases List.mem_append.1 hd with hd | hd
  · rcases List.mem_append.1 hd with hd | hd
    · exact h0 d (List.mem_of_mem_take hd)
    · rw [List.mem_singleton.1 hd]
      trivial
  · exact h0 d (List.mem_of_mem_drop hd)
theorem strAt_set {l : List ByteArray} {k : Int} {s : ByteArray} (h0 : 0 ≤ k) (h1 : k.toNat < l.length) : strAt (l.set k.toNat s) k = s := by
  unfold strAt
  rw [List.getElem?_set, if_pos rfl, if_pos h1]
  rfl
attribute [local irreducible] D.DPure D.DEff D.callable decM decE atM atE svL ByteArray.extract ByteArray.append

def c5 : DFun := ⟨111, [.t 6], .seq (.reg [⟨some 6, .mv (.c (.bool false)), none⟩]) (.seq (.xreg [.op ⟨some 15, .mv (.t 0), none⟩, .sp (some 16) (.callr 9 [.t 15]), .op ⟨some 0, .mv (.t 16), none⟩]) (.seq (.reg [⟨some 17, .mv (.t 1), none⟩, ⟨some 18, .mv (.t 1), none⟩, ⟨some 19, .len true (.t 18), none⟩, ⟨some 20, .mm false (.t 19) [.c (.int .i64 1100)], none⟩, ⟨some 21, .slS (.t 17) none (some (.t 20)), none⟩, ⟨some 1, .mv (.t 21), none⟩]) (.seq (.seq (.reg [⟨some 22, .mv (.t 0), none⟩, ⟨some 23, .len false (.t 22), none⟩, ⟨some 24, .bin .eql (.t 23) (.c (.int .i64 0)), none⟩]) (.cond (.t 24) (.seq (.reg [⟨some 25, .mv (.t 0), none⟩, ⟨some 26, .call 15 [.t 25], none⟩, ⟨some 27, .len false (.t 26), none⟩, ⟨some 28, .bin .eql (.t 27) (.c (.int .i64 0)), none⟩, ⟨some 29, .mv (.t 28), none⟩, ⟨some 30, .call 24 [], some (29, true)⟩, ⟨some 31, .pick (.t 29) (.t 30) (.c (.bool false)), none⟩, ⟨some 6, .mv (.t 31), none⟩]) .ret) .skip)) (.seq (.reg [⟨some 32, .mv (.t 2), none⟩, ⟨some 33, .cvt .i64 (.t 32), none⟩, ⟨some 34, .mv (.t 0), none⟩, ⟨some 35, .len false (.t 34), none⟩, ⟨some 36, .bin .rem (.t 33) (.t 35), none⟩, ⟨some 7, .mv (.t 36), none⟩]) (.seq (.seq (.reg [⟨some 37, .mv (.t 0), none⟩, ⟨some 38, .mv (.t 7), none⟩, ⟨some 39, .mv (.t 1), none⟩, ⟨some 40, .ixa 1 (.t 37) (.t 38), none⟩, ⟨none, .st 1 (.t 40) (.t 39), none⟩]) .gh) (.seq (.reg [⟨some 42, .mv (.t 1), none⟩, ⟨some 43, .call 17 [.t 42], none⟩, ⟨some 41, .mv (.t 43), none⟩, ⟨some 44, .ext (.t 41) 0, none⟩, ⟨some 45, .ext (.t 41) 1, none⟩, ⟨some 8, .zero (.agg #[.int .i64 0, .int .i64 0, .int .i64 0, .string ⟨#[]⟩, .slice none 0 0, .int .i64 0, .int .i64 0, .int .i64 0, .string ⟨#[]⟩, .slice none 0 0, .slice none 0 0, .int .i64 0, .int .i64 0, .string ⟨#[]⟩, .int .i64 0, .int .i64 0, .int .i64 0, .int .i64 0, .int .i64 0]), none⟩, ⟨none, .st 19 (.t 8) (.t 44), none⟩, ⟨some 9, .mv (.t 45), none⟩]) (.seq (.reg [⟨some 47, .mv (.t 0), none⟩, ⟨some 48, .mv (.t 7), none⟩, ⟨some 49, .call 10 [.t 47, .t 48], none⟩, ⟨some 46, .mv (.t 49), none⟩, ⟨some 50, .ext (.t 46) 0, none⟩, ⟨some 51, .ext (.t 46) 1, none⟩, ⟨some 10, .zero (.agg #[.int .i64 0, .int .i64 0, .int .i64 0, .string ⟨#[]⟩, .slice none 0 0, .int .i64 0, .int .i64 0, .int .i64 0, .string ⟨#[]⟩, .slice none 0 0, .slice none 0 0, .int .i64 0, .int .i64 0, .string ⟨#[]⟩, .int .i64 0, .int .i64 0, .int .i64 0, .int .i64 0, .int .i64 0]), none⟩, ⟨none, .st 19 (.t 10) (.t 50), none⟩, ⟨some 11, .mv (.t 51), none⟩]) (.seq (.reg [⟨some 52, .mv (.t 9), none⟩, ⟨some 53, .bin .eql (.t 52) (.c (.int .i64 0)), none⟩, ⟨some 54, .mv (.t 53), none⟩, ⟨some 55, .ld 19 true (.t 8), some (54, true)⟩, ⟨some 56, .call 19 [.t 55], some (54, true)⟩, ⟨some 57, .mv (.t 7), some (54, true)⟩, ⟨some 58, .bin .eql (.t 56) (.t 57), some (54, true)⟩, ⟨some 59, .pick (.t 54) (.t 58) (.c (.bool false)), none⟩, ⟨some 12, .mv (.t 59), none⟩]) (.seq (.seq (.reg [⟨some 60, .mv (.t 11), none⟩, ⟨some 61, .bin .eql (.t 60) (.c (.int .i64 0)), none⟩, ⟨some 62, .mv (.t 12), none⟩, ⟨some 63, .beq true (.t 61) (.t 62), none⟩, ⟨some 64, .mv (.t 63), none⟩, ⟨some 65, .mv (.t 12), some (64, false)⟩, ⟨some 66, .mv (.t 65), some (64, false)⟩, ⟨some 67, .ld 19 true (.t 8), some (66, true)⟩, ⟨some 68, .ld 19 true (.t 10), some (66, true)⟩, ⟨some 69, .call 23 [.t 67, .t 68], some (66, true)⟩, ⟨some 70, .un .not (.t 69), some (66, true)⟩, ⟨some 71, .pick (.t 66) (.t 70) (.c (.bool false)), some (64, false)⟩, ⟨some 72, .pick (.t 64) (.c (.bool true)) (.t 71), none⟩, ⟨some 73, .mv (.t 72), none⟩, ⟨some 74, .mv (.t 12), some (73, false)⟩, ⟨some 75, .un .not (.t 74), some (73, false)⟩, ⟨some 76, .mv (.t 75), some (73, false)⟩, ⟨some 77, .ld 19 true (.t 10), some (76, true)⟩, ⟨some 78, .bld [.int .i64 0, .int .i64 0, .int .i64 0, .string ⟨#[]⟩, .slice none 0 0, .int .i64 0, .int .i64 0, .int .i64 0, .string ⟨#[]⟩, .slice none 0 0, .slice none 0 0, .int .i64 0, .int .i64 0, .string ⟨#[]⟩, .int .i64 0, .int .i64 0, .int .i64 0, .int .i64 0, .int .i64 0] [], some (76, true)⟩, ⟨some 79, .call 23 [.t 77, .t 78], some (76, true)⟩, ⟨some 80, .un .not (.t 79), some (76, true)⟩, ⟨some 81, .pick (.t 76) (.t 80) (.c (.bool false)), some (73, false)⟩, ⟨some 82, .pick (.t 73) (.c (.bool true)) (.t 81), none⟩]) (.cond (.t 82) (.seq (.reg [⟨some 6, .mv (.c (.bool false)), none⟩]) .ret) .skip)) (.seq (.reg [⟨some 83, .mv (.t 0), none⟩, ⟨some 84, .call 15 [.t 83], none⟩, ⟨some 13, .mv (.t 84), none⟩]) (.seq (.seq (.reg [⟨some 85, .mv (.t 13), none⟩, ⟨some 86, .len false (.t 85), none⟩, ⟨some 87, .mv (.t 0), none⟩, ⟨some 88, .len false (.t 87), none⟩, ⟨some 89, .bin .neq (.t 86) (.t 88), none⟩, ⟨some 90, .mv (.t 89), none⟩, ⟨some 91, .mv (.t 13), some (90, false)⟩, ⟨some 92, .mv (.t 7), some (90, false)⟩, ⟨some 93, .ixa 1 (.t 91) (.t 92), some (90, false)⟩, ⟨some 94, .ld 1 false (.t 93), some (90, false)⟩, ⟨some 95, .bin .neq (.t 94) (.c (.int .i64 0)), some (90, false)⟩, ⟨some 96, .mv (.t 12), some (90, false)⟩, ⟨some 97, .beq true (.t 95) (.t 96), some (90, false)⟩, ⟨some 98, .pick (.t 90) (.c (.bool true)) (.t 97), none⟩]) (.cond (.t 98) (.seq (.reg [⟨some 6, .mv (.c (.bool false)), none⟩]) .ret) .skip)) (.seq (.seq (.reg [⟨some 14, .mv (.c (.int .i64 1)), none⟩]) (.block 0 (.loop (.seq (.seq (.reg [⟨some 99, .mv (.t 14), none⟩, ⟨some 100, .mv (.t 13), none⟩, ⟨some 101, .len false (.t 100), none⟩, ⟨some 102, .bin .lss (.t 99) (.t 101), none⟩]) (.cond (.t 102) .skip (.exit 0))) (.seq (.block 1 (.seq (.reg [⟨some 105, .mv (.t 13), none⟩, ⟨some 106, .mv (.t 14), none⟩, ⟨some 107, .ixa 1 (.t 105) (.t 106), none⟩, ⟨some 108, .ld 1 false (.t 107), none⟩, ⟨some 109, .bin .eql (.t 108) (.c (.int .i64 1)), none⟩]) (.cond (.t 109) (.seq (.reg [⟨some 6, .mv (.c (.bool false)), none⟩]) .ret) .skip))) (.reg [⟨some 103, .mv (.t 14), none⟩, ⟨some 104, .bin .add (.t 103) (.c (.int .i64 1)), none⟩, ⟨some 14, .mv (.t 104), none⟩])))))) (.seq (.reg [⟨some 110, .call 24 [], none⟩, ⟨some 6, .mv (.t 110), none⟩]) .ret)))))))))))))⟩
theorem e5 : cfun Tryz.prog 5 = some c5 := by kernel_rfl
theorem mv_D0 (l : List ByteArray) (s : ByteArray) (a : Int) (X Y : PageM) (e f x q : Int) (ks : List Int) (ha : 0 ≤ a ∧ a ≤ 255) (hne : 0 < (cutL l).length)
    (hk0 : 0 ≤ a % ((strsL (cutL l)).length : Int)) (hk1 : a % ((strsL (cutL l)).length : Int) < ((strsL (cutL l)).length : Int))
    (hc : (e = 0 ∧ x = a % ((strsL (cutL l)).length : Int) ∧ f = 0 ∧ q ≠ 0) ∨ (e = 0 ∧ x ≠ a % ((strsL (cutL l)).length : Int) ∧ f = 3 ∧ q = 0) ∨ (e = 3 ∧ f = 3 ∧ q = 0))
    (hks : ks.length = (cutL l).length) (hq : (ks.map fun n => VN .i64 n)[(a % ((strsL (cutL l)).length : Int)).toNat]? = some (VN .i64 q)) (h1s : ∀ i (h : i < ks.length), 1 ≤ i → ks[i] ≠ 1)
    (d0 : DPure Tp GI 17 [SV (cutE s)] (.tup [pageT X, VN .i64 e]))
    (d1 : DPure Tp GI 10 [.list 1 (strsL ((cutL l).set (a % ((strsL (cutL l)).length : Int)).toNat (cutE s))), VN .i64 (a % ((strsL (cutL l)).length : Int))] (.tup [pageT Y, VN .i64 f]))
    (d2 : DPure Tp GI 19 [pageT X] (VN .i64 x))
    (d3 : f = 0 → DPure Tp GI 23 [pageT X, pageT Y] (BV true))
    (d4 : f = 3 → DPure Tp GI 23 [pageT Y, .v (.agg #[.int .i64 0, .int .i64 0, .int .i64 0, .string nilS, .slice none 0 0, .int .i64 0, .int .i64 0, .int .i64 0, .string nilS, .slice none 0 0, .slice none 0 0, .int .i64 0, .int .i64 0, .string nilS, .int .i64 0, .int .i64 0, .int .i64 0, .int .i64 0, .int .i64 0])] (BV true))
    (d5 : DPure Tp GI 15 [.list 1 (strsL ((cutL l).set (a % ((strsL (cutL l)).length : Int)).toNat (cutE s)))] (ints ks))
    (d7 : DPure Tp GI 24 [] (BV true)) :
    DPure Tp GI 5 [.list 1 (strsL l), SV s, VN .u8 a] (BV true) := by
  have dc := cut_own (I := GI) l
  have hsl := strs_len (cutL l)
  have hne' : (strsL (cutL l)).isEmpty = false := by
    rw [List.isEmpty_eq_false_iff]
    intro h
    have := congrArg List.length h
    rw [hsl, List.length_nil] at this
    omega
  have hkl := ints_len ks
  have hcl := cutL_len l
  have hkk : (a % ((strsL (cutL l)).length : Int)).toNat < (strsL (cutL l)).length := by omega
  have hkc : (a % ((strsL (cutL l)).length : Int)).toNat < (cutL l).length := by omega
  have hpl : plainC (strsL (cutL l)) = true := List.all_eq_true.2 fun d hd => by obtain ⟨x, _, rfl⟩ := List.mem_map.1 hd; rfl
  have hml : (strsL (cutL l)).length = (strsL ((cutL l).set (a % ((strsL (cutL l)).length : Int)).toNat (cutE s))).length := by rw [strs_len, strs_len, List.length_set]
  rcases hc with ⟨rfl, hx, rfl, hq0⟩ | ⟨rfl, hx, rfl, hq0⟩ | ⟨rfl, rfl, hq0⟩
  · replace d3 := d3 rfl
    clear d4
    refine z_pure (e0 := ?e0x1) mix e5 rfl ?z01 ?_
    (case z01 => exact rfl)
    dsimp only [c5]
    repeat' (first | ((with_reducible apply z_xown dc); (case hw => exact wknL_ok rfl); (case hne => exact hne'); (case hp => exact hpl); (case hcs => exact strsL_flat _); (case hq => exact rfl); (case' hk => intro t)) | with_reducible refine s_rem (by omega) (by omega) ?_ | ((with_reducible apply z_call); (case' hd => apply d0); (case hw => exact wknL_ok rfl); (try any_goals exact sd)) | ((with_reducible apply z_call); (case' hd => apply d1); (case hw => exact wknL_ok rfl); (try any_goals exact sd)) | ((with_reducible apply z_call); (case' hd => apply d2); (case hw => exact wknL_ok rfl); (try any_goals exact sd)) | ((with_reducible apply z_call); (case' hd => apply d3); (case hw => exact wknL_ok rfl); (try any_goals exact sd)) | ((with_reducible apply z_call); (case' hd => apply d5); (case hw => exact wknL_ok rfl); (try any_goals exact sd)) | ((with_reducible apply z_call); (case' hd => apply d7); (case hw => exact wknL_ok rfl); (try any_goals exact sd)) | ((with_reducible apply z_st1); (case ha | hcs => exact rfl); (case hx | hv | ho => exact rfl); (case hb => rw [List.length_append]; omega); (case hl => exact rfl)) | ((with_reducible apply z_ghf 0 1 (strsL (cutL l)).length (strsL ((cutL l).set (a % ((strsL (cutL l)).length : Int)).toNat (cutE s)))); (case h1 => exact frz_put hkc); (case h2 => exact hml); (case h3 => repeat' (first | exact trivial | exact ⟨rfl, rfl⟩ | refine And.intro ?_ ?_)); (case h4 => exact ⟨rows_put, trivial⟩)) | refine ⟨_, hq, ?_⟩ | refine z1 ?_ | refine Br.mk ?_ ?_ | intro _ | refine zf ?_ | fail)
    refine z_loop (fun i : Nat => ⟨[(13, ints ks), (14, VN .i64 i)], [], []⟩) (fun i : Nat => 1 ≤ i ∧ i ≤ ks.length) (fun i : Nat => ks.length - i) (1) ?_ ?_ fun i hi => ?_
    · exact (less_of 0 0 0 rfl rfl (lessE_cons (ltd_eq rfl (by kernel_rfl)) (lessE_cons (ltd_eq rfl (by kernel_rfl)) lessE_nil)) (by kernel_rfl) (by kernel_rfl) (by kernel_rfl) (by kernel_rfl))
    · exact ⟨Nat.le_refl _, by omega⟩
    by_cases hil : i < ks.length
    · have hn1 := h1s i hil hi.1
      repeat' (first | refine ⟨_, ints_get hil, ?_⟩ | refine z1 ?_ | refine Br.mk ?_ ?_ | intro _ | refine zf ?_ | fail)
      exact ⟨i + 1, (less_of 0 0 0 rfl rfl (lessE_cons (ltd_eq rfl (by kernel_rfl)) (lessE_cons (ltd_eq rfl (by kernel_rfl)) lessE_nil)) (by kernel_rfl) (by kernel_rfl) (by kernel_rfl) (by kernel_rfl)), ⟨by omega, hil⟩, by omega⟩
    · repeat' (first | ((with_reducible apply z_call); (case' hd => apply d7); (case hw => exact wknL_ok rfl); (try any_goals exact sd)) | refine zs ?_ | refine Br.mk ?_ ?_ | intro _ | refine zf ?_ | fail)
      exact wkn_ok (by kernel_rfl)
  · replace d4 := d4 rfl
    clear d3
    refine z_pure (e0 := ?e0x2) mix e5 rfl ?z02 ?_
    (case z02 => exact rfl)
    dsimp only [c5]
    repeat' (first | ((with_reducible apply z_xown dc); (case hw => exact wknL_ok rfl); (case hne => exact hne'); (case hp => exact hpl); (case hcs => exact strsL_flat _); (case hq => exact rfl); (case' hk => intro t)) | with_reducible refine s_rem (by omega) (by omega) ?_ | ((with_reducible apply z_call); (case' hd => apply d0); (case hw => exact wknL_ok rfl); (try any_goals exact sd)) | ((with_reducible apply z_call); (case' hd => apply d1); (case hw => exact wknL_ok rfl); (try any_goals exact sd)) | ((with_reducible apply z_call); (case' hd => apply d2); (case hw => exact wknL_ok rfl); (try any_goals exact sd)) | ((with_reducible apply z_call); (case' hd => apply d4); (case hw => exact wknL_ok rfl); (try any_goals exact sd)) | ((with_reducible apply z_call); (case' hd => apply d5); (case hw => exact wknL_ok rfl); (try any_goals exact sd)) | ((with_reducible apply z_call); (case' hd => apply d7); (case hw => exact wknL_ok rfl); (try any_goals exact sd)) | ((with_reducible apply z_st1); (case ha | hcs => exact rfl); (case hx | hv | ho => exact rfl); (case hb => rw [List.length_append]; omega); (case hl => exact rfl)) | ((with_reducible apply z_ghf 0 1 (strsL (cutL l)).length (strsL ((cutL l).set (a % ((strsL (cutL l)).length : Int)).toNat (cutE s)))); (case h1 => exact frz_put hkc); (case h2 => exact hml); (case h3 => repeat' (first | exact trivial | exact ⟨rfl, rfl⟩ | refine And.intro ?_ ?_)); (case h4 => exact ⟨rows_put, trivial⟩)) | refine ⟨_, hq, ?_⟩ | refine z1 ?_ | refine Br.mk ?_ ?_ | intro _ | refine zf ?_ | fail)
    refine z_loop (fun i : Nat => ⟨[(13, ints ks), (14, VN .i64 i)], [], []⟩) (fun i : Nat => 1 ≤ i ∧ i ≤ ks.length) (fun i : Nat => ks.length - i) (1) ?_ ?_ fun i hi => ?_
    · exact (less_of 0 0 0 rfl rfl (lessE_cons (ltd_eq rfl (by kernel_rfl)) (lessE_cons (ltd_eq rfl (by kernel_rfl)) lessE_nil)) (by kernel_rfl) (by kernel_rfl) (by kernel_rfl) (by kernel_rfl))
    · exact ⟨Nat.le_refl _, by omega⟩
    by_cases hil : i < ks.length
    · have hn1 := h1s i hil hi.1
      repeat' (first | refine ⟨_, ints_get hil, ?_⟩ | refine z1 ?_ | refine Br.mk ?_ ?_ | intro _ | refine zf ?_ | fail)
      exact ⟨i + 1, (less_of 0 0 0 rfl rfl (lessE_cons (ltd_eq rfl (by kernel_rfl)) (lessE_cons (ltd_eq rfl (by kernel_rfl)) lessE_nil)) (by kernel_rfl) (by kernel_rfl) (by kernel_rfl) (by kernel_rfl)), ⟨by omega, hil⟩, by omega⟩
    · repeat' (first | ((with_reducible apply z_call); (case' hd => apply d7); (case hw => exact wknL_ok rfl); (try any_goals exact sd)) | refine zs ?_ | refine Br.mk ?_ ?_ | intro _ | refine zf ?_ | fail)
      exact wkn_ok (by kernel_rfl)
  · replace d4 := d4 rfl
    clear d3 d2
    refine z_pure (e0 := ?e0x3) mix e5 rfl ?z03 ?_
    (case z03 => exact rfl)
    dsimp only [c5]
    repeat' (first | ((with_reducible apply z_xown dc); (case hw => exact wknL_ok rfl); (case hne => exact hne'); (case hp => exact hpl); (case hcs => exact strsL_flat _); (case hq => exact rfl); (case' hk => intro t)) | with_reducible refine s_rem (by omega) (by omega) ?_ | ((with_reducible apply z_call); (case' hd => apply d0); (case hw => exact wknL_ok rfl); (try any_goals exact sd)) | ((with_reducible apply z_call); (case' hd => apply d1); (case hw => exact wknL_ok rfl); (try any_goals exact sd)) | ((with_reducible apply z_call); (case' hd => apply d4); (case hw => exact wknL_ok rfl); (try any_goals exact sd)) | ((with_reducible apply z_call); (case' hd => apply d5); (case hw => exact wknL_ok rfl); (try any_goals exact sd)) | ((with_reducible apply z_call); (case' hd => apply d7); (case hw => exact wknL_ok rfl); (try any_goals exact sd)) | ((with_reducible apply z_st1); (case ha | hcs => exact rfl); (case hx | hv | ho => exact rfl); (case hb => rw [List.length_append]; omega); (case hl => exact rfl)) | ((with_reducible apply z_ghf 0 1 (strsL (cutL l)).length (strsL ((cutL l).set (a % ((strsL (cutL l)).length : Int)).toNat (cutE s)))); (case h1 => exact frz_put hkc); (case h2 => exact hml); (case h3 => repeat' (first | exact trivial | exact ⟨rfl, rfl⟩ | refine And.intro ?_ ?_)); (case h4 => exact ⟨rows_put, trivial⟩)) | refine ⟨_, hq, ?_⟩ | refine z1 ?_ | refine Br.mk ?_ ?_ | intro _ | refine zf ?_ | fail)
    refine z_loop (fun i : Nat => ⟨[(13, ints ks), (14, VN .i64 i)], [], []⟩) (fun i : Nat => 1 ≤ i ∧ i ≤ ks.length) (fun i : Nat => ks.length - i) (1) ?_ ?_ fun i hi => ?_
    · exact (less_of 0 0 0 rfl rfl (lessE_cons (ltd_eq rfl (by kernel_rfl)) (lessE_cons (ltd_eq rfl (by kernel_rfl)) lessE_nil)) (by kernel_rfl) (by kernel_rfl) (by kernel_rfl) (by kernel_rfl))
    · exact ⟨Nat.le_refl _, by omega⟩
    by_cases hil : i < ks.length
    · have hn1 := h1s i hil hi.1
      repeat' (first | refine ⟨_, ints_get hil, ?_⟩ | refine z1 ?_ | refine Br.mk ?_ ?_ | intro _ | refine zf ?_ | fail)
      exact ⟨i + 1, (less_of 0 0 0 rfl rfl (lessE_cons (ltd_eq rfl (by kernel_rfl)) (lessE_cons (ltd_eq rfl (by kernel_rfl)) lessE_nil)) (by kernel_rfl) (by kernel_rfl) (by kernel_rfl) (by kernel_rfl)), ⟨by omega, hil⟩, by omega⟩
    · repeat' (first | ((with_reducible apply z_call); (case' hd => apply d7); (case hw => exact wknL_ok rfl); (try any_goals exact sd)) | refine zs ?_ | refine Br.mk ?_ ?_ | intro _ | refine zf ?_ | fail)
      exact wkn_ok (by kernel_rfl)
theorem mv_D1 (l : List ByteArray) (s : ByteArray) (a : Int) (h0 : cutL l = []) (ha : 0 ≤ a ∧ a ≤ 255) (d5 : DPure Tp GI 15 [.list 1 []] (ints [])) (d7 : DPure Tp GI 24 [] (BV true)) :
    DPure Tp GI 5 [.list 1 (strsL l), SV s, VN .u8 a] (BV true) := by
  have dc := down_pure (cut_own (I := GI) l)
  rw [h0] at dc
  replace dc : DPure Tp GI 9 [.list 1 (strsL l)] (.list 1 []) := dc
  refine z_pure (e0 := ?e0x4) mix e5 rfl ?z04 ?_
  (case z04 => exact rfl)
  dsimp only [c5]
  repeat' (first | with_reducible refine z_xcall ?_ | ((with_reducible apply z_call); (case' hd => apply dc); (case hw => exact wknL_ok rfl); (try any_goals exact sd)) | ((with_reducible apply z_call); (case' hd => apply d5); (case hw => exact wknL_ok rfl); (try any_goals exact sd)) | ((with_reducible apply z_call); (case' hd => apply d7); (case hw => exact wknL_ok rfl); (try any_goals exact sd)) | refine z1 ?_ | refine Br.mk ?_ ?_ | intro _ | refine zf ?_ | fail)
  all_goals first
    | exact absurd rfl ‹¬ ((List.length _ : Nat) : Int) = 0›
    | exact wkn_ok (by kernel_rfl)
theorem sv_get {l : List ByteArray} {i : Nat} (h : i < (svL l).length) : (svL l)[i] = (atM l i).kind := by
  simp [svL]
theorem sv_len (l : List ByteArray) : (svL l).length = l.length := by simp [svL]
end Go.Proofs.YtlbodfkhenkcjaaGreatDoor.X


namespace Go.Proofs.YtlbodfkhenkcjaaGreatDoor.X
open Go Go.Proofs Go.RowKit Go.Proofs.YtlbodfkhenkcjaaGreatDoor.D
set_option maxRecDepth 100000
set_option linter.unusedVariables false
set_option linter.unusedSimpArgs false

theorem cell_spot {W : World} {a : Addr} {x : Value} (h : W.cell? a = some x) : a = ⟨a.block, a.off, none⟩ := by
  obtain ⟨b, o, s⟩ := a
  unfold World.cell? at h
  dsimp only at h ⊢
  split at h
  · cases s with
    | none => rfl
    | some s => simp at h
  · cases h
theorem open_strs {H : Type} {enc : TypeId × Value → H} {W : World} {base : Nat} {spare : Nat → Bool} {held : Bool} {t e : TypeId} {v : Value} {d : DataW H} {ps : List MemPlace}
    (hu : Tp.underlying t = some (.slice e)) (he : Tp.underlying e = some .string) (hc : Tp.cellsOf e = 1) (hv : ∃ a n c, v = .slice a n c) (h : DataW.Trod enc Tp W base spare held t v d ps) :
    ∃ l : List ByteArray, Rep (fun _ _ => True) W noLink (.list 1 (strsL l)) v := by
  obtain ⟨a0, n0, c0, rfl⟩ := hv
  obtain ⟨fuel, hf⟩ := h
  rcases Go.ChangeShapes.open_strings hu he hc hf with ⟨hcs, _⟩ | ⟨a, len, cap, ss, hcs, _, hl, hm, hss, _, hcell, _⟩
  · simp [Value.cells] at hcs
    obtain ⟨rfl, rfl, rfl⟩ := hcs
    exact ⟨[], .list _ 1 [] [] none 0 0 0 0 ⟨rfl, Nat.le_refl _⟩ (by simp) (by simp) (by simp) rfl (by simp) (by simp)⟩
  · simp [Value.cells] at hcs
    obtain ⟨rfl, rfl, rfl⟩ := hcs
    have hls : n0 ≤ ss.length := by rw [hss]; split <;> omega
    have hlen : (ss.take n0).length = n0 := by rw [List.length_take]; omega
    have hflat := strsL_flat (ss.take n0)
    have hsl := strs_len (ss.take n0)
    have hget : ∀ j, j < n0 → W.cell? (a.add j) = some (.string ((ss.take n0).getD j ByteArray.empty)) := by
      intro j hj
      rw [hcell j (by omega)]
      congr 2
      simp only [List.getD_eq_getElem?_getD]
      rw [List.getElem?_take, if_pos hj]
    have hadd : ∀ j, j < n0 → a.add j = ⟨a.block, a.off + j, none⟩ := by
      intro j hj
      have := cell_spot (hget j hj)
      unfold Addr.add at this ⊢
      split
      · rename_i h0
        subst h0
        rw [if_pos rfl] at this
        rw [this]
        simp
      · rfl
    refine ⟨ss.take n0, .list _ 1 (strsL (ss.take n0)) ((ss.take n0).map .string) (some a) n0 c0 a.block a.off ⟨by rw [hsl, hlen], hl⟩ ?_ ?_ ?_ ?_ ?_ ?_⟩
    · intro d hd
      obtain ⟨x, _, rfl⟩ := List.mem_map.1 hd
      rfl
    · rw [hflat]
      intro d hd
      obtain ⟨x, _, rfl⟩ := List.mem_map.1 hd
      rfl
    · intro hne
      have h0 : 0 < n0 := by
        rcases Nat.eq_zero_or_pos n0 with h | h
        · subst h; exact absurd rfl hne
        · exact h
      have := hadd 0 h0
      simp only [Addr.add, if_true, Nat.add_zero] at this
      rw [this]
    · rw [hflat, hsl, List.length_map]
    · intro j y hj
      rw [List.getElem?_map, Option.map_eq_some_iff] at hj
      obtain ⟨x, hx, rfl⟩ := hj
      have hjn : j < n0 := by have := (List.getElem?_eq_some_iff.1 hx).1; omega
      refine ⟨trivial, ?_⟩
      rw [← hadd j hjn, hget j hjn, List.getD_eq_getElem?_getD, hx]
      rfl
    · rw [hflat]
      intro i d y h1 h2
      unfold strsL at h1
      rw [List.getElem?_map, Option.map_eq_some_iff] at h1 h2
      obtain ⟨x, hx, rfl⟩ := h1
      obtain ⟨x', hx', rfl⟩ := h2
      rw [hx] at hx'
      obtain rfl := Option.some.inj hx'
      exact .v _ _
end Go.Proofs.YtlbodfkhenkcjaaGreatDoor.X


namespace Go.Proofs.YtlbodfkhenkcjaaGreatDoor.X
open Go Go.Proofs Go.RowKit Go.Proofs.YtlbodfkhenkcjaaGreatDoor.D
set_option maxRecDepth 100000
set_option maxHeartbeats 2000000
set_option linter.unusedVariables false
set_option linter.unusedSimpArgs false

theorem at_here {l : List ByteArray} {k : Int} {s : ByteArray} (h0 : 0 ≤ k) (h1 : k.toNat < l.length) (hs : strAt l k = s) :
    (decE s = 0 ∧ selfN (decM s) = k ∧ atM l k = decM s ∧ atE l k = 0) ∨ (decE s = 0 ∧ selfN (decM s) ≠ k ∧ atM l k = page0 ∧ atE l k = 3) ∨ (decE s = 3 ∧ atM l k = page0 ∧ atE l k = 3) := by
  have hn : ¬ (k < 0 ∨ (l.length : Int) ≤ k) := by omega
  unfold atM atE
  rw [if_neg hn, if_neg hn, hs]
  rcases decE_is s with h | h
  · by_cases hk : selfN (decM s) = k
    · exact .inl ⟨h, hk, if_pos ⟨h, hk⟩, if_pos ⟨h, hk⟩⟩
    · exact .inr (.inl ⟨h, hk, if_neg fun e => hk e.2, if_neg fun e => hk e.2⟩)
  · have hne : ¬ (decE s = 0 ∧ selfN (decM s) = k) := fun e => by rw [h] at e; exact absurd e.1 (by decide)
    exact .inr (.inr ⟨h, if_neg hne, if_neg hne⟩)
theorem at_kind (l : List ByteArray) (i : Int) (h : 1 ≤ i) : (atM l i).kind ≠ 1 := by
  intro hk
  unfold atM at hk
  split at hk
  · exact absurd hk (by decide)
  · split at hk
    · rename_i hc
      have := hc.2
      unfold selfN at this
      rw [if_neg (by omega), if_neg (by omega), if_neg (by omega)] at this
      omega
    · exact absurd hk (by decide)
theorem dec_kind {s : ByteArray} (h : decE s = 0) : (decM s).kind ≠ 0 := by
  rw [dec_E] at h
  split at h
  · omega
  · assumption
theorem moves_D (l : List ByteArray) (s : ByteArray) (a : Int) (ha : 0 ≤ a ∧ a ≤ 255) : DPure Tp GI 5 [.list 1 (strsL l), SV s, VN .u8 a] (BV true) := by
  by_cases hc : cutL l = []
  · refine mv_D1 l s a hc ha ?_ fixed14_D
    exact survey_D [] (by simp) (by simp)
  have hne : 0 < (cutL l).length := List.length_pos_iff.2 hc
  have hsl := strs_len (cutL l)
  have hcl := cutL_len l
  have hk0 : 0 ≤ a % ((strsL (cutL l)).length : Int) := Int.emod_nonneg _ (by omega)
  have hk1 : a % ((strsL (cutL l)).length : Int) < ((strsL (cutL l)).length : Int) := Int.emod_lt_of_pos _ (by omega)
  obtain ⟨k, hk⟩ : ∃ k, a % ((strsL (cutL l)).length : Int) = k := ⟨_, rfl⟩
  obtain ⟨m, hm⟩ : ∃ m, (cutL l).set k.toNat (cutE s) = m := ⟨_, rfl⟩
  have hml : m.length = (cutL l).length := by rw [← hm, List.length_set]
  have hmi : ∀ t ∈ m, t.size ≤ 1200 := by
    intro t ht
    rw [← hm] at ht
    rcases List.mem_or_eq_of_mem_set ht with h | h
    · have := cutL_in l t h; omega
    · have := cutE_size s; rw [h]; omega
  have hkc : k.toNat < (cutL l).length := by omega
  have hst : strAt m k = cutE s := by rw [← hm]; exact strAt_set (by omega) hkc
  have hcs := cutE_size s
  have d0 := decode_D (cutE s) (by omega)
  have d1 := pat_D m k (by omega) hmi
  have d2 := self_D (I := GI) (decM (cutE s))
  have d5 := survey_D m (by omega) hmi
  have hb := pgB_dec (cutE s) (by omega)
  have q0 : DPure Tp GI 23 [pageT page0, .v (.agg #[.int .i64 0, .int .i64 0, .int .i64 0, .string nilS, .slice none 0 0, .int .i64 0, .int .i64 0, .int .i64 0, .string nilS, .slice none 0 0, .slice none 0 0, .int .i64 0, .int .i64 0, .string nilS, .int .i64 0, .int .i64 0, .int .i64 0, .int .i64 0, .int .i64 0])] (BV true) := by
    have h := psame_D (I := GI) page0 page0 pgB_0 pgB_0
    rw [decide_eq_true rfl] at h
    exact dp_wk h (.cons (wkn_ok rfl) (.cons pgwk .nil))
  have hq : (svL m)[k.toNat]? = some (atM m k).kind := by
    have h1 : k.toNat < (svL m).length := by rw [sv_len]; omega
    rw [List.getElem?_eq_getElem h1, sv_get h1]
    rw [show ((k.toNat : Nat) : Int) = k by omega]
  have hh := at_here (l := m) (k := k) (by omega) (by omega) hst
  have hx : (decE (cutE s) = 0 ∧ selfN (decM (cutE s)) = k ∧ atE m k = 0 ∧ (atM m k).kind ≠ 0) ∨ (decE (cutE s) = 0 ∧ selfN (decM (cutE s)) ≠ k ∧ atE m k = 3 ∧ (atM m k).kind = 0) ∨ (decE (cutE s) = 3 ∧ atE m k = 3 ∧ (atM m k).kind = 0) := by
    rcases hh with ⟨h1, h2, h3, h4⟩ | ⟨h1, h2, h3, h4⟩ | ⟨h1, h3, h4⟩
    · exact .inl ⟨h1, h2, h4, by rw [h3]; exact dec_kind h1⟩
    · exact .inr (.inl ⟨h1, h2, h4, by rw [h3]; rfl⟩)
    · exact .inr (.inr ⟨h1, h4, by rw [h3]; rfl⟩)
  have d3 : atE m k = 0 → DPure Tp GI 23 [pageT (decM (cutE s)), pageT (atM m k)] (BV true) := by
    intro h
    rcases hh with ⟨_, _, h3, _⟩ | ⟨_, _, _, h4⟩ | ⟨_, _, h4⟩
    · rw [h3]
      have h := psame_D (I := GI) (decM (cutE s)) (decM (cutE s)) hb hb
      rwa [decide_eq_true rfl] at h
    · omega
    · omega
  have d4 : atE m k = 3 → DPure Tp GI 23 [pageT (atM m k), .v (.agg #[.int .i64 0, .int .i64 0, .int .i64 0, .string nilS, .slice none 0 0, .int .i64 0, .int .i64 0, .int .i64 0, .string nilS, .slice none 0 0, .slice none 0 0, .int .i64 0, .int .i64 0, .string nilS, .int .i64 0, .int .i64 0, .int .i64 0, .int .i64 0, .int .i64 0])] (BV true) := by
    intro h
    rcases hh with ⟨_, _, _, h4⟩ | ⟨_, _, h3, _⟩ | ⟨_, h3, _⟩
    · omega
    · rw [h3]; exact q0
    · rw [h3]; exact q0
  subst hk
  subst hm
  refine mv_D0 l s a _ _ _ _ _ _ (svL _) ha hne hk0 hk1 hx (by rw [sv_len, List.length_set]) ?_ ?_ d0 d1 d2 d3 d4 d5 fixed14_D
  · rw [List.getElem?_map, hq]; rfl
  · intro i h h1
    rw [sv_get h]
    exact at_kind _ _ (by omega)
theorem moves_W (v : Value) (l : List ByteArray) (s : ByteArray) (a : Int) (W : World) (hv : Rep (fun _ _ => True) W noLink (.list 1 (strsL l)) v) (w : s.size ≤ 140737488351232) (ha : 0 ≤ a ∧ a ≤ 255) (hg : GlobE W) :
    Calls Tp 5 #[v, .string s, .int .u8 a] W fun e W' => e = .returned (.bool true) ∧ Below W.heap.size W W' :=
  law_W (moves_D l s a ha) (fun _ _ => True) W [v, .string s, .int .u8 a] hg (.cons hv (.cons (rep_s _ _ _) (.cons (.v _ _) .nil)))
end Go.Proofs.YtlbodfkhenkcjaaGreatDoor.X

