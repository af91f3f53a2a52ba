/- What functions of the given program compute, step by step: the walks that the law PageOne leans on, part 7. No conditions. -/
import Derived.Test.YtlbodfkhenkcjaaGreatDoorUPageOne05
import Derived.Test.YtlbodfkhenkcjaaGreatDoorUPageOne06
import Derived.Test.YtlbodfkhenkcjaaGreatDoorUPageOne04
namespace Go.Proofs.YtlbodfkhenkcjaaGreatDoor.X
open Go Go.Proofs Go.RowKit Go.Proofs.YtlbodfkhenkcjaaGreatDoor.D
set_option maxRecDepth 100000
set_option maxHeartbeats 1000000
set_option linter.unusedVariables false
set_option linter.unusedSimpArgs false
variable {I : D.Inv}
attribute [local irreducible] D.DPure D.DEff D.callable opH opB opE mayE mayT sealS rdN rdE fourB zeroB

def c63 : DFun := ⟨48, [.t 2], .seq (.reg [⟨some 1, .box (.t 0), none⟩, ⟨some 2, .mv (.c (.bool false)), none⟩]) (.seq (.reg [⟨some 3, .fa 0 (.t 1), none⟩, ⟨some 4, .ld 1 false (.t 3), none⟩, ⟨some 5, .call 67 [.t 4], none⟩, ⟨some 6, .mv (.t 5), none⟩, ⟨some 7, .fa 1 (.t 1), some (6, true)⟩, ⟨some 8, .ld 1 false (.t 7), some (6, true)⟩, ⟨some 9, .bin .geq (.t 8) (.c (.int .i64 2)), some (6, true)⟩, ⟨some 10, .pick (.t 6) (.t 9) (.c (.bool false)), none⟩, ⟨some 11, .mv (.t 10), none⟩, ⟨some 12, .fa 1 (.t 1), some (11, true)⟩, ⟨some 13, .ld 1 false (.t 12), some (11, true)⟩, ⟨some 14, .bin .leq (.t 13) (.c (.int .i64 4096)), some (11, true)⟩, ⟨some 15, .pick (.t 11) (.t 14) (.c (.bool false)), none⟩, ⟨some 16, .mv (.t 15), none⟩, ⟨some 17, .fa 2 (.t 1), some (16, true)⟩, ⟨some 18, .ld 1 false (.t 17), some (16, true)⟩, ⟨some 19, .bin .geq (.t 18) (.c (.int .i64 1)), some (16, true)⟩, ⟨some 20, .pick (.t 16) (.t 19) (.c (.bool false)), none⟩, ⟨some 21, .mv (.t 20), none⟩, ⟨some 22, .fa 2 (.t 1), some (21, true)⟩, ⟨some 23, .ld 1 false (.t 22), some (21, true)⟩, ⟨some 24, .fa 1 (.t 1), some (21, true)⟩, ⟨some 25, .ld 1 false (.t 24), some (21, true)⟩, ⟨some 26, .bin .lss (.t 23) (.t 25), some (21, true)⟩, ⟨some 27, .pick (.t 21) (.t 26) (.c (.bool false)), none⟩, ⟨some 28, .mv (.t 27), none⟩, ⟨some 29, .fa 3 (.t 1), some (28, true)⟩, ⟨some 30, .ld 1 false (.t 29), some (28, true)⟩, ⟨some 31, .bin .geq (.t 30) (.c (.int .i64 0)), some (28, true)⟩, ⟨some 32, .pick (.t 28) (.t 31) (.c (.bool false)), none⟩, ⟨some 33, .mv (.t 32), none⟩, ⟨some 34, .fa 3 (.t 1), some (33, true)⟩, ⟨some 35, .ld 1 false (.t 34), some (33, true)⟩, ⟨some 36, .bin .lss (.t 35) (.c (.int .i64 256)), some (33, true)⟩, ⟨some 37, .pick (.t 33) (.t 36) (.c (.bool false)), none⟩, ⟨some 38, .mv (.t 37), none⟩, ⟨some 39, .fa 4 (.t 1), some (38, true)⟩, ⟨some 40, .ld 1 false (.t 39), some (38, true)⟩, ⟨some 41, .bin .geq (.t 40) (.c (.int .i64 0)), some (38, true)⟩, ⟨some 42, .pick (.t 38) (.t 41) (.c (.bool false)), none⟩, ⟨some 43, .mv (.t 42), none⟩, ⟨some 44, .fa 4 (.t 1), some (43, true)⟩, ⟨some 45, .ld 1 false (.t 44), some (43, true)⟩, ⟨some 46, .bin .leq (.t 45) (.c (.int .i64 2147483647)), some (43, true)⟩, ⟨some 47, .pick (.t 43) (.t 46) (.c (.bool false)), none⟩, ⟨some 2, .mv (.t 47), none⟩]) .ret)⟩
theorem e63 : cfun Tryz.prog 63 = some c63 := by kernel_rfl
def c32 : DFun := ⟨50, [.t 2, .t 3], .seq (.reg [⟨some 1, .box (.t 0), none⟩, ⟨some 2, .mv (.c (.string ⟨#[]⟩)), none⟩, ⟨some 3, .mv (.c (.int .i64 0)), none⟩]) (.seq (.seq (.reg [⟨some 7, .ld 5 true (.t 1), none⟩, ⟨some 8, .call 63 [.t 7], none⟩, ⟨some 9, .un .not (.t 8), none⟩]) (.cond (.t 9) (.seq (.reg [⟨some 2, .mv (.c (.string ⟨#[]⟩)), none⟩, ⟨some 3, .mv (.c (.int .i64 3)), none⟩]) .ret) .skip)) (.seq (.reg [⟨some 4, .mv (.c (.string ⟨#[119, 105, 116, 104, 121]⟩)), none⟩]) (.seq (.seq (.reg [⟨some 10, .fa 0 (.t 1), none⟩, ⟨some 11, .ld 1 false (.t 10), none⟩, ⟨some 12, .fa 1 (.t 1), none⟩, ⟨some 13, .ld 1 false (.t 12), none⟩, ⟨some 14, .fa 4 (.t 1), none⟩, ⟨some 15, .ld 1 false (.t 14), none⟩, ⟨some 16, .bsl 1 [.t 11, .t 13, .t 15], none⟩, ⟨some 17, .len false (.t 16), none⟩, ⟨some 18, .mv (.c (.int .i64 0)), none⟩]) (.block 0 (.loop (.seq (.reg [⟨some 19, .bin .lss (.t 18) (.t 17), none⟩]) (.seq (.cond (.t 19) .skip (.exit 0)) (.seq (.block 1 (.seq (.reg [⟨some 20, .ixa 1 (.t 16) (.t 18), none⟩, ⟨some 21, .ld 1 false (.t 20), none⟩, ⟨some 6, .mv (.t 21), none⟩]) (.reg [⟨some 22, .mv (.t 4), none⟩, ⟨some 23, .mv (.t 6), none⟩, ⟨some 24, .cvt .u32 (.t 23), none⟩, ⟨some 25, .call 64 [.t 24], none⟩, ⟨some 26, .bin .add (.t 22) (.t 25), none⟩, ⟨some 4, .mv (.t 26), none⟩]))) (.reg [⟨some 27, .bin .add (.t 18) (.c (.int .i64 1)), none⟩, ⟨some 18, .mv (.t 27), none⟩]))))))) (.seq (.reg [⟨some 28, .mv (.t 4), none⟩, ⟨some 29, .fa 0 (.t 1), none⟩, ⟨some 30, .ld 1 false (.t 29), none⟩, ⟨some 31, .bin .sub (.t 30) (.c (.int .i64 16)), none⟩, ⟨some 32, .mv (.t 4), none⟩, ⟨some 33, .len true (.t 32), none⟩, ⟨some 34, .bin .sub (.t 31) (.t 33), none⟩, ⟨some 35, .bin .sub (.t 34) (.c (.int .i64 1)), none⟩, ⟨some 36, .call 65 [.c (.string ⟨#[0]⟩), .t 35], none⟩, ⟨some 37, .bin .add (.t 36) (.c (.string ⟨#[87]⟩)), none⟩, ⟨some 38, .bin .add (.t 28) (.t 37), none⟩, ⟨some 4, .mv (.t 38), none⟩]) (.seq (.reg [⟨some 39, .fa 3 (.t 1), none⟩, ⟨some 40, .ld 1 false (.t 39), none⟩, ⟨some 41, .fa 2 (.t 1), none⟩, ⟨some 42, .ld 1 false (.t 41), none⟩, ⟨some 43, .bld [.int .i64 0, .int .i64 0, .int .i64 0, .int .i64 0, .int .i64 0] [(0, 1, .c (.int .i64 1)), (1, 1, .t 40), (3, 1, .t 42)], none⟩, ⟨some 44, .mv (.t 4), none⟩, ⟨some 45, .fa 0 (.t 1), none⟩, ⟨some 46, .ld 1 false (.t 45), none⟩, ⟨some 47, .call 66 [.t 43, .t 44, .t 46], none⟩, ⟨some 48, .ext (.t 47) 0, none⟩, ⟨some 49, .ext (.t 47) 1, none⟩, ⟨some 2, .mv (.t 48), none⟩, ⟨some 3, .mv (.t 49), none⟩]) .ret)))))⟩
theorem e32 : cfun Tryz.prog 32 = some c32 := by kernel_rfl
def c28 : DFun := ⟨72, [.c 2 5 true, .t 3], .seq (.reg [⟨some 2, .zero (.agg #[.int .i64 0, .int .i64 0, .int .i64 0, .int .i64 0, .int .i64 0]), none⟩, ⟨some 3, .mv (.c (.int .i64 0)), none⟩]) (.seq (.reg [⟨some 16, .mv (.t 0), none⟩, ⟨some 17, .call 51 [.t 16], none⟩, ⟨some 15, .mv (.t 17), none⟩, ⟨some 18, .ext (.t 15) 0, none⟩, ⟨some 19, .ext (.t 15) 1, none⟩, ⟨some 20, .ext (.t 15) 2, none⟩, ⟨some 4, .zero (.agg #[.int .i64 0, .int .i64 0, .int .i64 0, .int .i64 0, .int .i64 0]), none⟩, ⟨none, .st 5 (.t 4) (.t 18), none⟩, ⟨some 5, .mv (.t 19), none⟩, ⟨some 6, .mv (.t 20), none⟩]) (.seq (.seq (.reg [⟨some 21, .mv (.t 6), none⟩, ⟨some 22, .bin .neq (.t 21) (.c (.int .i64 0)), none⟩]) (.cond (.t 22) (.seq (.reg [⟨some 23, .bld [.int .i64 0, .int .i64 0, .int .i64 0, .int .i64 0, .int .i64 0] [], none⟩, ⟨none, .st 5 (.t 2) (.t 23), none⟩, ⟨some 3, .mv (.c (.int .i64 3)), none⟩]) .ret) .skip)) (.seq (.reg [⟨some 7, .zero (.agg #[.int .i64 0, .int .i64 0, .int .i64 0]), none⟩]) (.seq (.reg [⟨some 8, .mv (.c (.int .i64 5)), none⟩]) (.seq .skip (.seq (.seq (.reg [⟨some 24, .mv (.c (.int .i64 0)), none⟩]) (.block 0 (.loop (.seq (.reg [⟨some 25, .bin .lss (.t 24) (.c (.int .i64 3)), none⟩]) (.seq (.cond (.t 25) .skip (.exit 0)) (.seq (.block 1 (.seq (.reg [⟨some 26, .mv (.t 24), none⟩, ⟨some 9, .mv (.t 26), none⟩]) (.seq (.reg [⟨some 28, .mv (.t 5), none⟩, ⟨some 29, .mv (.t 8), none⟩, ⟨some 30, .call 59 [.t 28, .t 29], none⟩, ⟨some 27, .mv (.t 30), none⟩, ⟨some 31, .ext (.t 27) 0, none⟩, ⟨some 32, .ext (.t 27) 1, none⟩, ⟨some 10, .mv (.t 31), none⟩, ⟨some 11, .mv (.t 32), none⟩]) (.seq (.seq (.reg [⟨some 33, .mv (.t 11), none⟩, ⟨some 34, .bin .neq (.t 33) (.c (.int .i64 0)), none⟩]) (.cond (.t 34) (.exit 0) .skip)) (.seq (.reg [⟨some 35, .mv (.t 9), none⟩, ⟨some 36, .mv (.t 10), none⟩, ⟨some 37, .cvt .i64 (.t 36), none⟩, ⟨some 38, .ixp 3 1 (.t 7) (.t 35), none⟩, ⟨none, .st 1 (.t 38) (.t 37), none⟩]) (.reg [⟨some 39, .mv (.t 8), none⟩, ⟨some 40, .bin .add (.t 39) (.c (.int .i64 4)), none⟩, ⟨some 8, .mv (.t 40), none⟩])))))) (.reg [⟨some 41, .bin .add (.t 24) (.c (.int .i64 1)), none⟩, ⟨some 24, .mv (.t 41), none⟩]))))))) (.seq (.reg [⟨some 42, .ixp 3 1 (.t 7) (.c (.int .i64 0)), none⟩, ⟨some 43, .ld 1 false (.t 42), none⟩, ⟨some 44, .ixp 3 1 (.t 7) (.c (.int .i64 1)), none⟩, ⟨some 45, .ld 1 false (.t 44), none⟩, ⟨some 46, .fa 3 (.t 4), none⟩, ⟨some 47, .ld 1 false (.t 46), none⟩, ⟨some 48, .fa 1 (.t 4), none⟩, ⟨some 49, .ld 1 false (.t 48), none⟩, ⟨some 50, .ixp 3 1 (.t 7) (.c (.int .i64 2)), none⟩, ⟨some 51, .ld 1 false (.t 50), none⟩, ⟨some 52, .bld [.int .i64 0, .int .i64 0, .int .i64 0, .int .i64 0, .int .i64 0] [(0, 1, .t 43), (1, 1, .t 45), (2, 1, .t 47), (3, 1, .t 49), (4, 1, .t 51)], none⟩, ⟨some 12, .zero (.agg #[.int .i64 0, .int .i64 0, .int .i64 0, .int .i64 0, .int .i64 0]), none⟩, ⟨none, .st 5 (.t 12) (.t 52), none⟩]) (.seq (.seq (.reg [⟨some 54, .ld 5 true (.t 12), none⟩, ⟨some 55, .call 32 [.t 54], none⟩, ⟨some 53, .mv (.t 55), none⟩, ⟨some 56, .ext (.t 53) 0, none⟩, ⟨some 57, .ext (.t 53) 1, none⟩, ⟨some 13, .mv (.t 56), none⟩, ⟨some 14, .mv (.t 57), none⟩]) (.seq (.reg [⟨some 58, .mv (.t 14), none⟩, ⟨some 59, .bin .neq (.t 58) (.c (.int .i64 0)), none⟩, ⟨some 60, .mv (.t 59), none⟩, ⟨some 61, .mv (.t 13), some (60, false)⟩, ⟨some 62, .mv (.t 0), some (60, false)⟩, ⟨some 63, .bin .neq (.t 61) (.t 62), some (60, false)⟩, ⟨some 64, .pick (.t 60) (.c (.bool true)) (.t 63), none⟩, ⟨some 65, .mv (.t 64), none⟩, ⟨some 66, .ld 5 true (.t 12), some (65, false)⟩, ⟨some 67, .bld [.int .i64 0, .int .i64 0, .int .i64 0, .int .i64 0, .int .i64 0] [], some (65, false)⟩, ⟨some 68, .eqs false [1, 1, 1, 1, 1] (.t 66) (.t 67), some (65, false)⟩, ⟨some 69, .pick (.t 65) (.c (.bool true)) (.t 68), none⟩]) (.cond (.t 69) (.seq (.reg [⟨some 70, .bld [.int .i64 0, .int .i64 0, .int .i64 0, .int .i64 0, .int .i64 0] [], none⟩, ⟨none, .st 5 (.t 2) (.t 70), none⟩, ⟨some 3, .mv (.c (.int .i64 3)), none⟩]) .ret) .skip))) (.seq (.reg [⟨some 71, .ld 5 true (.t 12), none⟩, ⟨none, .st 5 (.t 2) (.t 71), none⟩, ⟨some 3, .mv (.c (.int .i64 0)), none⟩]) .ret)))))))))⟩
theorem e28 : cfun Tryz.prog 28 = some c28 := by kernel_rfl
structure MetaM where
  p : Int
  pages : Int
  root : Int
  level : Int
  pairs : Int
abbrev metaV (m : MetaM) : Value := .agg #[.int .i64 m.p, .int .i64 m.pages, .int .i64 m.root, .int .i64 m.level, .int .i64 m.pairs]
def mayM (m : MetaM) : Prop := sizeB m.p = true ∧ 2 ≤ m.pages ∧ m.pages ≤ 4096 ∧ 1 ≤ m.root ∧ m.root < m.pages ∧ 0 ≤ m.level ∧ m.level < 256 ∧ 0 ≤ m.pairs ∧ m.pairs ≤ 2147483647
instance (m : MetaM) : Decidable (mayM m) := inferInstanceAs (Decidable (_ ∧ _))
theorem mayM_D0 (p g r l q : Int) : DPure Tp I 63 [.v (.agg #[.int .i64 p, .int .i64 g, .int .i64 r, .int .i64 l, .int .i64 q])] (BV (decide (mayM ⟨p, g, r, l, q⟩))) := by
  by_cases hs : sizeB p = true
  · have d1 : DPure Tp I 67 [VN .i64 p] (BV true) := by have := size_D (I := I) p; rwa [hs] at this
    refine z_pure (e0 := ?e0x1) mix e63 rfl ?z01 ?_
    (case z01 => exact rfl)
    dsimp only [c63]
    repeat' (first
      | ((with_reducible apply z_call); (case' hd => apply d1); (case hw => exact wknL_ok rfl); (try any_goals (first | omega | (dsimp only; omega) | (simp only [ByteArray.size_append, ByteArray.size_extract, strOfNums_size, List.length_cons, List.length_nil, List.length_map, List.length_append, List.length_take, List.length_drop]; omega))))
      | with_reducible refine z_seq ?_
      | with_reducible refine z_seqn ?_
      | with_reducible refine z_ret ?_
      | with_reducible refine z_reg ?_
      | with_reducible refine z_nil ?_
      | ((with_reducible apply z_gf); (case hg => exact rfl))
      | ((with_reducible apply z_g); (case hg => exact rfl))
      | ((with_reducible apply z_mv); (case h => ((conv => {lhs; whnf}) <;> exact rfl)))
      | ((with_reducible apply z_pick_t); (case hc => exact rfl); (case h => ((conv => {lhs; whnf}) <;> exact rfl)))
      | ((with_reducible apply z_pick_f); (case hc => exact rfl); (case h => ((conv => {lhs; whnf}) <;> exact rfl)))
      | ((with_reducible apply z_fa); (case h => ((conv => {lhs; whnf}) <;> exact rfl)))
      | ((with_reducible apply z_ld); (case h => ((conv => {lhs; whnf}) <;> exact rfl)); (case hc => ((conv => {lhs; whnf}) <;> exact rfl)); (case hd => ((conv => {lhs; whnf}) <;> exact rfl)))
      | ((with_reducible apply z_bin); (case hx => ((conv => {lhs; whnf}) <;> exact rfl)); (case hy => ((conv => {lhs; whnf}) <;> exact rfl)))
      | ((with_reducible apply z_box); (case hx => ((conv => {lhs; whnf}) <;> exact rfl)); (case hu => exact rfl); (case hc => ((conv => {lhs; whnf}) <;> exact rfl)); (case hq => ((conv => {lhs; whnf}) <;> exact rfl)); (case hl => ((conv => {lhs; whnf}) <;> exact rfl)))
      | ((with_reducible apply z_fin); (case he => exact rfl); (case hr => ((conv => {lhs; whnf}) <;> exact rfl)))
      | with_reducible refine s_lss (fun _ => ?_) (fun _ => ?_)
      | with_reducible refine s_leq (fun _ => ?_) (fun _ => ?_)
      | with_reducible refine s_geq (fun _ => ?_) (fun _ => ?_)
      | fail)
    all_goals first
      | (refine bool_of (b := true) ?_ (Eq.symm (decide_eq_true (by refine ⟨hs, ?_⟩; dsimp only; omega))); kernel_rfl)
      | (refine bool_of (b := false) ?_ (Eq.symm (decide_eq_false (fun h => by have h2 := h.2; dsimp only at h2; omega))); kernel_rfl)
  · have d1 : DPure Tp I 67 [VN .i64 p] (BV false) := by have := size_D (I := I) p; rwa [show sizeB p = false by simpa using hs] at this
    have hn : ¬ mayM ⟨p, g, r, l, q⟩ := fun h => hs h.1
    refine z_pure (e0 := ?e0x2) mix e63 rfl ?z02 ?_
    (case z02 => exact rfl)
    dsimp only [c63]
    repeat' (first
      | ((with_reducible apply z_call); (case' hd => apply d1); (case hw => exact wknL_ok rfl); (try any_goals (first | omega | (dsimp only; omega) | (simp only [ByteArray.size_append, ByteArray.size_extract, strOfNums_size, List.length_cons, List.length_nil, List.length_map, List.length_append, List.length_take, List.length_drop]; omega))))
      | with_reducible refine z_seq ?_
      | with_reducible refine z_seqn ?_
      | with_reducible refine z_ret ?_
      | with_reducible refine z_reg ?_
      | with_reducible refine z_nil ?_
      | ((with_reducible apply z_gf); (case hg => exact rfl))
      | ((with_reducible apply z_mv); (case h => ((conv => {lhs; whnf}) <;> exact rfl)))
      | ((with_reducible apply z_pick_f); (case hc => exact rfl); (case h => ((conv => {lhs; whnf}) <;> exact rfl)))
      | ((with_reducible apply z_fa); (case h => ((conv => {lhs; whnf}) <;> exact rfl)))
      | ((with_reducible apply z_ld); (case h => ((conv => {lhs; whnf}) <;> exact rfl)); (case hc => ((conv => {lhs; whnf}) <;> exact rfl)); (case hd => ((conv => {lhs; whnf}) <;> exact rfl)))
      | ((with_reducible apply z_box); (case hx => ((conv => {lhs; whnf}) <;> exact rfl)); (case hu => exact rfl); (case hc => ((conv => {lhs; whnf}) <;> exact rfl)); (case hq => ((conv => {lhs; whnf}) <;> exact rfl)); (case hl => ((conv => {lhs; whnf}) <;> exact rfl)))
      | ((with_reducible apply z_fin); (case he => exact rfl); (case hr => ((conv => {lhs; whnf}) <;> exact rfl)))
      | fail)
    exact bool_of (b := false) (by kernel_rfl) (decide_eq_false hn).symm
def withyS : ByteArray := ⟨#[119, 105, 116, 104, 121]⟩
def mbS (p g q : Int) : Nat → ByteArray
  | 0 => withyS
  | 1 => withyS ++ fourB p
  | 2 => withyS ++ fourB p ++ fourB g
  | _ => withyS ++ fourB p ++ fourB g ++ fourB q
theorem mbS_size (p g q : Int) (i : Nat) : (mbS p g q i).size ≤ 17 := by
  unfold mbS
  split <;> simp only [ByteArray.size_append, fourB_size, show withyS.size = 5 from rfl] <;> omega
theorem mbS_3 (p g q : Int) : (mbS p g q 3).size = 17 := by simp only [mbS, ByteArray.size_append, fourB_size, show withyS.size = 5 from rfl]
def metB (m : MetaM) : ByteArray := mbS m.p m.pages m.pairs 3 ++ (zeroB (m.p - 16 - (mbS m.p m.pages m.pairs 3).size - 1).toNat ++ ⟨#[87]⟩)
def metH (m : MetaM) : HeadM := ⟨1, m.level, 0, m.root, 0⟩
def meE (m : MetaM) : Int := if mayM m then mayE (metH m) (metB m) m.p else 3
def meS (m : MetaM) : ByteArray := if meE m = 0 then sealS (metH m) (metB m) m.p else nilS
theorem menc_D0 (p g r l q : Int) : DPure Tp I 32 [.v (.agg #[.int .i64 p, .int .i64 g, .int .i64 r, .int .i64 l, .int .i64 q])] (.v (.tuple #[.string (meS ⟨p, g, r, l, q⟩), .int .i64 (meE ⟨p, g, r, l, q⟩)])) := by
  by_cases hm : mayM ⟨p, g, r, l, q⟩
  · have d1 := dp_t (mayM_D0 (I := I) p g r l q) hm
    have hE : meE ⟨p, g, r, l, q⟩ = mayE (metH ⟨p, g, r, l, q⟩) (metB ⟨p, g, r, l, q⟩) p := if_pos hm
    have hS : meS ⟨p, g, r, l, q⟩ = sealS (metH ⟨p, g, r, l, q⟩) (metB ⟨p, g, r, l, q⟩) p := by
      unfold meS
      rw [hE]
      split
      · rfl
      · unfold sealS; rw [if_neg ‹_›]
    obtain ⟨g1, g2, g3, g4, g5, g6, g7, g8, g9⟩ := hm
    dsimp only at g1 g2 g3 g4 g5 g6 g7 g8 g9
    have hp := sizeB_in g1
    have h3 := mbS_3 p g q
    have hW : (⟨#[87]⟩ : ByteArray).size = 1 := rfl
    have hz := zeroB_size (p - 16 - (mbS p g q 3).size - 1).toNat
    have hB : (metB ⟨p, g, r, l, q⟩).size ≤ 1000000 := by unfold metB; simp only [ByteArray.size_append, zeroB_size]; omega
    have dR := repeat_D (I := I) (p - 16 - (mbS p g q 3).size - 1) (by omega)
    have dS := seal_D0 (I := I) 1 l 0 r 0 (metH ⟨p, g, r, l, q⟩) rfl (metB ⟨p, g, r, l, q⟩) p hB
    refine z_pure (e0 := ?e0x3) mix e32 rfl ?z03 ?_
    (case z03 => exact rfl)
    dsimp only [c32]
    repeat' (first
      | ((with_reducible apply z_call); (case' hd => apply d1); (case hw => exact wknL_ok rfl); (try any_goals (first | omega | (dsimp only; omega) | (simp only [ByteArray.size_append, ByteArray.size_extract, strOfNums_size, List.length_cons, List.length_nil, List.length_map, List.length_append, List.length_take, List.length_drop]; omega))))
      | with_reducible refine z_seq ?_
      | with_reducible refine z_seqn ?_
      | with_reducible refine z_blk ?_
      | with_reducible refine z_skip ?_
      | with_reducible refine z_reg ?_
      | with_reducible refine z_nil ?_
      | ((with_reducible apply z_cond_f); (case hc => exact rfl))
      | ((with_reducible apply z_mv); (case h => ((conv => {lhs; whnf}) <;> exact rfl)))
      | ((with_reducible apply z_fa); (case h => ((conv => {lhs; whnf}) <;> exact rfl)))
      | ((with_reducible apply z_ld); (case h => ((conv => {lhs; whnf}) <;> exact rfl)); (case hc => ((conv => {lhs; whnf}) <;> exact rfl)); (case hd => ((conv => {lhs; whnf}) <;> exact rfl)))
      | ((with_reducible apply z_lda); (case h => ((conv => {lhs; whnf}) <;> exact rfl)); (case hc => ((conv => {lhs; whnf}) <;> exact rfl)); (case hb => exact rfl); (case hr => ((conv => {lhs; whnf}) <;> exact rfl)))
      | ((with_reducible apply z_not_t); (case hx => exact rfl))
      | ((with_reducible apply z_lenL); (case hx => ((conv => {lhs; whnf}) <;> exact rfl)); (case h => ((conv => {lhs; whnf}) <;> exact rfl)))
      | ((with_reducible apply z_bsl); (case h1 => ((conv => {lhs; whnf}) <;> exact rfl)); (case h2 => exact rfl))
      | ((with_reducible apply z_box); (case hx => ((conv => {lhs; whnf}) <;> exact rfl)); (case hu => exact rfl); (case hc => ((conv => {lhs; whnf}) <;> exact rfl)); (case hq => ((conv => {lhs; whnf}) <;> exact rfl)); (case hl => ((conv => {lhs; whnf}) <;> exact rfl)))
      | fail)
    refine z_loop (fun i : Nat => ⟨[(1, .lp 0 0), (4, SV (mbS p g q i)), (16, .full 1 [VN .i64 p, VN .i64 g, VN .i64 q]), (17, VN .i64 3), (18, VN .i64 i)], [[VN .i64 p, VN .i64 g, VN .i64 r, VN .i64 l, VN .i64 q]], []⟩) (fun i : Nat => i ≤ 3) (fun i : Nat => 3 - i) (0) ?_ ?_ fun i hi => ?_
    · exact (less_of 1 0 0 rfl rfl (lessE_cons (ltd_eq rfl (by kernel_rfl)) (lessE_cons (ltd_eq rfl (by kernel_rfl)) (lessE_cons (ltd_eq rfl (by kernel_rfl)) (lessE_cons (ltd_eq rfl (by kernel_rfl)) (lessE_cons (ltd_eq rfl (by kernel_rfl)) lessE_nil))))) (by kernel_rfl) (by kernel_rfl) (by kernel_rfl) (by kernel_rfl))
    · omega
    have hsz := mbS_size p g q i
    have hf1 := fourB_size p
    have hf2 := fourB_size g
    have hf3 := fourB_size q
    have hc : i = 0 ∨ i = 1 ∨ i = 2 ∨ i = 3 := by omega
    rcases hc with rfl | rfl | rfl | rfl
    · repeat' (first
        | ((with_reducible apply z_call); (case' hd => apply four_D); (case hw => exact wknL_ok rfl); (try any_goals (first | omega | (dsimp only; omega) | (simp only [ByteArray.size_append, ByteArray.size_extract, strOfNums_size, List.length_cons, List.length_nil, List.length_map, List.length_append, List.length_take, List.length_drop]; omega))))
        | with_reducible refine z_seq ?_
        | with_reducible refine z_seqn ?_
        | with_reducible refine z_blk ?_
        | with_reducible refine z_blkn ?_
        | with_reducible refine z_lopn ?_
        | with_reducible refine z_skip ?_
        | with_reducible refine z_reg ?_
        | with_reducible refine z_nil ?_
        | ((with_reducible apply z_cond_t); (case hc => exact rfl))
        | ((with_reducible apply z_mv); (case h => ((conv => {lhs; whnf}) <;> exact rfl)))
        | ((with_reducible apply z_lde); (case h => ((conv => {lhs; whnf}) <;> exact rfl)); (case hd => ((conv => {lhs; whnf}) <;> exact rfl)))
        | ((with_reducible apply z_bin); (case hx => ((conv => {lhs; whnf}) <;> exact rfl)); (case hy => ((conv => {lhs; whnf}) <;> exact rfl)))
        | ((with_reducible apply z_cvt); (case hx => ((conv => {lhs; whnf}) <;> exact rfl)))
        | ((with_reducible apply z_ixa); (case hi => ((conv => {lhs; whnf}) <;> exact rfl)); (case hx => ((conv => {lhs; whnf}) <;> exact rfl)); (case h1 => ((conv => {lhs; whnf}) <;> exact rfl)); (case h2 => exact rfl))
        | with_reducible refine s_lss_t (by omega) ?_
        | with_reducible refine s_add (by first | omega | (dsimp only; omega) | (simp only [ByteArray.size_append, ByteArray.size_extract, strOfNums_size, List.length_cons, List.length_nil, List.length_map, List.length_append, List.length_take, List.length_drop]; omega)) ?_
        | with_reducible refine c_u32 (by first | omega | (dsimp only; omega)) ?_
        | with_reducible refine s_cat (by first | omega | (dsimp only; omega) | (simp only [ByteArray.size_append, ByteArray.size_extract, strOfNums_size, List.length_cons, List.length_nil, List.length_map]; omega)) ?_
        | ((with_reducible refine is_e2 ?_); refine ⟨_, rfl, ?_⟩)
        | refine And.intro (by omega) ?_
        | fail)
      exact ⟨1, (less_of 1 0 0 rfl rfl (lessE_cons (ltd_eq rfl (by kernel_rfl)) (lessE_cons (ltd_eq rfl (by kernel_rfl)) (lessE_cons (ltd_eq rfl (by kernel_rfl)) (lessE_cons (ltd_eq rfl (by kernel_rfl)) (lessE_cons (ltd_eq rfl (by kernel_rfl)) lessE_nil))))) (by kernel_rfl) (by kernel_rfl) (by kernel_rfl) (by kernel_rfl)), by omega, by omega⟩
    · repeat' (first
        | ((with_reducible apply z_call); (case' hd => apply four_D); (case hw => exact wknL_ok rfl); (try any_goals (first | omega | (dsimp only; omega) | (simp only [ByteArray.size_append, ByteArray.size_extract, strOfNums_size, List.length_cons, List.length_nil, List.length_map, List.length_append, List.length_take, List.length_drop]; omega))))
        | with_reducible refine z_seq ?_
        | with_reducible refine z_seqn ?_
        | with_reducible refine z_blk ?_
        | with_reducible refine z_blkn ?_
        | with_reducible refine z_lopn ?_
        | with_reducible refine z_skip ?_
        | with_reducible refine z_reg ?_
        | with_reducible refine z_nil ?_
        | ((with_reducible apply z_cond_t); (case hc => exact rfl))
        | ((with_reducible apply z_mv); (case h => ((conv => {lhs; whnf}) <;> exact rfl)))
        | ((with_reducible apply z_lde); (case h => ((conv => {lhs; whnf}) <;> exact rfl)); (case hd => ((conv => {lhs; whnf}) <;> exact rfl)))
        | ((with_reducible apply z_bin); (case hx => ((conv => {lhs; whnf}) <;> exact rfl)); (case hy => ((conv => {lhs; whnf}) <;> exact rfl)))
        | ((with_reducible apply z_cvt); (case hx => ((conv => {lhs; whnf}) <;> exact rfl)))
        | ((with_reducible apply z_ixa); (case hi => ((conv => {lhs; whnf}) <;> exact rfl)); (case hx => ((conv => {lhs; whnf}) <;> exact rfl)); (case h1 => ((conv => {lhs; whnf}) <;> exact rfl)); (case h2 => exact rfl))
        | with_reducible refine s_lss_t (by omega) ?_
        | with_reducible refine s_add (by first | omega | (dsimp only; omega) | (simp only [ByteArray.size_append, ByteArray.size_extract, strOfNums_size, List.length_cons, List.length_nil, List.length_map, List.length_append, List.length_take, List.length_drop]; omega)) ?_
        | with_reducible refine c_u32 (by first | omega | (dsimp only; omega)) ?_
        | with_reducible refine s_cat (by first | omega | (dsimp only; omega) | (simp only [ByteArray.size_append, ByteArray.size_extract, strOfNums_size, List.length_cons, List.length_nil, List.length_map]; omega)) ?_
        | ((with_reducible refine is_e2 ?_); refine ⟨_, rfl, ?_⟩)
        | refine And.intro (by omega) ?_
        | fail)
      exact ⟨2, (less_of 1 0 0 rfl rfl (lessE_cons (ltd_eq rfl (by kernel_rfl)) (lessE_cons (ltd_eq rfl (by kernel_rfl)) (lessE_cons (ltd_eq rfl (by kernel_rfl)) (lessE_cons (ltd_eq rfl (by kernel_rfl)) (lessE_cons (ltd_eq rfl (by kernel_rfl)) lessE_nil))))) (by kernel_rfl) (by kernel_rfl) (by kernel_rfl) (by kernel_rfl)), by omega, by omega⟩
    · repeat' (first
        | ((with_reducible apply z_call); (case' hd => apply four_D); (case hw => exact wknL_ok rfl); (try any_goals (first | omega | (dsimp only; omega) | (simp only [ByteArray.size_append, ByteArray.size_extract, strOfNums_size, List.length_cons, List.length_nil, List.length_map, List.length_append, List.length_take, List.length_drop]; omega))))
        | with_reducible refine z_seq ?_
        | with_reducible refine z_seqn ?_
        | with_reducible refine z_blk ?_
        | with_reducible refine z_blkn ?_
        | with_reducible refine z_lopn ?_
        | with_reducible refine z_skip ?_
        | with_reducible refine z_reg ?_
        | with_reducible refine z_nil ?_
        | ((with_reducible apply z_cond_t); (case hc => exact rfl))
        | ((with_reducible apply z_mv); (case h => ((conv => {lhs; whnf}) <;> exact rfl)))
        | ((with_reducible apply z_lde); (case h => ((conv => {lhs; whnf}) <;> exact rfl)); (case hd => ((conv => {lhs; whnf}) <;> exact rfl)))
        | ((with_reducible apply z_bin); (case hx => ((conv => {lhs; whnf}) <;> exact rfl)); (case hy => ((conv => {lhs; whnf}) <;> exact rfl)))
        | ((with_reducible apply z_cvt); (case hx => ((conv => {lhs; whnf}) <;> exact rfl)))
        | ((with_reducible apply z_ixa); (case hi => ((conv => {lhs; whnf}) <;> exact rfl)); (case hx => ((conv => {lhs; whnf}) <;> exact rfl)); (case h1 => ((conv => {lhs; whnf}) <;> exact rfl)); (case h2 => exact rfl))
        | with_reducible refine s_lss_t (by omega) ?_
        | with_reducible refine s_add (by first | omega | (dsimp only; omega) | (simp only [ByteArray.size_append, ByteArray.size_extract, strOfNums_size, List.length_cons, List.length_nil, List.length_map, List.length_append, List.length_take, List.length_drop]; omega)) ?_
        | with_reducible refine c_u32 (by first | omega | (dsimp only; omega)) ?_
        | with_reducible refine s_cat (by first | omega | (dsimp only; omega) | (simp only [ByteArray.size_append, ByteArray.size_extract, strOfNums_size, List.length_cons, List.length_nil, List.length_map]; omega)) ?_
        | ((with_reducible refine is_e2 ?_); refine ⟨_, rfl, ?_⟩)
        | refine And.intro (by omega) ?_
        | fail)
      exact ⟨3, (less_of 1 0 0 rfl rfl (lessE_cons (ltd_eq rfl (by kernel_rfl)) (lessE_cons (ltd_eq rfl (by kernel_rfl)) (lessE_cons (ltd_eq rfl (by kernel_rfl)) (lessE_cons (ltd_eq rfl (by kernel_rfl)) (lessE_cons (ltd_eq rfl (by kernel_rfl)) lessE_nil))))) (by kernel_rfl) (by kernel_rfl) (by kernel_rfl) (by kernel_rfl)), by omega, by omega⟩
    · repeat' (first
        | ((with_reducible apply z_call); (case' hd => apply dR); (case hw => exact wknL_ok rfl); (try any_goals (first | omega | (dsimp only; omega) | (simp only [ByteArray.size_append, ByteArray.size_extract, strOfNums_size, List.length_cons, List.length_nil, List.length_map, List.length_append, List.length_take, List.length_drop]; omega))))
        | ((with_reducible apply z_call); (case' hd => apply dS); (case hw => exact wknL_ok rfl); (try any_goals (first | omega | (dsimp only; omega) | (simp only [ByteArray.size_append, ByteArray.size_extract, strOfNums_size, List.length_cons, List.length_nil, List.length_map, List.length_append, List.length_take, List.length_drop]; omega))))
        | with_reducible refine z_seq ?_
        | with_reducible refine z_seqn ?_
        | with_reducible refine z_seqx ?_
        | with_reducible refine z_blkh ?_
        | with_reducible refine z_lopx ?_
        | with_reducible refine z_exit ?_
        | with_reducible refine z_ret ?_
        | with_reducible refine z_reg ?_
        | with_reducible refine z_nil ?_
        | ((with_reducible apply z_cond_f); (case hc => exact rfl))
        | ((with_reducible apply z_mv); (case h => ((conv => {lhs; whnf}) <;> exact rfl)))
        | ((with_reducible apply z_fa); (case h => ((conv => {lhs; whnf}) <;> exact rfl)))
        | ((with_reducible apply z_ld); (case h => ((conv => {lhs; whnf}) <;> exact rfl)); (case hc => ((conv => {lhs; whnf}) <;> exact rfl)); (case hd => ((conv => {lhs; whnf}) <;> exact rfl)))
        | ((with_reducible apply z_bin); (case hx => ((conv => {lhs; whnf}) <;> exact rfl)); (case hy => ((conv => {lhs; whnf}) <;> exact rfl)))
        | ((with_reducible apply z_ext0); (case hx => ((conv => {lhs; whnf}) <;> exact rfl)))
        | ((with_reducible apply z_ext1); (case hx => ((conv => {lhs; whnf}) <;> exact rfl)))
        | ((with_reducible apply z_lenS); (case hx => ((conv => {lhs; whnf}) <;> exact rfl)))
        | ((with_reducible apply z_bld); (case hp => exact rfl); (case h1 => ((conv => {lhs; whnf}) <;> exact rfl)); (case h2 => exact rfl); (case hr => ((conv => {lhs; whnf}) <;> exact rfl)))
        | ((with_reducible apply z_fin); (case he => exact rfl); (case hr => ((conv => {lhs; whnf}) <;> exact rfl)))
        | with_reducible refine s_lss_f (by omega) ?_
        | with_reducible refine s_sub (by first | omega | (dsimp only; omega) | (simp only [ByteArray.size_append, ByteArray.size_extract, strOfNums_size, List.length_cons, List.length_nil, List.length_map, List.length_append, List.length_take, List.length_drop]; omega)) ?_
        | with_reducible refine s_cat (by first | omega | (dsimp only; omega) | (simp only [ByteArray.size_append, ByteArray.size_extract, strOfNums_size, List.length_cons, List.length_nil, List.length_map]; omega)) ?_
        | fail)
      refine tup2_of (a := .string (sealS (metH ⟨p, g, r, l, q⟩) (metB ⟨p, g, r, l, q⟩) p)) (b := .int .i64 (mayE (metH ⟨p, g, r, l, q⟩) (metB ⟨p, g, r, l, q⟩) p)) (by kernel_rfl) ?_ ?_
      · exact congrArg Value.string hS
      · exact congrArg (Value.int .i64) hE
  · have d1 := dp_f (mayM_D0 (I := I) p g r l q) hm
    have hE : meE ⟨p, g, r, l, q⟩ = 3 := if_neg hm
    refine z_pure (e0 := ?e0x4) mix e32 rfl ?z04 ?_
    (case z04 => exact rfl)
    dsimp only [c32]
    repeat' (first
      | ((with_reducible apply z_call); (case' hd => apply d1); (case hw => exact wknL_ok rfl); (try any_goals (first | omega | (dsimp only; omega) | (simp only [ByteArray.size_append, ByteArray.size_extract, strOfNums_size, List.length_cons, List.length_nil, List.length_map, List.length_append, List.length_take, List.length_drop]; omega))))
      | with_reducible refine z_seq ?_
      | with_reducible refine z_seqn ?_
      | with_reducible refine z_seqr ?_
      | with_reducible refine z_ret ?_
      | with_reducible refine z_reg ?_
      | with_reducible refine z_nil ?_
      | ((with_reducible apply z_cond_t); (case hc => exact rfl))
      | ((with_reducible apply z_mv); (case h => ((conv => {lhs; whnf}) <;> exact rfl)))
      | ((with_reducible apply z_lda); (case h => ((conv => {lhs; whnf}) <;> exact rfl)); (case hc => ((conv => {lhs; whnf}) <;> exact rfl)); (case hb => exact rfl); (case hr => ((conv => {lhs; whnf}) <;> exact rfl)))
      | ((with_reducible apply z_not_f); (case hx => exact rfl))
      | ((with_reducible apply z_box); (case hx => ((conv => {lhs; whnf}) <;> exact rfl)); (case hu => exact rfl); (case hc => ((conv => {lhs; whnf}) <;> exact rfl)); (case hq => ((conv => {lhs; whnf}) <;> exact rfl)); (case hl => ((conv => {lhs; whnf}) <;> exact rfl)))
      | ((with_reducible apply z_fin); (case he => exact rfl); (case hr => ((conv => {lhs; whnf}) <;> exact rfl)))
      | fail)
    refine tup2_of (a := .string nilS) (b := .int .i64 3) (by kernel_rfl) ?_ ?_
    · exact congrArg Value.string (if_neg (by rw [hE]; decide))
    · exact congrArg (Value.int .i64) hE
end Go.Proofs.YtlbodfkhenkcjaaGreatDoor.X


namespace Go.Proofs.YtlbodfkhenkcjaaGreatDoor.X
open Go Go.Proofs Go.RowKit Go.Proofs.YtlbodfkhenkcjaaGreatDoor.D
set_option maxRecDepth 100000
set_option maxHeartbeats 1000000
set_option linter.unusedVariables false
set_option linter.unusedSimpArgs false
variable {I : D.Inv}
attribute [local irreducible] D.DPure D.DEff D.callable opH opB opE rdN rdE meE meS

def mRaw (s : ByteArray) : MetaM := ⟨rdN (opB s) 5, rdN (opB s) 9, (opH s).right, (opH s).level, rdN (opB s) 13⟩
def mtP (s : ByteArray) : Prop := opE s = 0 ∧ meE (mRaw s) = 0 ∧ meS (mRaw s) = s
instance (s : ByteArray) : Decidable (mtP s) := inferInstanceAs (Decidable (_ ∧ _))
def meta0 : MetaM := ⟨0, 0, 0, 0, 0⟩
def mtM (s : ByteArray) : MetaM := if mtP s then mRaw s else meta0
def mtE (s : ByteArray) : Int := if mtP s then 0 else 3
theorem mt_yes {s : ByteArray} (h : mtP s) : mtM s = mRaw s ∧ mtE s = 0 := ⟨if_pos h, if_pos h⟩
theorem mt_no {s : ByteArray} (h : ¬ mtP s) : mtM s = meta0 ∧ mtE s = 3 := ⟨if_neg h, if_neg h⟩
theorem meE_0 {m : MetaM} (h : meE m = 0) : mayM m := by
  by_cases hm : mayM m
  · exact hm
  · unfold meE at h; rw [if_neg hm] at h; omega
def mlV (b : ByteArray) : Nat → List DV
  | 0 => [VN .i64 0, VN .i64 0, VN .i64 0]
  | 1 => [VN .i64 (rdN b 5), VN .i64 0, VN .i64 0]
  | 2 => [VN .i64 (rdN b 5), VN .i64 (rdN b 9), VN .i64 0]
  | _ => [VN .i64 (rdN b 5), VN .i64 (rdN b 9), VN .i64 (rdN b 13)]
theorem meta_D (s : ByteArray) (hs : s.size ≤ 1000000) : DPure Tp I 28 [SV s] (.v (.tuple #[metaV (mtM s), .int .i64 (mtE s)])) := by
  have hin := opH_in s
  have hbs := opB_size s
  have hmt : mtP s ↔ (opE s = 0 ∧ meE ⟨rdN (opB s) 5, rdN (opB s) 9, (opH s).right, (opH s).level, rdN (opB s) 13⟩ = 0 ∧ meS ⟨rdN (opB s) 5, rdN (opB s) 9, (opH s).right, (opH s).level, rdN (opB s) 13⟩ = s) := Iff.rfl
  have hraw : mtP s → mtM s = ⟨rdN (opB s) 5, rdN (opB s) 9, (opH s).right, (opH s).level, rdN (opB s) 13⟩ := fun h => (mt_yes h).1
  have hbz : opE s = 0 → 112 ≤ (opB s).size := by
    intro h
    have := op_in s h
    rw [this.2.2]
    have hp := sizeB_in this.1.1
    unfold bodyOf
    rw [ByteArray.size_extract]
    omega
  obtain ⟨⟨k, l, c, r, m⟩, hh⟩ : ∃ h, opH s = h := ⟨_, rfl⟩
  obtain ⟨b, hb⟩ : ∃ b, opB s = b := ⟨_, rfl⟩
  obtain ⟨e, he⟩ : ∃ e, opE s = e := ⟨_, rfl⟩
  have d0 := openE_D (I := I) s k l c r m b e hs hh hb he
  rw [hh, hb] at hmt hraw
  rw [he] at hmt hbz
  rw [hb] at hbz hbs
  rw [hh] at hin
  dsimp only at hin hmt hraw
  have no : ∀ {d : DV}, ¬ mtP s → d = .v (.tuple #[metaV meta0, .int .i64 3]) → Wk d (.v (.tuple #[metaV (mtM s), .int .i64 (mtE s)])) := fun h e => by rw [(mt_no h).1, (mt_no h).2, e]; exact .v _
  by_cases he0 : e = 0
  · have hz := hbz he0
    have e5 : rdE b 5 = 0 := (rdE_0 (by omega) (by omega)).1
    have e9 : rdE b 9 = 0 := (rdE_0 (by omega) (by omega)).1
    have e13 : rdE b 13 = 0 := (rdE_0 (by omega) (by omega)).1
    have n5 := rdN_lo e5
    have n9 := rdN_lo e9
    have n13 := rdN_lo e13
    have d5 := read_D (I := I) b 5 (by omega) (by omega)
    have d9 := read_D (I := I) b 9 (by omega) (by omega)
    have d13 := read_D (I := I) b 13 (by omega) (by omega)
    rw [e5] at d5
    rw [e9] at d9
    rw [e13] at d13
    have dE := menc_D0 (I := I) (rdN b 5) (rdN b 9) r l (rdN b 13)
    refine z_pure (e0 := ?e0x1) mix e28 rfl ?z01 ?_
    (case z01 => exact rfl)
    dsimp only [c28]
    repeat' (first
      | ((with_reducible apply z_call); (case' hd => apply d0); (case hw => exact wknL_ok rfl); (try any_goals (first | omega | (dsimp only; omega) | (simp only [ByteArray.size_append, ByteArray.size_extract, strOfNums_size, List.length_cons, List.length_nil, List.length_map, List.length_append, List.length_take, List.length_drop]; omega))))
      | with_reducible refine z_seq ?_
      | with_reducible refine z_seqn ?_
      | with_reducible refine z_blk ?_
      | with_reducible refine z_skip ?_
      | with_reducible refine z_reg ?_
      | with_reducible refine z_nil ?_
      | ((with_reducible apply z_cond_f); (case hc => exact rfl))
      | ((with_reducible apply z_mv); (case h => ((conv => {lhs; whnf}) <;> exact rfl)))
      | ((with_reducible apply z_bin); (case hx => ((conv => {lhs; whnf}) <;> exact rfl)); (case hy => ((conv => {lhs; whnf}) <;> exact rfl)))
      | ((with_reducible apply z_ext0); (case hx => ((conv => {lhs; whnf}) <;> exact rfl)))
      | ((with_reducible apply z_ext1); (case hx => ((conv => {lhs; whnf}) <;> exact rfl)))
      | ((with_reducible apply z_ext2); (case hx => ((conv => {lhs; whnf}) <;> exact rfl)))
      | ((with_reducible apply z_zero); (case hc => ((conv => {lhs; whnf}) <;> exact rfl)); (case hq => ((conv => {lhs; whnf}) <;> exact rfl)); (case hl => ((conv => {lhs; whnf}) <;> exact rfl)))
      | ((with_reducible apply z_st); (case ha => ((conv => {lhs; whnf}) <;> exact rfl)); (case hcs => ((conv => {lhs; whnf}) <;> exact rfl)); (case hx => ((conv => {lhs; whnf}) <;> exact rfl)); (case hb => exact rfl); (case hl => ((conv => {lhs; whnf}) <;> exact rfl)))
      | with_reducible refine s_neq_f (by omega) ?_
      | fail)
    refine z_loop (fun i : Nat => ⟨[(0, SV s), (2, .lp 0 0), (4, .lp 1 0), (5, SV b), (7, .lp 2 0), (8, VN .i64 (5 + 4 * i)), (24, VN .i64 i)], [[VN .i64 0, VN .i64 0, VN .i64 0, VN .i64 0, VN .i64 0], [VN .i64 k, VN .i64 l, VN .i64 c, VN .i64 r, VN .i64 m], mlV b i], []⟩) (fun i : Nat => i ≤ 3) (fun i : Nat => 3 - i) (0) ?_ ?_ fun i hi => ?_
    · exact (less_of 3 0 0 rfl rfl (lessE_cons (ltd_eq rfl (by kernel_rfl)) (lessE_cons (ltd_eq rfl (by kernel_rfl)) (lessE_cons (ltd_eq rfl (by kernel_rfl)) (lessE_cons (ltd_eq rfl (by kernel_rfl)) (lessE_cons (ltd_eq rfl (by kernel_rfl)) (lessE_cons (ltd_eq rfl (by kernel_rfl)) (lessE_cons (ltd_eq rfl (by kernel_rfl)) lessE_nil))))))) (by kernel_rfl) (by kernel_rfl) (by kernel_rfl) (by kernel_rfl))
    · omega
    have hc : i = 0 ∨ i = 1 ∨ i = 2 ∨ i = 3 := by omega
    rcases hc with rfl | rfl | rfl | rfl
    · repeat' (first
        | ((with_reducible apply z_call); (case' hd => apply d5); (case hw => exact wknL_ok rfl); (try any_goals (first | omega | (dsimp only; omega) | (simp only [ByteArray.size_append, ByteArray.size_extract, strOfNums_size, List.length_cons, List.length_nil, List.length_map, List.length_append, List.length_take, List.length_drop]; omega))))
        | with_reducible refine z_seq ?_
        | with_reducible refine z_seqn ?_
        | with_reducible refine z_blk ?_
        | with_reducible refine z_blkn ?_
        | with_reducible refine z_lopn ?_
        | with_reducible refine z_skip ?_
        | with_reducible refine z_reg ?_
        | with_reducible refine z_nil ?_
        | ((with_reducible apply z_cond_t); (case hc => exact rfl))
        | ((with_reducible apply z_cond_f); (case hc => exact rfl))
        | ((with_reducible apply z_mv); (case h => ((conv => {lhs; whnf}) <;> exact rfl)))
        | ((with_reducible apply z_bin); (case hx => ((conv => {lhs; whnf}) <;> exact rfl)); (case hy => ((conv => {lhs; whnf}) <;> exact rfl)))
        | ((with_reducible apply z_cvt); (case hx => ((conv => {lhs; whnf}) <;> exact rfl)))
        | ((with_reducible apply z_ixp); (case hi => ((conv => {lhs; whnf}) <;> exact rfl)); (case hx => ((conv => {lhs; whnf}) <;> exact rfl)))
        | ((with_reducible apply z_ext0); (case hx => ((conv => {lhs; whnf}) <;> exact rfl)))
        | ((with_reducible apply z_ext1); (case hx => ((conv => {lhs; whnf}) <;> exact rfl)))
        | ((with_reducible apply z_st); (case ha => ((conv => {lhs; whnf}) <;> exact rfl)); (case hcs => ((conv => {lhs; whnf}) <;> exact rfl)); (case hx => ((conv => {lhs; whnf}) <;> exact rfl)); (case hb => exact rfl); (case hl => ((conv => {lhs; whnf}) <;> exact rfl)))
        | with_reducible refine s_lss_t (by omega) ?_
        | with_reducible refine s_neq_f (by omega) ?_
        | with_reducible refine s_add (by first | omega | (dsimp only; omega) | (simp only [ByteArray.size_append, ByteArray.size_extract, strOfNums_size, List.length_cons, List.length_nil, List.length_map, List.length_append, List.length_take, List.length_drop]; omega)) ?_
        | with_reducible refine c_i64 (by first | omega | (dsimp only; omega) | (simp only [ByteArray.size_append, ByteArray.size_extract, strOfNums_size, List.length_cons, List.length_nil, List.length_map, List.length_append, List.length_take, List.length_drop]; omega)) ?_
        | refine And.intro (by omega) ?_
        | fail)
      exact ⟨1, (less_of 3 0 0 rfl rfl (lessE_cons (ltd_eq rfl (by kernel_rfl)) (lessE_cons (ltd_eq rfl (by kernel_rfl)) (lessE_cons (ltd_eq rfl (by kernel_rfl)) (lessE_cons (ltd_eq rfl (by kernel_rfl)) (lessE_cons (ltd_eq rfl (by kernel_rfl)) (lessE_cons (ltd_eq rfl (by kernel_rfl)) (lessE_cons (ltd_eq rfl (by kernel_rfl)) lessE_nil))))))) (by kernel_rfl) (by kernel_rfl) (by kernel_rfl) (by kernel_rfl)), by omega, by omega⟩
    · repeat' (first
        | ((with_reducible apply z_call); (case' hd => apply d9); (case hw => exact wknL_ok rfl); (try any_goals (first | omega | (dsimp only; omega) | (simp only [ByteArray.size_append, ByteArray.size_extract, strOfNums_size, List.length_cons, List.length_nil, List.length_map, List.length_append, List.length_take, List.length_drop]; omega))))
        | with_reducible refine z_seq ?_
        | with_reducible refine z_seqn ?_
        | with_reducible refine z_blk ?_
        | with_reducible refine z_blkn ?_
        | with_reducible refine z_lopn ?_
        | with_reducible refine z_skip ?_
        | with_reducible refine z_reg ?_
        | with_reducible refine z_nil ?_
        | ((with_reducible apply z_cond_t); (case hc => exact rfl))
        | ((with_reducible apply z_cond_f); (case hc => exact rfl))
        | ((with_reducible apply z_mv); (case h => ((conv => {lhs; whnf}) <;> exact rfl)))
        | ((with_reducible apply z_bin); (case hx => ((conv => {lhs; whnf}) <;> exact rfl)); (case hy => ((conv => {lhs; whnf}) <;> exact rfl)))
        | ((with_reducible apply z_cvt); (case hx => ((conv => {lhs; whnf}) <;> exact rfl)))
        | ((with_reducible apply z_ixp); (case hi => ((conv => {lhs; whnf}) <;> exact rfl)); (case hx => ((conv => {lhs; whnf}) <;> exact rfl)))
        | ((with_reducible apply z_ext0); (case hx => ((conv => {lhs; whnf}) <;> exact rfl)))
        | ((with_reducible apply z_ext1); (case hx => ((conv => {lhs; whnf}) <;> exact rfl)))
        | ((with_reducible apply z_st); (case ha => ((conv => {lhs; whnf}) <;> exact rfl)); (case hcs => ((conv => {lhs; whnf}) <;> exact rfl)); (case hx => ((conv => {lhs; whnf}) <;> exact rfl)); (case hb => exact rfl); (case hl => ((conv => {lhs; whnf}) <;> exact rfl)))
        | with_reducible refine s_lss_t (by omega) ?_
        | with_reducible refine s_neq_f (by omega) ?_
        | with_reducible refine s_add (by first | omega | (dsimp only; omega) | (simp only [ByteArray.size_append, ByteArray.size_extract, strOfNums_size, List.length_cons, List.length_nil, List.length_map, List.length_append, List.length_take, List.length_drop]; omega)) ?_
        | with_reducible refine c_i64 (by first | omega | (dsimp only; omega) | (simp only [ByteArray.size_append, ByteArray.size_extract, strOfNums_size, List.length_cons, List.length_nil, List.length_map, List.length_append, List.length_take, List.length_drop]; omega)) ?_
        | refine And.intro (by omega) ?_
        | fail)
      exact ⟨2, (less_of 3 0 0 rfl rfl (lessE_cons (ltd_eq rfl (by kernel_rfl)) (lessE_cons (ltd_eq rfl (by kernel_rfl)) (lessE_cons (ltd_eq rfl (by kernel_rfl)) (lessE_cons (ltd_eq rfl (by kernel_rfl)) (lessE_cons (ltd_eq rfl (by kernel_rfl)) (lessE_cons (ltd_eq rfl (by kernel_rfl)) (lessE_cons (ltd_eq rfl (by kernel_rfl)) lessE_nil))))))) (by kernel_rfl) (by kernel_rfl) (by kernel_rfl) (by kernel_rfl)), by omega, by omega⟩
    · repeat' (first
        | ((with_reducible apply z_call); (case' hd => apply d13); (case hw => exact wknL_ok rfl); (try any_goals (first | omega | (dsimp only; omega) | (simp only [ByteArray.size_append, ByteArray.size_extract, strOfNums_size, List.length_cons, List.length_nil, List.length_map, List.length_append, List.length_take, List.length_drop]; omega))))
        | with_reducible refine z_seq ?_
        | with_reducible refine z_seqn ?_
        | with_reducible refine z_blk ?_
        | with_reducible refine z_blkn ?_
        | with_reducible refine z_lopn ?_
        | with_reducible refine z_skip ?_
        | with_reducible refine z_reg ?_
        | with_reducible refine z_nil ?_
        | ((with_reducible apply z_cond_t); (case hc => exact rfl))
        | ((with_reducible apply z_cond_f); (case hc => exact rfl))
        | ((with_reducible apply z_mv); (case h => ((conv => {lhs; whnf}) <;> exact rfl)))
        | ((with_reducible apply z_bin); (case hx => ((conv => {lhs; whnf}) <;> exact rfl)); (case hy => ((conv => {lhs; whnf}) <;> exact rfl)))
        | ((with_reducible apply z_cvt); (case hx => ((conv => {lhs; whnf}) <;> exact rfl)))
        | ((with_reducible apply z_ixp); (case hi => ((conv => {lhs; whnf}) <;> exact rfl)); (case hx => ((conv => {lhs; whnf}) <;> exact rfl)))
        | ((with_reducible apply z_ext0); (case hx => ((conv => {lhs; whnf}) <;> exact rfl)))
        | ((with_reducible apply z_ext1); (case hx => ((conv => {lhs; whnf}) <;> exact rfl)))
        | ((with_reducible apply z_st); (case ha => ((conv => {lhs; whnf}) <;> exact rfl)); (case hcs => ((conv => {lhs; whnf}) <;> exact rfl)); (case hx => ((conv => {lhs; whnf}) <;> exact rfl)); (case hb => exact rfl); (case hl => ((conv => {lhs; whnf}) <;> exact rfl)))
        | with_reducible refine s_lss_t (by omega) ?_
        | with_reducible refine s_neq_f (by omega) ?_
        | with_reducible refine s_add (by first | omega | (dsimp only; omega) | (simp only [ByteArray.size_append, ByteArray.size_extract, strOfNums_size, List.length_cons, List.length_nil, List.length_map, List.length_append, List.length_take, List.length_drop]; omega)) ?_
        | with_reducible refine c_i64 (by first | omega | (dsimp only; omega) | (simp only [ByteArray.size_append, ByteArray.size_extract, strOfNums_size, List.length_cons, List.length_nil, List.length_map, List.length_append, List.length_take, List.length_drop]; omega)) ?_
        | refine And.intro (by omega) ?_
        | fail)
      exact ⟨3, (less_of 3 0 0 rfl rfl (lessE_cons (ltd_eq rfl (by kernel_rfl)) (lessE_cons (ltd_eq rfl (by kernel_rfl)) (lessE_cons (ltd_eq rfl (by kernel_rfl)) (lessE_cons (ltd_eq rfl (by kernel_rfl)) (lessE_cons (ltd_eq rfl (by kernel_rfl)) (lessE_cons (ltd_eq rfl (by kernel_rfl)) (lessE_cons (ltd_eq rfl (by kernel_rfl)) lessE_nil))))))) (by kernel_rfl) (by kernel_rfl) (by kernel_rfl) (by kernel_rfl)), by omega, by omega⟩
    · repeat' (first
        | ((with_reducible apply z_call); (case' hd => apply dE); (case hw => exact wknL_ok rfl); (try any_goals (first | omega | (dsimp only; omega) | (simp only [ByteArray.size_append, ByteArray.size_extract, strOfNums_size, List.length_cons, List.length_nil, List.length_map, List.length_append, List.length_take, List.length_drop]; omega))))
        | with_reducible refine z_seq ?_
        | with_reducible refine z_seqn ?_
        | with_reducible refine z_seqx ?_
        | with_reducible refine z_seqr ?_
        | with_reducible refine z_blkh ?_
        | with_reducible refine z_lopx ?_
        | with_reducible refine z_skip ?_
        | with_reducible refine z_exit ?_
        | with_reducible refine z_ret ?_
        | with_reducible refine z_reg ?_
        | with_reducible refine z_nil ?_
        | ((with_reducible apply z_cond_t); (case hc => exact rfl))
        | ((with_reducible apply z_cond_f); (case hc => exact rfl))
        | ((with_reducible apply z_cond); (case hc => ((conv => {lhs; whnf}) <;> exact rfl)); (all_goals intro _))
        | ((with_reducible apply z_gt); (case hg => exact rfl))
        | ((with_reducible apply z_g); (case hg => exact rfl))
        | ((with_reducible apply z_mv); (case h => ((conv => {lhs; whnf}) <;> exact rfl)))
        | ((with_reducible apply z_pick_t); (case hc => exact rfl); (case h => ((conv => {lhs; whnf}) <;> exact rfl)))
        | ((with_reducible apply z_pick_f); (case hc => exact rfl); (case h => ((conv => {lhs; whnf}) <;> exact rfl)))
        | ((with_reducible apply z_fa); (case h => ((conv => {lhs; whnf}) <;> exact rfl)))
        | ((with_reducible apply z_ld); (case h => ((conv => {lhs; whnf}) <;> exact rfl)); (case hc => ((conv => {lhs; whnf}) <;> exact rfl)); (case hd => ((conv => {lhs; whnf}) <;> exact rfl)))
        | ((with_reducible apply z_lda); (case h => ((conv => {lhs; whnf}) <;> exact rfl)); (case hc => ((conv => {lhs; whnf}) <;> exact rfl)); (case hb => exact rfl); (case hr => ((conv => {lhs; whnf}) <;> exact rfl)))
        | ((with_reducible apply z_bin); (case hx => ((conv => {lhs; whnf}) <;> exact rfl)); (case hy => ((conv => {lhs; whnf}) <;> exact rfl)))
        | ((with_reducible apply z_ixp); (case hi => ((conv => {lhs; whnf}) <;> exact rfl)); (case hx => ((conv => {lhs; whnf}) <;> exact rfl)))
        | ((with_reducible apply z_ext0); (case hx => ((conv => {lhs; whnf}) <;> exact rfl)))
        | ((with_reducible apply z_ext1); (case hx => ((conv => {lhs; whnf}) <;> exact rfl)))
        | ((with_reducible apply z_bld); (case hp => exact rfl); (case h1 => ((conv => {lhs; whnf}) <;> exact rfl)); (case h2 => exact rfl); (case hr => ((conv => {lhs; whnf}) <;> exact rfl)))
        | ((with_reducible apply z_zero); (case hc => ((conv => {lhs; whnf}) <;> exact rfl)); (case hq => ((conv => {lhs; whnf}) <;> exact rfl)); (case hl => ((conv => {lhs; whnf}) <;> exact rfl)))
        | ((with_reducible apply z_st); (case ha => ((conv => {lhs; whnf}) <;> exact rfl)); (case hcs => ((conv => {lhs; whnf}) <;> exact rfl)); (case hx => ((conv => {lhs; whnf}) <;> exact rfl)); (case hb => exact rfl); (case hl => ((conv => {lhs; whnf}) <;> exact rfl)))
        | ((with_reducible apply z_eqs); (case hx => ((conv => {lhs; whnf}) <;> exact rfl)); (case hy => ((conv => {lhs; whnf}) <;> exact rfl)); (case h => ((conv => {lhs; whnf}) <;> exact rfl)); (case hb => ((conv => {lhs; whnf}) <;> exact rfl)))
        | ((with_reducible apply z_fin); (case he => exact rfl); (case hr => ((conv => {lhs; whnf}) <;> exact rfl)))
        | with_reducible refine s_lss_f (by omega) ?_
        | with_reducible refine s_neq (fun _ => ?_) (fun _ => ?_)
        | with_reducible refine s_sneq (fun _ => ?_) (fun _ => ?_)
        | refine And.intro (by omega) ?_
        | fail)
      all_goals first
        | exact no (fun h => ‹¬ meE _ = 0› (hmt.1 h).2.1) (by kernel_rfl)
        | exact no (fun h => ‹¬ meS _ = s› (hmt.1 h).2.2) (by kernel_rfl)
        | (exfalso
           have hm := sizeB_in (meE_0 ‹meE _ = 0›).1
           dsimp only at hm
           rename_i hq
           have h5 : (rdN b 5 == 0) = false := by simpa using (show rdN b 5 ≠ 0 by omega)
           rw [h5] at hq
           exact Bool.noConfusion hq)
        | (have hy : mtP s := hmt.2 ⟨he0, ‹_›, ‹_›⟩
           refine tup2_of (a := .agg #[.int .i64 (rdN b 5), .int .i64 (rdN b 9), .int .i64 r, .int .i64 l, .int .i64 (rdN b 13)]) (b := .int .i64 0) (by kernel_rfl) ?_ ?_
           · rw [hraw hy]
           · rw [(mt_yes hy).2])
  · have hn : ¬ mtP s := fun h => he0 (hmt.1 h).1
    refine z_pure (e0 := ?e0x2) mix e28 rfl ?z02 ?_
    (case z02 => exact rfl)
    dsimp only [c28]
    repeat' (first
      | ((with_reducible apply z_call); (case' hd => apply d0); (case hw => exact wknL_ok rfl); (try any_goals (first | omega | (dsimp only; omega) | (simp only [ByteArray.size_append, ByteArray.size_extract, strOfNums_size, List.length_cons, List.length_nil, List.length_map, List.length_append, List.length_take, List.length_drop]; omega))))
      | with_reducible refine z_seq ?_
      | with_reducible refine z_seqn ?_
      | with_reducible refine z_seqr ?_
      | with_reducible refine z_ret ?_
      | with_reducible refine z_reg ?_
      | with_reducible refine z_nil ?_
      | ((with_reducible apply z_cond_t); (case hc => exact rfl))
      | ((with_reducible apply z_mv); (case h => ((conv => {lhs; whnf}) <;> exact rfl)))
      | ((with_reducible apply z_bin); (case hx => ((conv => {lhs; whnf}) <;> exact rfl)); (case hy => ((conv => {lhs; whnf}) <;> exact rfl)))
      | ((with_reducible apply z_ext0); (case hx => ((conv => {lhs; whnf}) <;> exact rfl)))
      | ((with_reducible apply z_ext1); (case hx => ((conv => {lhs; whnf}) <;> exact rfl)))
      | ((with_reducible apply z_ext2); (case hx => ((conv => {lhs; whnf}) <;> exact rfl)))
      | ((with_reducible apply z_bld); (case hp => exact rfl); (case h1 => ((conv => {lhs; whnf}) <;> exact rfl)); (case h2 => exact rfl); (case hr => ((conv => {lhs; whnf}) <;> exact rfl)))
      | ((with_reducible apply z_zero); (case hc => ((conv => {lhs; whnf}) <;> exact rfl)); (case hq => ((conv => {lhs; whnf}) <;> exact rfl)); (case hl => ((conv => {lhs; whnf}) <;> exact rfl)))
      | ((with_reducible apply z_st); (case ha => ((conv => {lhs; whnf}) <;> exact rfl)); (case hcs => ((conv => {lhs; whnf}) <;> exact rfl)); (case hx => ((conv => {lhs; whnf}) <;> exact rfl)); (case hb => exact rfl); (case hl => ((conv => {lhs; whnf}) <;> exact rfl)))
      | ((with_reducible apply z_fin); (case he => exact rfl); (case hr => ((conv => {lhs; whnf}) <;> exact rfl)))
      | with_reducible refine s_neq_t (by omega) ?_
      | fail)
    exact no hn (by kernel_rfl)
end Go.Proofs.YtlbodfkhenkcjaaGreatDoor.X


namespace Go.Proofs.YtlbodfkhenkcjaaGreatDoor.X
open Go Go.Proofs Go.RowKit Go.Proofs.YtlbodfkhenkcjaaGreatDoor.D
set_option maxRecDepth 100000
set_option maxHeartbeats 1000000
set_option linter.unusedVariables false
set_option linter.unusedSimpArgs false
variable {I : D.Inv}
attribute [local irreducible] D.DPure D.DEff D.callable lfM lfE inM inE chM chE mtM mtE

def c45 : DFun := ⟨56, [.t 2], .seq (.reg [⟨some 2, .mv (.c .nilIface), none⟩]) (.seq (.seq (.reg [⟨some 11, .mv (.t 0), none⟩, ⟨some 12, .bin .eql (.t 11) (.c (.string ⟨#[]⟩)), none⟩]) (.cond (.t 12) (.seq (.reg [⟨some 2, .mv (.c .nilIface), none⟩]) .ret) .skip)) (.seq (.seq (.reg [⟨some 13, .mv (.t 0), none⟩, ⟨some 14, .ixs (.t 13) (.c (.int .i64 0)), none⟩, ⟨some 15, .cvt .i64 (.t 14), none⟩]) (.block 0 (.seq (.reg [⟨some 17, .bin .eql (.t 15) (.c (.int .i64 2)), none⟩, ⟨some 16, .mv (.t 17), none⟩]) (.cond (.t 16) (.seq (.reg [⟨some 19, .mv (.t 0), none⟩, ⟨some 20, .call 25 [.t 19], none⟩, ⟨some 18, .mv (.t 20), none⟩, ⟨some 21, .ext (.t 18) 0, none⟩, ⟨some 22, .ext (.t 18) 1, none⟩, ⟨some 3, .zero (.agg #[.int .i64 0, .int .i64 0, .string ⟨#[]⟩, .slice none 0 0]), none⟩, ⟨none, .st 4 (.t 3) (.t 21), none⟩, ⟨some 4, .mv (.t 22), none⟩]) (.seq (.reg [⟨some 23, .ld 4 true (.t 3), none⟩, ⟨some 24, .bld [.int .i64 0, .int .i64 0, .string ⟨#[]⟩, .slice none 0 0] [(0, 4, .t 23)], none⟩, ⟨some 25, .mki 100 (.t 24), none⟩, ⟨some 2, .mv (.t 25), none⟩]) .ret)) (.seq (.reg [⟨some 27, .bin .eql (.t 15) (.c (.int .i64 3)), none⟩, ⟨some 26, .mv (.t 27), none⟩]) (.cond (.t 26) (.seq (.reg [⟨some 29, .mv (.t 0), none⟩, ⟨some 30, .call 26 [.t 29], none⟩, ⟨some 28, .mv (.t 30), none⟩, ⟨some 31, .ext (.t 28) 0, none⟩, ⟨some 32, .ext (.t 28) 1, none⟩, ⟨some 5, .zero (.agg #[.int .i64 0, .int .i64 0, .int .i64 0, .string ⟨#[]⟩, .slice none 0 0, .slice none 0 0]), none⟩, ⟨none, .st 6 (.t 5) (.t 31), none⟩, ⟨some 6, .mv (.t 32), none⟩]) (.seq (.reg [⟨some 33, .ld 6 true (.t 5), none⟩, ⟨some 34, .bld [.int .i64 0, .int .i64 0, .int .i64 0, .string ⟨#[]⟩, .slice none 0 0, .slice none 0 0] [(0, 6, .t 33)], none⟩, ⟨some 35, .mki 102 (.t 34), none⟩, ⟨some 2, .mv (.t 35), none⟩]) .ret)) (.seq (.reg [⟨some 37, .bin .eql (.t 15) (.c (.int .i64 4)), none⟩, ⟨some 36, .mv (.t 37), none⟩]) (.cond (.t 36) (.seq (.reg [⟨some 39, .mv (.t 0), none⟩, ⟨some 40, .call 27 [.t 39], none⟩, ⟨some 38, .mv (.t 40), none⟩, ⟨some 41, .ext (.t 38) 0, none⟩, ⟨some 42, .ext (.t 38) 1, none⟩, ⟨some 7, .zero (.agg #[.int .i64 0, .int .i64 0, .string ⟨#[]⟩]), none⟩, ⟨none, .st 3 (.t 7) (.t 41), none⟩, ⟨some 8, .mv (.t 42), none⟩]) (.seq (.reg [⟨some 43, .ld 3 true (.t 7), none⟩, ⟨some 44, .bld [.int .i64 0, .int .i64 0, .string ⟨#[]⟩] [(0, 3, .t 43)], none⟩, ⟨some 45, .mki 104 (.t 44), none⟩, ⟨some 2, .mv (.t 45), none⟩]) .ret)) (.seq (.reg [⟨some 47, .bin .eql (.t 15) (.c (.int .i64 1)), none⟩, ⟨some 46, .mv (.t 47), none⟩]) (.cond (.t 46) (.seq (.reg [⟨some 49, .mv (.t 0), none⟩, ⟨some 50, .call 28 [.t 49], none⟩, ⟨some 48, .mv (.t 50), none⟩, ⟨some 51, .ext (.t 48) 0, none⟩, ⟨some 52, .ext (.t 48) 1, none⟩, ⟨some 9, .zero (.agg #[.int .i64 0, .int .i64 0, .int .i64 0, .int .i64 0, .int .i64 0]), none⟩, ⟨none, .st 5 (.t 9) (.t 51), none⟩, ⟨some 10, .mv (.t 52), none⟩]) (.seq (.reg [⟨some 53, .ld 5 true (.t 9), none⟩, ⟨some 54, .bld [.int .i64 0, .int .i64 0, .int .i64 0, .int .i64 0, .int .i64 0] [(0, 5, .t 53)], none⟩, ⟨some 55, .mki 106 (.t 54), none⟩, ⟨some 2, .mv (.t 55), none⟩]) .ret)) .skip)))))))))) (.seq (.reg [⟨some 2, .mv (.c .nilIface), none⟩]) .ret)))⟩
theorem e45 : cfun Tryz.prog 45 = some c45 := by kernel_rfl
noncomputable def pageD (s : ByteArray) : DV :=
  if s.size = 0 then .v .nilIface
  else if byteAt s 0 = 2 then .ifc 100 (leafD (lfM s))
  else if byteAt s 0 = 3 then .ifc 102 (innerD (inM s))
  else if byteAt s 0 = 4 then .v (.iface 104 (chainV (chM s)))
  else if byteAt s 0 = 1 then .v (.iface 106 (metaV (mtM s)))
  else .v .nilIface
theorem pg_nil {s : ByteArray} (h : s = nilS) : pageD s = .v .nilIface := by subst h; rfl
theorem sz_ne {s : ByteArray} (h : ¬ s = nilS) : ¬ s.size = 0 := fun h0 => h (by
  obtain ⟨d⟩ := s
  exact congrArg ByteArray.mk (Array.eq_empty_of_size_eq_zero h0))
theorem pg_2 {s : ByteArray} (h : ¬ s = nilS) (hb : byteAt s (Int.toNat 0) = 2) : pageD s = .ifc 100 (leafD (lfM s)) := by
  have hb' : byteAt s 0 = 2 := hb
  unfold pageD; rw [if_neg (sz_ne h), if_pos hb']
theorem pg_3 {s : ByteArray} (h : ¬ s = nilS) (hb : byteAt s (Int.toNat 0) = 3) : pageD s = .ifc 102 (innerD (inM s)) := by
  have hb' : byteAt s 0 = 3 := hb
  unfold pageD; rw [if_neg (sz_ne h), if_neg (by omega), if_pos hb']
theorem pg_4 {s : ByteArray} (h : ¬ s = nilS) (hb : byteAt s (Int.toNat 0) = 4) : pageD s = .v (.iface 104 (chainV (chM s))) := by
  have hb' : byteAt s 0 = 4 := hb
  unfold pageD; rw [if_neg (sz_ne h), if_neg (by omega), if_neg (by omega), if_pos hb']
theorem pg_1 {s : ByteArray} (h : ¬ s = nilS) (hb : byteAt s (Int.toNat 0) = 1) : pageD s = .v (.iface 106 (metaV (mtM s))) := by
  have hb' : byteAt s 0 = 1 := hb
  unfold pageD; rw [if_neg (sz_ne h), if_neg (by omega), if_neg (by omega), if_neg (by omega), if_pos hb']
theorem pg_no {s : ByteArray} (h1 : ¬ byteAt s (Int.toNat 0) = 2) (h2 : ¬ byteAt s (Int.toNat 0) = 3) (h3 : ¬ byteAt s (Int.toNat 0) = 4) (h4 : ¬ byteAt s (Int.toNat 0) = 1) : pageD s = .v .nilIface := by
  unfold pageD
  split
  · rfl
  · have g1 : ¬ byteAt s 0 = 2 := h1
    have g2 : ¬ byteAt s 0 = 3 := h2
    have g3 : ¬ byteAt s 0 = 4 := h3
    have g4 : ¬ byteAt s 0 = 1 := h4
    rw [if_neg g1, if_neg g2, if_neg g3, if_neg g4]
theorem read_page (s : ByteArray) (hs : s.size ≤ 1200) : DPure Tp GI 45 [SV s] (pageD s) := by
  have d1 := leaf_D s hs
  have d2 := inner_D s hs
  have d3 := chain_D (I := GI) s (by omega)
  have d4 := meta_D (I := GI) s (by omega)
  have hlo := byteAt_lo s (Int.toNat 0)
  have hhi := byteAt_hi s (Int.toNat 0)
  refine z_pure (e0 := ?e0x1) mix e45 rfl ?z01 ?_
  (case z01 => exact rfl)
  dsimp only [c45]
  repeat' (first
    | ((with_reducible apply z_call); (case' hd => apply d1); (case hw => exact wknL_ok rfl); (try any_goals (first | omega | (dsimp only; omega) | (simp only [ByteArray.size_append, ByteArray.size_extract, strOfNums_size, List.length_cons, List.length_nil, List.length_map, List.length_append, List.length_take, List.length_drop]; omega))))
    | ((with_reducible apply z_call); (case' hd => apply d2); (case hw => exact wknL_ok rfl); (try any_goals (first | omega | (dsimp only; omega) | (simp only [ByteArray.size_append, ByteArray.size_extract, strOfNums_size, List.length_cons, List.length_nil, List.length_map, List.length_append, List.length_take, List.length_drop]; omega))))
    | ((with_reducible apply z_call); (case' hd => apply d3); (case hw => exact wknL_ok rfl); (try any_goals (first | omega | (dsimp only; omega) | (simp only [ByteArray.size_append, ByteArray.size_extract, strOfNums_size, List.length_cons, List.length_nil, List.length_map, List.length_append, List.length_take, List.length_drop]; omega))))
    | ((with_reducible apply z_call); (case' hd => apply d4); (case hw => exact wknL_ok rfl); (try any_goals (first | omega | (dsimp only; omega) | (simp only [ByteArray.size_append, ByteArray.size_extract, strOfNums_size, List.length_cons, List.length_nil, List.length_map, List.length_append, List.length_take, List.length_drop]; omega))))
    | refine And.intro (Nat.pos_of_ne_zero (sz_ne ‹_›)) ?_
    | with_reducible refine z_seq ?_
    | with_reducible refine z_seqn ?_
    | with_reducible refine z_seqr ?_
    | with_reducible refine z_blk ?_
    | with_reducible refine z_blkn ?_
    | with_reducible refine z_blkr ?_
    | with_reducible refine z_skip ?_
    | with_reducible refine z_ret ?_
    | with_reducible refine z_reg ?_
    | with_reducible refine z_nil ?_
    | ((with_reducible apply z_cond_t); (case hc => exact rfl))
    | ((with_reducible apply z_cond_f); (case hc => exact rfl))
    | ((with_reducible apply z_mv); (case h => ((conv => {lhs; whnf}) <;> exact rfl)))
    | ((with_reducible apply z_lda); (case h => ((conv => {lhs; whnf}) <;> exact rfl)); (case hc => ((conv => {lhs; whnf}) <;> exact rfl)); (case hb => exact rfl); (case hr => ((conv => {lhs; whnf}) <;> exact rfl)))
    | ((with_reducible apply z_bin); (case hx => ((conv => {lhs; whnf}) <;> exact rfl)); (case hy => ((conv => {lhs; whnf}) <;> exact rfl)))
    | ((with_reducible apply z_cvt); (case hx => ((conv => {lhs; whnf}) <;> exact rfl)))
    | ((with_reducible apply z_mki); (case hx => ((conv => {lhs; whnf}) <;> exact rfl)); (case hr => ((conv => {lhs; whnf}) <;> exact rfl)))
    | ((with_reducible apply z_ixs); (case hi => ((conv => {lhs; whnf}) <;> exact rfl)); (case hx => ((conv => {lhs; whnf}) <;> exact rfl)))
    | ((with_reducible apply z_ext0); (case hx => ((conv => {lhs; whnf}) <;> exact rfl)))
    | ((with_reducible apply z_ext1); (case hx => ((conv => {lhs; whnf}) <;> exact rfl)))
    | ((with_reducible apply z_extt); (case hx => ((conv => {lhs; whnf}) <;> exact rfl)); (case h => ((conv => {lhs; whnf}) <;> exact rfl)))
    | ((with_reducible apply z_bld); (case hp => exact rfl); (case h1 => ((conv => {lhs; whnf}) <;> exact rfl)); (case h2 => exact rfl); (case hr => ((conv => {lhs; whnf}) <;> exact rfl)))
    | ((with_reducible apply z_zero); (case hc => ((conv => {lhs; whnf}) <;> exact rfl)); (case hq => ((conv => {lhs; whnf}) <;> exact rfl)); (case hl => ((conv => {lhs; whnf}) <;> exact rfl)))
    | ((with_reducible apply z_st); (case ha => ((conv => {lhs; whnf}) <;> exact rfl)); (case hcs => ((conv => {lhs; whnf}) <;> exact rfl)); (case hx => ((conv => {lhs; whnf}) <;> exact rfl)); (case hb => exact rfl); (case hl => ((conv => {lhs; whnf}) <;> exact rfl)))
    | ((with_reducible apply z_fin); (case he => exact rfl); (case hr => ((conv => {lhs; whnf}) <;> exact rfl)))
    | with_reducible refine s_eql (fun _ => ?_) (fun _ => ?_)
    | with_reducible refine c_i64_b ?_
    | with_reducible refine s_seql (fun _ => ?_) (fun _ => ?_)
    | refine And.intro (by omega) ?_
    | fail)
  · rw [pg_nil ‹_›]; exact wkn_ok (by kernel_rfl)
  · rw [pg_2 ‹_› ‹_›]; exact wkn_ok (by kernel_rfl)
  · rw [pg_3 ‹_› ‹_›]; exact wkn_ok (by kernel_rfl)
  · rw [pg_4 ‹_› ‹_›]; exact wkn_ok (by kernel_rfl)
  · rw [pg_1 ‹_› ‹_›]; exact wkn_ok (by kernel_rfl)
  · rw [pg_no ‹_› ‹_› ‹_› ‹_›]; exact wkn_ok (by kernel_rfl)
end Go.Proofs.YtlbodfkhenkcjaaGreatDoor.X


namespace Go.Proofs.YtlbodfkhenkcjaaGreatDoor.X
open Go Go.Proofs Go.RowKit Go.Proofs.YtlbodfkhenkcjaaGreatDoor.D
set_option maxRecDepth 100000
set_option maxHeartbeats 1000000
set_option linter.unusedVariables false
set_option linter.unusedSimpArgs false
variable {I : D.Inv}
attribute [local irreducible] D.DPure D.DEff D.callable

def c228 : DFun := ⟨7, [.t 2], .seq (.reg [⟨some 1, .box (.t 0), none⟩, ⟨some 2, .mv (.c (.bool false)), none⟩]) (.seq (.reg [⟨some 3, .fa 0 (.t 1), none⟩, ⟨some 4, .fa 0 (.t 3), none⟩, ⟨some 5, .ld 1 false (.t 4), none⟩, ⟨some 6, .bin .eql (.t 5) (.c (.int .i64 0)), none⟩, ⟨some 2, .mv (.t 6), none⟩]) .ret)⟩
theorem e228 : cfun Tryz.prog 228 = some c228 := by kernel_rfl
def c229 : DFun := ⟨7, [.t 2], .seq (.reg [⟨some 1, .box (.t 0), none⟩, ⟨some 2, .mv (.c (.bool false)), none⟩]) (.seq (.reg [⟨some 3, .fa 0 (.t 1), none⟩, ⟨some 4, .fa 0 (.t 3), none⟩, ⟨some 5, .ld 1 false (.t 4), none⟩, ⟨some 6, .bin .eql (.t 5) (.c (.int .i64 0)), none⟩, ⟨some 2, .mv (.t 6), none⟩]) .ret)⟩
theorem e229 : cfun Tryz.prog 229 = some c229 := by kernel_rfl
def c230 : DFun := ⟨7, [.t 2], .seq (.reg [⟨some 1, .box (.t 0), none⟩, ⟨some 2, .mv (.c (.bool false)), none⟩]) (.seq (.reg [⟨some 3, .fa 0 (.t 1), none⟩, ⟨some 4, .fa 0 (.t 3), none⟩, ⟨some 5, .ld 1 false (.t 4), none⟩, ⟨some 6, .bin .eql (.t 5) (.c (.int .i64 0)), none⟩, ⟨some 2, .mv (.t 6), none⟩]) .ret)⟩
theorem e230 : cfun Tryz.prog 230 = some c230 := by kernel_rfl
def c231 : DFun := ⟨7, [.t 2], .seq (.reg [⟨some 1, .box (.t 0), none⟩, ⟨some 2, .mv (.c (.bool false)), none⟩]) (.seq (.reg [⟨some 3, .fa 0 (.t 1), none⟩, ⟨some 4, .fa 0 (.t 3), none⟩, ⟨some 5, .ld 1 false (.t 4), none⟩, ⟨some 6, .bin .eql (.t 5) (.c (.int .i64 0)), none⟩, ⟨some 2, .mv (.t 6), none⟩]) .ret)⟩
theorem e231 : cfun Tryz.prog 231 = some c231 := by kernel_rfl
theorem none_leaf (a b : Int) (h : ByteArray) (l : List ItemM) : DPure Tp I 228 [.agg [VN .i64 a, VN .i64 b, SV h, .list 5 (itemsL l)]] (BV (decide (a = 0))) := by
  refine z_pure (e0 := ?e0x1) mix e228 rfl ?z01 ?_
  (case z01 => exact rfl)
  dsimp only [c228]
  repeat' (first
    | with_reducible refine z_seq ?_
    | with_reducible refine z_seqn ?_
    | with_reducible refine z_ret ?_
    | with_reducible refine z_reg ?_
    | with_reducible refine z_nil ?_
    | ((with_reducible apply z_mv); (case h => ((conv => {lhs; whnf}) <;> exact rfl)))
    | ((with_reducible apply z_fa); (case h => ((conv => {lhs; whnf}) <;> exact rfl)))
    | ((with_reducible apply z_ld); (case h => ((conv => {lhs; whnf}) <;> exact rfl)); (case hc => ((conv => {lhs; whnf}) <;> exact rfl)); (case hd => ((conv => {lhs; whnf}) <;> exact rfl)))
    | ((with_reducible apply z_bin); (case hx => ((conv => {lhs; whnf}) <;> exact rfl)); (case hy => ((conv => {lhs; whnf}) <;> exact rfl)))
    | ((with_reducible apply z_box); (case hx => ((conv => {lhs; whnf}) <;> exact rfl)); (case hu => exact rfl); (case hc => ((conv => {lhs; whnf}) <;> exact rfl)); (case hq => ((conv => {lhs; whnf}) <;> exact rfl)); (case hl => ((conv => {lhs; whnf}) <;> exact rfl)))
    | ((with_reducible apply z_fin); (case he => exact rfl); (case hr => ((conv => {lhs; whnf}) <;> exact rfl)))
    | with_reducible refine s_eql (fun _ => ?_) (fun _ => ?_)
    | fail)
  all_goals first
    | exact bool_of (b := true) (by kernel_rfl) (decide_eq_true ‹_›).symm
    | exact bool_of (b := false) (by kernel_rfl) (decide_eq_false ‹_›).symm
theorem none_inner (a b c : Int) (h : ByteArray) (k : List Int) (l : List ByteArray) : DPure Tp I 229 [.agg [VN .i64 a, VN .i64 b, VN .i64 c, SV h, .list 1 (k.map fun n => VN .i64 n), .list 1 (strsL l)]] (BV (decide (a = 0))) := by
  refine z_pure (e0 := ?e0x2) mix e229 rfl ?z02 ?_
  (case z02 => exact rfl)
  dsimp only [c229]
  repeat' (first
    | with_reducible refine z_seq ?_
    | with_reducible refine z_seqn ?_
    | with_reducible refine z_ret ?_
    | with_reducible refine z_reg ?_
    | with_reducible refine z_nil ?_
    | ((with_reducible apply z_mv); (case h => ((conv => {lhs; whnf}) <;> exact rfl)))
    | ((with_reducible apply z_fa); (case h => ((conv => {lhs; whnf}) <;> exact rfl)))
    | ((with_reducible apply z_ld); (case h => ((conv => {lhs; whnf}) <;> exact rfl)); (case hc => ((conv => {lhs; whnf}) <;> exact rfl)); (case hd => ((conv => {lhs; whnf}) <;> exact rfl)))
    | ((with_reducible apply z_bin); (case hx => ((conv => {lhs; whnf}) <;> exact rfl)); (case hy => ((conv => {lhs; whnf}) <;> exact rfl)))
    | ((with_reducible apply z_box); (case hx => ((conv => {lhs; whnf}) <;> exact rfl)); (case hu => exact rfl); (case hc => ((conv => {lhs; whnf}) <;> exact rfl)); (case hq => ((conv => {lhs; whnf}) <;> exact rfl)); (case hl => ((conv => {lhs; whnf}) <;> exact rfl)))
    | ((with_reducible apply z_fin); (case he => exact rfl); (case hr => ((conv => {lhs; whnf}) <;> exact rfl)))
    | with_reducible refine s_eql (fun _ => ?_) (fun _ => ?_)
    | fail)
  all_goals first
    | exact bool_of (b := true) (by kernel_rfl) (decide_eq_true ‹_›).symm
    | exact bool_of (b := false) (by kernel_rfl) (decide_eq_false ‹_›).symm
theorem none_chain (a b : Int) (h : ByteArray) : DPure Tp I 230 [.v (.agg #[.int .i64 a, .int .i64 b, .string h])] (BV (decide (a = 0))) := by
  refine z_pure (e0 := ?e0x3) mix e230 rfl ?z03 ?_
  (case z03 => exact rfl)
  dsimp only [c230]
  repeat' (first
    | with_reducible refine z_seq ?_
    | with_reducible refine z_seqn ?_
    | with_reducible refine z_ret ?_
    | with_reducible refine z_reg ?_
    | with_reducible refine z_nil ?_
    | ((with_reducible apply z_mv); (case h => ((conv => {lhs; whnf}) <;> exact rfl)))
    | ((with_reducible apply z_fa); (case h => ((conv => {lhs; whnf}) <;> exact rfl)))
    | ((with_reducible apply z_ld); (case h => ((conv => {lhs; whnf}) <;> exact rfl)); (case hc => ((conv => {lhs; whnf}) <;> exact rfl)); (case hd => ((conv => {lhs; whnf}) <;> exact rfl)))
    | ((with_reducible apply z_bin); (case hx => ((conv => {lhs; whnf}) <;> exact rfl)); (case hy => ((conv => {lhs; whnf}) <;> exact rfl)))
    | ((with_reducible apply z_box); (case hx => ((conv => {lhs; whnf}) <;> exact rfl)); (case hu => exact rfl); (case hc => ((conv => {lhs; whnf}) <;> exact rfl)); (case hq => ((conv => {lhs; whnf}) <;> exact rfl)); (case hl => ((conv => {lhs; whnf}) <;> exact rfl)))
    | ((with_reducible apply z_fin); (case he => exact rfl); (case hr => ((conv => {lhs; whnf}) <;> exact rfl)))
    | with_reducible refine s_eql (fun _ => ?_) (fun _ => ?_)
    | fail)
  all_goals first
    | exact bool_of (b := true) (by kernel_rfl) (decide_eq_true ‹_›).symm
    | exact bool_of (b := false) (by kernel_rfl) (decide_eq_false ‹_›).symm
theorem none_meta (a b c d e : Int) : DPure Tp I 231 [.v (.agg #[.int .i64 a, .int .i64 b, .int .i64 c, .int .i64 d, .int .i64 e])] (BV (decide (a = 0))) := by
  refine z_pure (e0 := ?e0x4) mix e231 rfl ?z04 ?_
  (case z04 => exact rfl)
  dsimp only [c231]
  repeat' (first
    | with_reducible refine z_seq ?_
    | with_reducible refine z_seqn ?_
    | with_reducible refine z_ret ?_
    | with_reducible refine z_reg ?_
    | with_reducible refine z_nil ?_
    | ((with_reducible apply z_mv); (case h => ((conv => {lhs; whnf}) <;> exact rfl)))
    | ((with_reducible apply z_fa); (case h => ((conv => {lhs; whnf}) <;> exact rfl)))
    | ((with_reducible apply z_ld); (case h => ((conv => {lhs; whnf}) <;> exact rfl)); (case hc => ((conv => {lhs; whnf}) <;> exact rfl)); (case hd => ((conv => {lhs; whnf}) <;> exact rfl)))
    | ((with_reducible apply z_bin); (case hx => ((conv => {lhs; whnf}) <;> exact rfl)); (case hy => ((conv => {lhs; whnf}) <;> exact rfl)))
    | ((with_reducible apply z_box); (case hx => ((conv => {lhs; whnf}) <;> exact rfl)); (case hu => exact rfl); (case hc => ((conv => {lhs; whnf}) <;> exact rfl)); (case hq => ((conv => {lhs; whnf}) <;> exact rfl)); (case hl => ((conv => {lhs; whnf}) <;> exact rfl)))
    | ((with_reducible apply z_fin); (case he => exact rfl); (case hr => ((conv => {lhs; whnf}) <;> exact rfl)))
    | with_reducible refine s_eql (fun _ => ?_) (fun _ => ?_)
    | fail)
  all_goals first
    | exact bool_of (b := true) (by kernel_rfl) (decide_eq_true ‹_›).symm
    | exact bool_of (b := false) (by kernel_rfl) (decide_eq_false ‹_›).symm
end Go.Proofs.YtlbodfkhenkcjaaGreatDoor.X


namespace Go.Proofs.YtlbodfkhenkcjaaGreatDoor.X
open Go Go.Proofs Go.RowKit Go.Proofs.YtlbodfkhenkcjaaGreatDoor.D
set_option maxRecDepth 100000
set_option maxHeartbeats 1000000
set_option linter.unusedVariables false
set_option linter.unusedSimpArgs false
variable {I : D.Inv}
attribute [local irreducible] D.DPure D.DEff D.callable

def c50 : DFun := ⟨35, [.t 2, .t 3], .seq (.reg [⟨some 1, .box (.t 0), none⟩, ⟨some 2, .mv (.c (.int .i64 0)), none⟩, ⟨some 3, .mv (.c (.int .i64 0)), none⟩]) (.seq (.seq (.reg [⟨some 4, .fa 0 (.t 1), none⟩, ⟨some 5, .ld 1 false (.t 4), none⟩]) (.block 0 (.seq (.reg [⟨some 7, .bin .eql (.t 5) (.c (.int .i64 2)), none⟩, ⟨some 6, .mv (.t 7), none⟩]) (.cond (.t 6) (.seq (.reg [⟨some 8, .fa 1 (.t 1), none⟩, ⟨some 9, .fa 0 (.t 8), none⟩, ⟨some 10, .ld 1 false (.t 9), none⟩, ⟨some 11, .fa 1 (.t 1), none⟩, ⟨some 12, .fa 1 (.t 11), none⟩, ⟨some 13, .ld 1 false (.t 12), none⟩, ⟨some 2, .mv (.t 10), none⟩, ⟨some 3, .mv (.t 13), none⟩]) .ret) (.seq (.reg [⟨some 15, .bin .eql (.t 5) (.c (.int .i64 3)), none⟩, ⟨some 14, .mv (.t 15), none⟩]) (.cond (.t 14) (.seq (.reg [⟨some 16, .fa 5 (.t 1), none⟩, ⟨some 17, .fa 0 (.t 16), none⟩, ⟨some 18, .ld 1 false (.t 17), none⟩, ⟨some 19, .fa 5 (.t 1), none⟩, ⟨some 20, .fa 2 (.t 19), none⟩, ⟨some 21, .ld 1 false (.t 20), none⟩, ⟨some 2, .mv (.t 18), none⟩, ⟨some 3, .mv (.t 21), none⟩]) .ret) (.seq (.reg [⟨some 23, .bin .eql (.t 5) (.c (.int .i64 4)), none⟩, ⟨some 22, .mv (.t 23), none⟩]) (.cond (.t 22) (.seq (.reg [⟨some 24, .fa 11 (.t 1), none⟩, ⟨some 25, .fa 0 (.t 24), none⟩, ⟨some 26, .ld 1 false (.t 25), none⟩, ⟨some 27, .fa 11 (.t 1), none⟩, ⟨some 28, .fa 1 (.t 27), none⟩, ⟨some 29, .ld 1 false (.t 28), none⟩, ⟨some 2, .mv (.t 26), none⟩, ⟨some 3, .mv (.t 29), none⟩]) .ret) (.seq (.reg [⟨some 31, .bin .eql (.t 5) (.c (.int .i64 1)), none⟩, ⟨some 30, .mv (.t 31), none⟩]) (.cond (.t 30) (.seq (.reg [⟨some 32, .fa 14 (.t 1), none⟩, ⟨some 33, .fa 2 (.t 32), none⟩, ⟨some 34, .ld 1 false (.t 33), none⟩, ⟨some 2, .mv (.c (.int .i64 0)), none⟩, ⟨some 3, .mv (.t 34), none⟩]) .ret) .skip)))))))))) (.seq (.reg [⟨some 2, .mv (.c (.int .i64 0)), none⟩, ⟨some 3, .mv (.c (.int .i64 0)), none⟩]) .ret))⟩
theorem e50 : cfun Tryz.prog 50 = some c50 := by kernel_rfl
def pageF (t : Int) (lf : LeafM) (n : InnerM) (ch : ChainM) (mt : MetaM) : DV :=
  .agg [VN .i64 t, VN .i64 lf.self, VN .i64 lf.right, SV lf.high, .list 5 (itemsL lf.items), VN .i64 n.self, VN .i64 n.level, VN .i64 n.right, SV n.high, .list 1 (n.kids.map fun n => VN .i64 n), .list 1 (strsL n.seps),
    VN .i64 ch.self, VN .i64 ch.next, SV ch.data, VN .i64 mt.p, VN .i64 mt.pages, VN .i64 mt.root, VN .i64 mt.level, VN .i64 mt.pairs]
theorem num_D0 (t a1 a2 b1 b2 b3 c1 c2 m1 m2 m3 m4 m5 : Int) (h1 h2 h3 : ByteArray) (l : List ItemM) (k : List Int) (q : List ByteArray) (x y : Int)
    (hx : (t = 2 ∧ x = a1 ∧ y = a2) ∨ (t = 3 ∧ x = b1 ∧ y = b3) ∨ (t = 4 ∧ x = c1 ∧ y = c2)) :
    DPure Tp I 50 [.agg [VN .i64 t, VN .i64 a1, VN .i64 a2, SV h1, .list 5 (itemsL l), VN .i64 b1, VN .i64 b2, VN .i64 b3, SV h2, .list 1 (k.map fun n => VN .i64 n), .list 1 (strsL q), VN .i64 c1, VN .i64 c2, SV h3, VN .i64 m1, VN .i64 m2, VN .i64 m3, VN .i64 m4, VN .i64 m5]] (.v (.tuple #[.int .i64 x, .int .i64 y])) := by
  rcases hx with ⟨rfl, rfl, rfl⟩ | ⟨rfl, rfl, rfl⟩ | ⟨rfl, rfl, rfl⟩
  · refine z_pure (e0 := ?e0x1) mix e50 rfl ?z01 ?_
    (case z01 => exact rfl)
    dsimp only [c50]
    repeat' (first
      | with_reducible refine z_seq ?_
      | with_reducible refine z_seqn ?_
      | with_reducible refine z_seqr ?_
      | with_reducible refine z_blk ?_
      | with_reducible refine z_blkr ?_
      | with_reducible refine z_ret ?_
      | with_reducible refine z_reg ?_
      | with_reducible refine z_nil ?_
      | ((with_reducible apply z_cond_t); (case hc => exact rfl))
      | ((with_reducible apply z_mv); (case h => ((conv => {lhs; whnf}) <;> exact rfl)))
      | ((with_reducible apply z_fa); (case h => ((conv => {lhs; whnf}) <;> exact rfl)))
      | ((with_reducible apply z_ld); (case h => ((conv => {lhs; whnf}) <;> exact rfl)); (case hc => ((conv => {lhs; whnf}) <;> exact rfl)); (case hd => ((conv => {lhs; whnf}) <;> exact rfl)))
      | ((with_reducible apply z_bin); (case hx => ((conv => {lhs; whnf}) <;> exact rfl)); (case hy => ((conv => {lhs; whnf}) <;> exact rfl)))
      | ((with_reducible apply z_box); (case hx => ((conv => {lhs; whnf}) <;> exact rfl)); (case hu => exact rfl); (case hc => ((conv => {lhs; whnf}) <;> exact rfl)); (case hq => ((conv => {lhs; whnf}) <;> exact rfl)); (case hl => ((conv => {lhs; whnf}) <;> exact rfl)))
      | ((with_reducible apply z_fin); (case he => exact rfl); (case hr => ((conv => {lhs; whnf}) <;> exact rfl)))
      | with_reducible refine s_eql_t (by omega) ?_
      | fail)
    all_goals exact wkn_ok (by kernel_rfl)
  · refine z_pure (e0 := ?e0x2) mix e50 rfl ?z02 ?_
    (case z02 => exact rfl)
    dsimp only [c50]
    repeat' (first
      | with_reducible refine z_seq ?_
      | with_reducible refine z_seqn ?_
      | with_reducible refine z_seqr ?_
      | with_reducible refine z_blk ?_
      | with_reducible refine z_blkr ?_
      | with_reducible refine z_ret ?_
      | with_reducible refine z_reg ?_
      | with_reducible refine z_nil ?_
      | ((with_reducible apply z_cond_t); (case hc => exact rfl))
      | ((with_reducible apply z_cond_f); (case hc => exact rfl))
      | ((with_reducible apply z_mv); (case h => ((conv => {lhs; whnf}) <;> exact rfl)))
      | ((with_reducible apply z_fa); (case h => ((conv => {lhs; whnf}) <;> exact rfl)))
      | ((with_reducible apply z_ld); (case h => ((conv => {lhs; whnf}) <;> exact rfl)); (case hc => ((conv => {lhs; whnf}) <;> exact rfl)); (case hd => ((conv => {lhs; whnf}) <;> exact rfl)))
      | ((with_reducible apply z_bin); (case hx => ((conv => {lhs; whnf}) <;> exact rfl)); (case hy => ((conv => {lhs; whnf}) <;> exact rfl)))
      | ((with_reducible apply z_box); (case hx => ((conv => {lhs; whnf}) <;> exact rfl)); (case hu => exact rfl); (case hc => ((conv => {lhs; whnf}) <;> exact rfl)); (case hq => ((conv => {lhs; whnf}) <;> exact rfl)); (case hl => ((conv => {lhs; whnf}) <;> exact rfl)))
      | ((with_reducible apply z_fin); (case he => exact rfl); (case hr => ((conv => {lhs; whnf}) <;> exact rfl)))
      | with_reducible refine s_eql_t (by omega) ?_
      | with_reducible refine s_eql_f (by omega) ?_
      | fail)
    all_goals exact wkn_ok (by kernel_rfl)
  · refine z_pure (e0 := ?e0x3) mix e50 rfl ?z03 ?_
    (case z03 => exact rfl)
    dsimp only [c50]
    repeat' (first
      | with_reducible refine z_seq ?_
      | with_reducible refine z_seqn ?_
      | with_reducible refine z_seqr ?_
      | with_reducible refine z_blk ?_
      | with_reducible refine z_blkr ?_
      | with_reducible refine z_ret ?_
      | with_reducible refine z_reg ?_
      | with_reducible refine z_nil ?_
      | ((with_reducible apply z_cond_t); (case hc => exact rfl))
      | ((with_reducible apply z_cond_f); (case hc => exact rfl))
      | ((with_reducible apply z_mv); (case h => ((conv => {lhs; whnf}) <;> exact rfl)))
      | ((with_reducible apply z_fa); (case h => ((conv => {lhs; whnf}) <;> exact rfl)))
      | ((with_reducible apply z_ld); (case h => ((conv => {lhs; whnf}) <;> exact rfl)); (case hc => ((conv => {lhs; whnf}) <;> exact rfl)); (case hd => ((conv => {lhs; whnf}) <;> exact rfl)))
      | ((with_reducible apply z_bin); (case hx => ((conv => {lhs; whnf}) <;> exact rfl)); (case hy => ((conv => {lhs; whnf}) <;> exact rfl)))
      | ((with_reducible apply z_box); (case hx => ((conv => {lhs; whnf}) <;> exact rfl)); (case hu => exact rfl); (case hc => ((conv => {lhs; whnf}) <;> exact rfl)); (case hq => ((conv => {lhs; whnf}) <;> exact rfl)); (case hl => ((conv => {lhs; whnf}) <;> exact rfl)))
      | ((with_reducible apply z_fin); (case he => exact rfl); (case hr => ((conv => {lhs; whnf}) <;> exact rfl)))
      | with_reducible refine s_eql_t (by omega) ?_
      | with_reducible refine s_eql_f (by omega) ?_
      | fail)
    all_goals exact wkn_ok (by kernel_rfl)
end Go.Proofs.YtlbodfkhenkcjaaGreatDoor.X


namespace Go.Proofs.YtlbodfkhenkcjaaGreatDoor.X
open Go Go.Proofs Go.RowKit Go.Proofs.YtlbodfkhenkcjaaGreatDoor.D
set_option maxRecDepth 100000
set_option maxHeartbeats 2000000
set_option linter.unusedVariables false
set_option linter.unusedSimpArgs false
attribute [local irreducible] D.DPure D.DEff D.callable lfM lfE inM inE chM chE mtM mtE

def c17 : DFun := ⟨45, [.c 2 19 true, .t 3], .seq (.reg [⟨some 2, .zero (.agg #[.int .i64 0, .int .i64 0, .int .i64 0, .string ⟨#[]⟩, .slice none 0 0, .int .i64 0, .int .i64 0, .int .i64 0, .string ⟨#[]⟩, .slice none 0 0, .slice none 0 0, .int .i64 0, .int .i64 0, .string ⟨#[]⟩, .int .i64 0, .int .i64 0, .int .i64 0, .int .i64 0, .int .i64 0]), none⟩, ⟨some 3, .mv (.c (.int .i64 0)), none⟩]) (.seq (.reg [⟨some 10, .mv (.t 0), none⟩, ⟨some 11, .call 45 [.t 10], none⟩, ⟨some 4, .mv (.t 11), none⟩]) (.seq (.seq (.reg [⟨some 12, .mv (.t 4), none⟩, ⟨some 13, .isnil 0 false (.t 12), none⟩, ⟨some 14, .mv (.t 13), none⟩, ⟨some 15, .mv (.t 4), some (14, false)⟩, ⟨some 16, .inv "withy/page.none" (.t 15) [], some (14, false)⟩, ⟨some 17, .pick (.t 14) (.c (.bool true)) (.t 16), none⟩]) (.cond (.t 17) (.seq (.reg [⟨some 18, .bld [.int .i64 0, .int .i64 0, .int .i64 0, .string ⟨#[]⟩, .slice none 0 0, .int .i64 0, .int .i64 0, .int .i64 0, .string ⟨#[]⟩, .slice none 0 0, .slice none 0 0, .int .i64 0, .int .i64 0, .string ⟨#[]⟩, .int .i64 0, .int .i64 0, .int .i64 0, .int .i64 0, .int .i64 0] [], none⟩, ⟨none, .st 19 (.t 2) (.t 18), none⟩, ⟨some 3, .mv (.c (.int .i64 3)), none⟩]) .ret) .skip)) (.seq (.reg [⟨some 5, .zero (.agg #[.int .i64 0, .int .i64 0, .int .i64 0, .string ⟨#[]⟩, .slice none 0 0, .int .i64 0, .int .i64 0, .int .i64 0, .string ⟨#[]⟩, .slice none 0 0, .slice none 0 0, .int .i64 0, .int .i64 0, .string ⟨#[]⟩, .int .i64 0, .int .i64 0, .int .i64 0, .int .i64 0, .int .i64 0]), none⟩]) (.seq (.seq (.reg [⟨some 19, .mv (.t 4), none⟩]) (.block 0 (.seq (.reg [⟨some 20, .ta 100 true (.agg #[.int .i64 0, .int .i64 0, .string ⟨#[]⟩, .slice none 0 0]) (.t 19), none⟩, ⟨some 21, .ext (.t 20) 1, none⟩, ⟨some 22, .ext (.t 20) 0, none⟩]) (.cond (.t 21) (.seq (.reg [⟨some 6, .zero (.agg #[.int .i64 0, .int .i64 0, .string ⟨#[]⟩, .slice none 0 0]), none⟩, ⟨none, .st 4 (.t 6) (.t 22), none⟩]) (.reg [⟨some 23, .fa 0 (.t 6), none⟩, ⟨some 24, .ld 4 true (.t 23), none⟩, ⟨some 25, .bld [.int .i64 0, .int .i64 0, .int .i64 0, .string ⟨#[]⟩, .slice none 0 0, .int .i64 0, .int .i64 0, .int .i64 0, .string ⟨#[]⟩, .slice none 0 0, .slice none 0 0, .int .i64 0, .int .i64 0, .string ⟨#[]⟩, .int .i64 0, .int .i64 0, .int .i64 0, .int .i64 0, .int .i64 0] [(0, 1, .c (.int .i64 2)), (1, 4, .t 24)], none⟩, ⟨none, .st 19 (.t 5) (.t 25), none⟩])) (.seq (.reg [⟨some 26, .ta 102 true (.agg #[.int .i64 0, .int .i64 0, .int .i64 0, .string ⟨#[]⟩, .slice none 0 0, .slice none 0 0]) (.t 19), none⟩, ⟨some 27, .ext (.t 26) 1, none⟩, ⟨some 28, .ext (.t 26) 0, none⟩]) (.cond (.t 27) (.seq (.reg [⟨some 7, .zero (.agg #[.int .i64 0, .int .i64 0, .int .i64 0, .string ⟨#[]⟩, .slice none 0 0, .slice none 0 0]), none⟩, ⟨none, .st 6 (.t 7) (.t 28), none⟩]) (.reg [⟨some 29, .fa 0 (.t 7), none⟩, ⟨some 30, .ld 6 true (.t 29), none⟩, ⟨some 31, .bld [.int .i64 0, .int .i64 0, .int .i64 0, .string ⟨#[]⟩, .slice none 0 0, .int .i64 0, .int .i64 0, .int .i64 0, .string ⟨#[]⟩, .slice none 0 0, .slice none 0 0, .int .i64 0, .int .i64 0, .string ⟨#[]⟩, .int .i64 0, .int .i64 0, .int .i64 0, .int .i64 0, .int .i64 0] [(0, 1, .c (.int .i64 3)), (5, 6, .t 30)], none⟩, ⟨none, .st 19 (.t 5) (.t 31), none⟩])) (.seq (.reg [⟨some 32, .ta 104 true (.agg #[.int .i64 0, .int .i64 0, .string ⟨#[]⟩]) (.t 19), none⟩, ⟨some 33, .ext (.t 32) 1, none⟩, ⟨some 34, .ext (.t 32) 0, none⟩]) (.cond (.t 33) (.seq (.reg [⟨some 8, .zero (.agg #[.int .i64 0, .int .i64 0, .string ⟨#[]⟩]), none⟩, ⟨none, .st 3 (.t 8) (.t 34), none⟩]) (.reg [⟨some 35, .fa 0 (.t 8), none⟩, ⟨some 36, .ld 3 true (.t 35), none⟩, ⟨some 37, .bld [.int .i64 0, .int .i64 0, .int .i64 0, .string ⟨#[]⟩, .slice none 0 0, .int .i64 0, .int .i64 0, .int .i64 0, .string ⟨#[]⟩, .slice none 0 0, .slice none 0 0, .int .i64 0, .int .i64 0, .string ⟨#[]⟩, .int .i64 0, .int .i64 0, .int .i64 0, .int .i64 0, .int .i64 0] [(0, 1, .c (.int .i64 4)), (11, 3, .t 36)], none⟩, ⟨none, .st 19 (.t 5) (.t 37), none⟩])) (.seq (.reg [⟨some 38, .ta 106 true (.agg #[.int .i64 0, .int .i64 0, .int .i64 0, .int .i64 0, .int .i64 0]) (.t 19), none⟩, ⟨some 39, .ext (.t 38) 1, none⟩, ⟨some 40, .ext (.t 38) 0, none⟩]) (.cond (.t 39) (.seq (.reg [⟨some 9, .zero (.agg #[.int .i64 0, .int .i64 0, .int .i64 0, .int .i64 0, .int .i64 0]), none⟩, ⟨none, .st 5 (.t 9) (.t 40), none⟩]) (.reg [⟨some 41, .fa 0 (.t 9), none⟩, ⟨some 42, .ld 5 true (.t 41), none⟩, ⟨some 43, .bld [.int .i64 0, .int .i64 0, .int .i64 0, .string ⟨#[]⟩, .slice none 0 0, .int .i64 0, .int .i64 0, .int .i64 0, .string ⟨#[]⟩, .slice none 0 0, .slice none 0 0, .int .i64 0, .int .i64 0, .string ⟨#[]⟩, .int .i64 0, .int .i64 0, .int .i64 0, .int .i64 0, .int .i64 0] [(0, 1, .c (.int .i64 1)), (14, 5, .t 42)], none⟩, ⟨none, .st 19 (.t 5) (.t 43), none⟩])) .skip)))))))))) (.seq (.reg [⟨some 44, .ld 19 true (.t 5), none⟩, ⟨none, .st 19 (.t 2) (.t 44), none⟩, ⟨some 3, .mv (.c (.int .i64 0)), none⟩]) .ret)))))⟩
theorem e17 : cfun Tryz.prog 17 = some c17 := by kernel_rfl
theorem m_leaf : Meth Tp 100 "withy/page.none" 228 := fun v W => by kernel_rfl
theorem m_inner : Meth Tp 102 "withy/page.none" 229 := fun v W => by kernel_rfl
theorem m_chain : Meth Tp 104 "withy/page.none" 230 := fun v W => by kernel_rfl
theorem m_meta : Meth Tp 106 "withy/page.none" 231 := fun v W => by kernel_rfl
theorem pgz {d : DV} (hd : d = .v (.tuple #[.agg #[.int .i64 0, .int .i64 0, .int .i64 0, .string nilS, .slice none 0 0, .int .i64 0, .int .i64 0, .int .i64 0, .string nilS, .slice none 0 0, .slice none 0 0, .int .i64 0, .int .i64 0, .string nilS, .int .i64 0, .int .i64 0, .int .i64 0, .int .i64 0, .int .i64 0], .int .i64 3])) :
    Wk d (.tup [pageF 0 leaf0 inner0 chain0 meta0, VN .i64 3]) := by
  subst hd
  exact Wk.vtupL (xs := [.agg #[.int .i64 0, .int .i64 0, .int .i64 0, .string nilS, .slice none 0 0, .int .i64 0, .int .i64 0, .int .i64 0, .string nilS, .slice none 0 0, .slice none 0 0, .int .i64 0, .int .i64 0, .string nilS, .int .i64 0, .int .i64 0, .int .i64 0, .int .i64 0, .int .i64 0], .int .i64 3])
    (.cons (Wk.vaggL (xs := [.int .i64 0, .int .i64 0, .int .i64 0, .string nilS, .slice none 0 0, .int .i64 0, .int .i64 0, .int .i64 0, .string nilS, .slice none 0 0, .slice none 0 0, .int .i64 0, .int .i64 0, .string nilS, .int .i64 0, .int .i64 0, .int .i64 0, .int .i64 0, .int .i64 0])
      (.cons (.v _) (.cons (.v _) (.cons (.v _) (.cons (.v _) (.cons (.nil _ _ _) (.cons (.v _) (.cons (.v _) (.cons (.v _) (.cons (.v _) (.cons (.nil _ _ _) (.cons (.nil _ _ _) (.cons (.v _) (.cons (.v _) (.cons (.v _) (.cons (.v _) (.cons (.v _) (.cons (.v _) (.cons (.v _) (.cons (.v _) .nil)))))))))))))))))))) (.cons (.v _) .nil))
theorem dec_nil (s : ByteArray) (d0 : DPure Tp GI 45 [SV s] (.v .nilIface)) : DPure Tp GI 17 [SV s] (.tup [pageF 0 leaf0 inner0 chain0 meta0, VN .i64 3]) := by
  refine z_pure (e0 := ?e0x1) mix e17 rfl ?z01 ?_
  (case z01 => exact rfl)
  dsimp only [c17]
  repeat' (first
    | ((with_reducible apply z_call); (case' hd => apply d0); (case hw => exact wknL_ok rfl); (try any_goals (first | omega | (dsimp only; omega) | (simp only [ByteArray.size_append, ByteArray.size_extract, strOfNums_size, List.length_cons, List.length_nil, List.length_map, List.length_append, List.length_take, List.length_drop]; omega))))
    | with_reducible refine z_seq ?_
    | with_reducible refine z_seqn ?_
    | with_reducible refine z_seqr ?_
    | with_reducible refine z_ret ?_
    | with_reducible refine z_reg ?_
    | with_reducible refine z_nil ?_
    | ((with_reducible apply z_cond_t); (case hc => exact rfl))
    | ((with_reducible apply z_gt); (case hg => exact rfl))
    | ((with_reducible apply z_mv); (case h => ((conv => {lhs; whnf}) <;> exact rfl)))
    | ((with_reducible apply z_pick_t); (case hc => exact rfl); (case h => ((conv => {lhs; whnf}) <;> exact rfl)))
    | ((with_reducible apply z_isnil); (case hx => ((conv => {lhs; whnf}) <;> exact rfl)); (case h => ((conv => {lhs; whnf}) <;> exact rfl)); (case hb => ((conv => {lhs; whnf}) <;> exact rfl)))
    | ((with_reducible apply z_bld); (case hp => exact rfl); (case h1 => ((conv => {lhs; whnf}) <;> exact rfl)); (case h2 => exact rfl); (case hr => ((conv => {lhs; whnf}) <;> exact rfl)))
    | ((with_reducible apply z_zero); (case hc => ((conv => {lhs; whnf}) <;> exact rfl)); (case hq => ((conv => {lhs; whnf}) <;> exact rfl)); (case hl => ((conv => {lhs; whnf}) <;> exact rfl)))
    | ((with_reducible apply z_st); (case ha => ((conv => {lhs; whnf}) <;> exact rfl)); (case hcs => ((conv => {lhs; whnf}) <;> exact rfl)); (case hx => ((conv => {lhs; whnf}) <;> exact rfl)); (case hb => exact rfl); (case hl => ((conv => {lhs; whnf}) <;> exact rfl)))
    | ((with_reducible apply z_fin); (case he => exact rfl); (case hr => ((conv => {lhs; whnf}) <;> exact rfl)))
    | fail)
  exact pgz (by kernel_rfl)
theorem dec_leaf0 (s : ByteArray) (b : Int) (h : ByteArray) (l : List ItemM) (d0 : DPure Tp GI 45 [SV s] (.ifc 100 (.agg [VN .i64 0, VN .i64 b, SV h, .list 5 (itemsL l)]))) : DPure Tp GI 17 [SV s] (.tup [pageF 0 leaf0 inner0 chain0 meta0, VN .i64 3]) := by
  have d1 : DPure Tp GI 228 _ (BV true) := none_leaf 0 b h l
  refine z_pure (e0 := ?e0x2) mix e17 rfl ?z02 ?_
  (case z02 => exact rfl)
  dsimp only [c17]
  repeat' (first
    | ((with_reducible apply z_call); (case' hd => apply d0); (case hw => exact wknL_ok rfl); (try any_goals (first | omega | (dsimp only; omega) | (simp only [ByteArray.size_append, ByteArray.size_extract, strOfNums_size, List.length_cons, List.length_nil, List.length_map, List.length_append, List.length_take, List.length_drop]; omega))))
    | ((with_reducible apply z_inv); (case hx => ((conv => {lhs; whnf}) <;> exact rfl)); (case hm => exact m_leaf); (case' hd => apply d1); (try any_goals (first | omega | (dsimp only; omega) | (simp only [ByteArray.size_append, ByteArray.size_extract, strOfNums_size, List.length_cons, List.length_nil, List.length_map, List.length_append, List.length_take, List.length_drop]; omega))); (case hw => exact wknL_ok rfl))
    | with_reducible refine z_seq ?_
    | with_reducible refine z_seqn ?_
    | with_reducible refine z_seqr ?_
    | with_reducible refine z_ret ?_
    | with_reducible refine z_reg ?_
    | with_reducible refine z_nil ?_
    | ((with_reducible apply z_cond_t); (case hc => exact rfl))
    | ((with_reducible apply z_g); (case hg => exact rfl))
    | ((with_reducible apply z_mv); (case h => ((conv => {lhs; whnf}) <;> exact rfl)))
    | ((with_reducible apply z_pick_f); (case hc => exact rfl); (case h => ((conv => {lhs; whnf}) <;> exact rfl)))
    | ((with_reducible apply z_isnil); (case hx => ((conv => {lhs; whnf}) <;> exact rfl)); (case h => ((conv => {lhs; whnf}) <;> exact rfl)); (case hb => ((conv => {lhs; whnf}) <;> exact rfl)))
    | ((with_reducible apply z_bld); (case hp => exact rfl); (case h1 => ((conv => {lhs; whnf}) <;> exact rfl)); (case h2 => exact rfl); (case hr => ((conv => {lhs; whnf}) <;> exact rfl)))
    | ((with_reducible apply z_zero); (case hc => ((conv => {lhs; whnf}) <;> exact rfl)); (case hq => ((conv => {lhs; whnf}) <;> exact rfl)); (case hl => ((conv => {lhs; whnf}) <;> exact rfl)))
    | ((with_reducible apply z_st); (case ha => ((conv => {lhs; whnf}) <;> exact rfl)); (case hcs => ((conv => {lhs; whnf}) <;> exact rfl)); (case hx => ((conv => {lhs; whnf}) <;> exact rfl)); (case hb => exact rfl); (case hl => ((conv => {lhs; whnf}) <;> exact rfl)))
    | ((with_reducible apply z_fin); (case he => exact rfl); (case hr => ((conv => {lhs; whnf}) <;> exact rfl)))
    | fail)
  exact pgz (by kernel_rfl)
theorem dec_inner0 (s : ByteArray) (b c : Int) (h : ByteArray) (k : List Int) (l : List ByteArray) (d0 : DPure Tp GI 45 [SV s] (.ifc 102 (.agg [VN .i64 0, VN .i64 b, VN .i64 c, SV h, .list 1 (k.map fun n => VN .i64 n), .list 1 (strsL l)]))) : DPure Tp GI 17 [SV s] (.tup [pageF 0 leaf0 inner0 chain0 meta0, VN .i64 3]) := by
  have d1 : DPure Tp GI 229 _ (BV true) := none_inner 0 b c h k l
  refine z_pure (e0 := ?e0x3) mix e17 rfl ?z03 ?_
  (case z03 => exact rfl)
  dsimp only [c17]
  repeat' (first
    | ((with_reducible apply z_call); (case' hd => apply d0); (case hw => exact wknL_ok rfl); (try any_goals (first | omega | (dsimp only; omega) | (simp only [ByteArray.size_append, ByteArray.size_extract, strOfNums_size, List.length_cons, List.length_nil, List.length_map, List.length_append, List.length_take, List.length_drop]; omega))))
    | ((with_reducible apply z_inv); (case hx => ((conv => {lhs; whnf}) <;> exact rfl)); (case hm => exact m_inner); (case' hd => apply d1); (try any_goals (first | omega | (dsimp only; omega) | (simp only [ByteArray.size_append, ByteArray.size_extract, strOfNums_size, List.length_cons, List.length_nil, List.length_map, List.length_append, List.length_take, List.length_drop]; omega))); (case hw => exact wknL_ok rfl))
    | with_reducible refine z_seq ?_
    | with_reducible refine z_seqn ?_
    | with_reducible refine z_seqr ?_
    | with_reducible refine z_ret ?_
    | with_reducible refine z_reg ?_
    | with_reducible refine z_nil ?_
    | ((with_reducible apply z_cond_t); (case hc => exact rfl))
    | ((with_reducible apply z_g); (case hg => exact rfl))
    | ((with_reducible apply z_mv); (case h => ((conv => {lhs; whnf}) <;> exact rfl)))
    | ((with_reducible apply z_pick_f); (case hc => exact rfl); (case h => ((conv => {lhs; whnf}) <;> exact rfl)))
    | ((with_reducible apply z_isnil); (case hx => ((conv => {lhs; whnf}) <;> exact rfl)); (case h => ((conv => {lhs; whnf}) <;> exact rfl)); (case hb => ((conv => {lhs; whnf}) <;> exact rfl)))
    | ((with_reducible apply z_bld); (case hp => exact rfl); (case h1 => ((conv => {lhs; whnf}) <;> exact rfl)); (case h2 => exact rfl); (case hr => ((conv => {lhs; whnf}) <;> exact rfl)))
    | ((with_reducible apply z_zero); (case hc => ((conv => {lhs; whnf}) <;> exact rfl)); (case hq => ((conv => {lhs; whnf}) <;> exact rfl)); (case hl => ((conv => {lhs; whnf}) <;> exact rfl)))
    | ((with_reducible apply z_st); (case ha => ((conv => {lhs; whnf}) <;> exact rfl)); (case hcs => ((conv => {lhs; whnf}) <;> exact rfl)); (case hx => ((conv => {lhs; whnf}) <;> exact rfl)); (case hb => exact rfl); (case hl => ((conv => {lhs; whnf}) <;> exact rfl)))
    | ((with_reducible apply z_fin); (case he => exact rfl); (case hr => ((conv => {lhs; whnf}) <;> exact rfl)))
    | fail)
  exact pgz (by kernel_rfl)
theorem dec_chain0 (s : ByteArray) (b : Int) (h : ByteArray) (d0 : DPure Tp GI 45 [SV s] (.v (.iface 104 (.agg #[.int .i64 0, .int .i64 b, .string h])))) : DPure Tp GI 17 [SV s] (.tup [pageF 0 leaf0 inner0 chain0 meta0, VN .i64 3]) := by
  have d1 : DPure Tp GI 230 _ (BV true) := none_chain 0 b h
  refine z_pure (e0 := ?e0x4) mix e17 rfl ?z04 ?_
  (case z04 => exact rfl)
  dsimp only [c17]
  repeat' (first
    | ((with_reducible apply z_call); (case' hd => apply d0); (case hw => exact wknL_ok rfl); (try any_goals (first | omega | (dsimp only; omega) | (simp only [ByteArray.size_append, ByteArray.size_extract, strOfNums_size, List.length_cons, List.length_nil, List.length_map, List.length_append, List.length_take, List.length_drop]; omega))))
    | ((with_reducible apply z_inv); (case hx => ((conv => {lhs; whnf}) <;> exact rfl)); (case hm => exact m_chain); (case' hd => apply d1); (try any_goals (first | omega | (dsimp only; omega) | (simp only [ByteArray.size_append, ByteArray.size_extract, strOfNums_size, List.length_cons, List.length_nil, List.length_map, List.length_append, List.length_take, List.length_drop]; omega))); (case hw => exact wknL_ok rfl))
    | with_reducible refine z_seq ?_
    | with_reducible refine z_seqn ?_
    | with_reducible refine z_seqr ?_
    | with_reducible refine z_ret ?_
    | with_reducible refine z_reg ?_
    | with_reducible refine z_nil ?_
    | ((with_reducible apply z_cond_t); (case hc => exact rfl))
    | ((with_reducible apply z_g); (case hg => exact rfl))
    | ((with_reducible apply z_mv); (case h => ((conv => {lhs; whnf}) <;> exact rfl)))
    | ((with_reducible apply z_pick_f); (case hc => exact rfl); (case h => ((conv => {lhs; whnf}) <;> exact rfl)))
    | ((with_reducible apply z_isnil); (case hx => ((conv => {lhs; whnf}) <;> exact rfl)); (case h => ((conv => {lhs; whnf}) <;> exact rfl)); (case hb => ((conv => {lhs; whnf}) <;> exact rfl)))
    | ((with_reducible apply z_bld); (case hp => exact rfl); (case h1 => ((conv => {lhs; whnf}) <;> exact rfl)); (case h2 => exact rfl); (case hr => ((conv => {lhs; whnf}) <;> exact rfl)))
    | ((with_reducible apply z_zero); (case hc => ((conv => {lhs; whnf}) <;> exact rfl)); (case hq => ((conv => {lhs; whnf}) <;> exact rfl)); (case hl => ((conv => {lhs; whnf}) <;> exact rfl)))
    | ((with_reducible apply z_st); (case ha => ((conv => {lhs; whnf}) <;> exact rfl)); (case hcs => ((conv => {lhs; whnf}) <;> exact rfl)); (case hx => ((conv => {lhs; whnf}) <;> exact rfl)); (case hb => exact rfl); (case hl => ((conv => {lhs; whnf}) <;> exact rfl)))
    | ((with_reducible apply z_fin); (case he => exact rfl); (case hr => ((conv => {lhs; whnf}) <;> exact rfl)))
    | fail)
  exact pgz (by kernel_rfl)
theorem dec_meta0 (s : ByteArray) (b c d e : Int) (d0 : DPure Tp GI 45 [SV s] (.v (.iface 106 (.agg #[.int .i64 0, .int .i64 b, .int .i64 c, .int .i64 d, .int .i64 e])))) : DPure Tp GI 17 [SV s] (.tup [pageF 0 leaf0 inner0 chain0 meta0, VN .i64 3]) := by
  have d1 : DPure Tp GI 231 _ (BV true) := none_meta 0 b c d e
  refine z_pure (e0 := ?e0x5) mix e17 rfl ?z05 ?_
  (case z05 => exact rfl)
  dsimp only [c17]
  repeat' (first
    | ((with_reducible apply z_call); (case' hd => apply d0); (case hw => exact wknL_ok rfl); (try any_goals (first | omega | (dsimp only; omega) | (simp only [ByteArray.size_append, ByteArray.size_extract, strOfNums_size, List.length_cons, List.length_nil, List.length_map, List.length_append, List.length_take, List.length_drop]; omega))))
    | ((with_reducible apply z_inv); (case hx => ((conv => {lhs; whnf}) <;> exact rfl)); (case hm => exact m_meta); (case' hd => apply d1); (try any_goals (first | omega | (dsimp only; omega) | (simp only [ByteArray.size_append, ByteArray.size_extract, strOfNums_size, List.length_cons, List.length_nil, List.length_map, List.length_append, List.length_take, List.length_drop]; omega))); (case hw => exact wknL_ok rfl))
    | with_reducible refine z_seq ?_
    | with_reducible refine z_seqn ?_
    | with_reducible refine z_seqr ?_
    | with_reducible refine z_ret ?_
    | with_reducible refine z_reg ?_
    | with_reducible refine z_nil ?_
    | ((with_reducible apply z_cond_t); (case hc => exact rfl))
    | ((with_reducible apply z_g); (case hg => exact rfl))
    | ((with_reducible apply z_mv); (case h => ((conv => {lhs; whnf}) <;> exact rfl)))
    | ((with_reducible apply z_pick_f); (case hc => exact rfl); (case h => ((conv => {lhs; whnf}) <;> exact rfl)))
    | ((with_reducible apply z_isnil); (case hx => ((conv => {lhs; whnf}) <;> exact rfl)); (case h => ((conv => {lhs; whnf}) <;> exact rfl)); (case hb => ((conv => {lhs; whnf}) <;> exact rfl)))
    | ((with_reducible apply z_bld); (case hp => exact rfl); (case h1 => ((conv => {lhs; whnf}) <;> exact rfl)); (case h2 => exact rfl); (case hr => ((conv => {lhs; whnf}) <;> exact rfl)))
    | ((with_reducible apply z_zero); (case hc => ((conv => {lhs; whnf}) <;> exact rfl)); (case hq => ((conv => {lhs; whnf}) <;> exact rfl)); (case hl => ((conv => {lhs; whnf}) <;> exact rfl)))
    | ((with_reducible apply z_st); (case ha => ((conv => {lhs; whnf}) <;> exact rfl)); (case hcs => ((conv => {lhs; whnf}) <;> exact rfl)); (case hx => ((conv => {lhs; whnf}) <;> exact rfl)); (case hb => exact rfl); (case hl => ((conv => {lhs; whnf}) <;> exact rfl)))
    | ((with_reducible apply z_fin); (case he => exact rfl); (case hr => ((conv => {lhs; whnf}) <;> exact rfl)))
    | fail)
  exact pgz (by kernel_rfl)
theorem dec_leaf1 (s : ByteArray) (a b : Int) (h : ByteArray) (l : List ItemM) (ha : a ≠ 0) (d0 : DPure Tp GI 45 [SV s] (.ifc 100 (.agg [VN .i64 a, VN .i64 b, SV h, .list 5 (itemsL l)]))) : DPure Tp GI 17 [SV s] (.tup [pageF 2 ⟨a, b, h, l⟩ inner0 chain0 meta0, VN .i64 0]) := by
  have d1 := none_leaf (I := GI) a b h l
  rw [decide_eq_false ha] at d1
  refine z_pure (e0 := ?e0x6) mix e17 rfl ?z06 ?_
  (case z06 => exact rfl)
  dsimp only [c17]
  repeat' (first
    | ((with_reducible apply z_call); (case' hd => apply d0); (case hw => exact wknL_ok rfl); (try any_goals (first | omega | (dsimp only; omega) | (simp only [ByteArray.size_append, ByteArray.size_extract, strOfNums_size, List.length_cons, List.length_nil, List.length_map, List.length_append, List.length_take, List.length_drop]; omega))))
    | ((with_reducible apply z_inv); (case hx => ((conv => {lhs; whnf}) <;> exact rfl)); (case hm => exact m_leaf); (case' hd => apply d1); (try any_goals (first | omega | (dsimp only; omega) | (simp only [ByteArray.size_append, ByteArray.size_extract, strOfNums_size, List.length_cons, List.length_nil, List.length_map, List.length_append, List.length_take, List.length_drop]; omega))); (case hw => exact wknL_ok rfl))
    | with_reducible refine z_seq ?_
    | with_reducible refine z_seqn ?_
    | with_reducible refine z_blk ?_
    | with_reducible refine z_blkn ?_
    | with_reducible refine z_skip ?_
    | with_reducible refine z_ret ?_
    | with_reducible refine z_reg ?_
    | with_reducible refine z_nil ?_
    | ((with_reducible apply z_cond_t); (case hc => exact rfl))
    | ((with_reducible apply z_cond_f); (case hc => exact rfl))
    | ((with_reducible apply z_g); (case hg => exact rfl))
    | ((with_reducible apply z_mv); (case h => ((conv => {lhs; whnf}) <;> exact rfl)))
    | ((with_reducible apply z_pick_f); (case hc => exact rfl); (case h => ((conv => {lhs; whnf}) <;> exact rfl)))
    | ((with_reducible apply z_fa); (case h => ((conv => {lhs; whnf}) <;> exact rfl)))
    | ((with_reducible apply z_lda); (case h => ((conv => {lhs; whnf}) <;> exact rfl)); (case hc => ((conv => {lhs; whnf}) <;> exact rfl)); (case hb => exact rfl); (case hr => ((conv => {lhs; whnf}) <;> exact rfl)))
    | ((with_reducible apply z_isnil); (case hx => ((conv => {lhs; whnf}) <;> exact rfl)); (case h => ((conv => {lhs; whnf}) <;> exact rfl)); (case hb => ((conv => {lhs; whnf}) <;> exact rfl)))
    | ((with_reducible apply z_extt); (case hx => ((conv => {lhs; whnf}) <;> exact rfl)); (case h => ((conv => {lhs; whnf}) <;> exact rfl)))
    | ((with_reducible apply z_bld); (case hp => exact rfl); (case h1 => ((conv => {lhs; whnf}) <;> exact rfl)); (case h2 => exact rfl); (case hr => ((conv => {lhs; whnf}) <;> exact rfl)))
    | ((with_reducible apply z_ta_iy); (case hx => ((conv => {lhs; whnf}) <;> exact rfl)))
    | ((with_reducible apply z_zero); (case hc => ((conv => {lhs; whnf}) <;> exact rfl)); (case hq => ((conv => {lhs; whnf}) <;> exact rfl)); (case hl => ((conv => {lhs; whnf}) <;> exact rfl)))
    | ((with_reducible apply z_st); (case ha => ((conv => {lhs; whnf}) <;> exact rfl)); (case hcs => ((conv => {lhs; whnf}) <;> exact rfl)); (case hx => ((conv => {lhs; whnf}) <;> exact rfl)); (case hb => exact rfl); (case hl => ((conv => {lhs; whnf}) <;> exact rfl)))
    | ((with_reducible apply z_fin); (case he => exact rfl); (case hr => ((conv => {lhs; whnf}) <;> exact rfl)))
    | fail)
  exact tup2w (x1 := .agg [VN .i64 2, VN .i64 a, VN .i64 b, SV h, .list 5 (itemsL l), VN .i64 0, VN .i64 0, VN .i64 0, SV nilS, .v (.slice none 0 0), .v (.slice none 0 0), VN .i64 0, VN .i64 0, SV nilS, VN .i64 0, VN .i64 0, VN .i64 0, VN .i64 0, VN .i64 0]) (x2 := VN .i64 0) (by kernel_rfl) (.aggL (.cons (.v _) (.cons (.v _) (.cons (.v _) (.cons (.v _) (.cons (.list _ _) (.cons (.v _) (.cons (.v _) (.cons (.v _) (.cons (.v _) (.cons (.nil _ _ _) (.cons (.nil _ _ _) (.cons (.v _) (.cons (.v _) (.cons (.v _) (.cons (.v _) (.cons (.v _) (.cons (.v _) (.cons (.v _) (.cons (.v _) .nil)))))))))))))))))))) (.v _)
theorem dec_inner1 (s : ByteArray) (a b c : Int) (h : ByteArray) (k : List Int) (l : List ByteArray) (ha : a ≠ 0) (d0 : DPure Tp GI 45 [SV s] (.ifc 102 (.agg [VN .i64 a, VN .i64 b, VN .i64 c, SV h, .list 1 (k.map fun n => VN .i64 n), .list 1 (strsL l)]))) : DPure Tp GI 17 [SV s] (.tup [pageF 3 leaf0 ⟨a, b, c, h, k, l⟩ chain0 meta0, VN .i64 0]) := by
  have d1 := none_inner (I := GI) a b c h k l
  rw [decide_eq_false ha] at d1
  refine z_pure (e0 := ?e0x7) mix e17 rfl ?z07 ?_
  (case z07 => exact rfl)
  dsimp only [c17]
  repeat' (first
    | ((with_reducible apply z_call); (case' hd => apply d0); (case hw => exact wknL_ok rfl); (try any_goals (first | omega | (dsimp only; omega) | (simp only [ByteArray.size_append, ByteArray.size_extract, strOfNums_size, List.length_cons, List.length_nil, List.length_map, List.length_append, List.length_take, List.length_drop]; omega))))
    | ((with_reducible apply z_inv); (case hx => ((conv => {lhs; whnf}) <;> exact rfl)); (case hm => exact m_inner); (case' hd => apply d1); (try any_goals (first | omega | (dsimp only; omega) | (simp only [ByteArray.size_append, ByteArray.size_extract, strOfNums_size, List.length_cons, List.length_nil, List.length_map, List.length_append, List.length_take, List.length_drop]; omega))); (case hw => exact wknL_ok rfl))
    | with_reducible refine z_seq ?_
    | with_reducible refine z_seqn ?_
    | with_reducible refine z_blk ?_
    | with_reducible refine z_blkn ?_
    | with_reducible refine z_skip ?_
    | with_reducible refine z_ret ?_
    | with_reducible refine z_reg ?_
    | with_reducible refine z_nil ?_
    | ((with_reducible apply z_cond_t); (case hc => exact rfl))
    | ((with_reducible apply z_cond_f); (case hc => exact rfl))
    | ((with_reducible apply z_g); (case hg => exact rfl))
    | ((with_reducible apply z_mv); (case h => ((conv => {lhs; whnf}) <;> exact rfl)))
    | ((with_reducible apply z_pick_f); (case hc => exact rfl); (case h => ((conv => {lhs; whnf}) <;> exact rfl)))
    | ((with_reducible apply z_fa); (case h => ((conv => {lhs; whnf}) <;> exact rfl)))
    | ((with_reducible apply z_lda); (case h => ((conv => {lhs; whnf}) <;> exact rfl)); (case hc => ((conv => {lhs; whnf}) <;> exact rfl)); (case hb => exact rfl); (case hr => ((conv => {lhs; whnf}) <;> exact rfl)))
    | ((with_reducible apply z_isnil); (case hx => ((conv => {lhs; whnf}) <;> exact rfl)); (case h => ((conv => {lhs; whnf}) <;> exact rfl)); (case hb => ((conv => {lhs; whnf}) <;> exact rfl)))
    | ((with_reducible apply z_ext0); (case hx => ((conv => {lhs; whnf}) <;> exact rfl)))
    | ((with_reducible apply z_ext1); (case hx => ((conv => {lhs; whnf}) <;> exact rfl)))
    | ((with_reducible apply z_extt); (case hx => ((conv => {lhs; whnf}) <;> exact rfl)); (case h => ((conv => {lhs; whnf}) <;> exact rfl)))
    | ((with_reducible apply z_bld); (case hp => exact rfl); (case h1 => ((conv => {lhs; whnf}) <;> exact rfl)); (case h2 => exact rfl); (case hr => ((conv => {lhs; whnf}) <;> exact rfl)))
    | ((with_reducible apply z_ta_iy); (case hx => ((conv => {lhs; whnf}) <;> exact rfl)))
    | ((with_reducible apply z_ta_in); (case hx => ((conv => {lhs; whnf}) <;> exact rfl)); (case ht => exact rfl))
    | ((with_reducible apply z_zero); (case hc => ((conv => {lhs; whnf}) <;> exact rfl)); (case hq => ((conv => {lhs; whnf}) <;> exact rfl)); (case hl => ((conv => {lhs; whnf}) <;> exact rfl)))
    | ((with_reducible apply z_st); (case ha => ((conv => {lhs; whnf}) <;> exact rfl)); (case hcs => ((conv => {lhs; whnf}) <;> exact rfl)); (case hx => ((conv => {lhs; whnf}) <;> exact rfl)); (case hb => exact rfl); (case hl => ((conv => {lhs; whnf}) <;> exact rfl)))
    | ((with_reducible apply z_fin); (case he => exact rfl); (case hr => ((conv => {lhs; whnf}) <;> exact rfl)))
    | fail)
  exact tup2w (x1 := .agg [VN .i64 3, VN .i64 0, VN .i64 0, SV nilS, .v (.slice none 0 0), VN .i64 a, VN .i64 b, VN .i64 c, SV h, .list 1 (k.map fun n => VN .i64 n), .list 1 (strsL l), VN .i64 0, VN .i64 0, SV nilS, VN .i64 0, VN .i64 0, VN .i64 0, VN .i64 0, VN .i64 0]) (x2 := VN .i64 0) (by kernel_rfl) (.aggL (.cons (.v _) (.cons (.v _) (.cons (.v _) (.cons (.v _) (.cons (.nil _ _ _) (.cons (.v _) (.cons (.v _) (.cons (.v _) (.cons (.v _) (.cons (.list _ _) (.cons (.list _ _) (.cons (.v _) (.cons (.v _) (.cons (.v _) (.cons (.v _) (.cons (.v _) (.cons (.v _) (.cons (.v _) (.cons (.v _) .nil)))))))))))))))))))) (.v _)
theorem pgw {cs : List Value} {m : Value} {t a1 a2 n1 n2 n3 c1 c2 m1 m2 m3 m4 m5 : Int} {hi h2 h3 : ByteArray} {d : DV} (hd : d = .v (.tuple #[.agg #[.int .i64 t, .int .i64 a1, .int .i64 a2, .string hi, .slice none 0 0, .int .i64 n1, .int .i64 n2, .int .i64 n3, .string h2, .slice none 0 0, .slice none 0 0, .int .i64 c1, .int .i64 c2, .string h3, .int .i64 m1, .int .i64 m2, .int .i64 m3, .int .i64 m4, .int .i64 m5], .int .i64 0])) :
    Wk d (.tup [pageF t ⟨a1, a2, hi, []⟩ ⟨n1, n2, n3, h2, [], []⟩ ⟨c1, c2, h3⟩ ⟨m1, m2, m3, m4, m5⟩, VN .i64 0]) := by
  subst hd
  exact Wk.vtupL (xs := [.agg #[.int .i64 t, .int .i64 a1, .int .i64 a2, .string hi, .slice none 0 0, .int .i64 n1, .int .i64 n2, .int .i64 n3, .string h2, .slice none 0 0, .slice none 0 0, .int .i64 c1, .int .i64 c2, .string h3, .int .i64 m1, .int .i64 m2, .int .i64 m3, .int .i64 m4, .int .i64 m5], .int .i64 0])
    (.cons (Wk.vaggL (xs := [.int .i64 t, .int .i64 a1, .int .i64 a2, .string hi, .slice none 0 0, .int .i64 n1, .int .i64 n2, .int .i64 n3, .string h2, .slice none 0 0, .slice none 0 0, .int .i64 c1, .int .i64 c2, .string h3, .int .i64 m1, .int .i64 m2, .int .i64 m3, .int .i64 m4, .int .i64 m5])
      (.cons (.v _) (.cons (.v _) (.cons (.v _) (.cons (.v _) (.cons (.nil _ _ _) (.cons (.v _) (.cons (.v _) (.cons (.v _) (.cons (.v _) (.cons (.nil _ _ _) (.cons (.nil _ _ _) (.cons (.v _) (.cons (.v _) (.cons (.v _) (.cons (.v _) (.cons (.v _) (.cons (.v _) (.cons (.v _) (.cons (.v _) .nil)))))))))))))))))))) (.cons (.v _) .nil))
theorem dec_chain1 (s : ByteArray) (a b : Int) (h : ByteArray) (ha : a ≠ 0) (d0 : DPure Tp GI 45 [SV s] (.v (.iface 104 (.agg #[.int .i64 a, .int .i64 b, .string h])))) : DPure Tp GI 17 [SV s] (.tup [pageF 4 leaf0 inner0 ⟨a, b, h⟩ meta0, VN .i64 0]) := by
  have d1 := none_chain (I := GI) a b h
  rw [decide_eq_false ha] at d1
  refine z_pure (e0 := ?e0x8) mix e17 rfl ?z08 ?_
  (case z08 => exact rfl)
  dsimp only [c17]
  repeat' (first
    | ((with_reducible apply z_call); (case' hd => apply d0); (case hw => exact wknL_ok rfl); (try any_goals (first | omega | (dsimp only; omega) | (simp only [ByteArray.size_append, ByteArray.size_extract, strOfNums_size, List.length_cons, List.length_nil, List.length_map, List.length_append, List.length_take, List.length_drop]; omega))))
    | ((with_reducible apply z_inv); (case hx => ((conv => {lhs; whnf}) <;> exact rfl)); (case hm => exact m_chain); (case' hd => apply d1); (try any_goals (first | omega | (dsimp only; omega) | (simp only [ByteArray.size_append, ByteArray.size_extract, strOfNums_size, List.length_cons, List.length_nil, List.length_map, List.length_append, List.length_take, List.length_drop]; omega))); (case hw => exact wknL_ok rfl))
    | with_reducible refine z_seq ?_
    | with_reducible refine z_seqn ?_
    | with_reducible refine z_blk ?_
    | with_reducible refine z_blkn ?_
    | with_reducible refine z_skip ?_
    | with_reducible refine z_ret ?_
    | with_reducible refine z_reg ?_
    | with_reducible refine z_nil ?_
    | ((with_reducible apply z_cond_t); (case hc => exact rfl))
    | ((with_reducible apply z_cond_f); (case hc => exact rfl))
    | ((with_reducible apply z_g); (case hg => exact rfl))
    | ((with_reducible apply z_mv); (case h => ((conv => {lhs; whnf}) <;> exact rfl)))
    | ((with_reducible apply z_pick_f); (case hc => exact rfl); (case h => ((conv => {lhs; whnf}) <;> exact rfl)))
    | ((with_reducible apply z_fa); (case h => ((conv => {lhs; whnf}) <;> exact rfl)))
    | ((with_reducible apply z_lda); (case h => ((conv => {lhs; whnf}) <;> exact rfl)); (case hc => ((conv => {lhs; whnf}) <;> exact rfl)); (case hb => exact rfl); (case hr => ((conv => {lhs; whnf}) <;> exact rfl)))
    | ((with_reducible apply z_isnil); (case hx => ((conv => {lhs; whnf}) <;> exact rfl)); (case h => ((conv => {lhs; whnf}) <;> exact rfl)); (case hb => ((conv => {lhs; whnf}) <;> exact rfl)))
    | ((with_reducible apply z_ext0); (case hx => ((conv => {lhs; whnf}) <;> exact rfl)))
    | ((with_reducible apply z_ext1); (case hx => ((conv => {lhs; whnf}) <;> exact rfl)))
    | ((with_reducible apply z_bld); (case hp => exact rfl); (case h1 => ((conv => {lhs; whnf}) <;> exact rfl)); (case h2 => exact rfl); (case hr => ((conv => {lhs; whnf}) <;> exact rfl)))
    | ((with_reducible apply z_ta_vy); (case hx => ((conv => {lhs; whnf}) <;> exact rfl)))
    | ((with_reducible apply z_ta_vn); (case hx => ((conv => {lhs; whnf}) <;> exact rfl)); (case ht => exact rfl))
    | ((with_reducible apply z_zero); (case hc => ((conv => {lhs; whnf}) <;> exact rfl)); (case hq => ((conv => {lhs; whnf}) <;> exact rfl)); (case hl => ((conv => {lhs; whnf}) <;> exact rfl)))
    | ((with_reducible apply z_st); (case ha => ((conv => {lhs; whnf}) <;> exact rfl)); (case hcs => ((conv => {lhs; whnf}) <;> exact rfl)); (case hx => ((conv => {lhs; whnf}) <;> exact rfl)); (case hb => exact rfl); (case hl => ((conv => {lhs; whnf}) <;> exact rfl)))
    | ((with_reducible apply z_fin); (case he => exact rfl); (case hr => ((conv => {lhs; whnf}) <;> exact rfl)))
    | fail)
  exact pgw (cs := []) (m := .nilIface) (by kernel_rfl)
theorem dec_meta1 (s : ByteArray) (a b c d e : Int) (ha : a ≠ 0) (d0 : DPure Tp GI 45 [SV s] (.v (.iface 106 (.agg #[.int .i64 a, .int .i64 b, .int .i64 c, .int .i64 d, .int .i64 e])))) : DPure Tp GI 17 [SV s] (.tup [pageF 1 leaf0 inner0 chain0 ⟨a, b, c, d, e⟩, VN .i64 0]) := by
  have d1 := none_meta (I := GI) a b c d e
  rw [decide_eq_false ha] at d1
  refine z_pure (e0 := ?e0x9) mix e17 rfl ?z09 ?_
  (case z09 => exact rfl)
  dsimp only [c17]
  repeat' (first
    | ((with_reducible apply z_call); (case' hd => apply d0); (case hw => exact wknL_ok rfl); (try any_goals (first | omega | (dsimp only; omega) | (simp only [ByteArray.size_append, ByteArray.size_extract, strOfNums_size, List.length_cons, List.length_nil, List.length_map, List.length_append, List.length_take, List.length_drop]; omega))))
    | ((with_reducible apply z_inv); (case hx => ((conv => {lhs; whnf}) <;> exact rfl)); (case hm => exact m_meta); (case' hd => apply d1); (try any_goals (first | omega | (dsimp only; omega) | (simp only [ByteArray.size_append, ByteArray.size_extract, strOfNums_size, List.length_cons, List.length_nil, List.length_map, List.length_append, List.length_take, List.length_drop]; omega))); (case hw => exact wknL_ok rfl))
    | with_reducible refine z_seq ?_
    | with_reducible refine z_seqn ?_
    | with_reducible refine z_blk ?_
    | with_reducible refine z_blkn ?_
    | with_reducible refine z_skip ?_
    | with_reducible refine z_ret ?_
    | with_reducible refine z_reg ?_
    | with_reducible refine z_nil ?_
    | ((with_reducible apply z_cond_t); (case hc => exact rfl))
    | ((with_reducible apply z_cond_f); (case hc => exact rfl))
    | ((with_reducible apply z_g); (case hg => exact rfl))
    | ((with_reducible apply z_mv); (case h => ((conv => {lhs; whnf}) <;> exact rfl)))
    | ((with_reducible apply z_pick_f); (case hc => exact rfl); (case h => ((conv => {lhs; whnf}) <;> exact rfl)))
    | ((with_reducible apply z_fa); (case h => ((conv => {lhs; whnf}) <;> exact rfl)))
    | ((with_reducible apply z_lda); (case h => ((conv => {lhs; whnf}) <;> exact rfl)); (case hc => ((conv => {lhs; whnf}) <;> exact rfl)); (case hb => exact rfl); (case hr => ((conv => {lhs; whnf}) <;> exact rfl)))
    | ((with_reducible apply z_isnil); (case hx => ((conv => {lhs; whnf}) <;> exact rfl)); (case h => ((conv => {lhs; whnf}) <;> exact rfl)); (case hb => ((conv => {lhs; whnf}) <;> exact rfl)))
    | ((with_reducible apply z_ext0); (case hx => ((conv => {lhs; whnf}) <;> exact rfl)))
    | ((with_reducible apply z_ext1); (case hx => ((conv => {lhs; whnf}) <;> exact rfl)))
    | ((with_reducible apply z_bld); (case hp => exact rfl); (case h1 => ((conv => {lhs; whnf}) <;> exact rfl)); (case h2 => exact rfl); (case hr => ((conv => {lhs; whnf}) <;> exact rfl)))
    | ((with_reducible apply z_ta_vy); (case hx => ((conv => {lhs; whnf}) <;> exact rfl)))
    | ((with_reducible apply z_ta_vn); (case hx => ((conv => {lhs; whnf}) <;> exact rfl)); (case ht => exact rfl))
    | ((with_reducible apply z_zero); (case hc => ((conv => {lhs; whnf}) <;> exact rfl)); (case hq => ((conv => {lhs; whnf}) <;> exact rfl)); (case hl => ((conv => {lhs; whnf}) <;> exact rfl)))
    | ((with_reducible apply z_st); (case ha => ((conv => {lhs; whnf}) <;> exact rfl)); (case hcs => ((conv => {lhs; whnf}) <;> exact rfl)); (case hx => ((conv => {lhs; whnf}) <;> exact rfl)); (case hb => exact rfl); (case hl => ((conv => {lhs; whnf}) <;> exact rfl)))
    | ((with_reducible apply z_fin); (case he => exact rfl); (case hr => ((conv => {lhs; whnf}) <;> exact rfl)))
    | fail)
  exact pgw (cs := []) (m := .nilIface) (by kernel_rfl)
structure PageM where
  kind : Int
  l : LeafM
  n : InnerM
  c : ChainM
  m : MetaM
abbrev pageT (x : PageM) : DV := pageF x.kind x.l x.n x.c x.m
def page0 : PageM := ⟨0, leaf0, inner0, chain0, meta0⟩
noncomputable def decM (s : ByteArray) : PageM :=
  if s.size = 0 then page0
  else if byteAt s 0 = 2 then (if (lfM s).self = 0 then page0 else ⟨2, lfM s, inner0, chain0, meta0⟩)
  else if byteAt s 0 = 3 then (if (inM s).self = 0 then page0 else ⟨3, leaf0, inM s, chain0, meta0⟩)
  else if byteAt s 0 = 4 then (if (chM s).self = 0 then page0 else ⟨4, leaf0, inner0, chM s, meta0⟩)
  else if byteAt s 0 = 1 then (if (mtM s).p = 0 then page0 else ⟨1, leaf0, inner0, chain0, mtM s⟩)
  else page0
noncomputable def decE (s : ByteArray) : Int := if (decM s).kind = 0 then 3 else 0
theorem decode_D (s : ByteArray) (hs : s.size ≤ 1200) : DPure Tp GI 17 [SV s] (.tup [pageT (decM s), VN .i64 (decE s)]) := by
  have d0 := read_page s hs
  unfold pageD at d0
  have z : ∀ {x : PageM}, x = page0 → DPure Tp GI 17 [SV s] (.tup [pageF 0 leaf0 inner0 chain0 meta0, VN .i64 3]) → DPure Tp GI 17 [SV s] (.tup [pageT x, VN .i64 (if x.kind = 0 then 3 else 0)]) := by
    intro x hx h; subst hx; exact h
  unfold decE decM
  by_cases h0 : s.size = 0
  · rw [if_pos h0] at d0
    rw [if_pos h0]
    exact z rfl (dec_nil s d0)
  rw [if_neg h0] at d0
  rw [if_neg h0]
  by_cases h2 : byteAt s 0 = 2
  · rw [if_pos h2] at d0
    rw [if_pos h2]
    obtain ⟨⟨a, b, h, l⟩, hL⟩ : ∃ x, lfM s = x := ⟨_, rfl⟩
    rw [hL] at d0 ⊢
    by_cases ha : a = 0
    · subst ha
      exact z rfl (dec_leaf0 s b h l d0)
    · rw [if_neg ha]
      exact dec_leaf1 s a b h l ha d0
  rw [if_neg h2] at d0
  rw [if_neg h2]
  by_cases h3 : byteAt s 0 = 3
  · rw [if_pos h3] at d0
    rw [if_pos h3]
    obtain ⟨⟨a, b, c, h, k, l⟩, hL⟩ : ∃ x, inM s = x := ⟨_, rfl⟩
    rw [hL] at d0 ⊢
    by_cases ha : a = 0
    · subst ha
      exact z rfl (dec_inner0 s b c h k l d0)
    · rw [if_neg ha]
      exact dec_inner1 s a b c h k l ha d0
  rw [if_neg h3] at d0
  rw [if_neg h3]
  by_cases h4 : byteAt s 0 = 4
  · rw [if_pos h4] at d0
    rw [if_pos h4]
    obtain ⟨⟨a, b, h⟩, hL⟩ : ∃ x, chM s = x := ⟨_, rfl⟩
    rw [hL] at d0 ⊢
    by_cases ha : a = 0
    · subst ha
      exact z rfl (dec_chain0 s b h d0)
    · rw [if_neg ha]
      exact dec_chain1 s a b h ha d0
  rw [if_neg h4] at d0
  rw [if_neg h4]
  by_cases h1 : byteAt s 0 = 1
  · rw [if_pos h1] at d0
    rw [if_pos h1]
    obtain ⟨⟨a, b, c, d, e⟩, hL⟩ : ∃ x, mtM s = x := ⟨_, rfl⟩
    rw [hL] at d0 ⊢
    by_cases ha : a = 0
    · subst ha
      exact z rfl (dec_meta0 s b c d e d0)
    · rw [if_neg ha]
      exact dec_meta1 s a b c d e ha d0
  rw [if_neg h1] at d0
  rw [if_neg h1]
  exact z rfl (dec_nil s d0)
end Go.Proofs.YtlbodfkhenkcjaaGreatDoor.X


namespace Go.Proofs.YtlbodfkhenkcjaaGreatDoor.X
open Go Go.Proofs Go.RowKit Go.Proofs.YtlbodfkhenkcjaaGreatDoor.D
set_option maxRecDepth 100000
set_option maxHeartbeats 1000000
set_option linter.unusedVariables false
set_option linter.unusedSimpArgs false
variable {I : D.Inv}
attribute [local irreducible] D.DPure D.DEff D.callable

def c19 : DFun := ⟨11, [.t 2], .seq (.reg [⟨some 1, .box (.t 0), none⟩, ⟨some 2, .mv (.c (.int .i64 0)), none⟩]) (.seq (.reg [⟨some 6, .ld 19 true (.t 1), none⟩, ⟨some 7, .call 50 [.t 6], none⟩, ⟨some 5, .mv (.t 7), none⟩, ⟨some 8, .ext (.t 5) 0, none⟩, ⟨some 9, .ext (.t 5) 1, none⟩, ⟨some 3, .mv (.t 8), none⟩, ⟨some 4, .mv (.t 9), none⟩]) (.seq (.reg [⟨some 10, .mv (.t 3), none⟩, ⟨some 2, .mv (.t 10), none⟩]) .ret))⟩
theorem e19 : cfun Tryz.prog 19 = some c19 := by kernel_rfl
def c21 : DFun := ⟨11, [.t 2], .seq (.reg [⟨some 1, .box (.t 0), none⟩, ⟨some 2, .mv (.c (.int .i64 0)), none⟩]) (.seq (.reg [⟨some 6, .ld 19 true (.t 1), none⟩, ⟨some 7, .call 50 [.t 6], none⟩, ⟨some 5, .mv (.t 7), none⟩, ⟨some 8, .ext (.t 5) 0, none⟩, ⟨some 9, .ext (.t 5) 1, none⟩, ⟨some 3, .mv (.t 8), none⟩, ⟨some 4, .mv (.t 9), none⟩]) (.seq (.reg [⟨some 10, .mv (.t 4), none⟩, ⟨some 2, .mv (.t 10), none⟩]) .ret))⟩
theorem e21 : cfun Tryz.prog 21 = some c21 := by kernel_rfl
theorem num_D1 (t a1 a2 b1 b2 b3 c1 c2 m1 m2 m3 m4 m5 : Int) (h1 h2 h3 : ByteArray) (l : List ItemM) (k : List Int) (q : List ByteArray) (x y : Int)
    (hx : (t = 1 ∧ x = 0 ∧ y = m3) ∨ (¬ t = 1 ∧ ¬ t = 2 ∧ ¬ t = 3 ∧ ¬ t = 4 ∧ x = 0 ∧ y = 0)) :
    DPure Tp I 50 [.agg [VN .i64 t, VN .i64 a1, VN .i64 a2, SV h1, .list 5 (itemsL l), VN .i64 b1, VN .i64 b2, VN .i64 b3, SV h2, .list 1 (k.map fun n => VN .i64 n), .list 1 (strsL q), VN .i64 c1, VN .i64 c2, SV h3, VN .i64 m1, VN .i64 m2, VN .i64 m3, VN .i64 m4, VN .i64 m5]] (.v (.tuple #[.int .i64 x, .int .i64 y])) := by
  rcases hx with ⟨rfl, rfl, rfl⟩ | ⟨g1, g2, g3, g4, rfl, rfl⟩
  · refine z_pure (e0 := ?e0x1) mix e50 rfl ?z01 ?_
    (case z01 => exact rfl)
    dsimp only [c50]
    repeat' (first
      | with_reducible refine z_seq ?_
      | with_reducible refine z_seqn ?_
      | with_reducible refine z_seqr ?_
      | with_reducible refine z_blk ?_
      | with_reducible refine z_blkr ?_
      | with_reducible refine z_ret ?_
      | with_reducible refine z_reg ?_
      | with_reducible refine z_nil ?_
      | ((with_reducible apply z_cond_t); (case hc => exact rfl))
      | ((with_reducible apply z_cond_f); (case hc => exact rfl))
      | ((with_reducible apply z_mv); (case h => ((conv => {lhs; whnf}) <;> exact rfl)))
      | ((with_reducible apply z_fa); (case h => ((conv => {lhs; whnf}) <;> exact rfl)))
      | ((with_reducible apply z_ld); (case h => ((conv => {lhs; whnf}) <;> exact rfl)); (case hc => ((conv => {lhs; whnf}) <;> exact rfl)); (case hd => ((conv => {lhs; whnf}) <;> exact rfl)))
      | ((with_reducible apply z_bin); (case hx => ((conv => {lhs; whnf}) <;> exact rfl)); (case hy => ((conv => {lhs; whnf}) <;> exact rfl)))
      | ((with_reducible apply z_box); (case hx => ((conv => {lhs; whnf}) <;> exact rfl)); (case hu => exact rfl); (case hc => ((conv => {lhs; whnf}) <;> exact rfl)); (case hq => ((conv => {lhs; whnf}) <;> exact rfl)); (case hl => ((conv => {lhs; whnf}) <;> exact rfl)))
      | ((with_reducible apply z_fin); (case he => exact rfl); (case hr => ((conv => {lhs; whnf}) <;> exact rfl)))
      | with_reducible refine s_eql_t (by omega) ?_
      | with_reducible refine s_eql_f (by omega) ?_
      | fail)
    all_goals exact wkn_ok (by kernel_rfl)
  · refine z_pure (e0 := ?e0x2) mix e50 rfl ?z02 ?_
    (case z02 => exact rfl)
    dsimp only [c50]
    repeat' (first
      | with_reducible refine z_seq ?_
      | with_reducible refine z_seqn ?_
      | with_reducible refine z_blk ?_
      | with_reducible refine z_blkn ?_
      | with_reducible refine z_skip ?_
      | with_reducible refine z_ret ?_
      | with_reducible refine z_reg ?_
      | with_reducible refine z_nil ?_
      | ((with_reducible apply z_cond_f); (case hc => exact rfl))
      | ((with_reducible apply z_mv); (case h => ((conv => {lhs; whnf}) <;> exact rfl)))
      | ((with_reducible apply z_fa); (case h => ((conv => {lhs; whnf}) <;> exact rfl)))
      | ((with_reducible apply z_ld); (case h => ((conv => {lhs; whnf}) <;> exact rfl)); (case hc => ((conv => {lhs; whnf}) <;> exact rfl)); (case hd => ((conv => {lhs; whnf}) <;> exact rfl)))
      | ((with_reducible apply z_bin); (case hx => ((conv => {lhs; whnf}) <;> exact rfl)); (case hy => ((conv => {lhs; whnf}) <;> exact rfl)))
      | ((with_reducible apply z_box); (case hx => ((conv => {lhs; whnf}) <;> exact rfl)); (case hu => exact rfl); (case hc => ((conv => {lhs; whnf}) <;> exact rfl)); (case hq => ((conv => {lhs; whnf}) <;> exact rfl)); (case hl => ((conv => {lhs; whnf}) <;> exact rfl)))
      | ((with_reducible apply z_fin); (case he => exact rfl); (case hr => ((conv => {lhs; whnf}) <;> exact rfl)))
      | with_reducible refine s_eql_f (by omega) ?_
      | fail)
    all_goals exact wkn_ok (by kernel_rfl)
def selfN (x : PageM) : Int := if x.kind = 2 then x.l.self else if x.kind = 3 then x.n.self else if x.kind = 4 then x.c.self else 0
def rightN (x : PageM) : Int := if x.kind = 2 then x.l.right else if x.kind = 3 then x.n.right else if x.kind = 4 then x.c.next else if x.kind = 1 then x.m.root else 0
theorem num_D (x : PageM) : DPure Tp I 50 [pageT x] (.v (.tuple #[.int .i64 (selfN x), .int .i64 (rightN x)])) := by
  obtain ⟨t, ⟨a1, a2, h1, l⟩, ⟨b1, b2, b3, h2, k, q⟩, ⟨c1, c2, h3⟩, ⟨m1, m2, m3, m4, m5⟩⟩ := x
  unfold selfN rightN
  dsimp only
  by_cases e2 : t = 2
  · rw [if_pos e2, if_pos e2]; exact num_D0 _ _ _ _ _ _ _ _ _ _ _ _ _ _ _ _ _ _ _ _ _ (.inl ⟨e2, rfl, rfl⟩)
  rw [if_neg e2, if_neg e2]
  by_cases e3 : t = 3
  · rw [if_pos e3, if_pos e3]; exact num_D0 _ _ _ _ _ _ _ _ _ _ _ _ _ _ _ _ _ _ _ _ _ (.inr (.inl ⟨e3, rfl, rfl⟩))
  rw [if_neg e3, if_neg e3]
  by_cases e4 : t = 4
  · rw [if_pos e4, if_pos e4]; exact num_D0 _ _ _ _ _ _ _ _ _ _ _ _ _ _ _ _ _ _ _ _ _ (.inr (.inr ⟨e4, rfl, rfl⟩))
  rw [if_neg e4, if_neg e4]
  by_cases e1 : t = 1
  · rw [if_pos e1]; exact num_D1 _ _ _ _ _ _ _ _ _ _ _ _ _ _ _ _ _ _ _ _ _ (.inl ⟨e1, rfl, rfl⟩)
  rw [if_neg e1]; exact num_D1 _ _ _ _ _ _ _ _ _ _ _ _ _ _ _ _ _ _ _ _ _ (.inr ⟨e1, e2, e3, e4, rfl, rfl⟩)
theorem self_D0 (t a1 a2 b1 b2 b3 c1 c2 m1 m2 m3 m4 m5 : Int) (h1 h2 h3 : ByteArray) (l : List ItemM) (k : List Int) (q : List ByteArray) (x y : Int)
    (d0 : DPure Tp I 50 [.agg [VN .i64 t, VN .i64 a1, VN .i64 a2, SV h1, .list 5 (itemsL l), VN .i64 b1, VN .i64 b2, VN .i64 b3, SV h2, .list 1 (k.map fun n => VN .i64 n), .list 1 (strsL q), VN .i64 c1, VN .i64 c2, SV h3, VN .i64 m1, VN .i64 m2, VN .i64 m3, VN .i64 m4, VN .i64 m5]] (.v (.tuple #[.int .i64 x, .int .i64 y]))) :
    DPure Tp I 19 [.agg [VN .i64 t, VN .i64 a1, VN .i64 a2, SV h1, .list 5 (itemsL l), VN .i64 b1, VN .i64 b2, VN .i64 b3, SV h2, .list 1 (k.map fun n => VN .i64 n), .list 1 (strsL q), VN .i64 c1, VN .i64 c2, SV h3, VN .i64 m1, VN .i64 m2, VN .i64 m3, VN .i64 m4, VN .i64 m5]] (VN .i64 x) := by
  refine z_pure (e0 := ?e0x3) mix e19 rfl ?z03 ?_
  (case z03 => exact rfl)
  dsimp only [c19]
  repeat' (first
    | ((with_reducible apply z_call); (case' hd => apply d0); (case hw => exact wknL_ok rfl); (try any_goals (first | omega | (dsimp only; omega) | (simp only [ByteArray.size_append, ByteArray.size_extract, strOfNums_size, List.length_cons, List.length_nil, List.length_map, List.length_append, List.length_take, List.length_drop]; omega))))
    | with_reducible refine z_seq ?_
    | with_reducible refine z_seqn ?_
    | with_reducible refine z_ret ?_
    | with_reducible refine z_reg ?_
    | with_reducible refine z_nil ?_
    | ((with_reducible apply z_mv); (case h => ((conv => {lhs; whnf}) <;> exact rfl)))
    | ((with_reducible apply z_lda); (case h => ((conv => {lhs; whnf}) <;> exact rfl)); (case hc => ((conv => {lhs; whnf}) <;> exact rfl)); (case hb => exact rfl); (case hr => ((conv => {lhs; whnf}) <;> exact rfl)))
    | ((with_reducible apply z_ext0); (case hx => ((conv => {lhs; whnf}) <;> exact rfl)))
    | ((with_reducible apply z_ext1); (case hx => ((conv => {lhs; whnf}) <;> exact rfl)))
    | ((with_reducible apply z_box); (case hx => ((conv => {lhs; whnf}) <;> exact rfl)); (case hu => exact rfl); (case hc => ((conv => {lhs; whnf}) <;> exact rfl)); (case hq => ((conv => {lhs; whnf}) <;> exact rfl)); (case hl => ((conv => {lhs; whnf}) <;> exact rfl)))
    | ((with_reducible apply z_fin); (case he => exact rfl); (case hr => ((conv => {lhs; whnf}) <;> exact rfl)))
    | fail)
  exact wkn_ok (by kernel_rfl)
theorem right_D0 (t a1 a2 b1 b2 b3 c1 c2 m1 m2 m3 m4 m5 : Int) (h1 h2 h3 : ByteArray) (l : List ItemM) (k : List Int) (q : List ByteArray) (x y : Int)
    (d0 : DPure Tp I 50 [.agg [VN .i64 t, VN .i64 a1, VN .i64 a2, SV h1, .list 5 (itemsL l), VN .i64 b1, VN .i64 b2, VN .i64 b3, SV h2, .list 1 (k.map fun n => VN .i64 n), .list 1 (strsL q), VN .i64 c1, VN .i64 c2, SV h3, VN .i64 m1, VN .i64 m2, VN .i64 m3, VN .i64 m4, VN .i64 m5]] (.v (.tuple #[.int .i64 x, .int .i64 y]))) :
    DPure Tp I 21 [.agg [VN .i64 t, VN .i64 a1, VN .i64 a2, SV h1, .list 5 (itemsL l), VN .i64 b1, VN .i64 b2, VN .i64 b3, SV h2, .list 1 (k.map fun n => VN .i64 n), .list 1 (strsL q), VN .i64 c1, VN .i64 c2, SV h3, VN .i64 m1, VN .i64 m2, VN .i64 m3, VN .i64 m4, VN .i64 m5]] (VN .i64 y) := by
  refine z_pure (e0 := ?e0x4) mix e21 rfl ?z04 ?_
  (case z04 => exact rfl)
  dsimp only [c21]
  repeat' (first
    | ((with_reducible apply z_call); (case' hd => apply d0); (case hw => exact wknL_ok rfl); (try any_goals (first | omega | (dsimp only; omega) | (simp only [ByteArray.size_append, ByteArray.size_extract, strOfNums_size, List.length_cons, List.length_nil, List.length_map, List.length_append, List.length_take, List.length_drop]; omega))))
    | with_reducible refine z_seq ?_
    | with_reducible refine z_seqn ?_
    | with_reducible refine z_ret ?_
    | with_reducible refine z_reg ?_
    | with_reducible refine z_nil ?_
    | ((with_reducible apply z_mv); (case h => ((conv => {lhs; whnf}) <;> exact rfl)))
    | ((with_reducible apply z_lda); (case h => ((conv => {lhs; whnf}) <;> exact rfl)); (case hc => ((conv => {lhs; whnf}) <;> exact rfl)); (case hb => exact rfl); (case hr => ((conv => {lhs; whnf}) <;> exact rfl)))
    | ((with_reducible apply z_ext0); (case hx => ((conv => {lhs; whnf}) <;> exact rfl)))
    | ((with_reducible apply z_ext1); (case hx => ((conv => {lhs; whnf}) <;> exact rfl)))
    | ((with_reducible apply z_box); (case hx => ((conv => {lhs; whnf}) <;> exact rfl)); (case hu => exact rfl); (case hc => ((conv => {lhs; whnf}) <;> exact rfl)); (case hq => ((conv => {lhs; whnf}) <;> exact rfl)); (case hl => ((conv => {lhs; whnf}) <;> exact rfl)))
    | ((with_reducible apply z_fin); (case he => exact rfl); (case hr => ((conv => {lhs; whnf}) <;> exact rfl)))
    | fail)
  exact wkn_ok (by kernel_rfl)
theorem self_D (x : PageM) : DPure Tp I 19 [pageT x] (VN .i64 (selfN x)) := by
  have d0 := num_D (I := I) x
  obtain ⟨t, ⟨a1, a2, h1, l⟩, ⟨b1, b2, b3, h2, k, q⟩, ⟨c1, c2, h3⟩, ⟨m1, m2, m3, m4, m5⟩⟩ := x
  exact self_D0 _ _ _ _ _ _ _ _ _ _ _ _ _ _ _ _ _ _ _ _ _ d0
theorem rightp_D (x : PageM) : DPure Tp I 21 [pageT x] (VN .i64 (rightN x)) := by
  have d0 := num_D (I := I) x
  obtain ⟨t, ⟨a1, a2, h1, l⟩, ⟨b1, b2, b3, h2, k, q⟩, ⟨c1, c2, h3⟩, ⟨m1, m2, m3, m4, m5⟩⟩ := x
  exact right_D0 _ _ _ _ _ _ _ _ _ _ _ _ _ _ _ _ _ _ _ _ _ d0
end Go.Proofs.YtlbodfkhenkcjaaGreatDoor.X


namespace Go.Proofs.YtlbodfkhenkcjaaGreatDoor.X
open Go Go.Proofs Go.RowKit Go.Proofs.YtlbodfkhenkcjaaGreatDoor.D
set_option maxRecDepth 100000
set_option maxHeartbeats 1000000
set_option linter.unusedVariables false
set_option linter.unusedSimpArgs false
variable {I : D.Inv}
attribute [local irreducible] D.DPure D.DEff D.callable

def c61 : DFun := ⟨26, [.t 4], .seq (.reg [⟨some 4, .mv (.c (.bool false)), none⟩]) (.seq (.seq (.reg [⟨some 6, .mv (.t 0), none⟩, ⟨some 7, .len false (.t 6), none⟩, ⟨some 8, .mv (.t 1), none⟩, ⟨some 9, .len false (.t 8), none⟩, ⟨some 10, .bin .neq (.t 7) (.t 9), none⟩]) (.cond (.t 10) (.seq (.reg [⟨some 4, .mv (.c (.bool false)), none⟩]) .ret) .skip)) (.seq (.seq (.reg [⟨some 11, .mv (.t 0), none⟩, ⟨some 12, .len false (.t 11), none⟩, ⟨some 13, .mv (.c (.int .i64 0)), none⟩]) (.block 0 (.loop (.seq (.reg [⟨some 14, .bin .lss (.t 13) (.t 12), none⟩]) (.seq (.cond (.t 14) .skip (.exit 0)) (.seq (.block 1 (.seq (.reg [⟨some 15, .mv (.t 13), none⟩, ⟨some 5, .mv (.t 15), none⟩]) (.seq (.reg [⟨some 16, .mv (.t 0), none⟩, ⟨some 17, .mv (.t 5), none⟩, ⟨some 18, .ixa 1 (.t 16) (.t 17), none⟩, ⟨some 19, .ld 1 false (.t 18), none⟩, ⟨some 20, .mv (.t 1), none⟩, ⟨some 21, .mv (.t 5), none⟩, ⟨some 22, .ixa 1 (.t 20) (.t 21), none⟩, ⟨some 23, .ld 1 false (.t 22), none⟩, ⟨some 24, .bin .neq (.t 19) (.t 23), none⟩]) (.cond (.t 24) (.seq (.reg [⟨some 4, .mv (.c (.bool false)), none⟩]) .ret) .skip)))) (.reg [⟨some 25, .bin .add (.t 13) (.c (.int .i64 1)), none⟩, ⟨some 13, .mv (.t 25), none⟩]))))))) (.seq (.reg [⟨some 4, .mv (.c (.bool true)), none⟩]) .ret)))⟩
theorem e61 : cfun Tryz.prog 61 = some c61 := by kernel_rfl
def c62 : DFun := ⟨26, [.t 4], .seq (.reg [⟨some 4, .mv (.c (.bool false)), none⟩]) (.seq (.seq (.reg [⟨some 6, .mv (.t 0), none⟩, ⟨some 7, .len false (.t 6), none⟩, ⟨some 8, .mv (.t 1), none⟩, ⟨some 9, .len false (.t 8), none⟩, ⟨some 10, .bin .neq (.t 7) (.t 9), none⟩]) (.cond (.t 10) (.seq (.reg [⟨some 4, .mv (.c (.bool false)), none⟩]) .ret) .skip)) (.seq (.seq (.reg [⟨some 11, .mv (.t 0), none⟩, ⟨some 12, .len false (.t 11), none⟩, ⟨some 13, .mv (.c (.int .i64 0)), none⟩]) (.block 0 (.loop (.seq (.reg [⟨some 14, .bin .lss (.t 13) (.t 12), none⟩]) (.seq (.cond (.t 14) .skip (.exit 0)) (.seq (.block 1 (.seq (.reg [⟨some 15, .mv (.t 13), none⟩, ⟨some 5, .mv (.t 15), none⟩]) (.seq (.reg [⟨some 16, .mv (.t 0), none⟩, ⟨some 17, .mv (.t 5), none⟩, ⟨some 18, .ixa 1 (.t 16) (.t 17), none⟩, ⟨some 19, .ld 1 false (.t 18), none⟩, ⟨some 20, .mv (.t 1), none⟩, ⟨some 21, .mv (.t 5), none⟩, ⟨some 22, .ixa 1 (.t 20) (.t 21), none⟩, ⟨some 23, .ld 1 false (.t 22), none⟩, ⟨some 24, .bin .neq (.t 19) (.t 23), none⟩]) (.cond (.t 24) (.seq (.reg [⟨some 4, .mv (.c (.bool false)), none⟩]) .ret) .skip)))) (.reg [⟨some 25, .bin .add (.t 13) (.c (.int .i64 1)), none⟩, ⟨some 13, .mv (.t 25), none⟩]))))))) (.seq (.reg [⟨some 4, .mv (.c (.bool true)), none⟩]) .ret)))⟩
theorem e62 : cfun Tryz.prog 62 = some c62 := by kernel_rfl
theorem eq_ext {α : Type} {l m : List α} (hn : l.length = m.length) (h : ∀ j (h : j < l.length) (h' : j < m.length), j < l.length → l[j] = m[j]) : l = m := List.ext_getElem hn fun j h1 h2 => h j h1 h2 h1
theorem equalS_D (l m : List ByteArray) (hl : l.length ≤ 100000) (hm : m.length ≤ 100000) : DPure Tp I 62 [.list 1 (strsL l), .list 1 (strsL m)] (BV (decide (l = m))) := by
  have hll := strs_len l
  have hml := strs_len m
  by_cases hlm : l.length = m.length
  · refine z_pure (e0 := ?e0x1) mix e62 rfl ?z01 ?_
    (case z01 => exact rfl)
    dsimp only [c62]
    repeat' (first
      | with_reducible refine z_seq ?_
      | with_reducible refine z_seqn ?_
      | with_reducible refine z_blk ?_
      | with_reducible refine z_skip ?_
      | with_reducible refine z_reg ?_
      | with_reducible refine z_nil ?_
      | ((with_reducible apply z_cond_f); (case hc => exact rfl))
      | ((with_reducible apply z_mv); (case h => ((conv => {lhs; whnf}) <;> exact rfl)))
      | ((with_reducible apply z_bin); (case hx => ((conv => {lhs; whnf}) <;> exact rfl)); (case hy => ((conv => {lhs; whnf}) <;> exact rfl)))
      | ((with_reducible apply z_lenL); (case hx => ((conv => {lhs; whnf}) <;> exact rfl)); (case h => ((conv => {lhs; whnf}) <;> exact rfl)))
      | with_reducible refine s_neq_f (by omega) ?_
      | fail)
    refine z_loop (fun i : Nat => ⟨[(0, .list 1 (strsL l)), (1, .list 1 (strsL m)), (12, VN .i64 (strsL l).length), (13, VN .i64 i)], [], []⟩) (fun i : Nat => i ≤ l.length ∧ ∀ j (h : j < l.length) (h' : j < m.length), j < i → l[j] = m[j]) (fun i : Nat => l.length - i) (0) ?_ ?_ fun i hi => ?_
    · exact (less_of 0 0 0 rfl rfl (lessE_cons (ltd_eq rfl (by kernel_rfl)) (lessE_cons (ltd_eq rfl (by kernel_rfl)) (lessE_cons (ltd_eq rfl (by kernel_rfl)) (lessE_cons (ltd_eq rfl (by kernel_rfl)) lessE_nil)))) (by kernel_rfl) (by kernel_rfl) (by kernel_rfl) (by kernel_rfl))
    · exact ⟨by omega, fun j _ _ h => absurd h (Nat.not_lt_zero j)⟩
    by_cases hil : i < l.length
    · have him : i < m.length := by omega
      repeat' (first
        | refine ⟨_, strs_get hil, ?_⟩
        | refine ⟨_, strs_get him, ?_⟩
        | with_reducible refine z_seq ?_
        | with_reducible refine z_seqn ?_
        | with_reducible refine z_seqr ?_
        | with_reducible refine z_blk ?_
        | with_reducible refine z_blkn ?_
        | with_reducible refine z_blkr ?_
        | with_reducible refine z_lopn ?_
        | with_reducible refine z_lopr ?_
        | with_reducible refine z_skip ?_
        | with_reducible refine z_ret ?_
        | with_reducible refine z_reg ?_
        | with_reducible refine z_nil ?_
        | ((with_reducible apply z_cond_t); (case hc => exact rfl))
        | ((with_reducible apply z_cond_f); (case hc => exact rfl))
        | ((with_reducible apply z_mv); (case h => ((conv => {lhs; whnf}) <;> exact rfl)))
        | ((with_reducible apply z_lde); (case h => ((conv => {lhs; whnf}) <;> exact rfl)); (case hd => ((conv => {lhs; whnf}) <;> exact rfl)))
        | ((with_reducible apply z_bin); (case hx => ((conv => {lhs; whnf}) <;> exact rfl)); (case hy => ((conv => {lhs; whnf}) <;> exact rfl)))
        | ((with_reducible apply z_ixa); (case hi => ((conv => {lhs; whnf}) <;> exact rfl)); (case hx => ((conv => {lhs; whnf}) <;> exact rfl)); (case h1 => ((conv => {lhs; whnf}) <;> exact rfl)); (case h2 => exact rfl))
        | ((with_reducible apply z_fin); (case he => exact rfl); (case hr => ((conv => {lhs; whnf}) <;> exact rfl)))
        | with_reducible refine s_lss_t (by omega) ?_
        | with_reducible refine s_add (by first | omega | (dsimp only; omega) | (simp only [ByteArray.size_append, ByteArray.size_extract, strOfNums_size, List.length_cons, List.length_nil, List.length_map, List.length_append, List.length_take, List.length_drop]; omega)) ?_
        | with_reducible refine s_sneq (fun _ => ?_) (fun _ => ?_)
        | refine And.intro (by omega) ?_
        | fail)
      · refine ⟨i + 1, (less_of 0 0 0 rfl rfl (lessE_cons (ltd_eq rfl (by kernel_rfl)) (lessE_cons (ltd_eq rfl (by kernel_rfl)) (lessE_cons (ltd_eq rfl (by kernel_rfl)) (lessE_cons (ltd_eq rfl (by kernel_rfl)) lessE_nil)))) (by kernel_rfl) (by kernel_rfl) (by kernel_rfl) (by kernel_rfl)), ⟨by omega, fun j h h' hj => ?_⟩, by omega⟩
        rcases Nat.lt_or_eq_of_le (Nat.le_of_lt_succ hj) with q | q
        · exact hi.2 j h h' q
        · subst q; assumption
      · refine bool_of (b := false) (by kernel_rfl) (decide_eq_false fun e => ?_).symm
        subst e
        exact absurd rfl ‹¬ _ = _›
    · repeat' (first
        | with_reducible refine z_seq ?_
        | with_reducible refine z_seqn ?_
        | with_reducible refine z_seqx ?_
        | with_reducible refine z_blkh ?_
        | with_reducible refine z_lopx ?_
        | with_reducible refine z_exit ?_
        | with_reducible refine z_ret ?_
        | with_reducible refine z_reg ?_
        | with_reducible refine z_nil ?_
        | ((with_reducible apply z_cond_f); (case hc => exact rfl))
        | ((with_reducible apply z_mv); (case h => ((conv => {lhs; whnf}) <;> exact rfl)))
        | ((with_reducible apply z_bin); (case hx => ((conv => {lhs; whnf}) <;> exact rfl)); (case hy => ((conv => {lhs; whnf}) <;> exact rfl)))
        | ((with_reducible apply z_fin); (case he => exact rfl); (case hr => ((conv => {lhs; whnf}) <;> exact rfl)))
        | with_reducible refine s_lss_f (by omega) ?_
        | fail)
      exact bool_of (b := true) (by kernel_rfl) (decide_eq_true (eq_ext hlm fun j h h' hj => hi.2 j h h' (by omega))).symm
  · refine z_pure (e0 := ?e0x2) mix e62 rfl ?z02 ?_
    (case z02 => exact rfl)
    dsimp only [c62]
    repeat' (first
      | with_reducible refine z_seq ?_
      | with_reducible refine z_seqn ?_
      | with_reducible refine z_seqr ?_
      | with_reducible refine z_ret ?_
      | with_reducible refine z_reg ?_
      | with_reducible refine z_nil ?_
      | ((with_reducible apply z_cond_t); (case hc => exact rfl))
      | ((with_reducible apply z_mv); (case h => ((conv => {lhs; whnf}) <;> exact rfl)))
      | ((with_reducible apply z_bin); (case hx => ((conv => {lhs; whnf}) <;> exact rfl)); (case hy => ((conv => {lhs; whnf}) <;> exact rfl)))
      | ((with_reducible apply z_lenL); (case hx => ((conv => {lhs; whnf}) <;> exact rfl)); (case h => ((conv => {lhs; whnf}) <;> exact rfl)))
      | ((with_reducible apply z_fin); (case he => exact rfl); (case hr => ((conv => {lhs; whnf}) <;> exact rfl)))
      | with_reducible refine s_neq_t (by omega) ?_
      | fail)
    exact bool_of (b := false) (by kernel_rfl) (decide_eq_false fun e => hlm (congrArg List.length e)).symm
theorem equalI_D (l m : List Int) (hl : l.length ≤ 100000) (hm : m.length ≤ 100000) : DPure Tp I 61 [.list 1 (l.map fun n => VN .i64 n), .list 1 (m.map fun n => VN .i64 n)] (BV (decide (l = m))) := by
  have hll := ints_len l
  have hml := ints_len m
  by_cases hlm : l.length = m.length
  · refine z_pure (e0 := ?e0x3) mix e61 rfl ?z03 ?_
    (case z03 => exact rfl)
    dsimp only [c61]
    repeat' (first
      | with_reducible refine z_seq ?_
      | with_reducible refine z_seqn ?_
      | with_reducible refine z_blk ?_
      | with_reducible refine z_skip ?_
      | with_reducible refine z_reg ?_
      | with_reducible refine z_nil ?_
      | ((with_reducible apply z_cond_f); (case hc => exact rfl))
      | ((with_reducible apply z_mv); (case h => ((conv => {lhs; whnf}) <;> exact rfl)))
      | ((with_reducible apply z_bin); (case hx => ((conv => {lhs; whnf}) <;> exact rfl)); (case hy => ((conv => {lhs; whnf}) <;> exact rfl)))
      | ((with_reducible apply z_lenL); (case hx => ((conv => {lhs; whnf}) <;> exact rfl)); (case h => ((conv => {lhs; whnf}) <;> exact rfl)))
      | with_reducible refine s_neq_f (by omega) ?_
      | fail)
    refine z_loop (fun i : Nat => ⟨[(0, .list 1 (l.map fun n => VN .i64 n)), (1, .list 1 (m.map fun n => VN .i64 n)), (12, VN .i64 (l.map fun n => VN .i64 n).length), (13, VN .i64 i)], [], []⟩) (fun i : Nat => i ≤ l.length ∧ ∀ j (h : j < l.length) (h' : j < m.length), j < i → l[j] = m[j]) (fun i : Nat => l.length - i) (0) ?_ ?_ fun i hi => ?_
    · exact (less_of 0 0 0 rfl rfl (lessE_cons (ltd_eq rfl (by kernel_rfl)) (lessE_cons (ltd_eq rfl (by kernel_rfl)) (lessE_cons (ltd_eq rfl (by kernel_rfl)) (lessE_cons (ltd_eq rfl (by kernel_rfl)) lessE_nil)))) (by kernel_rfl) (by kernel_rfl) (by kernel_rfl) (by kernel_rfl))
    · exact ⟨by omega, fun j _ _ h => absurd h (Nat.not_lt_zero j)⟩
    by_cases hil : i < l.length
    · have him : i < m.length := by omega
      repeat' (first
        | refine ⟨_, ints_get hil, ?_⟩
        | refine ⟨_, ints_get him, ?_⟩
        | with_reducible refine z_seq ?_
        | with_reducible refine z_seqn ?_
        | with_reducible refine z_seqr ?_
        | with_reducible refine z_blk ?_
        | with_reducible refine z_blkn ?_
        | with_reducible refine z_blkr ?_
        | with_reducible refine z_lopn ?_
        | with_reducible refine z_lopr ?_
        | with_reducible refine z_skip ?_
        | with_reducible refine z_ret ?_
        | with_reducible refine z_reg ?_
        | with_reducible refine z_nil ?_
        | ((with_reducible apply z_cond_t); (case hc => exact rfl))
        | ((with_reducible apply z_cond_f); (case hc => exact rfl))
        | ((with_reducible apply z_mv); (case h => ((conv => {lhs; whnf}) <;> exact rfl)))
        | ((with_reducible apply z_lde); (case h => ((conv => {lhs; whnf}) <;> exact rfl)); (case hd => ((conv => {lhs; whnf}) <;> exact rfl)))
        | ((with_reducible apply z_bin); (case hx => ((conv => {lhs; whnf}) <;> exact rfl)); (case hy => ((conv => {lhs; whnf}) <;> exact rfl)))
        | ((with_reducible apply z_ixa); (case hi => ((conv => {lhs; whnf}) <;> exact rfl)); (case hx => ((conv => {lhs; whnf}) <;> exact rfl)); (case h1 => ((conv => {lhs; whnf}) <;> exact rfl)); (case h2 => exact rfl))
        | ((with_reducible apply z_fin); (case he => exact rfl); (case hr => ((conv => {lhs; whnf}) <;> exact rfl)))
        | with_reducible refine s_lss_t (by omega) ?_
        | with_reducible refine s_neq (fun _ => ?_) (fun _ => ?_)
        | with_reducible refine s_add (by first | omega | (dsimp only; omega) | (simp only [ByteArray.size_append, ByteArray.size_extract, strOfNums_size, List.length_cons, List.length_nil, List.length_map, List.length_append, List.length_take, List.length_drop]; omega)) ?_
        | refine And.intro (by omega) ?_
        | fail)
      · refine ⟨i + 1, (less_of 0 0 0 rfl rfl (lessE_cons (ltd_eq rfl (by kernel_rfl)) (lessE_cons (ltd_eq rfl (by kernel_rfl)) (lessE_cons (ltd_eq rfl (by kernel_rfl)) (lessE_cons (ltd_eq rfl (by kernel_rfl)) lessE_nil)))) (by kernel_rfl) (by kernel_rfl) (by kernel_rfl) (by kernel_rfl)), ⟨by omega, fun j h h' hj => ?_⟩, by omega⟩
        rcases Nat.lt_or_eq_of_le (Nat.le_of_lt_succ hj) with q | q
        · exact hi.2 j h h' q
        · subst q; assumption
      · refine bool_of (b := false) (by kernel_rfl) (decide_eq_false fun e => ?_).symm
        subst e
        exact absurd rfl ‹¬ _ = _›
    · repeat' (first
        | with_reducible refine z_seq ?_
        | with_reducible refine z_seqn ?_
        | with_reducible refine z_seqx ?_
        | with_reducible refine z_blkh ?_
        | with_reducible refine z_lopx ?_
        | with_reducible refine z_exit ?_
        | with_reducible refine z_ret ?_
        | with_reducible refine z_reg ?_
        | with_reducible refine z_nil ?_
        | ((with_reducible apply z_cond_f); (case hc => exact rfl))
        | ((with_reducible apply z_mv); (case h => ((conv => {lhs; whnf}) <;> exact rfl)))
        | ((with_reducible apply z_bin); (case hx => ((conv => {lhs; whnf}) <;> exact rfl)); (case hy => ((conv => {lhs; whnf}) <;> exact rfl)))
        | ((with_reducible apply z_fin); (case he => exact rfl); (case hr => ((conv => {lhs; whnf}) <;> exact rfl)))
        | with_reducible refine s_lss_f (by omega) ?_
        | fail)
      exact bool_of (b := true) (by kernel_rfl) (decide_eq_true (eq_ext hlm fun j h h' hj => hi.2 j h h' (by omega))).symm
  · refine z_pure (e0 := ?e0x4) mix e61 rfl ?z04 ?_
    (case z04 => exact rfl)
    dsimp only [c61]
    repeat' (first
      | with_reducible refine z_seq ?_
      | with_reducible refine z_seqn ?_
      | with_reducible refine z_seqr ?_
      | with_reducible refine z_ret ?_
      | with_reducible refine z_reg ?_
      | with_reducible refine z_nil ?_
      | ((with_reducible apply z_cond_t); (case hc => exact rfl))
      | ((with_reducible apply z_mv); (case h => ((conv => {lhs; whnf}) <;> exact rfl)))
      | ((with_reducible apply z_bin); (case hx => ((conv => {lhs; whnf}) <;> exact rfl)); (case hy => ((conv => {lhs; whnf}) <;> exact rfl)))
      | ((with_reducible apply z_lenL); (case hx => ((conv => {lhs; whnf}) <;> exact rfl)); (case h => ((conv => {lhs; whnf}) <;> exact rfl)))
      | ((with_reducible apply z_fin); (case he => exact rfl); (case hr => ((conv => {lhs; whnf}) <;> exact rfl)))
      | with_reducible refine s_neq_t (by omega) ?_
      | fail)
    exact bool_of (b := false) (by kernel_rfl) (decide_eq_false fun e => hlm (congrArg List.length e)).symm
end Go.Proofs.YtlbodfkhenkcjaaGreatDoor.X


namespace Go.Proofs.YtlbodfkhenkcjaaGreatDoor.X
open Go Go.Proofs Go.RowKit Go.Proofs.YtlbodfkhenkcjaaGreatDoor.D
set_option maxRecDepth 100000
set_option maxHeartbeats 1000000
set_option linter.unusedVariables false
set_option linter.unusedSimpArgs false
variable {I : D.Inv}
attribute [local irreducible] D.DPure D.DEff D.callable

def c60 : DFun := ⟨26, [.t 4], .seq (.reg [⟨some 4, .mv (.c (.bool false)), none⟩]) (.seq (.seq (.reg [⟨some 6, .mv (.t 0), none⟩, ⟨some 7, .len false (.t 6), none⟩, ⟨some 8, .mv (.t 1), none⟩, ⟨some 9, .len false (.t 8), none⟩, ⟨some 10, .bin .neq (.t 7) (.t 9), none⟩]) (.cond (.t 10) (.seq (.reg [⟨some 4, .mv (.c (.bool false)), none⟩]) .ret) .skip)) (.seq (.seq (.reg [⟨some 11, .mv (.t 0), none⟩, ⟨some 12, .len false (.t 11), none⟩, ⟨some 13, .mv (.c (.int .i64 0)), none⟩]) (.block 0 (.loop (.seq (.reg [⟨some 14, .bin .lss (.t 13) (.t 12), none⟩]) (.seq (.cond (.t 14) .skip (.exit 0)) (.seq (.block 1 (.seq (.reg [⟨some 15, .mv (.t 13), none⟩, ⟨some 5, .mv (.t 15), none⟩]) (.seq (.reg [⟨some 16, .mv (.t 0), none⟩, ⟨some 17, .mv (.t 5), none⟩, ⟨some 18, .ixa 5 (.t 16) (.t 17), none⟩, ⟨some 19, .ld 5 true (.t 18), none⟩, ⟨some 20, .mv (.t 1), none⟩, ⟨some 21, .mv (.t 5), none⟩, ⟨some 22, .ixa 5 (.t 20) (.t 21), none⟩, ⟨some 23, .ld 5 true (.t 22), none⟩, ⟨some 24, .eqs true [2, 0, 2, 1, 1] (.t 19) (.t 23), none⟩]) (.cond (.t 24) (.seq (.reg [⟨some 4, .mv (.c (.bool false)), none⟩]) .ret) .skip)))) (.reg [⟨some 25, .bin .add (.t 13) (.c (.int .i64 1)), none⟩, ⟨some 13, .mv (.t 25), none⟩]))))))) (.seq (.reg [⟨some 4, .mv (.c (.bool true)), none⟩]) .ret)))⟩
theorem e60 : cfun Tryz.prog 60 = some c60 := by kernel_rfl
noncomputable instance : DecidableEq ItemM := fun _ _ => Classical.propDecidable _
theorem tl_inj {s t : ByteArray} (h : s.toList = t.toList) : s = t := by
  rw [ByteArray.toList_eq, ByteArray.toList_eq] at h
  obtain ⟨⟨l⟩⟩ := s
  obtain ⟨⟨m⟩⟩ := t
  exact congrArg (fun l => ByteArray.mk (Array.mk l)) h
theorem it_eqb (x y : ItemM) : ((x.key.toList == y.key.toList) && ((x.v.over == y.v.over) && ((x.v.s.toList == y.v.s.toList) && ((x.v.len == y.v.len) && ((x.v.page == y.v.page) && true))))) = decide (x = y) := by
  rw [Bool.eq_iff_iff, decide_eq_true_iff]
  simp only [Bool.and_eq_true, beq_iff_eq, and_true]
  constructor
  · rintro ⟨h1, h2, h3, h4, h5⟩
    obtain ⟨k, v, s, n, p⟩ := x
    obtain ⟨k', v', s', n', p'⟩ := y
    dsimp only at h1 h2 h3 h4 h5
    obtain rfl := tl_inj h1
    obtain rfl := tl_inj h3
    subst h2 h4 h5
    rfl
  · rintro rfl
    exact ⟨rfl, rfl, rfl, rfl, rfl⟩
theorem it_ne {x y : ItemM} (h : (!((x.key.toList == y.key.toList) && ((x.v.over == y.v.over) && ((x.v.s.toList == y.v.s.toList) && ((x.v.len == y.v.len) && ((x.v.page == y.v.page) && true)))))) = true) : ¬ x = y := by
  rw [it_eqb] at h
  simpa using h
theorem it_same {x y : ItemM} (h : (!((x.key.toList == y.key.toList) && ((x.v.over == y.v.over) && ((x.v.s.toList == y.v.s.toList) && ((x.v.len == y.v.len) && ((x.v.page == y.v.page) && true)))))) = false) : x = y := by
  rw [it_eqb] at h
  simpa using h
theorem equalT_D (l m : List ItemM) (hl : l.length ≤ 100000) (hm : m.length ≤ 100000) : DPure Tp I 60 [.list 5 (itemsL l), .list 5 (itemsL m)] (BV (decide (l = m))) := by
  have hll := items_len l
  have hml := items_len m
  by_cases hlm : l.length = m.length
  · refine z_pure (e0 := ?e0x1) mix e60 rfl ?z01 ?_
    (case z01 => exact rfl)
    dsimp only [c60]
    repeat' (first
      | with_reducible refine z_seq ?_
      | with_reducible refine z_seqn ?_
      | with_reducible refine z_blk ?_
      | with_reducible refine z_skip ?_
      | with_reducible refine z_reg ?_
      | with_reducible refine z_nil ?_
      | ((with_reducible apply z_cond_f); (case hc => exact rfl))
      | ((with_reducible apply z_mv); (case h => ((conv => {lhs; whnf}) <;> exact rfl)))
      | ((with_reducible apply z_bin); (case hx => ((conv => {lhs; whnf}) <;> exact rfl)); (case hy => ((conv => {lhs; whnf}) <;> exact rfl)))
      | ((with_reducible apply z_lenL); (case hx => ((conv => {lhs; whnf}) <;> exact rfl)); (case h => ((conv => {lhs; whnf}) <;> exact rfl)))
      | with_reducible refine s_neq_f (by omega) ?_
      | fail)
    refine z_loop (fun i : Nat => ⟨[(0, .list 5 (itemsL l)), (1, .list 5 (itemsL m)), (12, VN .i64 (itemsL l).length), (13, VN .i64 i)], [], []⟩) (fun i : Nat => i ≤ l.length ∧ ∀ j (h : j < l.length) (h' : j < m.length), j < i → l[j] = m[j]) (fun i : Nat => l.length - i) (0) ?_ ?_ fun i hi => ?_
    · exact (less_of 0 0 0 rfl rfl (lessE_cons (ltd_eq rfl (by kernel_rfl)) (lessE_cons (ltd_eq rfl (by kernel_rfl)) (lessE_cons (ltd_eq rfl (by kernel_rfl)) (lessE_cons (ltd_eq rfl (by kernel_rfl)) lessE_nil)))) (by kernel_rfl) (by kernel_rfl) (by kernel_rfl) (by kernel_rfl))
    · exact ⟨by omega, fun j _ _ h => absurd h (Nat.not_lt_zero j)⟩
    by_cases hil : i < l.length
    · have him : i < m.length := by omega
      repeat' (first
        | refine ⟨_, items_get hil, ?_⟩
        | refine ⟨_, items_get him, ?_⟩
        | with_reducible refine z_seq ?_
        | with_reducible refine z_seqn ?_
        | with_reducible refine z_seqr ?_
        | with_reducible refine z_blk ?_
        | with_reducible refine z_blkn ?_
        | with_reducible refine z_blkr ?_
        | with_reducible refine z_lopn ?_
        | with_reducible refine z_lopr ?_
        | with_reducible refine z_skip ?_
        | with_reducible refine z_ret ?_
        | with_reducible refine z_reg ?_
        | with_reducible refine z_nil ?_
        | ((with_reducible apply z_cond_t); (case hc => exact rfl))
        | ((with_reducible apply z_cond); (case hc => ((conv => {lhs; whnf}) <;> exact rfl)); (all_goals intro _))
        | ((with_reducible apply z_mv); (case h => ((conv => {lhs; whnf}) <;> exact rfl)))
        | ((with_reducible apply z_ldea); (case h => ((conv => {lhs; whnf}) <;> exact rfl)); (case hb => exact rfl); (case hr => ((conv => {lhs; whnf}) <;> exact rfl)))
        | ((with_reducible apply z_bin); (case hx => ((conv => {lhs; whnf}) <;> exact rfl)); (case hy => ((conv => {lhs; whnf}) <;> exact rfl)))
        | ((with_reducible apply z_ixa); (case hi => ((conv => {lhs; whnf}) <;> exact rfl)); (case hx => ((conv => {lhs; whnf}) <;> exact rfl)); (case h1 => ((conv => {lhs; whnf}) <;> exact rfl)); (case h2 => exact rfl))
        | ((with_reducible apply z_eqs); (case hx => ((conv => {lhs; whnf}) <;> exact rfl)); (case hy => ((conv => {lhs; whnf}) <;> exact rfl)); (case h => ((conv => {lhs; whnf}) <;> exact rfl)); (case hb => ((conv => {lhs; whnf}) <;> exact rfl)))
        | ((with_reducible apply z_fin); (case he => exact rfl); (case hr => ((conv => {lhs; whnf}) <;> exact rfl)))
        | with_reducible refine s_lss_t (by omega) ?_
        | with_reducible refine s_add (by first | omega | (dsimp only; omega) | (simp only [ByteArray.size_append, ByteArray.size_extract, strOfNums_size, List.length_cons, List.length_nil, List.length_map, List.length_append, List.length_take, List.length_drop]; omega)) ?_
        | refine And.intro (by omega) ?_
        | fail)
      · rename_i hx
        have hne := it_ne hx
        refine bool_of (b := false) (by kernel_rfl) (decide_eq_false fun e => ?_).symm
        subst e
        exact absurd rfl hne
      · rename_i hx
        have hsm := it_same hx
        refine ⟨i + 1, (less_of 0 0 0 rfl rfl (lessE_cons (ltd_eq rfl (by kernel_rfl)) (lessE_cons (ltd_eq rfl (by kernel_rfl)) (lessE_cons (ltd_eq rfl (by kernel_rfl)) (lessE_cons (ltd_eq rfl (by kernel_rfl)) lessE_nil)))) (by kernel_rfl) (by kernel_rfl) (by kernel_rfl) (by kernel_rfl)), ⟨by omega, fun j h h' hj => ?_⟩, by omega⟩
        rcases Nat.lt_or_eq_of_le (Nat.le_of_lt_succ hj) with q | q
        · exact hi.2 j h h' q
        · subst q; exact hsm
    · repeat' (first
        | with_reducible refine z_seq ?_
        | with_reducible refine z_seqn ?_
        | with_reducible refine z_seqx ?_
        | with_reducible refine z_blkh ?_
        | with_reducible refine z_lopx ?_
        | with_reducible refine z_exit ?_
        | with_reducible refine z_ret ?_
        | with_reducible refine z_reg ?_
        | with_reducible refine z_nil ?_
        | ((with_reducible apply z_cond_f); (case hc => exact rfl))
        | ((with_reducible apply z_mv); (case h => ((conv => {lhs; whnf}) <;> exact rfl)))
        | ((with_reducible apply z_bin); (case hx => ((conv => {lhs; whnf}) <;> exact rfl)); (case hy => ((conv => {lhs; whnf}) <;> exact rfl)))
        | ((with_reducible apply z_fin); (case he => exact rfl); (case hr => ((conv => {lhs; whnf}) <;> exact rfl)))
        | with_reducible refine s_lss_f (by omega) ?_
        | fail)
      exact bool_of (b := true) (by kernel_rfl) (decide_eq_true (eq_ext hlm fun j h h' hj => hi.2 j h h' (by omega))).symm
  · refine z_pure (e0 := ?e0x2) mix e60 rfl ?z02 ?_
    (case z02 => exact rfl)
    dsimp only [c60]
    repeat' (first
      | with_reducible refine z_seq ?_
      | with_reducible refine z_seqn ?_
      | with_reducible refine z_seqr ?_
      | with_reducible refine z_ret ?_
      | with_reducible refine z_reg ?_
      | with_reducible refine z_nil ?_
      | ((with_reducible apply z_cond_t); (case hc => exact rfl))
      | ((with_reducible apply z_mv); (case h => ((conv => {lhs; whnf}) <;> exact rfl)))
      | ((with_reducible apply z_bin); (case hx => ((conv => {lhs; whnf}) <;> exact rfl)); (case hy => ((conv => {lhs; whnf}) <;> exact rfl)))
      | ((with_reducible apply z_lenL); (case hx => ((conv => {lhs; whnf}) <;> exact rfl)); (case h => ((conv => {lhs; whnf}) <;> exact rfl)))
      | ((with_reducible apply z_fin); (case he => exact rfl); (case hr => ((conv => {lhs; whnf}) <;> exact rfl)))
      | with_reducible refine s_neq_t (by omega) ?_
      | fail)
    exact bool_of (b := false) (by kernel_rfl) (decide_eq_false fun e => hlm (congrArg List.length e)).symm
end Go.Proofs.YtlbodfkhenkcjaaGreatDoor.X


namespace Go.Proofs.YtlbodfkhenkcjaaGreatDoor.X
open Go Go.Proofs Go.RowKit Go.Proofs.YtlbodfkhenkcjaaGreatDoor.D
set_option maxRecDepth 100000
set_option maxHeartbeats 4000000
set_option linter.unusedVariables false
set_option linter.unusedSimpArgs false
variable {I : D.Inv}
attribute [local irreducible] D.DPure D.DEff D.callable

def c29 : DFun := ⟨31, [.t 4], .seq (.reg [⟨some 2, .box (.t 0), none⟩, ⟨some 3, .box (.t 1), none⟩, ⟨some 4, .mv (.c (.bool false)), none⟩]) (.seq (.reg [⟨some 5, .fa 0 (.t 2), none⟩, ⟨some 6, .ld 1 false (.t 5), none⟩, ⟨some 7, .fa 0 (.t 3), none⟩, ⟨some 8, .ld 1 false (.t 7), none⟩, ⟨some 9, .bin .eql (.t 6) (.t 8), none⟩, ⟨some 10, .mv (.t 9), none⟩, ⟨some 11, .fa 1 (.t 2), some (10, true)⟩, ⟨some 12, .ld 1 false (.t 11), some (10, true)⟩, ⟨some 13, .fa 1 (.t 3), some (10, true)⟩, ⟨some 14, .ld 1 false (.t 13), some (10, true)⟩, ⟨some 15, .bin .eql (.t 12) (.t 14), some (10, true)⟩, ⟨some 16, .pick (.t 10) (.t 15) (.c (.bool false)), none⟩, ⟨some 17, .mv (.t 16), none⟩, ⟨some 18, .fa 2 (.t 2), some (17, true)⟩, ⟨some 19, .ld 1 false (.t 18), some (17, true)⟩, ⟨some 20, .fa 2 (.t 3), some (17, true)⟩, ⟨some 21, .ld 1 false (.t 20), some (17, true)⟩, ⟨some 22, .bin .eql (.t 19) (.t 21), some (17, true)⟩, ⟨some 23, .pick (.t 17) (.t 22) (.c (.bool false)), none⟩, ⟨some 24, .mv (.t 23), none⟩, ⟨some 25, .fa 3 (.t 2), some (24, true)⟩, ⟨some 26, .ld 1 false (.t 25), some (24, true)⟩, ⟨some 27, .fa 3 (.t 3), some (24, true)⟩, ⟨some 28, .ld 1 false (.t 27), some (24, true)⟩, ⟨some 29, .call 60 [.t 26, .t 28], some (24, true)⟩, ⟨some 30, .pick (.t 24) (.t 29) (.c (.bool false)), none⟩, ⟨some 4, .mv (.t 30), none⟩]) .ret)⟩
theorem e29 : cfun Tryz.prog 29 = some c29 := by kernel_rfl
def c30 : DFun := ⟨45, [.t 4], .seq (.reg [⟨some 2, .box (.t 0), none⟩, ⟨some 3, .box (.t 1), none⟩, ⟨some 4, .mv (.c (.bool false)), none⟩]) (.seq (.reg [⟨some 5, .fa 0 (.t 2), none⟩, ⟨some 6, .ld 1 false (.t 5), none⟩, ⟨some 7, .fa 0 (.t 3), none⟩, ⟨some 8, .ld 1 false (.t 7), none⟩, ⟨some 9, .bin .eql (.t 6) (.t 8), none⟩, ⟨some 10, .mv (.t 9), none⟩, ⟨some 11, .fa 1 (.t 2), some (10, true)⟩, ⟨some 12, .ld 1 false (.t 11), some (10, true)⟩, ⟨some 13, .fa 1 (.t 3), some (10, true)⟩, ⟨some 14, .ld 1 false (.t 13), some (10, true)⟩, ⟨some 15, .bin .eql (.t 12) (.t 14), some (10, true)⟩, ⟨some 16, .pick (.t 10) (.t 15) (.c (.bool false)), none⟩, ⟨some 17, .mv (.t 16), none⟩, ⟨some 18, .fa 2 (.t 2), some (17, true)⟩, ⟨some 19, .ld 1 false (.t 18), some (17, true)⟩, ⟨some 20, .fa 2 (.t 3), some (17, true)⟩, ⟨some 21, .ld 1 false (.t 20), some (17, true)⟩, ⟨some 22, .bin .eql (.t 19) (.t 21), some (17, true)⟩, ⟨some 23, .pick (.t 17) (.t 22) (.c (.bool false)), none⟩, ⟨some 24, .mv (.t 23), none⟩, ⟨some 25, .fa 3 (.t 2), some (24, true)⟩, ⟨some 26, .ld 1 false (.t 25), some (24, true)⟩, ⟨some 27, .fa 3 (.t 3), some (24, true)⟩, ⟨some 28, .ld 1 false (.t 27), some (24, true)⟩, ⟨some 29, .bin .eql (.t 26) (.t 28), some (24, true)⟩, ⟨some 30, .pick (.t 24) (.t 29) (.c (.bool false)), none⟩, ⟨some 31, .mv (.t 30), none⟩, ⟨some 32, .fa 4 (.t 2), some (31, true)⟩, ⟨some 33, .ld 1 false (.t 32), some (31, true)⟩, ⟨some 34, .fa 4 (.t 3), some (31, true)⟩, ⟨some 35, .ld 1 false (.t 34), some (31, true)⟩, ⟨some 36, .call 61 [.t 33, .t 35], some (31, true)⟩, ⟨some 37, .pick (.t 31) (.t 36) (.c (.bool false)), none⟩, ⟨some 38, .mv (.t 37), none⟩, ⟨some 39, .fa 5 (.t 2), some (38, true)⟩, ⟨some 40, .ld 1 false (.t 39), some (38, true)⟩, ⟨some 41, .fa 5 (.t 3), some (38, true)⟩, ⟨some 42, .ld 1 false (.t 41), some (38, true)⟩, ⟨some 43, .call 62 [.t 40, .t 42], some (38, true)⟩, ⟨some 44, .pick (.t 38) (.t 43) (.c (.bool false)), none⟩, ⟨some 4, .mv (.t 44), none⟩]) .ret)⟩
theorem e30 : cfun Tryz.prog 30 = some c30 := by kernel_rfl
theorem lsame_D0 (a b a' b' : Int) (h h' : ByteArray) (l l' : List ItemM) (hl : l.length ≤ 100000) (hm : l'.length ≤ 100000) : DPure Tp I 29 [.agg [VN .i64 a, VN .i64 b, SV h, .list 5 (itemsL l)], .agg [VN .i64 a', VN .i64 b', SV h', .list 5 (itemsL l')]] (BV (decide (((a = a' ∧ b = b') ∧ h = h') ∧ l = l'))) := by
  have d1 := equalT_D (I := I) l l' hl hm
  by_cases hll : l = l'
  · rw [decide_eq_true hll] at d1
    refine z_pure (e0 := ?e0x1) mix e29 rfl ?z01 ?_
    (case z01 => exact rfl)
    dsimp only [c29]
    repeat' (first
      | ((with_reducible apply z_call); (case' hd => apply d1); (case hw => exact wknL_ok rfl); (try any_goals (first | omega | (dsimp only; omega) | (simp only [ByteArray.size_append, ByteArray.size_extract, strOfNums_size, List.length_cons, List.length_nil, List.length_map, List.length_append, List.length_take, List.length_drop]; omega))))
      | with_reducible refine z_seq ?_
      | with_reducible refine z_seqn ?_
      | with_reducible refine z_ret ?_
      | with_reducible refine z_reg ?_
      | with_reducible refine z_nil ?_
      | ((with_reducible apply z_gf); (case hg => exact rfl))
      | ((with_reducible apply z_g); (case hg => exact rfl))
      | ((with_reducible apply z_mv); (case h => ((conv => {lhs; whnf}) <;> exact rfl)))
      | ((with_reducible apply z_pick_t); (case hc => exact rfl); (case h => ((conv => {lhs; whnf}) <;> exact rfl)))
      | ((with_reducible apply z_pick_f); (case hc => exact rfl); (case h => ((conv => {lhs; whnf}) <;> exact rfl)))
      | ((with_reducible apply z_fa); (case h => ((conv => {lhs; whnf}) <;> exact rfl)))
      | ((with_reducible apply z_ld); (case h => ((conv => {lhs; whnf}) <;> exact rfl)); (case hc => ((conv => {lhs; whnf}) <;> exact rfl)); (case hd => ((conv => {lhs; whnf}) <;> exact rfl)))
      | ((with_reducible apply z_bin); (case hx => ((conv => {lhs; whnf}) <;> exact rfl)); (case hy => ((conv => {lhs; whnf}) <;> exact rfl)))
      | ((with_reducible apply z_box); (case hx => ((conv => {lhs; whnf}) <;> exact rfl)); (case hu => exact rfl); (case hc => ((conv => {lhs; whnf}) <;> exact rfl)); (case hq => ((conv => {lhs; whnf}) <;> exact rfl)); (case hl => ((conv => {lhs; whnf}) <;> exact rfl)))
      | ((with_reducible apply z_fin); (case he => exact rfl); (case hr => ((conv => {lhs; whnf}) <;> exact rfl)))
      | with_reducible refine s_eql (fun _ => ?_) (fun _ => ?_)
      | with_reducible refine s_seql (fun _ => ?_) (fun _ => ?_)
      | fail)
    all_goals first
      | exact bool_of (b := true) (by kernel_rfl) (decide_eq_true ⟨⟨⟨‹_›, ‹_›⟩, ‹_›⟩, hll⟩).symm
      | exact bool_of (b := false) (by kernel_rfl) (decide_eq_false fun e => absurd e.1.1.1 ‹_›).symm
      | exact bool_of (b := false) (by kernel_rfl) (decide_eq_false fun e => absurd e.1.1.2 ‹_›).symm
      | exact bool_of (b := false) (by kernel_rfl) (decide_eq_false fun e => absurd e.1.2 ‹_›).symm
  · rw [decide_eq_false hll] at d1
    refine z_pure (e0 := ?e0x2) mix e29 rfl ?z02 ?_
    (case z02 => exact rfl)
    dsimp only [c29]
    repeat' (first
      | ((with_reducible apply z_call); (case' hd => apply d1); (case hw => exact wknL_ok rfl); (try any_goals (first | omega | (dsimp only; omega) | (simp only [ByteArray.size_append, ByteArray.size_extract, strOfNums_size, List.length_cons, List.length_nil, List.length_map, List.length_append, List.length_take, List.length_drop]; omega))))
      | with_reducible refine z_seq ?_
      | with_reducible refine z_seqn ?_
      | with_reducible refine z_ret ?_
      | with_reducible refine z_reg ?_
      | with_reducible refine z_nil ?_
      | ((with_reducible apply z_gf); (case hg => exact rfl))
      | ((with_reducible apply z_g); (case hg => exact rfl))
      | ((with_reducible apply z_mv); (case h => ((conv => {lhs; whnf}) <;> exact rfl)))
      | ((with_reducible apply z_pick_t); (case hc => exact rfl); (case h => ((conv => {lhs; whnf}) <;> exact rfl)))
      | ((with_reducible apply z_pick_f); (case hc => exact rfl); (case h => ((conv => {lhs; whnf}) <;> exact rfl)))
      | ((with_reducible apply z_fa); (case h => ((conv => {lhs; whnf}) <;> exact rfl)))
      | ((with_reducible apply z_ld); (case h => ((conv => {lhs; whnf}) <;> exact rfl)); (case hc => ((conv => {lhs; whnf}) <;> exact rfl)); (case hd => ((conv => {lhs; whnf}) <;> exact rfl)))
      | ((with_reducible apply z_bin); (case hx => ((conv => {lhs; whnf}) <;> exact rfl)); (case hy => ((conv => {lhs; whnf}) <;> exact rfl)))
      | ((with_reducible apply z_box); (case hx => ((conv => {lhs; whnf}) <;> exact rfl)); (case hu => exact rfl); (case hc => ((conv => {lhs; whnf}) <;> exact rfl)); (case hq => ((conv => {lhs; whnf}) <;> exact rfl)); (case hl => ((conv => {lhs; whnf}) <;> exact rfl)))
      | ((with_reducible apply z_fin); (case he => exact rfl); (case hr => ((conv => {lhs; whnf}) <;> exact rfl)))
      | with_reducible refine s_eql (fun _ => ?_) (fun _ => ?_)
      | with_reducible refine s_seql (fun _ => ?_) (fun _ => ?_)
      | fail)
    all_goals exact bool_of (b := false) (by kernel_rfl) (decide_eq_false fun e => hll e.2).symm
theorem isame_D0 (a b c a' b' c' : Int) (h h' : ByteArray) (k k' : List Int) (l l' : List ByteArray) (hk : k.length ≤ 100000) (hk' : k'.length ≤ 100000) (hl : l.length ≤ 100000) (hm : l'.length ≤ 100000) : DPure Tp I 30 [.agg [VN .i64 a, VN .i64 b, VN .i64 c, SV h, .list 1 (k.map fun n => VN .i64 n), .list 1 (strsL l)], .agg [VN .i64 a', VN .i64 b', VN .i64 c', SV h', .list 1 (k'.map fun n => VN .i64 n), .list 1 (strsL l')]] (BV (decide (((((a = a' ∧ b = b') ∧ c = c') ∧ h = h') ∧ k = k') ∧ l = l'))) := by
  have d1 := equalI_D (I := I) k k' hk hk'
  have d2 := equalS_D (I := I) l l' hl hm
  by_cases hkk : k = k'
  · rw [decide_eq_true hkk] at d1
    by_cases hll : l = l'
    · rw [decide_eq_true hll] at d2
      refine z_pure (e0 := ?e0x3) mix e30 rfl ?z03 ?_
      (case z03 => exact rfl)
      dsimp only [c30]
      repeat' (first
        | ((with_reducible apply z_call); (case' hd => apply d1); (case hw => exact wknL_ok rfl); (try any_goals (first | omega | (dsimp only; omega) | (simp only [ByteArray.size_append, ByteArray.size_extract, strOfNums_size, List.length_cons, List.length_nil, List.length_map, List.length_append, List.length_take, List.length_drop]; omega))))
        | ((with_reducible apply z_call); (case' hd => apply d2); (case hw => exact wknL_ok rfl); (try any_goals (first | omega | (dsimp only; omega) | (simp only [ByteArray.size_append, ByteArray.size_extract, strOfNums_size, List.length_cons, List.length_nil, List.length_map, List.length_append, List.length_take, List.length_drop]; omega))))
        | with_reducible refine z_seq ?_
        | with_reducible refine z_seqn ?_
        | with_reducible refine z_ret ?_
        | with_reducible refine z_reg ?_
        | with_reducible refine z_nil ?_
        | ((with_reducible apply z_gf); (case hg => exact rfl))
        | ((with_reducible apply z_g); (case hg => exact rfl))
        | ((with_reducible apply z_mv); (case h => ((conv => {lhs; whnf}) <;> exact rfl)))
        | ((with_reducible apply z_pick_t); (case hc => exact rfl); (case h => ((conv => {lhs; whnf}) <;> exact rfl)))
        | ((with_reducible apply z_pick_f); (case hc => exact rfl); (case h => ((conv => {lhs; whnf}) <;> exact rfl)))
        | ((with_reducible apply z_fa); (case h => ((conv => {lhs; whnf}) <;> exact rfl)))
        | ((with_reducible apply z_ld); (case h => ((conv => {lhs; whnf}) <;> exact rfl)); (case hc => ((conv => {lhs; whnf}) <;> exact rfl)); (case hd => ((conv => {lhs; whnf}) <;> exact rfl)))
        | ((with_reducible apply z_bin); (case hx => ((conv => {lhs; whnf}) <;> exact rfl)); (case hy => ((conv => {lhs; whnf}) <;> exact rfl)))
        | ((with_reducible apply z_box); (case hx => ((conv => {lhs; whnf}) <;> exact rfl)); (case hu => exact rfl); (case hc => ((conv => {lhs; whnf}) <;> exact rfl)); (case hq => ((conv => {lhs; whnf}) <;> exact rfl)); (case hl => ((conv => {lhs; whnf}) <;> exact rfl)))
        | ((with_reducible apply z_fin); (case he => exact rfl); (case hr => ((conv => {lhs; whnf}) <;> exact rfl)))
        | with_reducible refine s_eql (fun _ => ?_) (fun _ => ?_)
        | with_reducible refine s_seql (fun _ => ?_) (fun _ => ?_)
        | fail)
      all_goals first
        | exact bool_of (b := true) (by kernel_rfl) (decide_eq_true ⟨⟨⟨⟨⟨‹_›, ‹_›⟩, ‹_›⟩, ‹_›⟩, hkk⟩, hll⟩).symm
        | exact bool_of (b := false) (by kernel_rfl) (decide_eq_false fun e => absurd e.1.1.1.1.1 ‹_›).symm
        | exact bool_of (b := false) (by kernel_rfl) (decide_eq_false fun e => absurd e.1.1.1.1.2 ‹_›).symm
        | exact bool_of (b := false) (by kernel_rfl) (decide_eq_false fun e => absurd e.1.1.1.2 ‹_›).symm
        | exact bool_of (b := false) (by kernel_rfl) (decide_eq_false fun e => absurd e.1.1.2 ‹_›).symm
    · rw [decide_eq_false hll] at d2
      refine z_pure (e0 := ?e0x4) mix e30 rfl ?z04 ?_
      (case z04 => exact rfl)
      dsimp only [c30]
      repeat' (first
        | ((with_reducible apply z_call); (case' hd => apply d1); (case hw => exact wknL_ok rfl); (try any_goals (first | omega | (dsimp only; omega) | (simp only [ByteArray.size_append, ByteArray.size_extract, strOfNums_size, List.length_cons, List.length_nil, List.length_map, List.length_append, List.length_take, List.length_drop]; omega))))
        | ((with_reducible apply z_call); (case' hd => apply d2); (case hw => exact wknL_ok rfl); (try any_goals (first | omega | (dsimp only; omega) | (simp only [ByteArray.size_append, ByteArray.size_extract, strOfNums_size, List.length_cons, List.length_nil, List.length_map, List.length_append, List.length_take, List.length_drop]; omega))))
        | with_reducible refine z_seq ?_
        | with_reducible refine z_seqn ?_
        | with_reducible refine z_ret ?_
        | with_reducible refine z_reg ?_
        | with_reducible refine z_nil ?_
        | ((with_reducible apply z_gf); (case hg => exact rfl))
        | ((with_reducible apply z_g); (case hg => exact rfl))
        | ((with_reducible apply z_mv); (case h => ((conv => {lhs; whnf}) <;> exact rfl)))
        | ((with_reducible apply z_pick_t); (case hc => exact rfl); (case h => ((conv => {lhs; whnf}) <;> exact rfl)))
        | ((with_reducible apply z_pick_f); (case hc => exact rfl); (case h => ((conv => {lhs; whnf}) <;> exact rfl)))
        | ((with_reducible apply z_fa); (case h => ((conv => {lhs; whnf}) <;> exact rfl)))
        | ((with_reducible apply z_ld); (case h => ((conv => {lhs; whnf}) <;> exact rfl)); (case hc => ((conv => {lhs; whnf}) <;> exact rfl)); (case hd => ((conv => {lhs; whnf}) <;> exact rfl)))
        | ((with_reducible apply z_bin); (case hx => ((conv => {lhs; whnf}) <;> exact rfl)); (case hy => ((conv => {lhs; whnf}) <;> exact rfl)))
        | ((with_reducible apply z_box); (case hx => ((conv => {lhs; whnf}) <;> exact rfl)); (case hu => exact rfl); (case hc => ((conv => {lhs; whnf}) <;> exact rfl)); (case hq => ((conv => {lhs; whnf}) <;> exact rfl)); (case hl => ((conv => {lhs; whnf}) <;> exact rfl)))
        | ((with_reducible apply z_fin); (case he => exact rfl); (case hr => ((conv => {lhs; whnf}) <;> exact rfl)))
        | with_reducible refine s_eql (fun _ => ?_) (fun _ => ?_)
        | with_reducible refine s_seql (fun _ => ?_) (fun _ => ?_)
        | fail)
      all_goals exact bool_of (b := false) (by kernel_rfl) (decide_eq_false fun e => hll e.2).symm
  · rw [decide_eq_false hkk] at d1
    refine z_pure (e0 := ?e0x5) mix e30 rfl ?z05 ?_
    (case z05 => exact rfl)
    dsimp only [c30]
    repeat' (first
      | ((with_reducible apply z_call); (case' hd => apply d1); (case hw => exact wknL_ok rfl); (try any_goals (first | omega | (dsimp only; omega) | (simp only [ByteArray.size_append, ByteArray.size_extract, strOfNums_size, List.length_cons, List.length_nil, List.length_map, List.length_append, List.length_take, List.length_drop]; omega))))
      | with_reducible refine z_seq ?_
      | with_reducible refine z_seqn ?_
      | with_reducible refine z_ret ?_
      | with_reducible refine z_reg ?_
      | with_reducible refine z_nil ?_
      | ((with_reducible apply z_gf); (case hg => exact rfl))
      | ((with_reducible apply z_g); (case hg => exact rfl))
      | ((with_reducible apply z_mv); (case h => ((conv => {lhs; whnf}) <;> exact rfl)))
      | ((with_reducible apply z_pick_t); (case hc => exact rfl); (case h => ((conv => {lhs; whnf}) <;> exact rfl)))
      | ((with_reducible apply z_pick_f); (case hc => exact rfl); (case h => ((conv => {lhs; whnf}) <;> exact rfl)))
      | ((with_reducible apply z_fa); (case h => ((conv => {lhs; whnf}) <;> exact rfl)))
      | ((with_reducible apply z_ld); (case h => ((conv => {lhs; whnf}) <;> exact rfl)); (case hc => ((conv => {lhs; whnf}) <;> exact rfl)); (case hd => ((conv => {lhs; whnf}) <;> exact rfl)))
      | ((with_reducible apply z_bin); (case hx => ((conv => {lhs; whnf}) <;> exact rfl)); (case hy => ((conv => {lhs; whnf}) <;> exact rfl)))
      | ((with_reducible apply z_box); (case hx => ((conv => {lhs; whnf}) <;> exact rfl)); (case hu => exact rfl); (case hc => ((conv => {lhs; whnf}) <;> exact rfl)); (case hq => ((conv => {lhs; whnf}) <;> exact rfl)); (case hl => ((conv => {lhs; whnf}) <;> exact rfl)))
      | ((with_reducible apply z_fin); (case he => exact rfl); (case hr => ((conv => {lhs; whnf}) <;> exact rfl)))
      | with_reducible refine s_eql (fun _ => ?_) (fun _ => ?_)
      | with_reducible refine s_seql (fun _ => ?_) (fun _ => ?_)
      | fail)
    all_goals exact bool_of (b := false) (by kernel_rfl) (decide_eq_false fun e => hkk e.1.2).symm
end Go.Proofs.YtlbodfkhenkcjaaGreatDoor.X


namespace Go.Proofs.YtlbodfkhenkcjaaGreatDoor.X
open Go Go.Proofs Go.RowKit Go.Proofs.YtlbodfkhenkcjaaGreatDoor.D
set_option maxRecDepth 100000
set_option maxHeartbeats 4000000
set_option linter.unusedVariables false
set_option linter.unusedSimpArgs false
variable {I : D.Inv}
attribute [local irreducible] D.DPure D.DEff D.callable

def c23 : DFun := ⟨38, [.t 4], .seq (.reg [⟨some 2, .box (.t 0), none⟩, ⟨some 3, .box (.t 1), none⟩, ⟨some 4, .mv (.c (.bool false)), none⟩]) (.seq (.reg [⟨some 5, .fa 0 (.t 2), none⟩, ⟨some 6, .ld 1 false (.t 5), none⟩, ⟨some 7, .fa 0 (.t 3), none⟩, ⟨some 8, .ld 1 false (.t 7), none⟩, ⟨some 9, .bin .eql (.t 6) (.t 8), none⟩, ⟨some 10, .mv (.t 9), none⟩, ⟨some 11, .fa 1 (.t 2), some (10, true)⟩, ⟨some 12, .ld 4 true (.t 11), some (10, true)⟩, ⟨some 13, .fa 1 (.t 3), some (10, true)⟩, ⟨some 14, .ld 4 true (.t 13), some (10, true)⟩, ⟨some 15, .call 29 [.t 12, .t 14], some (10, true)⟩, ⟨some 16, .pick (.t 10) (.t 15) (.c (.bool false)), none⟩, ⟨some 17, .mv (.t 16), none⟩, ⟨some 18, .fa 5 (.t 2), some (17, true)⟩, ⟨some 19, .ld 6 true (.t 18), some (17, true)⟩, ⟨some 20, .fa 5 (.t 3), some (17, true)⟩, ⟨some 21, .ld 6 true (.t 20), some (17, true)⟩, ⟨some 22, .call 30 [.t 19, .t 21], some (17, true)⟩, ⟨some 23, .pick (.t 17) (.t 22) (.c (.bool false)), none⟩, ⟨some 24, .mv (.t 23), none⟩, ⟨some 25, .fa 11 (.t 2), some (24, true)⟩, ⟨some 26, .ld 3 true (.t 25), some (24, true)⟩, ⟨some 27, .fa 11 (.t 3), some (24, true)⟩, ⟨some 28, .ld 3 true (.t 27), some (24, true)⟩, ⟨some 29, .eqs false [1, 1, 2] (.t 26) (.t 28), some (24, true)⟩, ⟨some 30, .pick (.t 24) (.t 29) (.c (.bool false)), none⟩, ⟨some 31, .mv (.t 30), none⟩, ⟨some 32, .fa 14 (.t 2), some (31, true)⟩, ⟨some 33, .ld 5 true (.t 32), some (31, true)⟩, ⟨some 34, .fa 14 (.t 3), some (31, true)⟩, ⟨some 35, .ld 5 true (.t 34), some (31, true)⟩, ⟨some 36, .eqs false [1, 1, 1, 1, 1] (.t 33) (.t 35), some (31, true)⟩, ⟨some 37, .pick (.t 31) (.t 36) (.c (.bool false)), none⟩, ⟨some 4, .mv (.t 37), none⟩]) .ret)⟩
theorem e23 : cfun Tryz.prog 23 = some c23 := by kernel_rfl
noncomputable instance : DecidableEq PageM := fun _ _ => Classical.propDecidable _
theorem ch_eqb (c1 c2 e1 e2 : Int) (s t : ByteArray) : ((c1 == e1) && ((c2 == e2) && ((s.toList == t.toList) && true))) = decide ((c1 = e1 ∧ c2 = e2) ∧ s = t) := by
  rw [Bool.eq_iff_iff, decide_eq_true_iff]
  simp only [Bool.and_eq_true, beq_iff_eq, and_true]
  exact ⟨fun ⟨h1, h2, h3⟩ => ⟨⟨h1, h2⟩, tl_inj h3⟩, fun ⟨⟨h1, h2⟩, h3⟩ => ⟨h1, h2, by rw [h3]⟩⟩
theorem mt_eqb (a b c d e a' b' c' d' e' : Int) : ((a == a') && ((b == b') && ((c == c') && ((d == d') && ((e == e') && true))))) = decide (a = a' ∧ b = b' ∧ c = c' ∧ d = d' ∧ e = e') := by
  rw [Bool.eq_iff_iff, decide_eq_true_iff]
  simp only [Bool.and_eq_true, beq_iff_eq, and_true]
theorem ch_t {c1 c2 e1 e2 : Int} {s t : ByteArray} (h : ((c1 == e1) && ((c2 == e2) && ((s.toList == t.toList) && true))) = true) : (c1 = e1 ∧ c2 = e2) ∧ s = t := by rw [ch_eqb] at h; exact of_decide_eq_true h
theorem ch_f {c1 c2 e1 e2 : Int} {s t : ByteArray} (h : ((c1 == e1) && ((c2 == e2) && ((s.toList == t.toList) && true))) = false) : ¬ ((c1 = e1 ∧ c2 = e2) ∧ s = t) := by rw [ch_eqb] at h; exact of_decide_eq_false h
theorem mt_t {a b c d e a' b' c' d' e' : Int} (h : ((a == a') && ((b == b') && ((c == c') && ((d == d') && ((e == e') && true))))) = true) : a = a' ∧ b = b' ∧ c = c' ∧ d = d' ∧ e = e' := by rw [mt_eqb] at h; exact of_decide_eq_true h
theorem mt_f {a b c d e a' b' c' d' e' : Int} (h : ((a == a') && ((b == b') && ((c == c') && ((d == d') && ((e == e') && true))))) = false) : ¬ (a = a' ∧ b = b' ∧ c = c' ∧ d = d' ∧ e = e') := by rw [mt_eqb] at h; exact of_decide_eq_false h
theorem psame_D0 (t a1 a2 b1 b2 b3 c1 c2 m1 m2 m3 m4 m5 t' a1' a2' b1' b2' b3' c1' c2' m1' m2' m3' m4' m5' : Int) (h1 h2 h3 h1' h2' h3' : ByteArray) (l l' : List ItemM) (k k' : List Int) (q q' : List ByteArray)
    (hl : l.length ≤ 100000) (hk : k.length ≤ 100000) (hq : q.length ≤ 100000) (hl' : l'.length ≤ 100000) (hk' : k'.length ≤ 100000) (hq' : q'.length ≤ 100000) :
    DPure Tp I 23 [.agg [VN .i64 t, VN .i64 a1, VN .i64 a2, SV h1, .list 5 (itemsL l), VN .i64 b1, VN .i64 b2, VN .i64 b3, SV h2, .list 1 (k.map fun n => VN .i64 n), .list 1 (strsL q), VN .i64 c1, VN .i64 c2, SV h3, VN .i64 m1, VN .i64 m2, VN .i64 m3, VN .i64 m4, VN .i64 m5],
      .agg [VN .i64 t', VN .i64 a1', VN .i64 a2', SV h1', .list 5 (itemsL l'), VN .i64 b1', VN .i64 b2', VN .i64 b3', SV h2', .list 1 (k'.map fun n => VN .i64 n), .list 1 (strsL q'), VN .i64 c1', VN .i64 c2', SV h3', VN .i64 m1', VN .i64 m2', VN .i64 m3', VN .i64 m4', VN .i64 m5']]
      (BV (decide (t = t' ∧ (((a1 = a1' ∧ a2 = a2') ∧ h1 = h1') ∧ l = l') ∧ (((((b1 = b1' ∧ b2 = b2') ∧ b3 = b3') ∧ h2 = h2') ∧ k = k') ∧ q = q') ∧ ((c1 = c1' ∧ c2 = c2') ∧ h3 = h3') ∧ (m1 = m1' ∧ m2 = m2' ∧ m3 = m3' ∧ m4 = m4' ∧ m5 = m5')))) := by
  have d1 := lsame_D0 (I := I) a1 a2 a1' a2' h1 h1' l l' hl hl'
  have d2 := isame_D0 (I := I) b1 b2 b3 b1' b2' b3' h2 h2' k k' q q' hk hk' hq hq'
  refine z_pure (e0 := ?e0x1) mix e23 rfl ?z01 ?_
  (case z01 => exact rfl)
  dsimp only [c23]
  repeat' (first
    | ((with_reducible apply z_callb); (case' hd => apply d1); (case hw => exact wknL_ok rfl); (try any_goals (first | omega | (dsimp only; omega) | (simp only [ByteArray.size_append, ByteArray.size_extract, strOfNums_size, List.length_cons, List.length_nil, List.length_map, List.length_append, List.length_take, List.length_drop]; omega))); (all_goals intro _))
    | ((with_reducible apply z_callb); (case' hd => apply d2); (case hw => exact wknL_ok rfl); (try any_goals (first | omega | (dsimp only; omega) | (simp only [ByteArray.size_append, ByteArray.size_extract, strOfNums_size, List.length_cons, List.length_nil, List.length_map, List.length_append, List.length_take, List.length_drop]; omega))); (all_goals intro _))
    | ((with_reducible apply z_eqsb); (case hx => ((conv => {lhs; whnf}) <;> exact rfl)); (case hy => ((conv => {lhs; whnf}) <;> exact rfl)); (case h => ((conv => {lhs; whnf}) <;> exact rfl)); (all_goals intro _))
    | with_reducible refine z_seq ?_
    | with_reducible refine z_seqn ?_
    | with_reducible refine z_ret ?_
    | with_reducible refine z_reg ?_
    | with_reducible refine z_nil ?_
    | ((with_reducible apply z_gf); (case hg => exact rfl))
    | ((with_reducible apply z_g); (case hg => exact rfl))
    | ((with_reducible apply z_mv); (case h => ((conv => {lhs; whnf}) <;> exact rfl)))
    | ((with_reducible apply z_pick_t); (case hc => exact rfl); (case h => ((conv => {lhs; whnf}) <;> exact rfl)))
    | ((with_reducible apply z_pick_f); (case hc => exact rfl); (case h => ((conv => {lhs; whnf}) <;> exact rfl)))
    | ((with_reducible apply z_fa); (case h => ((conv => {lhs; whnf}) <;> exact rfl)))
    | ((with_reducible apply z_ld); (case h => ((conv => {lhs; whnf}) <;> exact rfl)); (case hc => ((conv => {lhs; whnf}) <;> exact rfl)); (case hd => ((conv => {lhs; whnf}) <;> exact rfl)))
    | ((with_reducible apply z_lda); (case h => ((conv => {lhs; whnf}) <;> exact rfl)); (case hc => ((conv => {lhs; whnf}) <;> exact rfl)); (case hb => exact rfl); (case hr => ((conv => {lhs; whnf}) <;> exact rfl)))
    | ((with_reducible apply z_bin); (case hx => ((conv => {lhs; whnf}) <;> exact rfl)); (case hy => ((conv => {lhs; whnf}) <;> exact rfl)))
    | ((with_reducible apply z_box); (case hx => ((conv => {lhs; whnf}) <;> exact rfl)); (case hu => exact rfl); (case hc => ((conv => {lhs; whnf}) <;> exact rfl)); (case hq => ((conv => {lhs; whnf}) <;> exact rfl)); (case hl => ((conv => {lhs; whnf}) <;> exact rfl)))
    | ((with_reducible apply z_fin); (case he => exact rfl); (case hr => ((conv => {lhs; whnf}) <;> exact rfl)))
    | with_reducible refine s_eql (fun _ => ?_) (fun _ => ?_)
    | fail)
  · have e1 := of_decide_eq_true ‹decide (((a1 = a1' ∧ a2 = a2') ∧ h1 = h1') ∧ l = l') = true›
    have e2 := of_decide_eq_true ‹decide (((((b1 = b1' ∧ b2 = b2') ∧ b3 = b3') ∧ h2 = h2') ∧ k = k') ∧ q = q') = true›
    exact bool_of (b := true) (by kernel_rfl) (decide_eq_true ⟨‹_›, e1, e2, ch_t ‹_›, mt_t ‹_›⟩).symm
  · exact bool_of (b := false) (by kernel_rfl) (decide_eq_false fun e => mt_f ‹_› e.2.2.2.2).symm
  · exact bool_of (b := false) (by kernel_rfl) (decide_eq_false fun e => ch_f ‹_› e.2.2.2.1).symm
  · exact bool_of (b := false) (by kernel_rfl) (decide_eq_false fun e => (of_decide_eq_false ‹_›) e.2.2.1).symm
  · exact bool_of (b := false) (by kernel_rfl) (decide_eq_false fun e => (of_decide_eq_false ‹_›) e.2.1).symm
  · exact bool_of (b := false) (by kernel_rfl) (decide_eq_false fun e => absurd e.1 ‹_›).symm
structure pgB (x : PageM) : Prop where
  l : x.l.items.length ≤ 100000
  k : x.n.kids.length ≤ 100000
  q : x.n.seps.length ≤ 100000
theorem psame_D (x y : PageM) (hx : pgB x) (hy : pgB y) : DPure Tp I 23 [pageT x, pageT y] (BV (decide (x = y))) := by
  have := psame_D0 (I := I) x.kind x.l.self x.l.right x.n.self x.n.level x.n.right x.c.self x.c.next x.m.p x.m.pages x.m.root x.m.level x.m.pairs y.kind y.l.self y.l.right y.n.self y.n.level y.n.right y.c.self y.c.next y.m.p y.m.pages y.m.root y.m.level y.m.pairs
    x.l.high x.n.high x.c.data y.l.high y.n.high y.c.data x.l.items y.l.items x.n.kids y.n.kids x.n.seps y.n.seps hx.l hx.k hx.q hy.l hy.k hy.q
  refine (congrArg (fun b => DPure Tp I 23 [pageT x, pageT y] (BV b)) ?_).mp this
  rw [Bool.eq_iff_iff, decide_eq_true_iff, decide_eq_true_iff]
  constructor
  · rintro ⟨e1, ⟨⟨⟨e2, e3⟩, e4⟩, e5⟩, ⟨⟨⟨⟨⟨e6, e7⟩, e8⟩, e9⟩, e10⟩, e11⟩, ⟨⟨e12, e13⟩, e14⟩, e15, e16, e17, e18, e19⟩
    obtain ⟨t, ⟨a1, a2, h1, l⟩, ⟨b1, b2, b3, h2, k, q⟩, ⟨c1, c2, h3⟩, ⟨m1, m2, m3, m4, m5⟩⟩ := x
    obtain ⟨t', ⟨a1', a2', h1', l'⟩, ⟨b1', b2', b3', h2', k', q'⟩, ⟨c1', c2', h3'⟩, ⟨m1', m2', m3', m4', m5'⟩⟩ := y
    dsimp only at *
    subst e1 e2 e3 e4 e5 e6 e7 e8 e9 e10 e11 e12 e13 e14 e15 e16 e17 e18 e19
    rfl
  · rintro rfl
    exact ⟨rfl, ⟨⟨⟨rfl, rfl⟩, rfl⟩, rfl⟩, ⟨⟨⟨⟨⟨rfl, rfl⟩, rfl⟩, rfl⟩, rfl⟩, rfl⟩, ⟨⟨rfl, rfl⟩, rfl⟩, rfl, rfl, rfl, rfl, rfl⟩
end Go.Proofs.YtlbodfkhenkcjaaGreatDoor.X

