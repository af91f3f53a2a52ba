/- The law PageOne of the given program returns true for every input and leaves its arguments as they were. No conditions beyond the given statement's own. -/
import Derived.Test.YtlbodfkhenkcjaaGreatDoorUPageOne07
import Derived.Test.YtlbodfkhenkcjaaGreatDoorUPageOne05
import Derived.Test.YtlbodfkhenkcjaaGreatDoorRows
import Derived.Test.YtlbodfkhenkcjaaGreatDoorCards
import Derived.Test.YtlbodfkhenkcjaaGreatDoorTie
import Derived.WalkKit
import Derived.ProofKit
import Derived.OpenShut
import Derived.ShutString
import Derived.ChangeOld
import Derived.Below
import Derived.SizedLaws
import Derived.ChangeSame
import Derived.ChangeVars
import Derived.JoinedOf
import Derived.RowKit
import Derived.RowKitTokens
import Derived.LaidLaws
import Derived.LaidHandle
import Derived.Stop.Joined
import Derived.SevenTiedAt
namespace Go.Proofs.YtlbodfkhenkcjaaGreatDoor.X
open Go Go.Proofs Go.RowKit Go.Proofs.YtlbodfkhenkcjaaGreatDoor.D
set_option maxRecDepth 100000
set_option maxHeartbeats 2000000
set_option linter.unusedVariables false
set_option linter.unusedSimpArgs false
attribute [local irreducible] D.DPure D.DEff D.callable decM decE

def c10 : DFun := ⟨35, [.c 4 19 true, .t 5], .seq (.reg [⟨some 4, .zero (.agg #[.int .i64 0, .int .i64 0, .int .i64 0, .string ⟨#[]⟩, .slice none 0 0, .int .i64 0, .int .i64 0, .int .i64 0, .string ⟨#[]⟩, .slice none 0 0, .slice none 0 0, .int .i64 0, .int .i64 0, .string ⟨#[]⟩, .int .i64 0, .int .i64 0, .int .i64 0, .int .i64 0, .int .i64 0]), none⟩, ⟨some 5, .mv (.c (.int .i64 0)), none⟩]) (.seq (.seq (.reg [⟨some 8, .mv (.t 1), none⟩, ⟨some 9, .bin .lss (.t 8) (.c (.int .i64 0)), none⟩, ⟨some 10, .mv (.t 9), none⟩, ⟨some 11, .mv (.t 1), some (10, false)⟩, ⟨some 12, .mv (.t 0), some (10, false)⟩, ⟨some 13, .len false (.t 12), some (10, false)⟩, ⟨some 14, .bin .geq (.t 11) (.t 13), some (10, false)⟩, ⟨some 15, .pick (.t 10) (.c (.bool true)) (.t 14), none⟩]) (.cond (.t 15) (.seq (.reg [⟨some 16, .bld [.int .i64 0, .int .i64 0, .int .i64 0, .string ⟨#[]⟩, .slice none 0 0, .int .i64 0, .int .i64 0, .int .i64 0, .string ⟨#[]⟩, .slice none 0 0, .slice none 0 0, .int .i64 0, .int .i64 0, .string ⟨#[]⟩, .int .i64 0, .int .i64 0, .int .i64 0, .int .i64 0, .int .i64 0] [], none⟩, ⟨none, .st 19 (.t 4) (.t 16), none⟩, ⟨some 5, .mv (.c (.int .i64 4)), none⟩]) .ret) .skip)) (.seq (.reg [⟨some 18, .mv (.t 0), none⟩, ⟨some 19, .mv (.t 1), none⟩, ⟨some 20, .ixa 1 (.t 18) (.t 19), none⟩, ⟨some 21, .ld 1 false (.t 20), none⟩, ⟨some 22, .call 17 [.t 21], none⟩, ⟨some 17, .mv (.t 22), none⟩, ⟨some 23, .ext (.t 17) 0, none⟩, ⟨some 24, .ext (.t 17) 1, none⟩, ⟨some 6, .zero (.agg #[.int .i64 0, .int .i64 0, .int .i64 0, .string ⟨#[]⟩, .slice none 0 0, .int .i64 0, .int .i64 0, .int .i64 0, .string ⟨#[]⟩, .slice none 0 0, .slice none 0 0, .int .i64 0, .int .i64 0, .string ⟨#[]⟩, .int .i64 0, .int .i64 0, .int .i64 0, .int .i64 0, .int .i64 0]), none⟩, ⟨none, .st 19 (.t 6) (.t 23), none⟩, ⟨some 7, .mv (.t 24), none⟩]) (.seq (.seq (.reg [⟨some 25, .mv (.t 7), none⟩, ⟨some 26, .bin .neq (.t 25) (.c (.int .i64 0)), none⟩, ⟨some 27, .mv (.t 26), none⟩, ⟨some 28, .ld 19 true (.t 6), some (27, false)⟩, ⟨some 29, .call 19 [.t 28], some (27, false)⟩, ⟨some 30, .mv (.t 1), some (27, false)⟩, ⟨some 31, .bin .neq (.t 29) (.t 30), some (27, false)⟩, ⟨some 32, .pick (.t 27) (.c (.bool true)) (.t 31), none⟩]) (.cond (.t 32) (.seq (.reg [⟨some 33, .bld [.int .i64 0, .int .i64 0, .int .i64 0, .string ⟨#[]⟩, .slice none 0 0, .int .i64 0, .int .i64 0, .int .i64 0, .string ⟨#[]⟩, .slice none 0 0, .slice none 0 0, .int .i64 0, .int .i64 0, .string ⟨#[]⟩, .int .i64 0, .int .i64 0, .int .i64 0, .int .i64 0, .int .i64 0] [], none⟩, ⟨none, .st 19 (.t 4) (.t 33), none⟩, ⟨some 5, .mv (.c (.int .i64 3)), none⟩]) .ret) .skip)) (.seq (.reg [⟨some 34, .ld 19 true (.t 6), none⟩, ⟨none, .st 19 (.t 4) (.t 34), none⟩, ⟨some 5, .mv (.c (.int .i64 0)), none⟩]) .ret))))⟩
theorem e10 : cfun Tryz.prog 10 = some c10 := by kernel_rfl
def c15 : DFun := ⟨25, [.t 2], .seq (.reg [⟨some 2, .mv (.c (.slice none 0 0)), none⟩]) (.seq (.reg [⟨some 3, .mv (.c (.slice none 0 0)), none⟩]) (.seq (.seq (.reg [⟨some 7, .mv (.t 0), none⟩, ⟨some 8, .len false (.t 7), none⟩, ⟨some 9, .mv (.c (.int .i64 0)), none⟩]) (.block 0 (.loop (.seq (.reg [⟨some 10, .bin .lss (.t 9) (.t 8), none⟩]) (.seq (.cond (.t 10) .skip (.exit 0)) (.seq (.block 1 (.seq (.reg [⟨some 11, .mv (.t 9), none⟩, ⟨some 4, .mv (.t 11), none⟩]) (.seq (.reg [⟨some 13, .mv (.t 0), none⟩, ⟨some 14, .mv (.t 4), none⟩, ⟨some 15, .call 10 [.t 13, .t 14], none⟩, ⟨some 12, .mv (.t 15), none⟩, ⟨some 16, .ext (.t 12) 0, none⟩, ⟨some 17, .ext (.t 12) 1, none⟩, ⟨some 5, .zero (.agg #[.int .i64 0, .int .i64 0, .int .i64 0, .string ⟨#[]⟩, .slice none 0 0, .int .i64 0, .int .i64 0, .int .i64 0, .string ⟨#[]⟩, .slice none 0 0, .slice none 0 0, .int .i64 0, .int .i64 0, .string ⟨#[]⟩, .int .i64 0, .int .i64 0, .int .i64 0, .int .i64 0, .int .i64 0]), none⟩, ⟨none, .st 19 (.t 5) (.t 16), none⟩, ⟨some 6, .mv (.t 17), none⟩]) (.reg [⟨some 18, .mv (.t 3), none⟩, ⟨some 19, .fa 0 (.t 5), none⟩, ⟨some 20, .ld 1 false (.t 19), none⟩, ⟨some 21, .bsl 1 [.t 20], none⟩, ⟨some 22, .app 3 1 8 (.t 18) (.t 21), none⟩, ⟨some 3, .mv (.t 22), none⟩])))) (.reg [⟨some 23, .bin .add (.t 9) (.c (.int .i64 1)), none⟩, ⟨some 9, .mv (.t 23), none⟩]))))))) (.seq (.reg [⟨some 24, .mv (.t 3), none⟩, ⟨some 2, .mv (.t 24), none⟩]) .ret)))⟩
theorem e15 : cfun Tryz.prog 15 = some c15 := by kernel_rfl
def strAt (l : List ByteArray) (i : Int) : ByteArray := (l[i.toNat]?).getD nilS
noncomputable def atM (l : List ByteArray) (i : Int) : PageM := if i < 0 ∨ (l.length : Int) ≤ i then page0 else if decE (strAt l i) = 0 ∧ selfN (decM (strAt l i)) = i then decM (strAt l i) else page0
noncomputable def atE (l : List ByteArray) (i : Int) : Int := if i < 0 ∨ (l.length : Int) ≤ i then 4 else if decE (strAt l i) = 0 ∧ selfN (decM (strAt l i)) = i then 0 else 3
theorem str_at {l : List ByteArray} {i : Int} (h0 : 0 ≤ i) (h : i < l.length) : (strsL l)[i.toNat]? = some (SV (strAt l i)) := by
  have hi : i.toNat < l.length := by omega
  have : strAt l i = l[i.toNat] := by simp [strAt, hi]
  rw [this]
  exact strs_get (i := i.toNat) hi
theorem pgz' {d : DV} {e : Int} (hd : d = .v (.tuple #[.agg #[.int .i64 0, .int .i64 0, .int .i64 0, .string nilS, .slice none 0 0, .int .i64 0, .int .i64 0, .int .i64 0, .string nilS, .slice none 0 0, .slice none 0 0, .int .i64 0, .int .i64 0, .string nilS, .int .i64 0, .int .i64 0, .int .i64 0, .int .i64 0, .int .i64 0], .int .i64 e])) :
    Wk d (.tup [pageF 0 leaf0 inner0 chain0 meta0, VN .i64 e]) := by
  subst hd
  exact Wk.vtupL (xs := [.agg #[.int .i64 0, .int .i64 0, .int .i64 0, .string nilS, .slice none 0 0, .int .i64 0, .int .i64 0, .int .i64 0, .string nilS, .slice none 0 0, .slice none 0 0, .int .i64 0, .int .i64 0, .string nilS, .int .i64 0, .int .i64 0, .int .i64 0, .int .i64 0, .int .i64 0], .int .i64 e])
    (.cons (Wk.vaggL (xs := [.int .i64 0, .int .i64 0, .int .i64 0, .string nilS, .slice none 0 0, .int .i64 0, .int .i64 0, .int .i64 0, .string nilS, .slice none 0 0, .slice none 0 0, .int .i64 0, .int .i64 0, .string nilS, .int .i64 0, .int .i64 0, .int .i64 0, .int .i64 0, .int .i64 0])
      (.cons (.v _) (.cons (.v _) (.cons (.v _) (.cons (.v _) (.cons (.nil _ _ _) (.cons (.v _) (.cons (.v _) (.cons (.v _) (.cons (.v _) (.cons (.nil _ _ _) (.cons (.nil _ _ _) (.cons (.v _) (.cons (.v _) (.cons (.v _) (.cons (.v _) (.cons (.v _) (.cons (.v _) (.cons (.v _) (.cons (.v _) .nil)))))))))))))))))))) (.cons (.v _) .nil))
theorem at_D0 (l : List ByteArray) (i : Int) (hl : l.length ≤ 1000000) (t a1 a2 b1 b2 b3 c1 c2 m1 m2 m3 m4 m5 : Int) (h1 h2 h3 : ByteArray) (li : List ItemM) (k : List Int) (q : List ByteArray) (e x : Int) (hi : 0 ≤ i ∧ i < l.length)
    (d0 : DPure Tp GI 17 [SV (strAt l i)] (.tup [.agg [VN .i64 t, VN .i64 a1, VN .i64 a2, SV h1, .list 5 (itemsL li), VN .i64 b1, VN .i64 b2, VN .i64 b3, SV h2, .list 1 (k.map fun n => VN .i64 n), .list 1 (strsL q), VN .i64 c1, VN .i64 c2, SV h3, VN .i64 m1, VN .i64 m2, VN .i64 m3, VN .i64 m4, VN .i64 m5], VN .i64 e]))
    (d1 : DPure Tp GI 19 [.agg [VN .i64 t, VN .i64 a1, VN .i64 a2, SV h1, .list 5 (itemsL li), VN .i64 b1, VN .i64 b2, VN .i64 b3, SV h2, .list 1 (k.map fun n => VN .i64 n), .list 1 (strsL q), VN .i64 c1, VN .i64 c2, SV h3, VN .i64 m1, VN .i64 m2, VN .i64 m3, VN .i64 m4, VN .i64 m5]] (VN .i64 x)) :
    (e = 0 ∧ x = i → DPure Tp GI 10 [.list 1 (strsL l), VN .i64 i] (.tup [.agg [VN .i64 t, VN .i64 a1, VN .i64 a2, SV h1, .list 5 (itemsL li), VN .i64 b1, VN .i64 b2, VN .i64 b3, SV h2, .list 1 (k.map fun n => VN .i64 n), .list 1 (strsL q), VN .i64 c1, VN .i64 c2, SV h3, VN .i64 m1, VN .i64 m2, VN .i64 m3, VN .i64 m4, VN .i64 m5], VN .i64 0])) ∧
    (¬ (e = 0 ∧ x = i) → DPure Tp GI 10 [.list 1 (strsL l), VN .i64 i] (.tup [pageT page0, VN .i64 3])) := by
  have hsl := strs_len l
  have hg := str_at hi.1 hi.2
  constructor
  · rintro ⟨he, hx⟩
    refine z_pure (e0 := ?e0x1) mix e10 rfl ?z01 ?_
    (case z01 => exact rfl)
    dsimp only [c10]
    repeat' (first
      | ((with_reducible apply z_call); (case' hd => apply d0); (case hw => exact wknL_ok rfl); (try any_goals (first | omega | (dsimp only; omega) | (simp only [ByteArray.size_append, ByteArray.size_extract, strOfNums_size, List.length_cons, List.length_nil, List.length_map, List.length_append, List.length_take, List.length_drop]; omega))))
      | ((with_reducible apply z_call); (case' hd => apply d1); (case hw => exact wknL_ok rfl); (try any_goals (first | omega | (dsimp only; omega) | (simp only [ByteArray.size_append, ByteArray.size_extract, strOfNums_size, List.length_cons, List.length_nil, List.length_map, List.length_append, List.length_take, List.length_drop]; omega))))
      | refine ⟨_, hg, ?_⟩
      | with_reducible refine z_seq ?_
      | with_reducible refine z_seqn ?_
      | with_reducible refine z_skip ?_
      | with_reducible refine z_ret ?_
      | with_reducible refine z_reg ?_
      | with_reducible refine z_nil ?_
      | ((with_reducible apply z_cond_f); (case hc => exact rfl))
      | ((with_reducible apply z_g); (case hg => exact rfl))
      | ((with_reducible apply z_mv); (case h => ((conv => {lhs; whnf}) <;> exact rfl)))
      | ((with_reducible apply z_pick_f); (case hc => exact rfl); (case h => ((conv => {lhs; whnf}) <;> exact rfl)))
      | ((with_reducible apply z_lde); (case h => ((conv => {lhs; whnf}) <;> exact rfl)); (case hd => ((conv => {lhs; whnf}) <;> exact rfl)))
      | ((with_reducible apply z_lda); (case h => ((conv => {lhs; whnf}) <;> exact rfl)); (case hc => ((conv => {lhs; whnf}) <;> exact rfl)); (case hb => exact rfl); (case hr => ((conv => {lhs; whnf}) <;> exact rfl)))
      | ((with_reducible apply z_bin); (case hx => ((conv => {lhs; whnf}) <;> exact rfl)); (case hy => ((conv => {lhs; whnf}) <;> exact rfl)))
      | ((with_reducible apply z_ixa); (case hi => ((conv => {lhs; whnf}) <;> exact rfl)); (case hx => ((conv => {lhs; whnf}) <;> exact rfl)); (case h1 => ((conv => {lhs; whnf}) <;> exact rfl)); (case h2 => exact rfl))
      | ((with_reducible apply z_extt); (case hx => ((conv => {lhs; whnf}) <;> exact rfl)); (case h => ((conv => {lhs; whnf}) <;> exact rfl)))
      | ((with_reducible apply z_lenL); (case hx => ((conv => {lhs; whnf}) <;> exact rfl)); (case h => ((conv => {lhs; whnf}) <;> exact rfl)))
      | ((with_reducible apply z_zero); (case hc => ((conv => {lhs; whnf}) <;> exact rfl)); (case hq => ((conv => {lhs; whnf}) <;> exact rfl)); (case hl => ((conv => {lhs; whnf}) <;> exact rfl)))
      | ((with_reducible apply z_st); (case ha => ((conv => {lhs; whnf}) <;> exact rfl)); (case hcs => ((conv => {lhs; whnf}) <;> exact rfl)); (case hx => ((conv => {lhs; whnf}) <;> exact rfl)); (case hb => exact rfl); (case hl => ((conv => {lhs; whnf}) <;> exact rfl)))
      | ((with_reducible apply z_fin); (case he => exact rfl); (case hr => ((conv => {lhs; whnf}) <;> exact rfl)))
      | with_reducible refine s_lss_f (by omega) ?_
      | with_reducible refine s_geq_f (by omega) ?_
      | with_reducible refine s_neq_f (by omega) ?_
      | refine And.intro (by omega) ?_
      | fail)
    exact wkn_ok (by kernel_rfl)
  · intro hn
    refine z_pure (e0 := ?e0x2) mix e10 rfl ?z02 ?_
    (case z02 => exact rfl)
    dsimp only [c10]
    repeat' (first
      | ((with_reducible apply z_call); (case' hd => apply d0); (case hw => exact wknL_ok rfl); (try any_goals (first | omega | (dsimp only; omega) | (simp only [ByteArray.size_append, ByteArray.size_extract, strOfNums_size, List.length_cons, List.length_nil, List.length_map, List.length_append, List.length_take, List.length_drop]; omega))))
      | ((with_reducible apply z_call); (case' hd => apply d1); (case hw => exact wknL_ok rfl); (try any_goals (first | omega | (dsimp only; omega) | (simp only [ByteArray.size_append, ByteArray.size_extract, strOfNums_size, List.length_cons, List.length_nil, List.length_map, List.length_append, List.length_take, List.length_drop]; omega))))
      | refine ⟨_, hg, ?_⟩
      | with_reducible refine z_seq ?_
      | with_reducible refine z_seqn ?_
      | with_reducible refine z_seqr ?_
      | with_reducible refine z_skip ?_
      | with_reducible refine z_ret ?_
      | with_reducible refine z_reg ?_
      | with_reducible refine z_nil ?_
      | ((with_reducible apply z_cond_t); (case hc => exact rfl))
      | ((with_reducible apply z_cond_f); (case hc => exact rfl))
      | ((with_reducible apply z_gt); (case hg => exact rfl))
      | ((with_reducible apply z_g); (case hg => exact rfl))
      | ((with_reducible apply z_mv); (case h => ((conv => {lhs; whnf}) <;> exact rfl)))
      | ((with_reducible apply z_pick_t); (case hc => exact rfl); (case h => ((conv => {lhs; whnf}) <;> exact rfl)))
      | ((with_reducible apply z_pick_f); (case hc => exact rfl); (case h => ((conv => {lhs; whnf}) <;> exact rfl)))
      | ((with_reducible apply z_lde); (case h => ((conv => {lhs; whnf}) <;> exact rfl)); (case hd => ((conv => {lhs; whnf}) <;> exact rfl)))
      | ((with_reducible apply z_lda); (case h => ((conv => {lhs; whnf}) <;> exact rfl)); (case hc => ((conv => {lhs; whnf}) <;> exact rfl)); (case hb => exact rfl); (case hr => ((conv => {lhs; whnf}) <;> exact rfl)))
      | ((with_reducible apply z_bin); (case hx => ((conv => {lhs; whnf}) <;> exact rfl)); (case hy => ((conv => {lhs; whnf}) <;> exact rfl)))
      | ((with_reducible apply z_ixa); (case hi => ((conv => {lhs; whnf}) <;> exact rfl)); (case hx => ((conv => {lhs; whnf}) <;> exact rfl)); (case h1 => ((conv => {lhs; whnf}) <;> exact rfl)); (case h2 => exact rfl))
      | ((with_reducible apply z_extt); (case hx => ((conv => {lhs; whnf}) <;> exact rfl)); (case h => ((conv => {lhs; whnf}) <;> exact rfl)))
      | ((with_reducible apply z_lenL); (case hx => ((conv => {lhs; whnf}) <;> exact rfl)); (case h => ((conv => {lhs; whnf}) <;> exact rfl)))
      | ((with_reducible apply z_bld); (case hp => exact rfl); (case h1 => ((conv => {lhs; whnf}) <;> exact rfl)); (case h2 => exact rfl); (case hr => ((conv => {lhs; whnf}) <;> exact rfl)))
      | ((with_reducible apply z_zero); (case hc => ((conv => {lhs; whnf}) <;> exact rfl)); (case hq => ((conv => {lhs; whnf}) <;> exact rfl)); (case hl => ((conv => {lhs; whnf}) <;> exact rfl)))
      | ((with_reducible apply z_st); (case ha => ((conv => {lhs; whnf}) <;> exact rfl)); (case hcs => ((conv => {lhs; whnf}) <;> exact rfl)); (case hx => ((conv => {lhs; whnf}) <;> exact rfl)); (case hb => exact rfl); (case hl => ((conv => {lhs; whnf}) <;> exact rfl)))
      | ((with_reducible apply z_fin); (case he => exact rfl); (case hr => ((conv => {lhs; whnf}) <;> exact rfl)))
      | with_reducible refine s_lss_f (by omega) ?_
      | with_reducible refine s_geq_f (by omega) ?_
      | with_reducible refine s_neq_t (by omega) ?_
      | with_reducible refine s_neq (fun _ => ?_) (fun _ => ?_)
      | refine And.intro (by omega) ?_
      | fail)
    all_goals first
      | exact absurd ⟨‹_›, ‹_›⟩ hn
      | exact pgz' (by kernel_rfl)
theorem at_D1 (l : List ByteArray) (i : Int) (hl : l.length ≤ 1000000) (hi : i < 0 ∨ (l.length : Int) ≤ i) : DPure Tp GI 10 [.list 1 (strsL l), VN .i64 i] (.tup [pageT page0, VN .i64 4]) := by
  have hsl := strs_len l
  refine z_pure (e0 := ?e0x3) mix e10 rfl ?z03 ?_
  (case z03 => exact rfl)
  dsimp only [c10]
  repeat' (first
    | with_reducible refine z_seq ?_
    | with_reducible refine z_seqn ?_
    | with_reducible refine z_seqr ?_
    | with_reducible refine z_ret ?_
    | with_reducible refine z_reg ?_
    | with_reducible refine z_nil ?_
    | ((with_reducible apply z_cond_t); (case hc => exact rfl))
    | ((with_reducible apply z_gt); (case hg => exact rfl))
    | ((with_reducible apply z_g); (case hg => exact rfl))
    | ((with_reducible apply z_mv); (case h => ((conv => {lhs; whnf}) <;> exact rfl)))
    | ((with_reducible apply z_pick_t); (case hc => exact rfl); (case h => ((conv => {lhs; whnf}) <;> exact rfl)))
    | ((with_reducible apply z_pick_f); (case hc => exact rfl); (case h => ((conv => {lhs; whnf}) <;> exact rfl)))
    | ((with_reducible apply z_bin); (case hx => ((conv => {lhs; whnf}) <;> exact rfl)); (case hy => ((conv => {lhs; whnf}) <;> exact rfl)))
    | ((with_reducible apply z_lenL); (case hx => ((conv => {lhs; whnf}) <;> exact rfl)); (case h => ((conv => {lhs; whnf}) <;> exact rfl)))
    | ((with_reducible apply z_bld); (case hp => exact rfl); (case h1 => ((conv => {lhs; whnf}) <;> exact rfl)); (case h2 => exact rfl); (case hr => ((conv => {lhs; whnf}) <;> exact rfl)))
    | ((with_reducible apply z_zero); (case hc => ((conv => {lhs; whnf}) <;> exact rfl)); (case hq => ((conv => {lhs; whnf}) <;> exact rfl)); (case hl => ((conv => {lhs; whnf}) <;> exact rfl)))
    | ((with_reducible apply z_st); (case ha => ((conv => {lhs; whnf}) <;> exact rfl)); (case hcs => ((conv => {lhs; whnf}) <;> exact rfl)); (case hx => ((conv => {lhs; whnf}) <;> exact rfl)); (case hb => exact rfl); (case hl => ((conv => {lhs; whnf}) <;> exact rfl)))
    | ((with_reducible apply z_fin); (case he => exact rfl); (case hr => ((conv => {lhs; whnf}) <;> exact rfl)))
    | with_reducible refine s_lss (fun _ => ?_) (fun _ => ?_)
    | with_reducible refine s_geq_t (by omega) ?_
    | fail)
  all_goals exact pgz' (by kernel_rfl)
theorem pat_D (l : List ByteArray) (i : Int) (hl : l.length ≤ 1000000) (hs : ∀ s ∈ l, s.size ≤ 1200) : DPure Tp GI 10 [.list 1 (strsL l), VN .i64 i] (.tup [pageT (atM l i), VN .i64 (atE l i)]) := by
  unfold atM atE
  by_cases hi : i < 0 ∨ (l.length : Int) ≤ i
  · rw [if_pos hi, if_pos hi]; exact at_D1 l i hl hi
  rw [if_neg hi, if_neg hi]
  have hm : (strAt l i).size ≤ 1200 := by
    have h' : i.toNat < l.length := by omega
    have : strAt l i = l[i.toNat] := by simp [strAt, h']
    rw [this]
    exact hs _ (List.getElem_mem h')
  have d0 := decode_D (strAt l i) hm
  have d1 := self_D (I := GI) (decM (strAt l i))
  obtain ⟨h1, h2⟩ := at_D0 l i hl _ _ _ _ _ _ _ _ _ _ _ _ _ _ _ _ _ _ _ _ _ (by omega) d0 d1
  by_cases hc : decE (strAt l i) = 0 ∧ selfN (decM (strAt l i)) = i
  · rw [if_pos hc, if_pos hc]; exact h1 hc
  · rw [if_neg hc, if_neg hc]; exact h2 hc
noncomputable def svL (l : List ByteArray) : List Int := (List.range l.length).map fun (i : Nat) => (atM l i).kind
noncomputable def svI (l : List ByteArray) (i : Nat) : List DV := (List.range i).map fun (j : Nat) => VN .i64 (atM l j).kind
theorem svI_len (l : List ByteArray) (i : Nat) : (svI l i).length = i := by simp [svI]
theorem svI_succ (l : List ByteArray) (i : Nat) : svI l i ++ [VN .i64 (atM l i).kind] = svI l (i + 1) := by simp [svI, List.range_succ]
theorem survey_D (l : List ByteArray) (hl : l.length ≤ 100000) (hs : ∀ s ∈ l, s.size ≤ 1200) : DPure Tp GI 15 [.list 1 (strsL l)] (ints (svL l)) := by
  have hsl := strs_len l
  have e0 : ints (svL l) = .list 1 (svI l l.length) := by
    unfold ints svL svI
    rw [List.map_map]
    rfl
  rw [e0]
  refine z_pure (e0 := ?e0x4) mix e15 rfl ?z04 ?_
  (case z04 => exact rfl)
  dsimp only [c15]
  repeat' (first
    | with_reducible refine z_seq ?_
    | with_reducible refine z_seqn ?_
    | with_reducible refine z_blk ?_
    | with_reducible refine z_reg ?_
    | with_reducible refine z_nil ?_
    | ((with_reducible apply z_mv); (case h => ((conv => {lhs; whnf}) <;> exact rfl)))
    | ((with_reducible apply z_lenL); (case hx => ((conv => {lhs; whnf}) <;> exact rfl)); (case h => ((conv => {lhs; whnf}) <;> exact rfl)))
    | fail)
  refine z_loop (fun i : Nat => ⟨[(0, .list 1 (strsL l)), (3, .own 0 3 1 (svI l i)), (8, VN .i64 (strsL l).length), (9, VN .i64 i)], [], [(svI l i).length * 1]⟩) (fun i : Nat => i ≤ l.length) (fun i : Nat => l.length - i) (0) ?_ ?_ fun i hi => ?_
  · exact (less_of 0 0 1 rfl rfl (lessE_cons (ltd_eq rfl (by kernel_rfl)) (lessE_cons (ltd_own rfl rfl (by kernel_rfl)) (lessE_cons (ltd_eq rfl (by kernel_rfl)) (lessE_cons (ltd_eq rfl (by kernel_rfl)) lessE_nil)))) (by kernel_rfl) (by kernel_rfl) (by kernel_rfl) (by kernel_rfl))
  · omega
  by_cases hil : i < l.length
  · have d0 := pat_D l i (by omega) hs
    obtain ⟨⟨t, ⟨a1, a2, h1, li⟩, ⟨b1, b2, b3, h2, k, q⟩, ⟨c1, c2, h3⟩, ⟨m1, m2, m3, m4, m5⟩⟩, hx⟩ : ∃ x, atM l (i : Int) = x := ⟨_, rfl⟩
    have hsu := svI_succ l i
    rw [hx] at d0 hsu
    dsimp only at hsu
    have hln := svI_len l i
    repeat' (first
      | ((with_reducible apply z_call); (case' hd => apply d0); (case hw => exact wknL_ok rfl); (try any_goals (first | omega | (dsimp only; omega) | (simp only [ByteArray.size_append, ByteArray.size_extract, strOfNums_size, List.length_cons, List.length_nil, List.length_map, List.length_append, List.length_take, List.length_drop]; omega))))
      | with_reducible refine z_seq ?_
      | with_reducible refine z_seqn ?_
      | with_reducible refine z_blk ?_
      | with_reducible refine z_blkn ?_
      | with_reducible refine z_lopn ?_
      | with_reducible refine z_skip ?_
      | with_reducible refine z_reg ?_
      | with_reducible refine z_nil ?_
      | ((with_reducible apply z_cond_t); (case hc => exact rfl))
      | ((with_reducible apply z_mv); (case h => ((conv => {lhs; whnf}) <;> exact rfl)))
      | ((with_reducible apply z_fa); (case h => ((conv => {lhs; whnf}) <;> exact rfl)))
      | ((with_reducible apply z_ld); (case h => ((conv => {lhs; whnf}) <;> exact rfl)); (case hc => ((conv => {lhs; whnf}) <;> exact rfl)); (case hd => ((conv => {lhs; whnf}) <;> exact rfl)))
      | ((with_reducible apply z_bin); (case hx => ((conv => {lhs; whnf}) <;> exact rfl)); (case hy => ((conv => {lhs; whnf}) <;> exact rfl)))
      | ((with_reducible apply z_extt); (case hx => ((conv => {lhs; whnf}) <;> exact rfl)); (case h => ((conv => {lhs; whnf}) <;> exact rfl)))
      | ((with_reducible apply z_bsl); (case h1 => ((conv => {lhs; whnf}) <;> exact rfl)); (case h2 => exact rfl))
      | ((with_reducible apply z_zero); (case hc => ((conv => {lhs; whnf}) <;> exact rfl)); (case hq => ((conv => {lhs; whnf}) <;> exact rfl)); (case hl => ((conv => {lhs; whnf}) <;> exact rfl)))
      | ((with_reducible apply z_st); (case ha => ((conv => {lhs; whnf}) <;> exact rfl)); (case hcs => ((conv => {lhs; whnf}) <;> exact rfl)); (case hx => ((conv => {lhs; whnf}) <;> exact rfl)); (case hb => exact rfl); (case hl => ((conv => {lhs; whnf}) <;> exact rfl)))
      | ((with_reducible apply z_app_own); (case hs => ((conv => {lhs; whnf}) <;> exact rfl)); (case hx => ((conv => {lhs; whnf}) <;> exact rfl)); (case h1 => ((conv => {lhs; whnf}) <;> exact rfl)); (case h2 => exact rfl); (case ho => exact rfl); (case hb => (first | omega | (dsimp only; omega) | (simp only [ByteArray.size_append, ByteArray.size_extract, strOfNums_size, List.length_cons, List.length_nil, List.length_map, List.length_append, List.length_take, List.length_drop]; omega))); (case hw => ((conv => {lhs; whnf}) <;> exact rfl)))
      | with_reducible refine s_lss_t (by omega) ?_
      | with_reducible refine s_add (by first | omega | (dsimp only; omega) | (simp only [ByteArray.size_append, ByteArray.size_extract, strOfNums_size, List.length_cons, List.length_nil, List.length_map, List.length_append, List.length_take, List.length_drop]; omega)) ?_
      | fail)
    refine ⟨i + 1, (less_of 0 1 0 rfl rfl (lessE_cons (ltd_eq rfl (by kernel_rfl)) (lessE_cons (ltd_eq rfl ?_) (lessE_cons (ltd_eq rfl (by kernel_rfl)) (lessE_cons (ltd_eq rfl (by kernel_rfl)) lessE_nil)))) (by kernel_rfl) (by kernel_rfl) ?_ (by kernel_rfl)), hil, by omega⟩
    · rw [← hsu]; kernel_rfl
    · rw [← hsu, List.length_append]; kernel_rfl
  · have e : i = l.length := by omega
    repeat' (first
      | with_reducible refine z_seq ?_
      | with_reducible refine z_seqn ?_
      | with_reducible refine z_seqx ?_
      | with_reducible refine z_blkh ?_
      | with_reducible refine z_lopx ?_
      | with_reducible refine z_exit ?_
      | with_reducible refine z_ret ?_
      | with_reducible refine z_reg ?_
      | with_reducible refine z_nil ?_
      | ((with_reducible apply z_cond_f); (case hc => exact rfl))
      | ((with_reducible apply z_mv); (case h => ((conv => {lhs; whnf}) <;> exact rfl)))
      | ((with_reducible apply z_bin); (case hx => ((conv => {lhs; whnf}) <;> exact rfl)); (case hy => ((conv => {lhs; whnf}) <;> exact rfl)))
      | ((with_reducible apply z_fin); (case he => exact rfl); (case hr => ((conv => {lhs; whnf}) <;> exact rfl)))
      | with_reducible refine s_lss_f (by omega) ?_
      | fail)
    exact wk_own (id := 0) (e := 3) (l := svI l i) (by kernel_rfl) (by rw [e])
end Go.Proofs.YtlbodfkhenkcjaaGreatDoor.X


namespace Go.Proofs.YtlbodfkhenkcjaaGreatDoor.X
open Go Go.Proofs Go.RowKit Go.Proofs.YtlbodfkhenkcjaaGreatDoor.D
set_option maxRecDepth 100000
set_option maxHeartbeats 1000000
set_option linter.unusedVariables false
set_option linter.unusedSimpArgs false
variable {I : D.Inv}

theorem dp_wk {f : FuncId} {cs es : List DV} {r : DV} (h : DPure Tp I f es r) (w : WkL cs es) : DPure Tp I f cs r :=
  ⟨h.1, fun S W vals hI hr => h.2 S W vals hI (hr.wk w)⟩
attribute [local irreducible] D.DPure D.DEff D.callable
def c14 : DFun := ⟨26, [.t 4], .seq (.reg [⟨some 4, .mv (.c (.bool false)), none⟩]) (.seq (.seq (.reg [⟨some 6, .mv (.t 0), none⟩, ⟨some 7, .len false (.t 6), none⟩, ⟨some 8, .mv (.t 1), none⟩, ⟨some 9, .len false (.t 8), none⟩, ⟨some 10, .bin .neq (.t 7) (.t 9), none⟩]) (.cond (.t 10) (.seq (.reg [⟨some 4, .mv (.c (.bool false)), none⟩]) .ret) .skip)) (.seq (.seq (.reg [⟨some 5, .mv (.c (.int .i64 0)), none⟩]) (.block 0 (.loop (.seq (.seq (.reg [⟨some 11, .mv (.t 5), none⟩, ⟨some 12, .mv (.t 0), none⟩, ⟨some 13, .len false (.t 12), none⟩, ⟨some 14, .bin .lss (.t 11) (.t 13), none⟩]) (.cond (.t 14) .skip (.exit 0))) (.seq (.block 1 (.seq (.reg [⟨some 17, .mv (.t 0), none⟩, ⟨some 18, .mv (.t 5), none⟩, ⟨some 19, .ixa 1 (.t 17) (.t 18), none⟩, ⟨some 20, .ld 1 false (.t 19), none⟩, ⟨some 21, .mv (.t 1), none⟩, ⟨some 22, .mv (.t 5), none⟩, ⟨some 23, .ixa 1 (.t 21) (.t 22), none⟩, ⟨some 24, .ld 1 false (.t 23), none⟩, ⟨some 25, .bin .neq (.t 20) (.t 24), none⟩]) (.cond (.t 25) (.seq (.reg [⟨some 4, .mv (.c (.bool false)), none⟩]) .ret) .skip))) (.reg [⟨some 15, .mv (.t 5), none⟩, ⟨some 16, .bin .add (.t 15) (.c (.int .i64 1)), none⟩, ⟨some 5, .mv (.t 16), none⟩])))))) (.seq (.reg [⟨some 4, .mv (.c (.bool true)), none⟩]) .ret)))⟩
theorem e14 : cfun Tryz.prog 14 = some c14 := by kernel_rfl
theorem rints_D (l m : List Int) (hl : l.length ≤ 100000) (hm : m.length ≤ 100000) : DPure Tp I 14 [ints l, ints m] (BV (decide (l = m))) := by
  have hll := ints_len l
  have hml := ints_len m
  by_cases hlm : l.length = m.length
  · refine z_pure (e0 := ?e0x1) mix e14 rfl ?z01 ?_
    (case z01 => exact rfl)
    dsimp only [c14]
    repeat' (first
      | with_reducible refine z_seq ?_
      | with_reducible refine z_seqn ?_
      | with_reducible refine z_blk ?_
      | with_reducible refine z_skip ?_
      | with_reducible refine z_reg ?_
      | with_reducible refine z_nil ?_
      | ((with_reducible apply z_cond_f); (case hc => exact rfl))
      | ((with_reducible apply z_mv); (case h => ((conv => {lhs; whnf}) <;> exact rfl)))
      | ((with_reducible apply z_bin); (case hx => ((conv => {lhs; whnf}) <;> exact rfl)); (case hy => ((conv => {lhs; whnf}) <;> exact rfl)))
      | ((with_reducible apply z_lenL); (case hx => ((conv => {lhs; whnf}) <;> exact rfl)); (case h => ((conv => {lhs; whnf}) <;> exact rfl)))
      | with_reducible refine s_neq_f (by omega) ?_
      | fail)
    refine z_loop (fun i : Nat => ⟨[(0, ints l), (1, ints m), (5, VN .i64 i)], [], []⟩) (fun i : Nat => i ≤ l.length ∧ ∀ j (h : j < l.length) (h' : j < m.length), j < i → l[j] = m[j]) (fun i : Nat => l.length - i) (0) ?_ ?_ fun i hi => ?_
    · exact (less_of 0 0 0 rfl rfl (lessE_cons (ltd_eq rfl (by kernel_rfl)) (lessE_cons (ltd_eq rfl (by kernel_rfl)) (lessE_cons (ltd_eq rfl (by kernel_rfl)) lessE_nil))) (by kernel_rfl) (by kernel_rfl) (by kernel_rfl) (by kernel_rfl))
    · exact ⟨by omega, fun j _ _ h => absurd h (Nat.not_lt_zero j)⟩
    by_cases hil : i < l.length
    · have him : i < m.length := by omega
      repeat' (first
        | refine ⟨_, ints_get hil, ?_⟩
        | refine ⟨_, ints_get him, ?_⟩
        | with_reducible refine z_seq ?_
        | with_reducible refine z_seqn ?_
        | with_reducible refine z_seqr ?_
        | with_reducible refine z_blk ?_
        | with_reducible refine z_blkn ?_
        | with_reducible refine z_blkr ?_
        | with_reducible refine z_lopn ?_
        | with_reducible refine z_lopr ?_
        | with_reducible refine z_skip ?_
        | with_reducible refine z_ret ?_
        | with_reducible refine z_reg ?_
        | with_reducible refine z_nil ?_
        | ((with_reducible apply z_cond_t); (case hc => exact rfl))
        | ((with_reducible apply z_cond_f); (case hc => exact rfl))
        | ((with_reducible apply z_mv); (case h => ((conv => {lhs; whnf}) <;> exact rfl)))
        | ((with_reducible apply z_lde); (case h => ((conv => {lhs; whnf}) <;> exact rfl)); (case hd => ((conv => {lhs; whnf}) <;> exact rfl)))
        | ((with_reducible apply z_bin); (case hx => ((conv => {lhs; whnf}) <;> exact rfl)); (case hy => ((conv => {lhs; whnf}) <;> exact rfl)))
        | ((with_reducible apply z_ixa); (case hi => ((conv => {lhs; whnf}) <;> exact rfl)); (case hx => ((conv => {lhs; whnf}) <;> exact rfl)); (case h1 => ((conv => {lhs; whnf}) <;> exact rfl)); (case h2 => exact rfl))
        | ((with_reducible apply z_lenL); (case hx => ((conv => {lhs; whnf}) <;> exact rfl)); (case h => ((conv => {lhs; whnf}) <;> exact rfl)))
        | ((with_reducible apply z_fin); (case he => exact rfl); (case hr => ((conv => {lhs; whnf}) <;> exact rfl)))
        | with_reducible refine s_lss_t (by omega) ?_
        | with_reducible refine s_neq (fun _ => ?_) (fun _ => ?_)
        | with_reducible refine s_add (by first | omega | (dsimp only; omega) | (simp only [ByteArray.size_append, ByteArray.size_extract, strOfNums_size, List.length_cons, List.length_nil, List.length_map, List.length_append, List.length_take, List.length_drop]; omega)) ?_
        | refine And.intro (by omega) ?_
        | fail)
      · refine ⟨i + 1, (less_of 0 0 0 rfl rfl (lessE_cons (ltd_eq rfl (by kernel_rfl)) (lessE_cons (ltd_eq rfl (by kernel_rfl)) (lessE_cons (ltd_eq rfl (by kernel_rfl)) lessE_nil))) (by kernel_rfl) (by kernel_rfl) (by kernel_rfl) (by kernel_rfl)), ⟨by omega, fun j h h' hj => ?_⟩, by omega⟩
        rcases Nat.lt_or_eq_of_le (Nat.le_of_lt_succ hj) with q | q
        · exact hi.2 j h h' q
        · subst q; assumption
      · refine bool_of (b := false) (by kernel_rfl) (decide_eq_false fun e => ?_).symm
        subst e
        exact absurd rfl ‹¬ _ = _›
    · repeat' (first
        | with_reducible refine z_seq ?_
        | with_reducible refine z_seqn ?_
        | with_reducible refine z_seqx ?_
        | with_reducible refine z_blkh ?_
        | with_reducible refine z_lopx ?_
        | with_reducible refine z_exit ?_
        | with_reducible refine z_ret ?_
        | with_reducible refine z_reg ?_
        | with_reducible refine z_nil ?_
        | ((with_reducible apply z_cond_f); (case hc => exact rfl))
        | ((with_reducible apply z_mv); (case h => ((conv => {lhs; whnf}) <;> exact rfl)))
        | ((with_reducible apply z_bin); (case hx => ((conv => {lhs; whnf}) <;> exact rfl)); (case hy => ((conv => {lhs; whnf}) <;> exact rfl)))
        | ((with_reducible apply z_lenL); (case hx => ((conv => {lhs; whnf}) <;> exact rfl)); (case h => ((conv => {lhs; whnf}) <;> exact rfl)))
        | ((with_reducible apply z_fin); (case he => exact rfl); (case hr => ((conv => {lhs; whnf}) <;> exact rfl)))
        | with_reducible refine s_lss_f (by omega) ?_
        | fail)
      exact bool_of (b := true) (by kernel_rfl) (decide_eq_true (eq_ext hlm fun j h h' hj => hi.2 j h h' (by omega))).symm
  · refine z_pure (e0 := ?e0x2) mix e14 rfl ?z02 ?_
    (case z02 => exact rfl)
    dsimp only [c14]
    repeat' (first
      | with_reducible refine z_seq ?_
      | with_reducible refine z_seqn ?_
      | with_reducible refine z_seqr ?_
      | with_reducible refine z_ret ?_
      | with_reducible refine z_reg ?_
      | with_reducible refine z_nil ?_
      | ((with_reducible apply z_cond_t); (case hc => exact rfl))
      | ((with_reducible apply z_mv); (case h => ((conv => {lhs; whnf}) <;> exact rfl)))
      | ((with_reducible apply z_bin); (case hx => ((conv => {lhs; whnf}) <;> exact rfl)); (case hy => ((conv => {lhs; whnf}) <;> exact rfl)))
      | ((with_reducible apply z_lenL); (case hx => ((conv => {lhs; whnf}) <;> exact rfl)); (case h => ((conv => {lhs; whnf}) <;> exact rfl)))
      | ((with_reducible apply z_fin); (case he => exact rfl); (case hr => ((conv => {lhs; whnf}) <;> exact rfl)))
      | with_reducible refine s_neq_t (by omega) ?_
      | fail)
    exact bool_of (b := false) (by kernel_rfl) (decide_eq_false fun e => hlm (congrArg List.length e)).symm
end Go.Proofs.YtlbodfkhenkcjaaGreatDoor.X


namespace Go.Proofs.YtlbodfkhenkcjaaGreatDoor.X
open Go Go.Proofs Go.RowKit Go.Proofs.YtlbodfkhenkcjaaGreatDoor.D
set_option maxRecDepth 100000
set_option maxHeartbeats 1000000
set_option linter.unusedVariables false
set_option linter.unusedSimpArgs false

theorem byteAt_out {s : ByteArray} {i : Nat} (h : s.size ≤ i) : byteAt s i = 0 := by
  unfold byteAt
  rw [List.getElem?_eq_none (by simpa using h)]
  rfl
theorem byteAt_app (a b : ByteArray) (i : Nat) : byteAt (a ++ b) i = if i < a.size then byteAt a i else byteAt b (i - a.size) := by
  unfold byteAt
  rw [ByteArray.data_append, Array.toList_append, List.getElem?_append]
  have : a.data.toList.length = a.size := by simp
  rw [this]
  split <;> rfl
theorem byteAt_app1 {a b : ByteArray} {i : Nat} (h : i < a.size) : byteAt (a ++ b) i = byteAt a i := by rw [byteAt_app, if_pos h]
theorem byteAt_cut {s : ByteArray} {a b i : Nat} : byteAt (s.extract a b) i = if a + i < b then byteAt s (a + i) else 0 := by
  by_cases hi : i < (s.extract a b).size
  · rw [ByteArray.size_extract] at hi
    have hb : byteAt (s.extract a b) i = byteAt (s.extract a (min b s.size)) i := by
      unfold byteAt
      congr 3
      simp only [ByteArray.data_extract, Array.toList_extract]
      rw [show s.data.toList.extract a (min b s.size) = s.data.toList.extract a b from ?_]
      simp only [List.extract_eq_take_drop]
      have hl : (s.data.toList.drop a).length = s.size - a := by simp
      rcases Nat.le_total b s.size with h | h
      · rw [Nat.min_eq_left h]
      · rw [Nat.min_eq_right h, List.take_of_length_le (by omega), List.take_of_length_le (by omega)]
    rw [hb, byteAt_ext (by omega) (Nat.min_le_right _ _), if_pos (by omega)]
  · rw [byteAt_out (by omega)]
    rw [ByteArray.size_extract] at hi
    split
    · rw [byteAt_out (by omega)]
    · rfl
theorem byteAt_num {l : List Int} {i : Nat} {n : Int} (h : l[i]? = some n) (h0 : 0 ≤ n) (h1 : n < 256) : byteAt (strOfNums l) i = n := by
  unfold byteAt strOfNums
  rw [List.getElem?_map, h]
  simp only [Option.map_some, Option.getD_some, UInt8.toNat_ofNat']
  omega
theorem byteAt_bytesS {l : List Int} {i : Nat} {n : Int} (h : l[i]? = some n) : byteAt (bytesS l) i = n % 256 := by
  have e : (l.map IntKind.u8.wrap)[i]? = some (n % 256) := by
    rw [List.getElem?_map, h]
    rfl
  exact byteAt_num e (by omega) (by omega)
end Go.Proofs.YtlbodfkhenkcjaaGreatDoor.X


namespace Go.Proofs.YtlbodfkhenkcjaaGreatDoor.X
open Go Go.Proofs Go.RowKit Go.Proofs.YtlbodfkhenkcjaaGreatDoor.D
set_option maxRecDepth 100000
set_option maxHeartbeats 1000000
set_option linter.unusedVariables false
set_option linter.unusedSimpArgs false

theorem seal_is {h : HeadM} {b : ByteArray} {p : Int} (h0 : mayE h b p = 0) : sealS h b p = sealB h b p := if_pos h0
theorem sealZ_size {h : HeadM} {b : ByteArray} {p : Int} (h0 : mayE h b p = 0) : ((sealZ h b p).size : Int) = p := by
  have h1 := mayE_0 h0
  have h2 := sizeB_in h1.1
  unfold sealZ
  rw [ByteArray.size_append, sealA_size, zeroB_size]
  omega
theorem seal_kind {h : HeadM} {b : ByteArray} {p : Int} (h0 : mayE h b p = 0) : byteAt (sealS h b p) 0 = h.kind := by
  have h1 := mayE_0 h0
  have h2 := sizeB_in h1.1
  have h3 := hdB_in h1.2.1
  have hz := sealZ_size h0
  rw [seal_is h0]
  unfold sealB
  rw [byteAt_app1 (by simp only [ByteArray.size_append, ByteArray.size_extract]; omega), byteAt_app1 (by rw [ByteArray.size_extract]; omega), byteAt_cut, if_pos (by omega)]
  unfold sealZ
  rw [byteAt_app1 (by rw [sealA_size]; omega)]
  unfold sealA
  have e : (bytesS [h.kind, h.level, h.count, h.count / 256]).size = 4 := by rw [bytesS_size]; rfl
  rw [byteAt_app1 (by simp only [ByteArray.size_append, e]; omega), byteAt_app1 (by simp only [ByteArray.size_append, e]; omega), byteAt_app1 (by simp only [ByteArray.size_append, e]; omega), byteAt_app1 (by omega), byteAt_bytesS (n := h.kind) rfl]
  omega
theorem open_is {s : ByteArray} (h : opE s = 0) : openP s := by
  by_cases ho : openP s
  · exact ho
  · rw [(op_no ho).2.2] at h; omega
theorem open_kind {s : ByteArray} (h : opE s = 0) : (opH s).kind = byteAt s 0 := by rw [(op_yes (open_is h)).1]; rfl
theorem lf_kind {s : ByteArray} (h : lfP s) : byteAt s 0 = 2 ∧ 1 ≤ (lfM s).self ∧ opE s = 0 := by
  have hm := (lf_yes h).1
  obtain ⟨h1, h2, _, _, h5, _⟩ := h
  refine ⟨by rw [← open_kind h1]; exact h2, ?_, h1⟩
  rw [hm]
  unfold encE at h5
  split at h5
  · split at h5
    · rename_i q; exact q.1.2.1.1
    · omega
  · omega
theorem in_kind {s : ByteArray} (h : inP s) : byteAt s 0 = 3 ∧ 1 ≤ (inM s).self ∧ opE s = 0 := by
  have hm := (in_yes h).1
  obtain ⟨h1, h2, _, h5, _⟩ := h
  refine ⟨by rw [← open_kind h1]; exact h2, ?_, h1⟩
  rw [hm]
  unfold iencE at h5
  split at h5
  · split at h5
    · rename_i q; exact q.1.2.1.1
    · omega
  · omega
theorem ch_kind {s : ByteArray} (h : chP s) : byteAt s 0 = 4 ∧ 1 ≤ (chM s).self ∧ opE s = 0 := by
  have hm : chM s = ckRaw s := if_pos h
  obtain ⟨h1, h2, _, _, h5, _⟩ := h
  refine ⟨by rw [← open_kind h1]; exact h2, ?_, h1⟩
  rw [hm]
  exact h5.2.1
theorem mt_kind {s : ByteArray} (h : mtP s) : byteAt s 0 = 1 ∧ 1 ≤ (mtM s).p ∧ opE s = 0 := by
  have hm : mtM s = mRaw s := if_pos h
  obtain ⟨h1, h2, h3⟩ := h
  unfold meS at h3
  rw [if_pos h2] at h3
  unfold meE at h2
  split at h2
  · rename_i q
    refine ⟨?_, ?_, h1⟩
    · rw [← h3]; exact seal_kind h2
    · rw [hm]; have := sizeB_in q.1; omega
  · omega
theorem lf_zero {s : ByteArray} (h : ¬ lfP s) : lfM s = leaf0 := if_neg h
theorem in_zero {s : ByteArray} (h : ¬ inP s) : inM s = inner0 := if_neg h
theorem ch_zero {s : ByteArray} (h : ¬ chP s) : chM s = chain0 := if_neg h
theorem mt_zero {s : ByteArray} (h : ¬ mtP s) : mtM s = meta0 := if_neg h
theorem dec_cases (s : ByteArray) : (mtP s ∧ ¬ lfP s ∧ ¬ inP s ∧ ¬ chP s ∧ decM s = ⟨1, leaf0, inner0, chain0, mtM s⟩) ∨ (¬ mtP s ∧ lfP s ∧ ¬ inP s ∧ ¬ chP s ∧ decM s = ⟨2, lfM s, inner0, chain0, meta0⟩) ∨
    (¬ mtP s ∧ ¬ lfP s ∧ inP s ∧ ¬ chP s ∧ decM s = ⟨3, leaf0, inM s, chain0, meta0⟩) ∨ (¬ mtP s ∧ ¬ lfP s ∧ ¬ inP s ∧ chP s ∧ decM s = ⟨4, leaf0, inner0, chM s, meta0⟩) ∨
    (¬ mtP s ∧ ¬ lfP s ∧ ¬ inP s ∧ ¬ chP s ∧ decM s = page0) := by
  have sz : ∀ {n : Int}, n ≠ 0 → byteAt s 0 = n → s.size ≠ 0 := fun hn hb h0 => hn (by rw [← hb, byteAt_out (by omega)])
  by_cases hm : mtP s
  · obtain ⟨b, p, o⟩ := mt_kind hm
    refine .inl ⟨hm, fun h => ?_, fun h => ?_, fun h => ?_, ?_⟩
    · have := (lf_kind h).1; omega
    · have := (in_kind h).1; omega
    · have := (ch_kind h).1; omega
    · unfold decM; rw [if_neg (sz (by decide) b), if_neg (by omega), if_neg (by omega), if_neg (by omega), if_pos b, if_neg (by omega)]
  by_cases hl : lfP s
  · obtain ⟨b, p, o⟩ := lf_kind hl
    refine .inr (.inl ⟨hm, hl, fun h => ?_, fun h => ?_, ?_⟩)
    · have := (in_kind h).1; omega
    · have := (ch_kind h).1; omega
    · unfold decM; rw [if_neg (sz (by decide) b), if_pos b, if_neg (by omega)]
  by_cases hn : inP s
  · obtain ⟨b, p, o⟩ := in_kind hn
    refine .inr (.inr (.inl ⟨hm, hl, hn, fun h => ?_, ?_⟩))
    · have := (ch_kind h).1; omega
    · unfold decM; rw [if_neg (sz (by decide) b), if_neg (by omega), if_pos b, if_neg (by omega)]
  by_cases hc : chP s
  · obtain ⟨b, p, o⟩ := ch_kind hc
    refine .inr (.inr (.inr (.inl ⟨hm, hl, hn, hc, ?_⟩)))
    unfold decM; rw [if_neg (sz (by decide) b), if_neg (by omega), if_neg (by omega), if_pos b, if_neg (by omega)]
  · refine .inr (.inr (.inr (.inr ⟨hm, hl, hn, hc, ?_⟩)))
    unfold decM
    rw [lf_zero hl, in_zero hn, ch_zero hc, mt_zero hm]
    have a1 : leaf0.self = 0 := rfl
    have a2 : inner0.self = 0 := rfl
    have a3 : chain0.self = 0 := rfl
    have a4 : meta0.p = 0 := rfl
    rw [if_pos a1, if_pos a2, if_pos a3, if_pos a4]
    (repeat' split) <;> rfl
theorem lf_E (s : ByteArray) : lfE s = if lfP s then 0 else 3 := rfl
theorem in_E (s : ByteArray) : inE s = if inP s then 0 else 3 := rfl
theorem ch_E (s : ByteArray) : chE s = if chP s then 0 else 3 := rfl
theorem mt_E (s : ByteArray) : mtE s = if mtP s then 0 else 3 := rfl
theorem dec_E (s : ByteArray) : decE s = if (decM s).kind = 0 then 3 else 0 := rfl
theorem lf_len {s : ByteArray} (hs : s.size ≤ 1200) (h : lfP s) : (lfM s).items.length ≤ 1200 := by
  rw [(lf_yes h).1]
  have h1 := it_in h.2.2.1
  have h2 := opB_size s
  show (itemsOf _ _).length ≤ _
  rw [List.length_map]
  omega
theorem in_len {s : ByteArray} (hs : s.size ≤ 1200) (h : inP s) : (inM s).kids.length ≤ 1200 ∧ (inM s).seps.length ≤ 1200 := by
  rw [(in_yes h).1]
  have h0 := kdP_pos h.2.2.1.2.2
  have h1 := nd_up h0
  have h2 := opB_size s
  have h3 := upL_size (s := opB s) (fx := ndF (opB s)) (n := (opH s).count)
  have h4 : (ndC (opB s) (opH s).count).length ≤ (opH s).count.toNat := h3.1
  have h5 := h1.2.2
  refine ⟨?_, ?_⟩
  · show (kidK _).length ≤ _
    rw [kidK_len]
    omega
  · show ((kidS _ _).drop 1).length ≤ _
    rw [List.length_drop, kidS_len]
    omega
end Go.Proofs.YtlbodfkhenkcjaaGreatDoor.X


namespace Go.Proofs.YtlbodfkhenkcjaaGreatDoor.X
open Go Go.Proofs Go.RowKit Go.Proofs.YtlbodfkhenkcjaaGreatDoor.D
set_option maxRecDepth 100000
set_option maxHeartbeats 8000000
set_option linter.unusedVariables false
set_option linter.unusedSimpArgs false

def sF : ByteArray := ⟨#[2, 0, 0, 0, 2, 0, 0, 0, 3, 0, 0, 0, 201, 205, 213, 175, 0, 1, 98, 0, 0, 0, 0, 0, 0, 0, 0, 0, 0, 0, 0, 0, 0, 0, 0, 0, 0, 0, 0, 0, 0, 0, 0, 0, 0, 0, 0, 0, 0, 0, 0, 0, 0, 0, 0, 0, 0, 0, 0, 0, 0, 0, 0, 0, 0, 0, 0, 0, 0, 0, 0, 0, 0, 0, 0, 0, 0, 0, 0, 0, 0, 0, 0, 0, 0, 0, 0, 0, 0, 0, 0, 0, 0, 0, 0, 0, 0, 0, 0, 0, 0, 0, 0, 0, 0, 0, 0, 0, 0, 0, 0, 0, 0, 0, 0, 0, 0, 0, 0, 0, 0, 0, 0, 0, 0, 0, 3, 0]⟩
def tF : ByteArray := ⟨#[1, 0, 0, 0, 4, 0, 0, 0, 0, 0, 0, 0, 16, 84, 223, 146, 119, 105, 116, 104, 121, 128, 0, 0, 0, 9, 0, 0, 0, 0, 0, 0, 0, 0, 0, 0, 0, 0, 0, 0, 0, 0, 0, 0, 0, 0, 0, 0, 0, 0, 0, 0, 0, 0, 0, 0, 0, 0, 0, 0, 0, 0, 0, 0, 0, 0, 0, 0, 0, 0, 0, 0, 0, 0, 0, 0, 0, 0, 0, 0, 0, 0, 0, 0, 0, 0, 0, 0, 0, 0, 0, 0, 0, 0, 0, 0, 0, 0, 0, 0, 0, 0, 0, 0, 0, 0, 0, 0, 0, 0, 0, 0, 0, 0, 0, 0, 0, 0, 0, 0, 0, 0, 0, 0, 0, 0, 0, 87]⟩
def lF : LeafM := ⟨3, 2, ⟨#[98]⟩, []⟩
def mF : MetaM := ⟨128, 9, 4, 0, 0⟩
theorem f_enc : encS lF 128 = sF ∧ encE lF 128 = 0 := ⟨by kernel_rfl, by kernel_rfl⟩
theorem f_men : meS mF = tF ∧ meE mF = 0 := ⟨by kernel_rfl, by kernel_rfl⟩
theorem f_lf : lfM sF = lF := by kernel_rfl
theorem f_mt : mtM tF = mF := by kernel_rfl
theorem f_ds : decM sF = ⟨2, lF, inner0, chain0, meta0⟩ := by
  have h0 : ¬ sF.size = 0 := by decide
  have h2 : byteAt sF 0 = 2 := by decide
  unfold decM
  rw [if_neg h0, if_pos h2, f_lf]
  rfl
theorem f_dt : decM tF = ⟨1, leaf0, inner0, chain0, mF⟩ := by
  have h0 : ¬ tF.size = 0 := by decide
  have h1 : byteAt tF 0 = 1 := by decide
  unfold decM
  rw [if_neg h0, if_neg (by omega), if_neg (by omega), if_neg (by omega), if_pos h1, f_mt]
  rfl
theorem f_dn : decM nilS = page0 := rfl
def lst : List ByteArray := [tF, sF, nilS, sF]
theorem f_a0 : atM lst 0 = ⟨1, leaf0, inner0, chain0, mF⟩ ∧ atE lst 0 = 0 := by
  have h : strAt lst 0 = tF := rfl
  unfold atM atE decE
  rw [h, f_dt]
  exact ⟨rfl, rfl⟩
theorem f_a1 : atM lst 1 = page0 ∧ atE lst 1 = 3 := by
  have h : strAt lst 1 = sF := rfl
  unfold atM atE decE
  rw [h, f_ds]
  exact ⟨rfl, rfl⟩
theorem f_a2 : atM lst 2 = page0 ∧ atE lst 2 = 3 := by
  have h : strAt lst 2 = nilS := rfl
  unfold atM atE decE
  rw [h, f_dn]
  exact ⟨rfl, rfl⟩
theorem f_a3 : atM lst 3 = ⟨2, lF, inner0, chain0, meta0⟩ ∧ atE lst 3 = 0 := by
  have h : strAt lst 3 = sF := rfl
  unfold atM atE decE
  rw [h, f_ds]
  exact ⟨rfl, rfl⟩
theorem f_a4 : atM lst 4 = page0 ∧ atE lst 4 = 4 := ⟨rfl, rfl⟩
theorem f_sv : svL lst = [1, 0, 0, 2] := by
  have : svL lst = [(atM lst 0).kind, (atM lst 1).kind, (atM lst 2).kind, (atM lst 3).kind] := rfl
  rw [this, f_a0.1, f_a1.1, f_a2.1, f_a3.1]
  rfl
attribute [local irreducible] D.DPure D.DEff D.callable decM decE atM atE svL sF tF
theorem pgB_s : pgB ⟨2, lF, inner0, chain0, meta0⟩ := ⟨by decide, by decide, by decide⟩
theorem pgB_t : pgB ⟨1, leaf0, inner0, chain0, mF⟩ := ⟨by decide, by decide, by decide⟩
theorem pgwk {t a1 a2 n1 n2 n3 c1 c2 m1 m2 m3 m4 m5 : Int} {hi h2 h3 : ByteArray} : Wk (.v (.agg #[.int .i64 t, .int .i64 a1, .int .i64 a2, .string hi, .slice none 0 0, .int .i64 n1, .int .i64 n2, .int .i64 n3, .string h2, .slice none 0 0, .slice none 0 0, .int .i64 c1, .int .i64 c2, .string h3, .int .i64 m1, .int .i64 m2, .int .i64 m3, .int .i64 m4, .int .i64 m5]))
    (pageF t ⟨a1, a2, hi, []⟩ ⟨n1, n2, n3, h2, [], []⟩ ⟨c1, c2, h3⟩ ⟨m1, m2, m3, m4, m5⟩) :=
  Wk.vaggL (xs := [.int .i64 t, .int .i64 a1, .int .i64 a2, .string hi, .slice none 0 0, .int .i64 n1, .int .i64 n2, .int .i64 n3, .string h2, .slice none 0 0, .slice none 0 0, .int .i64 c1, .int .i64 c2, .string h3, .int .i64 m1, .int .i64 m2, .int .i64 m3, .int .i64 m4, .int .i64 m5])
    (.cons (.v _) (.cons (.v _) (.cons (.v _) (.cons (.v _) (.cons (.nil _ _ _) (.cons (.v _) (.cons (.v _) (.cons (.v _) (.cons (.v _) (.cons (.nil _ _ _) (.cons (.nil _ _ _) (.cons (.v _) (.cons (.v _) (.cons (.v _) (.cons (.v _) (.cons (.v _) (.cons (.v _) (.cons (.v _) (.cons (.v _) .nil)))))))))))))))))))
theorem lst_in : ∀ s ∈ lst, s.size ≤ 1200 := by
  intro s hs
  have e1 : tF.size = 128 := by kernel_rfl
  have e2 : sF.size = 128 := by kernel_rfl
  have e3 : nilS.size = 0 := rfl
  unfold lst at hs
  simp only [List.mem_cons, List.not_mem_nil, or_false] at hs
  rcases hs with rfl | rfl | rfl | rfl <;> omega
end Go.Proofs.YtlbodfkhenkcjaaGreatDoor.X


namespace Go.Proofs.YtlbodfkhenkcjaaGreatDoor.X
open Go Go.Proofs Go.RowKit Go.Proofs.YtlbodfkhenkcjaaGreatDoor.D
set_option maxRecDepth 100000
set_option maxHeartbeats 8000000
set_option linter.unusedVariables false
set_option linter.unusedSimpArgs false
attribute [local irreducible] D.DPure D.DEff D.callable decM decE atM atE svL sF tF
def c24 : DFun := ⟨147, [.t 0], .seq (.reg [⟨some 0, .mv (.c (.bool false)), none⟩]) (.seq (.reg [⟨some 19, .bld [.int .i64 0, .int .i64 0, .string ⟨#[]⟩, .slice none 0 0] [(0, 1, .c (.int .i64 3)), (1, 1, .c (.int .i64 2)), (2, 1, .c (.string ⟨#[98]⟩))], none⟩, ⟨some 20, .call 33 [.t 19, .c (.int .i64 128)], none⟩, ⟨some 18, .mv (.t 20), none⟩, ⟨some 21, .ext (.t 18) 0, none⟩, ⟨some 22, .ext (.t 18) 1, none⟩, ⟨some 1, .mv (.t 21), none⟩, ⟨some 2, .mv (.t 22), none⟩]) (.seq (.reg [⟨some 24, .bld [.int .i64 0, .int .i64 0, .int .i64 0, .int .i64 0, .int .i64 0] [(0, 1, .c (.int .i64 128)), (1, 1, .c (.int .i64 9)), (2, 1, .c (.int .i64 4))], none⟩, ⟨some 25, .call 32 [.t 24], none⟩, ⟨some 23, .mv (.t 25), none⟩, ⟨some 26, .ext (.t 23) 0, none⟩, ⟨some 27, .ext (.t 23) 1, none⟩, ⟨some 3, .mv (.t 26), none⟩, ⟨some 4, .mv (.t 27), none⟩]) (.seq (.seq (.reg [⟨some 28, .mv (.t 2), none⟩, ⟨some 29, .bin .neq (.t 28) (.c (.int .i64 0)), none⟩, ⟨some 30, .mv (.t 29), none⟩, ⟨some 31, .mv (.t 4), some (30, false)⟩, ⟨some 32, .bin .neq (.t 31) (.c (.int .i64 0)), some (30, false)⟩, ⟨some 33, .pick (.t 30) (.c (.bool true)) (.t 32), none⟩]) (.cond (.t 33) (.seq (.reg [⟨some 0, .mv (.c (.bool false)), none⟩]) .ret) .skip)) (.seq (.reg [⟨some 34, .mv (.t 3), none⟩, ⟨some 35, .mv (.t 1), none⟩, ⟨some 36, .mv (.t 1), none⟩, ⟨some 37, .bsl 1 [.t 34, .t 35, .c (.string ⟨#[]⟩), .t 36], none⟩, ⟨some 5, .mv (.t 37), none⟩]) (.seq (.reg [⟨some 39, .mv (.t 1), none⟩, ⟨some 40, .call 17 [.t 39], none⟩, ⟨some 38, .mv (.t 40), none⟩, ⟨some 41, .ext (.t 38) 0, none⟩, ⟨some 42, .ext (.t 38) 1, none⟩, ⟨some 6, .zero (.agg #[.int .i64 0, .int .i64 0, .int .i64 0, .string ⟨#[]⟩, .slice none 0 0, .int .i64 0, .int .i64 0, .int .i64 0, .string ⟨#[]⟩, .slice none 0 0, .slice none 0 0, .int .i64 0, .int .i64 0, .string ⟨#[]⟩, .int .i64 0, .int .i64 0, .int .i64 0, .int .i64 0, .int .i64 0]), none⟩, ⟨none, .st 19 (.t 6) (.t 41), none⟩, ⟨some 7, .mv (.t 42), none⟩]) (.seq (.reg [⟨some 44, .mv (.t 5), none⟩, ⟨some 45, .call 10 [.t 44, .c (.int .i64 3)], none⟩, ⟨some 43, .mv (.t 45), none⟩, ⟨some 46, .ext (.t 43) 0, none⟩, ⟨some 47, .ext (.t 43) 1, none⟩, ⟨some 8, .zero (.agg #[.int .i64 0, .int .i64 0, .int .i64 0, .string ⟨#[]⟩, .slice none 0 0, .int .i64 0, .int .i64 0, .int .i64 0, .string ⟨#[]⟩, .slice none 0 0, .slice none 0 0, .int .i64 0, .int .i64 0, .string ⟨#[]⟩, .int .i64 0, .int .i64 0, .int .i64 0, .int .i64 0, .int .i64 0]), none⟩, ⟨none, .st 19 (.t 8) (.t 46), none⟩, ⟨some 9, .mv (.t 47), none⟩]) (.seq (.reg [⟨some 49, .mv (.t 5), none⟩, ⟨some 50, .call 10 [.t 49, .c (.int .i64 1)], none⟩, ⟨some 48, .mv (.t 50), none⟩, ⟨some 51, .ext (.t 48) 0, none⟩, ⟨some 52, .ext (.t 48) 1, none⟩, ⟨some 10, .zero (.agg #[.int .i64 0, .int .i64 0, .int .i64 0, .string ⟨#[]⟩, .slice none 0 0, .int .i64 0, .int .i64 0, .int .i64 0, .string ⟨#[]⟩, .slice none 0 0, .slice none 0 0, .int .i64 0, .int .i64 0, .string ⟨#[]⟩, .int .i64 0, .int .i64 0, .int .i64 0, .int .i64 0, .int .i64 0]), none⟩, ⟨none, .st 19 (.t 10) (.t 51), none⟩, ⟨some 11, .mv (.t 52), none⟩]) (.seq (.reg [⟨some 54, .mv (.t 5), none⟩, ⟨some 55, .call 10 [.t 54, .c (.int .i64 4)], none⟩, ⟨some 53, .mv (.t 55), none⟩, ⟨some 56, .ext (.t 53) 0, none⟩, ⟨some 57, .ext (.t 53) 1, none⟩, ⟨some 12, .zero (.agg #[.int .i64 0, .int .i64 0, .int .i64 0, .string ⟨#[]⟩, .slice none 0 0, .int .i64 0, .int .i64 0, .int .i64 0, .string ⟨#[]⟩, .slice none 0 0, .slice none 0 0, .int .i64 0, .int .i64 0, .string ⟨#[]⟩, .int .i64 0, .int .i64 0, .int .i64 0, .int .i64 0, .int .i64 0]), none⟩, ⟨none, .st 19 (.t 12) (.t 56), none⟩, ⟨some 13, .mv (.t 57), none⟩]) (.seq (.reg [⟨some 59, .mv (.t 5), none⟩, ⟨some 60, .call 10 [.t 59, .c (.int .i64 2)], none⟩, ⟨some 58, .mv (.t 60), none⟩, ⟨some 61, .ext (.t 58) 0, none⟩, ⟨some 62, .ext (.t 58) 1, none⟩, ⟨some 14, .zero (.agg #[.int .i64 0, .int .i64 0, .int .i64 0, .string ⟨#[]⟩, .slice none 0 0, .int .i64 0, .int .i64 0, .int .i64 0, .string ⟨#[]⟩, .slice none 0 0, .slice none 0 0, .int .i64 0, .int .i64 0, .string ⟨#[]⟩, .int .i64 0, .int .i64 0, .int .i64 0, .int .i64 0, .int .i64 0]), none⟩, ⟨none, .st 19 (.t 14) (.t 61), none⟩, ⟨some 15, .mv (.t 62), none⟩]) (.seq (.reg [⟨some 64, .mv (.t 5), none⟩, ⟨some 65, .call 10 [.t 64, .c (.int .i64 0)], none⟩, ⟨some 63, .mv (.t 65), none⟩, ⟨some 66, .ext (.t 63) 0, none⟩, ⟨some 67, .ext (.t 63) 1, none⟩, ⟨some 16, .zero (.agg #[.int .i64 0, .int .i64 0, .int .i64 0, .string ⟨#[]⟩, .slice none 0 0, .int .i64 0, .int .i64 0, .int .i64 0, .string ⟨#[]⟩, .slice none 0 0, .slice none 0 0, .int .i64 0, .int .i64 0, .string ⟨#[]⟩, .int .i64 0, .int .i64 0, .int .i64 0, .int .i64 0, .int .i64 0]), none⟩, ⟨none, .st 19 (.t 16) (.t 66), none⟩, ⟨some 17, .mv (.t 67), none⟩]) (.seq (.reg [⟨some 68, .fa 0 (.t 6), none⟩, ⟨some 69, .ld 1 false (.t 68), none⟩, ⟨some 70, .bin .eql (.t 69) (.c (.int .i64 2)), none⟩, ⟨some 71, .mv (.t 70), none⟩, ⟨some 72, .ld 19 true (.t 6), some (71, true)⟩, ⟨some 73, .call 19 [.t 72], some (71, true)⟩, ⟨some 74, .bin .eql (.t 73) (.c (.int .i64 3)), some (71, true)⟩, ⟨some 75, .pick (.t 71) (.t 74) (.c (.bool false)), none⟩, ⟨some 76, .mv (.t 75), none⟩, ⟨some 77, .ld 19 true (.t 6), some (76, true)⟩, ⟨some 78, .call 21 [.t 77], some (76, true)⟩, ⟨some 79, .bin .eql (.t 78) (.c (.int .i64 2)), some (76, true)⟩, ⟨some 80, .pick (.t 76) (.t 79) (.c (.bool false)), none⟩, ⟨some 81, .mv (.t 80), none⟩, ⟨some 82, .mv (.t 7), some (81, true)⟩, ⟨some 83, .bin .eql (.t 82) (.c (.int .i64 0)), some (81, true)⟩, ⟨some 84, .pick (.t 81) (.t 83) (.c (.bool false)), none⟩, ⟨some 85, .mv (.t 84), none⟩, ⟨some 86, .ld 19 true (.t 6), some (85, true)⟩, ⟨some 87, .ld 19 true (.t 8), some (85, true)⟩, ⟨some 88, .call 23 [.t 86, .t 87], some (85, true)⟩, ⟨some 89, .pick (.t 85) (.t 88) (.c (.bool false)), none⟩, ⟨some 90, .mv (.t 89), none⟩, ⟨some 91, .mv (.t 9), some (90, true)⟩, ⟨some 92, .bin .eql (.t 91) (.c (.int .i64 0)), some (90, true)⟩, ⟨some 93, .pick (.t 90) (.t 92) (.c (.bool false)), none⟩, ⟨some 94, .mv (.t 93), none⟩, ⟨some 95, .mv (.t 11), some (94, true)⟩, ⟨some 96, .bin .eql (.t 95) (.c (.int .i64 3)), some (94, true)⟩, ⟨some 97, .pick (.t 94) (.t 96) (.c (.bool false)), none⟩, ⟨some 98, .mv (.t 97), none⟩, ⟨some 99, .mv (.t 13), some (98, true)⟩, ⟨some 100, .bin .eql (.t 99) (.c (.int .i64 4)), some (98, true)⟩, ⟨some 101, .pick (.t 98) (.t 100) (.c (.bool false)), none⟩, ⟨some 102, .mv (.t 101), none⟩, ⟨some 103, .mv (.t 15), some (102, true)⟩, ⟨some 104, .bin .eql (.t 103) (.c (.int .i64 3)), some (102, true)⟩, ⟨some 105, .pick (.t 102) (.t 104) (.c (.bool false)), none⟩, ⟨some 106, .mv (.t 105), none⟩, ⟨some 107, .fa 0 (.t 16), some (106, true)⟩, ⟨some 108, .ld 1 false (.t 107), some (106, true)⟩, ⟨some 109, .bin .eql (.t 108) (.c (.int .i64 1)), some (106, true)⟩, ⟨some 110, .pick (.t 106) (.t 109) (.c (.bool false)), none⟩, ⟨some 111, .mv (.t 110), none⟩, ⟨some 112, .ld 19 true (.t 16), some (111, true)⟩, ⟨some 113, .call 19 [.t 112], some (111, true)⟩, ⟨some 114, .bin .eql (.t 113) (.c (.int .i64 0)), some (111, true)⟩, ⟨some 115, .pick (.t 111) (.t 114) (.c (.bool false)), none⟩, ⟨some 116, .mv (.t 115), none⟩, ⟨some 117, .ld 19 true (.t 16), some (116, true)⟩, ⟨some 118, .call 21 [.t 117], some (116, true)⟩, ⟨some 119, .bin .eql (.t 118) (.c (.int .i64 4)), some (116, true)⟩, ⟨some 120, .pick (.t 116) (.t 119) (.c (.bool false)), none⟩, ⟨some 121, .mv (.t 120), none⟩, ⟨some 122, .mv (.t 17), some (121, true)⟩, ⟨some 123, .bin .eql (.t 122) (.c (.int .i64 0)), some (121, true)⟩, ⟨some 124, .pick (.t 121) (.t 123) (.c (.bool false)), none⟩, ⟨some 125, .mv (.t 124), none⟩, ⟨some 126, .mv (.t 5), some (125, true)⟩, ⟨some 127, .call 15 [.t 126], some (125, true)⟩, ⟨some 128, .bsl 1 [.c (.int .i64 1), .c (.int .i64 0), .c (.int .i64 0), .c (.int .i64 2)], some (125, true)⟩, ⟨some 129, .call 14 [.t 127, .t 128], some (125, true)⟩, ⟨some 130, .pick (.t 125) (.t 129) (.c (.bool false)), none⟩, ⟨some 131, .mv (.t 130), none⟩, ⟨some 132, .ld 19 true (.t 6), some (131, true)⟩, ⟨some 133, .ld 19 true (.t 16), some (131, true)⟩, ⟨some 134, .call 23 [.t 132, .t 133], some (131, true)⟩, ⟨some 135, .un .not (.t 134), some (131, true)⟩, ⟨some 136, .pick (.t 131) (.t 135) (.c (.bool false)), none⟩, ⟨some 137, .mv (.t 136), none⟩, ⟨some 138, .bld [.int .i64 0, .int .i64 0, .int .i64 0, .string ⟨#[]⟩, .slice none 0 0, .int .i64 0, .int .i64 0, .int .i64 0, .string ⟨#[]⟩, .slice none 0 0, .slice none 0 0, .int .i64 0, .int .i64 0, .string ⟨#[]⟩, .int .i64 0, .int .i64 0, .int .i64 0, .int .i64 0, .int .i64 0] [], some (137, true)⟩, ⟨some 139, .call 19 [.t 138], some (137, true)⟩, ⟨some 140, .bin .eql (.t 139) (.c (.int .i64 0)), some (137, true)⟩, ⟨some 141, .pick (.t 137) (.t 140) (.c (.bool false)), none⟩, ⟨some 142, .mv (.t 141), none⟩, ⟨some 143, .bld [.int .i64 0, .int .i64 0, .int .i64 0, .string ⟨#[]⟩, .slice none 0 0, .int .i64 0, .int .i64 0, .int .i64 0, .string ⟨#[]⟩, .slice none 0 0, .slice none 0 0, .int .i64 0, .int .i64 0, .string ⟨#[]⟩, .int .i64 0, .int .i64 0, .int .i64 0, .int .i64 0, .int .i64 0] [], some (142, true)⟩, ⟨some 144, .call 21 [.t 143], some (142, true)⟩, ⟨some 145, .bin .eql (.t 144) (.c (.int .i64 0)), some (142, true)⟩, ⟨some 146, .pick (.t 142) (.t 145) (.c (.bool false)), none⟩, ⟨some 0, .mv (.t 146), none⟩]) .ret)))))))))))⟩
theorem e24 : cfun Tryz.prog 24 = some c24 := by kernel_rfl
abbrev pgS : DV := .agg [VN .i64 2, VN .i64 3, VN .i64 2, SV ⟨#[98]⟩, .list 5 [], VN .i64 0, VN .i64 0, VN .i64 0, SV nilS, .list 1 [], .list 1 [], VN .i64 0, VN .i64 0, SV nilS, VN .i64 0, VN .i64 0, VN .i64 0, VN .i64 0, VN .i64 0]
abbrev pgT : DV := .agg [VN .i64 1, VN .i64 0, VN .i64 0, SV nilS, .list 5 [], VN .i64 0, VN .i64 0, VN .i64 0, SV nilS, .list 1 [], .list 1 [], VN .i64 0, VN .i64 0, SV nilS, VN .i64 128, VN .i64 9, VN .i64 4, VN .i64 0, VN .i64 0]
abbrev pg0 : DV := .agg [VN .i64 0, VN .i64 0, VN .i64 0, SV nilS, .list 5 [], VN .i64 0, VN .i64 0, VN .i64 0, SV nilS, .list 1 [], .list 1 [], VN .i64 0, VN .i64 0, SV nilS, VN .i64 0, VN .i64 0, VN .i64 0, VN .i64 0, VN .i64 0]
theorem fixed14_D : DPure Tp GI 24 [] (BV true) := by
  have w0 : Wk (.v (.agg #[.int .i64 3, .int .i64 2, .string ⟨#[98]⟩, .slice none 0 0])) (.agg [VN .i64 3, VN .i64 2, SV ⟨#[98]⟩, .list 5 (itemsL [])]) := Wk.vaggL (xs := [.int .i64 3, .int .i64 2, .string ⟨#[98]⟩, .slice none 0 0]) (.cons (.v _) (.cons (.v _) (.cons (.v _) (.cons (.nil _ _ _) .nil))))
  have d0 := dp_wk (encode_D0 (I := GI) 3 2 ⟨#[98]⟩ [] 128 (by decide) (by simp) (by decide)) (.cons w0 (.cons (.v _) .nil))
  have d1 := menc_D0 (I := GI) 128 9 4 0 0
  have e1 := f_enc
  have e2 := f_men
  unfold lF at e1
  unfold mF at e2
  rw [e1.1, e1.2] at d0
  rw [e2.1, e2.2] at d1
  have hsz : sF.size ≤ 1200 := Nat.le_of_ble_eq_true (by kernel_rfl)
  have d2 := decode_D sF hsz
  have hE : decE sF = 0 := by unfold decE; rw [f_ds]; rfl
  rw [f_ds, hE] at d2
  have d3 := pat_D lst 3 (by decide) lst_in
  have d4 := pat_D lst 1 (by decide) lst_in
  have d5 := pat_D lst 4 (by decide) lst_in
  have d6 := pat_D lst 2 (by decide) lst_in
  have d7 := pat_D lst 0 (by decide) lst_in
  rw [f_a3.1, f_a3.2] at d3
  rw [f_a1.1, f_a1.2] at d4
  rw [f_a4.1, f_a4.2] at d5
  rw [f_a2.1, f_a2.2] at d6
  rw [f_a0.1, f_a0.2] at d7
  have d8 := survey_D lst (by decide) lst_in
  rw [f_sv] at d8
  have d9 := rints_D (I := GI) [1, 0, 0, 2] [1, 0, 0, 2] (by decide) (by decide)
  rw [decide_eq_true rfl] at d9
  have s1 := self_D (I := GI) ⟨2, lF, inner0, chain0, meta0⟩
  have r1 := rightp_D (I := GI) ⟨2, lF, inner0, chain0, meta0⟩
  have s2 := self_D (I := GI) ⟨1, leaf0, inner0, chain0, mF⟩
  have r2 := rightp_D (I := GI) ⟨1, leaf0, inner0, chain0, mF⟩
  have s3 := dp_wk (self_D (I := GI) page0) (.cons pgwk .nil)
  have r3 := dp_wk (rightp_D (I := GI) page0) (.cons pgwk .nil)
  have q1 := psame_D (I := GI) ⟨2, lF, inner0, chain0, meta0⟩ ⟨2, lF, inner0, chain0, meta0⟩ pgB_s pgB_s
  have q2 := psame_D (I := GI) ⟨2, lF, inner0, chain0, meta0⟩ ⟨1, leaf0, inner0, chain0, mF⟩ pgB_s pgB_t
  rw [decide_eq_true rfl] at q1
  rw [decide_eq_false (by intro e; injection e with e _; exact absurd e (by decide))] at q2
  have g1 : selfN ⟨2, lF, inner0, chain0, meta0⟩ = 3 := rfl
  have g2 : rightN ⟨2, lF, inner0, chain0, meta0⟩ = 2 := rfl
  have g3 : selfN ⟨1, leaf0, inner0, chain0, mF⟩ = 0 := rfl
  have g4 : rightN ⟨1, leaf0, inner0, chain0, mF⟩ = 4 := rfl
  have g5 : selfN page0 = 0 := rfl
  have g6 : rightN page0 = 0 := rfl
  rw [g1] at s1
  rw [g2] at r1
  rw [g3] at s2
  rw [g4] at r2
  rw [g5] at s3
  rw [g6] at r3
  replace d2 : DPure Tp GI 17 [SV sF] (.tup [pgS, VN .i64 0]) := d2
  replace d3 : DPure Tp GI 10 [.list 1 [SV tF, SV sF, SV nilS, SV sF], VN .i64 3] (.tup [pgS, VN .i64 0]) := d3
  replace d4 : DPure Tp GI 10 [.list 1 [SV tF, SV sF, SV nilS, SV sF], VN .i64 1] (.tup [pg0, VN .i64 3]) := d4
  replace d5 : DPure Tp GI 10 [.list 1 [SV tF, SV sF, SV nilS, SV sF], VN .i64 4] (.tup [pg0, VN .i64 4]) := d5
  replace d6 : DPure Tp GI 10 [.list 1 [SV tF, SV sF, SV nilS, SV sF], VN .i64 2] (.tup [pg0, VN .i64 3]) := d6
  replace d7 : DPure Tp GI 10 [.list 1 [SV tF, SV sF, SV nilS, SV sF], VN .i64 0] (.tup [pgT, VN .i64 0]) := d7
  replace d8 : DPure Tp GI 15 [.list 1 [SV tF, SV sF, SV nilS, SV sF]] (.list 1 [VN .i64 1, VN .i64 0, VN .i64 0, VN .i64 2]) := d8
  replace s1 : DPure Tp GI 19 [pgS] (VN .i64 3) := s1
  replace r1 : DPure Tp GI 21 [pgS] (VN .i64 2) := r1
  replace s2 : DPure Tp GI 19 [pgT] (VN .i64 0) := s2
  replace r2 : DPure Tp GI 21 [pgT] (VN .i64 4) := r2
  replace q1 : DPure Tp GI 23 [pgS, pgS] (BV true) := q1
  replace q2 : DPure Tp GI 23 [pgS, pgT] (BV false) := q2
  refine z_pure (e0 := ?e0x1) mix e24 rfl ?z01 ?_
  (case z01 => exact rfl)
  dsimp only [c24]
  repeat' (first
    | ((with_reducible apply z_call); (case' hd => apply d0); (case hw => exact wknL_ok rfl); (try any_goals (first | omega | (dsimp only; omega) | (simp only [ByteArray.size_append, ByteArray.size_extract, strOfNums_size, List.length_cons, List.length_nil, List.length_map, List.length_append, List.length_take, List.length_drop]; omega))))
    | ((with_reducible apply z_call); (case' hd => apply d1); (case hw => exact wknL_ok rfl); (try any_goals (first | omega | (dsimp only; omega) | (simp only [ByteArray.size_append, ByteArray.size_extract, strOfNums_size, List.length_cons, List.length_nil, List.length_map, List.length_append, List.length_take, List.length_drop]; omega))))
    | ((with_reducible apply z_call); (case' hd => apply d2); (case hw => exact wknL_ok rfl); (try any_goals (first | omega | (dsimp only; omega) | (simp only [ByteArray.size_append, ByteArray.size_extract, strOfNums_size, List.length_cons, List.length_nil, List.length_map, List.length_append, List.length_take, List.length_drop]; omega))))
    | ((with_reducible apply z_call); (case' hd => apply d3); (case hw => exact wknL_ok rfl); (try any_goals (first | omega | (dsimp only; omega) | (simp only [ByteArray.size_append, ByteArray.size_extract, strOfNums_size, List.length_cons, List.length_nil, List.length_map, List.length_append, List.length_take, List.length_drop]; omega))))
    | ((with_reducible apply z_call); (case' hd => apply d4); (case hw => exact wknL_ok rfl); (try any_goals (first | omega | (dsimp only; omega) | (simp only [ByteArray.size_append, ByteArray.size_extract, strOfNums_size, List.length_cons, List.length_nil, List.length_map, List.length_append, List.length_take, List.length_drop]; omega))))
    | ((with_reducible apply z_call); (case' hd => apply d5); (case hw => exact wknL_ok rfl); (try any_goals (first | omega | (dsimp only; omega) | (simp only [ByteArray.size_append, ByteArray.size_extract, strOfNums_size, List.length_cons, List.length_nil, List.length_map, List.length_append, List.length_take, List.length_drop]; omega))))
    | ((with_reducible apply z_call); (case' hd => apply d6); (case hw => exact wknL_ok rfl); (try any_goals (first | omega | (dsimp only; omega) | (simp only [ByteArray.size_append, ByteArray.size_extract, strOfNums_size, List.length_cons, List.length_nil, List.length_map, List.length_append, List.length_take, List.length_drop]; omega))))
    | ((with_reducible apply z_call); (case' hd => apply d7); (case hw => exact wknL_ok rfl); (try any_goals (first | omega | (dsimp only; omega) | (simp only [ByteArray.size_append, ByteArray.size_extract, strOfNums_size, List.length_cons, List.length_nil, List.length_map, List.length_append, List.length_take, List.length_drop]; omega))))
    | ((with_reducible apply z_call); (case' hd => apply d8); (case hw => exact wknL_ok rfl); (try any_goals (first | omega | (dsimp only; omega) | (simp only [ByteArray.size_append, ByteArray.size_extract, strOfNums_size, List.length_cons, List.length_nil, List.length_map, List.length_append, List.length_take, List.length_drop]; omega))))
    | ((with_reducible apply z_call); (case' hd => apply d9); (case hw => exact wknL_ok rfl); (try any_goals (first | omega | (dsimp only; omega) | (simp only [ByteArray.size_append, ByteArray.size_extract, strOfNums_size, List.length_cons, List.length_nil, List.length_map, List.length_append, List.length_take, List.length_drop]; omega))))
    | ((with_reducible apply z_call); (case' hd => apply s1); (case hw => exact wknL_ok rfl); (try any_goals (first | omega | (dsimp only; omega) | (simp only [ByteArray.size_append, ByteArray.size_extract, strOfNums_size, List.length_cons, List.length_nil, List.length_map, List.length_append, List.length_take, List.length_drop]; omega))))
    | ((with_reducible apply z_call); (case' hd => apply r1); (case hw => exact wknL_ok rfl); (try any_goals (first | omega | (dsimp only; omega) | (simp only [ByteArray.size_append, ByteArray.size_extract, strOfNums_size, List.length_cons, List.length_nil, List.length_map, List.length_append, List.length_take, List.length_drop]; omega))))
    | ((with_reducible apply z_call); (case' hd => apply s2); (case hw => exact wknL_ok rfl); (try any_goals (first | omega | (dsimp only; omega) | (simp only [ByteArray.size_append, ByteArray.size_extract, strOfNums_size, List.length_cons, List.length_nil, List.length_map, List.length_append, List.length_take, List.length_drop]; omega))))
    | ((with_reducible apply z_call); (case' hd => apply r2); (case hw => exact wknL_ok rfl); (try any_goals (first | omega | (dsimp only; omega) | (simp only [ByteArray.size_append, ByteArray.size_extract, strOfNums_size, List.length_cons, List.length_nil, List.length_map, List.length_append, List.length_take, List.length_drop]; omega))))
    | ((with_reducible apply z_call); (case' hd => apply s3); (case hw => exact wknL_ok rfl); (try any_goals (first | omega | (dsimp only; omega) | (simp only [ByteArray.size_append, ByteArray.size_extract, strOfNums_size, List.length_cons, List.length_nil, List.length_map, List.length_append, List.length_take, List.length_drop]; omega))))
    | ((with_reducible apply z_call); (case' hd => apply r3); (case hw => exact wknL_ok rfl); (try any_goals (first | omega | (dsimp only; omega) | (simp only [ByteArray.size_append, ByteArray.size_extract, strOfNums_size, List.length_cons, List.length_nil, List.length_map, List.length_append, List.length_take, List.length_drop]; omega))))
    | ((with_reducible apply z_call); (case' hd => apply q1); (case hw => exact wknL_ok rfl); (try any_goals (first | omega | (dsimp only; omega) | (simp only [ByteArray.size_append, ByteArray.size_extract, strOfNums_size, List.length_cons, List.length_nil, List.length_map, List.length_append, List.length_take, List.length_drop]; omega))))
    | ((with_reducible apply z_call); (case' hd => apply q2); (case hw => exact wknL_ok rfl); (try any_goals (first | omega | (dsimp only; omega) | (simp only [ByteArray.size_append, ByteArray.size_extract, strOfNums_size, List.length_cons, List.length_nil, List.length_map, List.length_append, List.length_take, List.length_drop]; omega))))
    | with_reducible refine z_seq ?_
    | with_reducible refine z_seqn ?_
    | with_reducible refine z_skip ?_
    | with_reducible refine z_ret ?_
    | with_reducible refine z_reg ?_
    | with_reducible refine z_nil ?_
    | ((with_reducible apply z_cond_f); (case hc => exact rfl))
    | ((with_reducible apply z_g); (case hg => exact rfl))
    | ((with_reducible apply z_mv); (case h => ((conv => {lhs; whnf}) <;> exact rfl)))
    | ((with_reducible apply z_pick_t); (case hc => exact rfl); (case h => ((conv => {lhs; whnf}) <;> exact rfl)))
    | ((with_reducible apply z_pick_f); (case hc => exact rfl); (case h => ((conv => {lhs; whnf}) <;> exact rfl)))
    | ((with_reducible apply z_fa); (case h => ((conv => {lhs; whnf}) <;> exact rfl)))
    | ((with_reducible apply z_ld); (case h => ((conv => {lhs; whnf}) <;> exact rfl)); (case hc => ((conv => {lhs; whnf}) <;> exact rfl)); (case hd => ((conv => {lhs; whnf}) <;> exact rfl)))
    | ((with_reducible apply z_lda); (case h => ((conv => {lhs; whnf}) <;> exact rfl)); (case hc => ((conv => {lhs; whnf}) <;> exact rfl)); (case hb => exact rfl); (case hr => ((conv => {lhs; whnf}) <;> exact rfl)))
    | ((with_reducible apply z_bin); (case hx => ((conv => {lhs; whnf}) <;> exact rfl)); (case hy => ((conv => {lhs; whnf}) <;> exact rfl)))
    | ((with_reducible apply z_not_f); (case hx => exact rfl))
    | ((with_reducible apply z_ext0); (case hx => ((conv => {lhs; whnf}) <;> exact rfl)))
    | ((with_reducible apply z_ext1); (case hx => ((conv => {lhs; whnf}) <;> exact rfl)))
    | ((with_reducible apply z_extt); (case hx => ((conv => {lhs; whnf}) <;> exact rfl)); (case h => ((conv => {lhs; whnf}) <;> exact rfl)))
    | ((with_reducible apply z_bld); (case hp => exact rfl); (case h1 => ((conv => {lhs; whnf}) <;> exact rfl)); (case h2 => exact rfl); (case hr => ((conv => {lhs; whnf}) <;> exact rfl)))
    | ((with_reducible apply z_bsl); (case h1 => ((conv => {lhs; whnf}) <;> exact rfl)); (case h2 => exact rfl))
    | ((with_reducible apply z_zero); (case hc => ((conv => {lhs; whnf}) <;> exact rfl)); (case hq => ((conv => {lhs; whnf}) <;> exact rfl)); (case hl => ((conv => {lhs; whnf}) <;> exact rfl)))
    | ((with_reducible apply z_st); (case ha => ((conv => {lhs; whnf}) <;> exact rfl)); (case hcs => ((conv => {lhs; whnf}) <;> exact rfl)); (case hx => ((conv => {lhs; whnf}) <;> exact rfl)); (case hb => exact rfl); (case hl => ((conv => {lhs; whnf}) <;> exact rfl)))
    | ((with_reducible apply z_fin); (case he => exact rfl); (case hr => ((conv => {lhs; whnf}) <;> exact rfl)))
    | with_reducible refine s_eql_t (by omega) ?_
    | with_reducible refine s_neq_f (by omega) ?_
    | fail)
  exact wkn_ok (by kernel_rfl)
end Go.Proofs.YtlbodfkhenkcjaaGreatDoor.X


namespace Go.Proofs.YtlbodfkhenkcjaaGreatDoor.X
open Go Go.Proofs Go.RowKit Go.Proofs.YtlbodfkhenkcjaaGreatDoor.D
set_option maxRecDepth 100000
set_option maxHeartbeats 8000000
set_option linter.unusedVariables false
set_option linter.unusedSimpArgs false
attribute [local irreducible] D.DPure D.DEff D.callable decM decE lfM lfE inM inE chM chE mtM mtE

def c4 : DFun := ⟨116, [.t 2], .seq (.reg [⟨some 2, .mv (.c (.bool false)), none⟩]) (.seq (.reg [⟨some 17, .mv (.t 0), none⟩, ⟨some 18, .mv (.t 0), none⟩, ⟨some 19, .len true (.t 18), none⟩, ⟨some 20, .mm false (.t 19) [.c (.int .i64 1100)], none⟩, ⟨some 21, .slS (.t 17) none (some (.t 20)), none⟩, ⟨some 0, .mv (.t 21), none⟩]) (.seq (.reg [⟨some 23, .mv (.t 0), none⟩, ⟨some 24, .call 17 [.t 23], none⟩, ⟨some 22, .mv (.t 24), none⟩, ⟨some 25, .ext (.t 22) 0, none⟩, ⟨some 26, .ext (.t 22) 1, none⟩, ⟨some 3, .zero (.agg #[.int .i64 0, .int .i64 0, .int .i64 0, .string ⟨#[]⟩, .slice none 0 0, .int .i64 0, .int .i64 0, .int .i64 0, .string ⟨#[]⟩, .slice none 0 0, .slice none 0 0, .int .i64 0, .int .i64 0, .string ⟨#[]⟩, .int .i64 0, .int .i64 0, .int .i64 0, .int .i64 0, .int .i64 0]), none⟩, ⟨none, .st 19 (.t 3) (.t 25), none⟩, ⟨some 4, .mv (.t 26), none⟩]) (.seq (.reg [⟨some 28, .mv (.t 0), none⟩, ⟨some 29, .call 25 [.t 28], none⟩, ⟨some 27, .mv (.t 29), none⟩, ⟨some 30, .ext (.t 27) 0, none⟩, ⟨some 31, .ext (.t 27) 1, none⟩, ⟨some 5, .zero (.agg #[.int .i64 0, .int .i64 0, .string ⟨#[]⟩, .slice none 0 0]), none⟩, ⟨none, .st 4 (.t 5) (.t 30), none⟩, ⟨some 6, .mv (.t 31), none⟩]) (.seq (.reg [⟨some 33, .mv (.t 0), none⟩, ⟨some 34, .call 26 [.t 33], none⟩, ⟨some 32, .mv (.t 34), none⟩, ⟨some 35, .ext (.t 32) 0, none⟩, ⟨some 36, .ext (.t 32) 1, none⟩, ⟨some 7, .zero (.agg #[.int .i64 0, .int .i64 0, .int .i64 0, .string ⟨#[]⟩, .slice none 0 0, .slice none 0 0]), none⟩, ⟨none, .st 6 (.t 7) (.t 35), none⟩, ⟨some 8, .mv (.t 36), none⟩]) (.seq (.reg [⟨some 38, .mv (.t 0), none⟩, ⟨some 39, .call 27 [.t 38], none⟩, ⟨some 37, .mv (.t 39), none⟩, ⟨some 40, .ext (.t 37) 0, none⟩, ⟨some 41, .ext (.t 37) 1, none⟩, ⟨some 9, .zero (.agg #[.int .i64 0, .int .i64 0, .string ⟨#[]⟩]), none⟩, ⟨none, .st 3 (.t 9) (.t 40), none⟩, ⟨some 10, .mv (.t 41), none⟩]) (.seq (.reg [⟨some 43, .mv (.t 0), none⟩, ⟨some 44, .call 28 [.t 43], none⟩, ⟨some 42, .mv (.t 44), none⟩, ⟨some 45, .ext (.t 42) 0, none⟩, ⟨some 46, .ext (.t 42) 1, none⟩, ⟨some 11, .zero (.agg #[.int .i64 0, .int .i64 0, .int .i64 0, .int .i64 0, .int .i64 0]), none⟩, ⟨none, .st 5 (.t 11) (.t 45), none⟩, ⟨some 12, .mv (.t 46), none⟩]) (.seq (.reg [⟨some 47, .mv (.t 12), none⟩, ⟨some 48, .bin .eql (.t 47) (.c (.int .i64 0)), none⟩, ⟨some 49, .mv (.t 6), none⟩, ⟨some 50, .bin .eql (.t 49) (.c (.int .i64 0)), none⟩, ⟨some 51, .mv (.t 8), none⟩, ⟨some 52, .bin .eql (.t 51) (.c (.int .i64 0)), none⟩, ⟨some 53, .mv (.t 10), none⟩, ⟨some 54, .bin .eql (.t 53) (.c (.int .i64 0)), none⟩, ⟨some 55, .bsl 1 [.t 48, .t 50, .t 52, .t 54], none⟩, ⟨some 13, .mv (.t 55), none⟩]) (.seq (.reg [⟨some 14, .mv (.c (.int .i64 0)), none⟩, ⟨some 15, .mv (.c (.int .i64 0)), none⟩]) (.seq (.seq (.reg [⟨some 16, .mv (.c (.int .i64 0)), none⟩]) (.block 0 (.loop (.seq (.seq (.reg [⟨some 56, .mv (.t 16), none⟩, ⟨some 57, .bin .lss (.t 56) (.c (.int .i64 4)), none⟩]) (.cond (.t 57) .skip (.exit 0))) (.seq (.block 1 (.seq (.reg [⟨some 60, .mv (.t 13), none⟩, ⟨some 61, .mv (.t 16), none⟩, ⟨some 62, .ixa 1 (.t 60) (.t 61), none⟩, ⟨some 63, .ld 1 false (.t 62), none⟩]) (.cond (.t 63) (.seq (.reg [⟨some 64, .mv (.t 14), none⟩, ⟨some 65, .bin .add (.t 64) (.c (.int .i64 1)), none⟩, ⟨some 14, .mv (.t 65), none⟩]) (.reg [⟨some 66, .mv (.t 16), none⟩, ⟨some 67, .bin .add (.t 66) (.c (.int .i64 1)), none⟩, ⟨some 15, .mv (.t 67), none⟩])) .skip))) (.reg [⟨some 58, .mv (.t 16), none⟩, ⟨some 59, .bin .add (.t 58) (.c (.int .i64 1)), none⟩, ⟨some 16, .mv (.t 59), none⟩])))))) (.seq (.seq (.reg [⟨some 68, .mv (.t 14), none⟩, ⟨some 69, .bin .gtr (.t 68) (.c (.int .i64 1)), none⟩, ⟨some 70, .mv (.t 69), none⟩, ⟨some 71, .mv (.t 4), some (70, false)⟩, ⟨some 72, .bin .eql (.t 71) (.c (.int .i64 0)), some (70, false)⟩, ⟨some 73, .mv (.t 14), some (70, false)⟩, ⟨some 74, .bin .eql (.t 73) (.c (.int .i64 1)), some (70, false)⟩, ⟨some 75, .beq true (.t 72) (.t 74), some (70, false)⟩, ⟨some 76, .pick (.t 70) (.c (.bool true)) (.t 75), none⟩, ⟨some 77, .mv (.t 76), none⟩, ⟨some 78, .fa 0 (.t 3), some (77, false)⟩, ⟨some 79, .ld 1 false (.t 78), some (77, false)⟩, ⟨some 80, .mv (.t 15), some (77, false)⟩, ⟨some 81, .bin .neq (.t 79) (.t 80), some (77, false)⟩, ⟨some 82, .pick (.t 77) (.c (.bool true)) (.t 81), none⟩]) (.cond (.t 82) (.seq (.reg [⟨some 2, .mv (.c (.bool false)), none⟩]) .ret) .skip)) (.seq (.reg [⟨some 83, .fa 1 (.t 3), none⟩, ⟨some 84, .ld 4 true (.t 83), none⟩, ⟨some 85, .ld 4 true (.t 5), none⟩, ⟨some 86, .call 29 [.t 84, .t 85], none⟩, ⟨some 87, .mv (.t 86), none⟩, ⟨some 88, .fa 5 (.t 3), some (87, true)⟩, ⟨some 89, .ld 6 true (.t 88), some (87, true)⟩, ⟨some 90, .ld 6 true (.t 7), some (87, true)⟩, ⟨some 91, .call 30 [.t 89, .t 90], some (87, true)⟩, ⟨some 92, .pick (.t 87) (.t 91) (.c (.bool false)), none⟩, ⟨some 93, .mv (.t 92), none⟩, ⟨some 94, .fa 11 (.t 3), some (93, true)⟩, ⟨some 95, .ld 3 true (.t 94), some (93, true)⟩, ⟨some 96, .ld 3 true (.t 9), some (93, true)⟩, ⟨some 97, .eqs false [1, 1, 2] (.t 95) (.t 96), some (93, true)⟩, ⟨some 98, .pick (.t 93) (.t 97) (.c (.bool false)), none⟩, ⟨some 99, .mv (.t 98), none⟩, ⟨some 100, .fa 14 (.t 3), some (99, true)⟩, ⟨some 101, .ld 5 true (.t 100), some (99, true)⟩, ⟨some 102, .ld 5 true (.t 11), some (99, true)⟩, ⟨some 103, .eqs false [1, 1, 1, 1, 1] (.t 101) (.t 102), some (99, true)⟩, ⟨some 104, .pick (.t 99) (.t 103) (.c (.bool false)), none⟩, ⟨some 105, .mv (.t 104), none⟩, ⟨some 106, .mv (.t 4), some (105, true)⟩, ⟨some 107, .bin .eql (.t 106) (.c (.int .i64 0)), some (105, true)⟩, ⟨some 108, .mv (.t 107), some (105, true)⟩, ⟨some 109, .mv (.t 4), some (108, false)⟩, ⟨some 110, .bin .eql (.t 109) (.c (.int .i64 3)), some (108, false)⟩, ⟨some 111, .pick (.t 108) (.c (.bool true)) (.t 110), some (105, true)⟩, ⟨some 112, .pick (.t 105) (.t 111) (.c (.bool false)), none⟩, ⟨some 113, .mv (.t 112), none⟩, ⟨some 114, .call 24 [], some (113, true)⟩, ⟨some 115, .pick (.t 113) (.t 114) (.c (.bool false)), none⟩, ⟨some 2, .mv (.t 115), none⟩]) .ret)))))))))))⟩
theorem e4 : cfun Tryz.prog 4 = some c4 := by kernel_rfl
abbrev cutE (s : ByteArray) : ByteArray := s.extract 0 (min (s.size : Int) 1100).toNat
theorem cutE_size (s : ByteArray) : (cutE s).size ≤ 1100 := by rw [ByteArray.size_extract]; omega
theorem one_D0 (s : ByteArray) (t a1 a2 b1 b2 b3 c1 c2 m1 m2 m3 m4 m5 e f g h i : Int) (h1 h2 h3 : ByteArray) (l : List ItemM) (k : List Int) (q : List ByteArray) (hl : l.length ≤ 100000) (hk : k.length ≤ 100000) (hq : q.length ≤ 100000)
    (hc : (t = 1 ∧ e = 0 ∧ i = 0 ∧ f = 3 ∧ g = 3 ∧ h = 3) ∨ (t = 2 ∧ e = 0 ∧ i = 3 ∧ f = 0 ∧ g = 3 ∧ h = 3) ∨ (t = 3 ∧ e = 0 ∧ i = 3 ∧ f = 3 ∧ g = 0 ∧ h = 3) ∨ (t = 4 ∧ e = 0 ∧ i = 3 ∧ f = 3 ∧ g = 3 ∧ h = 0) ∨ (t = 0 ∧ e = 3 ∧ i = 3 ∧ f = 3 ∧ g = 3 ∧ h = 3))
    (d0 : DPure Tp GI 17 [SV (cutE s)] (.tup [.agg [VN .i64 t, VN .i64 a1, VN .i64 a2, SV h1, .list 5 (itemsL l), VN .i64 b1, VN .i64 b2, VN .i64 b3, SV h2, .list 1 (k.map fun n => VN .i64 n), .list 1 (strsL q), VN .i64 c1, VN .i64 c2, SV h3, VN .i64 m1, VN .i64 m2, VN .i64 m3, VN .i64 m4, VN .i64 m5], VN .i64 e]))
    (d1 : DPure Tp GI 25 [SV (cutE s)] (.tup [.agg [VN .i64 a1, VN .i64 a2, SV h1, .list 5 (itemsL l)], VN .i64 f]))
    (d2 : DPure Tp GI 26 [SV (cutE s)] (.tup [.agg [VN .i64 b1, VN .i64 b2, VN .i64 b3, SV h2, .list 1 (k.map fun n => VN .i64 n), .list 1 (strsL q)], VN .i64 g]))
    (d3 : DPure Tp GI 27 [SV (cutE s)] (.v (.tuple #[.agg #[.int .i64 c1, .int .i64 c2, .string h3], .int .i64 h])))
    (d4 : DPure Tp GI 28 [SV (cutE s)] (.v (.tuple #[.agg #[.int .i64 m1, .int .i64 m2, .int .i64 m3, .int .i64 m4, .int .i64 m5], .int .i64 i])))
    (d7 : DPure Tp GI 24 [] (BV true)) :
    DPure Tp GI 4 [SV s] (BV true) := by
  have d5 := lsame_D0 (I := GI) a1 a2 a1 a2 h1 h1 l l hl hl
  rw [decide_eq_true ⟨⟨⟨rfl, rfl⟩, rfl⟩, rfl⟩] at d5
  have d6 := isame_D0 (I := GI) b1 b2 b3 b1 b2 b3 h2 h2 k k q q hk hk hq hq
  rw [decide_eq_true ⟨⟨⟨⟨⟨rfl, rfl⟩, rfl⟩, rfl⟩, rfl⟩, rfl⟩] at d6
  rcases hc with ⟨rfl, rfl, rfl, rfl, rfl, rfl⟩ | ⟨rfl, rfl, rfl, rfl, rfl, rfl⟩ | ⟨rfl, rfl, rfl, rfl, rfl, rfl⟩ | ⟨rfl, rfl, rfl, rfl, rfl, rfl⟩ | ⟨rfl, rfl, rfl, rfl, rfl, rfl⟩
  · refine z_pure (e0 := ?e0x1) mix e4 rfl ?z01 ?_
    (case z01 => exact rfl)
    dsimp only [c4]
    repeat' (first
      | ((with_reducible apply z_call); (case' hd => apply d0); (case hw => exact wknL_ok rfl); (try any_goals (first | omega | (dsimp only; omega) | (simp only [ByteArray.size_append, ByteArray.size_extract, strOfNums_size, List.length_cons, List.length_nil, List.length_map, List.length_append, List.length_take, List.length_drop]; omega))))
      | ((with_reducible apply z_call); (case' hd => apply d1); (case hw => exact wknL_ok rfl); (try any_goals (first | omega | (dsimp only; omega) | (simp only [ByteArray.size_append, ByteArray.size_extract, strOfNums_size, List.length_cons, List.length_nil, List.length_map, List.length_append, List.length_take, List.length_drop]; omega))))
      | ((with_reducible apply z_call); (case' hd => apply d2); (case hw => exact wknL_ok rfl); (try any_goals (first | omega | (dsimp only; omega) | (simp only [ByteArray.size_append, ByteArray.size_extract, strOfNums_size, List.length_cons, List.length_nil, List.length_map, List.length_append, List.length_take, List.length_drop]; omega))))
      | ((with_reducible apply z_call); (case' hd => apply d3); (case hw => exact wknL_ok rfl); (try any_goals (first | omega | (dsimp only; omega) | (simp only [ByteArray.size_append, ByteArray.size_extract, strOfNums_size, List.length_cons, List.length_nil, List.length_map, List.length_append, List.length_take, List.length_drop]; omega))))
      | ((with_reducible apply z_call); (case' hd => apply d4); (case hw => exact wknL_ok rfl); (try any_goals (first | omega | (dsimp only; omega) | (simp only [ByteArray.size_append, ByteArray.size_extract, strOfNums_size, List.length_cons, List.length_nil, List.length_map, List.length_append, List.length_take, List.length_drop]; omega))))
      | ((with_reducible apply z_call); (case' hd => apply d5); (case hw => exact wknL_ok rfl); (try any_goals (first | omega | (dsimp only; omega) | (simp only [ByteArray.size_append, ByteArray.size_extract, strOfNums_size, List.length_cons, List.length_nil, List.length_map, List.length_append, List.length_take, List.length_drop]; omega))))
      | ((with_reducible apply z_call); (case' hd => apply d6); (case hw => exact wknL_ok rfl); (try any_goals (first | omega | (dsimp only; omega) | (simp only [ByteArray.size_append, ByteArray.size_extract, strOfNums_size, List.length_cons, List.length_nil, List.length_map, List.length_append, List.length_take, List.length_drop]; omega))))
      | ((with_reducible apply z_call); (case' hd => apply d7); (case hw => exact wknL_ok rfl); (try any_goals (first | omega | (dsimp only; omega) | (simp only [ByteArray.size_append, ByteArray.size_extract, strOfNums_size, List.length_cons, List.length_nil, List.length_map, List.length_append, List.length_take, List.length_drop]; omega))))
      | ((with_reducible apply z_eqsb); (case hx => ((conv => {lhs; whnf}) <;> exact rfl)); (case hy => ((conv => {lhs; whnf}) <;> exact rfl)); (case h => ((conv => {lhs; whnf}) <;> exact rfl)); (all_goals intro _))
      | ((with_reducible apply z_unrA [3, 4, 5, 7, 9, 11, 13, 14, 15, 16]); (case h1 => exact rfl); (case h2 => exact rfl); (case h3 => exact rfl); (case h4 => exact rfl))
      | with_reducible refine z_seq ?_
      | with_reducible refine z_seqn ?_
      | with_reducible refine z_seqx ?_
      | with_reducible refine z_blk ?_
      | with_reducible refine z_blkn ?_
      | with_reducible refine z_blkh ?_
      | with_reducible refine z_lopn ?_
      | with_reducible refine z_lopx ?_
      | with_reducible refine z_skip ?_
      | with_reducible refine z_exit ?_
      | with_reducible refine z_ret ?_
      | with_reducible refine z_reg ?_
      | with_reducible refine z_nil ?_
      | ((with_reducible apply z_cond_t); (case hc => exact rfl))
      | ((with_reducible apply z_cond_f); (case hc => exact rfl))
      | ((with_reducible apply z_gf); (case hg => exact rfl))
      | ((with_reducible apply z_gt); (case hg => exact rfl))
      | ((with_reducible apply z_gu); (case hg => ((conv => {lhs; whnf}) <;> exact rfl)))
      | ((with_reducible apply z_g); (case hg => exact rfl))
      | ((with_reducible apply z_mv); (case h => ((conv => {lhs; whnf}) <;> exact rfl)))
      | ((with_reducible apply z_pick_t); (case hc => exact rfl); (case h => ((conv => {lhs; whnf}) <;> exact rfl)))
      | ((with_reducible apply z_pick_f); (case hc => exact rfl); (case h => ((conv => {lhs; whnf}) <;> exact rfl)))
      | ((with_reducible apply z_fa); (case h => ((conv => {lhs; whnf}) <;> exact rfl)))
      | ((with_reducible apply z_ld); (case h => ((conv => {lhs; whnf}) <;> exact rfl)); (case hc => ((conv => {lhs; whnf}) <;> exact rfl)); (case hd => ((conv => {lhs; whnf}) <;> exact rfl)))
      | ((with_reducible apply z_lde); (case h => ((conv => {lhs; whnf}) <;> exact rfl)); (case hd => ((conv => {lhs; whnf}) <;> exact rfl)))
      | ((with_reducible apply z_lda); (case h => ((conv => {lhs; whnf}) <;> exact rfl)); (case hc => ((conv => {lhs; whnf}) <;> exact rfl)); (case hb => exact rfl); (case hr => ((conv => {lhs; whnf}) <;> exact rfl)))
      | ((with_reducible apply z_bin); (case hx => ((conv => {lhs; whnf}) <;> exact rfl)); (case hy => ((conv => {lhs; whnf}) <;> exact rfl)))
      | ((with_reducible apply z_beq); (case hx => ((conv => {lhs; whnf}) <;> exact rfl)); (case hy => ((conv => {lhs; whnf}) <;> exact rfl)); (case hr => ((conv => {lhs; whnf}) <;> exact rfl)))
      | ((with_reducible apply z_slS); (case hx => ((conv => {lhs; whnf}) <;> exact rfl)))
      | with_reducible refine z_opt_n ?_
      | ((with_reducible apply z_opt_s); (case hx => ((conv => {lhs; whnf}) <;> exact rfl)); (case h0 => (first | omega | (dsimp only; omega) | (simp only [ByteArray.size_append, ByteArray.size_extract, strOfNums_size, List.length_cons, List.length_nil, List.length_map, List.length_append, List.length_take, List.length_drop]; omega))))
      | ((with_reducible apply z_ixa); (case hi => ((conv => {lhs; whnf}) <;> exact rfl)); (case hx => ((conv => {lhs; whnf}) <;> exact rfl)); (case h1 => ((conv => {lhs; whnf}) <;> exact rfl)); (case h2 => exact rfl))
      | ((with_reducible apply z_ext0); (case hx => ((conv => {lhs; whnf}) <;> exact rfl)))
      | ((with_reducible apply z_ext1); (case hx => ((conv => {lhs; whnf}) <;> exact rfl)))
      | ((with_reducible apply z_extt); (case hx => ((conv => {lhs; whnf}) <;> exact rfl)); (case h => ((conv => {lhs; whnf}) <;> exact rfl)))
      | ((with_reducible apply z_lenS); (case hx => ((conv => {lhs; whnf}) <;> exact rfl)))
      | ((with_reducible apply z_min); (case hx => ((conv => {lhs; whnf}) <;> exact rfl)); (case hy => ((conv => {lhs; whnf}) <;> exact rfl)))
      | ((with_reducible apply z_bsl); (case h1 => ((conv => {lhs; whnf}) <;> exact rfl)); (case h2 => exact rfl))
      | ((with_reducible apply z_zero); (case hc => ((conv => {lhs; whnf}) <;> exact rfl)); (case hq => ((conv => {lhs; whnf}) <;> exact rfl)); (case hl => ((conv => {lhs; whnf}) <;> exact rfl)))
      | ((with_reducible apply z_st); (case ha => ((conv => {lhs; whnf}) <;> exact rfl)); (case hcs => ((conv => {lhs; whnf}) <;> exact rfl)); (case hx => ((conv => {lhs; whnf}) <;> exact rfl)); (case hb => exact rfl); (case hl => ((conv => {lhs; whnf}) <;> exact rfl)))
      | ((with_reducible apply z_fin); (case he => exact rfl); (case hr => ((conv => {lhs; whnf}) <;> exact rfl)))
      | with_reducible refine s_lss_t (by omega) ?_
      | with_reducible refine s_lss_f (by omega) ?_
      | with_reducible refine s_gtr_f (by omega) ?_
      | with_reducible refine s_eql_t (by omega) ?_
      | with_reducible refine s_eql_f (by omega) ?_
      | with_reducible refine s_neq_f (by omega) ?_
      | with_reducible refine s_add (by first | omega | (dsimp only; omega) | (simp only [ByteArray.size_append, ByteArray.size_extract, strOfNums_size, List.length_cons, List.length_nil, List.length_map, List.length_append, List.length_take, List.length_drop]; omega)) ?_
      | ((with_reducible refine is_e2 ?_); refine ⟨_, rfl, ?_⟩)
      | refine And.intro (by omega) ?_
      | fail)
    all_goals first
      | exact absurd ⟨⟨rfl, rfl⟩, rfl⟩ (ch_f ‹_›)
      | exact absurd ⟨rfl, rfl, rfl, rfl, rfl⟩ (mt_f ‹_›)
      | exact wkn_ok (by kernel_rfl)
  · refine z_pure (e0 := ?e0x2) mix e4 rfl ?z02 ?_
    (case z02 => exact rfl)
    dsimp only [c4]
    repeat' (first
      | ((with_reducible apply z_call); (case' hd => apply d0); (case hw => exact wknL_ok rfl); (try any_goals (first | omega | (dsimp only; omega) | (simp only [ByteArray.size_append, ByteArray.size_extract, strOfNums_size, List.length_cons, List.length_nil, List.length_map, List.length_append, List.length_take, List.length_drop]; omega))))
      | ((with_reducible apply z_call); (case' hd => apply d1); (case hw => exact wknL_ok rfl); (try any_goals (first | omega | (dsimp only; omega) | (simp only [ByteArray.size_append, ByteArray.size_extract, strOfNums_size, List.length_cons, List.length_nil, List.length_map, List.length_append, List.length_take, List.length_drop]; omega))))
      | ((with_reducible apply z_call); (case' hd => apply d2); (case hw => exact wknL_ok rfl); (try any_goals (first | omega | (dsimp only; omega) | (simp only [ByteArray.size_append, ByteArray.size_extract, strOfNums_size, List.length_cons, List.length_nil, List.length_map, List.length_append, List.length_take, List.length_drop]; omega))))
      | ((with_reducible apply z_call); (case' hd => apply d3); (case hw => exact wknL_ok rfl); (try any_goals (first | omega | (dsimp only; omega) | (simp only [ByteArray.size_append, ByteArray.size_extract, strOfNums_size, List.length_cons, List.length_nil, List.length_map, List.length_append, List.length_take, List.length_drop]; omega))))
      | ((with_reducible apply z_call); (case' hd => apply d4); (case hw => exact wknL_ok rfl); (try any_goals (first | omega | (dsimp only; omega) | (simp only [ByteArray.size_append, ByteArray.size_extract, strOfNums_size, List.length_cons, List.length_nil, List.length_map, List.length_append, List.length_take, List.length_drop]; omega))))
      | ((with_reducible apply z_call); (case' hd => apply d5); (case hw => exact wknL_ok rfl); (try any_goals (first | omega | (dsimp only; omega) | (simp only [ByteArray.size_append, ByteArray.size_extract, strOfNums_size, List.length_cons, List.length_nil, List.length_map, List.length_append, List.length_take, List.length_drop]; omega))))
      | ((with_reducible apply z_call); (case' hd => apply d6); (case hw => exact wknL_ok rfl); (try any_goals (first | omega | (dsimp only; omega) | (simp only [ByteArray.size_append, ByteArray.size_extract, strOfNums_size, List.length_cons, List.length_nil, List.length_map, List.length_append, List.length_take, List.length_drop]; omega))))
      | ((with_reducible apply z_call); (case' hd => apply d7); (case hw => exact wknL_ok rfl); (try any_goals (first | omega | (dsimp only; omega) | (simp only [ByteArray.size_append, ByteArray.size_extract, strOfNums_size, List.length_cons, List.length_nil, List.length_map, List.length_append, List.length_take, List.length_drop]; omega))))
      | ((with_reducible apply z_eqsb); (case hx => ((conv => {lhs; whnf}) <;> exact rfl)); (case hy => ((conv => {lhs; whnf}) <;> exact rfl)); (case h => ((conv => {lhs; whnf}) <;> exact rfl)); (all_goals intro _))
      | ((with_reducible apply z_unrA [3, 4, 5, 7, 9, 11, 13, 14, 15, 16]); (case h1 => exact rfl); (case h2 => exact rfl); (case h3 => exact rfl); (case h4 => exact rfl))
      | with_reducible refine z_seq ?_
      | with_reducible refine z_seqn ?_
      | with_reducible refine z_seqx ?_
      | with_reducible refine z_blk ?_
      | with_reducible refine z_blkn ?_
      | with_reducible refine z_blkh ?_
      | with_reducible refine z_lopn ?_
      | with_reducible refine z_lopx ?_
      | with_reducible refine z_skip ?_
      | with_reducible refine z_exit ?_
      | with_reducible refine z_ret ?_
      | with_reducible refine z_reg ?_
      | with_reducible refine z_nil ?_
      | ((with_reducible apply z_cond_t); (case hc => exact rfl))
      | ((with_reducible apply z_cond_f); (case hc => exact rfl))
      | ((with_reducible apply z_gf); (case hg => exact rfl))
      | ((with_reducible apply z_gt); (case hg => exact rfl))
      | ((with_reducible apply z_gu); (case hg => ((conv => {lhs; whnf}) <;> exact rfl)))
      | ((with_reducible apply z_g); (case hg => exact rfl))
      | ((with_reducible apply z_mv); (case h => ((conv => {lhs; whnf}) <;> exact rfl)))
      | ((with_reducible apply z_pick_t); (case hc => exact rfl); (case h => ((conv => {lhs; whnf}) <;> exact rfl)))
      | ((with_reducible apply z_pick_f); (case hc => exact rfl); (case h => ((conv => {lhs; whnf}) <;> exact rfl)))
      | ((with_reducible apply z_fa); (case h => ((conv => {lhs; whnf}) <;> exact rfl)))
      | ((with_reducible apply z_ld); (case h => ((conv => {lhs; whnf}) <;> exact rfl)); (case hc => ((conv => {lhs; whnf}) <;> exact rfl)); (case hd => ((conv => {lhs; whnf}) <;> exact rfl)))
      | ((with_reducible apply z_lde); (case h => ((conv => {lhs; whnf}) <;> exact rfl)); (case hd => ((conv => {lhs; whnf}) <;> exact rfl)))
      | ((with_reducible apply z_lda); (case h => ((conv => {lhs; whnf}) <;> exact rfl)); (case hc => ((conv => {lhs; whnf}) <;> exact rfl)); (case hb => exact rfl); (case hr => ((conv => {lhs; whnf}) <;> exact rfl)))
      | ((with_reducible apply z_bin); (case hx => ((conv => {lhs; whnf}) <;> exact rfl)); (case hy => ((conv => {lhs; whnf}) <;> exact rfl)))
      | ((with_reducible apply z_beq); (case hx => ((conv => {lhs; whnf}) <;> exact rfl)); (case hy => ((conv => {lhs; whnf}) <;> exact rfl)); (case hr => ((conv => {lhs; whnf}) <;> exact rfl)))
      | ((with_reducible apply z_slS); (case hx => ((conv => {lhs; whnf}) <;> exact rfl)))
      | with_reducible refine z_opt_n ?_
      | ((with_reducible apply z_opt_s); (case hx => ((conv => {lhs; whnf}) <;> exact rfl)); (case h0 => (first | omega | (dsimp only; omega) | (simp only [ByteArray.size_append, ByteArray.size_extract, strOfNums_size, List.length_cons, List.length_nil, List.length_map, List.length_append, List.length_take, List.length_drop]; omega))))
      | ((with_reducible apply z_ixa); (case hi => ((conv => {lhs; whnf}) <;> exact rfl)); (case hx => ((conv => {lhs; whnf}) <;> exact rfl)); (case h1 => ((conv => {lhs; whnf}) <;> exact rfl)); (case h2 => exact rfl))
      | ((with_reducible apply z_ext0); (case hx => ((conv => {lhs; whnf}) <;> exact rfl)))
      | ((with_reducible apply z_ext1); (case hx => ((conv => {lhs; whnf}) <;> exact rfl)))
      | ((with_reducible apply z_extt); (case hx => ((conv => {lhs; whnf}) <;> exact rfl)); (case h => ((conv => {lhs; whnf}) <;> exact rfl)))
      | ((with_reducible apply z_lenS); (case hx => ((conv => {lhs; whnf}) <;> exact rfl)))
      | ((with_reducible apply z_min); (case hx => ((conv => {lhs; whnf}) <;> exact rfl)); (case hy => ((conv => {lhs; whnf}) <;> exact rfl)))
      | ((with_reducible apply z_bsl); (case h1 => ((conv => {lhs; whnf}) <;> exact rfl)); (case h2 => exact rfl))
      | ((with_reducible apply z_zero); (case hc => ((conv => {lhs; whnf}) <;> exact rfl)); (case hq => ((conv => {lhs; whnf}) <;> exact rfl)); (case hl => ((conv => {lhs; whnf}) <;> exact rfl)))
      | ((with_reducible apply z_st); (case ha => ((conv => {lhs; whnf}) <;> exact rfl)); (case hcs => ((conv => {lhs; whnf}) <;> exact rfl)); (case hx => ((conv => {lhs; whnf}) <;> exact rfl)); (case hb => exact rfl); (case hl => ((conv => {lhs; whnf}) <;> exact rfl)))
      | ((with_reducible apply z_fin); (case he => exact rfl); (case hr => ((conv => {lhs; whnf}) <;> exact rfl)))
      | with_reducible refine s_lss_t (by omega) ?_
      | with_reducible refine s_lss_f (by omega) ?_
      | with_reducible refine s_gtr_f (by omega) ?_
      | with_reducible refine s_eql_t (by omega) ?_
      | with_reducible refine s_eql_f (by omega) ?_
      | with_reducible refine s_neq_f (by omega) ?_
      | with_reducible refine s_add (by first | omega | (dsimp only; omega) | (simp only [ByteArray.size_append, ByteArray.size_extract, strOfNums_size, List.length_cons, List.length_nil, List.length_map, List.length_append, List.length_take, List.length_drop]; omega)) ?_
      | ((with_reducible refine is_e2 ?_); refine ⟨_, rfl, ?_⟩)
      | refine And.intro (by omega) ?_
      | fail)
    all_goals first
      | exact absurd ⟨⟨rfl, rfl⟩, rfl⟩ (ch_f ‹_›)
      | exact absurd ⟨rfl, rfl, rfl, rfl, rfl⟩ (mt_f ‹_›)
      | exact wkn_ok (by kernel_rfl)
  · refine z_pure (e0 := ?e0x3) mix e4 rfl ?z03 ?_
    (case z03 => exact rfl)
    dsimp only [c4]
    repeat' (first
      | ((with_reducible apply z_call); (case' hd => apply d0); (case hw => exact wknL_ok rfl); (try any_goals (first | omega | (dsimp only; omega) | (simp only [ByteArray.size_append, ByteArray.size_extract, strOfNums_size, List.length_cons, List.length_nil, List.length_map, List.length_append, List.length_take, List.length_drop]; omega))))
      | ((with_reducible apply z_call); (case' hd => apply d1); (case hw => exact wknL_ok rfl); (try any_goals (first | omega | (dsimp only; omega) | (simp only [ByteArray.size_append, ByteArray.size_extract, strOfNums_size, List.length_cons, List.length_nil, List.length_map, List.length_append, List.length_take, List.length_drop]; omega))))
      | ((with_reducible apply z_call); (case' hd => apply d2); (case hw => exact wknL_ok rfl); (try any_goals (first | omega | (dsimp only; omega) | (simp only [ByteArray.size_append, ByteArray.size_extract, strOfNums_size, List.length_cons, List.length_nil, List.length_map, List.length_append, List.length_take, List.length_drop]; omega))))
      | ((with_reducible apply z_call); (case' hd => apply d3); (case hw => exact wknL_ok rfl); (try any_goals (first | omega | (dsimp only; omega) | (simp only [ByteArray.size_append, ByteArray.size_extract, strOfNums_size, List.length_cons, List.length_nil, List.length_map, List.length_append, List.length_take, List.length_drop]; omega))))
      | ((with_reducible apply z_call); (case' hd => apply d4); (case hw => exact wknL_ok rfl); (try any_goals (first | omega | (dsimp only; omega) | (simp only [ByteArray.size_append, ByteArray.size_extract, strOfNums_size, List.length_cons, List.length_nil, List.length_map, List.length_append, List.length_take, List.length_drop]; omega))))
      | ((with_reducible apply z_call); (case' hd => apply d5); (case hw => exact wknL_ok rfl); (try any_goals (first | omega | (dsimp only; omega) | (simp only [ByteArray.size_append, ByteArray.size_extract, strOfNums_size, List.length_cons, List.length_nil, List.length_map, List.length_append, List.length_take, List.length_drop]; omega))))
      | ((with_reducible apply z_call); (case' hd => apply d6); (case hw => exact wknL_ok rfl); (try any_goals (first | omega | (dsimp only; omega) | (simp only [ByteArray.size_append, ByteArray.size_extract, strOfNums_size, List.length_cons, List.length_nil, List.length_map, List.length_append, List.length_take, List.length_drop]; omega))))
      | ((with_reducible apply z_call); (case' hd => apply d7); (case hw => exact wknL_ok rfl); (try any_goals (first | omega | (dsimp only; omega) | (simp only [ByteArray.size_append, ByteArray.size_extract, strOfNums_size, List.length_cons, List.length_nil, List.length_map, List.length_append, List.length_take, List.length_drop]; omega))))
      | ((with_reducible apply z_eqsb); (case hx => ((conv => {lhs; whnf}) <;> exact rfl)); (case hy => ((conv => {lhs; whnf}) <;> exact rfl)); (case h => ((conv => {lhs; whnf}) <;> exact rfl)); (all_goals intro _))
      | ((with_reducible apply z_unrA [3, 4, 5, 7, 9, 11, 13, 14, 15, 16]); (case h1 => exact rfl); (case h2 => exact rfl); (case h3 => exact rfl); (case h4 => exact rfl))
      | with_reducible refine z_seq ?_
      | with_reducible refine z_seqn ?_
      | with_reducible refine z_seqx ?_
      | with_reducible refine z_blk ?_
      | with_reducible refine z_blkn ?_
      | with_reducible refine z_blkh ?_
      | with_reducible refine z_lopn ?_
      | with_reducible refine z_lopx ?_
      | with_reducible refine z_skip ?_
      | with_reducible refine z_exit ?_
      | with_reducible refine z_ret ?_
      | with_reducible refine z_reg ?_
      | with_reducible refine z_nil ?_
      | ((with_reducible apply z_cond_t); (case hc => exact rfl))
      | ((with_reducible apply z_cond_f); (case hc => exact rfl))
      | ((with_reducible apply z_gf); (case hg => exact rfl))
      | ((with_reducible apply z_gt); (case hg => exact rfl))
      | ((with_reducible apply z_gu); (case hg => ((conv => {lhs; whnf}) <;> exact rfl)))
      | ((with_reducible apply z_g); (case hg => exact rfl))
      | ((with_reducible apply z_mv); (case h => ((conv => {lhs; whnf}) <;> exact rfl)))
      | ((with_reducible apply z_pick_t); (case hc => exact rfl); (case h => ((conv => {lhs; whnf}) <;> exact rfl)))
      | ((with_reducible apply z_pick_f); (case hc => exact rfl); (case h => ((conv => {lhs; whnf}) <;> exact rfl)))
      | ((with_reducible apply z_fa); (case h => ((conv => {lhs; whnf}) <;> exact rfl)))
      | ((with_reducible apply z_ld); (case h => ((conv => {lhs; whnf}) <;> exact rfl)); (case hc => ((conv => {lhs; whnf}) <;> exact rfl)); (case hd => ((conv => {lhs; whnf}) <;> exact rfl)))
      | ((with_reducible apply z_lde); (case h => ((conv => {lhs; whnf}) <;> exact rfl)); (case hd => ((conv => {lhs; whnf}) <;> exact rfl)))
      | ((with_reducible apply z_lda); (case h => ((conv => {lhs; whnf}) <;> exact rfl)); (case hc => ((conv => {lhs; whnf}) <;> exact rfl)); (case hb => exact rfl); (case hr => ((conv => {lhs; whnf}) <;> exact rfl)))
      | ((with_reducible apply z_bin); (case hx => ((conv => {lhs; whnf}) <;> exact rfl)); (case hy => ((conv => {lhs; whnf}) <;> exact rfl)))
      | ((with_reducible apply z_beq); (case hx => ((conv => {lhs; whnf}) <;> exact rfl)); (case hy => ((conv => {lhs; whnf}) <;> exact rfl)); (case hr => ((conv => {lhs; whnf}) <;> exact rfl)))
      | ((with_reducible apply z_slS); (case hx => ((conv => {lhs; whnf}) <;> exact rfl)))
      | with_reducible refine z_opt_n ?_
      | ((with_reducible apply z_opt_s); (case hx => ((conv => {lhs; whnf}) <;> exact rfl)); (case h0 => (first | omega | (dsimp only; omega) | (simp only [ByteArray.size_append, ByteArray.size_extract, strOfNums_size, List.length_cons, List.length_nil, List.length_map, List.length_append, List.length_take, List.length_drop]; omega))))
      | ((with_reducible apply z_ixa); (case hi => ((conv => {lhs; whnf}) <;> exact rfl)); (case hx => ((conv => {lhs; whnf}) <;> exact rfl)); (case h1 => ((conv => {lhs; whnf}) <;> exact rfl)); (case h2 => exact rfl))
      | ((with_reducible apply z_ext0); (case hx => ((conv => {lhs; whnf}) <;> exact rfl)))
      | ((with_reducible apply z_ext1); (case hx => ((conv => {lhs; whnf}) <;> exact rfl)))
      | ((with_reducible apply z_extt); (case hx => ((conv => {lhs; whnf}) <;> exact rfl)); (case h => ((conv => {lhs; whnf}) <;> exact rfl)))
      | ((with_reducible apply z_lenS); (case hx => ((conv => {lhs; whnf}) <;> exact rfl)))
      | ((with_reducible apply z_min); (case hx => ((conv => {lhs; whnf}) <;> exact rfl)); (case hy => ((conv => {lhs; whnf}) <;> exact rfl)))
      | ((with_reducible apply z_bsl); (case h1 => ((conv => {lhs; whnf}) <;> exact rfl)); (case h2 => exact rfl))
      | ((with_reducible apply z_zero); (case hc => ((conv => {lhs; whnf}) <;> exact rfl)); (case hq => ((conv => {lhs; whnf}) <;> exact rfl)); (case hl => ((conv => {lhs; whnf}) <;> exact rfl)))
      | ((with_reducible apply z_st); (case ha => ((conv => {lhs; whnf}) <;> exact rfl)); (case hcs => ((conv => {lhs; whnf}) <;> exact rfl)); (case hx => ((conv => {lhs; whnf}) <;> exact rfl)); (case hb => exact rfl); (case hl => ((conv => {lhs; whnf}) <;> exact rfl)))
      | ((with_reducible apply z_fin); (case he => exact rfl); (case hr => ((conv => {lhs; whnf}) <;> exact rfl)))
      | with_reducible refine s_lss_t (by omega) ?_
      | with_reducible refine s_lss_f (by omega) ?_
      | with_reducible refine s_gtr_f (by omega) ?_
      | with_reducible refine s_eql_t (by omega) ?_
      | with_reducible refine s_eql_f (by omega) ?_
      | with_reducible refine s_neq_f (by omega) ?_
      | with_reducible refine s_add (by first | omega | (dsimp only; omega) | (simp only [ByteArray.size_append, ByteArray.size_extract, strOfNums_size, List.length_cons, List.length_nil, List.length_map, List.length_append, List.length_take, List.length_drop]; omega)) ?_
      | ((with_reducible refine is_e2 ?_); refine ⟨_, rfl, ?_⟩)
      | refine And.intro (by omega) ?_
      | fail)
    all_goals first
      | exact absurd ⟨⟨rfl, rfl⟩, rfl⟩ (ch_f ‹_›)
      | exact absurd ⟨rfl, rfl, rfl, rfl, rfl⟩ (mt_f ‹_›)
      | exact wkn_ok (by kernel_rfl)
  · refine z_pure (e0 := ?e0x4) mix e4 rfl ?z04 ?_
    (case z04 => exact rfl)
    dsimp only [c4]
    repeat' (first
      | ((with_reducible apply z_call); (case' hd => apply d0); (case hw => exact wknL_ok rfl); (try any_goals (first | omega | (dsimp only; omega) | (simp only [ByteArray.size_append, ByteArray.size_extract, strOfNums_size, List.length_cons, List.length_nil, List.length_map, List.length_append, List.length_take, List.length_drop]; omega))))
      | ((with_reducible apply z_call); (case' hd => apply d1); (case hw => exact wknL_ok rfl); (try any_goals (first | omega | (dsimp only; omega) | (simp only [ByteArray.size_append, ByteArray.size_extract, strOfNums_size, List.length_cons, List.length_nil, List.length_map, List.length_append, List.length_take, List.length_drop]; omega))))
      | ((with_reducible apply z_call); (case' hd => apply d2); (case hw => exact wknL_ok rfl); (try any_goals (first | omega | (dsimp only; omega) | (simp only [ByteArray.size_append, ByteArray.size_extract, strOfNums_size, List.length_cons, List.length_nil, List.length_map, List.length_append, List.length_take, List.length_drop]; omega))))
      | ((with_reducible apply z_call); (case' hd => apply d3); (case hw => exact wknL_ok rfl); (try any_goals (first | omega | (dsimp only; omega) | (simp only [ByteArray.size_append, ByteArray.size_extract, strOfNums_size, List.length_cons, List.length_nil, List.length_map, List.length_append, List.length_take, List.length_drop]; omega))))
      | ((with_reducible apply z_call); (case' hd => apply d4); (case hw => exact wknL_ok rfl); (try any_goals (first | omega | (dsimp only; omega) | (simp only [ByteArray.size_append, ByteArray.size_extract, strOfNums_size, List.length_cons, List.length_nil, List.length_map, List.length_append, List.length_take, List.length_drop]; omega))))
      | ((with_reducible apply z_call); (case' hd => apply d5); (case hw => exact wknL_ok rfl); (try any_goals (first | omega | (dsimp only; omega) | (simp only [ByteArray.size_append, ByteArray.size_extract, strOfNums_size, List.length_cons, List.length_nil, List.length_map, List.length_append, List.length_take, List.length_drop]; omega))))
      | ((with_reducible apply z_call); (case' hd => apply d6); (case hw => exact wknL_ok rfl); (try any_goals (first | omega | (dsimp only; omega) | (simp only [ByteArray.size_append, ByteArray.size_extract, strOfNums_size, List.length_cons, List.length_nil, List.length_map, List.length_append, List.length_take, List.length_drop]; omega))))
      | ((with_reducible apply z_call); (case' hd => apply d7); (case hw => exact wknL_ok rfl); (try any_goals (first | omega | (dsimp only; omega) | (simp only [ByteArray.size_append, ByteArray.size_extract, strOfNums_size, List.length_cons, List.length_nil, List.length_map, List.length_append, List.length_take, List.length_drop]; omega))))
      | ((with_reducible apply z_eqsb); (case hx => ((conv => {lhs; whnf}) <;> exact rfl)); (case hy => ((conv => {lhs; whnf}) <;> exact rfl)); (case h => ((conv => {lhs; whnf}) <;> exact rfl)); (all_goals intro _))
      | ((with_reducible apply z_unrA [3, 4, 5, 7, 9, 11, 13, 14, 15, 16]); (case h1 => exact rfl); (case h2 => exact rfl); (case h3 => exact rfl); (case h4 => exact rfl))
      | with_reducible refine z_seq ?_
      | with_reducible refine z_seqn ?_
      | with_reducible refine z_seqx ?_
      | with_reducible refine z_blk ?_
      | with_reducible refine z_blkn ?_
      | with_reducible refine z_blkh ?_
      | with_reducible refine z_lopn ?_
      | with_reducible refine z_lopx ?_
      | with_reducible refine z_skip ?_
      | with_reducible refine z_exit ?_
      | with_reducible refine z_ret ?_
      | with_reducible refine z_reg ?_
      | with_reducible refine z_nil ?_
      | ((with_reducible apply z_cond_t); (case hc => exact rfl))
      | ((with_reducible apply z_cond_f); (case hc => exact rfl))
      | ((with_reducible apply z_gf); (case hg => exact rfl))
      | ((with_reducible apply z_gt); (case hg => exact rfl))
      | ((with_reducible apply z_gu); (case hg => ((conv => {lhs; whnf}) <;> exact rfl)))
      | ((with_reducible apply z_g); (case hg => exact rfl))
      | ((with_reducible apply z_mv); (case h => ((conv => {lhs; whnf}) <;> exact rfl)))
      | ((with_reducible apply z_pick_t); (case hc => exact rfl); (case h => ((conv => {lhs; whnf}) <;> exact rfl)))
      | ((with_reducible apply z_pick_f); (case hc => exact rfl); (case h => ((conv => {lhs; whnf}) <;> exact rfl)))
      | ((with_reducible apply z_fa); (case h => ((conv => {lhs; whnf}) <;> exact rfl)))
      | ((with_reducible apply z_ld); (case h => ((conv => {lhs; whnf}) <;> exact rfl)); (case hc => ((conv => {lhs; whnf}) <;> exact rfl)); (case hd => ((conv => {lhs; whnf}) <;> exact rfl)))
      | ((with_reducible apply z_lde); (case h => ((conv => {lhs; whnf}) <;> exact rfl)); (case hd => ((conv => {lhs; whnf}) <;> exact rfl)))
      | ((with_reducible apply z_lda); (case h => ((conv => {lhs; whnf}) <;> exact rfl)); (case hc => ((conv => {lhs; whnf}) <;> exact rfl)); (case hb => exact rfl); (case hr => ((conv => {lhs; whnf}) <;> exact rfl)))
      | ((with_reducible apply z_bin); (case hx => ((conv => {lhs; whnf}) <;> exact rfl)); (case hy => ((conv => {lhs; whnf}) <;> exact rfl)))
      | ((with_reducible apply z_beq); (case hx => ((conv => {lhs; whnf}) <;> exact rfl)); (case hy => ((conv => {lhs; whnf}) <;> exact rfl)); (case hr => ((conv => {lhs; whnf}) <;> exact rfl)))
      | ((with_reducible apply z_slS); (case hx => ((conv => {lhs; whnf}) <;> exact rfl)))
      | with_reducible refine z_opt_n ?_
      | ((with_reducible apply z_opt_s); (case hx => ((conv => {lhs; whnf}) <;> exact rfl)); (case h0 => (first | omega | (dsimp only; omega) | (simp only [ByteArray.size_append, ByteArray.size_extract, strOfNums_size, List.length_cons, List.length_nil, List.length_map, List.length_append, List.length_take, List.length_drop]; omega))))
      | ((with_reducible apply z_ixa); (case hi => ((conv => {lhs; whnf}) <;> exact rfl)); (case hx => ((conv => {lhs; whnf}) <;> exact rfl)); (case h1 => ((conv => {lhs; whnf}) <;> exact rfl)); (case h2 => exact rfl))
      | ((with_reducible apply z_ext0); (case hx => ((conv => {lhs; whnf}) <;> exact rfl)))
      | ((with_reducible apply z_ext1); (case hx => ((conv => {lhs; whnf}) <;> exact rfl)))
      | ((with_reducible apply z_extt); (case hx => ((conv => {lhs; whnf}) <;> exact rfl)); (case h => ((conv => {lhs; whnf}) <;> exact rfl)))
      | ((with_reducible apply z_lenS); (case hx => ((conv => {lhs; whnf}) <;> exact rfl)))
      | ((with_reducible apply z_min); (case hx => ((conv => {lhs; whnf}) <;> exact rfl)); (case hy => ((conv => {lhs; whnf}) <;> exact rfl)))
      | ((with_reducible apply z_bsl); (case h1 => ((conv => {lhs; whnf}) <;> exact rfl)); (case h2 => exact rfl))
      | ((with_reducible apply z_zero); (case hc => ((conv => {lhs; whnf}) <;> exact rfl)); (case hq => ((conv => {lhs; whnf}) <;> exact rfl)); (case hl => ((conv => {lhs; whnf}) <;> exact rfl)))
      | ((with_reducible apply z_st); (case ha => ((conv => {lhs; whnf}) <;> exact rfl)); (case hcs => ((conv => {lhs; whnf}) <;> exact rfl)); (case hx => ((conv => {lhs; whnf}) <;> exact rfl)); (case hb => exact rfl); (case hl => ((conv => {lhs; whnf}) <;> exact rfl)))
      | ((with_reducible apply z_fin); (case he => exact rfl); (case hr => ((conv => {lhs; whnf}) <;> exact rfl)))
      | with_reducible refine s_lss_t (by omega) ?_
      | with_reducible refine s_lss_f (by omega) ?_
      | with_reducible refine s_gtr_f (by omega) ?_
      | with_reducible refine s_eql_t (by omega) ?_
      | with_reducible refine s_eql_f (by omega) ?_
      | with_reducible refine s_neq_f (by omega) ?_
      | with_reducible refine s_add (by first | omega | (dsimp only; omega) | (simp only [ByteArray.size_append, ByteArray.size_extract, strOfNums_size, List.length_cons, List.length_nil, List.length_map, List.length_append, List.length_take, List.length_drop]; omega)) ?_
      | ((with_reducible refine is_e2 ?_); refine ⟨_, rfl, ?_⟩)
      | refine And.intro (by omega) ?_
      | fail)
    all_goals first
      | exact absurd ⟨⟨rfl, rfl⟩, rfl⟩ (ch_f ‹_›)
      | exact absurd ⟨rfl, rfl, rfl, rfl, rfl⟩ (mt_f ‹_›)
      | exact wkn_ok (by kernel_rfl)
  · refine z_pure (e0 := ?e0x5) mix e4 rfl ?z05 ?_
    (case z05 => exact rfl)
    dsimp only [c4]
    repeat' (first
      | ((with_reducible apply z_call); (case' hd => apply d0); (case hw => exact wknL_ok rfl); (try any_goals (first | omega | (dsimp only; omega) | (simp only [ByteArray.size_append, ByteArray.size_extract, strOfNums_size, List.length_cons, List.length_nil, List.length_map, List.length_append, List.length_take, List.length_drop]; omega))))
      | ((with_reducible apply z_call); (case' hd => apply d1); (case hw => exact wknL_ok rfl); (try any_goals (first | omega | (dsimp only; omega) | (simp only [ByteArray.size_append, ByteArray.size_extract, strOfNums_size, List.length_cons, List.length_nil, List.length_map, List.length_append, List.length_take, List.length_drop]; omega))))
      | ((with_reducible apply z_call); (case' hd => apply d2); (case hw => exact wknL_ok rfl); (try any_goals (first | omega | (dsimp only; omega) | (simp only [ByteArray.size_append, ByteArray.size_extract, strOfNums_size, List.length_cons, List.length_nil, List.length_map, List.length_append, List.length_take, List.length_drop]; omega))))
      | ((with_reducible apply z_call); (case' hd => apply d3); (case hw => exact wknL_ok rfl); (try any_goals (first | omega | (dsimp only; omega) | (simp only [ByteArray.size_append, ByteArray.size_extract, strOfNums_size, List.length_cons, List.length_nil, List.length_map, List.length_append, List.length_take, List.length_drop]; omega))))
      | ((with_reducible apply z_call); (case' hd => apply d4); (case hw => exact wknL_ok rfl); (try any_goals (first | omega | (dsimp only; omega) | (simp only [ByteArray.size_append, ByteArray.size_extract, strOfNums_size, List.length_cons, List.length_nil, List.length_map, List.length_append, List.length_take, List.length_drop]; omega))))
      | ((with_reducible apply z_call); (case' hd => apply d5); (case hw => exact wknL_ok rfl); (try any_goals (first | omega | (dsimp only; omega) | (simp only [ByteArray.size_append, ByteArray.size_extract, strOfNums_size, List.length_cons, List.length_nil, List.length_map, List.length_append, List.length_take, List.length_drop]; omega))))
      | ((with_reducible apply z_call); (case' hd => apply d6); (case hw => exact wknL_ok rfl); (try any_goals (first | omega | (dsimp only; omega) | (simp only [ByteArray.size_append, ByteArray.size_extract, strOfNums_size, List.length_cons, List.length_nil, List.length_map, List.length_append, List.length_take, List.length_drop]; omega))))
      | ((with_reducible apply z_call); (case' hd => apply d7); (case hw => exact wknL_ok rfl); (try any_goals (first | omega | (dsimp only; omega) | (simp only [ByteArray.size_append, ByteArray.size_extract, strOfNums_size, List.length_cons, List.length_nil, List.length_map, List.length_append, List.length_take, List.length_drop]; omega))))
      | ((with_reducible apply z_eqsb); (case hx => ((conv => {lhs; whnf}) <;> exact rfl)); (case hy => ((conv => {lhs; whnf}) <;> exact rfl)); (case h => ((conv => {lhs; whnf}) <;> exact rfl)); (all_goals intro _))
      | ((with_reducible apply z_unrA [3, 4, 5, 7, 9, 11, 13, 14, 15, 16]); (case h1 => exact rfl); (case h2 => exact rfl); (case h3 => exact rfl); (case h4 => exact rfl))
      | with_reducible refine z_seq ?_
      | with_reducible refine z_seqn ?_
      | with_reducible refine z_seqx ?_
      | with_reducible refine z_blk ?_
      | with_reducible refine z_blkn ?_
      | with_reducible refine z_blkh ?_
      | with_reducible refine z_lopn ?_
      | with_reducible refine z_lopx ?_
      | with_reducible refine z_skip ?_
      | with_reducible refine z_exit ?_
      | with_reducible refine z_ret ?_
      | with_reducible refine z_reg ?_
      | with_reducible refine z_nil ?_
      | ((with_reducible apply z_cond_t); (case hc => exact rfl))
      | ((with_reducible apply z_cond_f); (case hc => exact rfl))
      | ((with_reducible apply z_gf); (case hg => exact rfl))
      | ((with_reducible apply z_gu); (case hg => ((conv => {lhs; whnf}) <;> exact rfl)))
      | ((with_reducible apply z_g); (case hg => exact rfl))
      | ((with_reducible apply z_mv); (case h => ((conv => {lhs; whnf}) <;> exact rfl)))
      | ((with_reducible apply z_pick_t); (case hc => exact rfl); (case h => ((conv => {lhs; whnf}) <;> exact rfl)))
      | ((with_reducible apply z_pick_f); (case hc => exact rfl); (case h => ((conv => {lhs; whnf}) <;> exact rfl)))
      | ((with_reducible apply z_fa); (case h => ((conv => {lhs; whnf}) <;> exact rfl)))
      | ((with_reducible apply z_ld); (case h => ((conv => {lhs; whnf}) <;> exact rfl)); (case hc => ((conv => {lhs; whnf}) <;> exact rfl)); (case hd => ((conv => {lhs; whnf}) <;> exact rfl)))
      | ((with_reducible apply z_lde); (case h => ((conv => {lhs; whnf}) <;> exact rfl)); (case hd => ((conv => {lhs; whnf}) <;> exact rfl)))
      | ((with_reducible apply z_lda); (case h => ((conv => {lhs; whnf}) <;> exact rfl)); (case hc => ((conv => {lhs; whnf}) <;> exact rfl)); (case hb => exact rfl); (case hr => ((conv => {lhs; whnf}) <;> exact rfl)))
      | ((with_reducible apply z_bin); (case hx => ((conv => {lhs; whnf}) <;> exact rfl)); (case hy => ((conv => {lhs; whnf}) <;> exact rfl)))
      | ((with_reducible apply z_beq); (case hx => ((conv => {lhs; whnf}) <;> exact rfl)); (case hy => ((conv => {lhs; whnf}) <;> exact rfl)); (case hr => ((conv => {lhs; whnf}) <;> exact rfl)))
      | ((with_reducible apply z_slS); (case hx => ((conv => {lhs; whnf}) <;> exact rfl)))
      | with_reducible refine z_opt_n ?_
      | ((with_reducible apply z_opt_s); (case hx => ((conv => {lhs; whnf}) <;> exact rfl)); (case h0 => (first | omega | (dsimp only; omega) | (simp only [ByteArray.size_append, ByteArray.size_extract, strOfNums_size, List.length_cons, List.length_nil, List.length_map, List.length_append, List.length_take, List.length_drop]; omega))))
      | ((with_reducible apply z_ixa); (case hi => ((conv => {lhs; whnf}) <;> exact rfl)); (case hx => ((conv => {lhs; whnf}) <;> exact rfl)); (case h1 => ((conv => {lhs; whnf}) <;> exact rfl)); (case h2 => exact rfl))
      | ((with_reducible apply z_ext0); (case hx => ((conv => {lhs; whnf}) <;> exact rfl)))
      | ((with_reducible apply z_ext1); (case hx => ((conv => {lhs; whnf}) <;> exact rfl)))
      | ((with_reducible apply z_extt); (case hx => ((conv => {lhs; whnf}) <;> exact rfl)); (case h => ((conv => {lhs; whnf}) <;> exact rfl)))
      | ((with_reducible apply z_lenS); (case hx => ((conv => {lhs; whnf}) <;> exact rfl)))
      | ((with_reducible apply z_min); (case hx => ((conv => {lhs; whnf}) <;> exact rfl)); (case hy => ((conv => {lhs; whnf}) <;> exact rfl)))
      | ((with_reducible apply z_bsl); (case h1 => ((conv => {lhs; whnf}) <;> exact rfl)); (case h2 => exact rfl))
      | ((with_reducible apply z_zero); (case hc => ((conv => {lhs; whnf}) <;> exact rfl)); (case hq => ((conv => {lhs; whnf}) <;> exact rfl)); (case hl => ((conv => {lhs; whnf}) <;> exact rfl)))
      | ((with_reducible apply z_st); (case ha => ((conv => {lhs; whnf}) <;> exact rfl)); (case hcs => ((conv => {lhs; whnf}) <;> exact rfl)); (case hx => ((conv => {lhs; whnf}) <;> exact rfl)); (case hb => exact rfl); (case hl => ((conv => {lhs; whnf}) <;> exact rfl)))
      | ((with_reducible apply z_fin); (case he => exact rfl); (case hr => ((conv => {lhs; whnf}) <;> exact rfl)))
      | with_reducible refine s_lss_t (by omega) ?_
      | with_reducible refine s_lss_f (by omega) ?_
      | with_reducible refine s_gtr_f (by omega) ?_
      | with_reducible refine s_eql_t (by omega) ?_
      | with_reducible refine s_eql_f (by omega) ?_
      | with_reducible refine s_neq_f (by omega) ?_
      | with_reducible refine s_add (by first | omega | (dsimp only; omega) | (simp only [ByteArray.size_append, ByteArray.size_extract, strOfNums_size, List.length_cons, List.length_nil, List.length_map, List.length_append, List.length_take, List.length_drop]; omega)) ?_
      | ((with_reducible refine is_e2 ?_); refine ⟨_, rfl, ?_⟩)
      | refine And.intro (by omega) ?_
      | fail)
    all_goals first
      | exact absurd ⟨⟨rfl, rfl⟩, rfl⟩ (ch_f ‹_›)
      | exact absurd ⟨rfl, rfl, rfl, rfl, rfl⟩ (mt_f ‹_›)
      | exact wkn_ok (by kernel_rfl)
end Go.Proofs.YtlbodfkhenkcjaaGreatDoor.X


namespace Go.Proofs.YtlbodfkhenkcjaaGreatDoor.X
open Go Go.Proofs Go.RowKit Go.Proofs.YtlbodfkhenkcjaaGreatDoor.D
set_option maxRecDepth 100000
set_option linter.unusedVariables false
set_option linter.unusedSimpArgs false

theorem law_W {f : FuncId} {ds : List DV} {r : Value} (h : DPure Tp GI f ds (.v r)) (S : Nat → Nat → Prop) (W : World) (vals : List Value) (hg : GlobE W) (hr : RepL S W noLink ds vals) :
    Calls Tp f vals.toArray W fun e W' => e = .returned r ∧ Below W.heap.size W W' := by
  refine (h.2 S W vals hg hr).mono ?_
  rintro e W' ⟨y, rfl, hy, hb⟩
  cases hy
  exact ⟨rfl, hb⟩
theorem rep_s (S : Nat → Nat → Prop) (W : World) (s : ByteArray) : Rep S W noLink (SV s) (.string s) := .v _ _
end Go.Proofs.YtlbodfkhenkcjaaGreatDoor.X


namespace Go.Proofs.YtlbodfkhenkcjaaGreatDoor.X
open Go Go.Proofs Go.RowKit Go.Proofs.YtlbodfkhenkcjaaGreatDoor.D
set_option maxRecDepth 100000
set_option maxHeartbeats 8000000
set_option linter.unusedVariables false
set_option linter.unusedSimpArgs false
attribute [local irreducible] D.DPure D.DEff D.callable decM decE lfM lfE inM inE chM chE mtM mtE
theorem pgB_dec (s : ByteArray) (hs : s.size ≤ 1200) : pgB (decM s) := by
  have z : pgB page0 := ⟨by decide, by decide, by decide⟩
  rcases dec_cases s with ⟨_, _, _, _, e⟩ | ⟨_, hl, _, _, e⟩ | ⟨_, _, hn, _, e⟩ | ⟨_, _, _, _, e⟩ | ⟨_, _, _, _, e⟩
  all_goals rw [e]
  · exact ⟨z.l, z.k, z.q⟩
  · refine ⟨?_, z.k, z.q⟩
    have := lf_len hs hl
    show (lfM s).items.length ≤ _
    omega
  · have := in_len hs hn
    exact ⟨z.l, by show (inM s).kids.length ≤ _; omega, by show (inM s).seps.length ≤ _; omega⟩
  · exact ⟨z.l, z.k, z.q⟩
  · exact z
theorem one_D (s : ByteArray) : DPure Tp GI 4 [SV s] (BV true) := by
  have hs : (cutE s).size ≤ 1200 := by have := cutE_size s; omega
  have d0 := decode_D (cutE s) hs
  have d1 := leaf_D (cutE s) hs
  have d2 := inner_D (cutE s) hs
  have d3 := chain_D (I := GI) (cutE s) (by omega)
  have d4 := meta_D (I := GI) (cutE s) (by omega)
  have hb := pgB_dec (cutE s) hs
  have hc := dec_cases (cutE s)
  have hl : lfE (cutE s) = if lfP (cutE s) then 0 else 3 := lf_E _
  have hn : inE (cutE s) = if inP (cutE s) then 0 else 3 := in_E _
  have hh : chE (cutE s) = if chP (cutE s) then 0 else 3 := ch_E _
  have hm : mtE (cutE s) = if mtP (cutE s) then 0 else 3 := mt_E _
  have hx : (decM (cutE s)).l = lfM (cutE s) ∧ (decM (cutE s)).n = inM (cutE s) ∧ (decM (cutE s)).c = chM (cutE s) ∧ (decM (cutE s)).m = mtM (cutE s) := by
    rcases hc with ⟨a, b, c, d, e⟩ | ⟨a, b, c, d, e⟩ | ⟨a, b, c, d, e⟩ | ⟨a, b, c, d, e⟩ | ⟨a, b, c, d, e⟩
    all_goals rw [e]
    · exact ⟨(lf_zero b).symm, (in_zero c).symm, (ch_zero d).symm, rfl⟩
    · exact ⟨rfl, (in_zero c).symm, (ch_zero d).symm, (mt_zero a).symm⟩
    · exact ⟨(lf_zero b).symm, rfl, (ch_zero d).symm, (mt_zero a).symm⟩
    · exact ⟨(lf_zero b).symm, (in_zero c).symm, rfl, (mt_zero a).symm⟩
    · exact ⟨(lf_zero b).symm, (in_zero c).symm, (ch_zero d).symm, (mt_zero a).symm⟩
  have hk : (mtP (cutE s) → (decM (cutE s)).kind = 1) ∧ (lfP (cutE s) → (decM (cutE s)).kind = 2) := by
    rcases hc with ⟨a, b, c, d, e⟩ | ⟨a, b, c, d, e⟩ | ⟨a, b, c, d, e⟩ | ⟨a, b, c, d, e⟩ | ⟨a, b, c, d, e⟩
    all_goals rw [e]
    all_goals exact ⟨fun h => by first | rfl | exact absurd h a, fun h => by first | rfl | exact absurd h b⟩
  have hcc : ((decM (cutE s)).kind = 1 ∧ decE (cutE s) = 0 ∧ mtE (cutE s) = 0 ∧ lfE (cutE s) = 3 ∧ inE (cutE s) = 3 ∧ chE (cutE s) = 3) ∨ ((decM (cutE s)).kind = 2 ∧ decE (cutE s) = 0 ∧ mtE (cutE s) = 3 ∧ lfE (cutE s) = 0 ∧ inE (cutE s) = 3 ∧ chE (cutE s) = 3) ∨
      ((decM (cutE s)).kind = 3 ∧ decE (cutE s) = 0 ∧ mtE (cutE s) = 3 ∧ lfE (cutE s) = 3 ∧ inE (cutE s) = 0 ∧ chE (cutE s) = 3) ∨ ((decM (cutE s)).kind = 4 ∧ decE (cutE s) = 0 ∧ mtE (cutE s) = 3 ∧ lfE (cutE s) = 3 ∧ inE (cutE s) = 3 ∧ chE (cutE s) = 0) ∨
      ((decM (cutE s)).kind = 0 ∧ decE (cutE s) = 3 ∧ mtE (cutE s) = 3 ∧ lfE (cutE s) = 3 ∧ inE (cutE s) = 3 ∧ chE (cutE s) = 3) := by
    rw [hl, hn, hh, hm]
    have hd : ∀ n : Int, (decM (cutE s)).kind = n → decE (cutE s) = if n = 0 then 3 else 0 := fun n h => by rw [dec_E, h]
    rcases hc with ⟨a, b, c, d, e⟩ | ⟨a, b, c, d, e⟩ | ⟨a, b, c, d, e⟩ | ⟨a, b, c, d, e⟩ | ⟨a, b, c, d, e⟩
    · have k : (decM (cutE s)).kind = 1 := by rw [e]
      exact .inl ⟨k, hd 1 k, if_pos a, if_neg b, if_neg c, if_neg d⟩
    · have k : (decM (cutE s)).kind = 2 := by rw [e]
      exact .inr (.inl ⟨k, hd 2 k, if_neg a, if_pos b, if_neg c, if_neg d⟩)
    · have k : (decM (cutE s)).kind = 3 := by rw [e]
      exact .inr (.inr (.inl ⟨k, hd 3 k, if_neg a, if_neg b, if_pos c, if_neg d⟩))
    · have k : (decM (cutE s)).kind = 4 := by rw [e]
      exact .inr (.inr (.inr (.inl ⟨k, hd 4 k, if_neg a, if_neg b, if_neg c, if_pos d⟩)))
    · have k : (decM (cutE s)).kind = 0 := by rw [e]; rfl
      exact .inr (.inr (.inr (.inr ⟨k, hd 0 k, if_neg a, if_neg b, if_neg c, if_neg d⟩)))
  obtain ⟨x1, x2, x3, x4⟩ := hx
  rw [← x1] at d1
  rw [← x2] at d2
  rw [← x3] at d3
  rw [← x4] at d4
  exact one_D0 s _ _ _ _ _ _ _ _ _ _ _ _ _ _ _ _ _ _ _ _ _ _ _ _ hb.l hb.k hb.q hcc d0 d1 d2 d3 d4 fixed14_D
theorem one_W (s : ByteArray) (W : World) (w : s.size ≤ 140737488351232) (hg : GlobE W) : Calls Tp 4 #[.string s] W fun e W' => e = .returned (.bool true) ∧ Below W.heap.size W W' :=
  law_W (one_D s) (fun _ _ => False) W [.string s] hg (.cons (rep_s _ _ _) .nil)
end Go.Proofs.YtlbodfkhenkcjaaGreatDoor.X


namespace Go.Proofs.YtlbodfkhenkcjaaGreatDoor.pageOne
open Go.ChangeShapes Go.WideShapes Go.ChangeAt Go.RowKit
open Go.ChangeMaps (open_string shut_string)
theorem own : ownKnob Tryz.prog.godebug = none := by kernel_rfl
theorem et : Tryz.prog.globalNamed "errors.errorType" = some 0 := by kernel_rfl
theorem rt : (Tryz.prog.cutTypes.find? (·.1 == "internal/reflectlite.rtype")).map (·.2) = some 253 := by kernel_rfl
theorem oneRow : ((List.range 341).filter fun t => Tryz.prog.rowNamed t [101, 114, 114, 111, 114]) = [122] := by kernel_rfl
theorem tsize : Tryz.prog.types.size = 341 := by kernel_rfl
theorem handle_of_laid {W : World} (h : laidMetH Tryz.prog Rows.pageOneRow.laid W) : X.GlobE W := by
  have h' : laidMet Tryz.prog [("unicode/utf8.acceptRanges", Rows.laid_unicode_utf8_acceptRanges), ("unicode/utf8.first", Rows.laid_unicode_utf8_first)] W ∧ handlesMet Tryz.prog [("errors.errorType", Rows.laid_errors_errorType)] W := h
  obtain ⟨name, u, ty, e1, e2, e3, e4, e5⟩ := h'.2 _ (List.mem_singleton.2 rfl)
  have en : name = [101, 114, 114, 111, 114] := (Option.some.inj e1).symm
  subst en
  obtain rfl := Option.some.inj (rt.symm.trans e2)
  have hm : ty ∈ (List.range 341).filter fun t => Tryz.prog.rowNamed t [101, 114, 114, 111, 114] := List.mem_filter.2 ⟨List.mem_range.2 (by rw [← tsize]; exact e3), e4⟩
  rw [oneRow] at hm
  obtain rfl := List.mem_singleton.1 hm
  have hh : typeHandle Tryz.prog 122 = .pointer (some ⟨4, 122, none⟩) := by kernel_rfl
  rw [hh] at e5
  have := World.var?_cell et e5 0
  unfold X.GlobE
  simpa using this
def litC : Nat → DataW Unit → List Value
  | 0, _ => []
  | n + 1, .agg ds => ds.flatMap (litC n)
  | _ + 1, .lit (.int k v) => [.int k v]
  | _ + 1, _ => []
noncomputable def laidWorld (os : Os) : World :=
  let w0 := World.holding Tryz.prog os ⟨#[], #[], []⟩
  { w0 with heap := (((w0.heap.modify 0 fun
      | .cells _ t frozen => .cells #[.iface 253 (.agg #[.pointer (some ⟨4, 122, none⟩)])] t frozen
      | o => o).modify 2 fun
      | .cells _ t frozen => .cells (litC 8 Rows.laid_unicode_utf8_acceptRanges).toArray t frozen
      | o => o).modify 1 fun
      | .cells _ t frozen => .cells (litC 8 Rows.laid_unicode_utf8_first).toArray t frozen
      | o => o) }
theorem laidWorld_met (os : Os) (args : Array Value) : laidMetH Tryz.prog Rows.pageOneRow.laid ((laidWorld os).forCall (fun _ _ => 0) ⟨#[], args, []⟩).memory :=
  laidMetH_of_parts (laidMet_of_run' 8 (by kernel_rfl) (by kernel_rfl)) (by kernel_rfl)
set_option maxRecDepth 100000 in
theorem lifted (os : Os) (started : os.Started) (H : Type) (enc : TypeId × Value → H) :
    ReturnsInHanded {} Tryz.checked os 4 .any (fun w args => (Rows.pageOneSpec.pre enc Tryz.prog Tryz.f4 [] false w args ∧ laidMetH Tryz.prog Rows.pageOneRow.laid w) ∧ sizedMet enc Tryz.prog Tryz.f4 (OpenSpec.ofChange Rows.pageOneSpec) false w args)
      (Rows.pageOneSpec.post enc Tryz.prog Tryz.f4 false true false false) := by
  refine returnsInHanded_of_change_and (C := Tryz.checked) (X := fun w _ => laidMetH Tryz.prog Rows.pageOneRow.laid w) (fun _ _ _ hh h => h.of_heap hh) own started (by kernel_rfl) Tryz.func4
    (ChangeSpec.witness_at (enc := enc) (C := Tryz.checked) (os := os) (X := fun w _ => laidMetH Tryz.prog Rows.pageOneRow.laid w) false (laidWorld os) #[.string ByteArray.empty] 8 rfl (by kernel_rfl) (by kernel_rfl) (by kernel_rfl) (by kernel_rfl) (by kernel_rfl) (laidWorld_met os _)) ?_
  intro W base args ds gs before hval0 hW hcnd hsz0 hL _
  have hsz : (DataW.weightsEach Tryz.prog (Tryz.f4.params.toList ++ Rows.pageOneSpec.plain.varTypes Tryz.prog) (ds ++ gs)).all (· ≤ reachBytes) = true := hsz0
  have hval : ∀ (j : Nat) t v, Tryz.f4.params[j]? = some t → args[j]? = some v → Value.okWide Tryz.prog W .any base t v := hval0
  have hW' := hW
  obtain ⟨p, q, hA0, hV, rfl, hfz, hnd⟩ := hW
  have hA : DataW.TrodAll enc Tryz.prog W 0 (fun _ => true) true Tryz.f4.params.toList args.toList ds p := hA0
  rw [Tryz.params4] at hA hval hsz
  obtain ⟨v0, vs0, d0, ds0, p0, q0, hargs, rfl, rfl, h0, r0⟩ := trodAll_cons hA
  obtain ⟨rfl, rfl, rfl⟩ := trodAll_nil r0
  obtain rfl : args = #[v0] := by cases args; simp_all
  obtain ⟨rfl, rfl⟩ := trodVars_none hV
  obtain ⟨a0, rfl, rfl, rfl, y0⟩ := open_string Tryz.underlying9 (hval 0 9 v0 rfl rfl) h0
  have w0 : a0.size ≤ 140737488351232 := by
    have z := sized_string hsz (j := 0) (t := 9) rfl rfl
    rw [Array.length_toList] at z
    exact z
  have hg := handle_of_laid hL
  clear hA0 hval0 hsz0 hsz
  refine (X.one_W a0 W w0 hg).mono fun e W' ⟨he, bel⟩ => ?_
  subst he
  exact ⟨_, rfl, _, _, _, [], _, [], hW', trodAll_mk1 (shut_bool Tryz.underlying4 _), (trodAll_cons_mk (shut_string Tryz.underlying9 y0) trodAll_mk0), rfl, bel.frame _, fun h => by cases h⟩
theorem over : Rows.pageOneRow.holds Tryz.pinned (OpenSpec.ofChange Rows.pageOneSpec) :=
  OpenClaim.holds_of_wide 4 Tryz.f4 rfl rfl rfl rfl rfl rfl rfl ⟨rfl, rfl, rfl, rfl, rfl⟩ rfl rfl rfl rfl rfl (by kernel_rfl) Tryz.func4 (by kernel_rfl)
    (of_decide_eq_true (by kernel_rfl)) (by unfold Func.isWrapper; first | (rw [if_pos (by decide +kernel)]; kernel_rfl) | (rw [if_neg (by decide +kernel)]; exact ⟨rfl, rfl⟩))
    (fun os started H enc _ => lifted os started H enc)
end Go.Proofs.YtlbodfkhenkcjaaGreatDoor.pageOne
namespace Go.Proofs.YtlbodfkhenkcjaaGreatDoor
open Go
theorem pageOneCard_holds : Rows.PageOneCardSaid :=
  Claim7.holds_tied_plain_at .later [] [.data, .handle, .pinned] true (true, "ce218e375ce016f3e8b9401af195a2730b05f3588bee50008ea23a807539033b") true
    pageOne.over (fun _ h => by cases h) (by kernel_rfl) (fun _ h => by cases h) pageOne_row_tie rfl ⟨rfl, rfl⟩ (by kernel_rfl) rfl
    (fun f fn hf hfn => by
      obtain rfl : f = 4 := Option.some.inj ((show Tryz.prog.funcNamed "withy/withylaw14.PageOne" = some 4 by kernel_rfl).symm.trans hf) |>.symm
      obtain rfl : fn = Tryz.f4 := (Option.some.inj (Tryz.func4.symm.trans hfn)).symm
      exact ⟨by kernel_rfl, fun j t ht => by
        rw [Tryz.params4] at ht
        have hm : t ∈ [9] := by
          have := List.mem_of_getElem? (by simpa using ht : [9][j]? = some t)
          simpa using this
        revert hm
        exact (show ∀ t ∈ [9], Tryz.prog.wantsStandIn t = false by decide +kernel) t⟩)
    (by kernel_rfl)
#print axioms pageOneCard_holds
end Go.Proofs.YtlbodfkhenkcjaaGreatDoor

