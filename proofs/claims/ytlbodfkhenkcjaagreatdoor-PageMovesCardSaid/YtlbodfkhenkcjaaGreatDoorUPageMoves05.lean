/- What functions of the given program compute, step by step: the walks that the law PageMoves leans on, part 5. No conditions. -/
import Derived.Test.YtlbodfkhenkcjaaGreatDoorUPageMoves04
import Derived.Test.YtlbodfkhenkcjaaGreatDoorUPageMoves03
namespace Go.Proofs.YtlbodfkhenkcjaaGreatDoor.X
open Go Go.Proofs Go.RowKit Go.Proofs.YtlbodfkhenkcjaaGreatDoor.D
set_option maxRecDepth 100000
set_option maxHeartbeats 1000000
set_option linter.unusedVariables false
set_option linter.unusedSimpArgs false
variable {I : D.Inv}
attribute [local irreducible] D.DPure D.DEff D.callable getE getN getT gvS gvW gvE

def c87 : DFun := ⟨41, [.t 4, .t 5, .t 6], .seq (.reg [⟨some 4, .mv (.c (.string ⟨#[]⟩)), none⟩, ⟨some 5, .mv (.c (.int .i64 0)), none⟩, ⟨some 6, .mv (.c .nilIface), none⟩]) (.seq (.reg [⟨some 11, .mv (.t 0), none⟩, ⟨some 12, .mv (.t 1), none⟩, ⟨some 13, .call 96 [.t 11, .t 12], none⟩, ⟨some 10, .mv (.t 13), none⟩, ⟨some 14, .ext (.t 10) 0, none⟩, ⟨some 15, .ext (.t 10) 1, none⟩, ⟨some 16, .ext (.t 10) 2, none⟩, ⟨some 7, .mv (.t 14), none⟩, ⟨some 8, .mv (.t 15), none⟩, ⟨some 9, .mv (.t 16), none⟩]) (.seq (.seq (.reg [⟨some 17, .mv (.t 9), none⟩, ⟨some 18, .bin .neq (.t 17) (.c (.int .i64 0)), none⟩, ⟨some 19, .mv (.t 18), none⟩, ⟨some 20, .mv (.t 7), some (19, false)⟩, ⟨some 21, .mv (.t 0), some (19, false)⟩, ⟨some 22, .len true (.t 21), some (19, false)⟩, ⟨some 23, .mv (.t 8), some (19, false)⟩, ⟨some 24, .bin .sub (.t 22) (.t 23), some (19, false)⟩, ⟨some 25, .cvt .u64 (.t 24), some (19, false)⟩, ⟨some 26, .bin .gtr (.t 20) (.t 25), some (19, false)⟩, ⟨some 27, .pick (.t 19) (.c (.bool true)) (.t 26), none⟩]) (.cond (.t 27) (.seq (.reg [⟨some 28, .bld [.string ⟨#[]⟩] [(0, 1, .c (.string ⟨#[116, 101, 120, 116]⟩))], none⟩, ⟨some 29, .mki 126 (.t 28), none⟩, ⟨some 4, .mv (.c (.string ⟨#[]⟩)), none⟩, ⟨some 5, .mv (.c (.int .i64 0)), none⟩, ⟨some 6, .mv (.t 29), none⟩]) .ret) .skip)) (.seq (.reg [⟨some 30, .mv (.t 0), none⟩, ⟨some 31, .mv (.t 8), none⟩, ⟨some 32, .mv (.t 8), none⟩, ⟨some 33, .mv (.t 7), none⟩, ⟨some 34, .cvt .i64 (.t 33), none⟩, ⟨some 35, .bin .add (.t 32) (.t 34), none⟩, ⟨some 36, .slS (.t 30) (some (.t 31)) (some (.t 35)), none⟩, ⟨some 37, .mv (.t 8), none⟩, ⟨some 38, .mv (.t 7), none⟩, ⟨some 39, .cvt .i64 (.t 38), none⟩, ⟨some 40, .bin .add (.t 37) (.t 39), none⟩, ⟨some 4, .mv (.t 36), none⟩, ⟨some 5, .mv (.t 40), none⟩, ⟨some 6, .mv (.c .nilIface), none⟩]) .ret)))⟩
theorem e87 : cfun Tryz.prog 87 = some c87 := by kernel_rfl
def c90 : DFun := ⟨23, [.c 4 5 true], .seq (.reg [⟨some 4, .zero (.agg #[.string ⟨#[]⟩, .bool false, .string ⟨#[]⟩, .int .i64 0, .int .i64 0]), none⟩]) (.seq (.reg [⟨some 9, .mv (.t 0), none⟩, ⟨some 10, .call 91 [.t 9], none⟩, ⟨some 8, .mv (.t 10), none⟩, ⟨some 11, .ext (.t 8) 0, none⟩, ⟨some 12, .ext (.t 8) 1, none⟩, ⟨some 13, .ext (.t 8) 2, none⟩, ⟨some 6, .zero (.agg #[.bool false, .string ⟨#[]⟩, .int .i64 0, .int .i64 0]), none⟩, ⟨some 5, .mv (.t 11), none⟩, ⟨none, .st 4 (.t 6) (.t 12), none⟩, ⟨some 7, .mv (.t 13), none⟩]) (.seq (.seq (.reg [⟨some 14, .mv (.t 7), none⟩, ⟨some 15, .bin .neq (.t 14) (.c (.int .i64 0)), none⟩]) (.cond (.t 15) (.reg [⟨some 16, .bld [.string ⟨#[]⟩] [(0, 1, .c (.string ⟨#[99, 101, 108, 108]⟩))], none⟩, ⟨some 17, .mki 126 (.t 16), none⟩, ⟨none, .st 1 (.t 1) (.t 17), none⟩]) .skip)) (.seq (.reg [⟨some 18, .ld 1 false (.t 2), none⟩, ⟨some 19, .mv (.t 5), none⟩, ⟨some 20, .bin .add (.t 18) (.t 19), none⟩, ⟨some 21, .ld 4 true (.t 6), none⟩, ⟨some 22, .bld [.string ⟨#[]⟩, .bool false, .string ⟨#[]⟩, .int .i64 0, .int .i64 0] [(0, 1, .t 20), (1, 4, .t 21)], none⟩, ⟨none, .st 5 (.t 4) (.t 22), none⟩]) .ret)))⟩
theorem e90 : cfun Tryz.prog 90 = some c90 := by kernel_rfl
def c89 : DFun := ⟨22, [.t 4], .seq (.reg [⟨some 4, .mv (.c (.slice none 0 0)), none⟩]) (.seq (.reg [⟨some 5, .mv (.c (.slice none 0 0)), none⟩]) (.seq (.seq (.reg [⟨some 8, .mv (.t 0), none⟩, ⟨some 9, .len false (.t 8), none⟩, ⟨some 10, .mv (.c (.int .i64 0)), none⟩]) (.block 0 (.loop (.seq (.reg [⟨some 11, .bin .lss (.t 10) (.t 9), none⟩]) (.seq (.cond (.t 11) .skip (.exit 0)) (.seq (.block 1 (.seq (.reg [⟨some 12, .ixa 1 (.t 8) (.t 10), none⟩, ⟨some 13, .ld 1 false (.t 12), none⟩, ⟨some 7, .mv (.t 13), none⟩]) (.reg [⟨some 14, .mv (.t 5), none⟩, ⟨some 15, .mv (.t 1), none⟩, ⟨some 16, .mv (.t 7), none⟩, ⟨some 17, .callv (.t 15) [.t 16], none⟩, ⟨some 18, .bsl 5 [.t 17], none⟩, ⟨some 19, .app 145 5 56 (.t 14) (.t 18), none⟩, ⟨some 5, .mv (.t 19), none⟩]))) (.reg [⟨some 20, .bin .add (.t 10) (.c (.int .i64 1)), none⟩, ⟨some 10, .mv (.t 20), none⟩]))))))) (.seq (.reg [⟨some 21, .mv (.t 5), none⟩, ⟨some 4, .mv (.t 21), none⟩]) .ret)))⟩
theorem e89 : cfun Tryz.prog 89 = some c89 := by kernel_rfl
abbrev faultV (s : ByteArray) : Value := .iface 126 (.agg #[.string s])
abbrev textF : Value := faultV ⟨#[116, 101, 120, 116]⟩
abbrev cellF : Value := faultV ⟨#[99, 101, 108, 108]⟩
abbrev cellsF : Value := faultV ⟨#[99, 101, 108, 108, 115]⟩
def txP (s : ByteArray) (a : Int) : Prop := getE s a = 0 ∧ getN s a ≤ (s.size : Int) - getT s a
instance (s : ByteArray) (a : Int) : Decidable (txP s a) := inferInstanceAs (Decidable (_ ∧ _))
def txT (s : ByteArray) (a : Int) : Int := getT s a + getN s a
def txS (s : ByteArray) (a : Int) : ByteArray := s.extract (getT s a).toNat (txT s a).toNat
theorem tx_in {s : ByteArray} {a : Int} (h : txP s a) : 0 ≤ a ∧ a < txT s a ∧ txT s a ≤ s.size ∧ (txS s a).size ≤ s.size := by
  have h1 := getT_in h.1
  have h2 := getN_lo h.1
  have h3 := h.2
  unfold txS
  rw [ByteArray.size_extract]
  unfold txT
  omega
theorem text_yes (s : ByteArray) (a : Int) (hs : s.size ≤ 1000000) (ha : -1000000 ≤ a ∧ a ≤ 2000000) (h : txP s a) : DPure Tp I 87 [SV s, VN .i64 a] (.v (.tuple #[.string (txS s a), .int .i64 (txT s a), .nilIface])) := by
  have h1 := getT_in h.1
  have h2 := getN_lo h.1
  have h3 := h.2
  have h4 := h.1
  refine z_pure (e0 := ?e0x1) mix e87 rfl ?z01 ?_
  (case z01 => exact rfl)
  dsimp only [c87]
  repeat' (first | ((with_reducible apply z_call); (case' hd => apply (get_D s a hs ha)); (case hw => exact wknL_ok rfl); (try any_goals exact sd)) | refine zs ?_ | refine Br.mk ?_ ?_ | intro _ | refine zf ?_ | fail)
  exact tup3_of (a := .string (txS s a)) (b := .int .i64 (txT s a)) (c := .nilIface) (by kernel_rfl) rfl rfl rfl
theorem text_no (s : ByteArray) (a : Int) (hs : s.size ≤ 1000000) (ha : -1000000 ≤ a ∧ a ≤ 2000000) (h : ¬ txP s a) : DPure Tp I 87 [SV s, VN .i64 a] (.v (.tuple #[.string nilS, .int .i64 0, textF])) := by
  by_cases h4 : getE s a = 0
  · have h1 := getT_in h4
    have h2 := getN_lo h4
    have h3 : ¬ getN s a ≤ (s.size : Int) - getT s a := fun h3 => h ⟨h4, h3⟩
    refine z_pure (e0 := ?e0x2) mix e87 rfl ?z02 ?_
    (case z02 => exact rfl)
    dsimp only [c87]
    repeat' (first | ((with_reducible apply z_call); (case' hd => apply (get_D s a hs ha)); (case hw => exact wknL_ok rfl); (try any_goals exact sd)) | refine zs ?_ | refine Br.mk ?_ ?_ | intro _ | refine zf ?_ | fail)
    exact tup3_of (a := .string nilS) (b := .int .i64 0) (c := textF) (by kernel_rfl) rfl rfl rfl
  · refine z_pure (e0 := ?e0x3) mix e87 rfl ?z03 ?_
    (case z03 => exact rfl)
    dsimp only [c87]
    repeat' (first | ((with_reducible apply z_call); (case' hd => apply (get_D s a hs ha)); (case hw => exact wknL_ok rfl); (try any_goals exact sd)) | refine zs ?_ | refine Br.mk ?_ ?_ | intro _ | refine zf ?_ | fail)
    exact tup3_of (a := .string nilS) (b := .int .i64 0) (c := textF) (by kernel_rfl) rfl rfl rfl
def itemOf (all c : ByteArray) : ItemM := ⟨all ++ gvS c, gvW c⟩
theorem gvS_size (c : ByteArray) : (gvS c).size ≤ c.size := by
  by_cases h : gvP c
  · rw [(gv_yes h).1]; exact tkS_size
  · rw [(gv_no h).1]; exact Nat.zero_le _
theorem items1_ok (all c : ByteArray) (e : Value) (ow : List Nat) (ha : all.size ≤ 1000000) (hc : c.size ≤ 1000000) (h : gvE c = 0) : DEff Tp I 90 [SV c, .lp 1 0, .lp 0 0] [[SV all], [.v e]] ow (.v (itemV (itemOf all c))) [[SV all], [.v e]] ow := by
  have hg := gvS_size c
  refine z_eff (e0 := ?e0x4) mix e90 rfl ?z04 rfl rfl ?_
  (case z04 => exact rfl)
  dsimp only [c90]
  repeat' (first | ((with_reducible apply z_call); (case' hd => apply (getValue_D c hc)); (case hw => exact wknL_ok rfl); (try any_goals exact sd)) | refine zs ?_ | refine Br.mk ?_ ?_ | intro _ | refine zf ?_ | fail)
  exact .cut 2 ow.length (Nat.le_refl _) (Nat.le_refl _) (by refine cast (congrArg (LtD 2 ow.length 0 · _) ?_) (LtD.same (d := .v (itemV (itemOf all c))) rfl); kernel_rfl) (by kernel_rfl) rfl (by simp) (Nat.le_refl _)
theorem items1_no (all c : ByteArray) (e : Value) (ow : List Nat) (ha : all.size ≤ 1000000) (hc : c.size ≤ 1000000) (h : ¬ gvE c = 0) : DEff Tp I 90 [SV c, .lp 1 0, .lp 0 0] [[SV all], [.v e]] ow (.v (itemV (itemOf all c))) [[SV all], [.v cellF]] ow := by
  have hg := gvS_size c
  refine z_eff (e0 := ?e0x5) mix e90 rfl ?z05 rfl rfl ?_
  (case z05 => exact rfl)
  dsimp only [c90]
  repeat' (first | ((with_reducible apply z_call); (case' hd => apply (getValue_D c hc)); (case hw => exact wknL_ok rfl); (try any_goals exact sd)) | refine zs ?_ | refine Br.mk ?_ ?_ | intro _ | refine zf ?_ | fail)
  exact .cut 2 ow.length (Nat.le_refl _) (Nat.le_refl _) (by refine cast (congrArg (LtD 2 ow.length 0 · _) ?_) (LtD.same (d := .v (itemV (itemOf all c))) rfl); kernel_rfl) (by kernel_rfl) rfl (by simp) (Nat.le_refl _)
end Go.Proofs.YtlbodfkhenkcjaaGreatDoor.X


namespace Go.Proofs.YtlbodfkhenkcjaaGreatDoor.X
open Go Go.Proofs Go.RowKit Go.Proofs.YtlbodfkhenkcjaaGreatDoor.D
set_option maxRecDepth 100000
set_option maxHeartbeats 1000000
set_option linter.unusedVariables false
set_option linter.unusedSimpArgs false
variable {I : D.Inv}
attribute [local irreducible] D.DPure D.DEff D.callable getE getN getT gvS gvW gvE txP txT txS upE upL

def c52 : DFun := ⟨54, [.t 4, .t 5, .t 6], .seq (.reg [⟨some 4, .mv (.c (.slice none 0 0)), none⟩, ⟨some 5, .mv (.c (.string ⟨#[]⟩)), none⟩, ⟨some 6, .mv (.c .nilIface), none⟩]) (.seq (.reg [⟨some 15, .mv (.t 0), none⟩, ⟨some 16, .call 87 [.t 15, .c (.int .i64 0)], none⟩, ⟨some 14, .mv (.t 16), none⟩, ⟨some 17, .ext (.t 14) 0, none⟩, ⟨some 18, .ext (.t 14) 1, none⟩, ⟨some 19, .ext (.t 14) 2, none⟩, ⟨some 7, .zero (.string ⟨#[]⟩), none⟩, ⟨some 9, .zero .nilIface, none⟩, ⟨none, .st 1 (.t 7) (.t 17), none⟩, ⟨some 8, .mv (.t 18), none⟩, ⟨none, .st 1 (.t 9) (.t 19), none⟩]) (.seq (.seq (.reg [⟨some 20, .ld 1 false (.t 9), none⟩, ⟨some 21, .isnil 0 true (.t 20), none⟩]) (.cond (.t 21) (.seq (.reg [⟨some 22, .ld 1 false (.t 9), none⟩, ⟨some 4, .mv (.c (.slice none 0 0)), none⟩, ⟨some 5, .mv (.c (.string ⟨#[]⟩)), none⟩, ⟨some 6, .mv (.t 22), none⟩]) .ret) .skip)) (.seq (.reg [⟨some 24, .mv (.t 0), none⟩, ⟨some 25, .mv (.t 8), none⟩, ⟨some 26, .call 87 [.t 24, .t 25], none⟩, ⟨some 23, .mv (.t 26), none⟩, ⟨some 27, .ext (.t 23) 0, none⟩, ⟨some 28, .ext (.t 23) 1, none⟩, ⟨some 29, .ext (.t 23) 2, none⟩, ⟨some 10, .mv (.t 27), none⟩, ⟨some 8, .mv (.t 28), none⟩, ⟨none, .st 1 (.t 9) (.t 29), none⟩]) (.seq (.seq (.reg [⟨some 30, .ld 1 false (.t 9), none⟩, ⟨some 31, .isnil 0 true (.t 30), none⟩]) (.cond (.t 31) (.seq (.reg [⟨some 32, .ld 1 false (.t 9), none⟩, ⟨some 4, .mv (.c (.slice none 0 0)), none⟩, ⟨some 5, .mv (.c (.string ⟨#[]⟩)), none⟩, ⟨some 6, .mv (.t 32), none⟩]) .ret) .skip)) (.seq (.reg [⟨some 34, .mv (.t 0), none⟩, ⟨some 35, .mv (.t 8), none⟩, ⟨some 36, .mv (.t 1), none⟩, ⟨some 37, .call 55 [.t 34, .t 35, .t 36], none⟩, ⟨some 33, .mv (.t 37), none⟩, ⟨some 38, .ext (.t 33) 0, none⟩, ⟨some 39, .ext (.t 33) 1, none⟩, ⟨some 11, .mv (.t 38), none⟩, ⟨some 12, .mv (.t 39), none⟩]) (.seq (.seq (.reg [⟨some 40, .mv (.t 12), none⟩, ⟨some 41, .bin .neq (.t 40) (.c (.int .i64 0)), none⟩]) (.cond (.t 41) (.seq (.reg [⟨some 42, .mv (.t 12), none⟩, ⟨some 43, .mki 36 (.t 42), none⟩, ⟨some 44, .bld [.string ⟨#[]⟩] [(0, 1, .c (.string ⟨#[99, 101, 108, 108, 115]⟩))], none⟩, ⟨some 45, .mki 126 (.t 44), none⟩, ⟨some 46, .bsl 1 [.t 43, .t 45], none⟩, ⟨some 47, .call 88 [.t 46], none⟩, ⟨some 4, .mv (.c (.slice none 0 0)), none⟩, ⟨some 5, .mv (.c (.string ⟨#[]⟩)), none⟩, ⟨some 6, .mv (.t 47), none⟩]) .ret) .skip)) (.seq (.reg [⟨some 48, .mv (.t 11), none⟩, ⟨some 49, .mkf 90 [.t 9, .t 7], none⟩, ⟨some 50, .calle 89 [.t 48, .t 49], none⟩, ⟨some 13, .mv (.t 50), none⟩]) (.seq (.reg [⟨some 51, .mv (.t 13), none⟩, ⟨some 52, .mv (.t 10), none⟩, ⟨some 53, .ld 1 false (.t 9), none⟩, ⟨some 4, .mv (.t 51), none⟩, ⟨some 5, .mv (.t 52), none⟩, ⟨some 6, .mv (.t 53), none⟩]) .ret))))))))⟩
theorem e52 : cfun Tryz.prog 52 = some c52 := by kernel_rfl
def badC (l : List ByteArray) : Bool := l.any fun c => decide (¬ gvE c = 0)
def errC (l : List ByteArray) : Value := if badC l = true then cellF else .nilIface
theorem badC_snoc {l : List ByteArray} {i : Nat} (h : i < l.length) : badC (l.take (i + 1)) = (badC (l.take i) || decide (¬ gvE (l[i]'h) = 0)) := by
  unfold badC
  rw [List.take_succ_eq_append_getElem h, List.any_append]
  simp
theorem errC_ok {l : List ByteArray} {i : Nat} (h : i < l.length) (h0 : gvE (l[i]'h) = 0) : errC (l.take (i + 1)) = errC (l.take i) := by
  unfold errC
  rw [badC_snoc h, decide_eq_false (by simpa using h0), Bool.or_false]
theorem errC_no {l : List ByteArray} {i : Nat} (h : i < l.length) (h0 : ¬ gvE (l[i]'h) = 0) : errC (l.take (i + 1)) = cellF := by
  unfold errC
  rw [badC_snoc h, decide_eq_true h0, Bool.or_true, if_pos rfl]
abbrev itemsOf (all : ByteArray) (l : List ByteArray) : List ItemM := l.map (itemOf all)
theorem itemsOf_snoc (all : ByteArray) {l : List ByteArray} {i : Nat} (h : i < l.length) : itemsL (itemsOf all (l.take (i + 1))) = itemsL (itemsOf all (l.take i)) ++ [.v (itemV (itemOf all (l[i]'h)))] := by
  unfold itemsL itemsOf; rw [List.take_succ_eq_append_getElem h, List.map_append, List.map_append]; rfl
theorem told2_D (all : ByteArray) (l : List ByteArray) (ha : all.size ≤ 1000000) (hl : l.length ≤ 1000000) (hc : ∀ c ∈ l, c.size ≤ 1000000) :
    DEff Tp I 89 [.list 1 (strsL l), .fn 90 [.lp 1 0, .lp 0 0]] [[SV all], [.v .nilIface]] [] (.list 5 (itemsL (itemsOf all l))) [[SV all], [.v (errC l)]] [] := by
  have hll := strs_len l
  have he0 : errC (l.take 0) = .nilIface := rfl
  refine z_eff (e0 := ?e0x5) mix e89 rfl ?z05 rfl rfl ?_
  (case z05 => exact rfl)
  dsimp only [c89]
  repeat' (first | refine zs ?_ | refine Br.mk ?_ ?_ | intro _ | refine zf ?_ | fail)
  refine z_loop (fun i : Nat => ⟨[(1, .fn 90 [.lp 1 0, .lp 0 0]), (5, .own 0 145 5 (itemsL (itemsOf all (l.take i)))), (8, .list 1 (strsL l)), (9, VN .i64 (strsL l).length), (10, VN .i64 i)], [[SV all], [.v (errC (l.take i))]], [(itemsL (itemsOf all (l.take i))).length * 5]⟩) (fun i : Nat => i ≤ l.length) (fun i : Nat => l.length - i) (0) ?_ ?_ fun i hi => ?_
  · exact (less_of 2 0 1 rfl rfl (lessE_cons (ltd_eq rfl (by kernel_rfl)) (lessE_cons (ltd_own rfl rfl (by kernel_rfl)) (lessE_cons (ltd_eq rfl (by kernel_rfl)) (lessE_cons (ltd_eq rfl (by kernel_rfl)) (lessE_cons (ltd_eq rfl (by kernel_rfl)) lessE_nil))))) (by kernel_rfl) (by kernel_rfl) (by kernel_rfl) (by kernel_rfl))
  · omega
  have hlt : (itemsL (itemsOf all (l.take i))).length ≤ l.length := by rw [items_len, List.length_map, List.length_take]; omega
  by_cases hil : i < l.length
  · have hci := hc l[i] (by simp)
    have hsn := itemsOf_snoc all hil
    by_cases h0 : gvE l[i] = 0
    · have hee := errC_ok hil h0
      repeat' (first | refine ⟨_, strs_get hil, ?_⟩ | ((with_reducible apply z_callv); (case hx => (conv => {lhs; whnf}) <;> exact rfl); (case' hd => apply (items1_ok all l[i] (errC (l.take i)) [(itemsL (itemsOf all (l.take i))).length * 5] ha hci h0)); (case ha => exact rfl); (try any_goals exact sd)) | refine z1 ?_ | refine Br.mk ?_ ?_ | intro _ | refine zf ?_ | fail)
      refine ⟨i + 1, (less_of 2 1 0 rfl rfl (lessE_cons (ltd_eq rfl (by kernel_rfl)) (lessE_cons (ltd_eq rfl ?_) (lessE_cons (ltd_eq rfl (by kernel_rfl)) (lessE_cons (ltd_eq rfl (by kernel_rfl)) (lessE_cons (ltd_eq rfl (by kernel_rfl)) lessE_nil))))) ?_ (by kernel_rfl) ?_ (by kernel_rfl)), hil, by omega⟩
      · rw [hsn]; kernel_rfl
      · rw [hee]; kernel_rfl
      · rw [hsn, List.length_append]; kernel_rfl
    · have hee := errC_no hil h0
      repeat' (first | refine ⟨_, strs_get hil, ?_⟩ | ((with_reducible apply z_callv); (case hx => (conv => {lhs; whnf}) <;> exact rfl); (case' hd => apply (items1_no all l[i] (errC (l.take i)) [(itemsL (itemsOf all (l.take i))).length * 5] ha hci h0)); (case ha => exact rfl); (try any_goals exact sd)) | refine z1 ?_ | refine Br.mk ?_ ?_ | intro _ | refine zf ?_ | fail)
      refine ⟨i + 1, (less_of 2 1 0 rfl rfl (lessE_cons (ltd_eq rfl (by kernel_rfl)) (lessE_cons (ltd_eq rfl ?_) (lessE_cons (ltd_eq rfl (by kernel_rfl)) (lessE_cons (ltd_eq rfl (by kernel_rfl)) (lessE_cons (ltd_eq rfl (by kernel_rfl)) lessE_nil))))) ?_ (by kernel_rfl) ?_ (by kernel_rfl)), hil, by omega⟩
      · rw [hsn]; kernel_rfl
      · rw [hee]; kernel_rfl
      · rw [hsn, List.length_append]; kernel_rfl
  · have htk : l.take i = l := List.take_of_length_le (by omega)
    repeat' (first | refine zs ?_ | refine Br.mk ?_ ?_ | intro _ | refine zf ?_ | fail)
    refine .cut 2 0 (Nat.le_refl _) (Nat.le_refl _) (.wk (wk_own (id := 0) (e := 145) (l := itemsL (itemsOf all (l.take i))) (by kernel_rfl) (by rw [htk]))) ?_ rfl (by simp) (by simp)
    exact Eq.trans (b := [[SV all], [.v (errC (l.take i))]]) (by kernel_rfl) (by rw [htk])
def itA (s : ByteArray) : ByteArray := txS s 0
def itH (s : ByteArray) : ByteArray := txS s (txT s 0)
def itN (s : ByteArray) : Int := txT s (txT s 0)
def itC (s : ByteArray) (n : Int) : List ByteArray := upL s (itN s) n
def itOk (s : ByteArray) (n : Int) : Prop := txP s 0 ∧ txP s (txT s 0) ∧ upE s (itN s) n = 0
instance (s : ByteArray) (n : Int) : Decidable (itOk s n) := inferInstanceAs (Decidable (_ ∧ _ ∧ _))
theorem upL_size {s : ByteArray} {fx n : Int} : (upL s fx n).length ≤ n.toNat ∧ ∀ c ∈ upL s fx n, c.size ≤ s.size := by
  unfold upL
  split
  · refine ⟨by simp [cellsTo], fun c hc => ?_⟩
    simp only [cellsTo, List.mem_map] at hc
    obtain ⟨i, _, rfl⟩ := hc
    unfold cellAt
    rw [ByteArray.size_extract]; omega
  · exact ⟨Nat.zero_le _, fun c hc => by simp at hc⟩
theorem items_yes (s : ByteArray) (n : Int) (hs : s.size ≤ 1200) (hn : -1000000 ≤ n ∧ n ≤ 1000000) (h : itOk s n) :
    DPure Tp I 52 [SV s, VN .i64 n] (.tup [.list 5 (itemsL (itemsOf (itA s) (itC s n))), SV (itH s), .v (errC (itC s n))]) := by
  obtain ⟨h1, h2, h3⟩ := h
  have g1 := tx_in h1
  have g2 := tx_in h2
  have g3 := upL_size (s := s) (fx := itN s) (n := n)
  have d1 := text_yes (I := I) s 0 (by omega) (by omega) h1
  have d2 := text_yes (I := I) s (txT s 0) (by omega) (by omega) h2
  have d3 := unpack_D (I := I) s (itN s) n hs (by unfold itN; omega) hn
  rw [h3] at d3
  have d4 := told2_D (I := I) (itA s) (itC s n) (by unfold itA; omega) (by unfold itC; omega) (fun c hc => by have := g3.2 c hc; omega)
  refine z_pure (e0 := ?e0x1) mix e52 rfl ?z01 ?_
  (case z01 => exact rfl)
  dsimp only [c52]
  repeat' (first | ((with_reducible apply z_call); (case' hd => apply d1); (case hw => exact wknL_ok rfl); (try any_goals exact sd)) | ((with_reducible apply z_call); (case' hd => apply d2); (case hw => exact wknL_ok rfl); (try any_goals exact sd)) | ((with_reducible apply z_call); (case' hd => apply d3); (case hw => exact wknL_ok rfl); (try any_goals exact sd)) | ((with_reducible apply z_calle); (case' hd => apply d4); (case ha => exact rfl); (try any_goals exact sd)) | refine zs ?_ | refine Br.mk ?_ ?_ | intro _ | refine zf ?_ | fail)
  exact tup3w (x1 := .list 5 (itemsL (itemsOf (itA s) (itC s n)))) (x2 := SV (itH s)) (x3 := .v (errC (itC s n))) (by kernel_rfl) (.list _ _) (.v _) (.v _)
def itErr (s : ByteArray) (n : Int) : DV := if txP s 0 ∧ txP s (txT s 0) then joinD (errV (upE s (itN s) n)) (.v cellsF) else .v textF
theorem vtup3 {d : DV} {sz : Nat} {a b : Value} (h : d = .v (.tuple #[.slice none 0 0, a, b])) : Wk d (.tup [.list sz [], .v a, .v b]) := by
  subst h; exact Wk.vtupL (xs := [.slice none 0 0, a, b]) (.cons (.nil _ _ _) (.cons (.v _) (.cons (.v _) .nil)))
theorem items_no (s : ByteArray) (n : Int) (hs : s.size ≤ 1200) (hn : -1000000 ≤ n ∧ n ≤ 1000000) (h : ¬ itOk s n) :
    DPure Tp I 52 [SV s, VN .i64 n] (.tup [.list 5 [], SV nilS, itErr s n]) := by
  by_cases h1 : txP s 0
  · have g1 := tx_in h1
    have d1 := text_yes (I := I) s 0 (by omega) (by omega) h1
    by_cases h2 : txP s (txT s 0)
    · have g2 := tx_in h2
      have h3 : ¬ upE s (itN s) n = 0 := fun h3 => h ⟨h1, h2, h3⟩
      have d2 := text_yes (I := I) s (txT s 0) (by omega) (by omega) h2
      have d3 := unpack_D (I := I) s (itN s) n hs (by unfold itN; omega) hn
      have he : itErr s n = joinD (errV (upE s (itN s) n)) (.v cellsF) := if_pos ⟨h1, h2⟩
      rw [he]
      refine z_pure (e0 := ?e0x2) mix e52 rfl ?z02 ?_
      (case z02 => exact rfl)
      dsimp only [c52]
      repeat' (first | ((with_reducible apply z_call); (case' hd => apply d1); (case hw => exact wknL_ok rfl); (try any_goals exact sd)) | ((with_reducible apply z_call); (case' hd => apply d2); (case hw => exact wknL_ok rfl); (try any_goals exact sd)) | ((with_reducible apply z_call); (case' hd => apply d3); (case hw => exact wknL_ok rfl); (try any_goals exact sd)) | ((with_reducible apply z_call); (case' hd => apply (Join_D (errV (upE s (itN s) n)) (.v cellsF) rfl rfl)); (case hw => exact wknL_ok rfl); (try any_goals exact sd)) | refine zs ?_ | refine Br.mk ?_ ?_ | intro _ | refine zf ?_ | fail)
      exact tup3w (x1 := .v (.slice none 0 0)) (x2 := SV nilS) (x3 := joinD (errV (upE s (itN s) n)) (.v cellsF)) (by kernel_rfl) (.nil _ _ _) (.v _) (wkn_ok rfl)
    · have d2 := text_no (I := I) s (txT s 0) (by omega) (by omega) h2
      have he : itErr s n = .v textF := if_neg fun h => h2 h.2
      rw [he]
      refine z_pure (e0 := ?e0x3) mix e52 rfl ?z03 ?_
      (case z03 => exact rfl)
      dsimp only [c52]
      repeat' (first | ((with_reducible apply z_call); (case' hd => apply d1); (case hw => exact wknL_ok rfl); (try any_goals exact sd)) | ((with_reducible apply z_call); (case' hd => apply d2); (case hw => exact wknL_ok rfl); (try any_goals exact sd)) | refine zs ?_ | refine Br.mk ?_ ?_ | intro _ | refine zf ?_ | fail)
      exact vtup3 (by kernel_rfl)
  · have d1 := text_no (I := I) s 0 (by omega) (by omega) h1
    have he : itErr s n = .v textF := if_neg fun h => h1 h.1
    rw [he]
    refine z_pure (e0 := ?e0x4) mix e52 rfl ?z04 ?_
    (case z04 => exact rfl)
    dsimp only [c52]
    repeat' (first | ((with_reducible apply z_call); (case' hd => apply d1); (case hw => exact wknL_ok rfl); (try any_goals exact sd)) | refine zs ?_ | refine Br.mk ?_ ?_ | intro _ | refine zf ?_ | fail)
    exact vtup3 (by kernel_rfl)
end Go.Proofs.YtlbodfkhenkcjaaGreatDoor.X


namespace Go.Proofs.YtlbodfkhenkcjaaGreatDoor.X
open Go Go.Proofs Go.RowKit Go.Proofs.YtlbodfkhenkcjaaGreatDoor.D
set_option maxRecDepth 100000
set_option maxHeartbeats 1000000
set_option linter.unusedVariables false
set_option linter.unusedSimpArgs false
variable {I : D.Inv}

def GI : D.Inv := ⟨GlobE, fun _ _ h hb => h.below hb⟩
theorem sim_put {I : D.Inv} {B : Base} {L : Link} {W W' : World} {loc : List (List DV)} {ow : List Nat} {k b : Nat} {T : TypeId} {z : Value} (hs : Sim I B L W loc ow) (hk : L.bx[k]? = some b) {c0 : DV} {cs0 : List DV} (hc0 : loc[k]? = some (c0 :: cs0))
    (hb : Block W' b T #[z]) (kp : Kept W.heap.size (· = b) W W') : Sim I B L W' (loc.set k [.v z]) ow ∧ Step (stab B L) L W (stab B L) L W' := by
  have hbge := hs.bge k b hk
  have hfz := (hs.exact hc0 hk).1
  have hkl : k < loc.length := (List.getElem?_eq_some_iff.1 hc0).1
  have st : Step (stab B L) L W (stab B L) L W' := by
    refine ⟨fun b' o' y h1 h2 => ⟨h1, ?_⟩, fun _ _ h => h, fun id N C h => ⟨N, C, h, Nat.le_refl _, fun _ => ⟨rfl, fun g hg => kp.block g (hs.oge id N g (hg ▸ h)).2.1 ?_⟩⟩⟩
    · have hne : ¬ b' = b := by
        rintro rfl
        rcases h1 with ⟨h1, _⟩ | ⟨_, h1, _⟩
        · omega
        · exact h1.elim (fun h => h (List.mem_of_getElem? hk)) hfz
      exact (kp.cell (p := ⟨b', o', none⟩) (World.block_lt_of_cell? W ⟨b', o', none⟩ h2) hne).trans h2
    · intro e
      exact (hs.oge id N g (hg ▸ h)).2.2 (List.mem_of_getElem? (e ▸ hk))
  refine ⟨⟨hs.inv, ?_, by simp [hs.blen], fun j c h => by have h1 := hs.bge j c h; have h2 := kp.size; omega, hs.bnd, fun j cs' h => ?_, hs.olen, fun id N g h => by have h1 := hs.oge id N g h; have h2 := kp.size; exact ⟨h1.1, by omega, h1.2.2⟩, hs.ond, fun j c h hf => ?_, fun c hf => by have h1 := hs.flt c hf; have h2 := kp.size; omega⟩, st⟩
  · have hbel := hs.below
    refine hbel.trans ⟨kp.os, kp.tape, kp.output, kp.size, fun j hj => kp.block j (by have := hbel.size; omega) (by omega)⟩
  · rw [List.getElem?_set] at h
    split at h
    · rename_i e
      subst e
      simp only [Option.some.injEq] at h
      subst h
      refine ⟨b, [z], T, hk, hb, fun _ => .cons (.v _ _) .nil⟩
    · rename_i hne
      obtain ⟨c, zs, T2, q1, q2, q3⟩ := hs.box j cs' h
      have hcb : ¬ c = b := by
        rintro rfl
        exact hne (hs.bnd k j c hk q1)
      exact ⟨c, zs, T2, q1, (kp.block c (hs.bge j c q1).2 hcb).trans q2, fun hf => (q3 hf).step st⟩
  · rw [List.getElem?_set]
    split
    · rename_i e
      subst e
      exact absurd (Option.some.inj (hk.symm.trans h) ▸ hf) hfz
    · exact hs.frz j c h hf
abbrev tgtD : DV := .ifc 128 (.lp 2 0)
theorem tgt_of {S : Nat → Nat → Prop} {W : World} {L : Link} {v : Value} (h : Rep S W L tgtD v) : ∃ b, L.bx[2]? = some b ∧ v = .iface 128 (.pointer (some ⟨b, 0, none⟩)) := by
  cases h with
  | ifc _ t x y h =>
    cases h with
    | lp _ _ _ b hb => exact ⟨b, hb, rfl⟩
theorem box2 {I : D.Inv} {B : Base} {L : Link} {W : World} {l0 l1 : List DV} {s : ByteArray} {ow : List Nat} (hs : Sim I B L W [l0, l1, [SV s]] ow) {b : Nat} (hb : L.bx[2]? = some b) : ∃ T, Block W b T #[.string s] := by
  obtain ⟨_, ys, T, q2, q3⟩ := hs.exact (k := 2) (c := SV s) (cs := []) rfl hb
  obtain ⟨y, zs, rfl, r, q3⟩ := q3.uncons
  obtain rfl := q3.unnil
  cases r
  exact ⟨T, q2⟩
theorem joinA_of {S : Nat → Nat → Prop} {W : World} {L : Link} {s : ByteArray} {e : Int} {v : Value} (h : Rep S W L (joinD (errV e) (.v (faultV s))) v) : JoinA W v s := by
  cases h with
  | ifc _ t x y h =>
    cases h with
    | ep _ _ _ b o ys k1 k2 k3 =>
      match ys, k1 with
      | [z], _ =>
        have a0 := (k2 0 z rfl).2
        have b0 := k3 0 _ z rfl rfl
        obtain ⟨b', o', c, y1, y2, rfl, hc, _, _, c1, c2, r1, r2⟩ := two_of (d1 := errV e) (d2 := .v (faultV s)) rfl rfl b0
        cases r1
        cases r2
        exact ⟨⟨_, b', o', c, _, rfl, hc, a0, c1, c2⟩⟩
theorem As_D0 (l0 l1 : List DV) (s : ByteArray) (ow : List Nat) : DEff Tp GI 53 [.v .nilIface, tgtD] [l0, l1, [SV s]] ow (BV false) [l0, l1, [SV s]] ow := by
  refine ⟨by kernel_rfl, fun B W L vals hs hr => ?_⟩
  obtain ⟨v0, vs, rfl, r0, hr⟩ := hr.uncons
  obtain ⟨v1, vs, rfl, r1, hr⟩ := hr.uncons
  obtain rfl := hr.unnil
  cases r0
  obtain ⟨b, hb, rfl⟩ := tgt_of r1
  refine (As_nil b W).mono ?_
  rintro e W' ⟨rfl, rfl⟩
  exact ⟨_, L, rfl, hs, Step.refl _ _ _, .v _ _⟩
theorem As_fin {l0 l1 : List DV} {s x : ByteArray} {ow : List Nat} {B : Base} {L : Link} {W W' : World} {b : Nat} {T : TypeId} {e : Ending} (hs : Sim GI B L W [l0, l1, [SV x]] ow) (hb : L.bx[2]? = some b)
    (he : e = .returned (.bool true)) (h2 : Block W' b T #[.string s]) (h3 : Kept W.heap.size (· = b) W W') : ∃ y L', e = .returned y ∧ Sim GI B L' W' [l0, l1, [SV s]] ow ∧ Step (stab B L) L W (stab B L') L' W' ∧ Rep (stab B L') W' L' (BV true) y := by
  obtain ⟨q1, q2⟩ := sim_put hs hb (c0 := SV x) (cs0 := []) rfl h2 h3
  exact ⟨_, L, he, q1, q2, .v _ _⟩
theorem As_D1 (l0 l1 : List DV) (s x : ByteArray) (ow : List Nat) : DEff Tp GI 53 [.v (faultV s), tgtD] [l0, l1, [SV x]] ow (BV true) [l0, l1, [SV s]] ow := by
  refine ⟨by kernel_rfl, fun B W L vals hs hr => ?_⟩
  obtain ⟨v0, vs, rfl, r0, hr⟩ := hr.uncons
  obtain ⟨v1, vs, rfl, r1, hr⟩ := hr.uncons
  obtain rfl := hr.unnil
  cases r0
  obtain ⟨b, hb, rfl⟩ := tgt_of r1
  obtain ⟨T, hB⟩ := box2 hs hb
  refine (As_hit s (.string x) b W (GI.keep _ _ hs.inv hs.below) hB).mono ?_
  rintro e W' ⟨h1, h2, h3⟩
  exact As_fin hs hb h1 h2 h3
theorem As_D2 (l0 l1 : List DV) (n : Int) (s x : ByteArray) (ow : List Nat) : DEff Tp GI 53 [joinD (errV n) (.v (faultV s)), tgtD] [l0, l1, [SV x]] ow (BV true) [l0, l1, [SV s]] ow := by
  refine ⟨by kernel_rfl, fun B W L vals hs hr => ?_⟩
  obtain ⟨v0, vs, rfl, r0, hr⟩ := hr.uncons
  obtain ⟨v1, vs, rfl, r1, hr⟩ := hr.uncons
  obtain rfl := hr.unnil
  have hj := joinA_of r0
  obtain ⟨b, hb, rfl⟩ := tgt_of r1
  obtain ⟨T, hB⟩ := box2 hs hb
  refine (As_join v0 s (.string x) b W (GI.keep _ _ hs.inv hs.below) hB hj).mono ?_
  rintro e W' ⟨h1, h2, h3⟩
  exact As_fin hs hb h1 h2 h3
end Go.Proofs.YtlbodfkhenkcjaaGreatDoor.X


namespace Go.Proofs.YtlbodfkhenkcjaaGreatDoor.X
open Go Go.Proofs Go.RowKit Go.Proofs.YtlbodfkhenkcjaaGreatDoor.D
set_option maxRecDepth 100000
set_option maxHeartbeats 1000000
set_option linter.unusedVariables false
set_option linter.unusedSimpArgs false
variable {I : D.Inv}
attribute [local irreducible] D.DPure D.DEff D.callable spanN stripA stripR pvS pvE putS

theorem stripR_len (l : List ByteArray) : (stripR l).length = l.length := by unfold stripR; simp
theorem stripR_size {l : List ByteArray} {m : Nat} (h : ∀ s ∈ l, s.size ≤ m) : ∀ s ∈ stripR l, s.size ≤ m := by
  intro s hs
  unfold stripR at hs
  obtain ⟨a, ha, rfl⟩ := List.mem_map.1 hs
  have := h a ha
  unfold cutS
  rw [ByteArray.size_extract]
  omega
theorem stripA_size {l : List ByteArray} {m : Nat} (h : ∀ s ∈ l, s.size ≤ m) : (stripA l).size ≤ m := by
  unfold stripA
  split
  · exact Nat.zero_le _
  · rename_i a r
    have := h a (by simp)
    rw [ByteArray.size_extract]
    omega
def cellsOf (l : List ItemM) : List ByteArray := List.zipWith (fun r x => pvS r x.v) (stripR (keysOf l)) l
def fixedS (l : LeafM) : ByteArray := putS (stripA (keysOf l.items)).size ++ stripA (keysOf l.items) ++ putS l.high.size ++ l.high
theorem cellsOf_len (l : List ItemM) : (cellsOf l).length = l.length := by unfold cellsOf; rw [List.length_zipWith, stripR_len]; simp [keysOf]
theorem cellsOf_snoc {l : List ItemM} {i : Nat} (h : i < l.length) (h' : i < (stripR (keysOf l)).length) : strsL ((cellsOf l).take (i + 1)) = strsL ((cellsOf l).take i) ++ [SV (pvS ((stripR (keysOf l))[i]'h') (l[i]'h).v)] := by
  have hc : i < (cellsOf l).length := by rw [cellsOf_len]; exact h
  rw [List.take_succ_eq_append_getElem hc]
  have : (cellsOf l)[i] = pvS ((stripR (keysOf l))[i]'h') (l[i]'h).v := by simp [cellsOf]
  rw [this]
  simp [strsL]
theorem parts_D0 (self right : Int) (high : ByteArray) (l : List ItemM) (hl : l.length ≤ 1000000) (hk : ∀ x ∈ l, x.key.size ≤ 1000000) (hh : high.size ≤ 1000000) :
    DPure Tp I 69 [.agg [VN .i64 self, VN .i64 right, SV high, .list 5 (itemsL l)]] (.tup [SV (fixedS ⟨self, right, high, l⟩), .list 1 (strsL (cellsOf l))]) := by
  have hll := items_len l
  have hkl : (keysOf l).length = l.length := by simp [keysOf]
  have hks : ∀ s ∈ keysOf l, s.size ≤ 1000000 := by intro s hs; obtain ⟨x, hx, rfl⟩ := List.mem_map.1 hs; exact hk x hx
  have d0 := keys_D (I := I) ⟨self, right, high, l⟩ hl
  have d1 := strip_D (I := I) (keysOf l) (by omega) hks
  have hA := stripA_size hks
  have hRl := stripR_len (keysOf l)
  have hRs := stripR_size hks
  have p1 := putS_size (n := ((stripA (keysOf l)).size : Int)) (by omega)
  have p2 := putS_size (n := (high.size : Int)) (by omega)
  refine z_pure (e0 := ?e0x1) mix e69 rfl ?z01 ?_
  (case z01 => exact rfl)
  dsimp only [c69]
  repeat' (first | ((with_reducible apply z_call); (case' hd => apply d0); (case hw => exact wknL_ok rfl); (try any_goals exact sd)) | ((with_reducible apply z_call); (case' hd => apply d1); (case hw => exact wknL_ok rfl); (try any_goals exact sd)) | refine zs ?_ | refine Br.mk ?_ ?_ | intro _ | refine zf ?_ | fail)
  refine z_loop (fun i : Nat => ⟨[(1, .lp 0 0), (4, SV (stripA (keysOf l))), (5, .list 1 (strsL (stripR (keysOf l)))), (6, .own 0 9 1 (strsL ((cellsOf l).take i))), (18, .list 5 (itemsL l)), (19, VN .i64 (itemsL l).length), (20, VN .i64 i)], [[VN .i64 self, VN .i64 right, SV high, .list 5 (itemsL l)]], [(strsL ((cellsOf l).take i)).length * 1]⟩) (fun i : Nat => i ≤ l.length) (fun i : Nat => l.length - i) (0) ?_ ?_ fun i hi => ?_
  · exact (less_of 1 0 1 rfl rfl (lessE_cons (ltd_eq rfl (by kernel_rfl)) (lessE_cons (ltd_eq rfl (by kernel_rfl)) (lessE_cons (ltd_eq rfl (by kernel_rfl)) (lessE_cons (ltd_own rfl rfl (by kernel_rfl)) (lessE_cons (ltd_eq rfl (by kernel_rfl)) (lessE_cons (ltd_eq rfl (by kernel_rfl)) (lessE_cons (ltd_eq rfl (by kernel_rfl)) lessE_nil))))))) (by kernel_rfl) (by kernel_rfl) (by kernel_rfl) (by kernel_rfl))
  · omega
  have hlt : (strsL ((cellsOf l).take i)).length ≤ l.length := by rw [strs_len, List.length_take, cellsOf_len]; omega
  by_cases hil : i < l.length
  · have hir : i < (stripR (keysOf l)).length := by omega
    have hsn := cellsOf_snoc hil hir
    have hrs := hRs _ (List.getElem_mem hir)
    repeat' (first | refine ⟨_, items_get hil, ?_⟩ | refine ⟨_, strs_get hir, ?_⟩ | ((with_reducible apply z_call); (case' hd => apply (putValue_D ((stripR (keysOf l))[i]'hir) (l[i]'hil).v hrs)); (case hw => exact wknL_ok rfl); (try any_goals exact sd)) | refine z1 ?_ | refine Br.mk ?_ ?_ | intro _ | refine zf ?_ | fail)
    refine ⟨i + 1, (less_of 1 1 0 rfl rfl (lessE_cons (ltd_eq rfl (by kernel_rfl)) (lessE_cons (ltd_eq rfl (by kernel_rfl)) (lessE_cons (ltd_eq rfl (by kernel_rfl)) (lessE_cons (ltd_eq rfl ?_) (lessE_cons (ltd_eq rfl (by kernel_rfl)) (lessE_cons (ltd_eq rfl (by kernel_rfl)) (lessE_cons (ltd_eq rfl (by kernel_rfl)) lessE_nil))))))) (by kernel_rfl) (by kernel_rfl) ?_ (by kernel_rfl)), hil, by omega⟩
    · rw [hsn]; kernel_rfl
    · rw [hsn, List.length_append]; kernel_rfl
  · have htk : (cellsOf l).take i = cellsOf l := List.take_of_length_le (by rw [cellsOf_len]; omega)
    repeat' (first | ((with_reducible apply z_call); (case' hd => apply (put_D ((stripA (keysOf l)).size : Int) (by omega))); (case hw => exact wknL_ok rfl); (try any_goals exact sd)) | ((with_reducible apply z_call); (case' hd => apply (put_D (high.size : Int) (by omega))); (case hw => exact wknL_ok rfl); (try any_goals exact sd)) | refine zs ?_ | refine Br.mk ?_ ?_ | intro _ | refine zf ?_ | fail)
    refine tup2w (x1 := SV (fixedS ⟨self, right, high, l⟩)) (x2 := .own 0 9 1 (strsL ((cellsOf l).take i))) (by kernel_rfl) (.v _) ?_
    rw [htk]
    exact .own _ _ _ _
end Go.Proofs.YtlbodfkhenkcjaaGreatDoor.X


namespace Go.Proofs.YtlbodfkhenkcjaaGreatDoor.X
open Go Go.Proofs Go.RowKit Go.Proofs.YtlbodfkhenkcjaaGreatDoor.D
set_option maxRecDepth 100000
set_option maxHeartbeats 1000000
set_option linter.unusedVariables false
set_option linter.unusedSimpArgs false
variable {I : D.Inv}
attribute [local irreducible] D.DPure D.DEff D.callable lvalP pageP

def c68 : DFun := ⟨101, [.t 4], .seq (.reg [⟨some 2, .box (.t 0), none⟩, ⟨some 4, .mv (.c (.bool false)), none⟩]) (.seq (.seq (.reg [⟨some 7, .mv (.t 1), none⟩, ⟨some 8, .call 67 [.t 7], none⟩, ⟨some 9, .un .not (.t 8), none⟩, ⟨some 10, .mv (.t 9), none⟩, ⟨some 11, .fa 0 (.t 2), some (10, false)⟩, ⟨some 12, .ld 1 false (.t 11), some (10, false)⟩, ⟨some 13, .call 118 [.t 12], some (10, false)⟩, ⟨some 14, .un .not (.t 13), some (10, false)⟩, ⟨some 15, .pick (.t 10) (.c (.bool true)) (.t 14), none⟩, ⟨some 16, .mv (.t 15), none⟩, ⟨some 17, .fa 1 (.t 2), some (16, false)⟩, ⟨some 18, .ld 1 false (.t 17), some (16, false)⟩, ⟨some 19, .bin .neq (.t 18) (.c (.int .i64 0)), some (16, false)⟩, ⟨some 20, .mv (.t 19), some (16, false)⟩, ⟨some 21, .fa 1 (.t 2), some (20, true)⟩, ⟨some 22, .ld 1 false (.t 21), some (20, true)⟩, ⟨some 23, .call 118 [.t 22], some (20, true)⟩, ⟨some 24, .un .not (.t 23), some (20, true)⟩, ⟨some 25, .pick (.t 20) (.t 24) (.c (.bool false)), some (16, false)⟩, ⟨some 26, .pick (.t 16) (.c (.bool true)) (.t 25), none⟩, ⟨some 27, .mv (.t 26), none⟩, ⟨some 28, .fa 1 (.t 2), some (27, false)⟩, ⟨some 29, .ld 1 false (.t 28), some (27, false)⟩, ⟨some 30, .fa 0 (.t 2), some (27, false)⟩, ⟨some 31, .ld 1 false (.t 30), some (27, false)⟩, ⟨some 32, .bin .eql (.t 29) (.t 31), some (27, false)⟩, ⟨some 33, .pick (.t 27) (.c (.bool true)) (.t 32), none⟩, ⟨some 34, .mv (.t 33), none⟩, ⟨some 35, .fa 1 (.t 2), some (34, false)⟩, ⟨some 36, .ld 1 false (.t 35), some (34, false)⟩, ⟨some 37, .bin .eql (.t 36) (.c (.int .i64 0)), some (34, false)⟩, ⟨some 38, .fa 2 (.t 2), some (34, false)⟩, ⟨some 39, .ld 1 false (.t 38), some (34, false)⟩, ⟨some 40, .bin .eql (.t 39) (.c (.string ⟨#[]⟩)), some (34, false)⟩, ⟨some 41, .beq true (.t 37) (.t 40), some (34, false)⟩, ⟨some 42, .pick (.t 34) (.c (.bool true)) (.t 41), none⟩, ⟨some 43, .mv (.t 42), none⟩, ⟨some 44, .fa 2 (.t 2), some (43, false)⟩, ⟨some 45, .ld 1 false (.t 44), some (43, false)⟩, ⟨some 46, .len true (.t 45), some (43, false)⟩, ⟨some 47, .mv (.t 1), some (43, false)⟩, ⟨some 48, .bin .quo (.t 47) (.c (.int .i64 8)), some (43, false)⟩, ⟨some 49, .bin .gtr (.t 46) (.t 48), some (43, false)⟩, ⟨some 50, .pick (.t 43) (.c (.bool true)) (.t 49), none⟩]) (.cond (.t 50) (.seq (.reg [⟨some 4, .mv (.c (.bool false)), none⟩]) .ret) .skip)) (.seq (.seq (.reg [⟨some 51, .fa 3 (.t 2), none⟩, ⟨some 52, .ld 1 false (.t 51), none⟩, ⟨some 53, .len false (.t 52), none⟩, ⟨some 54, .mv (.c (.int .i64 0)), none⟩]) (.block 0 (.loop (.seq (.reg [⟨some 55, .bin .lss (.t 54) (.t 53), none⟩]) (.seq (.cond (.t 55) .skip (.exit 0)) (.seq (.block 1 (.seq (.reg [⟨some 56, .mv (.t 54), none⟩, ⟨some 57, .ixa 5 (.t 52) (.t 54), none⟩, ⟨some 58, .ld 5 true (.t 57), none⟩, ⟨some 6, .zero (.agg #[.string ⟨#[]⟩, .bool false, .string ⟨#[]⟩, .int .i64 0, .int .i64 0]), none⟩, ⟨some 5, .mv (.t 56), none⟩, ⟨none, .st 5 (.t 6) (.t 58), none⟩]) (.seq (.reg [⟨some 59, .fa 0 (.t 6), none⟩, ⟨some 60, .ld 1 false (.t 59), none⟩, ⟨some 61, .len true (.t 60), none⟩, ⟨some 62, .mv (.t 1), none⟩, ⟨some 63, .bin .quo (.t 62) (.c (.int .i64 8)), none⟩, ⟨some 64, .bin .gtr (.t 61) (.t 63), none⟩, ⟨some 65, .mv (.t 64), none⟩, ⟨some 66, .fa 1 (.t 6), some (65, false)⟩, ⟨some 67, .ld 4 true (.t 66), some (65, false)⟩, ⟨some 68, .mv (.t 1), some (65, false)⟩, ⟨some 69, .call 119 [.t 67, .t 68], some (65, false)⟩, ⟨some 70, .un .not (.t 69), some (65, false)⟩, ⟨some 71, .pick (.t 65) (.c (.bool true)) (.t 70), none⟩, ⟨some 72, .mv (.t 71), none⟩, ⟨some 73, .mv (.t 5), some (72, false)⟩, ⟨some 74, .bin .gtr (.t 73) (.c (.int .i64 0)), some (72, false)⟩, ⟨some 75, .mv (.t 74), some (72, false)⟩, ⟨some 76, .fa 3 (.t 2), some (75, true)⟩, ⟨some 77, .ld 1 false (.t 76), some (75, true)⟩, ⟨some 78, .mv (.t 5), some (75, true)⟩, ⟨some 79, .bin .sub (.t 78) (.c (.int .i64 1)), some (75, true)⟩, ⟨some 80, .ixa 5 (.t 77) (.t 79), some (75, true)⟩, ⟨some 81, .fa 0 (.t 80), some (75, true)⟩, ⟨some 82, .ld 1 false (.t 81), some (75, true)⟩, ⟨some 83, .fa 0 (.t 6), some (75, true)⟩, ⟨some 84, .ld 1 false (.t 83), some (75, true)⟩, ⟨some 85, .bin .geq (.t 82) (.t 84), some (75, true)⟩, ⟨some 86, .pick (.t 75) (.t 85) (.c (.bool false)), some (72, false)⟩, ⟨some 87, .pick (.t 72) (.c (.bool true)) (.t 86), none⟩, ⟨some 88, .mv (.t 87), none⟩, ⟨some 89, .fa 1 (.t 2), some (88, false)⟩, ⟨some 90, .ld 1 false (.t 89), some (88, false)⟩, ⟨some 91, .bin .neq (.t 90) (.c (.int .i64 0)), some (88, false)⟩, ⟨some 92, .mv (.t 91), some (88, false)⟩, ⟨some 93, .fa 0 (.t 6), some (92, true)⟩, ⟨some 94, .ld 1 false (.t 93), some (92, true)⟩, ⟨some 95, .fa 2 (.t 2), some (92, true)⟩, ⟨some 96, .ld 1 false (.t 95), some (92, true)⟩, ⟨some 97, .bin .geq (.t 94) (.t 96), some (92, true)⟩, ⟨some 98, .pick (.t 92) (.t 97) (.c (.bool false)), some (88, false)⟩, ⟨some 99, .pick (.t 88) (.c (.bool true)) (.t 98), none⟩]) (.cond (.t 99) (.seq (.reg [⟨some 4, .mv (.c (.bool false)), none⟩]) .ret) .skip)))) (.reg [⟨some 100, .bin .add (.t 54) (.c (.int .i64 1)), none⟩, ⟨some 54, .mv (.t 100), none⟩]))))))) (.seq (.reg [⟨some 4, .mv (.c (.bool true)), none⟩]) .ret)))⟩
theorem e68 : cfun Tryz.prog 68 = some c68 := by kernel_rfl
def item0 : ItemM := ⟨nilS, ⟨false, nilS, 0, 0⟩⟩
def itemAt (l : List ItemM) (i : Nat) : ItemM := (l[i]?).getD item0
theorem itemAt_eq {l : List ItemM} {i : Nat} (h : i < l.length) : itemAt l i = l[i] := by simp [itemAt, h]
theorem items_at {l : List ItemM} {i : Nat} (h : i < l.length) : (itemsL l)[(i : Int).toNat]? = some (.v (itemV (itemAt l i))) := by rw [itemAt_eq h]; exact items_get h
theorem items_pred {l : List ItemM} {i : Nat} (h0 : 0 < i) (h : i < l.length) : (itemsL l)[((i : Int) - 1).toNat]? = some (.v (itemV (itemAt l (i - 1)))) := by
  have := items_at (l := l) (i := i - 1) (by omega)
  rwa [show (((i - 1 : Nat)) : Int) = (i : Int) - 1 by omega] at this
instance (s t : ByteArray) : Decidable (sLt s t) := inferInstanceAs (Decidable (_ = true))
def itemP (right : Int) (high : ByteArray) (l : List ItemM) (p : Int) (i : Nat) : Prop :=
  ((itemAt l i).key.size : Int) ≤ p / 8 ∧ lvalP (itemAt l i).v p ∧ (0 < i → sLt (itemAt l (i - 1)).key (itemAt l i).key) ∧ (right ≠ 0 → sLt (itemAt l i).key high)
instance (right : Int) (high : ByteArray) (l : List ItemM) (p : Int) (i : Nat) : Decidable (itemP right high l p i) := inferInstanceAs (Decidable (_ ∧ _ ∧ _ ∧ _))
def mayH (self right : Int) (high : ByteArray) (p : Int) : Prop :=
  sizeB p = true ∧ pageP self ∧ (right = 0 ∨ pageP right) ∧ right ≠ self ∧ (right = 0 ↔ high = nilS) ∧ (high.size : Int) ≤ p / 8
instance (self right : Int) (high : ByteArray) (p : Int) : Decidable (mayH self right high p) := inferInstanceAs (Decidable (_ ∧ _ ∧ _ ∧ _ ∧ _ ∧ _))
def mayL (l : LeafM) (p : Int) : Prop := mayH l.self l.right l.high p ∧ ∀ i, i < l.items.length → itemP l.right l.high l.items p i
instance (l : LeafM) (p : Int) : Decidable (mayL l p) := inferInstanceAs (Decidable (_ ∧ _))
theorem ok_snoc {P : Nat → Prop} {i : Nat} (hok : ∀ j, j < i → P j) (h : P i) : ∀ j, j < i + 1 → P j := fun j hj => by
  rcases Nat.lt_succ_iff_lt_or_eq.1 hj with h' | h'
  · exact hok j h'
  · subst h'; exact h
theorem may_0 (self right : Int) (high : ByteArray) (l : List ItemM) (p : Int) (hl : l.length ≤ 1000000) (hH : mayH self right high p) (hr : right = 0) : DPure Tp I 68 [.agg [VN .i64 self, VN .i64 right, SV high, .list 5 (itemsL l)], VN .i64 p] (BV (decide (mayL ⟨self, right, high, l⟩ p))) := by
  have hll := items_len l
  have no : ∀ {d : DV}, ¬ mayL ⟨self, right, high, l⟩ p → d = BV false → Wk d (BV (decide (mayL ⟨self, right, high, l⟩ p))) := fun h e => by rw [decide_eq_false h, e]; exact .v _
  have hHH := hH
  obtain ⟨g1, g2, g3, g4, g5, g6⟩ := hH
  have hp := sizeB_in g1
  have d1 : DPure Tp I 67 [VN .i64 p] (BV true) := by have := size_D (I := I) p; rwa [g1] at this
  have d2 := dp_t (lnumber_D (I := I) self) g2
  have hhi := g5.1 hr
  refine z_pure (e0 := ?e0x1) mix e68 rfl ?z01 ?_
  (case z01 => exact rfl)
  dsimp only [c68]
  repeat' (first | ((with_reducible apply z_call); (case' hd => apply d1); (case hw => exact wknL_ok rfl); (try any_goals exact sd)) | ((with_reducible apply z_call); (case' hd => apply d2); (case hw => exact wknL_ok rfl); (try any_goals exact sd)) | with_reducible refine s_seql_t hhi ?_ | refine z1 ?_ | refine Br.mk ?_ ?_ | intro _ | refine zf ?_ | fail)
  refine z_loop (fun i : Nat => ⟨[(1, VN .i64 p), (2, .lp 0 0), (52, .list 5 (itemsL l)), (53, VN .i64 (itemsL l).length), (54, VN .i64 i)], [[VN .i64 self, VN .i64 right, SV high, .list 5 (itemsL l)]], []⟩) (fun i : Nat => i ≤ l.length ∧ ∀ j, j < i → itemP right high l p j) (fun i : Nat => l.length - i) (0) ?_ ?_ fun i hi => ?_
  · exact (less_of 1 0 0 rfl rfl (lessE_cons (ltd_eq rfl (by kernel_rfl)) (lessE_cons (ltd_eq rfl (by kernel_rfl)) (lessE_cons (ltd_eq rfl (by kernel_rfl)) (lessE_cons (ltd_eq rfl (by kernel_rfl)) (lessE_cons (ltd_eq rfl (by kernel_rfl)) lessE_nil))))) (by kernel_rfl) (by kernel_rfl) (by kernel_rfl) (by kernel_rfl))
  · exact ⟨Nat.zero_le _, fun j hj => absurd hj (Nat.not_lt_zero j)⟩
  have hile := hi.1
  have hok := hi.2
  by_cases hil : i < l.length
  · by_cases h0 : 0 < i
    · repeat' (first | refine ⟨_, items_at hil, ?_⟩ | refine ⟨_, items_pred h0 hil, ?_⟩ | ((with_reducible apply z_callb); (case' hd => apply (lvalue_D (itemAt l i).v p (by omega))); (case hw => exact wknL_ok rfl); (try any_goals exact sd)) | refine z1 ?_ | refine Br.mk ?_ ?_ | intro _ | refine zf ?_ | fail)
      all_goals first
        | exact no (fun h => by have h2 := h.2 i hil; unfold itemP at h2; grind) (by kernel_rfl)
        | exact ⟨i + 1, (less_of 1 0 0 rfl rfl (lessE_cons (ltd_eq rfl (by kernel_rfl)) (lessE_cons (ltd_eq rfl (by kernel_rfl)) (lessE_cons (ltd_eq rfl (by kernel_rfl)) (lessE_cons (ltd_eq rfl (by kernel_rfl)) (lessE_cons (ltd_eq rfl (by kernel_rfl)) lessE_nil))))) (by kernel_rfl) (by kernel_rfl) (by kernel_rfl) (by kernel_rfl)), ⟨hil, ok_snoc hok (by unfold itemP; grind)⟩, by omega⟩
    · repeat' (first | refine ⟨_, items_at hil, ?_⟩ | ((with_reducible apply z_callb); (case' hd => apply (lvalue_D (itemAt l i).v p (by omega))); (case hw => exact wknL_ok rfl); (try any_goals exact sd)) | refine z1 ?_ | refine Br.mk ?_ ?_ | intro _ | refine zf ?_ | fail)
      all_goals first
        | exact no (fun h => by have h2 := h.2 i hil; unfold itemP at h2; grind) (by kernel_rfl)
        | exact ⟨i + 1, (less_of 1 0 0 rfl rfl (lessE_cons (ltd_eq rfl (by kernel_rfl)) (lessE_cons (ltd_eq rfl (by kernel_rfl)) (lessE_cons (ltd_eq rfl (by kernel_rfl)) (lessE_cons (ltd_eq rfl (by kernel_rfl)) (lessE_cons (ltd_eq rfl (by kernel_rfl)) lessE_nil))))) (by kernel_rfl) (by kernel_rfl) (by kernel_rfl) (by kernel_rfl)), ⟨hil, ok_snoc hok (by unfold itemP; grind)⟩, by omega⟩
  · repeat' (first | refine zs ?_ | refine Br.mk ?_ ?_ | intro _ | refine zf ?_ | fail)
    have hy : mayL ⟨self, right, high, l⟩ p := ⟨hHH, fun j hj => hok j (by have : j < l.length := hj; omega)⟩
    refine bool_of (b := true) (by kernel_rfl) ?_
    exact (decide_eq_true hy).symm

theorem may_1 (self right : Int) (high : ByteArray) (l : List ItemM) (p : Int) (hl : l.length ≤ 1000000) (hH : mayH self right high p) (hr : ¬ right = 0) : DPure Tp I 68 [.agg [VN .i64 self, VN .i64 right, SV high, .list 5 (itemsL l)], VN .i64 p] (BV (decide (mayL ⟨self, right, high, l⟩ p))) := by
  have hll := items_len l
  have no : ∀ {d : DV}, ¬ mayL ⟨self, right, high, l⟩ p → d = BV false → Wk d (BV (decide (mayL ⟨self, right, high, l⟩ p))) := fun h e => by rw [decide_eq_false h, e]; exact .v _
  have hHH := hH
  obtain ⟨g1, g2, g3, g4, g5, g6⟩ := hH
  have hp := sizeB_in g1
  have d1 : DPure Tp I 67 [VN .i64 p] (BV true) := by have := size_D (I := I) p; rwa [g1] at this
  have d2 := dp_t (lnumber_D (I := I) self) g2
  have hhi : ¬ high = nilS := fun e => hr (g5.2 e)
  have d3 := dp_t (lnumber_D (I := I) right) (g3.resolve_left hr)
  refine z_pure (e0 := ?e0x2) mix e68 rfl ?z02 ?_
  (case z02 => exact rfl)
  dsimp only [c68]
  repeat' (first | ((with_reducible apply z_call); (case' hd => apply d1); (case hw => exact wknL_ok rfl); (try any_goals exact sd)) | ((with_reducible apply z_call); (case' hd => apply d2); (case hw => exact wknL_ok rfl); (try any_goals exact sd)) | ((with_reducible apply z_call); (case' hd => apply d3); (case hw => exact wknL_ok rfl); (try any_goals exact sd)) | with_reducible refine s_seql_f hhi ?_ | refine z1 ?_ | refine Br.mk ?_ ?_ | intro _ | refine zf ?_ | fail)
  refine z_loop (fun i : Nat => ⟨[(1, VN .i64 p), (2, .lp 0 0), (52, .list 5 (itemsL l)), (53, VN .i64 (itemsL l).length), (54, VN .i64 i)], [[VN .i64 self, VN .i64 right, SV high, .list 5 (itemsL l)]], []⟩) (fun i : Nat => i ≤ l.length ∧ ∀ j, j < i → itemP right high l p j) (fun i : Nat => l.length - i) (0) ?_ ?_ fun i hi => ?_
  · exact (less_of 1 0 0 rfl rfl (lessE_cons (ltd_eq rfl (by kernel_rfl)) (lessE_cons (ltd_eq rfl (by kernel_rfl)) (lessE_cons (ltd_eq rfl (by kernel_rfl)) (lessE_cons (ltd_eq rfl (by kernel_rfl)) (lessE_cons (ltd_eq rfl (by kernel_rfl)) lessE_nil))))) (by kernel_rfl) (by kernel_rfl) (by kernel_rfl) (by kernel_rfl))
  · exact ⟨Nat.zero_le _, fun j hj => absurd hj (Nat.not_lt_zero j)⟩
  have hile := hi.1
  have hok := hi.2
  by_cases hil : i < l.length
  · by_cases h0 : 0 < i
    · repeat' (first | refine ⟨_, items_at hil, ?_⟩ | refine ⟨_, items_pred h0 hil, ?_⟩ | ((with_reducible apply z_callb); (case' hd => apply (lvalue_D (itemAt l i).v p (by omega))); (case hw => exact wknL_ok rfl); (try any_goals exact sd)) | refine z1 ?_ | refine Br.mk ?_ ?_ | intro _ | refine zf ?_ | fail)
      all_goals first
        | exact no (fun h => by have h2 := h.2 i hil; unfold itemP at h2; grind) (by kernel_rfl)
        | exact ⟨i + 1, (less_of 1 0 0 rfl rfl (lessE_cons (ltd_eq rfl (by kernel_rfl)) (lessE_cons (ltd_eq rfl (by kernel_rfl)) (lessE_cons (ltd_eq rfl (by kernel_rfl)) (lessE_cons (ltd_eq rfl (by kernel_rfl)) (lessE_cons (ltd_eq rfl (by kernel_rfl)) lessE_nil))))) (by kernel_rfl) (by kernel_rfl) (by kernel_rfl) (by kernel_rfl)), ⟨hil, ok_snoc hok (by unfold itemP; grind)⟩, by omega⟩
    · repeat' (first | refine ⟨_, items_at hil, ?_⟩ | ((with_reducible apply z_callb); (case' hd => apply (lvalue_D (itemAt l i).v p (by omega))); (case hw => exact wknL_ok rfl); (try any_goals exact sd)) | refine z1 ?_ | refine Br.mk ?_ ?_ | intro _ | refine zf ?_ | fail)
      all_goals first
        | exact no (fun h => by have h2 := h.2 i hil; unfold itemP at h2; grind) (by kernel_rfl)
        | exact ⟨i + 1, (less_of 1 0 0 rfl rfl (lessE_cons (ltd_eq rfl (by kernel_rfl)) (lessE_cons (ltd_eq rfl (by kernel_rfl)) (lessE_cons (ltd_eq rfl (by kernel_rfl)) (lessE_cons (ltd_eq rfl (by kernel_rfl)) (lessE_cons (ltd_eq rfl (by kernel_rfl)) lessE_nil))))) (by kernel_rfl) (by kernel_rfl) (by kernel_rfl) (by kernel_rfl)), ⟨hil, ok_snoc hok (by unfold itemP; grind)⟩, by omega⟩
  · repeat' (first | refine zs ?_ | refine Br.mk ?_ ?_ | intro _ | refine zf ?_ | fail)
    have hy : mayL ⟨self, right, high, l⟩ p := ⟨hHH, fun j hj => hok j (by have : j < l.length := hj; omega)⟩
    refine bool_of (b := true) (by kernel_rfl) ?_
    exact (decide_eq_true hy).symm

theorem may_2 (self right : Int) (high : ByteArray) (l : List ItemM) (p : Int) (hl : l.length ≤ 1000000) (hH : ¬ mayH self right high p) : DPure Tp I 68 [.agg [VN .i64 self, VN .i64 right, SV high, .list 5 (itemsL l)], VN .i64 p] (BV (decide (mayL ⟨self, right, high, l⟩ p))) := by
  have hll := items_len l
  have no : ∀ {d : DV}, ¬ mayL ⟨self, right, high, l⟩ p → d = BV false → Wk d (BV (decide (mayL ⟨self, right, high, l⟩ p))) := fun h e => by rw [decide_eq_false h, e]; exact .v _
  by_cases hs : sizeB p = true
  · have hp := sizeB_in hs
    have d1 : DPure Tp I 67 [VN .i64 p] (BV true) := by have := size_D (I := I) p; rwa [hs] at this
    refine z_pure (e0 := ?e0x3) mix e68 rfl ?z03 ?_
    (case z03 => exact rfl)
    dsimp only [c68]
    repeat' (first | ((with_reducible apply z_call); (case' hd => apply d1); (case hw => exact wknL_ok rfl); (try any_goals exact sd)) | ((with_reducible apply z_callb); (case' hd => apply (lnumber_D self)); (case hw => exact wknL_ok rfl); (try any_goals exact sd)) | ((with_reducible apply z_callb); (case' hd => apply (lnumber_D right)); (case hw => exact wknL_ok rfl); (try any_goals exact sd)) | refine zs ?_ | refine Br.mk ?_ ?_ | intro _ | refine zf ?_ | fail)
    all_goals first
      | exact no (fun h => hH h.1) (by kernel_rfl)
      | (exact absurd (by unfold mayH; grind) hH)
  · have d1 : DPure Tp I 67 [VN .i64 p] (BV false) := by have := size_D (I := I) p; rwa [show sizeB p = false by simpa using hs] at this
    refine z_pure (e0 := ?e0x4) mix e68 rfl ?z04 ?_
    (case z04 => exact rfl)
    dsimp only [c68]
    repeat' (first | ((with_reducible apply z_call); (case' hd => apply d1); (case hw => exact wknL_ok rfl); (try any_goals exact sd)) | refine zs ?_ | refine Br.mk ?_ ?_ | intro _ | refine zf ?_ | fail)
    exact no (fun h => hH h.1) (by kernel_rfl)
theorem may_D0 (self right : Int) (high : ByteArray) (l : List ItemM) (p : Int) (hl : l.length ≤ 1000000) : DPure Tp I 68 [.agg [VN .i64 self, VN .i64 right, SV high, .list 5 (itemsL l)], VN .i64 p] (BV (decide (mayL ⟨self, right, high, l⟩ p))) := by
  by_cases hH : mayH self right high p
  · by_cases hr : right = 0
    · exact may_0 self right high l p hl hH hr
    · exact may_1 self right high l p hl hH hr
  · exact may_2 self right high l p hl hH
end Go.Proofs.YtlbodfkhenkcjaaGreatDoor.X


namespace Go.Proofs.YtlbodfkhenkcjaaGreatDoor.X
open Go Go.Proofs Go.RowKit Go.Proofs.YtlbodfkhenkcjaaGreatDoor.D
set_option maxRecDepth 100000
set_option maxHeartbeats 1000000
set_option linter.unusedVariables false
set_option linter.unusedSimpArgs false
variable {I : D.Inv}
attribute [local irreducible] D.DPure D.DEff D.callable pvS pvE putS mayE mayT sealS mayL packE packS fixedS cellsOf

def c33 : DFun := ⟨46, [.t 4, .t 5], .seq (.reg [⟨some 2, .box (.t 0), none⟩, ⟨some 4, .mv (.c (.string ⟨#[]⟩)), none⟩, ⟨some 5, .mv (.c (.int .i64 0)), none⟩]) (.seq (.seq (.reg [⟨some 10, .mv (.t 1), none⟩, ⟨some 11, .call 67 [.t 10], none⟩, ⟨some 12, .un .not (.t 11), none⟩]) (.cond (.t 12) (.seq (.reg [⟨some 4, .mv (.c (.string ⟨#[]⟩)), none⟩, ⟨some 5, .mv (.c (.int .i64 4)), none⟩]) .ret) .skip)) (.seq (.seq (.reg [⟨some 13, .ld 4 true (.t 2), none⟩, ⟨some 14, .mv (.t 1), none⟩, ⟨some 15, .call 68 [.t 13, .t 14], none⟩, ⟨some 16, .un .not (.t 15), none⟩]) (.cond (.t 16) (.seq (.reg [⟨some 4, .mv (.c (.string ⟨#[]⟩)), none⟩, ⟨some 5, .mv (.c (.int .i64 3)), none⟩]) .ret) .skip)) (.seq (.reg [⟨some 18, .ld 4 true (.t 2), none⟩, ⟨some 19, .call 69 [.t 18], none⟩, ⟨some 17, .mv (.t 19), none⟩, ⟨some 20, .ext (.t 17) 0, none⟩, ⟨some 21, .ext (.t 17) 1, none⟩, ⟨some 6, .mv (.t 20), none⟩, ⟨some 7, .mv (.t 21), none⟩]) (.seq (.reg [⟨some 23, .mv (.t 1), none⟩, ⟨some 24, .bin .sub (.t 23) (.c (.int .i64 16)), none⟩, ⟨some 25, .mv (.t 6), none⟩, ⟨some 26, .mv (.t 7), none⟩, ⟨some 27, .call 70 [.t 24, .t 25, .t 26], none⟩, ⟨some 22, .mv (.t 27), none⟩, ⟨some 28, .ext (.t 22) 0, none⟩, ⟨some 29, .ext (.t 22) 1, none⟩, ⟨some 8, .mv (.t 28), none⟩, ⟨some 9, .mv (.t 29), none⟩]) (.seq (.seq (.reg [⟨some 30, .mv (.t 9), none⟩, ⟨some 31, .bin .neq (.t 30) (.c (.int .i64 0)), none⟩]) (.cond (.t 31) (.seq (.reg [⟨some 32, .mv (.t 9), none⟩, ⟨some 4, .mv (.c (.string ⟨#[]⟩)), none⟩, ⟨some 5, .mv (.t 32), none⟩]) .ret) .skip)) (.seq (.reg [⟨some 33, .fa 3 (.t 2), none⟩, ⟨some 34, .ld 1 false (.t 33), none⟩, ⟨some 35, .len false (.t 34), none⟩, ⟨some 36, .fa 1 (.t 2), none⟩, ⟨some 37, .ld 1 false (.t 36), none⟩, ⟨some 38, .fa 0 (.t 2), none⟩, ⟨some 39, .ld 1 false (.t 38), none⟩, ⟨some 40, .bld [.int .i64 0, .int .i64 0, .int .i64 0, .int .i64 0, .int .i64 0] [(0, 1, .c (.int .i64 2)), (2, 1, .t 35), (3, 1, .t 37), (4, 1, .t 39)], none⟩, ⟨some 41, .mv (.t 8), none⟩, ⟨some 42, .mv (.t 1), none⟩, ⟨some 43, .call 66 [.t 40, .t 41, .t 42], none⟩, ⟨some 44, .ext (.t 43) 0, none⟩, ⟨some 45, .ext (.t 43) 1, none⟩, ⟨some 4, .mv (.t 44), none⟩, ⟨some 5, .mv (.t 45), none⟩]) .ret))))))⟩
theorem e33 : cfun Tryz.prog 33 = some c33 := by kernel_rfl
theorem putValS_size {t : ByteArray} {v : ValM} (h : putValP t v) : (putValS t v).size ≤ 420 := by
  have h1 := h.1
  have h2 := h.2
  have hT := textS_size t
  have hS := textS_size v.s
  unfold putValS
  unfold rightP at h2
  rcases h2 with ⟨e, e2, e3, e4, _⟩ | ⟨e, _, _, e4⟩
  · rw [if_pos e]
    have := putS_size (n := v.len) (by omega)
    simp only [ByteArray.size_append, strOfNums_size, fourB_size, List.length_cons, List.length_nil]
    omega
  · rw [if_neg (by rw [e]; decide)]
    simp only [ByteArray.size_append, strOfNums_size, List.length_cons, List.length_nil]
    omega
theorem pvS_size (t : ByteArray) (v : ValM) : (pvS t v).size ≤ 420 := by
  by_cases h : putValP t v
  · rw [(pv_yes h).1]; exact putValS_size h
  · rw [(pv_no h).1]; exact Nat.zero_le _
theorem cells_size (l : List ItemM) : (catB (cellsOf l)).size ≤ l.length * 420 := by
  have := cat_le 420 (cellsOf l) (by
    intro c hc
    unfold cellsOf at hc
    obtain ⟨i, hi, rfl⟩ := List.getElem_of_mem hc
    rw [List.getElem_zipWith]
    exact pvS_size _ _)
  rwa [cellsOf_len] at this
def encB (l : LeafM) (p : Int) : ByteArray := packS (p - 16) (fixedS l) (cellsOf l.items)
def encH (l : LeafM) : HeadM := ⟨2, 0, l.items.length, l.right, l.self⟩
def encE (l : LeafM) (p : Int) : Int := if sizeB p = true then (if mayL l p then (if packE (p - 16) (fixedS l) (cellsOf l.items) = 0 then mayE (encH l) (encB l p) p else packE (p - 16) (fixedS l) (cellsOf l.items)) else 3) else 4
def encS (l : LeafM) (p : Int) : ByteArray := if encE l p = 0 then sealS (encH l) (encB l p) p else nilS
theorem fixedS_size (l : LeafM) (hk : ∀ x ∈ l.items, x.key.size ≤ 3000) (hh : l.high.size ≤ 3000) : (fixedS l).size ≤ 6018 := by
  have hks : ∀ s ∈ keysOf l.items, s.size ≤ 3000 := by intro s hs; obtain ⟨x, hx, rfl⟩ := List.mem_map.1 hs; exact hk x hx
  have hA := stripA_size hks
  have p1 := putS_size (n := ((stripA (keysOf l.items)).size : Int)) (by omega)
  have p2 := putS_size (n := (l.high.size : Int)) (by omega)
  unfold fixedS
  simp only [ByteArray.size_append]
  omega
theorem packB_size {room : Int} {fx : ByteArray} {l : List ByteArray} (h : packE room fx l = 0) : (packB room fx l).size ≤ room.toNat := by
  have hz := pkT_size fx l
  unfold packE at h
  split at h
  · omega
  · split at h
    · omega
    · rename_i h1 h2
      have hs : sizeN fx l = fx.size + (catB l).size + 2 * (l.length + 1) := rfl
      unfold packB
      simp only [ByteArray.size_append, zeroB_size, placeS_size]
      omega
theorem packS_size (room : Int) (fx : ByteArray) (l : List ByteArray) : (packS room fx l).size ≤ room.toNat := by
  by_cases h : packE room fx l = 0
  · unfold packS; rw [if_pos h]; exact packB_size h
  · unfold packS; rw [if_neg h]; exact Nat.zero_le _
theorem encode_D0 (self right : Int) (high : ByteArray) (l : List ItemM) (p : Int) (hl : l.length ≤ 1000) (hk : ∀ x ∈ l, x.key.size ≤ 3000) (hh : high.size ≤ 3000) :
    DPure Tp I 33 [.agg [VN .i64 self, VN .i64 right, SV high, .list 5 (itemsL l)], VN .i64 p] (.v (.tuple #[.string (encS ⟨self, right, high, l⟩ p), .int .i64 (encE ⟨self, right, high, l⟩ p)])) := by
  have hll := items_len l
  by_cases hs : sizeB p = true
  · have hp := sizeB_in hs
    have d1 : DPure Tp I 67 [VN .i64 p] (BV true) := by have := size_D (I := I) p; rwa [hs] at this
    have d2 := may_D0 (I := I) self right high l p (by omega)
    by_cases hm : mayL ⟨self, right, high, l⟩ p
    · have d2 := dp_t d2 hm
      have d3 := parts_D0 (I := I) self right high l (by omega) (fun x hx => by have := hk x hx; omega) (by omega)
      have hf := fixedS_size ⟨self, right, high, l⟩ hk hh
      have hc := cells_size l
      have hcl := cellsOf_len l
      have d4 := pack_D (I := I) (p - 16) (fixedS ⟨self, right, high, l⟩) (cellsOf l) (by omega) (by omega) (by omega) (by omega)
      have hb := packS_size (p - 16) (fixedS ⟨self, right, high, l⟩) (cellsOf l)
      have d5 := seal_D0 (I := I) 2 0 l.length right self (encH ⟨self, right, high, l⟩) rfl (encB ⟨self, right, high, l⟩ p) p (Nat.le_trans hb (by omega))
      have hE : encE ⟨self, right, high, l⟩ p = if packE (p - 16) (fixedS ⟨self, right, high, l⟩) (cellsOf l) = 0 then mayE (encH ⟨self, right, high, l⟩) (encB ⟨self, right, high, l⟩ p) p else packE (p - 16) (fixedS ⟨self, right, high, l⟩) (cellsOf l) := by unfold encE; rw [if_pos hs, if_pos hm]
      rw [← hll] at d5
      by_cases hk0 : packE (p - 16) (fixedS ⟨self, right, high, l⟩) (cellsOf l) = 0
      · rw [if_pos hk0] at hE
        have hS : encS ⟨self, right, high, l⟩ p = sealS (encH ⟨self, right, high, l⟩) (encB ⟨self, right, high, l⟩ p) p := by
          unfold encS
          rw [hE]
          split
          · rfl
          · unfold sealS; rw [if_neg ‹_›]
        refine z_pure (e0 := ?e0x1) mix e33 rfl ?z01 ?_
        (case z01 => exact rfl)
        dsimp only [c33]
        repeat' (first | ((with_reducible apply z_call); (case' hd => apply d1); (case hw => exact wknL_ok rfl); (try any_goals exact sd)) | ((with_reducible apply z_call); (case' hd => apply d2); (case hw => exact wknL_ok rfl); (try any_goals exact sd)) | ((with_reducible apply z_call); (case' hd => apply d3); (case hw => exact wknL_ok rfl); (try any_goals exact sd)) | ((with_reducible apply z_call); (case' hd => apply d4); (case hw => exact wknL_ok rfl); (try any_goals exact sd)) | ((with_reducible apply z_call); (case' hd => apply d5); (case hw => exact wknL_ok rfl); (try any_goals exact sd)) | refine zs ?_ | refine Br.mk ?_ ?_ | intro _ | refine zf ?_ | fail)
        refine tup2_of (a := .string (sealS (encH ⟨self, right, high, l⟩) (encB ⟨self, right, high, l⟩ p) p)) (b := .int .i64 (mayE (encH ⟨self, right, high, l⟩) (encB ⟨self, right, high, l⟩ p) p)) (by kernel_rfl) ?_ ?_
        · exact congrArg Value.string hS
        · exact congrArg (Value.int .i64) hE
      · rw [if_neg hk0] at hE
        refine z_pure (e0 := ?e0x2) mix e33 rfl ?z02 ?_
        (case z02 => exact rfl)
        dsimp only [c33]
        repeat' (first | ((with_reducible apply z_call); (case' hd => apply d1); (case hw => exact wknL_ok rfl); (try any_goals exact sd)) | ((with_reducible apply z_call); (case' hd => apply d2); (case hw => exact wknL_ok rfl); (try any_goals exact sd)) | ((with_reducible apply z_call); (case' hd => apply d3); (case hw => exact wknL_ok rfl); (try any_goals exact sd)) | ((with_reducible apply z_call); (case' hd => apply d4); (case hw => exact wknL_ok rfl); (try any_goals exact sd)) | refine zs ?_ | refine Br.mk ?_ ?_ | intro _ | refine zf ?_ | fail)
        refine tup2_of (a := .string nilS) (b := .int .i64 (packE (p - 16) (fixedS ⟨self, right, high, l⟩) (cellsOf l))) (by kernel_rfl) ?_ ?_
        · exact congrArg Value.string (if_neg (by rw [hE]; exact hk0))
        · exact congrArg (Value.int .i64) hE
    · have d2 := dp_f d2 hm
      have hE : encE ⟨self, right, high, l⟩ p = 3 := by unfold encE; rw [if_pos hs, if_neg hm]
      refine z_pure (e0 := ?e0x3) mix e33 rfl ?z03 ?_
      (case z03 => exact rfl)
      dsimp only [c33]
      repeat' (first | ((with_reducible apply z_call); (case' hd => apply d1); (case hw => exact wknL_ok rfl); (try any_goals exact sd)) | ((with_reducible apply z_call); (case' hd => apply d2); (case hw => exact wknL_ok rfl); (try any_goals exact sd)) | refine zs ?_ | refine Br.mk ?_ ?_ | intro _ | refine zf ?_ | fail)
      refine tup2_of (a := .string nilS) (b := .int .i64 3) (by kernel_rfl) ?_ ?_
      · exact congrArg Value.string (if_neg (by rw [hE]; decide))
      · exact congrArg (Value.int .i64) hE
  · have d1 : DPure Tp I 67 [VN .i64 p] (BV false) := by have := size_D (I := I) p; rwa [show sizeB p = false by simpa using hs] at this
    have hE : encE ⟨self, right, high, l⟩ p = 4 := by unfold encE; rw [if_neg hs]
    refine z_pure (e0 := ?e0x4) mix e33 rfl ?z04 ?_
    (case z04 => exact rfl)
    dsimp only [c33]
    repeat' (first | ((with_reducible apply z_call); (case' hd => apply d1); (case hw => exact wknL_ok rfl); (try any_goals exact sd)) | refine zs ?_ | refine Br.mk ?_ ?_ | intro _ | refine zf ?_ | fail)
    refine tup2_of (a := .string nilS) (b := .int .i64 4) (by kernel_rfl) ?_ ?_
    · exact congrArg Value.string (if_neg (by rw [hE]; decide))
    · exact congrArg (Value.int .i64) hE
end Go.Proofs.YtlbodfkhenkcjaaGreatDoor.X


namespace Go.Proofs.YtlbodfkhenkcjaaGreatDoor.X
open Go Go.Proofs Go.RowKit Go.Proofs.YtlbodfkhenkcjaaGreatDoor.D
set_option maxRecDepth 100000
set_option maxHeartbeats 1000000
set_option linter.unusedVariables false
set_option linter.unusedSimpArgs false
variable {I : D.Inv}
attribute [local irreducible] D.DPure D.DEff D.callable opH opB opE

def c99 : DFun := ⟨24, [.t 4], .seq (.reg [⟨some 2, .box (.t 0), none⟩, ⟨some 4, .mv (.c (.bool false)), none⟩]) (.seq (.seq (.reg [⟨some 5, .fa 1 (.t 2), none⟩, ⟨some 6, .ld 1 false (.t 5), none⟩, ⟨some 7, .bin .neq (.t 6) (.c (.int .i64 0)), none⟩]) (.cond (.t 7) (.seq (.reg [⟨some 8, .fa 2 (.t 2), none⟩, ⟨some 9, .ld 1 false (.t 8), none⟩, ⟨some 10, .len true (.t 9), none⟩, ⟨some 11, .mv (.t 1), none⟩, ⟨some 12, .bin .eql (.t 10) (.t 11), none⟩, ⟨some 4, .mv (.t 12), none⟩]) .ret) .skip)) (.seq (.reg [⟨some 13, .fa 2 (.t 2), none⟩, ⟨some 14, .ld 1 false (.t 13), none⟩, ⟨some 15, .len true (.t 14), none⟩, ⟨some 16, .bin .geq (.t 15) (.c (.int .i64 1)), none⟩, ⟨some 17, .mv (.t 16), none⟩, ⟨some 18, .fa 2 (.t 2), some (17, true)⟩, ⟨some 19, .ld 1 false (.t 18), some (17, true)⟩, ⟨some 20, .len true (.t 19), some (17, true)⟩, ⟨some 21, .mv (.t 1), some (17, true)⟩, ⟨some 22, .bin .leq (.t 20) (.t 21), some (17, true)⟩, ⟨some 23, .pick (.t 17) (.t 22) (.c (.bool false)), none⟩, ⟨some 4, .mv (.t 23), none⟩]) .ret))⟩
theorem e99 : cfun Tryz.prog 99 = some c99 := by kernel_rfl
def c57 : DFun := ⟨42, [.t 4], .seq (.reg [⟨some 2, .box (.t 0), none⟩, ⟨some 4, .mv (.c (.bool false)), none⟩]) (.seq (.reg [⟨some 5, .mv (.f 99), none⟩]) (.seq (.reg [⟨some 6, .mv (.t 1), none⟩, ⟨some 7, .call 67 [.t 6], none⟩, ⟨some 8, .mv (.t 7), none⟩, ⟨some 9, .fa 0 (.t 2), some (8, true)⟩, ⟨some 10, .ld 1 false (.t 9), some (8, true)⟩, ⟨some 11, .bin .geq (.t 10) (.c (.int .i64 1)), some (8, true)⟩, ⟨some 12, .pick (.t 8) (.t 11) (.c (.bool false)), none⟩, ⟨some 13, .mv (.t 12), none⟩, ⟨some 14, .fa 0 (.t 2), some (13, true)⟩, ⟨some 15, .ld 1 false (.t 14), some (13, true)⟩, ⟨some 16, .bin .lss (.t 15) (.c (.int .i64 4096)), some (13, true)⟩, ⟨some 17, .pick (.t 13) (.t 16) (.c (.bool false)), none⟩, ⟨some 18, .mv (.t 17), none⟩, ⟨some 19, .fa 1 (.t 2), some (18, true)⟩, ⟨some 20, .ld 1 false (.t 19), some (18, true)⟩, ⟨some 21, .bin .geq (.t 20) (.c (.int .i64 0)), some (18, true)⟩, ⟨some 22, .pick (.t 18) (.t 21) (.c (.bool false)), none⟩, ⟨some 23, .mv (.t 22), none⟩, ⟨some 24, .fa 1 (.t 2), some (23, true)⟩, ⟨some 25, .ld 1 false (.t 24), some (23, true)⟩, ⟨some 26, .bin .lss (.t 25) (.c (.int .i64 4096)), some (23, true)⟩, ⟨some 27, .pick (.t 23) (.t 26) (.c (.bool false)), none⟩, ⟨some 28, .mv (.t 27), none⟩, ⟨some 29, .fa 1 (.t 2), some (28, true)⟩, ⟨some 30, .ld 1 false (.t 29), some (28, true)⟩, ⟨some 31, .fa 0 (.t 2), some (28, true)⟩, ⟨some 32, .ld 1 false (.t 31), some (28, true)⟩, ⟨some 33, .bin .neq (.t 30) (.t 32), some (28, true)⟩, ⟨some 34, .pick (.t 28) (.t 33) (.c (.bool false)), none⟩, ⟨some 35, .mv (.t 34), none⟩, ⟨some 36, .mv (.t 5), some (35, true)⟩, ⟨some 37, .ld 3 true (.t 2), some (35, true)⟩, ⟨some 38, .mv (.t 1), some (35, true)⟩, ⟨some 39, .bin .sub (.t 38) (.c (.int .i64 16)), some (35, true)⟩, ⟨some 40, .callv (.t 36) [.t 37, .t 39], some (35, true)⟩, ⟨some 41, .pick (.t 35) (.t 40) (.c (.bool false)), none⟩, ⟨some 4, .mv (.t 41), none⟩]) .ret))⟩
theorem e57 : cfun Tryz.prog 57 = some c57 := by kernel_rfl
def c27 : DFun := ⟨58, [.c 2 3 true, .t 3], .seq (.reg [⟨some 2, .zero (.agg #[.int .i64 0, .int .i64 0, .string ⟨#[]⟩]), none⟩, ⟨some 3, .mv (.c (.int .i64 0)), none⟩]) (.seq (.reg [⟨some 9, .mv (.t 0), none⟩, ⟨some 10, .call 51 [.t 9], none⟩, ⟨some 8, .mv (.t 10), none⟩, ⟨some 11, .ext (.t 8) 0, none⟩, ⟨some 12, .ext (.t 8) 1, none⟩, ⟨some 13, .ext (.t 8) 2, none⟩, ⟨some 4, .zero (.agg #[.int .i64 0, .int .i64 0, .int .i64 0, .int .i64 0, .int .i64 0]), none⟩, ⟨none, .st 5 (.t 4) (.t 11), none⟩, ⟨some 5, .mv (.t 12), none⟩, ⟨some 6, .mv (.t 13), none⟩]) (.seq (.seq (.reg [⟨some 14, .mv (.t 6), none⟩, ⟨some 15, .bin .neq (.t 14) (.c (.int .i64 0)), none⟩, ⟨some 16, .mv (.t 15), none⟩, ⟨some 17, .fa 0 (.t 4), some (16, false)⟩, ⟨some 18, .ld 1 false (.t 17), some (16, false)⟩, ⟨some 19, .bin .neq (.t 18) (.c (.int .i64 4)), some (16, false)⟩, ⟨some 20, .pick (.t 16) (.c (.bool true)) (.t 19), none⟩, ⟨some 21, .mv (.t 20), none⟩, ⟨some 22, .fa 1 (.t 4), some (21, false)⟩, ⟨some 23, .ld 1 false (.t 22), some (21, false)⟩, ⟨some 24, .bin .neq (.t 23) (.c (.int .i64 0)), some (21, false)⟩, ⟨some 25, .pick (.t 21) (.c (.bool true)) (.t 24), none⟩, ⟨some 26, .mv (.t 25), none⟩, ⟨some 27, .fa 2 (.t 4), some (26, false)⟩, ⟨some 28, .ld 1 false (.t 27), some (26, false)⟩, ⟨some 29, .mv (.t 5), some (26, false)⟩, ⟨some 30, .len true (.t 29), some (26, false)⟩, ⟨some 31, .bin .gtr (.t 28) (.t 30), some (26, false)⟩, ⟨some 32, .pick (.t 26) (.c (.bool true)) (.t 31), none⟩]) (.cond (.t 32) (.seq (.reg [⟨some 33, .bld [.int .i64 0, .int .i64 0, .string ⟨#[]⟩] [], none⟩, ⟨none, .st 3 (.t 2) (.t 33), none⟩, ⟨some 3, .mv (.c (.int .i64 3)), none⟩]) .ret) .skip)) (.seq (.reg [⟨some 34, .fa 4 (.t 4), none⟩, ⟨some 35, .ld 1 false (.t 34), none⟩, ⟨some 36, .fa 3 (.t 4), none⟩, ⟨some 37, .ld 1 false (.t 36), none⟩, ⟨some 38, .mv (.t 5), none⟩, ⟨some 39, .fa 2 (.t 4), none⟩, ⟨some 40, .ld 1 false (.t 39), none⟩, ⟨some 41, .slS (.t 38) none (some (.t 40)), none⟩, ⟨some 42, .bld [.int .i64 0, .int .i64 0, .string ⟨#[]⟩] [(0, 1, .t 35), (1, 1, .t 37), (2, 1, .t 41)], none⟩, ⟨some 7, .zero (.agg #[.int .i64 0, .int .i64 0, .string ⟨#[]⟩]), none⟩, ⟨none, .st 3 (.t 7) (.t 42), none⟩]) (.seq (.seq (.reg [⟨some 43, .ld 3 true (.t 7), none⟩, ⟨some 44, .mv (.t 0), none⟩, ⟨some 45, .len true (.t 44), none⟩, ⟨some 46, .call 57 [.t 43, .t 45], none⟩, ⟨some 47, .un .not (.t 46), none⟩, ⟨some 48, .mv (.t 47), none⟩, ⟨some 49, .mv (.t 5), some (48, false)⟩, ⟨some 50, .fa 2 (.t 4), some (48, false)⟩, ⟨some 51, .ld 1 false (.t 50), some (48, false)⟩, ⟨some 52, .slS (.t 49) (some (.t 51)) none, some (48, false)⟩, ⟨some 53, .call 58 [.t 52, .c (.string ⟨#[0]⟩)], some (48, false)⟩, ⟨some 54, .bin .neq (.t 53) (.c (.string ⟨#[]⟩)), some (48, false)⟩, ⟨some 55, .pick (.t 48) (.c (.bool true)) (.t 54), none⟩]) (.cond (.t 55) (.seq (.reg [⟨some 56, .bld [.int .i64 0, .int .i64 0, .string ⟨#[]⟩] [], none⟩, ⟨none, .st 3 (.t 2) (.t 56), none⟩, ⟨some 3, .mv (.c (.int .i64 3)), none⟩]) .ret) .skip)) (.seq (.reg [⟨some 57, .ld 3 true (.t 7), none⟩, ⟨none, .st 3 (.t 2) (.t 57), none⟩, ⟨some 3, .mv (.c (.int .i64 0)), none⟩]) .ret)))))⟩
theorem e27 : cfun Tryz.prog 27 = some c27 := by kernel_rfl
def c58 : DFun := ⟨43, [.t 4], .seq (.reg [⟨some 4, .mv (.c (.string ⟨#[]⟩)), none⟩]) (.seq (.seq (.reg [⟨some 7, .mv (.t 0), none⟩, ⟨some 8, .bin .eql (.t 7) (.c (.string ⟨#[]⟩)), none⟩, ⟨some 9, .mv (.t 8), none⟩, ⟨some 10, .mv (.t 1), some (9, false)⟩, ⟨some 11, .bin .eql (.t 10) (.c (.string ⟨#[]⟩)), some (9, false)⟩, ⟨some 12, .pick (.t 9) (.c (.bool true)) (.t 11), none⟩]) (.cond (.t 12) (.seq (.reg [⟨some 13, .mv (.t 0), none⟩, ⟨some 4, .mv (.t 13), none⟩]) .ret) .skip)) (.seq (.seq (.reg [⟨some 14, .mv (.t 1), none⟩, ⟨some 15, .len true (.t 14), none⟩, ⟨some 16, .bin .eql (.t 15) (.c (.int .i64 1)), none⟩, ⟨some 17, .mv (.t 16), none⟩, ⟨some 18, .mv (.t 1), some (17, true)⟩, ⟨some 19, .ixs (.t 18) (.c (.int .i64 0)), some (17, true)⟩, ⟨some 20, .bin .lss (.t 19) (.c (.int .u8 128)), some (17, true)⟩, ⟨some 21, .pick (.t 17) (.t 20) (.c (.bool false)), none⟩]) (.cond (.t 21) (.seq (.reg [⟨some 22, .mv (.t 0), none⟩, ⟨some 23, .mv (.t 1), none⟩, ⟨some 24, .ixs (.t 23) (.c (.int .i64 0)), none⟩, ⟨some 25, .call 101 [.t 22, .t 24], none⟩, ⟨some 26, .mv (.t 1), none⟩, ⟨some 27, .ixs (.t 26) (.c (.int .i64 0)), none⟩, ⟨some 28, .call 100 [.t 25, .t 27], none⟩, ⟨some 4, .mv (.t 28), none⟩]) .ret) .skip)) (.seq (.seq (.reg [⟨some 30, .mv (.t 1), none⟩, ⟨some 31, .call 102 [.t 30], none⟩, ⟨some 29, .mv (.t 31), none⟩, ⟨some 32, .ext (.t 29) 0, none⟩, ⟨some 33, .ext (.t 29) 1, none⟩, ⟨some 5, .zero (.agg #[.bool false, .bool false, .bool false, .bool false, .bool false, .bool false, .bool false, .bool false, .bool false, .bool false, .bool false, .bool false, .bool false, .bool false, .bool false, .bool false, .bool false, .bool false, .bool false, .bool false, .bool false, .bool false, .bool false, .bool false, .bool false, .bool false, .bool false, .bool false, .bool false, .bool false, .bool false, .bool false, .bool false, .bool false, .bool false, .bool false, .bool false, .bool false, .bool false, .bool false, .bool false, .bool false, .bool false, .bool false, .bool false, .bool false, .bool false, .bool false, .bool false, .bool false, .bool false, .bool false, .bool false, .bool false, .bool false, .bool false, .bool false, .bool false, .bool false, .bool false, .bool false, .bool false, .bool false, .bool false, .bool false, .bool false, .bool false, .bool false, .bool false, .bool false, .bool false, .bool false, .bool false, .bool false, .bool false, .bool false, .bool false, .bool false, .bool false, .bool false, .bool false, .bool false, .bool false, .bool false, .bool false, .bool false, .bool false, .bool false, .bool false, .bool false, .bool false, .bool false, .bool false, .bool false, .bool false, .bool false, .bool false, .bool false, .bool false, .bool false, .bool false, .bool false, .bool false, .bool false, .bool false, .bool false, .bool false, .bool false, .bool false, .bool false, .bool false, .bool false, .bool false, .bool false, .bool false, .bool false, .bool false, .bool false, .bool false, .bool false, .bool false, .bool false, .bool false, .bool false, .bool false, .bool false, .bool false, .bool false, .bool false, .bool false, .bool false, .bool false, .bool false, .bool false, .bool false, .bool false, .bool false, .bool false, .bool false, .bool false, .bool false, .bool false, .bool false, .bool false, .bool false, .bool false, .bool false, .bool false, .bool false, .bool false, .bool false, .bool false, .bool false, .bool false, .bool false, .bool false, .bool false, .bool false, .bool false, .bool false, .bool false, .bool false, .bool false, .bool false, .bool false, .bool false, .bool false, .bool false, .bool false, .bool false, .bool false, .bool false, .bool false, .bool false, .bool false, .bool false, .bool false, .bool false, .bool false, .bool false, .bool false, .bool false, .bool false, .bool false, .bool false, .bool false, .bool false, .bool false, .bool false, .bool false, .bool false, .bool false, .bool false, .bool false, .bool false, .bool false, .bool false, .bool false, .bool false, .bool false, .bool false, .bool false, .bool false, .bool false, .bool false, .bool false, .bool false, .bool false, .bool false, .bool false, .bool false, .bool false, .bool false, .bool false, .bool false, .bool false, .bool false, .bool false, .bool false, .bool false, .bool false, .bool false, .bool false, .bool false, .bool false, .bool false, .bool false, .bool false, .bool false, .bool false, .bool false, .bool false, .bool false, .bool false, .bool false, .bool false, .bool false, .bool false, .bool false, .bool false, .bool false, .bool false, .bool false, .bool false, .bool false, .bool false, .bool false, .bool false, .bool false, .bool false, .bool false, .bool false, .bool false, .bool false, .bool false, .bool false]), none⟩, ⟨none, .st 256 (.t 5) (.t 32), none⟩, ⟨some 6, .mv (.t 33), none⟩]) (.seq (.reg [⟨some 34, .mv (.t 6), none⟩]) (.cond (.t 34) (.seq (.reg [⟨some 35, .mv (.t 0), none⟩, ⟨some 36, .calle 104 [.t 35, .t 5], none⟩, ⟨some 37, .calle 103 [.t 36, .t 5], none⟩, ⟨some 4, .mv (.t 37), none⟩]) .ret) .skip))) (.seq (.reg [⟨some 38, .mv (.t 0), none⟩, ⟨some 39, .mv (.t 1), none⟩, ⟨some 40, .call 106 [.t 38, .t 39], none⟩, ⟨some 41, .mv (.t 1), none⟩, ⟨some 42, .call 105 [.t 40, .t 41], none⟩, ⟨some 4, .mv (.t 42), none⟩]) .ret))))⟩
theorem e58 : cfun Tryz.prog 58 = some c58 := by kernel_rfl
def c100 : DFun := ⟨17, [.t 4], .seq (.reg [⟨some 4, .mv (.c (.string ⟨#[]⟩)), none⟩]) (.seq (.block 0 (.loop (.seq (.seq (.reg [⟨some 5, .mv (.t 0), none⟩, ⟨some 6, .len true (.t 5), none⟩, ⟨some 7, .bin .gtr (.t 6) (.c (.int .i64 0)), none⟩, ⟨some 8, .mv (.t 7), none⟩, ⟨some 9, .mv (.t 0), some (8, true)⟩, ⟨some 10, .ixs (.t 9) (.c (.int .i64 0)), some (8, true)⟩, ⟨some 11, .mv (.t 1), some (8, true)⟩, ⟨some 12, .bin .eql (.t 10) (.t 11), some (8, true)⟩, ⟨some 13, .pick (.t 8) (.t 12) (.c (.bool false)), none⟩]) (.cond (.t 13) .skip (.exit 0))) (.block 1 (.reg [⟨some 14, .mv (.t 0), none⟩, ⟨some 15, .slS (.t 14) (some (.c (.int .i64 1))) none, none⟩, ⟨some 0, .mv (.t 15), none⟩]))))) (.seq (.reg [⟨some 16, .mv (.t 0), none⟩, ⟨some 4, .mv (.t 16), none⟩]) .ret))⟩
theorem e100 : cfun Tryz.prog 100 = some c100 := by kernel_rfl
def c101 : DFun := ⟨23, [.t 4], .seq (.reg [⟨some 4, .mv (.c (.string ⟨#[]⟩)), none⟩]) (.seq (.block 0 (.loop (.seq (.seq (.reg [⟨some 5, .mv (.t 0), none⟩, ⟨some 6, .len true (.t 5), none⟩, ⟨some 7, .bin .gtr (.t 6) (.c (.int .i64 0)), none⟩, ⟨some 8, .mv (.t 7), none⟩, ⟨some 9, .mv (.t 0), some (8, true)⟩, ⟨some 10, .mv (.t 0), some (8, true)⟩, ⟨some 11, .len true (.t 10), some (8, true)⟩, ⟨some 12, .bin .sub (.t 11) (.c (.int .i64 1)), some (8, true)⟩, ⟨some 13, .ixs (.t 9) (.t 12), some (8, true)⟩, ⟨some 14, .mv (.t 1), some (8, true)⟩, ⟨some 15, .bin .eql (.t 13) (.t 14), some (8, true)⟩, ⟨some 16, .pick (.t 8) (.t 15) (.c (.bool false)), none⟩]) (.cond (.t 16) .skip (.exit 0))) (.block 1 (.reg [⟨some 17, .mv (.t 0), none⟩, ⟨some 18, .mv (.t 0), none⟩, ⟨some 19, .len true (.t 18), none⟩, ⟨some 20, .bin .sub (.t 19) (.c (.int .i64 1)), none⟩, ⟨some 21, .slS (.t 17) none (some (.t 20)), none⟩, ⟨some 0, .mv (.t 21), none⟩]))))) (.seq (.reg [⟨some 22, .mv (.t 0), none⟩, ⟨some 4, .mv (.t 22), none⟩]) .ret))⟩
theorem e101 : cfun Tryz.prog 101 = some c101 := by kernel_rfl
theorem byteAt_ext {s : ByteArray} {a b i : Nat} (h : a + i < b) (hb : b ≤ s.size) : byteAt (s.extract a b) i = byteAt s (a + i) := by
  unfold byteAt
  have : (s.extract a b).data.toList = (s.data.toList.take b).drop a := by simp [ByteArray.data_extract, List.drop_take]
  rw [this, List.getElem?_drop, List.getElem?_take, if_pos h]
theorem ext_ext {s : ByteArray} {a b c d : Nat} (hb : b ≤ s.size) (hd : a + d ≤ b) : (s.extract a b).extract c d = s.extract (a + c) (a + d) := by
  refine bytes_ext ?_
  rw [ByteArray.toList_eq, ByteArray.toList_eq]
  simp only [ByteArray.data_extract, Array.toList_extract, List.extract_eq_take_drop]
  rw [List.drop_take, List.drop_drop, List.take_take]
  congr 1
  omega
def trR (s : ByteArray) (c : Int) : Nat → Nat
  | 0 => 0
  | n + 1 => if byteAt s n = c then trR s c n else n + 1
def trL (s : ByteArray) (c : Int) : Nat → Nat → Nat
  | 0, k => k
  | f + 1, k => if k < s.size ∧ byteAt s k = c then trL s c f (k + 1) else k
def trimR (s : ByteArray) (c : Int) : ByteArray := s.extract 0 (trR s c s.size)
def trimL (s : ByteArray) (c : Int) : ByteArray := s.extract (trL s c s.size 0) s.size
theorem ext_size {s : ByteArray} {a b : Nat} (hb : b ≤ s.size) : (s.extract a b).size = b - a := by rw [ByteArray.size_extract]; omega
theorem ext_self (s : ByteArray) : s.extract 0 s.size = s := by simp
theorem trimR_D (s : ByteArray) (c : Int) (hs : s.size ≤ 1000000) : DPure Tp I 101 [SV s, VN .u8 c] (SV (trimR s c)) := by
  have he := ext_self s
  refine z_pure (e0 := ?e0x1) mix e101 rfl ?z01 ?_
  (case z01 => exact rfl)
  dsimp only [c101]
  repeat' (first | refine zs ?_ | refine Br.mk ?_ ?_ | intro _ | refine zf ?_ | fail)
  refine z_loop (fun n : Nat => ⟨[(0, SV (s.extract 0 n)), (1, VN .u8 c)], [], []⟩) (fun n => n ≤ s.size ∧ trR s c n = trR s c s.size) (fun n => n) s.size ?_ ?_ fun n hn => ?_
  · exact (less_of 0 0 0 rfl rfl (lessE_cons (ltd_eq rfl (by rw [he]; kernel_rfl)) (lessE_cons (ltd_eq rfl (by kernel_rfl)) lessE_nil)) (by kernel_rfl) (by kernel_rfl) (by kernel_rfl) (by kernel_rfl))
  · exact ⟨Nat.le_refl _, rfl⟩
  have hn1 := hn.1
  have hz := ext_size (s := s) (a := 0) hn1
  cases n with
  | zero =>
    repeat' (first | refine zs ?_ | refine Br.mk ?_ ?_ | intro _ | refine zf ?_ | fail)
    refine str_of (s := s.extract 0 0) (by kernel_rfl) ?_
    rw [trimR, ← hn.2]; rfl
  | succ n =>
    have hb := byteAt_ext (s := s) (a := 0) (b := n + 1) (i := n) (by omega) hn1
    have hx := ext_ext (s := s) (a := 0) (b := n + 1) (c := 0) (d := n) hn1 (by omega)
    have ht : (((s.extract 0 (n + 1)).size : Int) - 1).toNat = n := by omega
    repeat' (first | refine zs ?_ | refine Br.mk ?_ ?_ | intro _ | refine zf ?_ | fail)
    · refine ⟨n, (less_of 0 0 0 rfl rfl (lessE_cons (ltd_eq rfl ?_) (lessE_cons (ltd_eq rfl (by kernel_rfl)) lessE_nil)) (by kernel_rfl) (by kernel_rfl) (by kernel_rfl) (by kernel_rfl)), ⟨by omega, ?_⟩, by omega⟩
      · refine Eq.trans (b := SV ((s.extract 0 (n + 1)).extract 0 (((s.extract 0 (n + 1)).size : Int) - 1).toNat)) (by kernel_rfl) ?_
        rw [ht, hx, Nat.zero_add, Nat.zero_add]
      · have e : byteAt s n = c := by rw [← ‹byteAt _ _ = c›, ht, hb, Nat.zero_add]
        rw [← hn.2]; exact (if_pos e).symm
    · refine str_of (s := s.extract 0 (n + 1)) (by kernel_rfl) ?_
      have e : ¬ byteAt s n = c := fun e => ‹¬ byteAt _ _ = c› (by rw [ht, hb, Nat.zero_add]; exact e)
      rw [trimR, ← hn.2, show trR s c (n + 1) = n + 1 from if_neg e]
theorem trimL_D (s : ByteArray) (c : Int) (hs : s.size ≤ 1000000) : DPure Tp I 100 [SV s, VN .u8 c] (SV (trimL s c)) := by
  have he := ext_self s
  refine z_pure (e0 := ?e0x2) mix e100 rfl ?z02 ?_
  (case z02 => exact rfl)
  dsimp only [c100]
  repeat' (first | refine zs ?_ | refine Br.mk ?_ ?_ | intro _ | refine zf ?_ | fail)
  refine z_loop (fun k : Nat => ⟨[(0, SV (s.extract k s.size)), (1, VN .u8 c)], [], []⟩) (fun k => k ≤ s.size ∧ trL s c (s.size - k) k = trL s c s.size 0) (fun k => s.size - k) 0 ?_ ?_ fun k hk => ?_
  · exact (less_of 0 0 0 rfl rfl (lessE_cons (ltd_eq rfl (by rw [he]; kernel_rfl)) (lessE_cons (ltd_eq rfl (by kernel_rfl)) lessE_nil)) (by kernel_rfl) (by kernel_rfl) (by kernel_rfl) (by kernel_rfl))
  · exact ⟨Nat.zero_le _, rfl⟩
  have hk1 := hk.1
  have hz := ext_size (s := s) (a := k) (Nat.le_refl s.size)
  by_cases hlt : k < s.size
  · have hb := byteAt_ext (s := s) (a := k) (b := s.size) (i := (0 : Int).toNat) (by show k + 0 < _; omega) (Nat.le_refl _)
    have hx := ext_ext (s := s) (a := k) (b := s.size) (c := 1) (d := s.size - k) (Nat.le_refl _) (by omega)
    have hf : s.size - k = (s.size - (k + 1)) + 1 := by omega
    repeat' (first | refine zs ?_ | refine Br.mk ?_ ?_ | intro _ | refine zf ?_ | fail)
    · have e : byteAt s k = c := by rw [← ‹byteAt _ _ = c›, hb]; rfl
      refine ⟨k + 1, (less_of 0 0 0 rfl rfl (lessE_cons (ltd_eq rfl ?_) (lessE_cons (ltd_eq rfl (by kernel_rfl)) lessE_nil)) (by kernel_rfl) (by kernel_rfl) (by kernel_rfl) (by kernel_rfl)), ⟨by omega, ?_⟩, by omega⟩
      · refine Eq.trans (b := SV ((s.extract k s.size).extract 1 (s.extract k s.size).size)) (by kernel_rfl) ?_
        rw [hz, hx, show k + (s.size - k) = s.size by omega]
      · have := hk.2
        rw [hf] at this
        rw [← this]
        show _ = if _ then _ else _
        rw [if_pos ⟨hlt, e⟩]
    · have e : ¬ byteAt s k = c := fun e => ‹¬ byteAt _ _ = c› (by rw [hb]; exact e)
      refine str_of (s := s.extract k s.size) (by kernel_rfl) ?_
      have := hk.2
      rw [hf] at this
      rw [trimL, ← this, show trL s c (s.size - (k + 1) + 1) k = k from if_neg (fun h => e h.2)]
  · have hke : k = s.size := by omega
    repeat' (first | refine zs ?_ | refine Br.mk ?_ ?_ | intro _ | refine zf ?_ | fail)
    refine str_of (s := s.extract k s.size) (by kernel_rfl) ?_
    have := hk.2
    rw [trimL, ← this, hke, Nat.sub_self]
    rfl
def trimS (s : ByteArray) : ByteArray := trimL (trimR s 0) 0
theorem trim_D (s : ByteArray) (hs : s.size ≤ 1000000) : DPure Tp I 58 [SV s, SV ⟨#[0]⟩] (SV (trimS s)) := by
  have h0 : byteAt (⟨#[0]⟩ : ByteArray) (Int.toNat 0) = 0 := rfl
  have h1 : (⟨#[0]⟩ : ByteArray).size = 1 := rfl
  have hR : (trimR s 0).size ≤ 1000000 := by unfold trimR; rw [ByteArray.size_extract]; omega
  have d1 := trimR_D (I := I) s 0 hs
  have d2 := trimL_D (I := I) (trimR s 0) 0 hR
  by_cases he : s = nilS
  · subst he
    refine z_pure (e0 := ?e0x3) mix e58 rfl ?z03 ?_
    (case z03 => exact rfl)
    dsimp only [c58]
    repeat' (first | refine zs ?_ | refine Br.mk ?_ ?_ | intro _ | refine zf ?_ | fail)
    all_goals first
      | exact str_of (s := nilS) (by kernel_rfl) rfl
      | (exfalso; exact absurd rfl ‹¬ _›)
  · refine z_pure (e0 := ?e0x4) mix e58 rfl ?z04 ?_
    (case z04 => exact rfl)
    dsimp only [c58]
    repeat' (first | with_reducible refine s_seql_f he ?_ | with_reducible refine s_seql_f (by decide) ?_ | ((with_reducible apply z_call); (case' hd => apply d1); (case hw => exact wknL_ok rfl); (try any_goals exact sd)) | ((with_reducible apply z_call); (case' hd => apply d2); (case hw => exact wknL_ok rfl); (try any_goals exact sd)) | refine z1 ?_ | refine Br.mk ?_ ?_ | intro _ | refine zf ?_ | fail)
    exact str_of (s := trimS s) (by kernel_rfl) rfl
structure ChainM where
  self : Int
  next : Int
  data : ByteArray
abbrev chainV (c : ChainM) : Value := .agg #[.int .i64 c.self, .int .i64 c.next, .string c.data]
def fullP (next : Int) (data : ByteArray) (room : Int) : Prop := (next ≠ 0 ∧ (data.size : Int) = room) ∨ (next = 0 ∧ (1 : Int) ≤ data.size ∧ (data.size : Int) ≤ room)
instance (n : Int) (d : ByteArray) (r : Int) : Decidable (fullP n d r) := inferInstanceAs (Decidable (_ ∨ _))
theorem full_D (self next : Int) (data : ByteArray) (room : Int) : DPure Tp I 99 [.v (.agg #[.int .i64 self, .int .i64 next, .string data]), VN .i64 room] (BV (decide (fullP next data room))) := by
  refine z_pure (e0 := ?e0x5) mix e99 rfl ?z05 ?_
  (case z05 => exact rfl)
  dsimp only [c99]
  repeat' (first | refine zs ?_ | refine Br.mk ?_ ?_ | intro _ | refine zf ?_ | fail)
  all_goals first
    | (refine bool_of (b := true) ?_ (Eq.symm (decide_eq_true (by unfold fullP; omega))); kernel_rfl)
    | (refine bool_of (b := false) ?_ (Eq.symm (decide_eq_false (by unfold fullP; omega))); kernel_rfl)
def mayC (c : ChainM) (p : Int) : Prop := sizeB p = true ∧ 1 ≤ c.self ∧ c.self < 4096 ∧ 0 ≤ c.next ∧ c.next < 4096 ∧ c.next ≠ c.self ∧ fullP c.next c.data (p - 16)
instance (c : ChainM) (p : Int) : Decidable (mayC c p) := inferInstanceAs (Decidable (_ ∧ _))
theorem mayC_D0 (self next : Int) (data : ByteArray) (p : Int) : DPure Tp I 57 [.v (.agg #[.int .i64 self, .int .i64 next, .string data]), VN .i64 p] (BV (decide (mayC ⟨self, next, data⟩ p))) := by
  by_cases hs : sizeB p = true
  · have hp := sizeB_in hs
    have d1 : DPure Tp I 67 [VN .i64 p] (BV true) := by have := size_D (I := I) p; rwa [hs] at this
    by_cases hf : fullP next data (p - 16)
    · have d2 := dp_t (full_D (I := I) self next data (p - 16)) hf
      refine z_pure (e0 := ?e0x6) mix e57 rfl ?z06 ?_
      (case z06 => exact rfl)
      dsimp only [c57]
      repeat' (first | ((with_reducible apply z_call); (case' hd => apply d1); (case hw => exact wknL_ok rfl); (try any_goals exact sd)) | ((with_reducible apply z_callvp); (case hx => (conv => {lhs; whnf}) <;> exact rfl); (case' hd => apply d2); (case ha => exact wknL_ok rfl)) | refine z1 ?_ | refine Br.mk ?_ ?_ | intro _ | refine zf ?_ | fail)
      all_goals first
        | (refine bool_of (b := true) ?_ (Eq.symm (decide_eq_true (by refine ⟨hs, ?_⟩; dsimp only; refine ⟨by omega, by omega, by omega, by omega, by omega, hf⟩))); kernel_rfl)
        | (refine bool_of (b := false) ?_ (Eq.symm (decide_eq_false (fun h => by have h2 := h.2; dsimp only at h2; omega))); kernel_rfl)
    · have d2 := dp_f (full_D (I := I) self next data (p - 16)) hf
      have hn : ¬ mayC ⟨self, next, data⟩ p := fun h => hf h.2.2.2.2.2.2
      refine z_pure (e0 := ?e0x7) mix e57 rfl ?z07 ?_
      (case z07 => exact rfl)
      dsimp only [c57]
      repeat' (first | ((with_reducible apply z_call); (case' hd => apply d1); (case hw => exact wknL_ok rfl); (try any_goals exact sd)) | ((with_reducible apply z_callvp); (case hx => (conv => {lhs; whnf}) <;> exact rfl); (case' hd => apply d2); (case ha => exact wknL_ok rfl)) | refine z1 ?_ | refine Br.mk ?_ ?_ | intro _ | refine zf ?_ | fail)
      all_goals exact bool_of (b := false) (by kernel_rfl) (decide_eq_false hn).symm
  · have d1 : DPure Tp I 67 [VN .i64 p] (BV false) := by have := size_D (I := I) p; rwa [show sizeB p = false by simpa using hs] at this
    have hn : ¬ mayC ⟨self, next, data⟩ p := fun h => hs h.1
    refine z_pure (e0 := ?e0x8) mix e57 rfl ?z08 ?_
    (case z08 => exact rfl)
    dsimp only [c57]
    repeat' (first | ((with_reducible apply z_call); (case' hd => apply d1); (case hw => exact wknL_ok rfl); (try any_goals exact sd)) | refine zs ?_ | refine Br.mk ?_ ?_ | intro _ | refine zf ?_ | fail)
    exact bool_of (b := false) (by kernel_rfl) (decide_eq_false hn).symm
end Go.Proofs.YtlbodfkhenkcjaaGreatDoor.X


namespace Go.Proofs.YtlbodfkhenkcjaaGreatDoor.X
open Go Go.Proofs Go.RowKit Go.Proofs.YtlbodfkhenkcjaaGreatDoor.D
set_option maxRecDepth 100000
set_option maxHeartbeats 1000000
set_option linter.unusedVariables false
set_option linter.unusedSimpArgs false
variable {I : D.Inv}
attribute [local irreducible] D.DPure D.DEff D.callable opH opB opE trimS mayC

def ckRaw (s : ByteArray) : ChainM := ⟨(opH s).self, (opH s).right, (opB s).extract 0 (opH s).count.toNat⟩
def chP (s : ByteArray) : Prop := opE s = 0 ∧ (opH s).kind = 4 ∧ (opH s).level = 0 ∧ (opH s).count ≤ (opB s).size ∧ mayC (ckRaw s) s.size ∧ trimS ((opB s).extract (opH s).count.toNat (opB s).size) = nilS
instance (s : ByteArray) : Decidable (chP s) := inferInstanceAs (Decidable (_ ∧ _))
def chain0 : ChainM := ⟨0, 0, nilS⟩
def chM (s : ByteArray) : ChainM := if chP s then ckRaw s else chain0
def chE (s : ByteArray) : Int := if chP s then 0 else 3
theorem ch_yes {s : ByteArray} (h : chP s) : chM s = ckRaw s ∧ chE s = 0 := ⟨if_pos h, if_pos h⟩
theorem ch_no {s : ByteArray} (h : ¬ chP s) : chM s = chain0 ∧ chE s = 3 := ⟨if_neg h, if_neg h⟩
theorem op_in (s : ByteArray) (h : opE s = 0) : openP s ∧ opH s = hdOf s ∧ opB s = bodyOf s := by
  by_cases hp : openP s
  · have := op_yes hp; exact ⟨hp, this.1, this.2.1⟩
  · have := op_no hp; omega
theorem opB_size (s : ByteArray) : (opB s).size ≤ s.size := by
  by_cases hp : openP s
  · rw [(op_yes hp).2.1]; unfold bodyOf; rw [ByteArray.size_extract]; omega
  · rw [(op_no hp).2.1]; exact Nat.zero_le _
theorem opH_in (s : ByteArray) : (0 ≤ (opH s).kind ∧ (opH s).kind < 5) ∧ (0 ≤ (opH s).level ∧ (opH s).level < 256) ∧ (0 ≤ (opH s).count ∧ (opH s).count < 65536) ∧ (0 ≤ (opH s).right ∧ (opH s).right < 4096) ∧ (0 ≤ (opH s).self ∧ (opH s).self < 4096) := by
  by_cases hp : openP s
  · rw [(op_yes hp).1]
    have := hdB_in (mayE_0 hp.2.1).2.1
    omega
  · rw [(op_no hp).1]
    exact ⟨by decide, by decide, by decide, by decide, by decide⟩
theorem openE_D (s : ByteArray) (k l c r m : Int) (b : ByteArray) (e : Int) (hs : s.size ≤ 1000000) (hh : opH s = ⟨k, l, c, r, m⟩) (hb : opB s = b) (he : opE s = e) : DPure Tp I 51 [SV s] (.v (.tuple #[headV k l c r m, .string b, .int .i64 e])) := by
  have := open_D (I := I) s hs
  rw [hh, hb, he] at this
  exact this
theorem chain_D (s : ByteArray) (hs : s.size ≤ 1000000) : DPure Tp I 27 [SV s] (.v (.tuple #[chainV (chM s), .int .i64 (chE s)])) := by
  have hin := opH_in s
  have hbs := opB_size s
  have hch : chP s ↔ (opE s = 0 ∧ (opH s).kind = 4 ∧ (opH s).level = 0 ∧ (opH s).count ≤ (opB s).size ∧ mayC ⟨(opH s).self, (opH s).right, (opB s).extract 0 (opH s).count.toNat⟩ s.size ∧ trimS ((opB s).extract (opH s).count.toNat (opB s).size) = nilS) := Iff.rfl
  have hraw : chP s → chM s = ⟨(opH s).self, (opH s).right, (opB s).extract 0 (opH s).count.toNat⟩ := fun h => (ch_yes h).1
  obtain ⟨⟨k, l, c, r, m⟩, hh⟩ : ∃ h, opH s = h := ⟨_, rfl⟩
  obtain ⟨b, hb⟩ : ∃ b, opB s = b := ⟨_, rfl⟩
  obtain ⟨e, he⟩ : ∃ e, opE s = e := ⟨_, rfl⟩
  have d0 := openE_D (I := I) s k l c r m b e hs hh hb he
  rw [hh, hb] at hch hraw
  rw [he] at hch
  rw [hh] at hin
  rw [hb] at hbs
  dsimp only at hin hch hraw
  have hx : (b.extract 0 c.toNat).size ≤ b.size := by rw [ByteArray.size_extract]; omega
  have hy : (b.extract c.toNat b.size).size ≤ 1000000 := by rw [ByteArray.size_extract]; omega
  have no : ∀ {d : DV}, ¬ chP s → d = .v (.tuple #[chainV chain0, .int .i64 3]) → Wk d (.v (.tuple #[chainV (chM s), .int .i64 (chE s)])) := fun h e => by rw [(ch_no h).1, (ch_no h).2, e]; exact .v _
  have d2 := trim_D (I := I) (b.extract c.toNat b.size) hy
  by_cases hm : mayC ⟨m, r, b.extract 0 c.toNat⟩ s.size
  · have d1 := dp_t (mayC_D0 (I := I) m r (b.extract 0 c.toNat) s.size) hm
    refine z_pure (e0 := ?e0x1) mix e27 rfl ?z01 ?_
    (case z01 => exact rfl)
    dsimp only [c27]
    repeat' (first | ((with_reducible apply z_call); (case' hd => apply d0); (case hw => exact wknL_ok rfl); (try any_goals exact sd)) | ((with_reducible apply z_call); (case' hd => apply d1); (case hw => exact wknL_ok rfl); (try any_goals exact sd)) | ((with_reducible apply z_call); (case' hd => apply d2); (case hw => exact wknL_ok rfl); (try any_goals exact sd)) | refine zs ?_ | refine Br.mk ?_ ?_ | intro _ | refine zf ?_ | fail)
    all_goals first
      | exact no (fun h => by have h2 := hch.1 h; omega) (by kernel_rfl)
      | exact no (fun h => ‹¬ trimS _ = nilS› (hch.1 h).2.2.2.2.2) (by kernel_rfl)
      | (have hy : chP s := hch.2 ⟨by omega, by omega, by omega, by omega, hm, ‹_›⟩
         refine tup2_of (a := .agg #[.int .i64 m, .int .i64 r, .string (b.extract 0 c.toNat)]) (b := .int .i64 0) (by kernel_rfl) ?_ ?_
         · rw [hraw hy]
         · rw [(ch_yes hy).2])
  · have d1 := dp_f (mayC_D0 (I := I) m r (b.extract 0 c.toNat) s.size) hm
    have hn : ¬ chP s := fun h => hm (hch.1 h).2.2.2.2.1
    refine z_pure (e0 := ?e0x2) mix e27 rfl ?z02 ?_
    (case z02 => exact rfl)
    dsimp only [c27]
    repeat' (first | ((with_reducible apply z_call); (case' hd => apply d0); (case hw => exact wknL_ok rfl); (try any_goals exact sd)) | ((with_reducible apply z_call); (case' hd => apply d1); (case hw => exact wknL_ok rfl); (try any_goals exact sd)) | ((with_reducible apply z_call); (case' hd => apply d2); (case hw => exact wknL_ok rfl); (try any_goals exact sd)) | refine zs ?_ | refine Br.mk ?_ ?_ | intro _ | refine zf ?_ | fail)
    all_goals exact no hn (by kernel_rfl)
end Go.Proofs.YtlbodfkhenkcjaaGreatDoor.X


namespace Go.Proofs.YtlbodfkhenkcjaaGreatDoor.X
open Go Go.Proofs Go.RowKit Go.Proofs.YtlbodfkhenkcjaaGreatDoor.D
set_option maxRecDepth 100000
set_option maxHeartbeats 1000000
set_option linter.unusedVariables false
set_option linter.unusedSimpArgs false
attribute [local irreducible] D.DPure D.DEff D.callable opH opB opE mayL encE encS itOk itH errC

def c25 : DFun := ⟨63, [.c 2 4 true, .t 3], .seq (.reg [⟨some 2, .zero (.agg #[.int .i64 0, .int .i64 0, .string ⟨#[]⟩, .slice none 0 0]), none⟩, ⟨some 3, .mv (.c (.int .i64 0)), none⟩]) (.seq (.reg [⟨some 15, .mv (.t 0), none⟩, ⟨some 16, .call 51 [.t 15], none⟩, ⟨some 14, .mv (.t 16), none⟩, ⟨some 17, .ext (.t 14) 0, none⟩, ⟨some 18, .ext (.t 14) 1, none⟩, ⟨some 19, .ext (.t 14) 2, none⟩, ⟨some 4, .zero (.agg #[.int .i64 0, .int .i64 0, .int .i64 0, .int .i64 0, .int .i64 0]), none⟩, ⟨none, .st 5 (.t 4) (.t 17), none⟩, ⟨some 5, .mv (.t 18), none⟩, ⟨some 6, .mv (.t 19), none⟩]) (.seq (.seq (.reg [⟨some 20, .mv (.t 6), none⟩, ⟨some 21, .bin .neq (.t 20) (.c (.int .i64 0)), none⟩, ⟨some 22, .mv (.t 21), none⟩, ⟨some 23, .fa 0 (.t 4), some (22, false)⟩, ⟨some 24, .ld 1 false (.t 23), some (22, false)⟩, ⟨some 25, .bin .neq (.t 24) (.c (.int .i64 2)), some (22, false)⟩, ⟨some 26, .pick (.t 22) (.c (.bool true)) (.t 25), none⟩]) (.cond (.t 26) (.seq (.reg [⟨some 27, .bld [.int .i64 0, .int .i64 0, .string ⟨#[]⟩, .slice none 0 0] [], none⟩, ⟨none, .st 4 (.t 2) (.t 27), none⟩, ⟨some 3, .mv (.c (.int .i64 3)), none⟩]) .ret) .skip)) (.seq (.reg [⟨some 29, .mv (.t 5), none⟩, ⟨some 30, .fa 2 (.t 4), none⟩, ⟨some 31, .ld 1 false (.t 30), none⟩, ⟨some 32, .call 52 [.t 29, .t 31], none⟩, ⟨some 28, .mv (.t 32), none⟩, ⟨some 33, .ext (.t 28) 0, none⟩, ⟨some 34, .ext (.t 28) 1, none⟩, ⟨some 35, .ext (.t 28) 2, none⟩, ⟨some 7, .mv (.t 33), none⟩, ⟨some 8, .mv (.t 34), none⟩, ⟨some 9, .mv (.t 35), none⟩]) (.seq (.reg [⟨some 10, .zero (.agg #[.string ⟨#[]⟩]), none⟩]) (.seq (.seq (.reg [⟨some 36, .mv (.t 9), none⟩, ⟨some 37, .mki 128 (.t 10), none⟩, ⟨some 38, .calle 53 [.t 36, .t 37], none⟩]) (.cond (.t 38) (.seq (.reg [⟨some 39, .bld [.int .i64 0, .int .i64 0, .string ⟨#[]⟩, .slice none 0 0] [], none⟩, ⟨none, .st 4 (.t 2) (.t 39), none⟩, ⟨some 3, .mv (.c (.int .i64 3)), none⟩]) .ret) .skip)) (.seq (.reg [⟨some 40, .fa 4 (.t 4), none⟩, ⟨some 41, .ld 1 false (.t 40), none⟩, ⟨some 42, .fa 3 (.t 4), none⟩, ⟨some 43, .ld 1 false (.t 42), none⟩, ⟨some 44, .mv (.t 8), none⟩, ⟨some 45, .mv (.t 7), none⟩, ⟨some 46, .bld [.int .i64 0, .int .i64 0, .string ⟨#[]⟩, .slice none 0 0] [(0, 1, .t 41), (1, 1, .t 43), (2, 1, .t 44), (3, 1, .t 45)], none⟩, ⟨some 11, .zero (.agg #[.int .i64 0, .int .i64 0, .string ⟨#[]⟩, .slice none 0 0]), none⟩, ⟨none, .st 4 (.t 11) (.t 46), none⟩]) (.seq (.seq (.reg [⟨some 48, .ld 4 true (.t 11), none⟩, ⟨some 49, .mv (.t 0), none⟩, ⟨some 50, .len true (.t 49), none⟩, ⟨some 51, .call 33 [.t 48, .t 50], none⟩, ⟨some 47, .mv (.t 51), none⟩, ⟨some 52, .ext (.t 47) 0, none⟩, ⟨some 53, .ext (.t 47) 1, none⟩, ⟨some 12, .mv (.t 52), none⟩, ⟨some 13, .mv (.t 53), none⟩]) (.seq (.reg [⟨some 54, .mv (.t 13), none⟩, ⟨some 55, .bin .neq (.t 54) (.c (.int .i64 0)), none⟩, ⟨some 56, .mv (.t 55), none⟩, ⟨some 57, .mv (.t 12), some (56, false)⟩, ⟨some 58, .mv (.t 0), some (56, false)⟩, ⟨some 59, .bin .neq (.t 57) (.t 58), some (56, false)⟩, ⟨some 60, .pick (.t 56) (.c (.bool true)) (.t 59), none⟩]) (.cond (.t 60) (.seq (.reg [⟨some 61, .bld [.int .i64 0, .int .i64 0, .string ⟨#[]⟩, .slice none 0 0] [], none⟩, ⟨none, .st 4 (.t 2) (.t 61), none⟩, ⟨some 3, .mv (.c (.int .i64 3)), none⟩]) .ret) .skip))) (.seq (.reg [⟨some 62, .ld 4 true (.t 11), none⟩, ⟨none, .st 4 (.t 2) (.t 62), none⟩, ⟨some 3, .mv (.c (.int .i64 0)), none⟩]) .ret))))))))⟩
theorem e25 : cfun Tryz.prog 25 = some c25 := by kernel_rfl
def lfRaw (s : ByteArray) : LeafM := ⟨(opH s).self, (opH s).right, itH (opB s), itemsOf (itA (opB s)) (itC (opB s) (opH s).count)⟩
def lfP (s : ByteArray) : Prop := opE s = 0 ∧ (opH s).kind = 2 ∧ itOk (opB s) (opH s).count ∧ badC (itC (opB s) (opH s).count) = false ∧ encE (lfRaw s) s.size = 0 ∧ encS (lfRaw s) s.size = s
instance (s : ByteArray) : Decidable (lfP s) := inferInstanceAs (Decidable (_ ∧ _))
def leaf0 : LeafM := ⟨0, 0, nilS, []⟩
def lfM (s : ByteArray) : LeafM := if lfP s then lfRaw s else leaf0
def lfE (s : ByteArray) : Int := if lfP s then 0 else 3
theorem lf_yes {s : ByteArray} (h : lfP s) : lfM s = lfRaw s ∧ lfE s = 0 := ⟨if_pos h, if_pos h⟩
theorem lf_no {s : ByteArray} (h : ¬ lfP s) : lfM s = leaf0 ∧ lfE s = 3 := ⟨if_neg h, if_neg h⟩
theorem leaf_zero {d : DV} {s : ByteArray} (h : ¬ lfP s) (hd : d = .v (.tuple #[.agg #[.int .i64 0, .int .i64 0, .string nilS, .slice none 0 0], .int .i64 3])) : Wk d (.tup [leafD (lfM s), VN .i64 (lfE s)]) := by
  rw [(lf_no h).1, (lf_no h).2, hd]
  exact Wk.vtupL (xs := [.agg #[.int .i64 0, .int .i64 0, .string nilS, .slice none 0 0], .int .i64 3]) (.cons (Wk.vaggL (xs := [.int .i64 0, .int .i64 0, .string nilS, .slice none 0 0]) (.cons (.v _) (.cons (.v _) (.cons (.v _) (.cons (.nil _ _ _) .nil))))) (.cons (.v _) .nil))
theorem upE_0 {s : ByteArray} {fx n : Int} (h : upE s fx n = 0) : 0 ≤ n ∧ n ≤ (s.size : Int) / 2 := by
  unfold upE at h
  split at h
  · omega
  · split at h
    · omega
    · omega
theorem it_in {b : ByteArray} {n : Int} (h : itOk b n) : (itC b n).length ≤ b.size / 2 ∧ (∀ c ∈ itC b n, c.size ≤ b.size) ∧ (itA b).size ≤ b.size ∧ (itH b).size ≤ b.size := by
  unfold itOk at h
  obtain ⟨h1, h2, h3⟩ := h
  have g1 := tx_in h1
  have g2 := tx_in h2
  have g3 := upL_size (s := b) (fx := itN b) (n := n)
  have g4 := upE_0 h3
  unfold itC itA itH
  exact ⟨by omega, g3.2, by omega, by omega⟩
theorem leaf_D (s : ByteArray) (hs : s.size ≤ 1200) : DPure Tp GI 25 [SV s] (.tup [leafD (lfM s), VN .i64 (lfE s)]) := by
  have hin := opH_in s
  have hbs := opB_size s
  have hlf : lfP s ↔ (opE s = 0 ∧ (opH s).kind = 2 ∧ itOk (opB s) (opH s).count ∧ badC (itC (opB s) (opH s).count) = false ∧ encE ⟨(opH s).self, (opH s).right, itH (opB s), itemsOf (itA (opB s)) (itC (opB s) (opH s).count)⟩ s.size = 0 ∧ encS ⟨(opH s).self, (opH s).right, itH (opB s), itemsOf (itA (opB s)) (itC (opB s) (opH s).count)⟩ s.size = s) := Iff.rfl
  have hraw : lfP s → lfM s = ⟨(opH s).self, (opH s).right, itH (opB s), itemsOf (itA (opB s)) (itC (opB s) (opH s).count)⟩ := fun h => (lf_yes h).1
  obtain ⟨⟨k, l, c, r, m⟩, hh⟩ : ∃ h, opH s = h := ⟨_, rfl⟩
  obtain ⟨b, hb⟩ : ∃ b, opB s = b := ⟨_, rfl⟩
  obtain ⟨e, he⟩ : ∃ e, opE s = e := ⟨_, rfl⟩
  have d0 := openE_D (I := GI) s k l c r m b e (by omega) hh hb he
  rw [hh, hb] at hlf hraw
  rw [he] at hlf
  rw [hh] at hin
  rw [hb] at hbs
  dsimp only at hin hlf hraw
  by_cases hi : itOk b c
  · have hii := it_in hi
    have d1 := items_yes (I := GI) b c (by omega) (by omega) hi
    by_cases hbad : badC (itC b c) = true
    · have hn : ¬ lfP s := fun h => by have := (hlf.1 h).2.2.2.1; rw [hbad] at this; exact Bool.noConfusion this
      have hE : errC (itC b c) = cellF := by unfold errC; rw [if_pos hbad]
      rw [hE] at d1
      refine z_pure (e0 := ?e0x1) mix e25 rfl ?z01 ?_
      (case z01 => exact rfl)
      dsimp only [c25]
      repeat' (first | ((with_reducible apply z_call); (case' hd => apply d0); (case hw => exact wknL_ok rfl); (try any_goals exact sd)) | ((with_reducible apply z_call); (case' hd => apply d1); (case hw => exact wknL_ok rfl); (try any_goals exact sd)) | ((with_reducible apply z_calle); (case' hd => apply As_D1); (case ha => exact rfl); (try any_goals exact sd)) | refine zs ?_ | refine Br.mk ?_ ?_ | intro _ | refine zf ?_ | fail)
      all_goals exact leaf_zero hn (by kernel_rfl)
    · have hE : errC (itC b c) = .nilIface := by unfold errC; rw [if_neg hbad]
      rw [hE] at d1
      have d2 := encode_D0 (I := GI) m r (itH b) (itemsOf (itA b) (itC b c)) s.size (by rw [List.length_map]; omega) (fun x hx => by obtain ⟨y, hy, rfl⟩ := List.mem_map.1 hx; have := hii.2.1 y hy; have := gvS_size y; unfold itemOf; simp only [ByteArray.size_append]; omega) (by omega)
      refine z_pure (e0 := ?e0x2) mix e25 rfl ?z02 ?_
      (case z02 => exact rfl)
      dsimp only [c25]
      repeat' (first | ((with_reducible apply z_call); (case' hd => apply d0); (case hw => exact wknL_ok rfl); (try any_goals exact sd)) | ((with_reducible apply z_call); (case' hd => apply d1); (case hw => exact wknL_ok rfl); (try any_goals exact sd)) | ((with_reducible apply z_calle); (case' hd => apply As_D0); (case ha => exact rfl); (try any_goals exact sd)) | ((with_reducible apply z_call); (case' hd => apply d2); (case hw => exact wknL_ok rfl); (try any_goals exact sd)) | refine zs ?_ | refine Br.mk ?_ ?_ | intro _ | refine zf ?_ | fail)
      all_goals first
        | exact leaf_zero (fun h => by have h2 := hlf.1 h; omega) (by kernel_rfl)
        | exact leaf_zero (fun h => ‹¬ encS _ _ = s› (hlf.1 h).2.2.2.2.2) (by kernel_rfl)
        | (have hy : lfP s := hlf.2 ⟨by omega, by omega, hi, by simpa using hbad, ‹_›, ‹_›⟩
           rw [hraw hy, (lf_yes hy).2]
           exact tup2w (x1 := leafD ⟨m, r, itH b, itemsOf (itA b) (itC b c)⟩) (x2 := VN .i64 0) (by kernel_rfl) (wkn_ok rfl) (.v _))
  · have hn : ¬ lfP s := fun h => hi (hlf.1 h).2.2.1
    have d1 := items_no (I := GI) b c (by omega) (by omega) hi
    by_cases h2 : txP b 0 ∧ txP b (txT b 0)
    · rw [show itErr b c = joinD (errV (upE b (itN b) c)) (.v cellsF) from if_pos h2] at d1
      refine z_pure (e0 := ?e0x3) mix e25 rfl ?z03 ?_
      (case z03 => exact rfl)
      dsimp only [c25]
      repeat' (first | ((with_reducible apply z_call); (case' hd => apply d0); (case hw => exact wknL_ok rfl); (try any_goals exact sd)) | ((with_reducible apply z_call); (case' hd => apply d1); (case hw => exact wknL_ok rfl); (try any_goals exact sd)) | ((with_reducible apply z_calle); (case' hd => apply As_D2); (case ha => exact rfl); (try any_goals exact sd)) | refine zs ?_ | refine Br.mk ?_ ?_ | intro _ | refine zf ?_ | fail)
      all_goals exact leaf_zero hn (by kernel_rfl)
    · rw [show itErr b c = .v textF from if_neg h2] at d1
      refine z_pure (e0 := ?e0x4) mix e25 rfl ?z04 ?_
      (case z04 => exact rfl)
      dsimp only [c25]
      repeat' (first | ((with_reducible apply z_call); (case' hd => apply d0); (case hw => exact wknL_ok rfl); (try any_goals exact sd)) | ((with_reducible apply z_call); (case' hd => apply d1); (case hw => exact wknL_ok rfl); (try any_goals exact sd)) | ((with_reducible apply z_calle); (case' hd => apply As_D1); (case ha => exact rfl); (try any_goals exact sd)) | refine zs ?_ | refine Br.mk ?_ ?_ | intro _ | refine zf ?_ | fail)
      all_goals exact leaf_zero hn (by kernel_rfl)
end Go.Proofs.YtlbodfkhenkcjaaGreatDoor.X


namespace Go.Proofs.YtlbodfkhenkcjaaGreatDoor.X
open Go Go.Proofs Go.RowKit Go.Proofs.YtlbodfkhenkcjaaGreatDoor.D
set_option maxRecDepth 100000
set_option maxHeartbeats 1000000
set_option linter.unusedVariables false
set_option linter.unusedSimpArgs false
variable {I : D.Inv}
attribute [local irreducible] D.DPure D.DEff D.callable getE getN getT txP txT txS

def c126 : DFun := ⟨9, [.t 2], .seq (.reg [⟨some 2, .mv (.c (.bool false)), none⟩]) (.seq (.reg [⟨some 3, .mv (.t 0), none⟩, ⟨some 4, .bin .geq (.t 3) (.c (.int .i64 1)), none⟩, ⟨some 5, .mv (.t 4), none⟩, ⟨some 6, .mv (.t 0), some (5, true)⟩, ⟨some 7, .bin .lss (.t 6) (.c (.int .i64 4096)), some (5, true)⟩, ⟨some 8, .pick (.t 5) (.t 7) (.c (.bool false)), none⟩, ⟨some 2, .mv (.t 8), none⟩]) .ret)⟩
theorem e126 : cfun Tryz.prog 126 = some c126 := by kernel_rfl
def c54 : DFun := ⟨38, [.t 4, .t 5], .seq (.reg [⟨some 4, .mv (.c (.string ⟨#[]⟩)), none⟩, ⟨some 5, .mv (.c (.int .i64 0)), none⟩]) (.seq (.reg [⟨some 10, .mv (.t 0), none⟩, ⟨some 11, .mv (.t 1), none⟩, ⟨some 12, .call 96 [.t 10, .t 11], none⟩, ⟨some 9, .mv (.t 12), none⟩, ⟨some 13, .ext (.t 9) 0, none⟩, ⟨some 14, .ext (.t 9) 1, none⟩, ⟨some 15, .ext (.t 9) 2, none⟩, ⟨some 6, .mv (.t 13), none⟩, ⟨some 7, .mv (.t 14), none⟩, ⟨some 8, .mv (.t 15), none⟩]) (.seq (.seq (.reg [⟨some 16, .mv (.t 8), none⟩, ⟨some 17, .bin .neq (.t 16) (.c (.int .i64 0)), none⟩, ⟨some 18, .mv (.t 17), none⟩, ⟨some 19, .mv (.t 6), some (18, false)⟩, ⟨some 20, .mv (.t 0), some (18, false)⟩, ⟨some 21, .len true (.t 20), some (18, false)⟩, ⟨some 22, .mv (.t 7), some (18, false)⟩, ⟨some 23, .bin .sub (.t 21) (.t 22), some (18, false)⟩, ⟨some 24, .cvt .u64 (.t 23), some (18, false)⟩, ⟨some 25, .bin .gtr (.t 19) (.t 24), some (18, false)⟩, ⟨some 26, .pick (.t 18) (.c (.bool true)) (.t 25), none⟩]) (.cond (.t 26) (.seq (.reg [⟨some 4, .mv (.c (.string ⟨#[]⟩)), none⟩, ⟨some 5, .mv (.c (.int .i64 (-1))), none⟩]) .ret) .skip)) (.seq (.reg [⟨some 27, .mv (.t 0), none⟩, ⟨some 28, .mv (.t 7), none⟩, ⟨some 29, .mv (.t 7), none⟩, ⟨some 30, .mv (.t 6), none⟩, ⟨some 31, .cvt .i64 (.t 30), none⟩, ⟨some 32, .bin .add (.t 29) (.t 31), none⟩, ⟨some 33, .slS (.t 27) (some (.t 28)) (some (.t 32)), none⟩, ⟨some 34, .mv (.t 7), none⟩, ⟨some 35, .mv (.t 6), none⟩, ⟨some 36, .cvt .i64 (.t 35), none⟩, ⟨some 37, .bin .add (.t 34) (.t 36), none⟩, ⟨some 4, .mv (.t 33), none⟩, ⟨some 5, .mv (.t 37), none⟩]) .ret)))⟩
theorem e54 : cfun Tryz.prog 54 = some c54 := by kernel_rfl
def c127 : DFun := ⟨6, [.t 2], .seq (.reg [⟨some 2, .mv (.c (.bool false)), none⟩]) (.seq (.reg [⟨some 3, .mv (.t 0), none⟩, ⟨some 4, .call 126 [.t 3], none⟩, ⟨some 5, .un .not (.t 4), none⟩, ⟨some 2, .mv (.t 5), none⟩]) .ret)⟩
theorem e127 : cfun Tryz.prog 127 = some c127 := by kernel_rfl
def c175 : DFun := ⟨19, [.t 4], .seq (.reg [⟨some 4, .mv (.c (.int .i64 0)), none⟩]) (.seq (.seq (.reg [⟨some 6, .mv (.t 0), none⟩, ⟨some 7, .len false (.t 6), none⟩, ⟨some 8, .mv (.c (.int .i64 0)), none⟩]) (.block 0 (.loop (.seq (.reg [⟨some 9, .bin .lss (.t 8) (.t 7), none⟩]) (.seq (.cond (.t 9) .skip (.exit 0)) (.seq (.block 1 (.seq (.reg [⟨some 10, .mv (.t 8), none⟩, ⟨some 5, .mv (.t 10), none⟩]) (.seq (.reg [⟨some 11, .mv (.t 1), none⟩, ⟨some 12, .mv (.t 0), none⟩, ⟨some 13, .mv (.t 5), none⟩, ⟨some 14, .ixa 1 (.t 12) (.t 13), none⟩, ⟨some 15, .ld 1 false (.t 14), none⟩, ⟨some 16, .callv (.t 11) [.t 15], none⟩]) (.cond (.t 16) (.seq (.reg [⟨some 17, .mv (.t 5), none⟩, ⟨some 4, .mv (.t 17), none⟩]) .ret) .skip)))) (.reg [⟨some 18, .bin .add (.t 8) (.c (.int .i64 1)), none⟩, ⟨some 8, .mv (.t 18), none⟩]))))))) (.seq (.reg [⟨some 4, .mv (.c (.int .i64 (-1))), none⟩]) .ret))⟩
theorem e175 : cfun Tryz.prog 175 = some c175 := by kernel_rfl
def c128 : DFun := ⟨9, [.t 4], .seq (.reg [⟨some 4, .mv (.c (.bool false)), none⟩]) (.seq (.reg [⟨some 5, .mv (.t 0), none⟩, ⟨some 6, .mv (.t 1), none⟩, ⟨some 7, .calle 175 [.t 5, .t 6], none⟩, ⟨some 8, .bin .geq (.t 7) (.c (.int .i64 0)), none⟩, ⟨some 4, .mv (.t 8), none⟩]) .ret)⟩
theorem e128 : cfun Tryz.prog 128 = some c128 := by kernel_rfl
theorem inumber_D (n : Int) : DPure Tp I 126 [VN .i64 n] (BV (decide (pageP n))) := by
  refine z_pure (e0 := ?e0x1) mix e126 rfl ?z01 ?_
  (case z01 => exact rfl)
  dsimp only [c126]
  repeat' (first | refine zs ?_ | refine Br.mk ?_ ?_ | intro _ | refine zf ?_ | fail)
  all_goals first
    | (refine bool_of (b := true) ?_ (Eq.symm (decide_eq_true (by unfold pageP; omega))); kernel_rfl)
    | (refine bool_of (b := false) ?_ (Eq.symm (decide_eq_false (by unfold pageP; omega))); kernel_rfl)
theorem itext_yes (s : ByteArray) (a : Int) (hs : s.size ≤ 1000000) (ha : -1000000 ≤ a ∧ a ≤ 2000000) (h : txP s a) : DPure Tp I 54 [SV s, VN .i64 a] (.v (.tuple #[.string (txS s a), .int .i64 (txT s a)])) := by
  have hx : getE s a = 0 ∧ getN s a ≤ (s.size : Int) - getT s a := by unfold txP at h; exact h
  have h1 := getT_in hx.1
  have h2 := getN_lo hx.1
  have h3 := hx.2
  have h4 := hx.1
  have e1 : txS s a = s.extract (getT s a).toNat (getT s a + getN s a).toNat := by unfold txS txT; rfl
  have e2 : txT s a = getT s a + getN s a := by unfold txT; rfl
  rw [e1, e2]
  refine z_pure (e0 := ?e0x2) mix e54 rfl ?z02 ?_
  (case z02 => exact rfl)
  dsimp only [c54]
  repeat' (first | ((with_reducible apply z_call); (case' hd => apply (get_D s a hs ha)); (case hw => exact wknL_ok rfl); (try any_goals exact sd)) | refine zs ?_ | refine Br.mk ?_ ?_ | intro _ | refine zf ?_ | fail)
  exact tup2_of (a := .string (s.extract (getT s a).toNat (getT s a + getN s a).toNat)) (b := .int .i64 (getT s a + getN s a)) (by kernel_rfl) rfl rfl
theorem itext_no (s : ByteArray) (a : Int) (hs : s.size ≤ 1000000) (ha : -1000000 ≤ a ∧ a ≤ 2000000) (h : ¬ txP s a) : DPure Tp I 54 [SV s, VN .i64 a] (.v (.tuple #[.string nilS, .int .i64 (-1)])) := by
  have hx : ¬ (getE s a = 0 ∧ getN s a ≤ (s.size : Int) - getT s a) := by unfold txP at h; exact h
  by_cases h4 : getE s a = 0
  · have h1 := getT_in h4
    have h2 := getN_lo h4
    have h3 : ¬ getN s a ≤ (s.size : Int) - getT s a := fun h3 => hx ⟨h4, h3⟩
    refine z_pure (e0 := ?e0x3) mix e54 rfl ?z03 ?_
    (case z03 => exact rfl)
    dsimp only [c54]
    repeat' (first | ((with_reducible apply z_call); (case' hd => apply (get_D s a hs ha)); (case hw => exact wknL_ok rfl); (try any_goals exact sd)) | refine zs ?_ | refine Br.mk ?_ ?_ | intro _ | refine zf ?_ | fail)
    exact tup2_of (a := .string nilS) (b := .int .i64 (-1)) (by kernel_rfl) rfl rfl
  · refine z_pure (e0 := ?e0x4) mix e54 rfl ?z04 ?_
    (case z04 => exact rfl)
    dsimp only [c54]
    repeat' (first | ((with_reducible apply z_call); (case' hd => apply (get_D s a hs ha)); (case hw => exact wknL_ok rfl); (try any_goals exact sd)) | refine zs ?_ | refine Br.mk ?_ ?_ | intro _ | refine zf ?_ | fail)
    exact tup2_of (a := .string nilS) (b := .int .i64 (-1)) (by kernel_rfl) rfl rfl
theorem odd_D (n : Int) : DPure Tp I 127 [VN .i64 n] (BV (decide (¬ pageP n))) := by
  refine z_pure (e0 := ?e0x5) mix e127 rfl ?z05 ?_
  (case z05 => exact rfl)
  dsimp only [c127]
  repeat' (first | ((with_reducible apply z_callb); (case' hd => apply (inumber_D n)); (case hw => exact wknL_ok rfl); (try any_goals exact sd)) | refine zs ?_ | refine Br.mk ?_ ?_ | intro _ | refine zf ?_ | fail)
  all_goals first
    | (refine bool_of (b := true) ?_ (Eq.symm (decide_eq_true (of_decide_eq_false ‹_›))); kernel_rfl)
    | (refine bool_of (b := false) ?_ (Eq.symm (decide_eq_false (not_not_intro (of_decide_eq_true ‹_›)))); kernel_rfl)
def idxN : List Int → Int → Int
  | [], _ => -1
  | n :: l, i => if pageP n then idxN l (i + 1) else i
theorem idxN_iff : ∀ (l : List Int) (i : Int), 0 ≤ i → (0 ≤ idxN l i ↔ ¬ ∀ x ∈ l, pageP x)
  | [], i, _ => by simp [idxN]
  | n :: l, i, h => by
    have := idxN_iff l (i + 1) (by omega)
    unfold idxN
    by_cases hn : pageP n
    · rw [if_pos hn, this]; simp [hn]
    · rw [if_neg hn]; simp [hn, h]
theorem index_D (l : List Int) (hl : l.length ≤ 1000000) : DPure Tp I 175 [ints l, .fn 127 []] (VN .i64 (idxN l 0)) := by
  have hll := ints_len l
  refine z_pure (e0 := ?e0x6) mix e175 rfl ?z06 ?_
  (case z06 => exact rfl)
  dsimp only [c175]
  repeat' (first | refine zs ?_ | refine Br.mk ?_ ?_ | intro _ | refine zf ?_ | fail)
  refine z_loop (fun i : Nat => ⟨[(0, ints l), (1, .fn 127 []), (7, VN .i64 (l.map fun n => VN .i64 n).length), (8, VN .i64 i)], [], []⟩) (fun i : Nat => i ≤ l.length ∧ idxN (l.drop i) i = idxN l 0) (fun i : Nat => l.length - i) (0) ?_ ?_ fun i hi => ?_
  · exact (less_of 0 0 0 rfl rfl (lessE_cons (ltd_eq rfl (by kernel_rfl)) (lessE_cons (ltd_eq rfl (by kernel_rfl)) (lessE_cons (ltd_eq rfl (by kernel_rfl)) (lessE_cons (ltd_eq rfl (by kernel_rfl)) lessE_nil)))) (by kernel_rfl) (by kernel_rfl) (by kernel_rfl) (by kernel_rfl))
  · exact ⟨Nat.zero_le _, rfl⟩
  have hi1 := hi.1
  have hi2 := hi.2
  by_cases hil : i < l.length
  · have hd : l.drop i = l[i] :: l.drop (i + 1) := List.drop_eq_getElem_cons hil
    rw [hd] at hi2
    by_cases hp : pageP l[i]
    · have d1 := dp_f (odd_D (I := I) l[i]) (not_not_intro hp)
      repeat' (first | refine ⟨_, ints_get hil, ?_⟩ | ((with_reducible apply z_callvp); (case hx => (conv => {lhs; whnf}) <;> exact rfl); (case' hd => apply d1); (case ha => exact wknL_ok rfl)) | refine z1 ?_ | refine Br.mk ?_ ?_ | intro _ | refine zf ?_ | fail)
      refine ⟨i + 1, (less_of 0 0 0 rfl rfl (lessE_cons (ltd_eq rfl (by kernel_rfl)) (lessE_cons (ltd_eq rfl (by kernel_rfl)) (lessE_cons (ltd_eq rfl (by kernel_rfl)) (lessE_cons (ltd_eq rfl (by kernel_rfl)) lessE_nil)))) (by kernel_rfl) (by kernel_rfl) (by kernel_rfl) (by kernel_rfl)), ⟨hil, ?_⟩, by omega⟩
      rw [← hi2, show idxN (l[i] :: l.drop (i + 1)) i = idxN (l.drop (i + 1)) ((i : Int) + 1) from if_pos hp]
      rfl
    · have d1 := dp_t (odd_D (I := I) l[i]) hp
      repeat' (first | refine ⟨_, ints_get hil, ?_⟩ | ((with_reducible apply z_callvp); (case hx => (conv => {lhs; whnf}) <;> exact rfl); (case' hd => apply d1); (case ha => exact wknL_ok rfl)) | refine z1 ?_ | refine Br.mk ?_ ?_ | intro _ | refine zf ?_ | fail)
      refine int_of (b := i) (by kernel_rfl) ?_
      rw [← hi2]
      unfold idxN
      rw [if_neg hp]
  · repeat' (first | refine zs ?_ | refine Br.mk ?_ ?_ | intro _ | refine zf ?_ | fail)
    refine int_of (b := -1) (by kernel_rfl) ?_
    rw [← hi2, List.drop_eq_nil_of_le (by omega)]
    rfl
theorem contains_D (l : List Int) (hl : l.length ≤ 1000000) : DPure Tp I 128 [ints l, .fn 127 []] (BV (decide (¬ ∀ x ∈ l, pageP x))) := by
  have hi := idxN_iff l 0 (by omega)
  have d1 := index_D (I := I) l hl
  refine z_pure (e0 := ?e0x7) mix e128 rfl ?z07 ?_
  (case z07 => exact rfl)
  dsimp only [c128]
  repeat' (first | ((with_reducible apply z_callep); (case' hd => apply d1); (case hw => exact wknL_ok rfl)) | refine z1 ?_ | refine Br.mk ?_ ?_ | intro _ | refine zf ?_ | fail)
  all_goals first
    | (refine bool_of (b := true) ?_ (Eq.symm (decide_eq_true (hi.1 (by omega)))); kernel_rfl)
    | (refine bool_of (b := false) ?_ (Eq.symm (decide_eq_false (fun h => absurd (hi.2 h) (by omega)))); kernel_rfl)
end Go.Proofs.YtlbodfkhenkcjaaGreatDoor.X


namespace Go.Proofs.YtlbodfkhenkcjaaGreatDoor.X
open Go Go.Proofs Go.RowKit Go.Proofs.YtlbodfkhenkcjaaGreatDoor.D
set_option maxRecDepth 100000
set_option maxHeartbeats 1000000
set_option linter.unusedVariables false
set_option linter.unusedSimpArgs false
variable {I : D.Inv}
attribute [local irreducible] D.DPure D.DEff D.callable pageP sLt

def c72 : DFun := ⟨107, [.t 4], .seq (.reg [⟨some 2, .box (.t 0), none⟩, ⟨some 4, .mv (.c (.bool false)), none⟩]) (.seq (.seq (.reg [⟨some 9, .mv (.t 1), none⟩, ⟨some 10, .call 67 [.t 9], none⟩, ⟨some 11, .un .not (.t 10), none⟩, ⟨some 12, .mv (.t 11), none⟩, ⟨some 13, .fa 0 (.t 2), some (12, false)⟩, ⟨some 14, .ld 1 false (.t 13), some (12, false)⟩, ⟨some 15, .call 126 [.t 14], some (12, false)⟩, ⟨some 16, .un .not (.t 15), some (12, false)⟩, ⟨some 17, .pick (.t 12) (.c (.bool true)) (.t 16), none⟩, ⟨some 18, .mv (.t 17), none⟩, ⟨some 19, .fa 1 (.t 2), some (18, false)⟩, ⟨some 20, .ld 1 false (.t 19), some (18, false)⟩, ⟨some 21, .bin .lss (.t 20) (.c (.int .i64 1)), some (18, false)⟩, ⟨some 22, .pick (.t 18) (.c (.bool true)) (.t 21), none⟩, ⟨some 23, .mv (.t 22), none⟩, ⟨some 24, .fa 1 (.t 2), some (23, false)⟩, ⟨some 25, .ld 1 false (.t 24), some (23, false)⟩, ⟨some 26, .bin .geq (.t 25) (.c (.int .i64 256)), some (23, false)⟩, ⟨some 27, .pick (.t 23) (.c (.bool true)) (.t 26), none⟩, ⟨some 28, .mv (.t 27), none⟩, ⟨some 29, .fa 2 (.t 2), some (28, false)⟩, ⟨some 30, .ld 1 false (.t 29), some (28, false)⟩, ⟨some 31, .bin .neq (.t 30) (.c (.int .i64 0)), some (28, false)⟩, ⟨some 32, .mv (.t 31), some (28, false)⟩, ⟨some 33, .fa 2 (.t 2), some (32, true)⟩, ⟨some 34, .ld 1 false (.t 33), some (32, true)⟩, ⟨some 35, .call 126 [.t 34], some (32, true)⟩, ⟨some 36, .un .not (.t 35), some (32, true)⟩, ⟨some 37, .pick (.t 32) (.t 36) (.c (.bool false)), some (28, false)⟩, ⟨some 38, .pick (.t 28) (.c (.bool true)) (.t 37), none⟩, ⟨some 39, .mv (.t 38), none⟩, ⟨some 40, .fa 2 (.t 2), some (39, false)⟩, ⟨some 41, .ld 1 false (.t 40), some (39, false)⟩, ⟨some 42, .fa 0 (.t 2), some (39, false)⟩, ⟨some 43, .ld 1 false (.t 42), some (39, false)⟩, ⟨some 44, .bin .eql (.t 41) (.t 43), some (39, false)⟩, ⟨some 45, .pick (.t 39) (.c (.bool true)) (.t 44), none⟩]) (.cond (.t 45) (.seq (.reg [⟨some 4, .mv (.c (.bool false)), none⟩]) .ret) .skip)) (.seq (.reg [⟨some 5, .mv (.f 127), none⟩]) (.seq (.seq (.reg [⟨some 46, .fa 4 (.t 2), none⟩, ⟨some 47, .ld 1 false (.t 46), none⟩, ⟨some 48, .len false (.t 47), none⟩, ⟨some 49, .fa 5 (.t 2), none⟩, ⟨some 50, .ld 1 false (.t 49), none⟩, ⟨some 51, .len false (.t 50), none⟩, ⟨some 52, .bin .add (.t 51) (.c (.int .i64 1)), none⟩, ⟨some 53, .bin .neq (.t 48) (.t 52), none⟩, ⟨some 54, .mv (.t 53), none⟩, ⟨some 55, .fa 4 (.t 2), some (54, false)⟩, ⟨some 56, .ld 1 false (.t 55), some (54, false)⟩, ⟨some 57, .mv (.t 5), some (54, false)⟩, ⟨some 58, .calle 128 [.t 56, .t 57], some (54, false)⟩, ⟨some 59, .pick (.t 54) (.c (.bool true)) (.t 58), none⟩, ⟨some 60, .mv (.t 59), none⟩, ⟨some 61, .fa 2 (.t 2), some (60, false)⟩, ⟨some 62, .ld 1 false (.t 61), some (60, false)⟩, ⟨some 63, .bin .eql (.t 62) (.c (.int .i64 0)), some (60, false)⟩, ⟨some 64, .fa 3 (.t 2), some (60, false)⟩, ⟨some 65, .ld 1 false (.t 64), some (60, false)⟩, ⟨some 66, .bin .eql (.t 65) (.c (.string ⟨#[]⟩)), some (60, false)⟩, ⟨some 67, .beq true (.t 63) (.t 66), some (60, false)⟩, ⟨some 68, .pick (.t 60) (.c (.bool true)) (.t 67), none⟩, ⟨some 69, .mv (.t 68), none⟩, ⟨some 70, .fa 3 (.t 2), some (69, false)⟩, ⟨some 71, .ld 1 false (.t 70), some (69, false)⟩, ⟨some 72, .len true (.t 71), some (69, false)⟩, ⟨some 73, .mv (.t 1), some (69, false)⟩, ⟨some 74, .bin .quo (.t 73) (.c (.int .i64 8)), some (69, false)⟩, ⟨some 75, .bin .gtr (.t 72) (.t 74), some (69, false)⟩, ⟨some 76, .pick (.t 69) (.c (.bool true)) (.t 75), none⟩]) (.cond (.t 76) (.seq (.reg [⟨some 4, .mv (.c (.bool false)), none⟩]) .ret) .skip)) (.seq (.reg [⟨some 6, .mv (.c (.string ⟨#[]⟩)), none⟩]) (.seq (.seq (.reg [⟨some 77, .fa 5 (.t 2), none⟩, ⟨some 78, .ld 1 false (.t 77), none⟩, ⟨some 79, .len false (.t 78), none⟩, ⟨some 80, .mv (.c (.int .i64 0)), none⟩]) (.block 0 (.loop (.seq (.reg [⟨some 81, .bin .lss (.t 80) (.t 79), none⟩]) (.seq (.cond (.t 81) .skip (.exit 0)) (.seq (.block 1 (.seq (.reg [⟨some 82, .ixa 1 (.t 78) (.t 80), none⟩, ⟨some 83, .ld 1 false (.t 82), none⟩, ⟨some 8, .mv (.t 83), none⟩]) (.seq (.seq (.reg [⟨some 84, .mv (.t 8), none⟩, ⟨some 85, .mv (.t 6), none⟩, ⟨some 86, .bin .leq (.t 84) (.t 85), none⟩, ⟨some 87, .mv (.t 86), none⟩, ⟨some 88, .mv (.t 8), some (87, false)⟩, ⟨some 89, .len true (.t 88), some (87, false)⟩, ⟨some 90, .mv (.t 1), some (87, false)⟩, ⟨some 91, .bin .quo (.t 90) (.c (.int .i64 8)), some (87, false)⟩, ⟨some 92, .bin .gtr (.t 89) (.t 91), some (87, false)⟩, ⟨some 93, .pick (.t 87) (.c (.bool true)) (.t 92), none⟩, ⟨some 94, .mv (.t 93), none⟩, ⟨some 95, .fa 2 (.t 2), some (94, false)⟩, ⟨some 96, .ld 1 false (.t 95), some (94, false)⟩, ⟨some 97, .bin .neq (.t 96) (.c (.int .i64 0)), some (94, false)⟩, ⟨some 98, .mv (.t 97), some (94, false)⟩, ⟨some 99, .mv (.t 8), some (98, true)⟩, ⟨some 100, .fa 3 (.t 2), some (98, true)⟩, ⟨some 101, .ld 1 false (.t 100), some (98, true)⟩, ⟨some 102, .bin .geq (.t 99) (.t 101), some (98, true)⟩, ⟨some 103, .pick (.t 98) (.t 102) (.c (.bool false)), some (94, false)⟩, ⟨some 104, .pick (.t 94) (.c (.bool true)) (.t 103), none⟩]) (.cond (.t 104) (.seq (.reg [⟨some 4, .mv (.c (.bool false)), none⟩]) .ret) .skip)) (.reg [⟨some 105, .mv (.t 8), none⟩, ⟨some 6, .mv (.t 105), none⟩])))) (.reg [⟨some 106, .bin .add (.t 80) (.c (.int .i64 1)), none⟩, ⟨some 80, .mv (.t 106), none⟩]))))))) (.seq (.reg [⟨some 4, .mv (.c (.bool true)), none⟩]) .ret))))))⟩
theorem e72 : cfun Tryz.prog 72 = some c72 := by kernel_rfl
def sLe (s t : ByteArray) : Prop := (Op.bytesLess s.toList t.toList || s.toList == t.toList) = true
instance (s t : ByteArray) : Decidable (sLe s t) := inferInstanceAs (Decidable (_ = true))
theorem s_sleq {s t : ByteArray} {K : Value → Prop} (h1 : sLe s t → K (.bool true)) (h2 : ¬ sLe s t → K (.bool false)) : ∃ r, dbin .leq (.string s) (.string t) = some r ∧ K r := by
  refine ⟨_, rfl, ?_⟩
  cases h : (Op.bytesLess s.toList t.toList || s.toList == t.toList)
  · exact h2 (by simp [sLe, h])
  · exact h1 h
structure InnerM where
  self : Int
  level : Int
  right : Int
  high : ByteArray
  kids : List Int
  seps : List ByteArray
abbrev innerD (n : InnerM) : DV := .agg [VN .i64 n.self, VN .i64 n.level, VN .i64 n.right, SV n.high, ints n.kids, .list 1 (strsL n.seps)]
def sepAt (l : List ByteArray) (i : Nat) : ByteArray := (l[i]?).getD nilS
def lastOf (l : List ByteArray) : Nat → ByteArray
  | 0 => nilS
  | i + 1 => sepAt l i
theorem sep_at {l : List ByteArray} {i : Nat} (h : i < l.length) : (strsL l)[(i : Int).toNat]? = some (SV (sepAt l i)) := by
  have : sepAt l i = l[i] := by simp [sepAt, h]
  rw [this]; exact strs_get h
def sepP (right : Int) (high : ByteArray) (l : List ByteArray) (p : Int) (i : Nat) : Prop :=
  ¬ sLe (sepAt l i) (lastOf l i) ∧ ((sepAt l i).size : Int) ≤ p / 8 ∧ (right ≠ 0 → sLt (sepAt l i) high)
instance (right : Int) (high : ByteArray) (l : List ByteArray) (p : Int) (i : Nat) : Decidable (sepP right high l p i) := inferInstanceAs (Decidable (_ ∧ _ ∧ _))
def mayI (self level right : Int) (high : ByteArray) (kids : List Int) (ns : Nat) (p : Int) : Prop :=
  sizeB p = true ∧ pageP self ∧ 1 ≤ level ∧ level < 256 ∧ (right = 0 ∨ pageP right) ∧ right ≠ self ∧ (kids.length : Int) = ns + 1 ∧ (∀ x ∈ kids, pageP x) ∧ (right = 0 ↔ high = nilS) ∧ (high.size : Int) ≤ p / 8
instance (self level right : Int) (high : ByteArray) (kids : List Int) (ns : Nat) (p : Int) : Decidable (mayI self level right high kids ns p) := inferInstanceAs (Decidable (_ ∧ _ ∧ _ ∧ _ ∧ _ ∧ _ ∧ _ ∧ _ ∧ _ ∧ _))
def mayN (n : InnerM) (p : Int) : Prop := mayI n.self n.level n.right n.high n.kids n.seps.length p ∧ ∀ i, i < n.seps.length → sepP n.right n.high n.seps p i
instance (n : InnerM) (p : Int) : Decidable (mayN n p) := inferInstanceAs (Decidable (_ ∧ _))
theorem imay_0 (self level right : Int) (high : ByteArray) (kids : List Int) (l : List ByteArray) (p : Int) (hk : kids.length ≤ 1000000) (hl : l.length ≤ 1000000) (hH : mayI self level right high kids l.length p) (hr : right = 0) : DPure Tp I 72 [.agg [VN .i64 self, VN .i64 level, VN .i64 right, SV high, ints kids, .list 1 (strsL l)], VN .i64 p] (BV (decide (mayN ⟨self, level, right, high, kids, l⟩ p))) := by
  have hll := strs_len l
  have hkl := ints_len kids
  have no : ∀ {d : DV}, ¬ mayN ⟨self, level, right, high, kids, l⟩ p → d = BV false → Wk d (BV (decide (mayN ⟨self, level, right, high, kids, l⟩ p))) := fun h e => by rw [decide_eq_false h, e]; exact .v _
  have hHH := hH
  obtain ⟨g1, g2, g3, g4, g5, g6, g7, g8, g9, g10⟩ := hH
  have hp := sizeB_in g1
  have d1 : DPure Tp I 67 [VN .i64 p] (BV true) := by have := size_D (I := I) p; rwa [g1] at this
  have d2 := dp_t (inumber_D (I := I) self) g2
  have d4 := dp_f (contains_D (I := I) kids hk) (not_not_intro g8)
  have hhi := g9.1 hr
  refine z_pure (e0 := ?e0x1) mix e72 rfl ?z01 ?_
  (case z01 => exact rfl)
  dsimp only [c72]
  repeat' (first | ((with_reducible apply z_call); (case' hd => apply d1); (case hw => exact wknL_ok rfl); (try any_goals exact sd)) | ((with_reducible apply z_call); (case' hd => apply d2); (case hw => exact wknL_ok rfl); (try any_goals exact sd)) | ((with_reducible apply z_callep); (case' hd => apply d4); (case hw => exact wknL_ok rfl)) | with_reducible refine s_seql_t hhi ?_ | refine z1 ?_ | refine Br.mk ?_ ?_ | intro _ | refine zf ?_ | fail)
  refine z_loop (fun i : Nat => ⟨[(1, VN .i64 p), (2, .lp 0 0), (6, SV (lastOf l i)), (78, .list 1 (strsL l)), (79, VN .i64 (strsL l).length), (80, VN .i64 i)], [[VN .i64 self, VN .i64 level, VN .i64 right, SV high, ints kids, .list 1 (strsL l)]], []⟩) (fun i : Nat => i ≤ l.length ∧ ∀ j, j < i → sepP right high l p j) (fun i : Nat => l.length - i) (0) ?_ ?_ fun i hi => ?_
  · exact (less_of 1 0 0 rfl rfl (lessE_cons (ltd_eq rfl (by kernel_rfl)) (lessE_cons (ltd_eq rfl (by kernel_rfl)) (lessE_cons (ltd_eq rfl (by kernel_rfl)) (lessE_cons (ltd_eq rfl (by kernel_rfl)) (lessE_cons (ltd_eq rfl (by kernel_rfl)) (lessE_cons (ltd_eq rfl (by kernel_rfl)) lessE_nil)))))) (by kernel_rfl) (by kernel_rfl) (by kernel_rfl) (by kernel_rfl))
  · exact ⟨Nat.zero_le _, fun j hj => absurd hj (Nat.not_lt_zero j)⟩
  have hile := hi.1
  have hok := hi.2
  by_cases hil : i < l.length
  · repeat' (first | refine ⟨_, sep_at hil, ?_⟩ | with_reducible refine s_sleq (fun _ => ?_) (fun _ => ?_) | refine z1 ?_ | refine Br.mk ?_ ?_ | intro _ | refine zf ?_ | fail)
    all_goals first
      | exact no (fun h => by have h2 := h.2 i hil; unfold sepP at h2; grind) (by kernel_rfl)
      | exact ⟨i + 1, (less_of 1 0 0 rfl rfl (lessE_cons (ltd_eq rfl (by kernel_rfl)) (lessE_cons (ltd_eq rfl (by kernel_rfl)) (lessE_cons (ltd_eq rfl (by kernel_rfl)) (lessE_cons (ltd_eq rfl (by kernel_rfl)) (lessE_cons (ltd_eq rfl (by kernel_rfl)) (lessE_cons (ltd_eq rfl (by kernel_rfl)) lessE_nil)))))) (by kernel_rfl) (by kernel_rfl) (by kernel_rfl) (by kernel_rfl)), ⟨hil, ok_snoc hok (by unfold sepP; grind)⟩, by omega⟩
  · repeat' (first | refine zs ?_ | refine Br.mk ?_ ?_ | intro _ | refine zf ?_ | fail)
    have hy : mayN ⟨self, level, right, high, kids, l⟩ p := ⟨hHH, fun j hj => hok j (by have : j < l.length := hj; omega)⟩
    refine bool_of (b := true) (by kernel_rfl) ?_
    exact (decide_eq_true hy).symm
theorem imay_1 (self level right : Int) (high : ByteArray) (kids : List Int) (l : List ByteArray) (p : Int) (hk : kids.length ≤ 1000000) (hl : l.length ≤ 1000000) (hH : mayI self level right high kids l.length p) (hr : ¬ right = 0) : DPure Tp I 72 [.agg [VN .i64 self, VN .i64 level, VN .i64 right, SV high, ints kids, .list 1 (strsL l)], VN .i64 p] (BV (decide (mayN ⟨self, level, right, high, kids, l⟩ p))) := by
  have hll := strs_len l
  have hkl := ints_len kids
  have no : ∀ {d : DV}, ¬ mayN ⟨self, level, right, high, kids, l⟩ p → d = BV false → Wk d (BV (decide (mayN ⟨self, level, right, high, kids, l⟩ p))) := fun h e => by rw [decide_eq_false h, e]; exact .v _
  have hHH := hH
  obtain ⟨g1, g2, g3, g4, g5, g6, g7, g8, g9, g10⟩ := hH
  have hp := sizeB_in g1
  have d1 : DPure Tp I 67 [VN .i64 p] (BV true) := by have := size_D (I := I) p; rwa [g1] at this
  have d2 := dp_t (inumber_D (I := I) self) g2
  have d4 := dp_f (contains_D (I := I) kids hk) (not_not_intro g8)
  have hhi : ¬ high = nilS := fun e => hr (g9.2 e)
  have d3 := dp_t (inumber_D (I := I) right) (g5.resolve_left hr)
  refine z_pure (e0 := ?e0x2) mix e72 rfl ?z02 ?_
  (case z02 => exact rfl)
  dsimp only [c72]
  repeat' (first | ((with_reducible apply z_call); (case' hd => apply d1); (case hw => exact wknL_ok rfl); (try any_goals exact sd)) | ((with_reducible apply z_call); (case' hd => apply d2); (case hw => exact wknL_ok rfl); (try any_goals exact sd)) | ((with_reducible apply z_call); (case' hd => apply d3); (case hw => exact wknL_ok rfl); (try any_goals exact sd)) | ((with_reducible apply z_callep); (case' hd => apply d4); (case hw => exact wknL_ok rfl)) | with_reducible refine s_seql_f hhi ?_ | refine z1 ?_ | refine Br.mk ?_ ?_ | intro _ | refine zf ?_ | fail)
  refine z_loop (fun i : Nat => ⟨[(1, VN .i64 p), (2, .lp 0 0), (6, SV (lastOf l i)), (78, .list 1 (strsL l)), (79, VN .i64 (strsL l).length), (80, VN .i64 i)], [[VN .i64 self, VN .i64 level, VN .i64 right, SV high, ints kids, .list 1 (strsL l)]], []⟩) (fun i : Nat => i ≤ l.length ∧ ∀ j, j < i → sepP right high l p j) (fun i : Nat => l.length - i) (0) ?_ ?_ fun i hi => ?_
  · exact (less_of 1 0 0 rfl rfl (lessE_cons (ltd_eq rfl (by kernel_rfl)) (lessE_cons (ltd_eq rfl (by kernel_rfl)) (lessE_cons (ltd_eq rfl (by kernel_rfl)) (lessE_cons (ltd_eq rfl (by kernel_rfl)) (lessE_cons (ltd_eq rfl (by kernel_rfl)) (lessE_cons (ltd_eq rfl (by kernel_rfl)) lessE_nil)))))) (by kernel_rfl) (by kernel_rfl) (by kernel_rfl) (by kernel_rfl))
  · exact ⟨Nat.zero_le _, fun j hj => absurd hj (Nat.not_lt_zero j)⟩
  have hile := hi.1
  have hok := hi.2
  by_cases hil : i < l.length
  · repeat' (first | refine ⟨_, sep_at hil, ?_⟩ | with_reducible refine s_sleq (fun _ => ?_) (fun _ => ?_) | refine z1 ?_ | refine Br.mk ?_ ?_ | intro _ | refine zf ?_ | fail)
    all_goals first
      | exact no (fun h => by have h2 := h.2 i hil; unfold sepP at h2; grind) (by kernel_rfl)
      | exact ⟨i + 1, (less_of 1 0 0 rfl rfl (lessE_cons (ltd_eq rfl (by kernel_rfl)) (lessE_cons (ltd_eq rfl (by kernel_rfl)) (lessE_cons (ltd_eq rfl (by kernel_rfl)) (lessE_cons (ltd_eq rfl (by kernel_rfl)) (lessE_cons (ltd_eq rfl (by kernel_rfl)) (lessE_cons (ltd_eq rfl (by kernel_rfl)) lessE_nil)))))) (by kernel_rfl) (by kernel_rfl) (by kernel_rfl) (by kernel_rfl)), ⟨hil, ok_snoc hok (by unfold sepP; grind)⟩, by omega⟩
  · repeat' (first | refine zs ?_ | refine Br.mk ?_ ?_ | intro _ | refine zf ?_ | fail)
    have hy : mayN ⟨self, level, right, high, kids, l⟩ p := ⟨hHH, fun j hj => hok j (by have : j < l.length := hj; omega)⟩
    refine bool_of (b := true) (by kernel_rfl) ?_
    exact (decide_eq_true hy).symm
theorem imay_2 (self level right : Int) (high : ByteArray) (kids : List Int) (l : List ByteArray) (p : Int) (hk : kids.length ≤ 1000000) (hl : l.length ≤ 1000000) (hH : ¬ mayI self level right high kids l.length p) : DPure Tp I 72 [.agg [VN .i64 self, VN .i64 level, VN .i64 right, SV high, ints kids, .list 1 (strsL l)], VN .i64 p] (BV (decide (mayN ⟨self, level, right, high, kids, l⟩ p))) := by
  have hll := strs_len l
  have hkl := ints_len kids
  have no : ∀ {d : DV}, ¬ mayN ⟨self, level, right, high, kids, l⟩ p → d = BV false → Wk d (BV (decide (mayN ⟨self, level, right, high, kids, l⟩ p))) := fun h e => by rw [decide_eq_false h, e]; exact .v _
  by_cases hs : sizeB p = true
  · have hp := sizeB_in hs
    have d1 : DPure Tp I 67 [VN .i64 p] (BV true) := by have := size_D (I := I) p; rwa [hs] at this
    by_cases hkk : ∀ x ∈ kids, pageP x
    · have d4 := dp_f (contains_D (I := I) kids hk) (not_not_intro hkk)
      refine z_pure (e0 := ?e0x3) mix e72 rfl ?z03 ?_
      (case z03 => exact rfl)
      dsimp only [c72]
      repeat' (first | ((with_reducible apply z_call); (case' hd => apply d1); (case hw => exact wknL_ok rfl); (try any_goals exact sd)) | ((with_reducible apply z_callb); (case' hd => apply (inumber_D self)); (case hw => exact wknL_ok rfl); (try any_goals exact sd)) | ((with_reducible apply z_callb); (case' hd => apply (inumber_D right)); (case hw => exact wknL_ok rfl); (try any_goals exact sd)) | ((with_reducible apply z_callep); (case' hd => apply d4); (case hw => exact wknL_ok rfl)) | refine z1 ?_ | refine Br.mk ?_ ?_ | intro _ | refine zf ?_ | fail)
      all_goals first
        | exact no (fun h => hH h.1) (by kernel_rfl)
        | (exact absurd (by unfold mayI; refine ⟨hs, of_decide_eq_true ‹decide (pageP self) = true›, by omega, by omega, ?_, by omega, by omega, hkk, ?_, by omega⟩ <;> grind) hH)
    · have d4 := dp_t (contains_D (I := I) kids hk) hkk
      have hn : ¬ mayN ⟨self, level, right, high, kids, l⟩ p := fun h => hkk h.1.2.2.2.2.2.2.2.1
      refine z_pure (e0 := ?e0x4) mix e72 rfl ?z04 ?_
      (case z04 => exact rfl)
      dsimp only [c72]
      repeat' (first | ((with_reducible apply z_call); (case' hd => apply d1); (case hw => exact wknL_ok rfl); (try any_goals exact sd)) | ((with_reducible apply z_callb); (case' hd => apply (inumber_D self)); (case hw => exact wknL_ok rfl); (try any_goals exact sd)) | ((with_reducible apply z_callb); (case' hd => apply (inumber_D right)); (case hw => exact wknL_ok rfl); (try any_goals exact sd)) | ((with_reducible apply z_callep); (case' hd => apply d4); (case hw => exact wknL_ok rfl)) | refine z1 ?_ | refine Br.mk ?_ ?_ | intro _ | refine zf ?_ | fail)
      all_goals exact no hn (by kernel_rfl)
  · have d1 : DPure Tp I 67 [VN .i64 p] (BV false) := by have := size_D (I := I) p; rwa [show sizeB p = false by simpa using hs] at this
    refine z_pure (e0 := ?e0x5) mix e72 rfl ?z05 ?_
    (case z05 => exact rfl)
    dsimp only [c72]
    repeat' (first | ((with_reducible apply z_call); (case' hd => apply d1); (case hw => exact wknL_ok rfl); (try any_goals exact sd)) | refine zs ?_ | refine Br.mk ?_ ?_ | intro _ | refine zf ?_ | fail)
    exact no (fun h => hH h.1) (by kernel_rfl)
theorem imay_D0 (self level right : Int) (high : ByteArray) (kids : List Int) (l : List ByteArray) (p : Int) (hk : kids.length ≤ 1000000) (hl : l.length ≤ 1000000) : DPure Tp I 72 [.agg [VN .i64 self, VN .i64 level, VN .i64 right, SV high, ints kids, .list 1 (strsL l)], VN .i64 p] (BV (decide (mayN ⟨self, level, right, high, kids, l⟩ p))) := by
  by_cases hH : mayI self level right high kids l.length p
  · by_cases hr : right = 0
    · exact imay_0 self level right high kids l p hk hl hH hr
    · exact imay_1 self level right high kids l p hk hl hH hr
  · exact imay_2 self level right high kids l p hk hl hH
end Go.Proofs.YtlbodfkhenkcjaaGreatDoor.X


namespace Go.Proofs.YtlbodfkhenkcjaaGreatDoor.X
open Go Go.Proofs Go.RowKit Go.Proofs.YtlbodfkhenkcjaaGreatDoor.D
set_option maxRecDepth 100000
set_option maxHeartbeats 1000000
set_option linter.unusedVariables false
set_option linter.unusedSimpArgs false
variable {I : D.Inv}
attribute [local irreducible] D.DPure D.DEff D.callable spanN stripA stripR pkS pkE putS gkE gkK gkS

def c73 : DFun := ⟨60, [.t 2, .t 3], .seq (.reg [⟨some 1, .box (.t 0), none⟩, ⟨some 2, .mv (.c (.string ⟨#[]⟩)), none⟩, ⟨some 3, .mv (.c (.slice none 0 0)), none⟩]) (.seq (.reg [⟨some 13, .fa 5 (.t 1), none⟩, ⟨some 14, .ld 1 false (.t 13), none⟩, ⟨some 15, .call 120 [.t 14], none⟩, ⟨some 12, .mv (.t 15), none⟩, ⟨some 16, .ext (.t 12) 0, none⟩, ⟨some 17, .ext (.t 12) 1, none⟩, ⟨some 4, .mv (.t 16), none⟩, ⟨some 5, .mv (.t 17), none⟩]) (.seq (.reg [⟨some 6, .mv (.c (.slice none 0 0)), none⟩]) (.seq (.seq (.reg [⟨some 18, .fa 4 (.t 1), none⟩, ⟨some 19, .ld 1 false (.t 18), none⟩, ⟨some 20, .len false (.t 19), none⟩, ⟨some 21, .mv (.c (.int .i64 0)), none⟩]) (.block 0 (.loop (.seq (.reg [⟨some 22, .bin .lss (.t 21) (.t 20), none⟩]) (.seq (.cond (.t 22) .skip (.exit 0)) (.seq (.block 1 (.seq (.reg [⟨some 23, .mv (.t 21), none⟩, ⟨some 24, .ixa 1 (.t 19) (.t 21), none⟩, ⟨some 25, .ld 1 false (.t 24), none⟩, ⟨some 7, .mv (.t 23), none⟩, ⟨some 8, .mv (.t 25), none⟩]) (.seq (.reg [⟨some 9, .mv (.c (.string ⟨#[]⟩)), none⟩]) (.seq (.seq (.reg [⟨some 26, .mv (.t 7), none⟩, ⟨some 27, .bin .gtr (.t 26) (.c (.int .i64 0)), none⟩]) (.cond (.t 27) (.reg [⟨some 28, .mv (.t 5), none⟩, ⟨some 29, .mv (.t 7), none⟩, ⟨some 30, .bin .sub (.t 29) (.c (.int .i64 1)), none⟩, ⟨some 31, .ixa 1 (.t 28) (.t 30), none⟩, ⟨some 32, .ld 1 false (.t 31), none⟩, ⟨some 9, .mv (.t 32), none⟩]) .skip)) (.seq (.reg [⟨some 34, .mv (.t 8), none⟩, ⟨some 35, .mv (.t 9), none⟩, ⟨some 36, .call 129 [.t 34, .t 35], none⟩, ⟨some 33, .mv (.t 36), none⟩, ⟨some 37, .ext (.t 33) 0, none⟩, ⟨some 38, .ext (.t 33) 1, none⟩, ⟨some 10, .mv (.t 37), none⟩, ⟨some 11, .mv (.t 38), none⟩]) (.reg [⟨some 39, .mv (.t 6), none⟩, ⟨some 40, .mv (.t 10), none⟩, ⟨some 41, .bsl 1 [.t 40], none⟩, ⟨some 42, .app 9 1 16 (.t 39) (.t 41), none⟩, ⟨some 6, .mv (.t 42), none⟩])))))) (.reg [⟨some 43, .bin .add (.t 21) (.c (.int .i64 1)), none⟩, ⟨some 21, .mv (.t 43), none⟩]))))))) (.seq (.reg [⟨some 44, .mv (.t 4), none⟩, ⟨some 45, .len true (.t 44), none⟩, ⟨some 46, .cvt .u64 (.t 45), none⟩, ⟨some 47, .call 123 [.t 46], none⟩, ⟨some 48, .mv (.t 4), none⟩, ⟨some 49, .bin .add (.t 47) (.t 48), none⟩, ⟨some 50, .fa 3 (.t 1), none⟩, ⟨some 51, .ld 1 false (.t 50), none⟩, ⟨some 52, .len true (.t 51), none⟩, ⟨some 53, .cvt .u64 (.t 52), none⟩, ⟨some 54, .call 123 [.t 53], none⟩, ⟨some 55, .bin .add (.t 49) (.t 54), none⟩, ⟨some 56, .fa 3 (.t 1), none⟩, ⟨some 57, .ld 1 false (.t 56), none⟩, ⟨some 58, .bin .add (.t 55) (.t 57), none⟩, ⟨some 59, .mv (.t 6), none⟩, ⟨some 2, .mv (.t 58), none⟩, ⟨some 3, .mv (.t 59), none⟩]) .ret))))⟩
theorem e73 : cfun Tryz.prog 73 = some c73 := by kernel_rfl
def c56 : DFun := ⟨58, [.t 4, .t 5, .t 6], .seq (.reg [⟨some 4, .mv (.c (.slice none 0 0)), none⟩, ⟨some 5, .mv (.c (.slice none 0 0)), none⟩, ⟨some 6, .mv (.c (.bool false)), none⟩]) (.seq (.reg [⟨some 7, .mv (.c (.slice none 0 0)), none⟩]) (.seq (.reg [⟨some 8, .mv (.c (.slice none 0 0)), none⟩]) (.seq (.seq (.reg [⟨some 14, .mv (.t 0), none⟩, ⟨some 15, .len false (.t 14), none⟩, ⟨some 16, .mv (.c (.int .i64 0)), none⟩]) (.block 0 (.loop (.seq (.reg [⟨some 17, .bin .lss (.t 16) (.t 15), none⟩]) (.seq (.cond (.t 17) .skip (.exit 0)) (.seq (.block 1 (.seq (.reg [⟨some 18, .mv (.t 16), none⟩, ⟨some 19, .ixa 1 (.t 14) (.t 16), none⟩, ⟨some 20, .ld 1 false (.t 19), none⟩, ⟨some 9, .mv (.t 18), none⟩, ⟨some 10, .mv (.t 20), none⟩]) (.seq (.reg [⟨some 22, .mv (.t 10), none⟩, ⟨some 23, .call 98 [.t 22], none⟩, ⟨some 21, .mv (.t 23), none⟩, ⟨some 24, .ext (.t 21) 0, none⟩, ⟨some 25, .ext (.t 21) 1, none⟩, ⟨some 26, .ext (.t 21) 2, none⟩, ⟨some 11, .mv (.t 24), none⟩, ⟨some 12, .mv (.t 25), none⟩, ⟨some 13, .mv (.t 26), none⟩]) (.seq (.seq (.reg [⟨some 27, .mv (.t 13), none⟩, ⟨some 28, .bin .neq (.t 27) (.c (.int .i64 0)), none⟩, ⟨some 29, .mv (.t 28), none⟩, ⟨some 30, .mv (.t 9), some (29, false)⟩, ⟨some 31, .bin .eql (.t 30) (.c (.int .i64 0)), some (29, false)⟩, ⟨some 32, .mv (.t 31), some (29, false)⟩, ⟨some 33, .mv (.t 12), some (32, true)⟩, ⟨some 34, .bin .neq (.t 33) (.c (.string ⟨#[]⟩)), some (32, true)⟩, ⟨some 35, .pick (.t 32) (.t 34) (.c (.bool false)), some (29, false)⟩, ⟨some 36, .pick (.t 29) (.c (.bool true)) (.t 35), none⟩]) (.cond (.t 36) (.seq (.reg [⟨some 4, .mv (.c (.slice none 0 0)), none⟩, ⟨some 5, .mv (.c (.slice none 0 0)), none⟩, ⟨some 6, .mv (.c (.bool false)), none⟩]) .ret) .skip)) (.reg [⟨some 37, .mv (.t 7), none⟩, ⟨some 38, .mv (.t 11), none⟩, ⟨some 39, .bsl 1 [.t 38], none⟩, ⟨some 40, .app 3 1 8 (.t 37) (.t 39), none⟩, ⟨some 41, .mv (.t 8), none⟩, ⟨some 42, .mv (.t 1), none⟩, ⟨some 43, .mv (.t 12), none⟩, ⟨some 44, .bin .add (.t 42) (.t 43), none⟩, ⟨some 45, .bsl 1 [.t 44], none⟩, ⟨some 46, .app 9 1 16 (.t 41) (.t 45), none⟩, ⟨some 7, .mv (.t 40), none⟩, ⟨some 8, .mv (.t 46), none⟩]))))) (.reg [⟨some 47, .bin .add (.t 16) (.c (.int .i64 1)), none⟩, ⟨some 16, .mv (.t 47), none⟩]))))))) (.seq (.seq (.reg [⟨some 48, .mv (.t 7), none⟩, ⟨some 49, .len false (.t 48), none⟩, ⟨some 50, .bin .eql (.t 49) (.c (.int .i64 0)), none⟩]) (.cond (.t 50) (.seq (.reg [⟨some 4, .mv (.c (.slice none 0 0)), none⟩, ⟨some 5, .mv (.c (.slice none 0 0)), none⟩, ⟨some 6, .mv (.c (.bool false)), none⟩]) .ret) .skip)) (.seq (.reg [⟨some 51, .mv (.t 7), none⟩, ⟨some 52, .mv (.t 8), none⟩, ⟨some 53, .mv (.t 8), none⟩, ⟨some 54, .len false (.t 53), none⟩, ⟨some 55, .mv (.t 8), none⟩, ⟨some 56, .len false (.t 55), none⟩, ⟨some 57, .slL 1 (.t 52) (some (.c (.int .i64 1))) (some (.t 54)) (some (.t 56)), none⟩, ⟨some 4, .mv (.t 51), none⟩, ⟨some 5, .mv (.t 57), none⟩, ⟨some 6, .mv (.c (.bool true)), none⟩]) .ret)))))⟩
theorem e56 : cfun Tryz.prog 56 = some c56 := by kernel_rfl
def cellsI (kids : List Int) (seps : List ByteArray) : List ByteArray := List.zipWith pkS kids (nilS :: stripR seps)
def fixedI (high : ByteArray) (seps : List ByteArray) : ByteArray := putS (stripA seps).size ++ stripA seps ++ putS high.size ++ high
theorem cellsI_len {kids : List Int} {seps : List ByteArray} (h : kids.length = seps.length + 1) : (cellsI kids seps).length = kids.length := by
  unfold cellsI; rw [List.length_zipWith, List.length_cons, stripR_len]; omega
theorem cellsI_0 {kids : List Int} {seps : List ByteArray} (h : kids.length = seps.length + 1) (h0 : 0 < kids.length) : strsL ((cellsI kids seps).take (0 + 1)) = strsL ((cellsI kids seps).take 0) ++ [SV (pkS kids[0] nilS)] := by
  have hc : 0 < (cellsI kids seps).length := by rw [cellsI_len h]; exact h0
  rw [List.take_succ_eq_append_getElem hc]
  have : (cellsI kids seps)[0] = pkS kids[0] nilS := by simp [cellsI]
  rw [this]; simp [strsL]
theorem cellsI_S {kids : List Int} {seps : List ByteArray} {i : Nat} (h : kids.length = seps.length + 1) (hi : i + 1 < kids.length) (hr : i < (stripR seps).length) : strsL ((cellsI kids seps).take (i + 1 + 1)) = strsL ((cellsI kids seps).take (i + 1)) ++ [SV (pkS kids[i + 1] ((stripR seps)[i]'hr))] := by
  have hc : i + 1 < (cellsI kids seps).length := by rw [cellsI_len h]; exact hi
  rw [List.take_succ_eq_append_getElem hc]
  have : (cellsI kids seps)[i + 1] = pkS kids[i + 1] ((stripR seps)[i]'hr) := by simp [cellsI]
  rw [this]; simp [strsL]
theorem strs_pred {l : List ByteArray} {i : Nat} (h : i < l.length) : (strsL l)[(((i + 1 : Nat) : Int) - 1).toNat]? = some (SV (l[i]'h)) := by
  rw [show (((i + 1 : Nat) : Int) - 1).toNat = i by omega]; simp [strsL, h]
theorem iparts_D0 (self level right : Int) (high : ByteArray) (kids : List Int) (l : List ByteArray) (hn : kids.length = l.length + 1) (hl : l.length ≤ 100000) (hk : ∀ s ∈ l, s.size ≤ 1000000) (hh : high.size ≤ 1000000) :
    DPure Tp I 73 [.agg [VN .i64 self, VN .i64 level, VN .i64 right, SV high, ints kids, .list 1 (strsL l)]] (.tup [SV (fixedI high l), .list 1 (strsL (cellsI kids l))]) := by
  have hll := strs_len l
  have hkl := ints_len kids
  have d1 := strip_D (I := I) l (by omega) hk
  have hA := stripA_size hk
  have hRl := stripR_len l
  have hRs := stripR_size hk
  have p1 := putS_size (n := ((stripA l).size : Int)) (by omega)
  have p2 := putS_size (n := (high.size : Int)) (by omega)
  refine z_pure (e0 := ?e0x1) mix e73 rfl ?z01 ?_
  (case z01 => exact rfl)
  dsimp only [c73]
  repeat' (first | ((with_reducible apply z_call); (case' hd => apply d1); (case hw => exact wknL_ok rfl); (try any_goals exact sd)) | refine zs ?_ | refine Br.mk ?_ ?_ | intro _ | refine zf ?_ | fail)
  refine z_loop (fun i : Nat => ⟨[(1, .lp 0 0), (4, SV (stripA l)), (5, .list 1 (strsL (stripR l))), (6, .own 0 9 1 (strsL ((cellsI kids l).take i))), (19, ints kids), (20, VN .i64 (kids.map fun n => VN .i64 n).length), (21, VN .i64 i)], [[VN .i64 self, VN .i64 level, VN .i64 right, SV high, ints kids, .list 1 (strsL l)]], [(strsL ((cellsI kids l).take i)).length * 1]⟩) (fun i : Nat => i ≤ kids.length) (fun i : Nat => kids.length - i) (0) ?_ ?_ fun i hi => ?_
  · exact (less_of 1 0 1 rfl rfl (lessE_cons (ltd_eq rfl (by kernel_rfl)) (lessE_cons (ltd_eq rfl (by kernel_rfl)) (lessE_cons (ltd_eq rfl (by kernel_rfl)) (lessE_cons (ltd_own rfl rfl (by kernel_rfl)) (lessE_cons (ltd_eq rfl (by kernel_rfl)) (lessE_cons (ltd_eq rfl (by kernel_rfl)) (lessE_cons (ltd_eq rfl (by kernel_rfl)) lessE_nil))))))) (by kernel_rfl) (by kernel_rfl) (by kernel_rfl) (by kernel_rfl))
  · omega
  have hlt : (strsL ((cellsI kids l).take i)).length ≤ kids.length := by rw [strs_len, List.length_take, cellsI_len hn]; omega
  by_cases hil : i < kids.length
  · cases i with
    | zero =>
      have hsn := cellsI_0 hn hil
      repeat' (first | refine ⟨_, ints_get hil, ?_⟩ | ((with_reducible apply z_call); (case' hd => apply (putKid_D kids[0] nilS (Nat.zero_le _))); (case hw => exact wknL_ok rfl); (try any_goals exact sd)) | refine z1 ?_ | refine Br.mk ?_ ?_ | intro _ | refine zf ?_ | fail)
      refine ⟨1, (less_of 1 1 0 rfl rfl (lessE_cons (ltd_eq rfl (by kernel_rfl)) (lessE_cons (ltd_eq rfl (by kernel_rfl)) (lessE_cons (ltd_eq rfl (by kernel_rfl)) (lessE_cons (ltd_eq rfl ?_) (lessE_cons (ltd_eq rfl (by kernel_rfl)) (lessE_cons (ltd_eq rfl (by kernel_rfl)) (lessE_cons (ltd_eq rfl (by kernel_rfl)) lessE_nil))))))) (by kernel_rfl) (by kernel_rfl) ?_ (by kernel_rfl)), by omega, by omega⟩
      · rw [hsn]; kernel_rfl
      · rw [hsn, List.length_append]; kernel_rfl
    | succ i =>
      have hir : i < (stripR l).length := by omega
      have hsn := cellsI_S hn hil hir
      have hrs := hRs _ (List.getElem_mem hir)
      repeat' (first | refine ⟨_, ints_get hil, ?_⟩ | refine ⟨_, strs_pred hir, ?_⟩ | ((with_reducible apply z_call); (case' hd => apply (putKid_D kids[i + 1] ((stripR l)[i]'hir) hrs)); (case hw => exact wknL_ok rfl); (try any_goals exact sd)) | refine z1 ?_ | refine Br.mk ?_ ?_ | intro _ | refine zf ?_ | fail)
      refine ⟨i + 1 + 1, (less_of 1 1 0 rfl rfl (lessE_cons (ltd_eq rfl (by kernel_rfl)) (lessE_cons (ltd_eq rfl (by kernel_rfl)) (lessE_cons (ltd_eq rfl (by kernel_rfl)) (lessE_cons (ltd_eq rfl ?_) (lessE_cons (ltd_eq rfl (by kernel_rfl)) (lessE_cons (ltd_eq rfl (by kernel_rfl)) (lessE_cons (ltd_eq rfl (by kernel_rfl)) lessE_nil))))))) (by kernel_rfl) (by kernel_rfl) ?_ (by kernel_rfl)), by omega, by omega⟩
      · rw [hsn]; kernel_rfl
      · rw [hsn, List.length_append]; kernel_rfl
  · have htk : (cellsI kids l).take i = cellsI kids l := List.take_of_length_le (by rw [cellsI_len hn]; omega)
    repeat' (first | ((with_reducible apply z_call); (case' hd => apply (put_D ((stripA l).size : Int) (by omega))); (case hw => exact wknL_ok rfl); (try any_goals exact sd)) | ((with_reducible apply z_call); (case' hd => apply (put_D (high.size : Int) (by omega))); (case hw => exact wknL_ok rfl); (try any_goals exact sd)) | refine zs ?_ | refine Br.mk ?_ ?_ | intro _ | refine zf ?_ | fail)
    refine tup2w (x1 := SV (fixedI high l)) (x2 := .own 0 9 1 (strsL ((cellsI kids l).take i))) (by kernel_rfl) (.v _) ?_
    rw [htk]
    exact .own _ _ _ _
def kidK (l : List ByteArray) : List Int := l.map gkK
def kidS (all : ByteArray) (l : List ByteArray) : List ByteArray := l.map fun c => all ++ gkS c
def kdOk (l : List ByteArray) (i : Nat) : Prop := ∀ j, (h : j < l.length) → j < i → gkE l[j] = 0 ∧ (j = 0 → gkS l[j] = nilS)
def kdP (l : List ByteArray) : Prop := 0 < l.length ∧ kdOk l l.length
theorem gkS_size (c : ByteArray) : (gkS c).size ≤ c.size := by
  unfold gkS
  split
  · exact tkS_size
  · exact Nat.zero_le _
theorem kidK_snoc {l : List ByteArray} {i : Nat} (h : i < l.length) : (kidK (l.take (i + 1))).map (fun n => VN .i64 n) = (kidK (l.take i)).map (fun n => VN .i64 n) ++ [VN .i64 (gkK (l[i]'h))] := by unfold kidK; rw [List.take_succ_eq_append_getElem h, List.map_append, List.map_append]; rfl
theorem kidS_snoc (all : ByteArray) {l : List ByteArray} {i : Nat} (h : i < l.length) : strsL (kidS all (l.take (i + 1))) = strsL (kidS all (l.take i)) ++ [SV (all ++ gkS (l[i]'h))] := by unfold kidS strsL; rw [List.take_succ_eq_append_getElem h, List.map_append, List.map_append]; rfl
theorem s_sneq_f {s t : ByteArray} {K : Value → Prop} (h : s = t) (hk : K (.bool false)) : ∃ r, dbin .neq (.string s) (.string t) = some r ∧ K r := s_sneq (fun _ => hk) (fun e => absurd h e)
theorem strsL_drop (l : List ByteArray) (n : Nat) : (strsL l).drop n = strsL (l.drop n) := by simp [strsL, List.map_drop]
theorem vtup3b {d : DV} (h : d = .v (.tuple #[.slice none 0 0, .slice none 0 0, .bool false])) : Wk d (.tup [.list 1 [], .list 1 [], BV false]) := by
  subst h; exact Wk.vtupL (xs := [.slice none 0 0, .slice none 0 0, .bool false]) (.cons (.nil _ _ _) (.cons (.nil _ _ _) (.cons (.v _) .nil)))
theorem kids_yes (l : List ByteArray) (all : ByteArray) (hl : l.length ≤ 100000) (hc : ∀ c ∈ l, c.size ≤ 100000) (ha : all.size ≤ 100000) (hP : kdP l) :
    DPure Tp I 56 [.list 1 (strsL l), SV all] (.tup [ints (kidK l), .list 1 (strsL ((kidS all l).drop 1)), BV true]) := by
  have hll := strs_len l
  have hpos := hP.1
  refine z_pure (e0 := ?e0x2) mix e56 rfl ?z02 ?_
  (case z02 => exact rfl)
  dsimp only [c56]
  repeat' (first | refine zs ?_ | refine Br.mk ?_ ?_ | intro _ | refine zf ?_ | fail)
  refine z_loop (fun i : Nat => ⟨[(1, SV all), (7, .own 0 3 1 ((kidK (l.take i)).map fun n => VN .i64 n)), (8, .own 1 9 1 (strsL (kidS all (l.take i)))), (14, .list 1 (strsL l)), (15, VN .i64 (strsL l).length), (16, VN .i64 i)], [], [((kidK (l.take i)).map fun n => VN .i64 n).length * 1, (strsL (kidS all (l.take i))).length * 1]⟩) (fun i : Nat => i ≤ l.length) (fun i : Nat => l.length - i) (0) ?_ ?_ fun i hi => ?_
  · exact (less_of 0 0 2 rfl rfl (lessE_cons (ltd_eq rfl (by kernel_rfl)) (lessE_cons (ltd_own rfl rfl (by kernel_rfl)) (lessE_cons (ltd_own rfl rfl (by kernel_rfl)) (lessE_cons (ltd_eq rfl (by kernel_rfl)) (lessE_cons (ltd_eq rfl (by kernel_rfl)) (lessE_cons (ltd_eq rfl (by kernel_rfl)) lessE_nil)))))) (by kernel_rfl) (by kernel_rfl) (by kernel_rfl) (by kernel_rfl))
  · omega
  have hk1 : ((kidK (l.take i)).map fun n => VN .i64 n).length = i := by simp [kidK]; omega
  have hk3 : (kidK (l.take i)).length = i := by simp [kidK]; omega
  have hk2 : (strsL (kidS all (l.take i))).length = i := by rw [strs_len]; simp [kidS]; omega
  by_cases hil : i < l.length
  · have hci := hc l[i] (by simp)
    have hgs := gkS_size l[i]
    have hgk := getKid_D (I := I) l[i] (by omega)
    have hq := hP.2 i hil hil
    have hq1 := hq.1
    have hs1 := kidK_snoc hil
    have hs2 := kidS_snoc all hil
    cases i with
    | zero =>
      have hq2 := hq.2 rfl
      repeat' (first | refine ⟨_, strs_get hil, ?_⟩ | ((with_reducible apply z_call); (case' hd => apply hgk); (case hw => exact wknL_ok rfl); (try any_goals exact sd)) | with_reducible refine s_sneq_f hq2 ?_ | refine z1 ?_ | refine Br.mk ?_ ?_ | intro _ | refine zf ?_ | fail)
      refine ⟨1, (less_of 0 2 0 rfl rfl (lessE_cons (ltd_eq rfl (by kernel_rfl)) (lessE_cons (ltd_eq rfl ?_) (lessE_cons (ltd_eq rfl ?_) (lessE_cons (ltd_eq rfl (by kernel_rfl)) (lessE_cons (ltd_eq rfl (by kernel_rfl)) (lessE_cons (ltd_eq rfl (by kernel_rfl)) lessE_nil)))))) (by kernel_rfl) (by kernel_rfl) ?_ (by kernel_rfl)), by omega, by omega⟩
      · rw [hs1]; kernel_rfl
      · rw [hs2]; kernel_rfl
      · rw [hs1, hs2, List.length_append, List.length_append]; kernel_rfl
    | succ i =>
      repeat' (first | refine ⟨_, strs_get hil, ?_⟩ | ((with_reducible apply z_call); (case' hd => apply hgk); (case hw => exact wknL_ok rfl); (try any_goals exact sd)) | refine z1 ?_ | refine Br.mk ?_ ?_ | intro _ | refine zf ?_ | fail)
      refine ⟨i + 1 + 1, (less_of 0 2 0 rfl rfl (lessE_cons (ltd_eq rfl (by kernel_rfl)) (lessE_cons (ltd_eq rfl ?_) (lessE_cons (ltd_eq rfl ?_) (lessE_cons (ltd_eq rfl (by kernel_rfl)) (lessE_cons (ltd_eq rfl (by kernel_rfl)) (lessE_cons (ltd_eq rfl (by kernel_rfl)) lessE_nil)))))) (by kernel_rfl) (by kernel_rfl) ?_ (by kernel_rfl)), by omega, by omega⟩
      · rw [hs1]; kernel_rfl
      · rw [hs2]; kernel_rfl
      · rw [hs1, hs2, List.length_append, List.length_append]; kernel_rfl
  · have htk : l.take i = l := List.take_of_length_le (by omega)
    repeat' (first | refine zs ?_ | refine Br.mk ?_ ?_ | intro _ | refine zf ?_ | fail)
    refine tup3w (x1 := .own 0 3 1 ((kidK (l.take i)).map fun n => VN .i64 n)) (x2 := .list 1 (((strsL (kidS all (l.take i))).take (((strsL (kidS all (l.take i))).length : Nat) : Int).toNat).drop 1)) (x3 := BV true) (by kernel_rfl) ?_ ?_ (.v _)
    · rw [htk]; exact .own _ _ _ _
    · rw [Int.toNat_natCast, List.take_length, htk, strsL_drop]; exact .list _ _
theorem kids_no (l : List ByteArray) (all : ByteArray) (hl : l.length ≤ 100000) (hc : ∀ c ∈ l, c.size ≤ 100000) (ha : all.size ≤ 100000) (hP : ¬ kdP l) :
    DPure Tp I 56 [.list 1 (strsL l), SV all] (.tup [.list 1 [], .list 1 [], BV false]) := by
  have hll := strs_len l
  refine z_pure (e0 := ?e0x3) mix e56 rfl ?z03 ?_
  (case z03 => exact rfl)
  dsimp only [c56]
  repeat' (first | refine zs ?_ | refine Br.mk ?_ ?_ | intro _ | refine zf ?_ | fail)
  refine z_loop (fun i : Nat => ⟨[(1, SV all), (7, .own 0 3 1 ((kidK (l.take i)).map fun n => VN .i64 n)), (8, .own 1 9 1 (strsL (kidS all (l.take i)))), (14, .list 1 (strsL l)), (15, VN .i64 (strsL l).length), (16, VN .i64 i)], [], [((kidK (l.take i)).map fun n => VN .i64 n).length * 1, (strsL (kidS all (l.take i))).length * 1]⟩) (fun i : Nat => i ≤ l.length ∧ kdOk l i) (fun i : Nat => l.length - i) (0) ?_ ?_ fun i hi => ?_
  · exact (less_of 0 0 2 rfl rfl (lessE_cons (ltd_eq rfl (by kernel_rfl)) (lessE_cons (ltd_own rfl rfl (by kernel_rfl)) (lessE_cons (ltd_own rfl rfl (by kernel_rfl)) (lessE_cons (ltd_eq rfl (by kernel_rfl)) (lessE_cons (ltd_eq rfl (by kernel_rfl)) (lessE_cons (ltd_eq rfl (by kernel_rfl)) lessE_nil)))))) (by kernel_rfl) (by kernel_rfl) (by kernel_rfl) (by kernel_rfl))
  · exact ⟨Nat.zero_le _, fun j h hj => absurd hj (Nat.not_lt_zero j)⟩
  have hi1 := hi.1
  have hi2 := hi.2
  have hk1 : ((kidK (l.take i)).map fun n => VN .i64 n).length = i := by simp [kidK]; omega
  have hk3 : (kidK (l.take i)).length = i := by simp [kidK]; omega
  have hk2 : (strsL (kidS all (l.take i))).length = i := by rw [strs_len]; simp [kidS]; omega
  by_cases hil : i < l.length
  · have hci := hc l[i] (by simp)
    have hgs := gkS_size l[i]
    have hgk := getKid_D (I := I) l[i] (by omega)
    have hs1 := kidK_snoc hil
    have hs2 := kidS_snoc all hil
    repeat' (first | refine ⟨_, strs_get hil, ?_⟩ | ((with_reducible apply z_call); (case' hd => apply hgk); (case hw => exact wknL_ok rfl); (try any_goals exact sd)) | refine z1 ?_ | refine Br.mk ?_ ?_ | intro _ | refine zf ?_ | fail)
    all_goals first
      | exact vtup3b (by kernel_rfl)
      | (refine ⟨i + 1, (less_of 0 2 0 rfl rfl (lessE_cons (ltd_eq rfl (by kernel_rfl)) (lessE_cons (ltd_eq rfl ?_) (lessE_cons (ltd_eq rfl ?_) (lessE_cons (ltd_eq rfl (by kernel_rfl)) (lessE_cons (ltd_eq rfl (by kernel_rfl)) (lessE_cons (ltd_eq rfl (by kernel_rfl)) lessE_nil)))))) (by kernel_rfl) (by kernel_rfl) ?_ (by kernel_rfl)), ⟨hil, fun j h hj => ?_⟩, by omega⟩
         · rw [hs1]; kernel_rfl
         · rw [hs2]; kernel_rfl
         · rw [hs1, hs2, List.length_append, List.length_append]; kernel_rfl
         · rcases Nat.lt_succ_iff_lt_or_eq.1 hj with h' | h'
           · exact hi2 j h h'
           · subst h'
             exact ⟨‹_›, fun h0 => by first | assumption | (exfalso; omega)⟩)
  · have he : i = l.length := by omega
    have h0 : l.length = 0 := by
      rcases Nat.eq_zero_or_pos l.length with h | h
      · exact h
      · exact absurd ⟨h, by rw [← he]; exact hi2⟩ hP
    repeat' (first | refine zs ?_ | refine Br.mk ?_ ?_ | intro _ | refine zf ?_ | fail)
    exact vtup3b (by kernel_rfl)
end Go.Proofs.YtlbodfkhenkcjaaGreatDoor.X


namespace Go.Proofs.YtlbodfkhenkcjaaGreatDoor.X
open Go Go.Proofs Go.RowKit Go.Proofs.YtlbodfkhenkcjaaGreatDoor.D
set_option maxRecDepth 100000
set_option maxHeartbeats 1000000
set_option linter.unusedVariables false
set_option linter.unusedSimpArgs false
variable {I : D.Inv}
attribute [local irreducible] D.DPure D.DEff D.callable pkS pkE putS mayE mayT sealS mayN packE packS fixedI cellsI

def c35 : DFun := ⟨48, [.t 4, .t 5], .seq (.reg [⟨some 2, .box (.t 0), none⟩, ⟨some 4, .mv (.c (.string ⟨#[]⟩)), none⟩, ⟨some 5, .mv (.c (.int .i64 0)), none⟩]) (.seq (.seq (.reg [⟨some 10, .mv (.t 1), none⟩, ⟨some 11, .call 67 [.t 10], none⟩, ⟨some 12, .un .not (.t 11), none⟩]) (.cond (.t 12) (.seq (.reg [⟨some 4, .mv (.c (.string ⟨#[]⟩)), none⟩, ⟨some 5, .mv (.c (.int .i64 4)), none⟩]) .ret) .skip)) (.seq (.seq (.reg [⟨some 13, .ld 6 true (.t 2), none⟩, ⟨some 14, .mv (.t 1), none⟩, ⟨some 15, .call 72 [.t 13, .t 14], none⟩, ⟨some 16, .un .not (.t 15), none⟩]) (.cond (.t 16) (.seq (.reg [⟨some 4, .mv (.c (.string ⟨#[]⟩)), none⟩, ⟨some 5, .mv (.c (.int .i64 3)), none⟩]) .ret) .skip)) (.seq (.reg [⟨some 18, .ld 6 true (.t 2), none⟩, ⟨some 19, .call 73 [.t 18], none⟩, ⟨some 17, .mv (.t 19), none⟩, ⟨some 20, .ext (.t 17) 0, none⟩, ⟨some 21, .ext (.t 17) 1, none⟩, ⟨some 6, .mv (.t 20), none⟩, ⟨some 7, .mv (.t 21), none⟩]) (.seq (.reg [⟨some 23, .mv (.t 1), none⟩, ⟨some 24, .bin .sub (.t 23) (.c (.int .i64 16)), none⟩, ⟨some 25, .mv (.t 6), none⟩, ⟨some 26, .mv (.t 7), none⟩, ⟨some 27, .call 70 [.t 24, .t 25, .t 26], none⟩, ⟨some 22, .mv (.t 27), none⟩, ⟨some 28, .ext (.t 22) 0, none⟩, ⟨some 29, .ext (.t 22) 1, none⟩, ⟨some 8, .mv (.t 28), none⟩, ⟨some 9, .mv (.t 29), none⟩]) (.seq (.seq (.reg [⟨some 30, .mv (.t 9), none⟩, ⟨some 31, .bin .neq (.t 30) (.c (.int .i64 0)), none⟩]) (.cond (.t 31) (.seq (.reg [⟨some 32, .mv (.t 9), none⟩, ⟨some 4, .mv (.c (.string ⟨#[]⟩)), none⟩, ⟨some 5, .mv (.t 32), none⟩]) .ret) .skip)) (.seq (.reg [⟨some 33, .fa 1 (.t 2), none⟩, ⟨some 34, .ld 1 false (.t 33), none⟩, ⟨some 35, .fa 4 (.t 2), none⟩, ⟨some 36, .ld 1 false (.t 35), none⟩, ⟨some 37, .len false (.t 36), none⟩, ⟨some 38, .fa 2 (.t 2), none⟩, ⟨some 39, .ld 1 false (.t 38), none⟩, ⟨some 40, .fa 0 (.t 2), none⟩, ⟨some 41, .ld 1 false (.t 40), none⟩, ⟨some 42, .bld [.int .i64 0, .int .i64 0, .int .i64 0, .int .i64 0, .int .i64 0] [(0, 1, .c (.int .i64 3)), (1, 1, .t 34), (2, 1, .t 37), (3, 1, .t 39), (4, 1, .t 41)], none⟩, ⟨some 43, .mv (.t 8), none⟩, ⟨some 44, .mv (.t 1), none⟩, ⟨some 45, .call 66 [.t 42, .t 43, .t 44], none⟩, ⟨some 46, .ext (.t 45) 0, none⟩, ⟨some 47, .ext (.t 45) 1, none⟩, ⟨some 4, .mv (.t 46), none⟩, ⟨some 5, .mv (.t 47), none⟩]) .ret))))))⟩
theorem e35 : cfun Tryz.prog 35 = some c35 := by kernel_rfl
theorem pkS_size (k : Int) (t : ByteArray) : (pkS k t).size ≤ 141 := by
  by_cases h : pkP k t
  · have h2 := h.2
    have hT := textS_size t
    unfold pkS
    rw [if_pos h, ByteArray.size_append, fourB_size]
    omega
  · unfold pkS
    rw [if_neg h]
    exact Nat.zero_le _
theorem cellsI_size {kids : List Int} {seps : List ByteArray} (h : kids.length = seps.length + 1) : (catB (cellsI kids seps)).size ≤ kids.length * 141 := by
  have := cat_le 141 (cellsI kids seps) (by
    intro c hc
    unfold cellsI at hc
    obtain ⟨i, hi, rfl⟩ := List.getElem_of_mem hc
    rw [List.getElem_zipWith]
    exact pkS_size _ _)
  rwa [cellsI_len h] at this
def iencB (n : InnerM) (p : Int) : ByteArray := packS (p - 16) (fixedI n.high n.seps) (cellsI n.kids n.seps)
def iencH (n : InnerM) : HeadM := ⟨3, n.level, n.kids.length, n.right, n.self⟩
def iencE (n : InnerM) (p : Int) : Int := if sizeB p = true then (if mayN n p then (if packE (p - 16) (fixedI n.high n.seps) (cellsI n.kids n.seps) = 0 then mayE (iencH n) (iencB n p) p else packE (p - 16) (fixedI n.high n.seps) (cellsI n.kids n.seps)) else 3) else 4
def iencS (n : InnerM) (p : Int) : ByteArray := if iencE n p = 0 then sealS (iencH n) (iencB n p) p else nilS
theorem mayN_len {n : InnerM} {p : Int} (h : mayN n p) : n.kids.length = n.seps.length + 1 := by
  unfold mayN mayI at h
  have := h.1.2.2.2.2.2.2.1
  omega
theorem fixedI_size (high : ByteArray) (l : List ByteArray) (hk : ∀ s ∈ l, s.size ≤ 3000) (hh : high.size ≤ 3000) : (fixedI high l).size ≤ 6018 := by
  have hA := stripA_size hk
  have p1 := putS_size (n := ((stripA l).size : Int)) (by omega)
  have p2 := putS_size (n := (high.size : Int)) (by omega)
  unfold fixedI
  simp only [ByteArray.size_append]
  omega
theorem iencode_D0 (self level right : Int) (high : ByteArray) (kids : List Int) (l : List ByteArray) (p : Int) (hk : kids.length ≤ 1000) (hl : l.length ≤ 1000) (hs0 : ∀ s ∈ l, s.size ≤ 3000) (hh : high.size ≤ 3000) :
    DPure Tp I 35 [.agg [VN .i64 self, VN .i64 level, VN .i64 right, SV high, ints kids, .list 1 (strsL l)], VN .i64 p] (.v (.tuple #[.string (iencS ⟨self, level, right, high, kids, l⟩ p), .int .i64 (iencE ⟨self, level, right, high, kids, l⟩ p)])) := by
  have hkl := ints_len kids
  by_cases hs : sizeB p = true
  · have hp := sizeB_in hs
    have d1 : DPure Tp I 67 [VN .i64 p] (BV true) := by have := size_D (I := I) p; rwa [hs] at this
    have d2 := imay_D0 (I := I) self level right high kids l p (by omega) (by omega)
    by_cases hm : mayN ⟨self, level, right, high, kids, l⟩ p
    · have d2 := dp_t d2 hm
      have hn : kids.length = l.length + 1 := mayN_len hm
      have d3 := iparts_D0 (I := I) self level right high kids l hn (by omega) (fun s hx => by have := hs0 s hx; omega) (by omega)
      have hf := fixedI_size high l hs0 hh
      have hc := cellsI_size hn
      have hcl := cellsI_len hn
      have d4 := pack_D (I := I) (p - 16) (fixedI high l) (cellsI kids l) (by omega) (by omega) (by omega) (by omega)
      have hb := packS_size (p - 16) (fixedI high l) (cellsI kids l)
      have d5 := seal_D0 (I := I) 3 level kids.length right self (iencH ⟨self, level, right, high, kids, l⟩) rfl (iencB ⟨self, level, right, high, kids, l⟩ p) p (Nat.le_trans hb (by omega))
      have hE : iencE ⟨self, level, right, high, kids, l⟩ p = if packE (p - 16) (fixedI high l) (cellsI kids l) = 0 then mayE (iencH ⟨self, level, right, high, kids, l⟩) (iencB ⟨self, level, right, high, kids, l⟩ p) p else packE (p - 16) (fixedI high l) (cellsI kids l) := by unfold iencE; rw [if_pos hs, if_pos hm]
      rw [← hkl] at d5
      by_cases hk0 : packE (p - 16) (fixedI high l) (cellsI kids l) = 0
      · rw [if_pos hk0] at hE
        have hS : iencS ⟨self, level, right, high, kids, l⟩ p = sealS (iencH ⟨self, level, right, high, kids, l⟩) (iencB ⟨self, level, right, high, kids, l⟩ p) p := by
          unfold iencS
          rw [hE]
          split
          · rfl
          · unfold sealS; rw [if_neg ‹_›]
        refine z_pure (e0 := ?e0x1) mix e35 rfl ?z01 ?_
        (case z01 => exact rfl)
        dsimp only [c35]
        repeat' (first | ((with_reducible apply z_call); (case' hd => apply d1); (case hw => exact wknL_ok rfl); (try any_goals exact sd)) | ((with_reducible apply z_call); (case' hd => apply d2); (case hw => exact wknL_ok rfl); (try any_goals exact sd)) | ((with_reducible apply z_call); (case' hd => apply d3); (case hw => exact wknL_ok rfl); (try any_goals exact sd)) | ((with_reducible apply z_call); (case' hd => apply d4); (case hw => exact wknL_ok rfl); (try any_goals exact sd)) | ((with_reducible apply z_call); (case' hd => apply d5); (case hw => exact wknL_ok rfl); (try any_goals exact sd)) | refine zs ?_ | refine Br.mk ?_ ?_ | intro _ | refine zf ?_ | fail)
        refine tup2_of (a := .string (sealS (iencH ⟨self, level, right, high, kids, l⟩) (iencB ⟨self, level, right, high, kids, l⟩ p) p)) (b := .int .i64 (mayE (iencH ⟨self, level, right, high, kids, l⟩) (iencB ⟨self, level, right, high, kids, l⟩ p) p)) (by kernel_rfl) ?_ ?_
        · exact congrArg Value.string hS
        · exact congrArg (Value.int .i64) hE
      · rw [if_neg hk0] at hE
        refine z_pure (e0 := ?e0x2) mix e35 rfl ?z02 ?_
        (case z02 => exact rfl)
        dsimp only [c35]
        repeat' (first | ((with_reducible apply z_call); (case' hd => apply d1); (case hw => exact wknL_ok rfl); (try any_goals exact sd)) | ((with_reducible apply z_call); (case' hd => apply d2); (case hw => exact wknL_ok rfl); (try any_goals exact sd)) | ((with_reducible apply z_call); (case' hd => apply d3); (case hw => exact wknL_ok rfl); (try any_goals exact sd)) | ((with_reducible apply z_call); (case' hd => apply d4); (case hw => exact wknL_ok rfl); (try any_goals exact sd)) | refine zs ?_ | refine Br.mk ?_ ?_ | intro _ | refine zf ?_ | fail)
        refine tup2_of (a := .string nilS) (b := .int .i64 (packE (p - 16) (fixedI high l) (cellsI kids l))) (by kernel_rfl) ?_ ?_
        · exact congrArg Value.string (if_neg (by rw [hE]; exact hk0))
        · exact congrArg (Value.int .i64) hE
    · have d2 := dp_f d2 hm
      have hE : iencE ⟨self, level, right, high, kids, l⟩ p = 3 := by unfold iencE; rw [if_pos hs, if_neg hm]
      refine z_pure (e0 := ?e0x3) mix e35 rfl ?z03 ?_
      (case z03 => exact rfl)
      dsimp only [c35]
      repeat' (first | ((with_reducible apply z_call); (case' hd => apply d1); (case hw => exact wknL_ok rfl); (try any_goals exact sd)) | ((with_reducible apply z_call); (case' hd => apply d2); (case hw => exact wknL_ok rfl); (try any_goals exact sd)) | refine zs ?_ | refine Br.mk ?_ ?_ | intro _ | refine zf ?_ | fail)
      refine tup2_of (a := .string nilS) (b := .int .i64 3) (by kernel_rfl) ?_ ?_
      · exact congrArg Value.string (if_neg (by rw [hE]; decide))
      · exact congrArg (Value.int .i64) hE
  · have d1 : DPure Tp I 67 [VN .i64 p] (BV false) := by have := size_D (I := I) p; rwa [show sizeB p = false by simpa using hs] at this
    have hE : iencE ⟨self, level, right, high, kids, l⟩ p = 4 := by unfold iencE; rw [if_neg hs]
    refine z_pure (e0 := ?e0x4) mix e35 rfl ?z04 ?_
    (case z04 => exact rfl)
    dsimp only [c35]
    repeat' (first | ((with_reducible apply z_call); (case' hd => apply d1); (case hw => exact wknL_ok rfl); (try any_goals exact sd)) | refine zs ?_ | refine Br.mk ?_ ?_ | intro _ | refine zf ?_ | fail)
    refine tup2_of (a := .string nilS) (b := .int .i64 4) (by kernel_rfl) ?_ ?_
    · exact congrArg Value.string (if_neg (by rw [hE]; decide))
    · exact congrArg (Value.int .i64) hE
end Go.Proofs.YtlbodfkhenkcjaaGreatDoor.X


namespace Go.Proofs.YtlbodfkhenkcjaaGreatDoor.X
open Go Go.Proofs Go.RowKit Go.Proofs.YtlbodfkhenkcjaaGreatDoor.D
set_option maxRecDepth 100000
set_option maxHeartbeats 6000000
set_option linter.unusedVariables false
set_option linter.unusedSimpArgs false
variable {I : D.Inv}
attribute [local irreducible] D.DPure D.DEff D.callable opH opB opE mayN iencE iencS txP txS txT upL upE kidK kidS gkK gkS kdP

def c26 : DFun := ⟨93, [.c 2 6 true, .t 3], .seq (.reg [⟨some 2, .zero (.agg #[.int .i64 0, .int .i64 0, .int .i64 0, .string ⟨#[]⟩, .slice none 0 0, .slice none 0 0]), none⟩, ⟨some 3, .mv (.c (.int .i64 0)), none⟩]) (.seq (.reg [⟨some 18, .mv (.t 0), none⟩, ⟨some 19, .call 51 [.t 18], none⟩, ⟨some 17, .mv (.t 19), none⟩, ⟨some 20, .ext (.t 17) 0, none⟩, ⟨some 21, .ext (.t 17) 1, none⟩, ⟨some 22, .ext (.t 17) 2, none⟩, ⟨some 4, .zero (.agg #[.int .i64 0, .int .i64 0, .int .i64 0, .int .i64 0, .int .i64 0]), none⟩, ⟨none, .st 5 (.t 4) (.t 20), none⟩, ⟨some 5, .mv (.t 21), none⟩, ⟨some 6, .mv (.t 22), none⟩]) (.seq (.seq (.reg [⟨some 23, .mv (.t 6), none⟩, ⟨some 24, .bin .neq (.t 23) (.c (.int .i64 0)), none⟩, ⟨some 25, .mv (.t 24), none⟩, ⟨some 26, .fa 0 (.t 4), some (25, false)⟩, ⟨some 27, .ld 1 false (.t 26), some (25, false)⟩, ⟨some 28, .bin .neq (.t 27) (.c (.int .i64 3)), some (25, false)⟩, ⟨some 29, .pick (.t 25) (.c (.bool true)) (.t 28), none⟩]) (.cond (.t 29) (.seq (.reg [⟨some 30, .bld [.int .i64 0, .int .i64 0, .int .i64 0, .string ⟨#[]⟩, .slice none 0 0, .slice none 0 0] [], none⟩, ⟨none, .st 6 (.t 2) (.t 30), none⟩, ⟨some 3, .mv (.c (.int .i64 3)), none⟩]) .ret) .skip)) (.seq (.reg [⟨some 32, .mv (.t 5), none⟩, ⟨some 33, .call 54 [.t 32, .c (.int .i64 0)], none⟩, ⟨some 31, .mv (.t 33), none⟩, ⟨some 34, .ext (.t 31) 0, none⟩, ⟨some 35, .ext (.t 31) 1, none⟩, ⟨some 7, .mv (.t 34), none⟩, ⟨some 8, .mv (.t 35), none⟩]) (.seq (.reg [⟨some 37, .mv (.t 5), none⟩, ⟨some 38, .mv (.t 8), none⟩, ⟨some 39, .call 54 [.t 37, .t 38], none⟩, ⟨some 36, .mv (.t 39), none⟩, ⟨some 40, .ext (.t 36) 0, none⟩, ⟨some 41, .ext (.t 36) 1, none⟩, ⟨some 9, .mv (.t 40), none⟩, ⟨some 8, .mv (.t 41), none⟩]) (.seq (.seq (.reg [⟨some 42, .mv (.t 8), none⟩, ⟨some 43, .bin .lss (.t 42) (.c (.int .i64 0)), none⟩]) (.cond (.t 43) (.seq (.reg [⟨some 44, .bld [.int .i64 0, .int .i64 0, .int .i64 0, .string ⟨#[]⟩, .slice none 0 0, .slice none 0 0] [], none⟩, ⟨none, .st 6 (.t 2) (.t 44), none⟩, ⟨some 3, .mv (.c (.int .i64 3)), none⟩]) .ret) .skip)) (.seq (.reg [⟨some 46, .mv (.t 5), none⟩, ⟨some 47, .mv (.t 8), none⟩, ⟨some 48, .fa 2 (.t 4), none⟩, ⟨some 49, .ld 1 false (.t 48), none⟩, ⟨some 50, .call 55 [.t 46, .t 47, .t 49], none⟩, ⟨some 45, .mv (.t 50), none⟩, ⟨some 51, .ext (.t 45) 0, none⟩, ⟨some 52, .ext (.t 45) 1, none⟩, ⟨some 10, .mv (.t 51), none⟩, ⟨some 6, .mv (.t 52), none⟩]) (.seq (.reg [⟨some 54, .mv (.t 10), none⟩, ⟨some 55, .mv (.t 7), none⟩, ⟨some 56, .call 56 [.t 54, .t 55], none⟩, ⟨some 53, .mv (.t 56), none⟩, ⟨some 57, .ext (.t 53) 0, none⟩, ⟨some 58, .ext (.t 53) 1, none⟩, ⟨some 59, .ext (.t 53) 2, none⟩, ⟨some 11, .mv (.t 57), none⟩, ⟨some 12, .mv (.t 58), none⟩, ⟨some 13, .mv (.t 59), none⟩]) (.seq (.seq (.reg [⟨some 60, .mv (.t 6), none⟩, ⟨some 61, .bin .neq (.t 60) (.c (.int .i64 0)), none⟩, ⟨some 62, .mv (.t 61), none⟩, ⟨some 63, .mv (.t 13), some (62, false)⟩, ⟨some 64, .un .not (.t 63), some (62, false)⟩, ⟨some 65, .pick (.t 62) (.c (.bool true)) (.t 64), none⟩]) (.cond (.t 65) (.seq (.reg [⟨some 66, .bld [.int .i64 0, .int .i64 0, .int .i64 0, .string ⟨#[]⟩, .slice none 0 0, .slice none 0 0] [], none⟩, ⟨none, .st 6 (.t 2) (.t 66), none⟩, ⟨some 3, .mv (.c (.int .i64 3)), none⟩]) .ret) .skip)) (.seq (.reg [⟨some 67, .fa 4 (.t 4), none⟩, ⟨some 68, .ld 1 false (.t 67), none⟩, ⟨some 69, .fa 1 (.t 4), none⟩, ⟨some 70, .ld 1 false (.t 69), none⟩, ⟨some 71, .fa 3 (.t 4), none⟩, ⟨some 72, .ld 1 false (.t 71), none⟩, ⟨some 73, .mv (.t 9), none⟩, ⟨some 74, .mv (.t 11), none⟩, ⟨some 75, .mv (.t 12), none⟩, ⟨some 76, .bld [.int .i64 0, .int .i64 0, .int .i64 0, .string ⟨#[]⟩, .slice none 0 0, .slice none 0 0] [(0, 1, .t 68), (1, 1, .t 70), (2, 1, .t 72), (3, 1, .t 73), (4, 1, .t 74), (5, 1, .t 75)], none⟩, ⟨some 14, .zero (.agg #[.int .i64 0, .int .i64 0, .int .i64 0, .string ⟨#[]⟩, .slice none 0 0, .slice none 0 0]), none⟩, ⟨none, .st 6 (.t 14) (.t 76), none⟩]) (.seq (.seq (.reg [⟨some 78, .ld 6 true (.t 14), none⟩, ⟨some 79, .mv (.t 0), none⟩, ⟨some 80, .len true (.t 79), none⟩, ⟨some 81, .call 35 [.t 78, .t 80], none⟩, ⟨some 77, .mv (.t 81), none⟩, ⟨some 82, .ext (.t 77) 0, none⟩, ⟨some 83, .ext (.t 77) 1, none⟩, ⟨some 15, .mv (.t 82), none⟩, ⟨some 16, .mv (.t 83), none⟩]) (.seq (.reg [⟨some 84, .mv (.t 16), none⟩, ⟨some 85, .bin .neq (.t 84) (.c (.int .i64 0)), none⟩, ⟨some 86, .mv (.t 85), none⟩, ⟨some 87, .mv (.t 15), some (86, false)⟩, ⟨some 88, .mv (.t 0), some (86, false)⟩, ⟨some 89, .bin .neq (.t 87) (.t 88), some (86, false)⟩, ⟨some 90, .pick (.t 86) (.c (.bool true)) (.t 89), none⟩]) (.cond (.t 90) (.seq (.reg [⟨some 91, .bld [.int .i64 0, .int .i64 0, .int .i64 0, .string ⟨#[]⟩, .slice none 0 0, .slice none 0 0] [], none⟩, ⟨none, .st 6 (.t 2) (.t 91), none⟩, ⟨some 3, .mv (.c (.int .i64 3)), none⟩]) .ret) .skip))) (.seq (.reg [⟨some 92, .ld 6 true (.t 14), none⟩, ⟨none, .st 6 (.t 2) (.t 92), none⟩, ⟨some 3, .mv (.c (.int .i64 0)), none⟩]) .ret)))))))))))⟩
theorem e26 : cfun Tryz.prog 26 = some c26 := by kernel_rfl
def ndA (b : ByteArray) : ByteArray := txS b 0
def ndH (b : ByteArray) : ByteArray := txS b (txT b 0)
def ndF (b : ByteArray) : Int := txT b (txT b 0)
def ndC (b : ByteArray) (n : Int) : List ByteArray := upL b (ndF b) n
def ndP (b : ByteArray) (n : Int) : Prop := txP b 0 ∧ txP b (txT b 0) ∧ kdP (ndC b n)
def inRaw (s : ByteArray) : InnerM := ⟨(opH s).self, (opH s).level, (opH s).right, ndH (opB s), kidK (ndC (opB s) (opH s).count), (kidS (ndA (opB s)) (ndC (opB s) (opH s).count)).drop 1⟩
def inP (s : ByteArray) : Prop := opE s = 0 ∧ (opH s).kind = 3 ∧ ndP (opB s) (opH s).count ∧ iencE (inRaw s) s.size = 0 ∧ iencS (inRaw s) s.size = s
noncomputable instance (s : ByteArray) : Decidable (inP s) := Classical.propDecidable _
def inner0 : InnerM := ⟨0, 0, 0, nilS, [], []⟩
noncomputable def inM (s : ByteArray) : InnerM := if inP s then inRaw s else inner0
noncomputable def inE (s : ByteArray) : Int := if inP s then 0 else 3
theorem in_yes {s : ByteArray} (h : inP s) : inM s = inRaw s ∧ inE s = 0 := ⟨if_pos h, if_pos h⟩
theorem in_no {s : ByteArray} (h : ¬ inP s) : inM s = inner0 ∧ inE s = 3 := ⟨if_neg h, if_neg h⟩
theorem inner_zero {d : DV} {s : ByteArray} (h : ¬ inP s) (hd : d = .v (.tuple #[.agg #[.int .i64 0, .int .i64 0, .int .i64 0, .string nilS, .slice none 0 0, .slice none 0 0], .int .i64 3])) : Wk d (.tup [innerD (inM s), VN .i64 (inE s)]) := by
  rw [(in_no h).1, (in_no h).2, hd]
  exact Wk.vtupL (xs := [.agg #[.int .i64 0, .int .i64 0, .int .i64 0, .string nilS, .slice none 0 0, .slice none 0 0], .int .i64 3]) (.cons (Wk.vaggL (xs := [.int .i64 0, .int .i64 0, .int .i64 0, .string nilS, .slice none 0 0, .slice none 0 0]) (.cons (.v _) (.cons (.v _) (.cons (.v _) (.cons (.v _) (.cons (.nil _ _ _) (.cons (.nil _ _ _) .nil))))))) (.cons (.v _) .nil))
section
attribute [local semireducible] upL upE
theorem nd_up {s : ByteArray} {fx n : Int} (h : 0 < (upL s fx n).length) : upE s fx n = 0 ∧ 0 ≤ n ∧ n ≤ (s.size : Int) / 2 := by
  unfold upL at h
  split at h
  · rename_i h0
    refine ⟨h0, ?_⟩
    unfold upE at h0
    split at h0
    · omega
    · split at h0 <;> omega
  · simp at h
end
section
attribute [local semireducible] kidK kidS kdP
theorem kidK_len (l : List ByteArray) : (kidK l).length = l.length := List.length_map ..
theorem kidS_len (a : ByteArray) (l : List ByteArray) : (kidS a l).length = l.length := List.length_map ..
theorem kidS_in {a x : ByteArray} {l : List ByteArray} {m : Nat} (h : x ∈ kidS a l) (hl : ∀ c ∈ l, c.size ≤ m) : x.size ≤ a.size + m := by
  obtain ⟨y, hy, rfl⟩ := List.mem_map.1 h
  have h1 := hl y hy
  have h2 := gkS_size y
  simp only [ByteArray.size_append]
  omega
theorem kdP_pos {l : List ByteArray} (h : kdP l) : 0 < l.length := h.1
end
theorem inner_D (s : ByteArray) (hs : s.size ≤ 1200) : DPure Tp GI 26 [SV s] (.tup [innerD (inM s), VN .i64 (inE s)]) := by
  have hin := opH_in s
  have hbs := opB_size s
  have hlf : inP s ↔ (opE s = 0 ∧ (opH s).kind = 3 ∧ ndP (opB s) (opH s).count ∧ iencE ⟨(opH s).self, (opH s).level, (opH s).right, ndH (opB s), kidK (ndC (opB s) (opH s).count), (kidS (ndA (opB s)) (ndC (opB s) (opH s).count)).drop 1⟩ s.size = 0 ∧ iencS ⟨(opH s).self, (opH s).level, (opH s).right, ndH (opB s), kidK (ndC (opB s) (opH s).count), (kidS (ndA (opB s)) (ndC (opB s) (opH s).count)).drop 1⟩ s.size = s) := Iff.rfl
  have hraw : inP s → inM s = ⟨(opH s).self, (opH s).level, (opH s).right, ndH (opB s), kidK (ndC (opB s) (opH s).count), (kidS (ndA (opB s)) (ndC (opB s) (opH s).count)).drop 1⟩ := fun h => (in_yes h).1
  obtain ⟨⟨k, l, c, r, m⟩, hh⟩ : ∃ h, opH s = h := ⟨_, rfl⟩
  obtain ⟨b, hb⟩ : ∃ b, opB s = b := ⟨_, rfl⟩
  obtain ⟨e, he⟩ : ∃ e, opE s = e := ⟨_, rfl⟩
  have d0 := openE_D (I := GI) s k l c r m b e (by omega) hh hb he
  rw [hh, hb] at hlf hraw
  rw [he] at hlf
  rw [hh] at hin
  rw [hb] at hbs
  dsimp only at hin hlf hraw
  by_cases h1 : txP b 0
  · have g1 := tx_in h1
    have d1 := itext_yes (I := GI) b 0 (by omega) (by omega) h1
    by_cases h2 : txP b (txT b 0)
    · have g2 := tx_in h2
      have g3 := upL_size (s := b) (fx := ndF b) (n := c)
      have d2 := itext_yes (I := GI) b (txT b 0) (by omega) (by omega) h2
      have d3 := unpack_D (I := GI) b (ndF b) c (by omega) (by unfold ndF; omega) (by omega)
      have hlen : (upL b (ndF b) c).length ≤ 600 := by
        rcases Nat.eq_zero_or_pos (upL b (ndF b) c).length with h | h
        · omega
        · have := nd_up h; omega
      have hcs : ∀ x ∈ upL b (ndF b) c, x.size ≤ 1200 := fun x hx => by have := g3.2 x hx; omega
      have hA : (ndA b).size ≤ 1200 := by unfold ndA; omega
      by_cases hk : kdP (upL b (ndF b) c)
      · have h0 := (nd_up (kdP_pos hk)).1
        have d4 := kids_yes (I := GI) (upL b (ndF b) c) (ndA b) (by omega) (fun x hx => by have := hcs x hx; omega) (by omega) hk
        have d5 := iencode_D0 (I := GI) m l r (ndH b) (kidK (ndC b c)) ((kidS (ndA b) (ndC b c)).drop 1) s.size (by rw [kidK_len]; exact Nat.le_trans hlen (by decide)) (by rw [List.length_drop, kidS_len]; exact Nat.le_trans (Nat.sub_le _ _) (Nat.le_trans hlen (by decide)))
          (fun x hx => by have := kidS_in (List.mem_of_mem_drop hx) hcs; omega) (by unfold ndH; omega)
        rw [h0] at d3
        refine z_pure (e0 := ?e0x1) mix e26 rfl ?z01 ?_
        (case z01 => exact rfl)
        dsimp only [c26]
        repeat' (first | ((with_reducible apply z_call); (case' hd => apply d0); (case hw => exact wknL_ok rfl); (try any_goals exact sd)) | ((with_reducible apply z_call); (case' hd => apply d1); (case hw => exact wknL_ok rfl); (try any_goals exact sd)) | ((with_reducible apply z_call); (case' hd => apply d2); (case hw => exact wknL_ok rfl); (try any_goals exact sd)) | ((with_reducible apply z_call); (case' hd => apply d3); (case hw => exact wknL_ok rfl); (try any_goals exact sd)) | ((with_reducible apply z_call); (case' hd => apply d4); (case hw => exact wknL_ok rfl); (try any_goals exact sd)) | ((with_reducible apply z_call); (case' hd => apply d5); (case hw => exact wknL_ok rfl); (try any_goals exact sd)) | refine zs ?_ | refine Br.mk ?_ ?_ | intro _ | refine zf ?_ | fail)
        all_goals first
          | exact inner_zero (fun h => by have h2 := hlf.1 h; omega) (by kernel_rfl)
          | exact inner_zero (fun h => ‹¬ iencS _ _ = s› (hlf.1 h).2.2.2.2) (by kernel_rfl)
          | (have hy : inP s := hlf.2 ⟨by omega, by omega, ⟨h1, h2, hk⟩, ‹_›, ‹_›⟩
             rw [hraw hy, (in_yes hy).2]
             exact tup2w (x1 := innerD ⟨m, l, r, ndH b, kidK (ndC b c), (kidS (ndA b) (ndC b c)).drop 1⟩) (x2 := VN .i64 0) (by kernel_rfl) (wkn_ok rfl) (.v _))
      · have hn : ¬ inP s := fun h => hk (hlf.1 h).2.2.1.2.2
        have d4 := kids_no (I := GI) (upL b (ndF b) c) (ndA b) (by omega) (fun x hx => by have := hcs x hx; omega) (by omega) hk
        refine z_pure (e0 := ?e0x2) mix e26 rfl ?z02 ?_
        (case z02 => exact rfl)
        dsimp only [c26]
        repeat' (first | ((with_reducible apply z_call); (case' hd => apply d0); (case hw => exact wknL_ok rfl); (try any_goals exact sd)) | ((with_reducible apply z_call); (case' hd => apply d1); (case hw => exact wknL_ok rfl); (try any_goals exact sd)) | ((with_reducible apply z_call); (case' hd => apply d2); (case hw => exact wknL_ok rfl); (try any_goals exact sd)) | ((with_reducible apply z_call); (case' hd => apply d3); (case hw => exact wknL_ok rfl); (try any_goals exact sd)) | ((with_reducible apply z_call); (case' hd => apply d4); (case hw => exact wknL_ok rfl); (try any_goals exact sd)) | refine zs ?_ | refine Br.mk ?_ ?_ | intro _ | refine zf ?_ | fail)
        all_goals exact inner_zero hn (by kernel_rfl)
    · have hn : ¬ inP s := fun h => h2 (hlf.1 h).2.2.1.2.1
      have d2 := itext_no (I := GI) b (txT b 0) (by omega) (by omega) h2
      refine z_pure (e0 := ?e0x3) mix e26 rfl ?z03 ?_
      (case z03 => exact rfl)
      dsimp only [c26]
      repeat' (first | ((with_reducible apply z_call); (case' hd => apply d0); (case hw => exact wknL_ok rfl); (try any_goals exact sd)) | ((with_reducible apply z_call); (case' hd => apply d1); (case hw => exact wknL_ok rfl); (try any_goals exact sd)) | ((with_reducible apply z_call); (case' hd => apply d2); (case hw => exact wknL_ok rfl); (try any_goals exact sd)) | refine zs ?_ | refine Br.mk ?_ ?_ | intro _ | refine zf ?_ | fail)
      all_goals exact inner_zero hn (by kernel_rfl)
  · have hn : ¬ inP s := fun h => h1 (hlf.1 h).2.2.1.1
    have d1 := itext_no (I := GI) b 0 (by omega) (by omega) h1
    have d2 := itext_no (I := GI) b (-1) (by omega) (by omega) (fun h => by have := (tx_in h).1; omega)
    refine z_pure (e0 := ?e0x4) mix e26 rfl ?z04 ?_
    (case z04 => exact rfl)
    dsimp only [c26]
    repeat' (first | ((with_reducible apply z_call); (case' hd => apply d0); (case hw => exact wknL_ok rfl); (try any_goals exact sd)) | ((with_reducible apply z_call); (case' hd => apply d1); (case hw => exact wknL_ok rfl); (try any_goals exact sd)) | ((with_reducible apply z_call); (case' hd => apply d2); (case hw => exact wknL_ok rfl); (try any_goals exact sd)) | refine zs ?_ | refine Br.mk ?_ ?_ | intro _ | refine zf ?_ | fail)
    all_goals exact inner_zero hn (by kernel_rfl)
end Go.Proofs.YtlbodfkhenkcjaaGreatDoor.X

