/- What functions of the given program compute, step by step: the walks that the law PageMoves leans on, part 4. No conditions. -/
import Derived.Test.YtlbodfkhenkcjaaGreatDoorUPageMoves03
import Derived.Outline
import Derived.LaidEql
import Derived.Stop.Asserts
import Derived.RowKitTokens
import Derived.Lib.IfaceEq
import Derived.ArgAppend
import Derived.Laws.MakeOwn
import Derived.RangeFuncRecord
namespace Go.Proofs.YtlbodfkhenkcjaaGreatDoor.X
open Go Go.Proofs Go.RowKit Go.Proofs.YtlbodfkhenkcjaaGreatDoor.D
set_option maxRecDepth 100000
set_option maxHeartbeats 1000000
set_option linter.unusedVariables false
set_option linter.unusedSimpArgs false
variable {I : D.Inv}

def c148 : DFun := ⟨49, [.t 4], .seq (.reg [⟨some 4, .mv (.c (.string ⟨#[]⟩)), none⟩]) (.seq (.seq (.reg [⟨some 5, .mv (.t 0), none⟩, ⟨some 6, .nilc (.t 5), none⟩, ⟨some 7, .fa 2 (.t 6), none⟩, ⟨some 8, .ld 1 false (.t 7), none⟩, ⟨some 9, .mv (.t 8), none⟩, ⟨some 10, .mv (.t 1), some (9, false)⟩, ⟨some 11, .mv (.t 0), some (9, false)⟩, ⟨some 12, .nilc (.t 11), some (9, false)⟩, ⟨some 13, .fa 0 (.t 12), some (9, false)⟩, ⟨some 14, .ld 1 false (.t 13), some (9, false)⟩, ⟨some 15, .len true (.t 14), some (9, false)⟩, ⟨some 16, .mv (.t 0), some (9, false)⟩, ⟨some 17, .nilc (.t 16), some (9, false)⟩, ⟨some 18, .fa 1 (.t 17), some (9, false)⟩, ⟨some 19, .ld 1 false (.t 18), some (9, false)⟩, ⟨some 20, .bin .sub (.t 15) (.t 19), some (9, false)⟩, ⟨some 21, .bin .gtr (.t 10) (.t 20), some (9, false)⟩, ⟨some 22, .pick (.t 9) (.c (.bool true)) (.t 21), none⟩]) (.cond (.t 22) (.seq (.reg [⟨some 23, .mv (.t 0), none⟩, ⟨some 24, .nilc (.t 23), none⟩, ⟨some 25, .fa 2 (.t 24), none⟩, ⟨none, .st 1 (.t 25) (.c (.bool true)), none⟩]) (.seq (.reg [⟨some 4, .mv (.c (.string ⟨#[]⟩)), none⟩]) .ret)) .skip)) (.seq (.reg [⟨some 26, .mv (.t 0), none⟩, ⟨some 27, .nilc (.t 26), none⟩, ⟨some 28, .fa 1 (.t 27), none⟩, ⟨some 29, .ld 1 false (.t 28), none⟩, ⟨some 30, .mv (.t 1), none⟩, ⟨some 31, .bin .add (.t 29) (.t 30), none⟩, ⟨some 32, .nilc (.t 26), none⟩, ⟨some 33, .fa 1 (.t 32), none⟩, ⟨none, .st 1 (.t 33) (.t 31), none⟩]) (.seq (.reg [⟨some 34, .mv (.t 0), none⟩, ⟨some 35, .nilc (.t 34), none⟩, ⟨some 36, .fa 0 (.t 35), none⟩, ⟨some 37, .ld 1 false (.t 36), none⟩, ⟨some 38, .mv (.t 0), none⟩, ⟨some 39, .nilc (.t 38), none⟩, ⟨some 40, .fa 1 (.t 39), none⟩, ⟨some 41, .ld 1 false (.t 40), none⟩, ⟨some 42, .mv (.t 1), none⟩, ⟨some 43, .bin .sub (.t 41) (.t 42), none⟩, ⟨some 44, .mv (.t 0), none⟩, ⟨some 45, .nilc (.t 44), none⟩, ⟨some 46, .fa 1 (.t 45), none⟩, ⟨some 47, .ld 1 false (.t 46), none⟩, ⟨some 48, .slS (.t 37) (some (.t 43)) (some (.t 47)), none⟩, ⟨some 4, .mv (.t 48), none⟩]) .ret)))⟩
theorem e148 : cfun Tryz.prog 148 = some c148 := by kernel_rfl
def c149 : DFun := ⟨34, [.t 2], .seq (.reg [⟨some 2, .mv (.c (.int .i64 0)), none⟩]) (.seq (.reg [⟨some 7, .mv (.t 0), none⟩, ⟨some 8, .nilc (.t 7), none⟩, ⟨some 9, .fa 0 (.t 8), none⟩, ⟨some 10, .ld 1 false (.t 9), none⟩, ⟨some 11, .mv (.t 0), none⟩, ⟨some 12, .nilc (.t 11), none⟩, ⟨some 13, .fa 1 (.t 12), none⟩, ⟨some 14, .ld 1 false (.t 13), none⟩, ⟨some 15, .call 96 [.t 10, .t 14], none⟩, ⟨some 6, .mv (.t 15), none⟩, ⟨some 16, .ext (.t 6) 0, none⟩, ⟨some 17, .ext (.t 6) 1, none⟩, ⟨some 18, .ext (.t 6) 2, none⟩, ⟨some 3, .mv (.t 16), none⟩, ⟨some 4, .mv (.t 17), none⟩, ⟨some 5, .mv (.t 18), none⟩]) (.seq (.seq (.reg [⟨some 19, .mv (.t 5), none⟩, ⟨some 20, .bin .neq (.t 19) (.c (.int .i64 0)), none⟩, ⟨some 21, .mv (.t 20), none⟩, ⟨some 22, .mv (.t 3), some (21, false)⟩, ⟨some 23, .bin .gtr (.t 22) (.c (.int .u64 4096)), some (21, false)⟩, ⟨some 24, .pick (.t 21) (.c (.bool true)) (.t 23), none⟩]) (.cond (.t 24) (.seq (.reg [⟨some 25, .mv (.t 0), none⟩, ⟨some 26, .nilc (.t 25), none⟩, ⟨some 27, .fa 2 (.t 26), none⟩, ⟨none, .st 1 (.t 27) (.c (.bool true)), none⟩]) (.seq (.reg [⟨some 2, .mv (.c (.int .i64 0)), none⟩]) .ret)) .skip)) (.seq (.reg [⟨some 28, .mv (.t 0), none⟩, ⟨some 29, .mv (.t 4), none⟩, ⟨some 30, .nilc (.t 28), none⟩, ⟨some 31, .fa 1 (.t 30), none⟩, ⟨none, .st 1 (.t 31) (.t 29), none⟩]) (.seq (.reg [⟨some 32, .mv (.t 3), none⟩, ⟨some 33, .cvt .i64 (.t 32), none⟩, ⟨some 2, .mv (.t 33), none⟩]) .ret))))⟩
theorem e149 : cfun Tryz.prog 149 = some c149 := by kernel_rfl
def c155 : DFun := ⟨35, [.t 2], .seq (.reg [⟨some 2, .mv (.c (.int .i64 0)), none⟩]) (.seq (.reg [⟨some 6, .mv (.t 0), none⟩, ⟨some 7, .nilc (.t 6), none⟩, ⟨some 8, .fa 0 (.t 7), none⟩, ⟨some 9, .ld 1 false (.t 8), none⟩, ⟨some 10, .mv (.t 0), none⟩, ⟨some 11, .nilc (.t 10), none⟩, ⟨some 12, .fa 1 (.t 11), none⟩, ⟨some 13, .ld 1 false (.t 12), none⟩, ⟨some 14, .call 59 [.t 9, .t 13], none⟩, ⟨some 5, .mv (.t 14), none⟩, ⟨some 15, .ext (.t 5) 0, none⟩, ⟨some 16, .ext (.t 5) 1, none⟩, ⟨some 3, .mv (.t 15), none⟩, ⟨some 4, .mv (.t 16), none⟩]) (.seq (.seq (.reg [⟨some 17, .mv (.t 4), none⟩, ⟨some 18, .bin .neq (.t 17) (.c (.int .i64 0)), none⟩, ⟨some 19, .mv (.t 18), none⟩, ⟨some 20, .mv (.t 3), some (19, false)⟩, ⟨some 21, .bin .geq (.t 20) (.c (.int .u32 4096)), some (19, false)⟩, ⟨some 22, .pick (.t 19) (.c (.bool true)) (.t 21), none⟩]) (.cond (.t 22) (.seq (.reg [⟨some 23, .mv (.t 0), none⟩, ⟨some 24, .nilc (.t 23), none⟩, ⟨some 25, .fa 2 (.t 24), none⟩, ⟨none, .st 1 (.t 25) (.c (.bool true)), none⟩]) (.seq (.reg [⟨some 2, .mv (.c (.int .i64 0)), none⟩]) .ret)) .skip)) (.seq (.reg [⟨some 26, .mv (.t 0), none⟩, ⟨some 27, .nilc (.t 26), none⟩, ⟨some 28, .fa 1 (.t 27), none⟩, ⟨some 29, .ld 1 false (.t 28), none⟩, ⟨some 30, .bin .add (.t 29) (.c (.int .i64 4)), none⟩, ⟨some 31, .nilc (.t 26), none⟩, ⟨some 32, .fa 1 (.t 31), none⟩, ⟨none, .st 1 (.t 32) (.t 30), none⟩]) (.seq (.reg [⟨some 33, .mv (.t 3), none⟩, ⟨some 34, .cvt .i64 (.t 33), none⟩, ⟨some 2, .mv (.t 34), none⟩]) .ret))))⟩
theorem e155 : cfun Tryz.prog 155 = some c155 := by kernel_rfl
def c150 : DFun := ⟨46, [], .seq (.reg [⟨some 2, .mv (.t 0), none⟩, ⟨some 3, .nilc (.t 2), none⟩, ⟨some 4, .fa 0 (.t 3), none⟩, ⟨some 5, .calle 148 [.t 4, .c (.int .i64 1)], none⟩]) (.block 0 (.seq (.block 3 (.seq (.block 2 (.seq (.block 1 (.seq (.seq (.seq (.reg [⟨some 7, .bin .eql (.t 5) (.c (.string ⟨#[1]⟩)), none⟩, ⟨some 6, .mv (.t 7), none⟩]) (.cond (.t 6) (.exit 1) .skip)) (.seq (.reg [⟨some 9, .bin .eql (.t 5) (.c (.string ⟨#[0]⟩)), none⟩, ⟨some 8, .mv (.t 9), none⟩]) (.cond (.t 8) (.exit 2) .skip))) (.exit 3))) (.seq (.seq (.reg [⟨some 10, .mv (.t 0), none⟩, ⟨some 11, .nilc (.t 10), none⟩, ⟨some 12, .fa 3 (.t 11), none⟩, ⟨some 13, .fa 0 (.t 12), none⟩, ⟨none, .st 1 (.t 13) (.c (.bool true)), none⟩]) (.seq (.reg [⟨some 14, .mv (.t 0), none⟩, ⟨some 15, .mv (.t 0), none⟩, ⟨some 16, .nilc (.t 15), none⟩, ⟨some 17, .fa 0 (.t 16), none⟩, ⟨some 18, .calle 149 [.t 17], none⟩, ⟨some 19, .nilc (.t 14), none⟩, ⟨some 20, .fa 3 (.t 19), none⟩, ⟨some 21, .fa 2 (.t 20), none⟩, ⟨none, .st 1 (.t 21) (.t 18), none⟩]) (.reg [⟨some 22, .mv (.t 0), none⟩, ⟨some 23, .mv (.t 0), none⟩, ⟨some 24, .nilc (.t 23), none⟩, ⟨some 25, .fa 0 (.t 24), none⟩, ⟨some 26, .calle 155 [.t 25], none⟩, ⟨some 27, .nilc (.t 22), none⟩, ⟨some 28, .fa 3 (.t 27), none⟩, ⟨some 29, .fa 3 (.t 28), none⟩, ⟨none, .st 1 (.t 29) (.t 26), none⟩]))) (.exit 0)))) (.reg [⟨some 30, .mv (.t 0), none⟩, ⟨some 31, .mv (.t 0), none⟩, ⟨some 32, .nilc (.t 31), none⟩, ⟨some 33, .fa 0 (.t 32), none⟩, ⟨some 34, .mv (.t 0), none⟩, ⟨some 35, .nilc (.t 34), none⟩, ⟨some 36, .fa 0 (.t 35), none⟩, ⟨some 37, .calle 149 [.t 36], none⟩, ⟨some 38, .calle 148 [.t 33, .t 37], none⟩, ⟨some 39, .nilc (.t 30), none⟩, ⟨some 40, .fa 3 (.t 39), none⟩, ⟨some 41, .fa 1 (.t 40), none⟩, ⟨none, .st 1 (.t 41) (.t 38), none⟩]))) (.seq (.reg [⟨some 42, .mv (.t 0), none⟩, ⟨some 43, .nilc (.t 42), none⟩, ⟨some 44, .fa 3 (.t 43), none⟩, ⟨some 45, .fa 0 (.t 44), none⟩, ⟨none, .st 1 (.t 45) (.c (.bool false)), none⟩]) (.exit 0))))⟩
theorem e150 : cfun Tryz.prog 150 = some c150 := by kernel_rfl
def c98 : DFun := ⟨40, [.t 2, .t 3, .t 4], .seq (.reg [⟨some 2, .mv (.c (.int .i64 0)), none⟩, ⟨some 3, .mv (.c (.string ⟨#[]⟩)), none⟩, ⟨some 4, .mv (.c (.int .i64 0)), none⟩]) (.seq (.reg [⟨some 10, .mv (.t 0), none⟩, ⟨some 11, .bld [.string ⟨#[]⟩, .int .i64 0, .bool false] [(0, 1, .t 10)], none⟩, ⟨some 12, .box (.t 11), none⟩, ⟨some 5, .mv (.t 12), none⟩]) (.seq (.reg [⟨some 13, .mv (.t 5), none⟩, ⟨some 14, .calle 155 [.t 13], none⟩, ⟨some 6, .mv (.t 14), none⟩]) (.seq (.reg [⟨some 15, .mv (.t 5), none⟩, ⟨some 16, .mv (.t 5), none⟩, ⟨some 17, .calle 149 [.t 16], none⟩, ⟨some 18, .calle 148 [.t 15, .t 17], none⟩, ⟨some 7, .mv (.t 18), none⟩]) (.seq (.seq (.reg [⟨some 20, .mv (.t 6), none⟩, ⟨some 21, .mv (.t 7), none⟩, ⟨some 22, .call 129 [.t 20, .t 21], none⟩, ⟨some 19, .mv (.t 22), none⟩, ⟨some 23, .ext (.t 19) 0, none⟩, ⟨some 24, .ext (.t 19) 1, none⟩, ⟨some 8, .mv (.t 23), none⟩, ⟨some 9, .mv (.t 24), none⟩]) (.seq (.reg [⟨some 25, .mv (.t 5), none⟩, ⟨some 26, .nilc (.t 25), none⟩, ⟨some 27, .fa 2 (.t 26), none⟩, ⟨some 28, .ld 1 false (.t 27), none⟩, ⟨some 29, .mv (.t 28), none⟩, ⟨some 30, .mv (.t 9), some (29, false)⟩, ⟨some 31, .bin .neq (.t 30) (.c (.int .i64 0)), some (29, false)⟩, ⟨some 32, .pick (.t 29) (.c (.bool true)) (.t 31), none⟩, ⟨some 33, .mv (.t 32), none⟩, ⟨some 34, .mv (.t 8), some (33, false)⟩, ⟨some 35, .mv (.t 0), some (33, false)⟩, ⟨some 36, .bin .neq (.t 34) (.t 35), some (33, false)⟩, ⟨some 37, .pick (.t 33) (.c (.bool true)) (.t 36), none⟩]) (.cond (.t 37) (.seq (.reg [⟨some 2, .mv (.c (.int .i64 0)), none⟩, ⟨some 3, .mv (.c (.string ⟨#[]⟩)), none⟩, ⟨some 4, .mv (.c (.int .i64 3)), none⟩]) .ret) .skip))) (.seq (.reg [⟨some 38, .mv (.t 6), none⟩, ⟨some 39, .mv (.t 7), none⟩, ⟨some 2, .mv (.t 38), none⟩, ⟨some 3, .mv (.t 39), none⟩, ⟨some 4, .mv (.c (.int .i64 0)), none⟩]) .ret)))))⟩
theorem e98 : cfun Tryz.prog 98 = some c98 := by kernel_rfl
def c91 : DFun := ⟨52, [.t 2, .c 3 4 true, .t 4], .seq (.reg [⟨some 2, .mv (.c (.string ⟨#[]⟩)), none⟩, ⟨some 3, .zero (.agg #[.bool false, .string ⟨#[]⟩, .int .i64 0, .int .i64 0]), none⟩, ⟨some 4, .mv (.c (.int .i64 0)), none⟩]) (.seq (.reg [⟨some 9, .mv (.t 0), none⟩, ⟨some 10, .bld [.string ⟨#[]⟩, .int .i64 0, .bool false] [(0, 1, .t 9)], none⟩, ⟨some 11, .bld [.string ⟨#[]⟩, .int .i64 0, .bool false, .bool false, .string ⟨#[]⟩, .int .i64 0, .int .i64 0] [(0, 3, .t 10)], none⟩, ⟨some 12, .box (.t 11), none⟩, ⟨some 5, .mv (.t 12), none⟩]) (.seq (.reg [⟨some 13, .mv (.t 5), none⟩, ⟨some 14, .nilc (.t 13), none⟩, ⟨some 15, .fa 0 (.t 14), none⟩, ⟨some 16, .mv (.t 5), none⟩, ⟨some 17, .nilc (.t 16), none⟩, ⟨some 18, .fa 0 (.t 17), none⟩, ⟨some 19, .calle 149 [.t 18], none⟩, ⟨some 20, .calle 148 [.t 15, .t 19], none⟩, ⟨some 6, .mv (.t 20), none⟩]) (.seq (.reg [⟨some 21, .mv (.t 5), none⟩, ⟨some 22, .calle 150 [.t 21], none⟩]) (.seq (.seq (.reg [⟨some 24, .mv (.t 6), none⟩, ⟨some 25, .mv (.t 5), none⟩, ⟨some 26, .nilc (.t 25), none⟩, ⟨some 27, .fa 3 (.t 26), none⟩, ⟨some 28, .ld 4 true (.t 27), none⟩, ⟨some 29, .call 122 [.t 24, .t 28], none⟩, ⟨some 23, .mv (.t 29), none⟩, ⟨some 30, .ext (.t 23) 0, none⟩, ⟨some 31, .ext (.t 23) 1, none⟩, ⟨some 7, .mv (.t 30), none⟩, ⟨some 8, .mv (.t 31), none⟩]) (.seq (.reg [⟨some 32, .mv (.t 5), none⟩, ⟨some 33, .nilc (.t 32), none⟩, ⟨some 34, .fa 0 (.t 33), none⟩, ⟨some 35, .fa 2 (.t 34), none⟩, ⟨some 36, .ld 1 false (.t 35), none⟩, ⟨some 37, .mv (.t 36), none⟩, ⟨some 38, .mv (.t 8), some (37, false)⟩, ⟨some 39, .bin .neq (.t 38) (.c (.int .i64 0)), some (37, false)⟩, ⟨some 40, .pick (.t 37) (.c (.bool true)) (.t 39), none⟩, ⟨some 41, .mv (.t 40), none⟩, ⟨some 42, .mv (.t 7), some (41, false)⟩, ⟨some 43, .mv (.t 0), some (41, false)⟩, ⟨some 44, .bin .neq (.t 42) (.t 43), some (41, false)⟩, ⟨some 45, .pick (.t 41) (.c (.bool true)) (.t 44), none⟩]) (.cond (.t 45) (.seq (.reg [⟨some 46, .bld [.bool false, .string ⟨#[]⟩, .int .i64 0, .int .i64 0] [], none⟩, ⟨some 2, .mv (.c (.string ⟨#[]⟩)), none⟩, ⟨none, .st 4 (.t 3) (.t 46), none⟩, ⟨some 4, .mv (.c (.int .i64 3)), none⟩]) .ret) .skip))) (.seq (.reg [⟨some 47, .mv (.t 6), none⟩, ⟨some 48, .mv (.t 5), none⟩, ⟨some 49, .nilc (.t 48), none⟩, ⟨some 50, .fa 3 (.t 49), none⟩, ⟨some 51, .ld 4 true (.t 50), none⟩, ⟨some 2, .mv (.t 47), none⟩, ⟨none, .st 4 (.t 3) (.t 51), none⟩, ⟨some 4, .mv (.c (.int .i64 0)), none⟩]) .ret)))))⟩
theorem e91 : cfun Tryz.prog 91 = some c91 := by kernel_rfl
structure RQ where
  at' : Int
  bad : Bool
def numP (s : ByteArray) (q : RQ) : Prop := getE s q.at' = 0 ∧ getN s q.at' ≤ 4096
instance (s : ByteArray) (q : RQ) : Decidable (numP s q) := inferInstanceAs (Decidable (_ ∧ _))
def fourP (s : ByteArray) (q : RQ) : Prop := rdE s q.at' = 0 ∧ rdN s q.at' < 4096
instance (s : ByteArray) (q : RQ) : Decidable (fourP s q) := inferInstanceAs (Decidable (_ ∧ _))
def takeP (s : ByteArray) (q : RQ) (n : Int) : Prop := q.bad = false ∧ n ≤ (s.size : Int) - q.at'
instance (s : ByteArray) (q : RQ) (n : Int) : Decidable (takeP s q n) := inferInstanceAs (Decidable (_ ∧ _))
def numV (s : ByteArray) (q : RQ) : Int := if numP s q then getN s q.at' else 0
def numQ (s : ByteArray) (q : RQ) : RQ := if numP s q then ⟨getT s q.at', q.bad⟩ else ⟨q.at', true⟩
def frV (s : ByteArray) (q : RQ) : Int := if fourP s q then rdN s q.at' else 0
def frQ (s : ByteArray) (q : RQ) : RQ := if fourP s q then ⟨q.at' + 4, q.bad⟩ else ⟨q.at', true⟩
def tkS (s : ByteArray) (q : RQ) (n : Int) : ByteArray := if takeP s q n then s.extract q.at'.toNat (q.at' + n).toNat else nilS
def tkQ (s : ByteArray) (q : RQ) (n : Int) : RQ := if takeP s q n then ⟨q.at' + n, q.bad⟩ else ⟨q.at', true⟩
def inQ (s : ByteArray) (q : RQ) : Prop := 0 ≤ q.at' ∧ q.at' ≤ s.size
theorem getT_in {s : ByteArray} {a : Int} (h : getE s a = 0) : 0 ≤ a ∧ a + 1 ≤ getT s a ∧ getT s a ≤ s.size := by
  have ht : getT s a = a + 1 + moreN s a := by rw [getT, if_pos h]
  unfold getE at h
  split at h
  · omega
  · split at h
    · omega
    · rename_i h1 h2
      unfold getShort at h2
      omega
theorem getN_lo {s : ByteArray} {a : Int} (h : getE s a = 0) : 0 ≤ getN s a := by
  rw [getN, if_pos h]
  have hb := (bigN_b s (a.toNat + 1) (moreN s a)).1
  have hc := byteAt_lo s a.toNat
  have h1 := @more_1 s a
  unfold getV
  simp only
  (repeat' split) <;> omega
theorem rdE_in {s : ByteArray} {a : Int} (h : rdE s a = 0) : 0 ≤ a ∧ a + 4 ≤ s.size := by unfold rdE at h; (repeat' split at h) <;> omega
theorem rdN_lo {s : ByteArray} {a : Int} (h : rdE s a = 0) : 0 ≤ rdN s a ∧ rdN s a < 4294967296 := by
  rw [rdN, if_pos h]
  have := rdV_b s a.toNat 4 (by omega)
  simpa using this
theorem numQ_in {s : ByteArray} {q : RQ} (h : inQ s q) : inQ s (numQ s q) ∧ 0 ≤ numV s q ∧ numV s q ≤ 4096 := by
  unfold numQ numV
  split
  · rename_i hp
    have := getT_in hp.1; have := getN_lo hp.1; have := hp.2
    unfold inQ
    simp only
    omega
  · exact ⟨h, by omega, by omega⟩
theorem frQ_in {s : ByteArray} {q : RQ} (h : inQ s q) : inQ s (frQ s q) ∧ 0 ≤ frV s q ∧ frV s q < 4096 := by
  unfold frQ frV
  split
  · rename_i hp
    have := rdE_in hp.1; have := rdN_lo hp.1; have := hp.2
    unfold inQ
    simp only
    omega
  · exact ⟨h, by omega, by omega⟩
theorem tkQ_in {s : ByteArray} {q : RQ} {n : Int} (h : inQ s q) (hn : 0 ≤ n) : inQ s (tkQ s q n) := by
  unfold tkQ
  split
  · rename_i hp
    have := hp.2
    unfold inQ at h ⊢
    simp only
    omega
  · exact h
theorem tkS_size {s : ByteArray} {q : RQ} {n : Int} : (tkS s q n).size ≤ s.size := by
  unfold tkS
  split
  · rw [ByteArray.size_extract]; omega
  · exact Nat.zero_le _
abbrev rc (s : ByteArray) (q : RQ) : List DV := [SV s, VN .i64 q.at', BV q.bad]

theorem rnumberA (s : ByteArray) (q : RQ) (hs : s.size ≤ 1000000) (hq : inQ s q) : DEff Tp I 149 [.lp 0 0] [rc s q] [] (VN .i64 (numV s q)) [rc s (numQ s q)] [] := by
  unfold inQ at hq
  refine eff_of mix e149 (Nat.le_of_ble_eq_true rfl) ?_
  by_cases h : numP s q
  · have hv : numV s q = getN s q.at' := if_pos h
    have hw : numQ s q = ⟨getT s q.at', q.bad⟩ := if_pos h
    have h1 := h.1
    have h2 := h.2
    have h3 := getN_lo h1
    conv => whnf
    repeat' ((first | with_reducible refine cond_f ?_ | refine ⟨_, _, wknL_ok rfl, get_D s q.at' hs (by omega), ?_⟩ | (with_reducible first | refine s_gtr_f (by omega) ?_ | refine s_neq_f (by omega) ?_ | refine c_i64 (by omega) ?_) | ((fail_if_success (with_reducible refine is_int ?_)); refine cmp_int rfl rfl ?_) | ((with_reducible refine is_e3 ?_); refine ⟨_, rfl, rfl, ?_⟩) | ((with_reducible refine is_e2 ?_); refine ⟨_, rfl, ?_⟩) | ((with_reducible refine is_nilc ?_); refine ⟨Or.inr (Or.inl rfl), ?_⟩) | ((with_reducible refine is_end ?_); refine ⟨Or.inr rfl, ?_⟩) | fail) <;> conv => whnf)
    refine .same ?_ ?_ rfl
    · exact Eq.trans (b := VN .i64 (getN s q.at')) (by kernel_rfl) (by rw [hv])
    · exact Eq.trans (b := [rc s (⟨getT s q.at', q.bad⟩ : RQ)]) (by kernel_rfl) (by rw [hw])
  · have hv : numV s q = 0 := if_neg h
    have hw : numQ s q = ⟨q.at', true⟩ := if_neg h
    by_cases h1 : getE s q.at' = 0
    · have h2 : 4096 < getN s q.at' := by unfold numP at h; omega
      conv => whnf
      repeat' ((first | with_reducible refine cond_t ?_ | refine ⟨_, _, wknL_ok rfl, get_D s q.at' hs (by omega), ?_⟩ | (with_reducible first | refine s_gtr_t (by omega) ?_ | refine s_neq_f (by omega) ?_) | ((fail_if_success (with_reducible refine is_int ?_)); refine cmp_int rfl rfl ?_) | ((with_reducible refine is_e3 ?_); refine ⟨_, rfl, rfl, ?_⟩) | ((with_reducible refine is_e2 ?_); refine ⟨_, rfl, ?_⟩) | ((with_reducible refine is_nilc ?_); refine ⟨Or.inr (Or.inl rfl), ?_⟩) | ((with_reducible refine is_end ?_); refine ⟨Or.inr rfl, ?_⟩) | fail) <;> conv => whnf)
      refine .same ?_ ?_ rfl
      · exact Eq.trans (b := VN .i64 0) (by kernel_rfl) (by rw [hv])
      · exact Eq.trans (b := [rc s (⟨q.at', true⟩ : RQ)]) (by kernel_rfl) (by rw [hw])
    · conv => whnf
      repeat' ((first | with_reducible refine cond_t ?_ | refine ⟨_, _, wknL_ok rfl, get_D s q.at' hs (by omega), ?_⟩ | with_reducible refine s_neq_t (by omega) ?_ | ((fail_if_success (with_reducible refine is_int ?_)); refine cmp_int rfl rfl ?_) | ((with_reducible refine is_e3 ?_); refine ⟨_, rfl, rfl, ?_⟩) | ((with_reducible refine is_e2 ?_); refine ⟨_, rfl, ?_⟩) | ((with_reducible refine is_nilc ?_); refine ⟨Or.inr (Or.inl rfl), ?_⟩) | ((with_reducible refine is_end ?_); refine ⟨Or.inr rfl, ?_⟩) | fail) <;> conv => whnf)
      refine .same ?_ ?_ rfl
      · exact Eq.trans (b := VN .i64 0) (by kernel_rfl) (by rw [hv])
      · exact Eq.trans (b := [rc s (⟨q.at', true⟩ : RQ)]) (by kernel_rfl) (by rw [hw])
theorem rfourA (s : ByteArray) (q : RQ) (hs : s.size ≤ 1000000) (hq : inQ s q) : DEff Tp I 155 [.lp 0 0] [rc s q] [] (VN .i64 (frV s q)) [rc s (frQ s q)] [] := by
  unfold inQ at hq
  refine eff_of mix e155 (Nat.le_of_ble_eq_true rfl) ?_
  by_cases h : fourP s q
  · have hv : frV s q = rdN s q.at' := if_pos h
    have hw : frQ s q = ⟨q.at' + 4, q.bad⟩ := if_pos h
    have h1 := h.1
    have h2 := h.2
    have h3 := rdN_lo h1
    conv => whnf
    repeat' ((first | with_reducible refine cond_f ?_ | refine ⟨_, _, wknL_ok rfl, read_D s q.at' hs (by omega), ?_⟩ | (with_reducible first | refine s_geq_f (by omega) ?_ | refine s_neq_f (by omega) ?_ | refine s_add (by omega) ?_ | refine c_i64 (by omega) ?_) | ((fail_if_success (with_reducible refine is_int ?_)); refine cmp_int rfl rfl ?_) | ((with_reducible refine is_e3 ?_); refine ⟨_, rfl, rfl, ?_⟩) | ((with_reducible refine is_e2 ?_); refine ⟨_, rfl, ?_⟩) | ((with_reducible refine is_nilc ?_); refine ⟨Or.inr (Or.inl rfl), ?_⟩) | ((with_reducible refine is_end ?_); refine ⟨Or.inr rfl, ?_⟩) | fail) <;> conv => whnf)
    refine .same ?_ ?_ rfl
    · exact Eq.trans (b := VN .i64 (rdN s q.at')) (by kernel_rfl) (by rw [hv])
    · exact Eq.trans (b := [rc s (⟨q.at' + 4, q.bad⟩ : RQ)]) (by kernel_rfl) (by rw [hw])
  · have hv : frV s q = 0 := if_neg h
    have hw : frQ s q = ⟨q.at', true⟩ := if_neg h
    by_cases h1 : rdE s q.at' = 0
    · have h2 : 4096 ≤ rdN s q.at' := by unfold fourP at h; omega
      conv => whnf
      repeat' ((first | with_reducible refine cond_t ?_ | refine ⟨_, _, wknL_ok rfl, read_D s q.at' hs (by omega), ?_⟩ | (with_reducible first | refine s_geq_t (by omega) ?_ | refine s_neq_f (by omega) ?_) | ((fail_if_success (with_reducible refine is_int ?_)); refine cmp_int rfl rfl ?_) | ((with_reducible refine is_e3 ?_); refine ⟨_, rfl, rfl, ?_⟩) | ((with_reducible refine is_e2 ?_); refine ⟨_, rfl, ?_⟩) | ((with_reducible refine is_nilc ?_); refine ⟨Or.inr (Or.inl rfl), ?_⟩) | ((with_reducible refine is_end ?_); refine ⟨Or.inr rfl, ?_⟩) | fail) <;> conv => whnf)
      refine .same ?_ ?_ rfl
      · exact Eq.trans (b := VN .i64 0) (by kernel_rfl) (by rw [hv])
      · exact Eq.trans (b := [rc s (⟨q.at', true⟩ : RQ)]) (by kernel_rfl) (by rw [hw])
    · conv => whnf
      repeat' ((first | with_reducible refine cond_t ?_ | refine ⟨_, _, wknL_ok rfl, read_D s q.at' hs (by omega), ?_⟩ | with_reducible refine s_neq_t (by omega) ?_ | ((fail_if_success (with_reducible refine is_int ?_)); refine cmp_int rfl rfl ?_) | ((with_reducible refine is_e3 ?_); refine ⟨_, rfl, rfl, ?_⟩) | ((with_reducible refine is_e2 ?_); refine ⟨_, rfl, ?_⟩) | ((with_reducible refine is_nilc ?_); refine ⟨Or.inr (Or.inl rfl), ?_⟩) | ((with_reducible refine is_end ?_); refine ⟨Or.inr rfl, ?_⟩) | fail) <;> conv => whnf)
      refine .same ?_ ?_ rfl
      · exact Eq.trans (b := VN .i64 0) (by kernel_rfl) (by rw [hv])
      · exact Eq.trans (b := [rc s (⟨q.at', true⟩ : RQ)]) (by kernel_rfl) (by rw [hw])
theorem rtake0A (s : ByteArray) (a : Int) (b : Bool) (n : Int) (hs : s.size ≤ 1000000) (hq : 0 ≤ a ∧ a ≤ s.size) (hn : 0 ≤ n ∧ n ≤ 1000000) : DEff Tp I 148 [.lp 0 0, VN .i64 n] [[SV s, VN .i64 a, BV b]] [] (SV (tkS s ⟨a, b⟩ n)) [rc s (tkQ s ⟨a, b⟩ n)] [] := by
  refine eff_of mix e148 (Nat.le_of_ble_eq_true rfl) ?_
  by_cases h : takeP s ⟨a, b⟩ n
  · have hv : tkS s ⟨a, b⟩ n = s.extract a.toNat (a + n).toNat := if_pos h
    have hw : tkQ s ⟨a, b⟩ n = ⟨a + n, b⟩ := if_pos h
    have h2 : n ≤ (s.size : Int) - a := h.2
    cases b with
    | true => exact absurd h.1 Bool.noConfusion
    | false =>
      conv => whnf
      repeat' ((first | (with_reducible first | refine cond_f ?_ | refine s_gtr_f (by omega) ?_ | refine s_add (by omega) ?_ | refine s_sub (by omega) ?_) | ((with_reducible refine is_e3 ?_); refine ⟨_, rfl, rfl, ?_⟩) | ((with_reducible refine is_nilc ?_); refine ⟨Or.inr (Or.inl rfl), ?_⟩) | ((with_reducible refine is_end ?_); refine ⟨Or.inr rfl, ?_⟩) | refine And.intro (by omega) ?_ | fail) <;> conv => whnf)
      refine .same ?_ ?_ rfl
      · refine Eq.trans (b := SV (s.extract (a + n - n).toNat (a + n).toNat)) (by kernel_rfl) ?_
        rw [hv, show a + n - n = a by omega]
      · exact Eq.trans (b := [rc s (⟨a + n, false⟩ : RQ)]) (by kernel_rfl) (by rw [hw])
  · have hv : tkS s ⟨a, b⟩ n = nilS := if_neg h
    have hw : tkQ s ⟨a, b⟩ n = ⟨a, true⟩ := if_neg h
    cases b with
    | true =>
      conv => whnf
      repeat' ((first | with_reducible refine cond_t ?_ | ((with_reducible refine is_e3 ?_); refine ⟨_, rfl, rfl, ?_⟩) | ((with_reducible refine is_nilc ?_); refine ⟨Or.inr (Or.inl rfl), ?_⟩) | ((with_reducible refine is_end ?_); refine ⟨Or.inr rfl, ?_⟩) | fail) <;> conv => whnf)
      refine .same ?_ ?_ rfl
      · exact Eq.trans (b := SV nilS) (by kernel_rfl) (by rw [hv])
      · exact Eq.trans (b := [rc s (⟨a, true⟩ : RQ)]) (by kernel_rfl) (by rw [hw])
    | false =>
      have h2 : ¬ n ≤ (s.size : Int) - a := fun h2 => h ⟨rfl, h2⟩
      conv => whnf
      repeat' ((first | (with_reducible first | refine cond_t ?_ | refine s_gtr_t (by omega) ?_ | refine s_sub (by omega) ?_) | ((with_reducible refine is_e3 ?_); refine ⟨_, rfl, rfl, ?_⟩) | ((with_reducible refine is_nilc ?_); refine ⟨Or.inr (Or.inl rfl), ?_⟩) | ((with_reducible refine is_end ?_); refine ⟨Or.inr rfl, ?_⟩) | fail) <;> conv => whnf)
      refine .same ?_ ?_ rfl
      · exact Eq.trans (b := SV nilS) (by kernel_rfl) (by rw [hv])
      · exact Eq.trans (b := [rc s (⟨a, true⟩ : RQ)]) (by kernel_rfl) (by rw [hw])
theorem rtakeA (s : ByteArray) (q : RQ) (n : Int) (hs : s.size ≤ 1000000) (hq : inQ s q) (hn : 0 ≤ n ∧ n ≤ 1000000) : DEff Tp I 148 [.lp 0 0, VN .i64 n] [rc s q] [] (SV (tkS s q n)) [rc s (tkQ s q n)] [] := rtake0A s q.at' q.bad n hs hq hn

theorem rnumberB (z : List DV) (v0 v1 v2 v3 : DV) (s : ByteArray) (q : RQ) (hs : s.size ≤ 1000000) (hq : inQ s q) : DEff Tp I 149 [.lp 1 0] [z, [SV s, VN .i64 (q).at', BV (q).bad, v0, v1, v2, v3]] [] (VN .i64 (numV s q)) [z, [SV s, VN .i64 ((numQ s q)).at', BV ((numQ s q)).bad, v0, v1, v2, v3]] [] := by
  unfold inQ at hq
  refine eff_of mix e149 (Nat.le_of_ble_eq_true rfl) ?_
  by_cases h : numP s q
  · have hv : numV s q = getN s q.at' := if_pos h
    have hw : numQ s q = ⟨getT s q.at', q.bad⟩ := if_pos h
    have h1 := h.1
    have h2 := h.2
    have h3 := getN_lo h1
    conv => whnf
    repeat' ((first | with_reducible refine cond_f ?_ | refine ⟨_, _, wknL_ok rfl, get_D s q.at' hs (by omega), ?_⟩ | (with_reducible first | refine s_gtr_f (by omega) ?_ | refine s_neq_f (by omega) ?_ | refine c_i64 (by omega) ?_) | ((fail_if_success (with_reducible refine is_int ?_)); refine cmp_int rfl rfl ?_) | ((with_reducible refine is_e3 ?_); refine ⟨_, rfl, rfl, ?_⟩) | ((with_reducible refine is_e2 ?_); refine ⟨_, rfl, ?_⟩) | ((with_reducible refine is_nilc ?_); refine ⟨Or.inr (Or.inl rfl), ?_⟩) | ((with_reducible refine is_end ?_); refine ⟨Or.inr rfl, ?_⟩) | fail) <;> conv => whnf)
    refine .same ?_ ?_ rfl
    · exact Eq.trans (b := VN .i64 (getN s q.at')) (by kernel_rfl) (by rw [hv])
    · exact Eq.trans (b := [z, [SV s, VN .i64 ((⟨getT s q.at', q.bad⟩ : RQ)).at', BV ((⟨getT s q.at', q.bad⟩ : RQ)).bad, v0, v1, v2, v3]]) (by kernel_rfl) (by rw [hw])
  · have hv : numV s q = 0 := if_neg h
    have hw : numQ s q = ⟨q.at', true⟩ := if_neg h
    by_cases h1 : getE s q.at' = 0
    · have h2 : 4096 < getN s q.at' := by unfold numP at h; omega
      conv => whnf
      repeat' ((first | with_reducible refine cond_t ?_ | refine ⟨_, _, wknL_ok rfl, get_D s q.at' hs (by omega), ?_⟩ | (with_reducible first | refine s_gtr_t (by omega) ?_ | refine s_neq_f (by omega) ?_) | ((fail_if_success (with_reducible refine is_int ?_)); refine cmp_int rfl rfl ?_) | ((with_reducible refine is_e3 ?_); refine ⟨_, rfl, rfl, ?_⟩) | ((with_reducible refine is_e2 ?_); refine ⟨_, rfl, ?_⟩) | ((with_reducible refine is_nilc ?_); refine ⟨Or.inr (Or.inl rfl), ?_⟩) | ((with_reducible refine is_end ?_); refine ⟨Or.inr rfl, ?_⟩) | fail) <;> conv => whnf)
      refine .same ?_ ?_ rfl
      · exact Eq.trans (b := VN .i64 0) (by kernel_rfl) (by rw [hv])
      · exact Eq.trans (b := [z, [SV s, VN .i64 ((⟨q.at', true⟩ : RQ)).at', BV ((⟨q.at', true⟩ : RQ)).bad, v0, v1, v2, v3]]) (by kernel_rfl) (by rw [hw])
    · conv => whnf
      repeat' ((first | with_reducible refine cond_t ?_ | refine ⟨_, _, wknL_ok rfl, get_D s q.at' hs (by omega), ?_⟩ | with_reducible refine s_neq_t (by omega) ?_ | ((fail_if_success (with_reducible refine is_int ?_)); refine cmp_int rfl rfl ?_) | ((with_reducible refine is_e3 ?_); refine ⟨_, rfl, rfl, ?_⟩) | ((with_reducible refine is_e2 ?_); refine ⟨_, rfl, ?_⟩) | ((with_reducible refine is_nilc ?_); refine ⟨Or.inr (Or.inl rfl), ?_⟩) | ((with_reducible refine is_end ?_); refine ⟨Or.inr rfl, ?_⟩) | fail) <;> conv => whnf)
      refine .same ?_ ?_ rfl
      · exact Eq.trans (b := VN .i64 0) (by kernel_rfl) (by rw [hv])
      · exact Eq.trans (b := [z, [SV s, VN .i64 ((⟨q.at', true⟩ : RQ)).at', BV ((⟨q.at', true⟩ : RQ)).bad, v0, v1, v2, v3]]) (by kernel_rfl) (by rw [hw])
theorem rfourB (z : List DV) (v0 v1 v2 v3 : DV) (s : ByteArray) (q : RQ) (hs : s.size ≤ 1000000) (hq : inQ s q) : DEff Tp I 155 [.lp 1 0] [z, [SV s, VN .i64 (q).at', BV (q).bad, v0, v1, v2, v3]] [] (VN .i64 (frV s q)) [z, [SV s, VN .i64 ((frQ s q)).at', BV ((frQ s q)).bad, v0, v1, v2, v3]] [] := by
  unfold inQ at hq
  refine eff_of mix e155 (Nat.le_of_ble_eq_true rfl) ?_
  by_cases h : fourP s q
  · have hv : frV s q = rdN s q.at' := if_pos h
    have hw : frQ s q = ⟨q.at' + 4, q.bad⟩ := if_pos h
    have h1 := h.1
    have h2 := h.2
    have h3 := rdN_lo h1
    conv => whnf
    repeat' ((first | with_reducible refine cond_f ?_ | refine ⟨_, _, wknL_ok rfl, read_D s q.at' hs (by omega), ?_⟩ | (with_reducible first | refine s_geq_f (by omega) ?_ | refine s_neq_f (by omega) ?_ | refine s_add (by omega) ?_ | refine c_i64 (by omega) ?_) | ((fail_if_success (with_reducible refine is_int ?_)); refine cmp_int rfl rfl ?_) | ((with_reducible refine is_e3 ?_); refine ⟨_, rfl, rfl, ?_⟩) | ((with_reducible refine is_e2 ?_); refine ⟨_, rfl, ?_⟩) | ((with_reducible refine is_nilc ?_); refine ⟨Or.inr (Or.inl rfl), ?_⟩) | ((with_reducible refine is_end ?_); refine ⟨Or.inr rfl, ?_⟩) | fail) <;> conv => whnf)
    refine .same ?_ ?_ rfl
    · exact Eq.trans (b := VN .i64 (rdN s q.at')) (by kernel_rfl) (by rw [hv])
    · exact Eq.trans (b := [z, [SV s, VN .i64 ((⟨q.at' + 4, q.bad⟩ : RQ)).at', BV ((⟨q.at' + 4, q.bad⟩ : RQ)).bad, v0, v1, v2, v3]]) (by kernel_rfl) (by rw [hw])
  · have hv : frV s q = 0 := if_neg h
    have hw : frQ s q = ⟨q.at', true⟩ := if_neg h
    by_cases h1 : rdE s q.at' = 0
    · have h2 : 4096 ≤ rdN s q.at' := by unfold fourP at h; omega
      conv => whnf
      repeat' ((first | with_reducible refine cond_t ?_ | refine ⟨_, _, wknL_ok rfl, read_D s q.at' hs (by omega), ?_⟩ | (with_reducible first | refine s_geq_t (by omega) ?_ | refine s_neq_f (by omega) ?_) | ((fail_if_success (with_reducible refine is_int ?_)); refine cmp_int rfl rfl ?_) | ((with_reducible refine is_e3 ?_); refine ⟨_, rfl, rfl, ?_⟩) | ((with_reducible refine is_e2 ?_); refine ⟨_, rfl, ?_⟩) | ((with_reducible refine is_nilc ?_); refine ⟨Or.inr (Or.inl rfl), ?_⟩) | ((with_reducible refine is_end ?_); refine ⟨Or.inr rfl, ?_⟩) | fail) <;> conv => whnf)
      refine .same ?_ ?_ rfl
      · exact Eq.trans (b := VN .i64 0) (by kernel_rfl) (by rw [hv])
      · exact Eq.trans (b := [z, [SV s, VN .i64 ((⟨q.at', true⟩ : RQ)).at', BV ((⟨q.at', true⟩ : RQ)).bad, v0, v1, v2, v3]]) (by kernel_rfl) (by rw [hw])
    · conv => whnf
      repeat' ((first | with_reducible refine cond_t ?_ | refine ⟨_, _, wknL_ok rfl, read_D s q.at' hs (by omega), ?_⟩ | with_reducible refine s_neq_t (by omega) ?_ | ((fail_if_success (with_reducible refine is_int ?_)); refine cmp_int rfl rfl ?_) | ((with_reducible refine is_e3 ?_); refine ⟨_, rfl, rfl, ?_⟩) | ((with_reducible refine is_e2 ?_); refine ⟨_, rfl, ?_⟩) | ((with_reducible refine is_nilc ?_); refine ⟨Or.inr (Or.inl rfl), ?_⟩) | ((with_reducible refine is_end ?_); refine ⟨Or.inr rfl, ?_⟩) | fail) <;> conv => whnf)
      refine .same ?_ ?_ rfl
      · exact Eq.trans (b := VN .i64 0) (by kernel_rfl) (by rw [hv])
      · exact Eq.trans (b := [z, [SV s, VN .i64 ((⟨q.at', true⟩ : RQ)).at', BV ((⟨q.at', true⟩ : RQ)).bad, v0, v1, v2, v3]]) (by kernel_rfl) (by rw [hw])
theorem rtake0B (z : List DV) (v0 v1 v2 v3 : DV) (s : ByteArray) (a : Int) (b : Bool) (n : Int) (hs : s.size ≤ 1000000) (hq : 0 ≤ a ∧ a ≤ s.size) (hn : 0 ≤ n ∧ n ≤ 1000000) : DEff Tp I 148 [.lp 1 0, VN .i64 n] [z, [SV s, VN .i64 a, BV b, v0, v1, v2, v3]] [] (SV (tkS s ⟨a, b⟩ n)) [z, [SV s, VN .i64 ((tkQ s ⟨a, b⟩ n)).at', BV ((tkQ s ⟨a, b⟩ n)).bad, v0, v1, v2, v3]] [] := by
  refine eff_of mix e148 (Nat.le_of_ble_eq_true rfl) ?_
  by_cases h : takeP s ⟨a, b⟩ n
  · have hv : tkS s ⟨a, b⟩ n = s.extract a.toNat (a + n).toNat := if_pos h
    have hw : tkQ s ⟨a, b⟩ n = ⟨a + n, b⟩ := if_pos h
    have h2 : n ≤ (s.size : Int) - a := h.2
    cases b with
    | true => exact absurd h.1 Bool.noConfusion
    | false =>
      conv => whnf
      repeat' ((first | (with_reducible first | refine cond_f ?_ | refine s_gtr_f (by omega) ?_ | refine s_add (by omega) ?_ | refine s_sub (by omega) ?_) | ((with_reducible refine is_e3 ?_); refine ⟨_, rfl, rfl, ?_⟩) | ((with_reducible refine is_nilc ?_); refine ⟨Or.inr (Or.inl rfl), ?_⟩) | ((with_reducible refine is_end ?_); refine ⟨Or.inr rfl, ?_⟩) | refine And.intro (by omega) ?_ | fail) <;> conv => whnf)
      refine .same ?_ ?_ rfl
      · refine Eq.trans (b := SV (s.extract (a + n - n).toNat (a + n).toNat)) (by kernel_rfl) ?_
        rw [hv, show a + n - n = a by omega]
      · exact Eq.trans (b := [z, [SV s, VN .i64 ((⟨a + n, false⟩ : RQ)).at', BV ((⟨a + n, false⟩ : RQ)).bad, v0, v1, v2, v3]]) (by kernel_rfl) (by rw [hw])
  · have hv : tkS s ⟨a, b⟩ n = nilS := if_neg h
    have hw : tkQ s ⟨a, b⟩ n = ⟨a, true⟩ := if_neg h
    cases b with
    | true =>
      conv => whnf
      repeat' ((first | with_reducible refine cond_t ?_ | ((with_reducible refine is_e3 ?_); refine ⟨_, rfl, rfl, ?_⟩) | ((with_reducible refine is_nilc ?_); refine ⟨Or.inr (Or.inl rfl), ?_⟩) | ((with_reducible refine is_end ?_); refine ⟨Or.inr rfl, ?_⟩) | fail) <;> conv => whnf)
      refine .same ?_ ?_ rfl
      · exact Eq.trans (b := SV nilS) (by kernel_rfl) (by rw [hv])
      · exact Eq.trans (b := [z, [SV s, VN .i64 ((⟨a, true⟩ : RQ)).at', BV ((⟨a, true⟩ : RQ)).bad, v0, v1, v2, v3]]) (by kernel_rfl) (by rw [hw])
    | false =>
      have h2 : ¬ n ≤ (s.size : Int) - a := fun h2 => h ⟨rfl, h2⟩
      conv => whnf
      repeat' ((first | (with_reducible first | refine cond_t ?_ | refine s_gtr_t (by omega) ?_ | refine s_sub (by omega) ?_) | ((with_reducible refine is_e3 ?_); refine ⟨_, rfl, rfl, ?_⟩) | ((with_reducible refine is_nilc ?_); refine ⟨Or.inr (Or.inl rfl), ?_⟩) | ((with_reducible refine is_end ?_); refine ⟨Or.inr rfl, ?_⟩) | fail) <;> conv => whnf)
      refine .same ?_ ?_ rfl
      · exact Eq.trans (b := SV nilS) (by kernel_rfl) (by rw [hv])
      · exact Eq.trans (b := [z, [SV s, VN .i64 ((⟨a, true⟩ : RQ)).at', BV ((⟨a, true⟩ : RQ)).bad, v0, v1, v2, v3]]) (by kernel_rfl) (by rw [hw])
theorem rtakeB (z : List DV) (v0 v1 v2 v3 : DV) (s : ByteArray) (q : RQ) (n : Int) (hs : s.size ≤ 1000000) (hq : inQ s q) (hn : 0 ≤ n ∧ n ≤ 1000000) : DEff Tp I 148 [.lp 1 0, VN .i64 n] [z, [SV s, VN .i64 (q).at', BV (q).bad, v0, v1, v2, v3]] [] (SV (tkS s q n)) [z, [SV s, VN .i64 ((tkQ s q n)).at', BV ((tkQ s q n)).bad, v0, v1, v2, v3]] [] := rtake0B z v0 v1 v2 v3 s q.at' q.bad n hs hq hn

end Go.Proofs.YtlbodfkhenkcjaaGreatDoor.X


namespace Go.Proofs.YtlbodfkhenkcjaaGreatDoor.X
open Go Go.Proofs Go.RowKit Go.Proofs.YtlbodfkhenkcjaaGreatDoor.D
set_option maxRecDepth 100000
set_option maxHeartbeats 1000000
set_option linter.unusedVariables false
set_option linter.unusedSimpArgs false
variable {I : D.Inv}
attribute [local irreducible] D.DPure D.DEff D.callable numV numQ frV frQ tkS tkQ getE getN getT rdE rdN putS fourB textS pkS pkE pvS pvE

abbrev q0 : RQ := ⟨0, false⟩
theorem q0_in (s : ByteArray) : inQ s q0 := ⟨by decide, by show (0 : Int) ≤ s.size; omega⟩
abbrev gkQ1 (s : ByteArray) : RQ := frQ s q0
abbrev gkQ2 (s : ByteArray) : RQ := numQ s (gkQ1 s)
abbrev gkN (s : ByteArray) : Int := numV s (gkQ1 s)
abbrev gkT (s : ByteArray) : ByteArray := tkS s (gkQ2 s) (gkN s)
abbrev gkQ3 (s : ByteArray) : RQ := tkQ s (gkQ2 s) (gkN s)
def gkP (s : ByteArray) : Prop := (gkQ3 s).bad = false ∧ pkE (frV s q0) (gkT s) = 0 ∧ pkS (frV s q0) (gkT s) = s
instance (s : ByteArray) : Decidable (gkP s) := inferInstanceAs (Decidable (_ ∧ _ ∧ _))
def gkK (s : ByteArray) : Int := if gkP s then frV s q0 else 0
def gkS (s : ByteArray) : ByteArray := if gkP s then gkT s else nilS
def gkE (s : ByteArray) : Int := if gkP s then 0 else 3
theorem rtakeAb (s : ByteArray) (q : RQ) (n : Int) (b : Bool) (h : (tkQ s q n).bad = b) (hs : s.size ≤ 1000000) (hq : inQ s q) (hn : 0 ≤ n ∧ n ≤ 1000000) : DEff Tp I 148 [.lp 0 0, VN .i64 n] [rc s q] [] (SV (tkS s q n)) [[SV s, VN .i64 (tkQ s q n).at', BV b]] [] := by
  subst h; exact rtakeA s q n hs hq hn
theorem gk_yes {s : ByteArray} (h : gkP s) : gkK s = frV s q0 ∧ gkS s = gkT s ∧ gkE s = 0 := ⟨if_pos h, if_pos h, if_pos h⟩
theorem gk_no {s : ByteArray} (h : ¬ gkP s) : gkK s = 0 ∧ gkS s = nilS ∧ gkE s = 3 := ⟨if_neg h, if_neg h, if_neg h⟩
theorem getKid_D (s : ByteArray) (hs : s.size ≤ 1000000) : DPure Tp I 98 [SV s] (.v (.tuple #[.int .i64 (gkK s), .string (gkS s), .int .i64 (gkE s)])) := by
  have i1 := frQ_in (q0_in s)
  have i2 := numQ_in i1.1
  have hT : (gkT s).size ≤ s.size := tkS_size
  refine pure_of mix e98 (Nat.le_of_ble_eq_true rfl) ?_
  cases hb : (gkQ3 s).bad
  · conv => whnf
    repeat' ((first | (with_reducible first | refine cond_t ?_ | refine cond_f ?_) | refine Or.inr ⟨_, _, _, rfourA s q0 hs (q0_in s), ?_⟩ | refine Or.inr ⟨_, _, _, rnumberA s (gkQ1 s) hs i1.1, ?_⟩ | refine Or.inr ⟨_, _, _, rtakeAb s (gkQ2 s) (gkN s) false hb hs i2.1 (by unfold gkN; unfold gkQ1; omega), ?_⟩ | refine ⟨_, _, wknL_ok rfl, putKid_D (frV s q0) (gkT s) (by omega), ?_⟩ | (with_reducible first | refine s_neq (fun _ => ?_) (fun _ => ?_) | refine s_sneq (fun _ => ?_) (fun _ => ?_)) | ((fail_if_success (with_reducible refine is_int ?_)); refine cmp_int rfl rfl ?_) | ((fail_if_success (with_reducible refine is_str ?_)); refine cmp_str rfl rfl ?_) | ((with_reducible refine is_e3 ?_); refine ⟨_, rfl, rfl, ?_⟩) | ((with_reducible refine is_e2 ?_); refine ⟨_, rfl, ?_⟩) | ((with_reducible refine is_nilc ?_); refine ⟨Or.inr (Or.inl rfl), ?_⟩) | ((with_reducible refine is_end ?_); refine ⟨Or.inr rfl, ?_⟩) | ((with_reducible refine is_and ?_); refine And.intro rfl ?_) | fail) <;> conv => whnf)
    · have h := gk_yes (s := s) ⟨hb, ‹pkE (frV s q0) (gkT s) = 0›, ‹pkS (frV s q0) (gkT s) = s›⟩
      exact tup3_of (a := .int .i64 (frV s q0)) (b := .string (gkT s)) (c := .int .i64 0) (by kernel_rfl) (by rw [h.1]) (by rw [h.2.1]) (by rw [h.2.2])
    · have h := gk_no (s := s) (fun h => ‹¬ pkS (frV s q0) (gkT s) = s› h.2.2)
      exact tup3_of (a := .int .i64 0) (b := .string nilS) (c := .int .i64 3) (by kernel_rfl) (by rw [h.1]) (by rw [h.2.1]) (by rw [h.2.2])
    · have h := gk_no (s := s) (fun h => ‹¬ pkE (frV s q0) (gkT s) = 0› h.2.1)
      exact tup3_of (a := .int .i64 0) (b := .string nilS) (c := .int .i64 3) (by kernel_rfl) (by rw [h.1]) (by rw [h.2.1]) (by rw [h.2.2])
  · conv => whnf
    repeat' ((first | with_reducible refine cond_t ?_ | refine Or.inr ⟨_, _, _, rfourA s q0 hs (q0_in s), ?_⟩ | refine Or.inr ⟨_, _, _, rnumberA s (gkQ1 s) hs i1.1, ?_⟩ | refine Or.inr ⟨_, _, _, rtakeAb s (gkQ2 s) (gkN s) true hb hs i2.1 (by unfold gkN; unfold gkQ1; omega), ?_⟩ | refine ⟨_, _, wknL_ok rfl, putKid_D (frV s q0) (gkT s) (by omega), ?_⟩ | ((with_reducible refine is_e3 ?_); refine ⟨_, rfl, rfl, ?_⟩) | ((with_reducible refine is_e2 ?_); refine ⟨_, rfl, ?_⟩) | ((with_reducible refine is_nilc ?_); refine ⟨Or.inr (Or.inl rfl), ?_⟩) | ((with_reducible refine is_end ?_); refine ⟨Or.inr rfl, ?_⟩) | ((with_reducible refine is_and ?_); refine And.intro rfl ?_) | fail) <;> conv => whnf)
    have h := gk_no (s := s) (fun h => by have h1 := h.1; rw [hb] at h1; exact Bool.noConfusion h1)
    exact tup3_of (a := .int .i64 0) (b := .string nilS) (c := .int .i64 3) (by kernel_rfl) (by rw [h.1]) (by rw [h.2.1]) (by rw [h.2.2])

end Go.Proofs.YtlbodfkhenkcjaaGreatDoor.X


namespace Go.Proofs.YtlbodfkhenkcjaaGreatDoor.X
open Go Go.Proofs Go.RowKit Go.Proofs.YtlbodfkhenkcjaaGreatDoor.D
set_option maxRecDepth 100000
set_option maxHeartbeats 1000000
set_option linter.unusedVariables false
set_option linter.unusedSimpArgs false
variable {I : D.Inv}
attribute [local irreducible] D.DPure D.DEff D.callable numV numQ frV frQ tkS tkQ getE getN getT rdE rdN putS fourB textS pkS pkE pvS pvE

abbrev gvQ1 (s : ByteArray) : RQ := numQ s q0
abbrev gvN (s : ByteArray) : Int := numV s q0
abbrev gvT (s : ByteArray) : ByteArray := tkS s (gvQ1 s) (gvN s)
abbrev gvQ2 (s : ByteArray) : RQ := tkQ s (gvQ1 s) (gvN s)
abbrev vlB (s : ByteArray) (q : RQ) : ByteArray := tkS s q 1
abbrev vlQ1 (s : ByteArray) (q : RQ) : RQ := tkQ s q 1
def vlV (s : ByteArray) (q : RQ) : ValM :=
  if vlB s q = ⟨#[1]⟩ then ⟨true, nilS, numV s (vlQ1 s q), frV s (numQ s (vlQ1 s q))⟩
  else if vlB s q = ⟨#[0]⟩ then ⟨false, tkS s (numQ s (vlQ1 s q)) (numV s (vlQ1 s q)), 0, 0⟩ else ⟨false, nilS, 0, 0⟩
def vlQ (s : ByteArray) (q : RQ) : RQ :=
  if vlB s q = ⟨#[1]⟩ then frQ s (numQ s (vlQ1 s q)) else if vlB s q = ⟨#[0]⟩ then tkQ s (numQ s (vlQ1 s q)) (numV s (vlQ1 s q)) else vlQ1 s q
abbrev gcell (s : ByteArray) (q : RQ) (v : ValM) : List DV := [SV s, VN .i64 q.at', BV q.bad, BV v.over, SV v.s, VN .i64 v.len, VN .i64 v.page]
theorem value_D (z : List DV) (s : ByteArray) (q : RQ) (hs : s.size ≤ 1000000) (hq : inQ s q) : DEff Tp I 150 [.lp 1 0] [z, gcell s q ⟨false, nilS, 0, 0⟩] [] (.v (.tuple #[])) [z, gcell s (vlQ s q) (vlV s q)] [] := by
  have i1 : inQ s (vlQ1 s q) := tkQ_in hq (by omega)
  have i2 := numQ_in i1
  refine z_eff (e0 := ?e0x1) mix e150 rfl ?z01 rfl rfl ?_
  (case z01 => exact rfl)
  dsimp only [c150]
  repeat' (first | ((with_reducible apply z_calle); (case' hd => apply (rtakeB z (BV false) (SV nilS) (VN .i64 0) (VN .i64 0) s q 1 hs hq (by omega))); (case ha => exact rfl); (try any_goals exact sd)) | ((with_reducible apply z_calle); (case' hd => apply (rnumberB z (BV true) (SV nilS) (VN .i64 0) (VN .i64 0) s (vlQ1 s q) hs i1)); (case ha => exact rfl); (try any_goals exact sd)) | ((with_reducible apply z_calle); (case' hd => apply (rfourB z (BV true) (SV nilS) (VN .i64 (numV s (vlQ1 s q))) (VN .i64 0) s (numQ s (vlQ1 s q)) hs i2.1)); (case ha => exact rfl); (try any_goals exact sd)) | ((with_reducible apply z_calle); (case' hd => apply (rnumberB z (BV false) (SV nilS) (VN .i64 0) (VN .i64 0) s (vlQ1 s q) hs i1)); (case ha => exact rfl); (try any_goals exact sd)) | ((with_reducible apply z_calle); (case' hd => apply (rtakeB z (BV false) (SV nilS) (VN .i64 0) (VN .i64 0) s (numQ s (vlQ1 s q)) (numV s (vlQ1 s q)) hs i2.1 (by omega))); (case ha => exact rfl); (try any_goals exact sd)) | refine zs ?_ | refine Br.mk ?_ ?_ | intro _ | refine zf ?_ | fail)
  · have e : vlV s q = ⟨true, nilS, numV s (vlQ1 s q), frV s (numQ s (vlQ1 s q))⟩ := if_pos ‹vlB s q = ⟨#[1]⟩›
    have e2 : vlQ s q = frQ s (numQ s (vlQ1 s q)) := if_pos ‹vlB s q = ⟨#[1]⟩›
    refine .same (by kernel_rfl) ?_ rfl
    exact Eq.trans (b := [z, gcell s (frQ s (numQ s (vlQ1 s q))) ⟨true, nilS, numV s (vlQ1 s q), frV s (numQ s (vlQ1 s q))⟩]) (by kernel_rfl) (by rw [e, e2])
  · have e : vlV s q = ⟨false, tkS s (numQ s (vlQ1 s q)) (numV s (vlQ1 s q)), 0, 0⟩ := by unfold vlV; rw [if_neg ‹_›, if_pos ‹_›]
    have e2 : vlQ s q = tkQ s (numQ s (vlQ1 s q)) (numV s (vlQ1 s q)) := by unfold vlQ; rw [if_neg ‹_›, if_pos ‹_›]
    refine .same (by kernel_rfl) ?_ rfl
    exact Eq.trans (b := [z, gcell s (tkQ s (numQ s (vlQ1 s q)) (numV s (vlQ1 s q))) ⟨false, tkS s (numQ s (vlQ1 s q)) (numV s (vlQ1 s q)), 0, 0⟩]) (by kernel_rfl) (by rw [e, e2])
  · have e : vlV s q = ⟨false, nilS, 0, 0⟩ := by unfold vlV; rw [if_neg ‹_›, if_neg ‹_›]
    have e2 : vlQ s q = vlQ1 s q := by unfold vlQ; rw [if_neg ‹_›, if_neg ‹_›]
    refine .same (by kernel_rfl) ?_ rfl
    exact Eq.trans (b := [z, gcell s (vlQ1 s q) ⟨false, nilS, 0, 0⟩]) (by kernel_rfl) (by rw [e, e2])
end Go.Proofs.YtlbodfkhenkcjaaGreatDoor.X


namespace Go.Proofs.YtlbodfkhenkcjaaGreatDoor.X
open Go Go.Proofs Go.RowKit Go.Proofs.YtlbodfkhenkcjaaGreatDoor.D
set_option maxRecDepth 100000
set_option maxHeartbeats 1000000
set_option linter.unusedVariables false
set_option linter.unusedSimpArgs false
variable {I : D.Inv}
attribute [local irreducible] D.DPure D.DEff D.callable D.dops D.dwp D.dxops D.optNat D.seqQ D.blkQ D.lopQ D.xK

def c205 : DFun := ⟨27, [.t 4], .seq (.reg [⟨some 4, .mv (.c (.int .i64 0)), none⟩]) (.seq (.reg [⟨some 5, .mv (.c (.int .i64 0)), none⟩]) (.seq (.block 0 (.loop (.seq (.seq (.reg [⟨some 6, .mv (.t 5), none⟩, ⟨some 7, .mv (.t 0), none⟩, ⟨some 8, .len false (.t 7), none⟩, ⟨some 9, .mv (.t 1), none⟩, ⟨some 10, .len false (.t 9), none⟩, ⟨some 11, .mm false (.t 8) [.t 10], none⟩, ⟨some 12, .bin .lss (.t 6) (.t 11), none⟩, ⟨some 13, .mv (.t 12), none⟩, ⟨some 14, .mv (.t 0), some (13, true)⟩, ⟨some 15, .mv (.t 5), some (13, true)⟩, ⟨some 16, .ixa 1 (.t 14) (.t 15), some (13, true)⟩, ⟨some 17, .ld 1 false (.t 16), some (13, true)⟩, ⟨some 18, .mv (.t 1), some (13, true)⟩, ⟨some 19, .mv (.t 5), some (13, true)⟩, ⟨some 20, .ixa 1 (.t 18) (.t 19), some (13, true)⟩, ⟨some 21, .ld 1 false (.t 20), some (13, true)⟩, ⟨some 22, .bin .eql (.t 17) (.t 21), some (13, true)⟩, ⟨some 23, .pick (.t 13) (.t 22) (.c (.bool false)), none⟩]) (.cond (.t 23) .skip (.exit 0))) (.block 1 (.reg [⟨some 24, .mv (.t 5), none⟩, ⟨some 25, .bin .add (.t 24) (.c (.int .i64 1)), none⟩, ⟨some 5, .mv (.t 25), none⟩]))))) (.seq (.reg [⟨some 26, .mv (.t 5), none⟩, ⟨some 4, .mv (.t 26), none⟩]) .ret)))⟩
theorem e205 : cfun Tryz.prog 205 = some c205 := by kernel_rfl
def c195 : DFun := ⟨10, [.t 4], .seq (.reg [⟨some 4, .mv (.c (.int .i64 0)), none⟩]) (.seq (.reg [⟨some 5, .mv (.t 0), none⟩, ⟨some 6, .s2b (.t 5), none⟩, ⟨some 7, .mv (.t 1), none⟩, ⟨some 8, .s2b (.t 7), none⟩, ⟨some 9, .call 205 [.t 6, .t 8], none⟩, ⟨some 4, .mv (.t 9), none⟩]) .ret)⟩
theorem e195 : cfun Tryz.prog 195 = some c195 := by kernel_rfl
def c196 : DFun := ⟨18, [.t 4], .seq (.reg [⟨some 4, .mv (.c (.int .i64 0)), none⟩]) (.seq (.seq (.reg [⟨some 7, .mv (.t 1), none⟩, ⟨some 8, .len false (.t 7), none⟩, ⟨some 9, .mv (.c (.int .i64 0)), none⟩]) (.block 0 (.loop (.seq (.reg [⟨some 10, .bin .lss (.t 9) (.t 8), none⟩]) (.seq (.cond (.t 10) .skip (.exit 0)) (.seq (.block 1 (.seq (.reg [⟨some 11, .ixa 1 (.t 7) (.t 9), none⟩, ⟨some 12, .ld 1 false (.t 11), none⟩, ⟨some 6, .mv (.t 12), none⟩]) (.reg [⟨some 13, .mv (.t 0), none⟩, ⟨some 14, .mv (.t 6), none⟩, ⟨some 15, .mm false (.t 13) [.t 14], none⟩, ⟨some 0, .mv (.t 15), none⟩]))) (.reg [⟨some 16, .bin .add (.t 9) (.c (.int .i64 1)), none⟩, ⟨some 9, .mv (.t 16), none⟩]))))))) (.seq (.reg [⟨some 17, .mv (.t 0), none⟩, ⟨some 4, .mv (.t 17), none⟩]) .ret))⟩
theorem e196 : cfun Tryz.prog 196 = some c196 := by kernel_rfl
def common : List UInt8 → List UInt8 → Nat
  | a :: x, b :: y => if a = b then common x y + 1 else 0
  | _, _ => 0
theorem common_le : ∀ (x y : List UInt8), common x y ≤ x.length ∧ common x y ≤ y.length
  | [], _ => by simp [common]
  | _ :: _, [] => by simp [common]
  | a :: x, b :: y => by
    have := common_le x y
    simp only [common, List.length_cons]
    split <;> omega
theorem common_at : ∀ {x y : List UInt8} {n : Nat} (hx : n < x.length) (hy : n < y.length), n ≤ common x y → (x[n] = y[n] → n < common x y) ∧ (x[n] ≠ y[n] → common x y = n)
  | [], _, _, hx, _, _ => by simp at hx
  | _ :: _, [], _, _, hy, _ => by simp at hy
  | a :: x, b :: y, 0, _, _, h => by
    simp only [common, List.getElem_cons_zero]
    constructor
    · intro e; rw [if_pos e]; omega
    · intro e; rw [if_neg e]
  | a :: x, b :: y, n + 1, hx, hy, h => by
    simp only [common] at h ⊢
    split at h
    · rename_i e
      rw [if_pos e]
      have := common_at (x := x) (y := y) (n := n) (by simpa using hx) (by simpa using hy) (by omega)
      simp only [List.getElem_cons_succ]
      constructor
      · intro e2; have := this.1 e2; omega
      · intro e2; have := this.2 e2; omega
    · omega
theorem common_end {x y : List UInt8} {n : Nat} (h : n ≤ common x y) (he : ¬ (n < x.length ∧ n < y.length)) : common x y = n := by
  have := common_le x y
  omega
theorem bytesD_get {l : List UInt8} {i : Nat} (h : i < l.length) : (bytesD l)[(i : Int).toNat]? = some (VN .u8 (l[i]'h).toNat) := by simp [bytesD, h]
theorem bytesD_len (l : List UInt8) : (bytesD l).length = l.length := by simp [bytesD]
theorem u8_eq {a b : UInt8} (h : ((a.toNat : Nat) : Int) = (b.toNat : Nat)) : a = b := UInt8.toNat_inj.1 (by omega)
theorem shared_D (x y : List UInt8) (hx : x.length ≤ 1000000) (hy : y.length ≤ 1000000) : DPure Tp I 205 [.list 1 (bytesD x), .list 1 (bytesD y)] (VN .i64 (common x y)) := by
  have lx := bytesD_len x
  have ly := bytesD_len y
  refine z_pure (e0 := ?e0x1) mix e205 rfl ?z01 ?_
  (case z01 => exact rfl)
  dsimp only [c205]
  repeat' (first | refine zs ?_ | refine Br.mk ?_ ?_ | intro _ | refine zf ?_ | fail)
  refine z_loop (fun i : Nat => ⟨[(0, .list 1 (bytesD x)), (1, .list 1 (bytesD y)), (5, VN .i64 i)], [], []⟩) (fun i : Nat => i ≤ common x y) (fun i : Nat => common x y - i) (0) ?_ ?_ fun i hi => ?_
  · exact (less_of 0 0 0 rfl rfl (lessE_cons (ltd_eq rfl (by kernel_rfl)) (lessE_cons (ltd_eq rfl (by kernel_rfl)) (lessE_cons (ltd_eq rfl (by kernel_rfl)) lessE_nil))) (by kernel_rfl) (by kernel_rfl) (by kernel_rfl) (by kernel_rfl))
  · omega
  have hc := common_le x y
  by_cases hb : i < x.length ∧ i < y.length
  · have hat := common_at hb.1 hb.2 hi
    repeat' (first | refine ⟨_, bytesD_get hb.1, ?_⟩ | refine ⟨_, bytesD_get hb.2, ?_⟩ | refine z1 ?_ | refine Br.mk ?_ ?_ | intro _ | refine zf ?_ | fail)
    · have := hat.1 (u8_eq ‹_›)
      exact ⟨i + 1, (less_of 0 0 0 rfl rfl (lessE_cons (ltd_eq rfl (by kernel_rfl)) (lessE_cons (ltd_eq rfl (by kernel_rfl)) (lessE_cons (ltd_eq rfl (by kernel_rfl)) lessE_nil))) (by kernel_rfl) (by kernel_rfl) (by kernel_rfl) (by kernel_rfl)), by omega, by omega⟩
    · have := hat.2 (fun e => ‹¬ _› (by rw [e]))
      exact int_of (b := i) (by kernel_rfl) (by rw [this])
  · have := common_end hi hb
    repeat' (first | refine zs ?_ | refine Br.mk ?_ ?_ | intro _ | refine zf ?_ | fail)
    exact int_of (b := i) (by kernel_rfl) (by rw [this])
def commonS (a b : ByteArray) : Nat := common a.data.toList b.data.toList
theorem common_D (a b : ByteArray) (ha : a.size ≤ 1000000) (hb : b.size ≤ 1000000) : DPure Tp I 195 [SV a, SV b] (VN .i64 (commonS a b)) := by
  have h1 : a.data.toList.length ≤ 1000000 := by simpa using ha
  have h2 : b.data.toList.length ≤ 1000000 := by simpa using hb
  refine z_pure (e0 := ?e0x2) mix e195 rfl ?z02 ?_
  (case z02 => exact rfl)
  dsimp only [c195]
  repeat' (first | ((with_reducible apply z_call); (case' hd => apply (shared_D a.data.toList b.data.toList h1 h2)); (case hw => exact wknL_ok rfl); (try any_goals exact sd)) | refine zs ?_ | refine Br.mk ?_ ?_ | intro _ | refine zf ?_ | fail)
  exact int_of (b := commonS a b) (by kernel_rfl) rfl
def leastL (a : Int) (l : List Int) : Int := l.foldl min a
theorem least_snoc (a : Int) {l : List Int} {i : Nat} (h : i < l.length) : leastL a (l.take (i + 1)) = min (leastL a (l.take i)) l[i] := by
  rw [List.take_succ_eq_append_getElem h, leastL, List.foldl_append]; rfl
theorem ints_len (l : List Int) : (l.map fun n => VN .i64 n).length = l.length := by simp
theorem least_D (a : Int) (l : List Int) (hl : l.length ≤ 1000000) : DPure Tp I 196 [VN .i64 a, ints l] (VN .i64 (leastL a l)) := by
  have ll := ints_len l
  refine z_pure (e0 := ?e0x3) mix e196 rfl ?z03 ?_
  (case z03 => exact rfl)
  dsimp only [c196]
  repeat' (first | refine zs ?_ | refine Br.mk ?_ ?_ | intro _ | refine zf ?_ | fail)
  refine z_loop (fun i : Nat => ⟨[(0, VN .i64 (leastL a (l.take i))), (7, ints l), (8, VN .i64 (l.map fun n => VN .i64 n).length), (9, VN .i64 i)], [], []⟩) (fun i : Nat => i ≤ l.length) (fun i : Nat => l.length - i) (0) ?_ ?_ fun i hi => ?_
  · exact (less_of 0 0 0 rfl rfl (lessE_cons (ltd_eq rfl (by kernel_rfl)) (lessE_cons (ltd_eq rfl (by kernel_rfl)) (lessE_cons (ltd_eq rfl (by kernel_rfl)) (lessE_cons (ltd_eq rfl (by kernel_rfl)) lessE_nil)))) (by kernel_rfl) (by kernel_rfl) (by kernel_rfl) (by kernel_rfl))
  · omega
  by_cases hil : i < l.length
  · repeat' (first | refine ⟨_, ints_get hil, ?_⟩ | refine z1 ?_ | refine Br.mk ?_ ?_ | intro _ | refine zf ?_ | fail)
    refine ⟨i + 1, (less_of 0 0 0 rfl rfl (lessE_cons (ltd_eq rfl ?_) (lessE_cons (ltd_eq rfl (by kernel_rfl)) (lessE_cons (ltd_eq rfl (by kernel_rfl)) (lessE_cons (ltd_eq rfl (by kernel_rfl)) lessE_nil)))) (by kernel_rfl) (by kernel_rfl) (by kernel_rfl) (by kernel_rfl)), hil, by omega⟩
    rw [least_snoc a hil]; kernel_rfl
  · repeat' (first | refine zs ?_ | refine Br.mk ?_ ?_ | intro _ | refine zf ?_ | fail)
    exact int_of (b := leastL a (l.take i)) (by kernel_rfl) (by rw [List.take_of_length_le (by omega)])
end Go.Proofs.YtlbodfkhenkcjaaGreatDoor.X


namespace Go.Proofs.YtlbodfkhenkcjaaGreatDoor.X
open Go Go.Proofs Go.RowKit Go.Proofs.YtlbodfkhenkcjaaGreatDoor.D
set_option maxRecDepth 100000
set_option maxHeartbeats 1000000
set_option linter.unusedVariables false
set_option linter.unusedSimpArgs false
variable {I : D.Inv}
attribute [local irreducible] D.DPure D.DEff D.callable putS fourB catB zeroB

def c124 : DFun := ⟨16, [.t 4], .seq (.reg [⟨some 4, .mv (.c (.int .i64 0)), none⟩]) (.seq (.reg [⟨some 5, .mv (.t 0), none⟩, ⟨some 6, .len true (.t 5), none⟩, ⟨some 7, .mv (.t 1), none⟩, ⟨some 8, .call 174 [.t 7, .c (.string ⟨#[]⟩)], none⟩, ⟨some 9, .len true (.t 8), none⟩, ⟨some 10, .bin .add (.t 6) (.t 9), none⟩, ⟨some 11, .mv (.t 1), none⟩, ⟨some 12, .len false (.t 11), none⟩, ⟨some 13, .bin .add (.t 12) (.c (.int .i64 1)), none⟩, ⟨some 14, .bin .mul (.c (.int .i64 2)) (.t 13), none⟩, ⟨some 15, .bin .add (.t 10) (.t 14), none⟩, ⟨some 4, .mv (.t 15), none⟩]) .ret)⟩
theorem e124 : cfun Tryz.prog 124 = some c124 := by kernel_rfl
def c125 : DFun := ⟨10, [.t 2], .seq (.reg [⟨some 2, .mv (.c (.string ⟨#[]⟩)), none⟩]) (.seq (.reg [⟨some 3, .mv (.t 0), none⟩, ⟨some 4, .cvt .u8 (.t 3), none⟩, ⟨some 5, .mv (.t 0), none⟩, ⟨some 6, .bin .shr (.t 5) (.c (.int .u64 8)), none⟩, ⟨some 7, .cvt .u8 (.t 6), none⟩, ⟨some 8, .bsl 1 [.t 4, .t 7], none⟩, ⟨some 9, .b2s (.t 8), none⟩, ⟨some 2, .mv (.t 9), none⟩]) .ret)⟩
theorem e125 : cfun Tryz.prog 125 = some c125 := by kernel_rfl
def c70 : DFun := ⟨56, [.t 6, .t 7], .seq (.reg [⟨some 6, .mv (.c (.string ⟨#[]⟩)), none⟩, ⟨some 7, .mv (.c (.int .i64 0)), none⟩]) (.seq (.seq (.reg [⟨some 12, .mv (.t 0), none⟩, ⟨some 13, .bin .lss (.t 12) (.c (.int .i64 0)), none⟩, ⟨some 14, .mv (.t 13), none⟩, ⟨some 15, .mv (.t 0), some (14, false)⟩, ⟨some 16, .bin .gtr (.t 15) (.c (.int .i64 65535)), some (14, false)⟩, ⟨some 17, .pick (.t 14) (.c (.bool true)) (.t 16), none⟩]) (.cond (.t 17) (.seq (.reg [⟨some 6, .mv (.c (.string ⟨#[]⟩)), none⟩, ⟨some 7, .mv (.c (.int .i64 4)), none⟩]) .ret) .skip)) (.seq (.seq (.reg [⟨some 18, .mv (.t 1), none⟩, ⟨some 19, .mv (.t 2), none⟩, ⟨some 20, .call 124 [.t 18, .t 19], none⟩, ⟨some 21, .mv (.t 0), none⟩, ⟨some 22, .bin .gtr (.t 20) (.t 21), none⟩]) (.cond (.t 22) (.seq (.reg [⟨some 6, .mv (.c (.string ⟨#[]⟩)), none⟩, ⟨some 7, .mv (.c (.int .i64 8)), none⟩]) .ret) .skip)) (.seq (.reg [⟨some 23, .mv (.t 1), none⟩, ⟨some 8, .mv (.t 23), none⟩, ⟨some 9, .mv (.c (.string ⟨#[]⟩)), none⟩]) (.seq (.seq (.reg [⟨some 24, .mv (.t 2), none⟩, ⟨some 25, .len false (.t 24), none⟩, ⟨some 26, .mv (.c (.int .i64 0)), none⟩]) (.block 0 (.loop (.seq (.reg [⟨some 27, .bin .lss (.t 26) (.t 25), none⟩]) (.seq (.cond (.t 27) .skip (.exit 0)) (.seq (.block 1 (.seq (.reg [⟨some 28, .ixa 1 (.t 24) (.t 26), none⟩, ⟨some 29, .ld 1 false (.t 28), none⟩, ⟨some 11, .mv (.t 29), none⟩]) (.seq (.reg [⟨some 30, .mv (.t 8), none⟩, ⟨some 31, .len true (.t 30), none⟩, ⟨some 32, .call 125 [.t 31], none⟩, ⟨some 33, .mv (.t 9), none⟩, ⟨some 34, .bin .add (.t 32) (.t 33), none⟩, ⟨some 9, .mv (.t 34), none⟩]) (.reg [⟨some 35, .mv (.t 8), none⟩, ⟨some 36, .mv (.t 11), none⟩, ⟨some 37, .bin .add (.t 35) (.t 36), none⟩, ⟨some 8, .mv (.t 37), none⟩])))) (.reg [⟨some 38, .bin .add (.t 26) (.c (.int .i64 1)), none⟩, ⟨some 26, .mv (.t 38), none⟩]))))))) (.seq (.reg [⟨some 39, .mv (.t 8), none⟩, ⟨some 40, .len true (.t 39), none⟩, ⟨some 41, .call 125 [.t 40], none⟩, ⟨some 42, .mv (.t 9), none⟩, ⟨some 43, .bin .add (.t 41) (.t 42), none⟩, ⟨some 9, .mv (.t 43), none⟩]) (.seq (.reg [⟨some 44, .mv (.t 8), none⟩, ⟨some 45, .mv (.t 0), none⟩, ⟨some 46, .mv (.t 8), none⟩, ⟨some 47, .len true (.t 46), none⟩, ⟨some 48, .bin .sub (.t 45) (.t 47), none⟩, ⟨some 49, .mv (.t 9), none⟩, ⟨some 50, .len true (.t 49), none⟩, ⟨some 51, .bin .sub (.t 48) (.t 50), none⟩, ⟨some 52, .call 65 [.c (.string ⟨#[0]⟩), .t 51], none⟩, ⟨some 53, .bin .add (.t 44) (.t 52), none⟩, ⟨some 54, .mv (.t 9), none⟩, ⟨some 55, .bin .add (.t 53) (.t 54), none⟩, ⟨some 6, .mv (.t 55), none⟩, ⟨some 7, .mv (.c (.int .i64 0)), none⟩]) .ret))))))⟩
theorem e70 : cfun Tryz.prog 70 = some c70 := by kernel_rfl
def sizeN (fx : ByteArray) (l : List ByteArray) : Int := fx.size + (catB l).size + 2 * (l.length + 1)
theorem ssize_D (fx : ByteArray) (l : List ByteArray) (h : l.length ≤ 1000000) (hs : (catB l).size ≤ 1000000) (hf : fx.size ≤ 1000000) : DPure Tp I 124 [SV fx, .list 1 (strsL l)] (VN .i64 (sizeN fx l)) := by
  have hl : (strsL l).length = l.length := by simp [strsL]
  refine z_pure (e0 := ?e0x1) mix e124 rfl ?z01 ?_
  (case z01 => exact rfl)
  dsimp only [c124]
  repeat' (first | ((with_reducible apply z_call); (case' hd => apply (join_D l h hs)); (case hw => exact wknL_ok rfl); (try any_goals exact sd)) | refine zs ?_ | refine Br.mk ?_ ?_ | intro _ | refine zf ?_ | fail)
  refine int_of (b := (fx.size : Int) + (catB l).size + 2 * ((strsL l).length + 1)) (by kernel_rfl) ?_
  rw [hl]; rfl
def placeS (n : Int) : ByteArray := strOfNums [n % 256, n / 2 ^ 8 % 256]
theorem placeS_size (n : Int) : (placeS n).size = 2 := rfl
theorem place_D (n : Int) : DPure Tp I 125 [VN .i64 n] (SV (placeS n)) := by
  refine z_pure (e0 := ?e0x2) mix e125 rfl ?z02 ?_
  (case z02 => exact rfl)
  dsimp only [c125]
  repeat' (first | with_reducible refine c_u8_mod ?_ | with_reducible refine s_shr 8 rfl (by decide) ?_ | refine z1 ?_ | refine Br.mk ?_ ?_ | intro _ | refine zf ?_ | fail)
  exact str_of (s := placeS n) (by kernel_rfl) rfl
theorem strs_get {l : List ByteArray} {i : Nat} (h : i < l.length) : (strsL l)[(i : Int).toNat]? = some (SV (l[i]'h)) := by simp [strsL, h]
theorem strs_len (l : List ByteArray) : (strsL l).length = l.length := by simp [strsL]
def pkF (q : ByteArray × ByteArray) (c : ByteArray) : ByteArray × ByteArray := (q.1 ++ c, placeS q.1.size ++ q.2)
def pkT (fx : ByteArray) (l : List ByteArray) : ByteArray × ByteArray := l.foldl pkF (fx, nilS)
theorem pkT_snoc (fx : ByteArray) {l : List ByteArray} {i : Nat} (h : i < l.length) : pkT fx (l.take (i + 1)) = pkF (pkT fx (l.take i)) l[i] := by
  rw [List.take_succ_eq_append_getElem h, pkT, List.foldl_append]; rfl
theorem cat_cons (c : ByteArray) (l : List ByteArray) : (catB (c :: l)).size = c.size + (catB l).size := by
  unfold catB
  show (Lib.join _ _).length = _ + (Lib.join _ _).length
  cases l with
  | nil => simp [Lib.join]
  | cons d l => simp [Lib.join]
theorem pkF_size : ∀ (l : List ByteArray) (q : ByteArray × ByteArray), (l.foldl pkF q).1.size = q.1.size + (catB l).size ∧ (l.foldl pkF q).2.size = q.2.size + 2 * l.length
  | [], q => by simp [catB, Lib.join]; rfl
  | c :: l, q => by
    have := pkF_size l (pkF q c)
    rw [List.foldl_cons, cat_cons, this.1, this.2]
    simp only [pkF, ByteArray.size_append, placeS_size, List.length_cons]
    omega
theorem pkT_size (fx : ByteArray) (l : List ByteArray) : (pkT fx l).1.size = fx.size + (catB l).size ∧ (pkT fx l).2.size = 2 * l.length := by
  have := pkF_size l (fx, nilS)
  have h0 : nilS.size = 0 := rfl
  rw [h0] at this
  exact ⟨this.1, by rw [show (pkT fx l).2.size = _ from this.2]; omega⟩
theorem cat_take (l : List ByteArray) (i : Nat) : (catB (l.take i)).size ≤ (catB l).size := by
  induction l generalizing i with
  | nil => simp
  | cons c l ih =>
    cases i with
    | zero =>
      rw [List.take_zero]
      have : (catB []).size = 0 := by simp [catB, Lib.join]; rfl
      omega
    | succ i => rw [List.take_succ_cons, cat_cons, cat_cons]; have := ih i; omega
def packB (room : Int) (fx : ByteArray) (l : List ByteArray) : ByteArray :=
  (pkT fx l).1 ++ zeroB (room - (pkT fx l).1.size - ((placeS (pkT fx l).1.size ++ (pkT fx l).2).size : Nat)).toNat ++ (placeS (pkT fx l).1.size ++ (pkT fx l).2)
def packE (room : Int) (fx : ByteArray) (l : List ByteArray) : Int := if room < 0 ∨ 65535 < room then 4 else if room < sizeN fx l then 8 else 0
def packS (room : Int) (fx : ByteArray) (l : List ByteArray) : ByteArray := if packE room fx l = 0 then packB room fx l else nilS
theorem packS_no {room : Int} {fx : ByteArray} {l : List ByteArray} {e : Int} (h : packE room fx l = e) (he : e ≠ 0) : packS room fx l = nilS := if_neg (by rw [h]; exact he)
theorem pack_D (room : Int) (fx : ByteArray) (l : List ByteArray) (h : l.length ≤ 1000000) (hs : (catB l).size ≤ 1000000) (hf : fx.size ≤ 1000000) (hr : -1000000 ≤ room ∧ room ≤ 1000000) :
    DPure Tp I 70 [VN .i64 room, SV fx, .list 1 (strsL l)] (.v (.tuple #[.string (packS room fx l), .int .i64 (packE room fx l)])) := by
  have hl := strs_len l
  refine z_pure (e0 := ?e0x3) mix e70 rfl ?z03 ?_
  (case z03 => exact rfl)
  dsimp only [c70]
  repeat' (first | ((with_reducible apply z_call); (case' hd => apply (ssize_D fx l h hs hf)); (case hw => exact wknL_ok rfl); (try any_goals exact sd)) | refine zs ?_ | refine Br.mk ?_ ?_ | intro _ | refine zf ?_ | fail)
  · have e : packE room fx l = 4 := if_pos (by omega)
    exact tup2_of (a := .string nilS) (b := .int .i64 4) (by kernel_rfl) (by rw [packS_no e (by decide)]) (by rw [e])
  · have e : packE room fx l = 4 := if_pos (by omega)
    exact tup2_of (a := .string nilS) (b := .int .i64 4) (by kernel_rfl) (by rw [packS_no e (by decide)]) (by rw [e])
  · have e : packE room fx l = 8 := by rw [packE, if_neg (by omega), if_pos (by omega)]
    exact tup2_of (a := .string nilS) (b := .int .i64 8) (by kernel_rfl) (by rw [packS_no e (by decide)]) (by rw [e])
  have he : packE room fx l = 0 := by rw [packE, if_neg (by omega), if_neg (by omega)]
  have hsz : sizeN fx l = fx.size + (catB l).size + 2 * (l.length + 1) := rfl
  refine z_loop (fun i : Nat => ⟨[(0, VN .i64 room), (8, SV (pkT fx (l.take i)).1), (9, SV (pkT fx (l.take i)).2), (24, .list 1 (strsL l)), (25, VN .i64 (strsL l).length), (26, VN .i64 i)], [], []⟩) (fun i : Nat => i ≤ l.length) (fun i : Nat => l.length - i) (0) ?_ ?_ fun i hi => ?_
  · exact (less_of 0 0 0 rfl rfl (lessE_cons (ltd_eq rfl (by kernel_rfl)) (lessE_cons (ltd_eq rfl (by kernel_rfl)) (lessE_cons (ltd_eq rfl (by kernel_rfl)) (lessE_cons (ltd_eq rfl (by kernel_rfl)) (lessE_cons (ltd_eq rfl (by kernel_rfl)) (lessE_cons (ltd_eq rfl (by kernel_rfl)) lessE_nil)))))) (by kernel_rfl) (by kernel_rfl) (by kernel_rfl) (by kernel_rfl))
  · omega
  have hz := pkT_size fx (l.take i)
  have hct := cat_take l i
  have hlt : (l.take i).length ≤ l.length := by rw [List.length_take]; omega
  by_cases hil : i < l.length
  · have hzz := pkT_size fx (l.take (i + 1))
    have hct2 := cat_take l (i + 1)
    have hsn := pkT_snoc fx hil
    have hci : (pkT fx (l.take i)).1.size + (l[i]'hil).size ≤ 2000000 := by
      rw [hsn] at hzz
      have := hzz.1
      simp only [pkF, ByteArray.size_append] at this
      omega
    repeat' (first | refine ⟨_, strs_get hil, ?_⟩ | ((with_reducible apply z_call); (case' hd => apply place_D); (case hw => exact wknL_ok rfl); (try any_goals exact sd)) | with_reducible refine s_cat (by rw [placeS_size]; omega) ?_ | refine z1 ?_ | refine Br.mk ?_ ?_ | intro _ | refine zf ?_ | fail)
    refine ⟨i + 1, (less_of 0 0 0 rfl rfl (lessE_cons (ltd_eq rfl (by kernel_rfl)) (lessE_cons (ltd_eq rfl ?_) (lessE_cons (ltd_eq rfl ?_) (lessE_cons (ltd_eq rfl (by kernel_rfl)) (lessE_cons (ltd_eq rfl (by kernel_rfl)) (lessE_cons (ltd_eq rfl (by kernel_rfl)) lessE_nil)))))) (by kernel_rfl) (by kernel_rfl) (by kernel_rfl) (by kernel_rfl)), hil, by omega⟩
    · rw [hsn]; kernel_rfl
    · rw [hsn]; kernel_rfl
  · have hi' : i = l.length := by omega
    have htk : l.take i = l := List.take_of_length_le (by omega)
    have hp := placeS_size (pkT fx (l.take i)).1.size
    have hzb : (zeroB (room - (pkT fx (l.take i)).1.size - ((placeS (pkT fx (l.take i)).1.size ++ (pkT fx (l.take i)).2).size : Nat)).toNat).size ≤ 1000000 := by rw [zeroB_size]; omega
    rw [htk] at hz hlt hct hp hzb ⊢
    have hpp : (placeS ((pkT fx l).1.size : Int) ++ (pkT fx l).2).size = 2 * l.length + 2 := by rw [ByteArray.size_append, placeS_size, hz.2]; omega
    rw [zeroB_size] at hzb
    repeat' (first | ((with_reducible apply z_call); (case' hd => apply place_D); (case hw => exact wknL_ok rfl); (try any_goals exact sd)) | ((with_reducible apply z_call); (case' hd => apply repeat_D); (case hw => exact wknL_ok rfl); (try any_goals exact sd)) | with_reducible refine s_cat (by simp only [placeS_size, ByteArray.size_append, zeroB_size]; omega) ?_ | refine z1 ?_ | refine Br.mk ?_ ?_ | intro _ | refine zf ?_ | fail)
    exact tup2_of (a := .string (packB room fx l)) (b := .int .i64 0) (by kernel_rfl) (by rw [packS, if_pos he]) (by rw [he])
end Go.Proofs.YtlbodfkhenkcjaaGreatDoor.X


namespace Go.Proofs.YtlbodfkhenkcjaaGreatDoor.X
open Go Go.Proofs Go.RowKit Go.Proofs.YtlbodfkhenkcjaaGreatDoor.D
set_option maxRecDepth 100000
set_option maxHeartbeats 1000000
set_option linter.unusedVariables false
set_option linter.unusedSimpArgs false
variable {I : D.Inv}
attribute [local irreducible] D.DPure D.DEff D.callable D.dops D.dwp D.dxops D.optNat D.seqQ D.blkQ D.lopQ D.xK

def c170 : DFun := ⟨31, [.t 2], .seq (.reg [⟨some 2, .mv (.c (.int .i64 0)), none⟩]) (.seq (.seq (.reg [⟨some 6, .mv (.t 0), none⟩, ⟨some 7, .len false (.t 6), none⟩, ⟨some 8, .bin .eql (.t 7) (.c (.int .i64 0)), none⟩]) (.cond (.t 8) (.seq (.reg [⟨some 2, .mv (.c (.int .i64 0)), none⟩]) .ret) .skip)) (.seq (.reg [⟨some 3, .mv (.c (.slice none 0 0)), none⟩]) (.seq (.seq (.reg [⟨some 9, .mv (.t 0), none⟩, ⟨some 10, .slL 1 (.t 9) (some (.c (.int .i64 1))) none none, none⟩, ⟨some 11, .len false (.t 10), none⟩, ⟨some 12, .mv (.c (.int .i64 0)), none⟩]) (.block 0 (.loop (.seq (.reg [⟨some 13, .bin .lss (.t 12) (.t 11), none⟩]) (.seq (.cond (.t 13) .skip (.exit 0)) (.seq (.block 1 (.seq (.reg [⟨some 14, .ixa 1 (.t 10) (.t 12), none⟩, ⟨some 15, .ld 1 false (.t 14), none⟩, ⟨some 5, .mv (.t 15), none⟩]) (.reg [⟨some 16, .mv (.t 3), none⟩, ⟨some 17, .mv (.t 0), none⟩, ⟨some 18, .ixa 1 (.t 17) (.c (.int .i64 0)), none⟩, ⟨some 19, .ld 1 false (.t 18), none⟩, ⟨some 20, .mv (.t 5), none⟩, ⟨some 21, .call 195 [.t 19, .t 20], none⟩, ⟨some 22, .bsl 1 [.t 21], none⟩, ⟨some 23, .app 3 1 8 (.t 16) (.t 22), none⟩, ⟨some 3, .mv (.t 23), none⟩]))) (.reg [⟨some 24, .bin .add (.t 12) (.c (.int .i64 1)), none⟩, ⟨some 12, .mv (.t 24), none⟩]))))))) (.seq (.reg [⟨some 25, .mv (.t 0), none⟩, ⟨some 26, .ixa 1 (.t 25) (.c (.int .i64 0)), none⟩, ⟨some 27, .ld 1 false (.t 26), none⟩, ⟨some 28, .len true (.t 27), none⟩, ⟨some 29, .mv (.t 3), none⟩, ⟨some 30, .call 196 [.t 28, .t 29], none⟩, ⟨some 2, .mv (.t 30), none⟩]) .ret))))⟩
theorem e170 : cfun Tryz.prog 170 = some c170 := by kernel_rfl
def c120 : DFun := ⟨33, [.t 2, .t 3], .seq (.reg [⟨some 2, .mv (.c (.string ⟨#[]⟩)), none⟩, ⟨some 3, .mv (.c (.slice none 0 0)), none⟩]) (.seq (.reg [⟨some 8, .mv (.t 0), none⟩, ⟨some 9, .call 170 [.t 8], none⟩, ⟨some 4, .mv (.t 9), none⟩]) (.seq (.reg [⟨some 5, .mv (.c (.slice none 0 0)), none⟩]) (.seq (.seq (.reg [⟨some 10, .mv (.t 0), none⟩, ⟨some 11, .len false (.t 10), none⟩, ⟨some 12, .mv (.c (.int .i64 0)), none⟩]) (.block 0 (.loop (.seq (.reg [⟨some 13, .bin .lss (.t 12) (.t 11), none⟩]) (.seq (.cond (.t 13) .skip (.exit 0)) (.seq (.block 1 (.seq (.reg [⟨some 14, .ixa 1 (.t 10) (.t 12), none⟩, ⟨some 15, .ld 1 false (.t 14), none⟩, ⟨some 7, .mv (.t 15), none⟩]) (.reg [⟨some 16, .mv (.t 5), none⟩, ⟨some 17, .mv (.t 7), none⟩, ⟨some 18, .mv (.t 4), none⟩, ⟨some 19, .slS (.t 17) (some (.t 18)) none, none⟩, ⟨some 20, .bsl 1 [.t 19], none⟩, ⟨some 21, .app 9 1 16 (.t 16) (.t 20), none⟩, ⟨some 5, .mv (.t 21), none⟩]))) (.reg [⟨some 22, .bin .add (.t 12) (.c (.int .i64 1)), none⟩, ⟨some 12, .mv (.t 22), none⟩]))))))) (.seq (.seq (.reg [⟨some 23, .mv (.t 0), none⟩, ⟨some 24, .len false (.t 23), none⟩, ⟨some 25, .bin .eql (.t 24) (.c (.int .i64 0)), none⟩]) (.cond (.t 25) (.seq (.reg [⟨some 26, .mv (.t 5), none⟩, ⟨some 2, .mv (.c (.string ⟨#[]⟩)), none⟩, ⟨some 3, .mv (.t 26), none⟩]) .ret) .skip)) (.seq (.reg [⟨some 27, .mv (.t 0), none⟩, ⟨some 28, .ixa 1 (.t 27) (.c (.int .i64 0)), none⟩, ⟨some 29, .ld 1 false (.t 28), none⟩, ⟨some 30, .mv (.t 4), none⟩, ⟨some 31, .slS (.t 29) none (some (.t 30)), none⟩, ⟨some 32, .mv (.t 5), none⟩, ⟨some 2, .mv (.t 31), none⟩, ⟨some 3, .mv (.t 32), none⟩]) .ret)))))⟩
theorem e120 : cfun Tryz.prog 120 = some c120 := by kernel_rfl
def spanN : List ByteArray → Int
  | [] => 0
  | a :: r => leastL a.size (r.map fun s => (commonS a s : Int))
theorem commonS_le (a b : ByteArray) : commonS a b ≤ a.size ∧ commonS a b ≤ b.size := by
  have := common_le a.data.toList b.data.toList
  simpa [commonS] using this
theorem least_le : ∀ (l : List Int) (a : Int), leastL a l ≤ a ∧ ∀ x ∈ l, leastL a l ≤ x
  | [], a => ⟨Int.le_refl _, by simp⟩
  | b :: l, a => by
    have := least_le l (min a b)
    refine ⟨?_, fun x hx => ?_⟩
    · have h := this.1; simp only [leastL, List.foldl_cons] at h ⊢; omega
    · rcases List.mem_cons.1 hx with rfl | hx
      · have h := this.1; simp only [leastL, List.foldl_cons] at h ⊢; omega
      · exact this.2 x hx
theorem least_nn : ∀ (l : List Int) (a : Int), 0 ≤ a → (∀ x ∈ l, 0 ≤ x) → 0 ≤ leastL a l
  | [], a, h, _ => h
  | b :: l, a, h, hl => least_nn l (min a b) (by have := hl b (by simp); omega) fun x hx => hl x (by simp [hx])
theorem span_le {l : List ByteArray} {s : ByteArray} (h : s ∈ l) : spanN l ≤ s.size := by
  cases l with
  | nil => simp at h
  | cons a r =>
    rcases List.mem_cons.1 h with rfl | h
    · exact (least_le _ _).1
    · have := (least_le (r.map fun s => (commonS a s : Int)) a.size).2 (commonS a s) (List.mem_map.2 ⟨s, h, rfl⟩)
      have := (commonS_le a s).2
      simp only [spanN]
      omega
theorem span_nn (l : List ByteArray) : 0 ≤ spanN l := by
  cases l with
  | nil => exact Int.le_refl _
  | cons a r => exact least_nn _ _ (by omega) (by intro x hx; obtain ⟨s, _, rfl⟩ := List.mem_map.1 hx; omega)
theorem span_D (l : List ByteArray) (hl : l.length ≤ 1000000) (hs : ∀ s ∈ l, s.size ≤ 1000000) : DPure Tp I 170 [.list 1 (strsL l)] (VN .i64 (spanN l)) := by
  cases l with
  | nil =>
    have h0 : (strsL []).length = 0 := rfl
    refine z_pure (e0 := ?e0x1) mix e170 rfl ?z01 ?_
    (case z01 => exact rfl)
    dsimp only [c170]
    repeat' (first | refine zs ?_ | refine Br.mk ?_ ?_ | intro _ | refine zf ?_ | fail)
    exact int_of (b := 0) (by kernel_rfl) rfl
  | cons a r =>
    have hla := strs_len (a :: r)
    have hlr := strs_len r
    have hlc : (a :: r).length = r.length + 1 := rfl
    have ha := hs a (by simp)
    refine z_pure (e0 := ?e0x2) mix e170 rfl ?z02 ?_
    (case z02 => exact rfl)
    dsimp only [c170]
    repeat' (first | refine And.intro (by rw [hla, hlc]; omega) ?_ | refine z1 ?_ | refine Br.mk ?_ ?_ | intro _ | refine zf ?_ | fail)
    refine z_loop (fun i : Nat => ⟨[(0, .list 1 (strsL (a :: r))), (3, .own 0 3 1 ((r.take i).map fun s => VN .i64 (commonS a s))), (10, .list 1 (strsL r)), (11, VN .i64 (strsL r).length), (12, VN .i64 i)], [], [((r.take i).map fun s => VN .i64 (commonS a s)).length * 1]⟩) (fun i : Nat => i ≤ r.length) (fun i : Nat => r.length - i) (0) ?_ ?_ fun i hi => ?_
    · exact (less_of 0 0 1 rfl rfl (lessE_cons (ltd_eq rfl (by kernel_rfl)) (lessE_cons (ltd_own rfl rfl (by kernel_rfl)) (lessE_cons (ltd_eq rfl (by kernel_rfl)) (lessE_cons (ltd_eq rfl (by kernel_rfl)) (lessE_cons (ltd_eq rfl (by kernel_rfl)) lessE_nil))))) (by kernel_rfl) (by kernel_rfl) (by kernel_rfl) (by kernel_rfl))
    · omega
    by_cases hil : i < r.length
    · have hri := hs r[i] (by simp)
      have hlt : ((r.take i).map fun s => VN .i64 (commonS a s)).length ≤ r.length := by rw [List.length_map, List.length_take]; omega
      have hsn : (r.take (i + 1)).map (fun s => VN .i64 (commonS a s)) = (r.take i).map (fun s => VN .i64 (commonS a s)) ++ [VN .i64 (commonS a r[i])] := by rw [List.take_succ_eq_append_getElem hil, List.map_append]; rfl
      repeat' (first | refine ⟨_, strs_get hil, ?_⟩ | ((with_reducible apply z_call); (case' hd => apply (common_D a r[i] ha hri)); (case hw => exact wknL_ok rfl); (try any_goals exact sd)) | refine z1 ?_ | refine Br.mk ?_ ?_ | intro _ | refine zf ?_ | fail)
      refine ⟨i + 1, (less_of 0 1 0 rfl rfl (lessE_cons (ltd_eq rfl (by kernel_rfl)) (lessE_cons (ltd_eq rfl ?_) (lessE_cons (ltd_eq rfl (by kernel_rfl)) (lessE_cons (ltd_eq rfl (by kernel_rfl)) (lessE_cons (ltd_eq rfl (by kernel_rfl)) lessE_nil))))) (by kernel_rfl) (by kernel_rfl) ?_ (by kernel_rfl)), hil, by omega⟩
      · rw [hsn]; kernel_rfl
      · rw [hsn, List.length_append]; kernel_rfl
    · have htk : r.take i = r := List.take_of_length_le (by omega)
      rw [htk]
      have hli : (r.map fun s => VN .i64 (commonS a s)) = (r.map fun s => (commonS a s : Int)).map fun n => VN .i64 n := by rw [List.map_map]; rfl
      rw [hli]
      repeat' (first | ((with_reducible apply z_call); (case' hd => apply (least_D a.size (r.map fun s => (commonS a s : Int)) (by rw [List.length_map]; omega))); (case hw => exact wknL_ok rfl); (try any_goals exact sd)) | refine zs ?_ | refine Br.mk ?_ ?_ | intro _ | refine zf ?_ | fail)
      exact int_of (b := leastL a.size (r.map fun s => (commonS a s : Int))) (by kernel_rfl) rfl
def cutS (n : Int) (s : ByteArray) : ByteArray := s.extract n.toNat s.size
def stripA (l : List ByteArray) : ByteArray := match l with
  | [] => nilS
  | a :: r => a.extract 0 (spanN (a :: r)).toNat
def stripR (l : List ByteArray) : List ByteArray := l.map (cutS (spanN l))
theorem strsL_snoc {l : List ByteArray} {F : ByteArray → ByteArray} {i : Nat} (h : i < l.length) : strsL ((l.take (i + 1)).map F) = strsL ((l.take i).map F) ++ [SV (F (l[i]'h))] := by rw [List.take_succ_eq_append_getElem h, List.map_append]; simp [strsL]
theorem strip_D (l : List ByteArray) (hl : l.length ≤ 1000000) (hs : ∀ s ∈ l, s.size ≤ 1000000) : DPure Tp I 120 [.list 1 (strsL l)] (.tup [SV (stripA l), .list 1 (strsL (stripR l))]) := by
  have hll := strs_len l
  have hn := span_nn l
  refine z_pure (e0 := ?e0x3) mix e120 rfl ?z03 ?_
  (case z03 => exact rfl)
  dsimp only [c120]
  repeat' (first | ((with_reducible apply z_call); (case' hd => apply (span_D l hl hs)); (case hw => exact wknL_ok rfl); (try any_goals exact sd)) | refine zs ?_ | refine Br.mk ?_ ?_ | intro _ | refine zf ?_ | fail)
  refine z_loop (fun i : Nat => ⟨[(0, .list 1 (strsL l)), (4, VN .i64 (spanN l)), (5, .own 0 9 1 (strsL ((l.take i).map (cutS (spanN l))))), (10, .list 1 (strsL l)), (11, VN .i64 (strsL l).length), (12, VN .i64 i)], [], [(strsL ((l.take i).map (cutS (spanN l)))).length * 1]⟩) (fun i : Nat => i ≤ l.length) (fun i : Nat => l.length - i) (0) ?_ ?_ fun i hi => ?_
  · exact (less_of 0 0 1 rfl rfl (lessE_cons (ltd_eq rfl (by kernel_rfl)) (lessE_cons (ltd_eq rfl (by kernel_rfl)) (lessE_cons (ltd_own rfl rfl (by kernel_rfl)) (lessE_cons (ltd_eq rfl (by kernel_rfl)) (lessE_cons (ltd_eq rfl (by kernel_rfl)) (lessE_cons (ltd_eq rfl (by kernel_rfl)) lessE_nil)))))) (by kernel_rfl) (by kernel_rfl) (by kernel_rfl) (by kernel_rfl))
  · omega
  by_cases hil : i < l.length
  · have hle := span_le (l := l) (s := l[i]) (by simp)
    have hlt : (strsL ((l.take i).map (cutS (spanN l)))).length ≤ l.length := by rw [strs_len, List.length_map, List.length_take]; omega
    have hsn := strsL_snoc (F := cutS (spanN l)) hil
    repeat' (first | refine ⟨_, strs_get hil, ?_⟩ | refine z1 ?_ | refine Br.mk ?_ ?_ | intro _ | refine zf ?_ | fail)
    refine ⟨i + 1, (less_of 0 1 0 rfl rfl (lessE_cons (ltd_eq rfl (by kernel_rfl)) (lessE_cons (ltd_eq rfl (by kernel_rfl)) (lessE_cons (ltd_eq rfl ?_) (lessE_cons (ltd_eq rfl (by kernel_rfl)) (lessE_cons (ltd_eq rfl (by kernel_rfl)) (lessE_cons (ltd_eq rfl (by kernel_rfl)) lessE_nil)))))) (by kernel_rfl) (by kernel_rfl) ?_ (by kernel_rfl)), hil, by omega⟩
    · rw [hsn]; kernel_rfl
    · rw [hsn, List.length_append]; kernel_rfl
  · have htk : l.take i = l := List.take_of_length_le (by omega)
    rw [htk]
    cases l with
    | nil =>
      have h0 : (strsL []).length = 0 := rfl
      repeat' (first | refine zs ?_ | refine Br.mk ?_ ?_ | intro _ | refine zf ?_ | fail)
      exact tup2w (x1 := SV nilS) (x2 := .own 0 9 1 []) (by kernel_rfl) (.v _) (.own _ _ _ _)
    | cons a r =>
      have hle := span_le (l := a :: r) (s := a) (by simp)
      have hlc : (a :: r).length = r.length + 1 := rfl
      repeat' (first | refine zs ?_ | refine Br.mk ?_ ?_ | intro _ | refine zf ?_ | fail)
      exact tup2w (x1 := SV (a.extract 0 (spanN (a :: r)).toNat)) (x2 := .own 0 9 1 (strsL (stripR (a :: r)))) (by kernel_rfl) (.v _) (.own _ _ _ _)
end Go.Proofs.YtlbodfkhenkcjaaGreatDoor.X


namespace Go.Proofs.YtlbodfkhenkcjaaGreatDoor.X
open Go Go.Proofs Go.RowKit Go.Proofs.YtlbodfkhenkcjaaGreatDoor.D
set_option maxRecDepth 100000
set_option maxHeartbeats 1000000
set_option linter.unusedVariables false
set_option linter.unusedSimpArgs false
variable {I : D.Inv}
attribute [local irreducible] D.DPure D.DEff D.callable packE packS packB

def c55 : DFun := ⟨90, [.t 6, .t 7], .seq (.reg [⟨some 3, .box (.t 0), none⟩, ⟨some 6, .mv (.c (.slice none 0 0)), none⟩, ⟨some 7, .mv (.c (.int .i64 0)), none⟩]) (.seq (.seq (.reg [⟨some 16, .mv (.t 1), none⟩, ⟨some 17, .bin .lss (.t 16) (.c (.int .i64 0)), none⟩, ⟨some 18, .mv (.t 17), none⟩, ⟨some 19, .mv (.t 2), some (18, false)⟩, ⟨some 20, .bin .lss (.t 19) (.c (.int .i64 0)), some (18, false)⟩, ⟨some 21, .pick (.t 18) (.c (.bool true)) (.t 20), none⟩, ⟨some 22, .mv (.t 21), none⟩, ⟨some 23, .ld 1 false (.t 3), some (22, false)⟩, ⟨some 24, .len true (.t 23), some (22, false)⟩, ⟨some 25, .bin .gtr (.t 24) (.c (.int .i64 65535)), some (22, false)⟩, ⟨some 26, .pick (.t 22) (.c (.bool true)) (.t 25), none⟩]) (.cond (.t 26) (.seq (.reg [⟨some 6, .mv (.c (.slice none 0 0)), none⟩, ⟨some 7, .mv (.c (.int .i64 4)), none⟩]) .ret) .skip)) (.seq (.seq (.reg [⟨some 27, .mv (.t 1), none⟩, ⟨some 28, .ld 1 false (.t 3), none⟩, ⟨some 29, .len true (.t 28), none⟩, ⟨some 30, .bin .gtr (.t 27) (.t 29), none⟩, ⟨some 31, .mv (.t 30), none⟩, ⟨some 32, .mv (.t 2), some (31, false)⟩, ⟨some 33, .ld 1 false (.t 3), some (31, false)⟩, ⟨some 34, .len true (.t 33), some (31, false)⟩, ⟨some 35, .bin .quo (.t 34) (.c (.int .i64 2)), some (31, false)⟩, ⟨some 36, .bin .sub (.t 35) (.c (.int .i64 1)), some (31, false)⟩, ⟨some 37, .bin .gtr (.t 32) (.t 36), some (31, false)⟩, ⟨some 38, .pick (.t 31) (.c (.bool true)) (.t 37), none⟩]) (.cond (.t 38) (.seq (.reg [⟨some 6, .mv (.c (.slice none 0 0)), none⟩, ⟨some 7, .mv (.c (.int .i64 3)), none⟩]) .ret) .skip)) (.seq (.reg [⟨some 39, .mkf 97 [.t 3], none⟩, ⟨some 8, .mv (.t 39), none⟩]) (.seq (.reg [⟨some 40, .ld 1 false (.t 3), none⟩, ⟨some 41, .s2b (.t 40), none⟩, ⟨some 9, .mv (.t 41), none⟩]) (.seq (.reg [⟨some 10, .mv (.c (.slice none 0 0)), none⟩]) (.seq (.seq (.reg [⟨some 42, .mv (.t 2), none⟩, ⟨some 43, .mv (.c (.int .i64 0)), none⟩]) (.block 0 (.loop (.seq (.reg [⟨some 44, .bin .lss (.t 43) (.t 42), none⟩]) (.seq (.cond (.t 44) .skip (.exit 0)) (.seq (.block 1 (.seq (.reg [⟨some 45, .mv (.t 43), none⟩, ⟨some 11, .mv (.t 45), none⟩]) (.seq (.reg [⟨some 46, .mv (.t 8), none⟩, ⟨some 47, .mv (.t 11), none⟩, ⟨some 48, .callv (.t 46) [.t 47], none⟩, ⟨some 49, .mv (.t 8), none⟩, ⟨some 50, .mv (.t 11), none⟩, ⟨some 51, .bin .add (.t 50) (.c (.int .i64 1)), none⟩, ⟨some 52, .callv (.t 49) [.t 51], none⟩, ⟨some 12, .mv (.t 48), none⟩, ⟨some 13, .mv (.t 52), none⟩]) (.seq (.seq (.reg [⟨some 53, .mv (.t 12), none⟩, ⟨some 54, .mv (.t 13), none⟩, ⟨some 55, .bin .gtr (.t 53) (.t 54), none⟩, ⟨some 56, .mv (.t 55), none⟩, ⟨some 57, .mv (.t 13), some (56, false)⟩, ⟨some 58, .mv (.t 9), some (56, false)⟩, ⟨some 59, .len false (.t 58), some (56, false)⟩, ⟨some 60, .bin .gtr (.t 57) (.t 59), some (56, false)⟩, ⟨some 61, .pick (.t 56) (.c (.bool true)) (.t 60), none⟩]) (.cond (.t 61) (.seq (.reg [⟨some 6, .mv (.c (.slice none 0 0)), none⟩, ⟨some 7, .mv (.c (.int .i64 3)), none⟩]) .ret) .skip)) (.reg [⟨some 62, .mv (.t 10), none⟩, ⟨some 63, .mv (.t 9), none⟩, ⟨some 64, .mv (.t 12), none⟩, ⟨some 65, .mv (.t 13), none⟩, ⟨some 66, .mv (.t 13), none⟩, ⟨some 67, .slL 1 (.t 63) (some (.t 64)) (some (.t 65)) (some (.t 66)), none⟩, ⟨some 68, .b2s (.t 67), none⟩, ⟨some 69, .bsl 1 [.t 68], none⟩, ⟨some 70, .app 9 1 16 (.t 62) (.t 69), none⟩, ⟨some 10, .mv (.t 70), none⟩]))))) (.reg [⟨some 71, .bin .add (.t 43) (.c (.int .i64 1)), none⟩, ⟨some 43, .mv (.t 71), none⟩]))))))) (.seq (.seq (.reg [⟨some 73, .ld 1 false (.t 3), none⟩, ⟨some 74, .len true (.t 73), none⟩, ⟨some 75, .ld 1 false (.t 3), none⟩, ⟨some 76, .mv (.t 1), none⟩, ⟨some 77, .slS (.t 75) none (some (.t 76)), none⟩, ⟨some 78, .mv (.t 10), none⟩, ⟨some 79, .call 70 [.t 74, .t 77, .t 78], none⟩, ⟨some 72, .mv (.t 79), none⟩, ⟨some 80, .ext (.t 72) 0, none⟩, ⟨some 81, .ext (.t 72) 1, none⟩, ⟨some 14, .mv (.t 80), none⟩, ⟨some 15, .mv (.t 81), none⟩]) (.seq (.reg [⟨some 82, .mv (.t 15), none⟩, ⟨some 83, .bin .neq (.t 82) (.c (.int .i64 0)), none⟩, ⟨some 84, .mv (.t 83), none⟩, ⟨some 85, .mv (.t 14), some (84, false)⟩, ⟨some 86, .ld 1 false (.t 3), some (84, false)⟩, ⟨some 87, .bin .neq (.t 85) (.t 86), some (84, false)⟩, ⟨some 88, .pick (.t 84) (.c (.bool true)) (.t 87), none⟩]) (.cond (.t 88) (.seq (.reg [⟨some 6, .mv (.c (.slice none 0 0)), none⟩, ⟨some 7, .mv (.c (.int .i64 3)), none⟩]) .ret) .skip))) (.seq (.reg [⟨some 89, .mv (.t 10), none⟩, ⟨some 6, .mv (.t 89), none⟩, ⟨some 7, .mv (.c (.int .i64 0)), none⟩]) .ret))))))))⟩
theorem e55 : cfun Tryz.prog 55 = some c55 := by kernel_rfl
def c97 : DFun := ⟨22, [.t 3], .seq (.reg [⟨some 3, .mv (.c (.int .i64 0)), none⟩]) (.seq (.reg [⟨some 5, .ld 1 false (.t 1), none⟩, ⟨some 6, .len true (.t 5), none⟩, ⟨some 7, .mv (.t 0), none⟩, ⟨some 8, .bin .add (.t 7) (.c (.int .i64 1)), none⟩, ⟨some 9, .bin .mul (.c (.int .i64 2)) (.t 8), none⟩, ⟨some 10, .bin .sub (.t 6) (.t 9), none⟩, ⟨some 4, .mv (.t 10), none⟩]) (.seq (.reg [⟨some 11, .ld 1 false (.t 1), none⟩, ⟨some 12, .mv (.t 4), none⟩, ⟨some 13, .ixs (.t 11) (.t 12), none⟩, ⟨some 14, .cvt .i64 (.t 13), none⟩, ⟨some 15, .ld 1 false (.t 1), none⟩, ⟨some 16, .mv (.t 4), none⟩, ⟨some 17, .bin .add (.t 16) (.c (.int .i64 1)), none⟩, ⟨some 18, .ixs (.t 15) (.t 17), none⟩, ⟨some 19, .cvt .i64 (.t 18), none⟩, ⟨some 20, .bin .shl (.t 19) (.c (.int .u64 8)), none⟩, ⟨some 21, .bin .add (.t 14) (.t 20), none⟩, ⟨some 3, .mv (.t 21), none⟩]) .ret))⟩
theorem e97 : cfun Tryz.prog 97 = some c97 := by kernel_rfl
def atN (s : ByteArray) (i : Int) : Int := byteAt s ((s.size : Int) - 2 * (i + 1)).toNat + byteAt s ((s.size : Int) - 2 * (i + 1) + 1).toNat * 2 ^ 8
theorem atN_lo (s : ByteArray) (i : Int) : 0 ≤ atN s i := by
  have := byteAt_lo s ((s.size : Int) - 2 * (i + 1)).toNat
  have := byteAt_lo s ((s.size : Int) - 2 * (i + 1) + 1).toNat
  unfold atN; omega
theorem at_D (s : ByteArray) (i : Int) (ow : List Nat) (hs : s.size ≤ 1000000) (hi : 0 ≤ i ∧ 2 * (i + 1) ≤ s.size) : DEff Tp I 97 [VN .i64 i, .lp 0 0] [[SV s]] ow (VN .i64 (atN s i)) [[SV s]] ow := by
  have h1 := byteAt_hi s ((s.size : Int) - 2 * (i + 1)).toNat
  have h2 := byteAt_hi s ((s.size : Int) - 2 * (i + 1) + 1).toNat
  have h3 := byteAt_lo s ((s.size : Int) - 2 * (i + 1)).toNat
  have h4 := byteAt_lo s ((s.size : Int) - 2 * (i + 1) + 1).toNat
  refine z_eff (e0 := ?e0x2) mix e97 rfl ?z02 rfl rfl ?_
  (case z02 => exact rfl)
  dsimp only [c97]
  repeat' (first | refine zs ?_ | refine Br.mk ?_ ?_ | intro _ | refine zf ?_ | fail)
  exact .same (by kernel_rfl) rfl rfl
theorem nums_bytes : ∀ (l : List UInt8), nums (bytesD l) = some (l.map fun b => (b.toNat : Int))
  | [] => rfl
  | b :: l => by
    have := nums_bytes l
    unfold bytesD at this ⊢
    rw [List.map_cons]
    show (nums _).map _ = _
    rw [this]; rfl
theorem nums_cut (l : List UInt8) (p q : Nat) : nums (((bytesD l).take q).drop p) = some (((l.take q).drop p).map fun b => (b.toNat : Int)) := by
  have : ((bytesD l).take q).drop p = bytesD ((l.take q).drop p) := by simp [bytesD, List.map_take, List.map_drop]
  rw [this, nums_bytes]
theorem cut_str (s : ByteArray) (p q : Nat) : strOfNums (((s.data.toList.take q).drop p).map fun b => (b.toNat : Int)) = s.extract p q := by
  refine bytes_ext ?_
  have : ∀ l : List UInt8, (l.map fun b => UInt8.ofNat (b.toNat : Int).toNat) = l := by
    intro l
    induction l with
    | nil => rfl
    | cons b l ih => rw [List.map_cons, ih]; simp
  have e1 : (strOfNums (((s.data.toList.take q).drop p).map fun b => (b.toNat : Int))).data.toList = (s.data.toList.take q).drop p := by
    rw [strOfNums_data, List.map_map]; exact this _
  have e2 : (s.extract p q).data.toList = (s.data.toList.take q).drop p := by simp [ByteArray.data_extract, List.drop_take]
  rw [ByteArray.toList_eq, ByteArray.toList_eq]
  exact e1.trans e2.symm
def cellAt (s : ByteArray) (i : Nat) : ByteArray := s.extract (atN s i).toNat (atN s ((i : Int) + 1)).toNat
def cellOk (s : ByteArray) (i : Nat) : Prop := atN s i ≤ atN s ((i : Int) + 1) ∧ atN s ((i : Int) + 1) ≤ s.size
instance (s : ByteArray) (i : Nat) : Decidable (cellOk s i) := inferInstanceAs (Decidable (_ ∧ _))
def cellsTo (s : ByteArray) (n : Nat) : List ByteArray := (List.range n).map (cellAt s)
def upP (s : ByteArray) (fx n : Int) : Prop := (∀ i, i < n.toNat → cellOk s i) ∧ packE s.size (s.extract 0 fx.toNat) (cellsTo s n.toNat) = 0 ∧ packS s.size (s.extract 0 fx.toNat) (cellsTo s n.toNat) = s
instance (s : ByteArray) (fx n : Int) : Decidable (upP s fx n) := inferInstanceAs (Decidable (_ ∧ _ ∧ _))
def upE (s : ByteArray) (fx n : Int) : Int := if (fx < 0 ∨ n < 0) ∨ (65535 : Int) < s.size then 4 else if (s.size : Int) < fx ∨ (s.size : Int) / 2 - 1 < n then 3 else if upP s fx n then 0 else 3
def upL (s : ByteArray) (fx n : Int) : List ByteArray := if upE s fx n = 0 then cellsTo s n.toNat else []
theorem cat_le (m : Nat) : ∀ l : List ByteArray, (∀ s ∈ l, s.size ≤ m) → (catB l).size ≤ l.length * m
  | [], _ => by simp [catB, Lib.join]; rfl
  | c :: l, h => by
    rw [cat_cons, List.length_cons, Nat.succ_mul]
    have := cat_le m l fun s hs => h s (by simp [hs])
    have := h c (by simp)
    omega
theorem cellsTo_size (s : ByteArray) (n : Nat) : (catB (cellsTo s n)).size ≤ n * s.size := by
  have := cat_le s.size (cellsTo s n) (by intro c hc; simp only [cellsTo, List.mem_map] at hc; obtain ⟨i, _, rfl⟩ := hc; unfold cellAt; rw [ByteArray.size_extract]; omega)
  rwa [show (cellsTo s n).length = n by simp [cellsTo]] at this
theorem cellsTo_snoc (s : ByteArray) (n : Nat) : strsL (cellsTo s (n + 1)) = strsL (cellsTo s n) ++ [SV (cellAt s n)] := by simp [cellsTo, strsL, List.range_succ]
theorem vtup2 {d : DV} {sz : Nat} {e e' : Int} (h : d = .v (.tuple #[.slice none 0 0, .int .i64 e])) (he : e' = e) : Wk d (.tup [.list sz [], VN .i64 e']) := by
  subst h; subst he
  exact Wk.vtupL (xs := [.slice none 0 0, .int .i64 e']) (.cons (.nil _ _ _) (.cons (.v _) .nil))
theorem up_no {s : ByteArray} {fx n e : Int} (h : upE s fx n = e) (he : e ≠ 0) : upL s fx n = [] := if_neg (by rw [h]; exact he)
theorem unpack_no {s : ByteArray} {fx n e : Int} {d : DV} (h : upE s fx n = e) (he : e ≠ 0) (hd : d = .v (.tuple #[.slice none 0 0, .int .i64 e])) : Wk d (.tup [.list 1 (strsL (upL s fx n)), VN .i64 (upE s fx n)]) := by
  rw [up_no h he]; exact vtup2 hd h
theorem unpack_D (s : ByteArray) (fx n : Int) (hs : s.size ≤ 1200) (hx : -1000000 ≤ fx ∧ fx ≤ 1000000) (hn : -1000000 ≤ n ∧ n ≤ 1000000) :
    DPure Tp I 55 [SV s, VN .i64 fx, VN .i64 n] (.tup [.list 1 (strsL (upL s fx n)), VN .i64 (upE s fx n)]) := by
  have hbl : (bytesD s.data.toList).length = s.size := by rw [bytesD_len]; simp
  refine z_pure (e0 := ?e0x1) mix e55 rfl ?z01 ?_
  (case z01 => exact rfl)
  dsimp only [c55]
  repeat' (first | refine zs ?_ | refine Br.mk ?_ ?_ | intro _ | refine zf ?_ | fail)
  · exact unpack_no (if_pos (by omega)) (by decide) (by kernel_rfl)
  · exact unpack_no (if_pos (by omega)) (by decide) (by kernel_rfl)
  · exact unpack_no (e := 3) (by rw [upE, if_neg (by omega), if_pos (by omega)]) (by decide) (by kernel_rfl)
  · exact unpack_no (e := 3) (by rw [upE, if_neg (by omega), if_pos (by omega)]) (by decide) (by kernel_rfl)
  have hE : upE s fx n = if upP s fx n then 0 else 3 := by rw [upE, if_neg (by omega), if_neg (by omega)]
  refine z_loop (fun i : Nat => ⟨[(1, VN .i64 fx), (3, .lp 0 0), (8, .fn 97 [.lp 0 0]), (9, .list 1 (bytesD s.data.toList)), (10, .own 0 9 1 (strsL (cellsTo s i))), (42, VN .i64 n), (43, VN .i64 i)], [[SV s]], [(strsL (cellsTo s i)).length * 1]⟩) (fun i : Nat => (i : Int) ≤ n ∧ ∀ j, j < i → cellOk s j) (fun i : Nat => n.toNat - i) (0) ?_ ?_ fun i hi => ?_
  · exact (less_of 1 0 1 rfl rfl (lessE_cons (ltd_eq rfl (by kernel_rfl)) (lessE_cons (ltd_eq rfl (by kernel_rfl)) (lessE_cons (ltd_eq rfl (by kernel_rfl)) (lessE_cons (ltd_eq rfl (by kernel_rfl)) (lessE_cons (ltd_own rfl rfl (by kernel_rfl)) (lessE_cons (ltd_eq rfl (by kernel_rfl)) (lessE_cons (ltd_eq rfl (by kernel_rfl)) lessE_nil))))))) (by kernel_rfl) (by kernel_rfl) (by kernel_rfl) (by kernel_rfl))
  · exact ⟨by omega, fun j hj => absurd hj (Nat.not_lt_zero j)⟩
  obtain ⟨hi, hok⟩ := hi
  have hlen : (strsL (cellsTo s i)).length = i := by simp [cellsTo, strsL]
  have ha0 := atN_lo s i
  have ha1 := atN_lo s ((i : Int) + 1)
  by_cases hin : (i : Int) < n
  · repeat' (first | ((with_reducible apply z_callv); (case hx => (conv => {lhs; whnf}) <;> exact rfl); (case' hd => apply (at_D s i [(strsL (cellsTo s i)).length * 1] (by omega) (by omega))); (case ha => exact rfl); (try any_goals exact sd)) | ((with_reducible apply z_callv); (case hx => (conv => {lhs; whnf}) <;> exact rfl); (case' hd => apply (at_D s ((i : Int) + 1) [(strsL (cellsTo s i)).length * 1] (by omega) (by omega))); (case ha => exact rfl); (try any_goals exact sd)) | ((with_reducible apply z_b2s); (case hx => (conv => {lhs; whnf}) <;> exact rfl); (case h1 | h2 => exact rfl); (case h3 => exact nums_cut _ _ _)) | refine z1 ?_ | refine Br.mk ?_ ?_ | intro _ | refine zf ?_ | fail)
    · have hno : ¬ upP s fx n := fun h => by have := h.1 i (by omega); unfold cellOk at this; omega
      exact unpack_no (e := 3) (by rw [hE, if_neg hno]) (by decide) (by kernel_rfl)
    · have hno : ¬ upP s fx n := fun h => by have := h.1 i (by omega); unfold cellOk at this; omega
      exact unpack_no (e := 3) (by rw [hE, if_neg hno]) (by decide) (by kernel_rfl)
    · have hsn := cellsTo_snoc s i
      have hcs := cut_str s (atN s i).toNat (atN s ((i : Int) + 1)).toNat
      refine ⟨i + 1, (less_of 1 1 0 rfl rfl (lessE_cons (ltd_eq rfl (by kernel_rfl)) (lessE_cons (ltd_eq rfl (by kernel_rfl)) (lessE_cons (ltd_eq rfl (by kernel_rfl)) (lessE_cons (ltd_eq rfl (by kernel_rfl)) (lessE_cons (ltd_eq rfl ?_) (lessE_cons (ltd_eq rfl (by kernel_rfl)) (lessE_cons (ltd_eq rfl (by kernel_rfl)) lessE_nil))))))) (by kernel_rfl) (by kernel_rfl) ?_ (by kernel_rfl)), ⟨by omega, fun j hj => ?_⟩, by omega⟩
      · rw [hsn, cellAt, ← hcs]; kernel_rfl
      · rw [hsn, List.length_append]; kernel_rfl
      · rcases Nat.lt_succ_iff_lt_or_eq.1 hj with h | h
        · exact hok j h
        · subst h; unfold cellOk; omega
  · have hi' : i = n.toNat := by omega
    have hca := cellsTo_size s i
    have hcl : (cellsTo s i).length = i := by simp [cellsTo]
    have hcb : (catB (cellsTo s i)).size ≤ 1000000 := by
      have h1 : i * s.size ≤ 600 * 1200 := Nat.mul_le_mul (by omega) hs
      omega
    have hxs : (s.extract 0 fx.toNat).size ≤ s.size := by rw [ByteArray.size_extract]; omega
    have hup : upP s fx n ↔ (packE s.size (s.extract 0 fx.toNat) (cellsTo s i) = 0 ∧ packS s.size (s.extract 0 fx.toNat) (cellsTo s i) = s) := by
      unfold upP; rw [← hi']; exact ⟨fun h => h.2, fun h => ⟨hok, h⟩⟩
    repeat' (first | ((with_reducible apply z_call); (case' hd => apply (pack_D (s.size : Int) (s.extract 0 fx.toNat) (cellsTo s i) (by omega) hcb (by omega) (by omega))); (case hw => exact wknL_ok rfl); (try any_goals exact sd)) | refine zs ?_ | refine Br.mk ?_ ?_ | intro _ | refine zf ?_ | fail)
    · have hyes : upP s fx n := hup.2 ⟨‹_›, ‹_›⟩
      have h0 : upE s fx n = 0 := by rw [hE, if_pos hyes]
      refine tup2w (x1 := .own 0 9 1 (strsL (cellsTo s i))) (x2 := VN .i64 0) (by kernel_rfl) ?_ ?_
      · rw [upL, if_pos h0, ← hi']; exact .own _ _ _ _
      · rw [h0]; exact .v _
    · have hno : ¬ upP s fx n := fun h => ‹¬ _› (hup.1 h).2
      exact unpack_no (e := 3) (by rw [hE, if_neg hno]) (by decide) (by kernel_rfl)
    · have hno : ¬ upP s fx n := fun h => ‹¬ _› (hup.1 h).1
      exact unpack_no (e := 3) (by rw [hE, if_neg hno]) (by decide) (by kernel_rfl)
end Go.Proofs.YtlbodfkhenkcjaaGreatDoor.X


namespace Go.Proofs.YtlbodfkhenkcjaaGreatDoor.X
open Go Go.Proofs Go.RowKit Go.Proofs.YtlbodfkhenkcjaaGreatDoor.D
set_option maxRecDepth 100000
set_option maxHeartbeats 1000000
set_option linter.unusedVariables false
set_option linter.unusedSimpArgs false
variable {I : D.Inv}
structure Aside0 (p : Prop) : Prop where mk :: (out : p)
theorem below_alloc {w W : World} (h : Below w.heap.size w W) (o : Obj) : Below w.heap.size w (W.alloc o) := h.alloc h.size o
theorem below_step {w W w2 : World} (h : Below w.heap.size w W) (k : Below W.heap.size W w2) : Below w.heap.size w w2 := h.trans ⟨k.os, k.tape, k.output, k.size, fun i hi => k.block i (Nat.lt_of_lt_of_le hi h.size)⟩
theorem is_typeOf (v : Value) (w : World) : (Extern.ReflectliteType.typeOf #[.iface 36 v]).run Tryz.prog w = .ok (.iface 253 (.agg #[.pointer (some ⟨4, 36, none⟩)])) w := by kernel_rfl
theorem run_comparable (w : World) : (callFunc 241 #[.agg #[.pointer (some ⟨4, 36, none⟩)]]).run Tryz.prog w = .ok (.value (.bool true)) w := by kernel_rfl
theorem is_methodComparable (d : Nat) (v : Value) (w : World) : (Go.method (d + 1) 253 v "Comparable").run Tryz.prog w = .ok (241, v) w := by kernel_rfl
theorem is_methodUnwrap (d : Nat) (v : Value) (w : World) : (Go.method (d + 1) 244 v "Unwrap").run Tryz.prog w = .ok (238, v) w := by kernel_rfl
theorem is_comp : (Tryz.prog.info? 36).map (·.comparable) = some true := by kernel_rfl
theorem noIs_str (v : Value) (xT : TypeId) (w : World) : (Instr.typeAssert (.iface 310 v) xT 307 true).run Tryz.prog w = .ok (.tuple #[.nilIface, .bool false]) w := run_typeAssert_lacksB Tryz.underlying307 (by kernel_rfl) (by kernel_rfl) v xT w
theorem noIs_no (v : Value) (xT : TypeId) (w : World) : (Instr.typeAssert (.iface 36 v) xT 307 true).run Tryz.prog w = .ok (.tuple #[.nilIface, .bool false]) w := run_typeAssert_lacksB Tryz.underlying307 (by kernel_rfl) (by kernel_rfl) v xT w
theorem noIs_join (v : Value) (xT : TypeId) (w : World) : (Instr.typeAssert (.iface 244 v) xT 307 true).run Tryz.prog w = .ok (.tuple #[.nilIface, .bool false]) w := run_typeAssert_lacksB Tryz.underlying307 (by kernel_rfl) (by kernel_rfl) v xT w
theorem noUn_str (v : Value) (xT : TypeId) (w : World) : (Instr.typeAssert (.iface 310 v) xT 261 true).run Tryz.prog w = .ok (.tuple #[.nilIface, .bool false]) w := run_typeAssert_lacksB Tryz.underlying261 (by kernel_rfl) (by kernel_rfl) v xT w
theorem noUn_no (v : Value) (xT : TypeId) (w : World) : (Instr.typeAssert (.iface 36 v) xT 261 true).run Tryz.prog w = .ok (.tuple #[.nilIface, .bool false]) w := run_typeAssert_lacksB Tryz.underlying261 (by kernel_rfl) (by kernel_rfl) v xT w
theorem noUn_join (v : Value) (xT : TypeId) (w : World) : (Instr.typeAssert (.iface 244 v) xT 261 true).run Tryz.prog w = .ok (.tuple #[.nilIface, .bool false]) w := run_typeAssert_lacksB Tryz.underlying261 (by kernel_rfl) (by kernel_rfl) v xT w
theorem noUs_str (v : Value) (xT : TypeId) (w : World) : (Instr.typeAssert (.iface 310 v) xT 263 true).run Tryz.prog w = .ok (.tuple #[.nilIface, .bool false]) w := run_typeAssert_lacksB Tryz.underlying263 (by kernel_rfl) (by kernel_rfl) v xT w
theorem noUs_no (v : Value) (xT : TypeId) (w : World) : (Instr.typeAssert (.iface 36 v) xT 263 true).run Tryz.prog w = .ok (.tuple #[.nilIface, .bool false]) w := run_typeAssert_lacksB Tryz.underlying263 (by kernel_rfl) (by kernel_rfl) v xT w
theorem hasUs_join (v : Value) (xT : TypeId) (w : World) : (Instr.typeAssert (.iface 244 v) xT 263 true).run Tryz.prog w = .ok (.tuple #[.iface 244 v, .bool true]) w := run_typeAssert_hasB Tryz.underlying263 (by kernel_rfl) v xT w
theorem eql_str_no (x y : Value) (w : World) : (binOp .eql 122 (.iface 310 x) (.iface 36 y)).run Tryz.prog w = .ok (.bool false) w := run_eql_iface_types (P := Tryz.prog) _ _ x y Tryz.underlying122 (by decide) w
theorem eql_join_no (x y : Value) (w : World) : (binOp .eql 122 (.iface 244 x) (.iface 36 y)).run Tryz.prog w = .ok (.bool false) w := run_eql_iface_types (P := Tryz.prog) _ _ x y Tryz.underlying122 (by decide) w
theorem eql_no_no (a b : Int) (w : World) : (binOp .eql 122 (.iface 36 (.int .i64 a)) (.iface 36 (.int .i64 b))).run Tryz.prog w = .ok (.bool (a == b)) w := Lib.run_eql_iface_int w a b Tryz.underlying122 is_comp Tryz.underlying36
theorem is_str (v : Value) (t : Int) (w : World) :
    Calls Tryz.prog 191 #[.iface 310 v, .iface 36 (.int .i64 t), .bool true] w fun e w' => e = .returned (.bool false) ∧ w' = w := by
  have h1 := noIs_str
  have h2 := noUn_str
  have h3 := noUs_str
  have h4 := eql_str_no
  go_enter Tryz.func191, Tryz.ntmps191
  go_wp2
  refine wp_loop_rounds 1 ?_
  rw [rounds_succ]
  go_wp2
  go_ret
  exact ⟨rfl, rfl⟩
theorem is_no_same (t : Int) (w : World) :
    Calls Tryz.prog 191 #[.iface 36 (.int .i64 t), .iface 36 (.int .i64 t), .bool true] w fun e w' => e = .returned (.bool true) ∧ w' = w := by
  have h4 := eql_no_no t t
  have h5 : (t == t) = true := by simp
  rw [h5] at h4
  clear h5
  go_enter Tryz.func191, Tryz.ntmps191
  go_wp2
  refine wp_loop_rounds 1 ?_
  rw [rounds_succ]
  go_wp2
  go_ret
  exact ⟨rfl, rfl⟩
theorem is_no_other (a t : Int) (w : World) (h : a ≠ t) :
    Calls Tryz.prog 191 #[.iface 36 (.int .i64 a), .iface 36 (.int .i64 t), .bool true] w fun e w' => e = .returned (.bool false) ∧ w' = w := by
  have h4 := eql_no_no a t
  have h5 : (a == t) = false := by simpa using h
  rw [h5] at h4
  clear h5 h
  have h1 := noIs_no
  have h2 := noUn_no
  have h3 := noUs_no
  go_enter Tryz.func191, Tryz.ntmps191
  go_wp2
  refine wp_loop_rounds 1 ?_
  rw [rounds_succ]
  go_wp2
  go_ret
  exact ⟨rfl, rfl⟩
theorem is_no (a t : Int) (w : World) :
    Calls Tryz.prog 191 #[.iface 36 (.int .i64 a), .iface 36 (.int .i64 t), .bool true] w fun e w' => e = .returned (.bool (a == t)) ∧ w' = w := by
  by_cases h : a = t
  · subst h
    rw [show (a == a) = true by simp]
    exact is_no_same a w
  · rw [show (a == t) = false by simpa using h]
    exact is_no_other a t w h
theorem join_unwrap (p : Addr) (v : Value) (w : World) (h : w.cell? p = some v) :
    Calls Tryz.prog 238 #[.pointer (some p)] w fun e w' => e = .returned v ∧ w' = w := by
  obtain ⟨b, o, s⟩ := p
  go_enter Tryz.func238, Tryz.ntmps238
  go_wp2
  go_ret
  exact ⟨rfl, rfl⟩
structure JoinOf (w : World) (v : Value) (a : Int) : Prop where
  is : ∃ (p : Addr) (R o : Nat) (c : Nat) (s : Value), v = .iface 244 (.pointer (some p)) ∧ 2 ≤ c ∧ w.cell? p = some (.slice (some ⟨R, o, none⟩) 2 c) ∧ w.cell? ⟨R, o, none⟩ = some (.iface 310 s) ∧ w.cell? ⟨R, o + 1, none⟩ = some (.iface 36 (.int .i64 a))
theorem JoinOf.below {w w' : World} {v : Value} {a : Int} (h : JoinOf w v a) (hb : Below w.heap.size w w') : JoinOf w' v a := by
  obtain ⟨p, R, o, c, s, h1, hc, h2, h3, h4⟩ := h.is
  exact ⟨p, R, o, c, s, h1, hc, (hb.cell (World.block_lt_of_cell? w _ h2)).trans h2, (hb.cell (World.block_lt_of_cell? w _ h3)).trans h3, (hb.cell (World.block_lt_of_cell? w _ h4)).trans h4⟩
set_option maxHeartbeats 1000000 in
theorem is_join (v : Value) (a t : Int) (w : World) (h : JoinOf w v a) :
    Calls Tryz.prog 191 #[v, .iface 36 (.int .i64 t), .bool true] w fun e w' => e = .returned (.bool (a == t)) ∧ w' = w := by
  obtain ⟨p, R, o, c, s, rfl, hcap, hp, h0, h1⟩ := h.is
  clear h
  have n1 := noIs_join
  have n2 := noUn_join
  have n3 := hasUs_join
  have n4 := eql_join_no
  have n5 := is_methodUnwrap
  have HP := Aside0.mk hp
  clear hp
  obtain ⟨q, hq⟩ : ∃ q, (a == t) = q := ⟨_, rfl⟩
  have HQ := Aside0.mk hq
  rw [hq]
  clear hq
  cases q
  all_goals
    go_enter Tryz.func191, Tryz.ntmps191
    go_wp2
    refine wp_loop_rounds 1 ?_
    rw [rounds_succ]
    go_wp2_with (first | (go_at_call 238; refine (join_unwrap p _ _ HP.out).mono ?_; rintro e w' ⟨rfl, rfl⟩))
    refine wp_loop_rounds 3 ?_
    rw [rounds_succ]
    go_wp2_with (first | (go_at_call 191; refine (is_str s t _).mono ?_; rintro e w' ⟨rfl, rfl⟩))
    rw [rounds_succ]
    go_wp2_with (first | (go_at_call 191; refine (is_no a t _).mono ?_; rintro e w' ⟨rfl, rfl⟩; rw [HQ.out]))
    try rw [rounds_succ]
    try go_wp2
    go_ret
    exact ⟨rfl, rfl⟩
theorem Is_nil (t : Int) (w : World) :
    Calls Tryz.prog 165 #[.nilIface, .iface 36 (.int .i64 t)] w fun e w' => e = .returned (.bool false) ∧ w' = w := by
  have hn := run_eql_iface_nil_left (P := Tryz.prog) w 36 (.int .i64 t) Tryz.underlying122
  go_enter Tryz.func165, Tryz.ntmps165
  go_wp2
  go_ret
  exact ⟨rfl, rfl⟩
set_option maxHeartbeats 1000000 in
theorem Is_join (v : Value) (a t : Int) (w : World) (h : JoinOf w v a) :
    Calls Tryz.prog 165 #[v, .iface 36 (.int .i64 t)] w fun e w' => e = .returned (.bool (a == t)) ∧ w' = w := by
  have HJ := Aside0.mk h
  obtain ⟨p, R, o, c, s, rfl, hcap, hp, h0, h1⟩ := h.is
  clear h hp h0 h1 hcap
  obtain ⟨q, hq⟩ : ∃ q, (a == t) = q := ⟨_, rfl⟩
  have HQ := Aside0.mk hq
  rw [hq]
  clear hq
  have h8 := @Go.run_callFunc_extern Tryz.prog 151 _ Extern.ReflectliteType.typeOf Tryz.func151 (by kernel_rfl) (by kernel_rfl) (by kernel_rfl) (by kernel_rfl)
  have h32 := run_comparable
  have tT := is_typeOf
  have mR := is_methodComparable
  go_enter Tryz.func165, Tryz.ntmps165
  go_wp2_with (first | (go_at_call 191; refine (is_join _ a t _ HJ.out).mono ?_; rintro e w' ⟨rfl, rfl⟩; rw [HQ.out]))
  go_ret
  exact ⟨rfl, rfl⟩
theorem wpList_append_of {P : Program} {w w' : World} {ops : Array Oper} {rest : List Oper} {o : Oper} {a : Act} {Q : Exit → Act → World → Prop} (hg : o.guard = none) (s x : Operand) (t : TypeId) (hop : o.op = Op.call { callee := Callee.builtin Builtin.append, args := #[s, x], argTypes := #[t, t] })
    (vs vx v : Value) (hs : a.eval s = vs) (hx : a.eval x = vx) (hrun : (Builtin.append_ #[t, t] o.type #[vs, vx]).run P w = .ok v w') (h : wpList P ops Q rest (a.put o.dst v) w') : wpList P ops Q (o :: rest) a w := by
  refine wpList_plain hg fun K hK' => ?_
  unfold Oper.wp
  simp [execOp, hop, resolve, invoke, builtin, hs, hx, hrun, Result.andThen]
  exact hK' _ _ h
theorem append_err (ty : TypeId) (W : World) (M N k : Nat) (v v0 : Value) (hk : k < 2) (h0 : W.cell? ⟨N, 0, none⟩ = some v) (h1 : v.oneCell' = true) (h2 : W.cell? ⟨M, k, none⟩ = some v0) (h3 : W.frozen? ⟨M, k, none⟩ = false) :
    (Builtin.append_ #[243, 243] ty #[.slice (some ⟨M, 0, none⟩) k 2, .slice (some ⟨N, 0, none⟩) 1 1]).run Tryz.prog W = .ok (.slice (some ⟨M, 0, none⟩) (k + 1) 2) (W.setCell ⟨M, k, none⟩ v) := by
  have hs : (Tryz.prog.info? 122).map (·.size) = some 1 := by kernel_rfl
  obtain ⟨i, hi, hi1⟩ := Option.map_eq_some_iff.1 hs
  have := run_append_room_cells (P := Tryz.prog) W 243 ty 122 i Tryz.underlying243 hi M 0 k 2 ⟨N, 0, none⟩ 1 1 [v] (by simp [hi1])
    (by intro j u hj; cases j with | zero => (simp at hj; subst hj; simpa [Addr.add] using h0) | succ j => simp at hj) (by simpa using h1) (by omega)
    (by intro j hj; simp at hj; subst hj; simp [hi1, h2]) (by intro j hj; simp at hj; subst hj; simp [hi1, h3])
  rw [this, hi1]
  simp [World.setCells]
theorem New_calls (s : ByteArray) (w : World) :
    Calls Tryz.prog 192 #[.string s] w fun e w' => e = .returned (.iface 310 (.pointer (some ⟨w.heap.size, 0, none⟩))) ∧ w' = w.alloc (.cells #[.string s] 312) := by
  go_enter Tryz.func192, Tryz.ntmps192
  go_wp2
  go_ret
  exact ⟨rfl, rfl⟩
set_option maxHeartbeats 1000000 in
theorem Join_any (R o c0 : Nat) (hc0 : 2 ≤ c0) (tx ty : TypeId) (x y : Value) (w : World) (h0 : w.cell? ⟨R, o, none⟩ = some (.iface tx x)) (h1 : w.cell? ⟨R, o + 1, none⟩ = some (.iface ty y)) :
    Calls Tryz.prog 88 #[.slice (some ⟨R, o, none⟩) 2 c0] w fun e w' => e = .returned (.iface 244 (.pointer (some ⟨w.heap.size + 1, 0, none⟩))) ∧ w'.cell? ⟨w.heap.size + 1, 0, none⟩ = some (.slice (some ⟨w.heap.size, 0, none⟩) 2 2) ∧ w'.cell? ⟨w.heap.size, 0, none⟩ = some (.iface tx x) ∧ w'.cell? ⟨w.heap.size, 1, none⟩ = some (.iface ty y) ∧ Below w.heap.size w w' := by
  have hlt : R < w.heap.size := World.block_lt_of_cell? w _ h0
  have hl1 : R < w.heap.size + 1 := by omega
  have hl2 : R < w.heap.size + 1 + 1 := by omega
  have hl3 : R < w.heap.size + 1 + 1 + 1 := by omega
  have hmk : ∀ W : World, (Instr.makeSlice 243 (.int .i64 0) (.int .i64 2)).run Tryz.prog W = .ok (.slice (some ⟨W.heap.size, 0, none⟩) 0 2) (W.alloc (.cells #[.nilIface, .nilIface] 122)) := fun _ => by kernel_rfl
  have q1 : ∀ (W : World) (k j : Nat) (v : Value), (W.setCell ⟨w.heap.size, k, none⟩ v).cell? ⟨R, j, none⟩ = W.cell? ⟨R, j, none⟩ := fun W k j v => World.cell?_setCell_other _ _ _ _ (by intro e; have := congrArg Addr.block e; simp at this; omega)
  have q2 : ∀ (W : World) (k j : Nat) (v : Value), (W.setCell ⟨w.heap.size + 1, k, none⟩ v).cell? ⟨R, j, none⟩ = W.cell? ⟨R, j, none⟩ := fun W k j v => World.cell?_setCell_other _ _ _ _ (by intro e; have := congrArg Addr.block e; simp at this; omega)
  go_enter Tryz.func88, Tryz.ntmps88
  go_wp2
  refine wp_loop_rounds 3 ?_
  rw [rounds_succ]
  go_wp2
  rw [rounds_succ]
  go_wp2
  rw [rounds_succ]
  go_wp2
  refine wp_loop_rounds 3 ?_
  rw [rounds_succ]
  go_wp2_with (at_builtin; refine wpList_append_of rfl _ _ _ rfl _ _ _ rfl rfl (append_err _ _ w.heap.size (w.heap.size + 2) 0 (.iface tx x) .nilIface (by omega) ?c1 rfl ?c2 ?c3) ?_; (case c1 => simp); (case c2 => simp); (case c3 => simp))
  rw [rounds_succ]
  go_wp2_with (at_builtin; refine wpList_append_of rfl _ _ _ rfl _ _ _ rfl rfl (append_err _ _ w.heap.size (w.heap.size + 3) 1 (.iface ty y) .nilIface (by omega) ?d1 rfl ?d2 ?d3) ?_; (case d1 => simp); (case d2 => simp); (case d3 => simp))
  rw [rounds_succ]
  go_wp2
  go_ret
  refine ⟨rfl, ?_, ?_, ?_, below_alloc (below_alloc (below_alloc (below_alloc (Below.refl _ _) _) _) _) _⟩
  · go_simp
  · go_simp
  · go_simp
set_option maxHeartbeats 1000000 in
theorem head_number_nil (w : World) :
    Calls Tryz.prog 113 #[.nilIface] w fun e w' => e = .returned (.int .i64 0) ∧ Below w.heap.size w w' := by
  go_enter Tryz.func113, Tryz.ntmps113
  go_wp2
  refine wp_loop_rounds 4 ?_
  rw [rounds_succ]
  go_wp2_with (first | (go_at_call 165; refine (Is_nil 4 _).mono ?_; rintro e w' ⟨rfl, rfl⟩))
  rw [rounds_succ]
  go_wp2_with (first | (go_at_call 165; refine (Is_nil 3 _).mono ?_; rintro e w' ⟨rfl, rfl⟩))
  rw [rounds_succ]
  go_wp2_with (first | (go_at_call 165; refine (Is_nil 8 _).mono ?_; rintro e w' ⟨rfl, rfl⟩))
  rw [rounds_succ]
  go_wp2
  go_ret
  exact ⟨rfl, below_alloc (Below.refl _ _) _⟩
set_option maxHeartbeats 1000000 in
theorem head_number_join (v : Value) (n : Int) (w : World) (hj : JoinOf w v n) (hn : n = 4 ∨ n = 3 ∨ n = 8) :
    Calls Tryz.prog 113 #[v] w fun e w' => e = .returned (.int .i64 n) ∧ Below w.heap.size w w' := by
  have HJ : Aside0 (JoinOf (w.alloc (.cells #[.int .i64 4, .int .i64 3, .int .i64 8] 36)) v n) := ⟨hj.below (below_alloc (Below.refl _ _) _)⟩
  clear hj
  rcases hn with rfl | rfl | rfl
  · go_enter Tryz.func113, Tryz.ntmps113
    go_wp2
    refine wp_loop_rounds 4 ?_
    rw [rounds_succ]
    go_wp2_with (first | (go_at_call 165; refine (Is_join v 4 4 _ HJ.out).mono ?_; rintro e w' ⟨rfl, rfl⟩))
    go_ret
    exact ⟨rfl, below_alloc (Below.refl _ _) _⟩
  · go_enter Tryz.func113, Tryz.ntmps113
    go_wp2
    refine wp_loop_rounds 4 ?_
    rw [rounds_succ]
    go_wp2_with (first | (go_at_call 165; refine (Is_join v 3 4 _ HJ.out).mono ?_; rintro e w' ⟨rfl, rfl⟩))
    rw [rounds_succ]
    go_wp2_with (first | (go_at_call 165; refine (Is_join v 3 3 _ HJ.out).mono ?_; rintro e w' ⟨rfl, rfl⟩))
    go_ret
    exact ⟨rfl, below_alloc (Below.refl _ _) _⟩
  · go_enter Tryz.func113, Tryz.ntmps113
    go_wp2
    refine wp_loop_rounds 4 ?_
    rw [rounds_succ]
    go_wp2_with (first | (go_at_call 165; refine (Is_join v 8 4 _ HJ.out).mono ?_; rintro e w' ⟨rfl, rfl⟩))
    rw [rounds_succ]
    go_wp2_with (first | (go_at_call 165; refine (Is_join v 8 3 _ HJ.out).mono ?_; rintro e w' ⟨rfl, rfl⟩))
    rw [rounds_succ]
    go_wp2_with (first | (go_at_call 165; refine (Is_join v 8 8 _ HJ.out).mono ?_; rintro e w' ⟨rfl, rfl⟩))
    go_ret
    exact ⟨rfl, below_alloc (Below.refl _ _) _⟩

end Go.Proofs.YtlbodfkhenkcjaaGreatDoor.X


namespace Go.Proofs.YtlbodfkhenkcjaaGreatDoor.X
open Go Go.Proofs Go.RowKit Go.Proofs.YtlbodfkhenkcjaaGreatDoor.D
set_option maxRecDepth 100000
set_option maxHeartbeats 1000000
set_option linter.unusedVariables false
set_option linter.unusedSimpArgs false
variable {I : D.Inv}

theorem keep_step {S : Nat → Nat → Prop} {W W' : World} (hb : Below W.heap.size W W') : Step S noLink W (fun b o => S b o ∨ W.heap.size ≤ b) noLink W' :=
  ⟨fun b o y h1 h2 => ⟨.inl h1, (hb.cell (World.block_lt_of_cell? W ⟨b, o, none⟩ h2)).trans h2⟩, fun k b h => by simp [noLink] at h, fun id N B h => by simp [noLink] at h⟩
theorem New_D (s : ByteArray) : DPure Tp I 192 [SV s] (.ifc 310 (.ep (.v (.agg #[.string s])) 0)) := by
  refine dpure_mk (by kernel_rfl) fun S W vals hI hr => ?_
  obtain ⟨v0, vs, rfl, r0, hr⟩ := hr.uncons
  obtain rfl := hr.unnil
  cases r0
  refine (New_calls s W).mono ?_
  rintro e W' ⟨rfl, rfl⟩
  refine ⟨_, rfl, .ifc _ _ _ _ (.ep _ _ 0 W.heap.size 0 [.string s] rfl (fun j y hj => ?_) (fun i d y h1 h2 => ?_)), below_alloc (Below.refl _ _) _⟩
  · cases j with
    | zero =>
      simp only [List.getElem?_cons_zero, Option.some.injEq] at hj
      subst hj
      exact ⟨.inr (Nat.le_refl _), by simp⟩
    | succ j => simp at hj
  · cases i with
    | zero =>
      simp only [List.getElem?_cons_zero, Option.some.injEq] at h2
      have h1' : d = SV s := by simpa [DV.cells] using h1.symm
      subst h1'; subst h2
      exact .v _ _
    | succ i => simp [DV.cells] at h1
def isIfc : DV → Bool
  | .ifc _ _ => true
  | .v (.iface _ _) => true
  | _ => false
theorem ifc_rep {S : Nat → Nat → Prop} {W : World} {d : DV} {y : Value} (hd : isIfc d = true) (h : Rep S W noLink d y) : ∃ t x, y = .iface t x := by
  cases h with
  | ifc _ t x y _ => exact ⟨t, y, rfl⟩
  | v _ _ =>
    cases y with
    | iface t x => exact ⟨t, x, rfl⟩
    | _ => simp [isIfc] at hd
  | _ => simp [isIfc] at hd
theorem ifc_cells {d : DV} (hd : isIfc d = true) : d.cells = [d] ∧ d.one = true := by
  cases d with
  | v x => cases x <;> simp [isIfc] at hd; exact ⟨rfl, rfl⟩
  | _ => first | exact ⟨rfl, rfl⟩ | simp [isIfc] at hd
theorem two_of {S : Nat → Nat → Prop} {W : World} {sz : Nat} {d1 d2 : DV} {v : Value} (h1 : isIfc d1 = true) (h2 : isIfc d2 = true) (h : Rep S W noLink (.list sz [d1, d2]) v) :
    ∃ (b o c : Nat) (y1 y2 : Value), v = .slice (some ⟨b, o, none⟩) 2 c ∧ 2 ≤ c ∧ S b o ∧ S b (o + 1) ∧ W.cell? ⟨b, o, none⟩ = some y1 ∧ W.cell? ⟨b, o + 1, none⟩ = some y2 ∧ Rep S W noLink d1 y1 ∧ Rep S W noLink d2 y2 := by
  cases h with
  | list _ _ _ ys a len cap b o k1 k3 k4 k5 k6 k7 k8 =>
    have hf : [d1, d2].flatMap DV.cells = [d1, d2] := by simp [(ifc_cells h1).1, (ifc_cells h2).1]
    rw [hf] at k6 k8
    obtain rfl := k5 (by simp)
    match ys, k6 with
    | [y1, y2], _ =>
      have a0 := k7 0 y1 rfl
      have a1 := k7 1 y2 rfl
      exact ⟨b, o, cap, y1, y2, by rw [k1.1]; rfl, by have := k1.2; rw [k1.1] at this; exact this, a0.1, a1.1, a0.2, a1.2, k8 0 d1 y1 rfl rfl, k8 1 d2 y2 rfl rfl⟩
abbrev joinD (d1 d2 : DV) : DV := .ifc 244 (.ep (.agg [.list 1 [d1, d2]]) 0)
theorem Join_D (d1 d2 : DV) (h1 : isIfc d1 = true) (h2 : isIfc d2 = true) : DPure Tp I 88 [.list 1 [d1, d2]] (joinD d1 d2) := by
  refine dpure_mk (by kernel_rfl) fun S W vals hI hr => ?_
  obtain ⟨v0, vs, rfl, r0, hr⟩ := hr.uncons
  obtain rfl := hr.unnil
  obtain ⟨b, o, c, y1, y2, rfl, hc, s1, s2, c1, c2, r1, r2⟩ := two_of h1 h2 r0
  obtain ⟨t1, x1, rfl⟩ := ifc_rep h1 r1
  obtain ⟨t2, x2, rfl⟩ := ifc_rep h2 r2
  refine (Join_any b o c hc t1 t2 x1 x2 W c1 c2).mono ?_
  rintro e W' ⟨rfl, q1, q2, q3, hb⟩
  have st := keep_step (S := S) hb
  have p1 := r1.step st
  have p2 := r2.step st
  refine ⟨_, rfl, .ifc _ _ _ _ (.ep _ _ 0 (W.heap.size + 1) 0 [.slice (some ⟨W.heap.size, 0, none⟩) 2 2] rfl (fun j y hj => ?_) (fun i d y k1 k2 => ?_)), hb⟩
  · cases j with
    | zero =>
      simp only [List.getElem?_cons_zero, Option.some.injEq] at hj
      subst hj
      exact ⟨.inr (by omega), q1⟩
    | succ j => simp at hj
  · cases i with
    | zero =>
      simp only [List.getElem?_cons_zero, Option.some.injEq] at k2
      have k1' : d = .list 1 [d1, d2] := by simpa [DV.cells] using k1.symm
      subst k1'; subst k2
      have hf : [d1, d2].flatMap DV.cells = [d1, d2] := by simp [(ifc_cells h1).1, (ifc_cells h2).1]
      refine .list _ 1 [d1, d2] [.iface t1 x1, .iface t2 x2] _ 2 2 W.heap.size 0 ⟨rfl, Nat.le_refl _⟩ ?_ ?_ (fun _ => rfl) (by rw [hf]; rfl) (fun j y hj => ?_) (fun i d y hi hy => ?_)
      · intro d hd
        rcases List.mem_cons.1 hd with rfl | hd
        · rw [(ifc_cells h1).1]; rfl
        · rcases List.mem_cons.1 hd with rfl | hd
          · rw [(ifc_cells h2).1]; rfl
          · simp at hd
      · rw [hf]
        intro d hd
        rcases List.mem_cons.1 hd with rfl | hd
        · exact (ifc_cells h1).2
        · rcases List.mem_cons.1 hd with rfl | hd
          · exact (ifc_cells h2).2
          · simp at hd
      · match j, hj with
        | 0, hj => simp at hj; subst hj; exact ⟨.inr (Nat.le_refl _), q2⟩
        | 1, hj => simp at hj; subst hj; exact ⟨.inr (Nat.le_refl _), q3⟩
        | j + 2, hj => simp at hj
      · rw [hf] at hi
        match i, hi, hy with
        | 0, hi, hy => simp at hi hy; subst hi; subst hy; exact p1
        | 1, hi, hy => simp at hi hy; subst hi; subst hy; exact p2
        | i + 2, hi, hy => simp at hi
    | succ i => simp [DV.cells] at k1
abbrev errV (e : Int) : DV := .v (.iface 36 (.int .i64 e))
abbrev strD (s : ByteArray) : DV := .ifc 310 (.ep (.v (.agg #[.string s])) 0)
theorem join_of {S : Nat → Nat → Prop} {W : World} {s : ByteArray} {e : Int} {v : Value} (h : Rep S W noLink (joinD (strD s) (errV e)) v) : JoinOf W v e := by
  cases h with
  | ifc _ t x y h =>
    cases h with
    | ep _ _ _ b o ys k1 k2 k3 =>
      match ys, k1 with
      | [z], _ =>
        have a0 := (k2 0 z rfl).2
        have b0 := k3 0 _ z rfl rfl
        obtain ⟨b', o', c, y1, y2, rfl, hc, _, _, c1, c2, r1, r2⟩ := two_of (d1 := strD s) (d2 := errV e) rfl rfl b0
        cases r1
        cases r2
        exact ⟨⟨_, b', o', c, _, rfl, hc, a0, c1, c2⟩⟩
def faultD (s : ByteArray) (e : Int) : DV := if e = 0 then .v .nilIface else joinD (strD s) (errV e)
theorem number_D (s : ByteArray) (e : Int) (he : e = 0 ∨ e = 4 ∨ e = 3 ∨ e = 8) : DPure Tp I 113 [faultD s e] (VN .i64 e) := by
  refine dpure_mk (by kernel_rfl) fun S W vals hI hr => ?_
  obtain ⟨v0, vs, rfl, r0, hr⟩ := hr.uncons
  obtain rfl := hr.unnil
  by_cases h0 : e = 0
  · subst h0
    rw [show faultD s 0 = .v .nilIface from rfl] at r0
    cases r0
    exact (head_number_nil W).mono fun e W' ⟨h1, h2⟩ => ⟨_, h1, .v _ _, h2⟩
  · rw [show faultD s e = joinD (strD s) (errV e) from if_neg h0] at r0
    exact (head_number_join v0 e W (join_of r0) (by omega)).mono fun e W' ⟨h1, h2⟩ => ⟨_, h1, .v _ _, h2⟩
end Go.Proofs.YtlbodfkhenkcjaaGreatDoor.X


namespace Go.Proofs.YtlbodfkhenkcjaaGreatDoor.X
open Go Go.Proofs Go.RowKit Go.Proofs.YtlbodfkhenkcjaaGreatDoor.D
set_option maxRecDepth 100000
set_option maxHeartbeats 1000000
set_option linter.unusedVariables false
set_option linter.unusedSimpArgs false
variable {I : D.Inv}
def Block (W : World) (B : Nat) (t : TypeId) (a : Array Value) : Prop := W.heap[B]? = some (.cells a t (0, 0))
theorem Block.cell {W : World} {B : Nat} {t : TypeId} {a : Array Value} (h : Block W B t a) (k : Nat) (hk : k < a.size) : W.cell? ⟨B, k, none⟩ = some a[k] := by
  simp [World.cell?, show W.heap[B]? = _ from h, hk]
theorem Block.frozen {W : World} {B : Nat} {t : TypeId} {a : Array Value} (h : Block W B t a) (k : Nat) : W.frozen? ⟨B, k, none⟩ = false := by simp [World.frozen?, show W.heap[B]? = _ from h]
theorem Block.below {W W' : World} {B n : Nat} {t : TypeId} {a : Array Value} (h : Block W B t a) (hb : Below n W W') (hn : B < n) : Block W' B t a := (hb.block B hn).trans h
theorem Block.lt {W : World} {B : Nat} {t : TypeId} {a : Array Value} (h : Block W B t a) : B < W.heap.size := (Array.getElem?_eq_some_iff.1 h).1
structure Kept (n : Nat) (S : Nat → Prop) (w w' : World) : Prop where
  os : w'.os = w.os
  tape : w'.tape = w.tape
  output : w'.output = w.output
  size : w.heap.size ≤ w'.heap.size
  block : ∀ k, k < n → ¬ S k → w'.heap[k]? = w.heap[k]?
namespace Kept
theorem refl (n : Nat) (S : Nat → Prop) (w : World) : Kept n S w w := ⟨rfl, rfl, rfl, Nat.le_refl _, fun _ _ _ => rfl⟩
theorem of_below {n : Nat} {S : Nat → Prop} {w w' : World} (h : Below n w w') : Kept n S w w' := ⟨h.os, h.tape, h.output, h.size, fun k hk _ => h.block k hk⟩
theorem trans {n : Nat} {S : Nat → Prop} {a b c : World} (h : Kept n S a b) (k : Kept n S b c) : Kept n S a c :=
  ⟨k.os.trans h.os, k.tape.trans h.tape, k.output.trans h.output, Nat.le_trans h.size k.size, fun j hj hs => (k.block j hj hs).trans (h.block j hj hs)⟩
theorem mono {n m : Nat} {S T : Nat → Prop} {a b : World} (h : Kept n S a b) (hn : m ≤ n) (hs : ∀ k, S k → T k) : Kept m T a b :=
  ⟨h.os, h.tape, h.output, h.size, fun j hj ht => h.block j (Nat.lt_of_lt_of_le hj hn) (fun q => ht (hs j q))⟩
theorem step {n : Nat} {S : Nat → Prop} {a b c : World} (h : Kept n S a b) (hb : Below b.heap.size b c) (hn : n ≤ a.heap.size) : Kept n S a c :=
  h.trans (of_below (hb.mono (Nat.le_trans hn h.size)))
theorem alloc {n : Nat} {S : Nat → Prop} {a b : World} (h : Kept n S a b) (hn : n ≤ a.heap.size) (o : Obj) : Kept n S a (b.alloc o) := h.step (below_alloc (Below.refl _ _) o) hn
theorem drew {n : Nat} {S : Nat → Prop} {a b : World} (h : Kept n S a b) : Kept n S a b.drew := ⟨h.os, h.tape, h.output, h.size, h.block⟩
theorem set {n : Nat} {S : Nat → Prop} {a b : World} (h : Kept n S a b) (p : Addr) (v : Value) (hp : S p.block ∨ n ≤ p.block) : Kept n S a (b.setCell p v) :=
  ⟨h.os, h.tape, h.output, by simp only [World.setCell, Array.size_modify]; exact h.size, fun k hk hs => (Below.heap_setCell b p v k (by rcases hp with hp | hp; exact fun e => hs (e ▸ hp); omega)).trans (h.block k hk hs)⟩
theorem below {n : Nat} {S : Nat → Prop} {a b : World} (h : Kept n S a b) (hs : ∀ k, S k → n ≤ k) : Below n a b := ⟨h.os, h.tape, h.output, h.size, fun k hk => h.block k hk (fun q => Nat.lt_irrefl _ (Nat.lt_of_lt_of_le hk (hs k q)))⟩
theorem cell {n : Nat} {S : Nat → Prop} {a b : World} (h : Kept n S a b) {p : Addr} (hp : p.block < n) (hs : ¬ S p.block) : b.cell? p = a.cell? p := World.cell?_of_block (h.block p.block hp hs)
theorem frozen {n : Nat} {S : Nat → Prop} {a b : World} (h : Kept n S a b) {p : Addr} (hp : p.block < n) (hs : ¬ S p.block) : b.frozen? p = a.frozen? p := World.frozen?_of_block (h.block p.block hp hs)
end Kept
def GlobE (w : World) : Prop := w.cell? ⟨0, 0, none⟩ = some (.iface 253 (.agg #[(.pointer (some ⟨4, 122, none⟩))]))
theorem GlobE.below {w w' : World} (h : GlobE w) (hb : Below w.heap.size w w') : GlobE w' := (hb.cell (p := ⟨0, 0, none⟩) (World.block_lt_of_cell? w ⟨0, 0, none⟩ h)).trans h
theorem noAs_no (v : Value) (xT : TypeId) (w : World) : (Instr.typeAssert (.iface 36 v) xT 258 true).run Tryz.prog w = .ok (.tuple #[.nilIface, .bool false]) w := run_typeAssert_lacksB Tryz.underlying258 (by kernel_rfl) (by kernel_rfl) v xT w
theorem noAs_join (v : Value) (xT : TypeId) (w : World) : (Instr.typeAssert (.iface 244 v) xT 258 true).run Tryz.prog w = .ok (.tuple #[.nilIface, .bool false]) w := run_typeAssert_lacksB Tryz.underlying258 (by kernel_rfl) (by kernel_rfl) v xT w
theorem as_typeOf_no (v : Value) (w : World) : (Extern.ReflectliteType.typeOf #[.iface 36 v]).run Tryz.prog w = .ok (.iface 253 (.agg #[.pointer (some ⟨4, 36, none⟩)])) w := by kernel_rfl
theorem as_typeOf_join (v : Value) (w : World) : (Extern.ReflectliteType.typeOf #[.iface 244 v]).run Tryz.prog w = .ok (.iface 253 (.agg #[.pointer (some ⟨4, 244, none⟩)])) w := by kernel_rfl
theorem as_rlm (z : Sem Value) (f : TypeId → Addr → Nat → Nat → Sem Value) (v : Value) :
    Extern.ReflectliteValue.method z f #[v] = (do match ← Extern.ReflectliteValue.parts v with | none => z | some (t, a, fl) => f t a fl (fl % 32)) := rfl
theorem as_rls (v x : Value) : Extern.ReflectliteValue.set #[v, x] = (do
    let (some (dst, a, fl), some (src, b, _)) := (← Extern.ReflectliteValue.parts v, ← Extern.ReflectliteValue.parts x)
      | unsupported (.noEntry "extern/(internal/reflectlite.Value).Set.zeroValue")
    if fl / Extern.ReflectliteValue.flagAddr % 2 == 0 then unsupported (.noEntry "extern/(internal/reflectlite.Value).Set.unaddressable")
    let val ← loadVar src b
    if ← Extern.Rtype.directlyAssignable dst src then storeVar dst a val
    else if ← Extern.Rtype.implements dst src then
      if (← Extern.Rtype.kind src) == 20 then
        match val with
        | .nilIface => unsupported (.noEntry "extern/reflectlite: a nil value of one interface type handed on as a value of another")
        | _ => storeVar dst a val
      else storeVar dst a (.iface src val)
    else panicString ("reflectlite.Set: value of type " ++ (← Extern.Rtype.spelt src) ++ " is not assignable to type " ++ (← Extern.Rtype.spelt dst))
    pure (.tuple #[])) := rfl
theorem as_mKind (d : Nat) (h : Value) (w : World) : (Go.method (d + 1) 253 (.agg #[h]) "Kind").run Tryz.prog w = .ok (224, h) w := by kernel_rfl
theorem as_mElem (d : Nat) (h : Value) (w : World) : (Go.method (d + 1) 253 h "Elem").run Tryz.prog w = .ok (242, h) w := by kernel_rfl
theorem as_mImplements (d : Nat) (h : Value) (w : World) : (Go.method (d + 1) 253 h "Implements").run Tryz.prog w = .ok (243, h) w := by kernel_rfl
theorem as_mAssignableTo (d : Nat) (h : Value) (w : World) : (Go.method (d + 1) 253 h "AssignableTo").run Tryz.prog w = .ok (240, h) w := by kernel_rfl
theorem as_mUnwrap (d : Nat) (v : Value) (w : World) : (Go.method (d + 1) 244 v "Unwrap").run Tryz.prog w = .ok (238, v) w := by kernel_rfl
theorem as_valueOfP (t : Addr) (w : World) : (Extern.ReflectliteValue.unpack (.iface 128 (.pointer (some t)))).run Tryz.prog w = .ok (.agg #[.pointer (some ⟨4, 128, none⟩), .pointer (some ⟨w.heap.size, 0, none⟩), .int .u64 150]) (w.alloc (.cells #[.pointer (some t)] 128)) := by kernel_rfl
theorem as_valueOfT (s : ByteArray) (w : World) : (Extern.ReflectliteValue.unpack (.iface 126 (.agg #[.string s]))).run Tryz.prog w = .ok (.agg #[.pointer (some ⟨4, 126, none⟩), .pointer (some ⟨w.heap.size, 0, none⟩), .int .u64 153]) (w.alloc (.cells #[.string s] 126)) := by kernel_rfl
theorem as_typeP (a : Addr) (w : World) : (Extern.ReflectliteValue.methodAny (Extern.ReflectliteValue.valueError "reflectlite.Value.Type" 0) (fun t _ _ _ => Extern.ReflectliteType.toType t) #[.agg #[.pointer (some ⟨4, 128, none⟩), .pointer (some a), .int .u64 150]]).run Tryz.prog w = .ok (.iface 253 (.agg #[(.pointer (some ⟨4, 128, none⟩))])) w := by kernel_rfl
theorem as_kindP (w : World) : ((Extern.ReflectliteType.abiMethod fun t => (fun a : Nat => Value.int IntKind.u8 (a : Int)) <$> Extern.Rtype.kind t) #[(.pointer (some ⟨4, 128, none⟩))]).run Tryz.prog w = .ok (.int .u8 22) w := by kernel_rfl
theorem as_kindT (w : World) : ((Extern.ReflectliteType.abiMethod fun t => (fun a : Nat => Value.int IntKind.u8 (a : Int)) <$> Extern.Rtype.kind t) #[(.pointer (some ⟨4, 126, none⟩))]).run Tryz.prog w = .ok (.int .u8 25) w := by kernel_rfl
theorem as_partsP (a : Addr) (w : World) : (Extern.ReflectliteValue.parts (.agg #[.pointer (some ⟨4, 128, none⟩), .pointer (some a), .int .u64 150])).run Tryz.prog w = .ok (some (128, a, 150)) w := by kernel_rfl
theorem as_isNil (a q : Addr) (W : World) (ha : W.cell? a = some (.pointer (some q))) :
    (Extern.ReflectliteValue.method (Extern.ReflectliteValue.valueError "reflectlite.Value.IsNil" 0) Extern.ReflectliteValue.isNil #[.agg #[.pointer (some ⟨4, 128, none⟩), .pointer (some a), .int .u64 150]]).run Tryz.prog W = .ok (.bool false) W := by
  rw [as_rlm]
  simp only [Sem.run_bind, as_partsP, Result.andThen]
  simp [Extern.ReflectliteValue.isNil, loadVar, isAgg, underlying, Tryz.underlying128, ha, Result.andThen]
theorem as_elem (w : World) : (Extern.ReflectliteType.method Extern.ReflectliteType.elem #[.agg #[(.pointer (some ⟨4, 128, none⟩))]]).run Tryz.prog w = .ok (.iface 253 (.agg #[(.pointer (some ⟨4, 126, none⟩))])) w := by kernel_rfl
theorem as_implements (w : World) : (Extern.ReflectliteType.relation "Implements" Extern.ReflectliteType.implements_ #[.agg #[(.pointer (some ⟨4, 126, none⟩))], .iface 253 (.agg #[(.pointer (some ⟨4, 122, none⟩))])]).run Tryz.prog w = .ok (.bool true) w := by kernel_rfl
theorem as_typeOfT (v : Value) (w : World) : (Extern.ReflectliteType.typeOf #[.iface 126 v]).run Tryz.prog w = .ok (.iface 253 (.agg #[(.pointer (some ⟨4, 126, none⟩))])) w := by kernel_rfl
theorem as_assign_T (w : World) : (Extern.ReflectliteType.relation "AssignableTo" Extern.ReflectliteType.assignableTo #[.agg #[.pointer (some ⟨4, 126, none⟩)], .iface 253 (.agg #[(.pointer (some ⟨4, 126, none⟩))])]).run Tryz.prog w = .ok (.bool true) w := by kernel_rfl
theorem as_assign_no (w : World) : (Extern.ReflectliteType.relation "AssignableTo" Extern.ReflectliteType.assignableTo #[.agg #[.pointer (some ⟨4, 36, none⟩)], .iface 253 (.agg #[(.pointer (some ⟨4, 126, none⟩))])]).run Tryz.prog w = .ok (.bool false) w := by kernel_rfl
theorem as_assign_join (w : World) : (Extern.ReflectliteType.relation "AssignableTo" Extern.ReflectliteType.assignableTo #[.agg #[.pointer (some ⟨4, 244, none⟩)], .iface 253 (.agg #[(.pointer (some ⟨4, 126, none⟩))])]).run Tryz.prog w = .ok (.bool false) w := by kernel_rfl
theorem as_elemOf (w : World) : (Extern.Rtype.elem? 128).run Tryz.prog w = .ok (some 126) w := by kernel_rfl
theorem as_mk (q : Addr) (w : World) : (Extern.ReflectliteValue.mk 126 q Extern.ReflectliteValue.flagAddr).run Tryz.prog w = .ok (.agg #[.pointer (some ⟨4, 126, none⟩), .pointer (some q), .int .u64 409]) w := by kernel_rfl
theorem as_elemV (a q : Addr) (W : World) (ha : W.cell? a = some (.pointer (some q))) :
    (Extern.ReflectliteValue.method (Extern.ReflectliteValue.valueError "reflectlite.Value.Elem" 0) Extern.ReflectliteValue.elem #[.agg #[.pointer (some ⟨4, 128, none⟩), .pointer (some a), .int .u64 150]]).run Tryz.prog W = .ok (.agg #[.pointer (some ⟨4, 126, none⟩), .pointer (some q), .int .u64 409]) W := by
  rw [as_rlm]
  simp only [Sem.run_bind, as_partsP, Result.andThen]
  simp [Extern.ReflectliteValue.elem, loadVar, isAgg, underlying, Tryz.underlying128, ha, Result.andThen, as_elemOf, as_mk]
theorem as_partsTa (a : Addr) (w : World) : (Extern.ReflectliteValue.parts (.agg #[.pointer (some ⟨4, 126, none⟩), .pointer (some a), .int .u64 409])).run Tryz.prog w = .ok (some (126, a, 409)) w := by kernel_rfl
theorem as_partsT (a : Addr) (w : World) : (Extern.ReflectliteValue.parts (.agg #[.pointer (some ⟨4, 126, none⟩), .pointer (some a), .int .u64 153])).run Tryz.prog w = .ok (some (126, a, 153)) w := by kernel_rfl
theorem as_direct (w : World) : (Extern.Rtype.directlyAssignable 126 126).run Tryz.prog w = .ok true w := by kernel_rfl
theorem as_set {T0 : TypeId} (B C : Nat) (s : ByteArray) (x0 : Value) (W : World) (hb : Block W C 126 #[.string s]) (ht : Block W B T0 #[x0]) :
    (Extern.ReflectliteValue.set #[.agg #[.pointer (some ⟨4, 126, none⟩), .pointer (some ⟨B, 0, none⟩), .int .u64 409], .agg #[.pointer (some ⟨4, 126, none⟩), .pointer (some ⟨C, 0, none⟩), .int .u64 153]]).run Tryz.prog W = .ok (.tuple #[]) (W.setRow B #[.string s]) := by
  have hl := run_loadVar_row (P := Tryz.prog) W C 126 126 #[.string s] (0, 0) _ hb Tryz.underlying126 rfl (by kernel_rfl)
  have hs := run_storeVar_row (P := Tryz.prog) W B T0 126 #[x0] #[.string s] ht (by kernel_rfl) (by simp) (by simp [Value.oneCell'])
  rw [as_rls]
  simp only [Sem.run_bind, as_partsTa, as_partsT, Result.andThen]
  simp [Extern.ReflectliteValue.flagAddr, hl, Result.andThen, as_direct, hs]
theorem setRow_block {W : World} {B : Nat} {t : TypeId} {a : Array Value} (h : Block W B t a) (cs : Array Value) : Block (W.setRow B cs) B t cs := by
  obtain ⟨hlt, hk⟩ := Array.getElem?_eq_some_iff.1 h
  show (W.heap.modify B _)[B]? = _
  rw [Array.getElem?_eq_getElem (by rw [Array.size_modify]; exact hlt), Array.getElem_modify_self, hk]
theorem setRow_size (W : World) (B : Nat) (cs : Array Value) : (W.setRow B cs).heap.size = W.heap.size := by simp [World.setRow]
theorem setRow_other (W : World) (B : Nat) (cs : Array Value) (k : Nat) (h : k ≠ B) : (W.setRow B cs).heap[k]? = W.heap[k]? := by
  show (W.heap.modify B _)[k]? = _
  rw [Array.getElem?_modify, if_neg (fun e => h e.symm)]
set_option maxHeartbeats 1000000 in
theorem as_no (v : Value) (B a : Nat) (w : World) :
    Calls Tryz.prog 95 #[.iface 36 v, .iface 128 (.pointer (some ⟨B, 0, none⟩)), .agg #[.pointer (some ⟨4, 128, none⟩), .pointer (some ⟨a, 0, none⟩), .int .u64 150], .iface 253 (.agg #[(.pointer (some ⟨4, 126, none⟩))])] w fun e w' => e = .returned (.bool false) ∧ Below w.heap.size w w' := by
  have hto := @Go.run_callFunc_extern Tryz.prog 151 _ Extern.ReflectliteType.typeOf Tryz.func151 (by kernel_rfl) (by kernel_rfl) (by kernel_rfl) (by kernel_rfl)
  have has := @Go.run_callFunc_extern Tryz.prog 240 _ (Extern.ReflectliteType.relation "AssignableTo" Extern.ReflectliteType.assignableTo) Tryz.func240 (by kernel_rfl) (by kernel_rfl) (by kernel_rfl) (by kernel_rfl)
  have g1 := as_typeOf_no
  have g2 := as_mAssignableTo
  have g3 := as_assign_no
  have g4 := noAs_no
  have g5 := noUn_no
  have g6 := noUs_no
  go_enter Tryz.func95, Tryz.ntmps95
  go_wp2
  refine wp_loop_rounds 1 ?_
  rw [rounds_succ]
  go_wp2
  go_ret
  exact ⟨rfl, below_alloc (Below.refl _ _) _⟩
set_option maxHeartbeats 1000000 in
theorem as_hit {T0 : TypeId} (s : ByteArray) (x0 : Value) (B a : Nat) (w : World) (ha : w.cell? ⟨a, 0, none⟩ = some (.pointer (some ⟨B, 0, none⟩))) (hB : Block w B T0 #[x0]) :
    Calls Tryz.prog 95 #[.iface 126 (.agg #[.string s]), .iface 128 (.pointer (some ⟨B, 0, none⟩)), .agg #[.pointer (some ⟨4, 128, none⟩), .pointer (some ⟨a, 0, none⟩), .int .u64 150], .iface 253 (.agg #[(.pointer (some ⟨4, 126, none⟩))])] w fun e w' => e = .returned (.bool true) ∧ Block w' B T0 #[.string s] ∧ Kept w.heap.size (· = B) w w' := by
  have hvo := @Go.run_callFunc_extern Tryz.prog 92 _ (fun args => Extern.ReflectliteValue.unpack (args.getD 0 (.tuple #[]))) Tryz.func92 (by kernel_rfl) (by kernel_rfl) (by kernel_rfl) (by kernel_rfl)
  have hto := @Go.run_callFunc_extern Tryz.prog 151 _ Extern.ReflectliteType.typeOf Tryz.func151 (by kernel_rfl) (by kernel_rfl) (by kernel_rfl) (by kernel_rfl)
  have has := @Go.run_callFunc_extern Tryz.prog 240 _ (Extern.ReflectliteType.relation "AssignableTo" Extern.ReflectliteType.assignableTo) Tryz.func240 (by kernel_rfl) (by kernel_rfl) (by kernel_rfl) (by kernel_rfl)
  have hve := @Go.run_callFunc_extern Tryz.prog 152 _ (Extern.ReflectliteValue.method (Extern.ReflectliteValue.valueError "reflectlite.Value.Elem" 0) Extern.ReflectliteValue.elem) Tryz.func152 (by kernel_rfl) (by kernel_rfl) (by kernel_rfl) (by kernel_rfl)
  have hse := @Go.run_callFunc_extern Tryz.prog 153 _ Extern.ReflectliteValue.set Tryz.func153 (by kernel_rfl) (by kernel_rfl) (by kernel_rfl) (by kernel_rfl)
  have g1 := as_typeOfT
  have g2 := as_mAssignableTo
  have g3 := as_assign_T
  have g4 := as_valueOfT s
  have hlt := hB.lt
  have hal : a < w.heap.size := World.block_lt_of_cell? w ⟨a, 0, none⟩ ha
  have hb1 := below_alloc (Below.refl w.heap.size w) (.cells #[.pointer (some ⟨4, 128, none⟩), .pointer (some ⟨a, 0, none⟩), .int .u64 150] 184)
  have hB1 := hB.below (below_alloc hb1 (.cells #[.string s] 126)) hlt
  have g5 := as_elemV ⟨a, 0, none⟩ ⟨B, 0, none⟩ (w.alloc (.cells #[.pointer (some ⟨4, 128, none⟩), .pointer (some ⟨a, 0, none⟩), .int .u64 150] 184)) ((hb1.cell (p := ⟨a, 0, none⟩) hal).trans ha)
  have g6 := as_set B (w.heap.size + 1) s x0 _ (by have := World.alloc_heap_new (w.alloc (.cells #[.pointer (some ⟨4, 128, none⟩), .pointer (some ⟨a, 0, none⟩), .int .u64 150] 184)) (.cells #[.string s] 126); rw [World.size_alloc] at this; exact this) hB1
  have HB1 := Aside0.mk hB1
  have HK := Aside0.mk (Kept.of_below (S := (· = B)) (below_alloc hb1 (.cells #[.string s] 126)))
  clear hB1 hb1 ha hB
  go_enter Tryz.func95, Tryz.ntmps95
  go_wp2
  refine wp_loop_rounds 1 ?_
  rw [rounds_succ]
  go_wp2
  go_ret
  refine ⟨rfl, setRow_block HB1.out _, ⟨HK.out.os, HK.out.tape, HK.out.output, by have := HK.out.size; rw [setRow_size]; exact this, fun k hk hs => ?_⟩⟩
  rw [setRow_other _ _ _ _ hs]
  exact HK.out.block k hk hs
structure JoinA (w : World) (v : Value) (s : ByteArray) : Prop where
  is : ∃ (p : Addr) (R o : Nat) (c : Nat) (x : Value), v = .iface 244 (.pointer (some p)) ∧ 2 ≤ c ∧ w.cell? p = some (.slice (some ⟨R, o, none⟩) 2 c) ∧ w.cell? ⟨R, o, none⟩ = some (.iface 36 x) ∧ w.cell? ⟨R, o + 1, none⟩ = some (.iface 126 (.agg #[.string s]))
theorem JoinA.below {w w' : World} {v : Value} {s : ByteArray} (h : JoinA w v s) (hb : Below w.heap.size w w') : JoinA w' v s := by
  obtain ⟨p, R, o, c, s, h1, hc, h2, h3, h4⟩ := h.is
  exact ⟨p, R, o, c, s, h1, hc, (hb.cell (World.block_lt_of_cell? w _ h2)).trans h2, (hb.cell (World.block_lt_of_cell? w _ h3)).trans h3, (hb.cell (World.block_lt_of_cell? w _ h4)).trans h4⟩
set_option maxHeartbeats 2000000 in
theorem as_join {T0 : TypeId} (v : Value) (s : ByteArray) (x0 : Value) (B a : Nat) (w : World) (ha : w.cell? ⟨a, 0, none⟩ = some (.pointer (some ⟨B, 0, none⟩))) (hB : Block w B T0 #[x0]) (hv : JoinA w v s) :
    Calls Tryz.prog 95 #[v, .iface 128 (.pointer (some ⟨B, 0, none⟩)), .agg #[.pointer (some ⟨4, 128, none⟩), .pointer (some ⟨a, 0, none⟩), .int .u64 150], .iface 253 (.agg #[(.pointer (some ⟨4, 126, none⟩))])] w fun e w' => e = .returned (.bool true) ∧ Block w' B T0 #[.string s] ∧ Kept w.heap.size (· = B) w w' := by
  obtain ⟨p, R, o, c, x, rfl, hcap, hp, h0, h1⟩ := hv.is
  have hto := @Go.run_callFunc_extern Tryz.prog 151 _ Extern.ReflectliteType.typeOf Tryz.func151 (by kernel_rfl) (by kernel_rfl) (by kernel_rfl) (by kernel_rfl)
  have has := @Go.run_callFunc_extern Tryz.prog 240 _ (Extern.ReflectliteType.relation "AssignableTo" Extern.ReflectliteType.assignableTo) Tryz.func240 (by kernel_rfl) (by kernel_rfl) (by kernel_rfl) (by kernel_rfl)
  have g1 := as_typeOf_join
  have g2 := as_mAssignableTo
  have g3 := as_assign_join
  have g4 := noAs_join
  have g5 := noUn_join
  have g6 := hasUs_join
  have g7 := as_mUnwrap
  have hlt := hB.lt
  have hal : a < w.heap.size := World.block_lt_of_cell? w ⟨a, 0, none⟩ ha
  have hpl : p.block < w.heap.size := World.block_lt_of_cell? w p hp
  have hRl : R < w.heap.size := World.block_lt_of_cell? w ⟨R, o, none⟩ h0
  have hb1 := below_alloc (Below.refl w.heap.size w) (.cells #[.pointer (some ⟨4, 128, none⟩), .pointer (some ⟨a, 0, none⟩), .int .u64 150] 184)
  have hX := World.alloc_heap_new w (.cells #[.pointer (some ⟨4, 128, none⟩), .pointer (some ⟨a, 0, none⟩), .int .u64 150] 184)
  have hP := (hb1.cell (p := p) hpl).trans hp
  have hb1' := Aside0.mk hb1
  have HX : Aside0 (Block (w.alloc (.cells #[.pointer (some ⟨4, 128, none⟩), .pointer (some ⟨a, 0, none⟩), .int .u64 150] 184)) w.heap.size 184 #[.pointer (some ⟨4, 128, none⟩), .pointer (some ⟨a, 0, none⟩), .int .u64 150]) := ⟨hX⟩
  have HP := Aside0.mk hP
  have H0 := Aside0.mk h0
  have H1 := Aside0.mk h1
  have HA := Aside0.mk ha
  have HBk := Aside0.mk hB
  clear hb1 hX hP hp h0 h1 ha hB hv
  have c0 := (hb1'.out.cell (p := ⟨R, o, none⟩) hRl).trans H0.out
  go_enter Tryz.func95, Tryz.ntmps95
  go_wp2
  refine wp_loop_rounds 1 ?_
  rw [rounds_succ]
  go_wp2_with (first | (go_at_call 238; refine (join_unwrap p _ _ HP.out).mono ?_; rintro e w' ⟨rfl, rfl⟩))
  refine wp_loop_rounds 2 ?_
  rw [rounds_succ]
  go_wp2_with (first | (go_at_call 95; refine (as_no x B a _).mono ?_; rintro e w2 ⟨rfl, h2⟩; have HW2 := Aside0.mk (below_step hb1'.out h2); have HX2 := Aside0.mk (HX.out.below h2 HX.out.lt); clear h2; have c1 := (HW2.out.cell (p := ⟨R, o + 1, none⟩) hRl).trans H1.out; have xx0 := HX2.out.cell 0 (by simp); have xx1 := HX2.out.cell 1 (by simp); have xx2 := HX2.out.cell 2 (by simp); have HA2 := Aside0.mk ((HW2.out.cell (p := ⟨a, 0, none⟩) hal).trans HA.out); have HB2 := Aside0.mk (HBk.out.below HW2.out hlt)))
  rw [rounds_succ]
  go_wp2_with (first | (go_at_call 95; refine (as_hit s x0 B a _ HA2.out HB2.out).mono ?_; rintro e w3 ⟨rfl, h3, k3⟩; have H3 := Aside0.mk h3; have K3 := Aside0.mk ((Kept.of_below HW2.out).trans (k3.mono HW2.out.size (fun _ h => h))); clear h3 k3))
  try rw [rounds_succ]
  try go_wp2
  go_ret
  exact ⟨rfl, H3.out, K3.out⟩
theorem As_nil (B : Nat) (w : World) :
    Calls Tryz.prog 53 #[.nilIface, .iface 128 (.pointer (some ⟨B, 0, none⟩))] w fun e w' => e = .returned (.bool false) ∧ w' = w := by
  go_enter Tryz.func53, Tryz.ntmps53
  go_wp2
  go_ret
  exact ⟨rfl, rfl⟩
set_option maxHeartbeats 1000000 in
theorem As_hit {T0 : TypeId} (s : ByteArray) (x0 : Value) (B : Nat) (w : World) (hg : GlobE w) (hB : Block w B T0 #[x0]) :
    Calls Tryz.prog 53 #[.iface 126 (.agg #[.string s]), .iface 128 (.pointer (some ⟨B, 0, none⟩))] w fun e w' => e = .returned (.bool true) ∧ Block w' B T0 #[.string s] ∧ Kept w.heap.size (· = B) w w' := by
  have hvo := @Go.run_callFunc_extern Tryz.prog 92 _ (fun args => Extern.ReflectliteValue.unpack (args.getD 0 (.tuple #[]))) Tryz.func92 (by kernel_rfl) (by kernel_rfl) (by kernel_rfl) (by kernel_rfl)
  have hty := @Go.run_callFunc_extern Tryz.prog 93 _ (Extern.ReflectliteValue.methodAny (Extern.ReflectliteValue.valueError "reflectlite.Value.Type" 0) (fun t _ _ _ => Extern.ReflectliteType.toType t)) Tryz.func93 (by kernel_rfl) (by kernel_rfl) (by kernel_rfl) (by kernel_rfl)
  have hnil := @Go.run_callFunc_extern Tryz.prog 94 _ (Extern.ReflectliteValue.method (Extern.ReflectliteValue.valueError "reflectlite.Value.IsNil" 0) Extern.ReflectliteValue.isNil) Tryz.func94 (by kernel_rfl) (by kernel_rfl) (by kernel_rfl) (by kernel_rfl)
  have hkd := @Go.run_callFunc_extern Tryz.prog 224 _ (Extern.ReflectliteType.abiMethod fun t => do pure (.int .u8 (← Extern.Rtype.kind t))) Tryz.func224 (by kernel_rfl) (by kernel_rfl) (by kernel_rfl) (by kernel_rfl)
  have hel := @Go.run_callFunc_extern Tryz.prog 242 _ (Extern.ReflectliteType.method Extern.ReflectliteType.elem) Tryz.func242 (by kernel_rfl) (by kernel_rfl) (by kernel_rfl) (by kernel_rfl)
  have him := @Go.run_callFunc_extern Tryz.prog 243 _ (Extern.ReflectliteType.relation "Implements" Extern.ReflectliteType.implements_) Tryz.func243 (by kernel_rfl) (by kernel_rfl) (by kernel_rfl) (by kernel_rfl)
  have f6 := as_valueOfP
  have f7 := as_typeP
  have mK := as_mKind
  have mE := as_mElem
  have mI := as_mImplements
  have k27 := as_kindP
  have k25 := as_kindT
  have e27 := as_elem
  have i25 := as_implements
  have hlt := hB.lt
  have h0lt : 0 < w.heap.size := World.block_lt_of_cell? w ⟨0, 0, none⟩ hg
  have hb1 := below_alloc (below_alloc (Below.refl w.heap.size w) (.cells #[.pointer (some ⟨B, 0, none⟩)] 128)) (.cells #[.pointer (some ⟨4, 128, none⟩), .pointer (some ⟨w.heap.size, 0, none⟩), .int .u64 150] 184)
  have hA : ((w.alloc (.cells #[.pointer (some ⟨B, 0, none⟩)] 128)).alloc (.cells #[.pointer (some ⟨4, 128, none⟩), .pointer (some ⟨w.heap.size, 0, none⟩), .int .u64 150] 184)).cell? ⟨w.heap.size, 0, none⟩ = some (.pointer (some ⟨B, 0, none⟩)) := by
    have := below_alloc (Below.refl (w.alloc (.cells #[.pointer (some ⟨B, 0, none⟩)] 128)).heap.size (w.alloc (.cells #[.pointer (some ⟨B, 0, none⟩)] 128))) (.cells #[.pointer (some ⟨4, 128, none⟩), .pointer (some ⟨w.heap.size, 0, none⟩), .int .u64 150] 184)
    rw [this.cell (p := ⟨w.heap.size, 0, none⟩) (by simp)]
    simp
  have n8 := as_isNil ⟨w.heap.size, 0, none⟩ ⟨B, 0, none⟩ ((w.alloc (.cells #[.pointer (some ⟨B, 0, none⟩)] 128)).alloc (.cells #[.pointer (some ⟨4, 128, none⟩), .pointer (some ⟨w.heap.size, 0, none⟩), .int .u64 150] 184)) hA
  have hg2 := (hb1.cell (p := ⟨0, 0, none⟩) h0lt).trans hg
  have HA := Aside0.mk hA
  have HBk := Aside0.mk (hB.below hb1 hlt)
  have HL := Aside0.mk hb1
  clear hA hb1 hB hg
  go_enter Tryz.func53, Tryz.ntmps53
  go_wp2_with (first | (go_at_call 95; refine (as_hit s x0 B w.heap.size _ HA.out HBk.out).mono ?_; rintro e w3 ⟨rfl, h3, k3⟩; have H3 := Aside0.mk h3; have K3 := Aside0.mk ((Kept.of_below HL.out).trans (k3.mono HL.out.size (fun _ h => h))); clear h3 k3))
  go_ret
  exact ⟨rfl, H3.out, K3.out⟩
set_option maxHeartbeats 1000000 in
theorem As_join {T0 : TypeId} (v : Value) (s : ByteArray) (x0 : Value) (B : Nat) (w : World) (hg : GlobE w) (hB : Block w B T0 #[x0]) (hv : JoinA w v s) :
    Calls Tryz.prog 53 #[v, .iface 128 (.pointer (some ⟨B, 0, none⟩))] w fun e w' => e = .returned (.bool true) ∧ Block w' B T0 #[.string s] ∧ Kept w.heap.size (· = B) w w' := by
  have hvo := @Go.run_callFunc_extern Tryz.prog 92 _ (fun args => Extern.ReflectliteValue.unpack (args.getD 0 (.tuple #[]))) Tryz.func92 (by kernel_rfl) (by kernel_rfl) (by kernel_rfl) (by kernel_rfl)
  have hty := @Go.run_callFunc_extern Tryz.prog 93 _ (Extern.ReflectliteValue.methodAny (Extern.ReflectliteValue.valueError "reflectlite.Value.Type" 0) (fun t _ _ _ => Extern.ReflectliteType.toType t)) Tryz.func93 (by kernel_rfl) (by kernel_rfl) (by kernel_rfl) (by kernel_rfl)
  have hnil := @Go.run_callFunc_extern Tryz.prog 94 _ (Extern.ReflectliteValue.method (Extern.ReflectliteValue.valueError "reflectlite.Value.IsNil" 0) Extern.ReflectliteValue.isNil) Tryz.func94 (by kernel_rfl) (by kernel_rfl) (by kernel_rfl) (by kernel_rfl)
  have hkd := @Go.run_callFunc_extern Tryz.prog 224 _ (Extern.ReflectliteType.abiMethod fun t => do pure (.int .u8 (← Extern.Rtype.kind t))) Tryz.func224 (by kernel_rfl) (by kernel_rfl) (by kernel_rfl) (by kernel_rfl)
  have hel := @Go.run_callFunc_extern Tryz.prog 242 _ (Extern.ReflectliteType.method Extern.ReflectliteType.elem) Tryz.func242 (by kernel_rfl) (by kernel_rfl) (by kernel_rfl) (by kernel_rfl)
  have him := @Go.run_callFunc_extern Tryz.prog 243 _ (Extern.ReflectliteType.relation "Implements" Extern.ReflectliteType.implements_) Tryz.func243 (by kernel_rfl) (by kernel_rfl) (by kernel_rfl) (by kernel_rfl)
  have f6 := as_valueOfP
  have f7 := as_typeP
  have mK := as_mKind
  have mE := as_mElem
  have mI := as_mImplements
  have k27 := as_kindP
  have k25 := as_kindT
  have e27 := as_elem
  have i25 := as_implements
  have hlt := hB.lt
  have h0lt : 0 < w.heap.size := World.block_lt_of_cell? w ⟨0, 0, none⟩ hg
  have hb1 := below_alloc (below_alloc (Below.refl w.heap.size w) (.cells #[.pointer (some ⟨B, 0, none⟩)] 128)) (.cells #[.pointer (some ⟨4, 128, none⟩), .pointer (some ⟨w.heap.size, 0, none⟩), .int .u64 150] 184)
  have hA : ((w.alloc (.cells #[.pointer (some ⟨B, 0, none⟩)] 128)).alloc (.cells #[.pointer (some ⟨4, 128, none⟩), .pointer (some ⟨w.heap.size, 0, none⟩), .int .u64 150] 184)).cell? ⟨w.heap.size, 0, none⟩ = some (.pointer (some ⟨B, 0, none⟩)) := by
    have := below_alloc (Below.refl (w.alloc (.cells #[.pointer (some ⟨B, 0, none⟩)] 128)).heap.size (w.alloc (.cells #[.pointer (some ⟨B, 0, none⟩)] 128))) (.cells #[.pointer (some ⟨4, 128, none⟩), .pointer (some ⟨w.heap.size, 0, none⟩), .int .u64 150] 184)
    rw [this.cell (p := ⟨w.heap.size, 0, none⟩) (by simp)]
    simp
  have n8 := as_isNil ⟨w.heap.size, 0, none⟩ ⟨B, 0, none⟩ ((w.alloc (.cells #[.pointer (some ⟨B, 0, none⟩)] 128)).alloc (.cells #[.pointer (some ⟨4, 128, none⟩), .pointer (some ⟨w.heap.size, 0, none⟩), .int .u64 150] 184)) hA
  have hg2 := (hb1.cell (p := ⟨0, 0, none⟩) h0lt).trans hg
  have HA := Aside0.mk hA
  have HBk := Aside0.mk (hB.below hb1 hlt)
  have HL := Aside0.mk hb1
  have HV := Aside0.mk (hv.below hb1)
  clear hv
  obtain ⟨p, R, o, c, x, rfl, _, _, _, _⟩ := HV.out.is
  clear hA hb1 hB hg
  go_enter Tryz.func53, Tryz.ntmps53
  go_wp2_with (first | (go_at_call 95; refine (as_join _ s x0 B w.heap.size _ HA.out HBk.out HV.out).mono ?_; rintro e w3 ⟨rfl, h3, k3⟩; have H3 := Aside0.mk h3; have K3 := Aside0.mk ((Kept.of_below HL.out).trans (k3.mono HL.out.size (fun _ h => h))); clear h3 k3))
  go_ret
  exact ⟨rfl, H3.out, K3.out⟩

end Go.Proofs.YtlbodfkhenkcjaaGreatDoor.X


namespace Go.Proofs.YtlbodfkhenkcjaaGreatDoor.X
open Go Go.Proofs Go.RowKit Go.Proofs.YtlbodfkhenkcjaaGreatDoor.D
set_option maxRecDepth 100000
set_option maxHeartbeats 1000000
set_option linter.unusedVariables false
set_option linter.unusedSimpArgs false
variable {I : D.Inv}
attribute [local irreducible] D.DPure D.DEff D.callable spanN stripA stripR pvS pvE putS

def c118 : DFun := ⟨9, [.t 2], .seq (.reg [⟨some 2, .mv (.c (.bool false)), none⟩]) (.seq (.reg [⟨some 3, .mv (.t 0), none⟩, ⟨some 4, .bin .geq (.t 3) (.c (.int .i64 1)), none⟩, ⟨some 5, .mv (.t 4), none⟩, ⟨some 6, .mv (.t 0), some (5, true)⟩, ⟨some 7, .bin .lss (.t 6) (.c (.int .i64 4096)), some (5, true)⟩, ⟨some 8, .pick (.t 5) (.t 7) (.c (.bool false)), none⟩, ⟨some 2, .mv (.t 8), none⟩]) .ret)⟩
theorem e118 : cfun Tryz.prog 118 = some c118 := by kernel_rfl
def c119 : DFun := ⟨21, [.t 4], .seq (.reg [⟨some 2, .box (.t 0), none⟩, ⟨some 4, .mv (.c (.bool false)), none⟩]) (.seq (.reg [⟨some 5, .ld 4 true (.t 2), none⟩, ⟨some 6, .call 169 [.t 5], none⟩, ⟨some 7, .mv (.t 6), none⟩, ⟨some 8, .fa 0 (.t 2), some (7, true)⟩, ⟨some 9, .ld 1 false (.t 8), some (7, true)⟩, ⟨some 10, .fa 2 (.t 2), some (7, true)⟩, ⟨some 11, .ld 1 false (.t 10), some (7, true)⟩, ⟨some 12, .fa 1 (.t 2), some (7, true)⟩, ⟨some 13, .ld 1 false (.t 12), some (7, true)⟩, ⟨some 14, .len true (.t 13), some (7, true)⟩, ⟨some 15, .mm true (.t 11) [.t 14], some (7, true)⟩, ⟨some 16, .mv (.t 1), some (7, true)⟩, ⟨some 17, .bin .quo (.t 16) (.c (.int .i64 4)), some (7, true)⟩, ⟨some 18, .bin .gtr (.t 15) (.t 17), some (7, true)⟩, ⟨some 19, .beq false (.t 9) (.t 18), some (7, true)⟩, ⟨some 20, .pick (.t 7) (.t 19) (.c (.bool false)), none⟩, ⟨some 4, .mv (.t 20), none⟩]) .ret)⟩
theorem e119 : cfun Tryz.prog 119 = some c119 := by kernel_rfl
def c171 : DFun := ⟨22, [.t 4], .seq (.reg [⟨some 4, .mv (.c (.slice none 0 0)), none⟩]) (.seq (.reg [⟨some 5, .mv (.c (.slice none 0 0)), none⟩]) (.seq (.seq (.reg [⟨some 8, .mv (.t 0), none⟩, ⟨some 9, .len false (.t 8), none⟩, ⟨some 10, .mv (.c (.int .i64 0)), none⟩]) (.block 0 (.loop (.seq (.reg [⟨some 11, .bin .lss (.t 10) (.t 9), none⟩]) (.seq (.cond (.t 11) .skip (.exit 0)) (.seq (.block 1 (.seq (.reg [⟨some 12, .ixa 5 (.t 8) (.t 10), none⟩, ⟨some 13, .ld 5 true (.t 12), none⟩, ⟨some 7, .zero (.agg #[.string ⟨#[]⟩, .bool false, .string ⟨#[]⟩, .int .i64 0, .int .i64 0]), none⟩, ⟨none, .st 5 (.t 7) (.t 13), none⟩]) (.reg [⟨some 14, .mv (.t 5), none⟩, ⟨some 15, .mv (.t 1), none⟩, ⟨some 16, .ld 5 true (.t 7), none⟩, ⟨some 17, .callv (.t 15) [.t 16], none⟩, ⟨some 18, .bsl 1 [.t 17], none⟩, ⟨some 19, .app 9 1 16 (.t 14) (.t 18), none⟩, ⟨some 5, .mv (.t 19), none⟩]))) (.reg [⟨some 20, .bin .add (.t 10) (.c (.int .i64 1)), none⟩, ⟨some 10, .mv (.t 20), none⟩]))))))) (.seq (.reg [⟨some 21, .mv (.t 5), none⟩, ⟨some 4, .mv (.t 21), none⟩]) .ret)))⟩
theorem e171 : cfun Tryz.prog 171 = some c171 := by kernel_rfl
def c172 : DFun := ⟨5, [.t 2], .seq (.reg [⟨some 1, .box (.t 0), none⟩, ⟨some 2, .mv (.c (.string ⟨#[]⟩)), none⟩]) (.seq (.reg [⟨some 3, .fa 0 (.t 1), none⟩, ⟨some 4, .ld 1 false (.t 3), none⟩, ⟨some 2, .mv (.t 4), none⟩]) .ret)⟩
theorem e172 : cfun Tryz.prog 172 = some c172 := by kernel_rfl
def c121 : DFun := ⟨6, [.t 2], .seq (.reg [⟨some 1, .box (.t 0), none⟩, ⟨some 2, .mv (.c (.slice none 0 0)), none⟩]) (.seq (.reg [⟨some 3, .fa 3 (.t 1), none⟩, ⟨some 4, .ld 1 false (.t 3), none⟩, ⟨some 5, .calle 171 [.t 4, .f 172], none⟩, ⟨some 2, .mv (.t 5), none⟩]) .ret)⟩
theorem e121 : cfun Tryz.prog 121 = some c121 := by kernel_rfl
def c69 : DFun := ⟨56, [.t 2, .t 3], .seq (.reg [⟨some 1, .box (.t 0), none⟩, ⟨some 2, .mv (.c (.string ⟨#[]⟩)), none⟩, ⟨some 3, .mv (.c (.slice none 0 0)), none⟩]) (.seq (.reg [⟨some 12, .ld 4 true (.t 1), none⟩, ⟨some 13, .call 121 [.t 12], none⟩, ⟨some 14, .call 120 [.t 13], none⟩, ⟨some 11, .mv (.t 14), none⟩, ⟨some 15, .ext (.t 11) 0, none⟩, ⟨some 16, .ext (.t 11) 1, none⟩, ⟨some 4, .mv (.t 15), none⟩, ⟨some 5, .mv (.t 16), none⟩]) (.seq (.reg [⟨some 6, .mv (.c (.slice none 0 0)), none⟩]) (.seq (.seq (.reg [⟨some 17, .fa 3 (.t 1), none⟩, ⟨some 18, .ld 1 false (.t 17), none⟩, ⟨some 19, .len false (.t 18), none⟩, ⟨some 20, .mv (.c (.int .i64 0)), none⟩]) (.block 0 (.loop (.seq (.reg [⟨some 21, .bin .lss (.t 20) (.t 19), none⟩]) (.seq (.cond (.t 21) .skip (.exit 0)) (.seq (.block 1 (.seq (.reg [⟨some 22, .mv (.t 20), none⟩, ⟨some 23, .ixa 5 (.t 18) (.t 20), none⟩, ⟨some 24, .ld 5 true (.t 23), none⟩, ⟨some 8, .zero (.agg #[.string ⟨#[]⟩, .bool false, .string ⟨#[]⟩, .int .i64 0, .int .i64 0]), none⟩, ⟨some 7, .mv (.t 22), none⟩, ⟨none, .st 5 (.t 8) (.t 24), none⟩]) (.seq (.reg [⟨some 26, .mv (.t 5), none⟩, ⟨some 27, .mv (.t 7), none⟩, ⟨some 28, .ixa 1 (.t 26) (.t 27), none⟩, ⟨some 29, .ld 1 false (.t 28), none⟩, ⟨some 30, .fa 1 (.t 8), none⟩, ⟨some 31, .ld 4 true (.t 30), none⟩, ⟨some 32, .call 122 [.t 29, .t 31], none⟩, ⟨some 25, .mv (.t 32), none⟩, ⟨some 33, .ext (.t 25) 0, none⟩, ⟨some 34, .ext (.t 25) 1, none⟩, ⟨some 9, .mv (.t 33), none⟩, ⟨some 10, .mv (.t 34), none⟩]) (.reg [⟨some 35, .mv (.t 6), none⟩, ⟨some 36, .mv (.t 9), none⟩, ⟨some 37, .bsl 1 [.t 36], none⟩, ⟨some 38, .app 9 1 16 (.t 35) (.t 37), none⟩, ⟨some 6, .mv (.t 38), none⟩])))) (.reg [⟨some 39, .bin .add (.t 20) (.c (.int .i64 1)), none⟩, ⟨some 20, .mv (.t 39), none⟩]))))))) (.seq (.reg [⟨some 40, .mv (.t 4), none⟩, ⟨some 41, .len true (.t 40), none⟩, ⟨some 42, .cvt .u64 (.t 41), none⟩, ⟨some 43, .call 123 [.t 42], none⟩, ⟨some 44, .mv (.t 4), none⟩, ⟨some 45, .bin .add (.t 43) (.t 44), none⟩, ⟨some 46, .fa 2 (.t 1), none⟩, ⟨some 47, .ld 1 false (.t 46), none⟩, ⟨some 48, .len true (.t 47), none⟩, ⟨some 49, .cvt .u64 (.t 48), none⟩, ⟨some 50, .call 123 [.t 49], none⟩, ⟨some 51, .bin .add (.t 45) (.t 50), none⟩, ⟨some 52, .fa 2 (.t 1), none⟩, ⟨some 53, .ld 1 false (.t 52), none⟩, ⟨some 54, .bin .add (.t 51) (.t 53), none⟩, ⟨some 55, .mv (.t 6), none⟩, ⟨some 2, .mv (.t 54), none⟩, ⟨some 3, .mv (.t 55), none⟩]) .ret))))⟩
theorem e69 : cfun Tryz.prog 69 = some c69 := by kernel_rfl
theorem lnumber_D (n : Int) : DPure Tp I 118 [VN .i64 n] (BV (decide (pageP n))) := by
  refine z_pure (e0 := ?e0x1) mix e118 rfl ?z01 ?_
  (case z01 => exact rfl)
  dsimp only [c118]
  repeat' (first | refine zs ?_ | refine Br.mk ?_ ?_ | intro _ | refine zf ?_ | fail)
  all_goals first
    | (refine bool_of (b := true) ?_ (Eq.symm (decide_eq_true (by unfold pageP; omega))); kernel_rfl)
    | (refine bool_of (b := false) ?_ (Eq.symm (decide_eq_false (by unfold pageP; omega))); kernel_rfl)
def lvalP (v : ValM) (p : Int) : Prop := rightP v ∧ (v.over = true ↔ p / 4 < max v.len v.s.size)
instance (v : ValM) (p : Int) : Decidable (lvalP v p) := inferInstanceAs (Decidable (_ ∧ _))
theorem lvalue_D0 (o : Bool) (s : ByteArray) (n g p : Int) (hp : 0 ≤ p ∧ p ≤ 1000000) : DPure Tp I 119 [.v (.agg #[.bool o, .string s, .int .i64 n, .int .i64 g]), VN .i64 p] (BV (decide (lvalP ⟨o, s, n, g⟩ p))) := by
  have d0 := vright_D (I := I) ⟨o, s, n, g⟩
  cases o
  · refine z_pure (e0 := ?e0x2) mix e119 rfl ?z02 ?_
    (case z02 => exact rfl)
    dsimp only [c119]
    repeat' (first | ((with_reducible apply z_callb); (case' hd => apply d0); (case hw => exact wknL_ok rfl); (try any_goals exact sd)) | refine zs ?_ | refine Br.mk ?_ ?_ | intro _ | refine zf ?_ | fail)
    all_goals first
      | (refine bool_of (b := true) ?_ (Eq.symm (decide_eq_true (by have hr := of_decide_eq_true ‹decide (rightP _) = true›; unfold lvalP; simp; (first | exact ⟨hr, by omega⟩ | exact ⟨hr, fun h => by omega⟩)))); kernel_rfl)
      | (refine bool_of (b := false) ?_ (Eq.symm (decide_eq_false (by unfold lvalP; simp; omega))); kernel_rfl)
      | (refine bool_of (b := false) ?_ (Eq.symm (decide_eq_false (fun h => of_decide_eq_false ‹decide (rightP _) = false› h.1))); kernel_rfl)
      | trace_state
  · refine z_pure (e0 := ?e0x3) mix e119 rfl ?z03 ?_
    (case z03 => exact rfl)
    dsimp only [c119]
    repeat' (first | ((with_reducible apply z_callb); (case' hd => apply d0); (case hw => exact wknL_ok rfl); (try any_goals exact sd)) | refine zs ?_ | refine Br.mk ?_ ?_ | intro _ | refine zf ?_ | fail)
    all_goals first
      | (refine bool_of (b := true) ?_ (Eq.symm (decide_eq_true (by have hr := of_decide_eq_true ‹decide (rightP _) = true›; unfold lvalP; simp; (first | exact ⟨hr, by omega⟩ | exact ⟨hr, fun h => by omega⟩)))); kernel_rfl)
      | (refine bool_of (b := false) ?_ (Eq.symm (decide_eq_false (by unfold lvalP; simp; omega))); kernel_rfl)
      | (refine bool_of (b := false) ?_ (Eq.symm (decide_eq_false (fun h => of_decide_eq_false ‹decide (rightP _) = false› h.1))); kernel_rfl)
      | trace_state
theorem lvalue_D (v : ValM) (p : Int) (hp : 0 ≤ p ∧ p ≤ 1000000) : DPure Tp I 119 [.v (valV v), VN .i64 p] (BV (decide (lvalP v p))) := lvalue_D0 v.over v.s v.len v.page p hp
structure ItemM where
  key : ByteArray
  v : ValM
abbrev itemV (x : ItemM) : Value := .agg #[.string x.key, .bool x.v.over, .string x.v.s, .int .i64 x.v.len, .int .i64 x.v.page]
abbrev itemsL (l : List ItemM) : List DV := l.map fun x => .v (itemV x)
structure LeafM where
  self : Int
  right : Int
  high : ByteArray
  items : List ItemM
abbrev leafD (l : LeafM) : DV := .agg [VN .i64 l.self, VN .i64 l.right, SV l.high, .list 5 (itemsL l.items)]
theorem items_get {l : List ItemM} {i : Nat} (h : i < l.length) : (itemsL l)[(i : Int).toNat]? = some (.v (itemV (l[i]'h))) := by simp [itemsL, h]
theorem items_len (l : List ItemM) : (itemsL l).length = l.length := by simp [itemsL]
theorem keys1_D (x : ItemM) : DPure Tp I 172 [.v (itemV x)] (SV x.key) := by
  refine z_pure (e0 := ?e0x4) mix e172 rfl ?z04 ?_
  (case z04 => exact rfl)
  dsimp only [c172]
  repeat' (first | refine zs ?_ | refine Br.mk ?_ ?_ | intro _ | refine zf ?_ | fail)
  exact str_of (s := x.key) (by kernel_rfl) rfl
abbrev keysOf (l : List ItemM) : List ByteArray := l.map (·.key)
theorem keys_snoc {l : List ItemM} {i : Nat} (h : i < l.length) : strsL (keysOf (l.take (i + 1))) = strsL (keysOf (l.take i)) ++ [SV (l[i]'h).key] := by unfold keysOf strsL; rw [List.take_succ_eq_append_getElem h, List.map_append, List.map_append]; rfl
theorem toldK_D (l : List ItemM) (hl : l.length ≤ 1000000) : DPure Tp I 171 [.list 5 (itemsL l), .fn 172 []] (.list 1 (strsL (keysOf l))) := by
  have hll := items_len l
  refine z_pure (e0 := ?e0x5) mix e171 rfl ?z05 ?_
  (case z05 => exact rfl)
  dsimp only [c171]
  repeat' (first | refine zs ?_ | refine Br.mk ?_ ?_ | intro _ | refine zf ?_ | fail)
  refine z_loop (fun i : Nat => ⟨[(1, .fn 172 []), (5, .own 0 9 1 (strsL (keysOf (l.take i)))), (8, .list 5 (itemsL l)), (9, VN .i64 (itemsL l).length), (10, VN .i64 i)], [], [(strsL (keysOf (l.take i))).length * 1]⟩) (fun i : Nat => i ≤ l.length) (fun i : Nat => l.length - i) (0) ?_ ?_ fun i hi => ?_
  · exact (less_of 0 0 1 rfl rfl (lessE_cons (ltd_eq rfl (by kernel_rfl)) (lessE_cons (ltd_own rfl rfl (by kernel_rfl)) (lessE_cons (ltd_eq rfl (by kernel_rfl)) (lessE_cons (ltd_eq rfl (by kernel_rfl)) (lessE_cons (ltd_eq rfl (by kernel_rfl)) lessE_nil))))) (by kernel_rfl) (by kernel_rfl) (by kernel_rfl) (by kernel_rfl))
  · omega
  have hlt : (strsL (keysOf (l.take i))).length ≤ l.length := by rw [strs_len, List.length_map, List.length_take]; omega
  by_cases hil : i < l.length
  · have hsn := keys_snoc hil
    repeat' (first | refine ⟨_, items_get hil, ?_⟩ | ((with_reducible apply z_callvp); (case hx => (conv => {lhs; whnf}) <;> exact rfl); (case' hd => apply keys1_D l[i]); (case ha => exact wknL_ok rfl)) | refine z1 ?_ | refine Br.mk ?_ ?_ | intro _ | refine zf ?_ | fail)
    refine ⟨i + 1, (less_of 0 1 0 rfl rfl (lessE_cons (ltd_eq rfl (by kernel_rfl)) (lessE_cons (ltd_eq rfl ?_) (lessE_cons (ltd_eq rfl (by kernel_rfl)) (lessE_cons (ltd_eq rfl (by kernel_rfl)) (lessE_cons (ltd_eq rfl (by kernel_rfl)) lessE_nil))))) (by kernel_rfl) (by kernel_rfl) ?_ (by kernel_rfl)), hil, by omega⟩
    · rw [hsn]; kernel_rfl
    · rw [hsn, List.length_append]; kernel_rfl
  · have htk : l.take i = l := List.take_of_length_le (by omega)
    repeat' (first | refine zs ?_ | refine Br.mk ?_ ?_ | intro _ | refine zf ?_ | fail)
    exact wk_own (id := 0) (e := 9) (l := strsL (keysOf (l.take i))) (by kernel_rfl) (by rw [htk])
theorem keys_D (l : LeafM) (hl : l.items.length ≤ 1000000) : DPure Tp I 121 [leafD l] (.list 1 (strsL (keysOf l.items))) := by
  have d0 := toldK_D (I := I) l.items hl
  refine z_pure (e0 := ?e0x6) mix e121 rfl ?z06 ?_
  (case z06 => exact rfl)
  dsimp only [c121]
  repeat' (first | ((with_reducible apply z_callep); (case' hd => apply d0); (case hw => exact wknL_ok rfl)) | refine z1 ?_ | refine Br.mk ?_ ?_ | intro _ | refine zf ?_ | fail)
  exact wk_list (l := strsL (keysOf l.items)) (by kernel_rfl) rfl
end Go.Proofs.YtlbodfkhenkcjaaGreatDoor.X


namespace Go.Proofs.YtlbodfkhenkcjaaGreatDoor.X
open Go Go.Proofs Go.RowKit Go.Proofs.YtlbodfkhenkcjaaGreatDoor.D
set_option maxRecDepth 100000
set_option maxHeartbeats 1000000
set_option linter.unusedVariables false
set_option linter.unusedSimpArgs false
variable {I : D.Inv}
attribute [local irreducible] D.DPure D.DEff D.callable numV numQ frV frQ tkS tkQ getE getN getT rdE rdN putS fourB textS pkS pkE pvS pvE vlV vlQ

theorem value_Db (z : List DV) (s : ByteArray) (q : RQ) (b : Bool) (h : (vlQ s q).bad = b) (hs : s.size ≤ 1000000) (hq : inQ s q) : DEff Tp I 150 [.lp 1 0] [z, gcell s q ⟨false, nilS, 0, 0⟩] [] (.v (.tuple #[])) [z, [SV s, VN .i64 (vlQ s q).at', BV b, BV (vlV s q).over, SV (vlV s q).s, VN .i64 (vlV s q).len, VN .i64 (vlV s q).page]] [] := by
  subst h; exact value_D z s q hs hq
theorem vlS_size {s : ByteArray} {q : RQ} : (vlV s q).s.size ≤ s.size := by
  unfold vlV
  split
  · exact Nat.zero_le _
  · split
    · exact tkS_size
    · exact Nat.zero_le _
abbrev gvV (s : ByteArray) : ValM := vlV s (gvQ2 s)
def gvP (s : ByteArray) : Prop := (vlQ s (gvQ2 s)).bad = false ∧ pvE (gvT s) (gvV s) = 0 ∧ pvS (gvT s) (gvV s) = s
instance (s : ByteArray) : Decidable (gvP s) := inferInstanceAs (Decidable (_ ∧ _ ∧ _))
def val0 : ValM := ⟨false, nilS, 0, 0⟩
def gvS (s : ByteArray) : ByteArray := if gvP s then gvT s else nilS
def gvW (s : ByteArray) : ValM := if gvP s then gvV s else val0
def gvE (s : ByteArray) : Int := if gvP s then 0 else 3
theorem gv_yes {s : ByteArray} (h : gvP s) : gvS s = gvT s ∧ gvW s = gvV s ∧ gvE s = 0 := ⟨if_pos h, if_pos h, if_pos h⟩
theorem gv_no {s : ByteArray} (h : ¬ gvP s) : gvS s = nilS ∧ gvW s = val0 ∧ gvE s = 3 := ⟨if_neg h, if_neg h, if_neg h⟩
theorem getValue_D (s : ByteArray) (hs : s.size ≤ 1000000) : DPure Tp I 91 [SV s] (.v (.tuple #[.string (gvS s), valV (gvW s), .int .i64 (gvE s)])) := by
  have i1 := numQ_in (q0_in s)
  have i2 : inQ s (gvQ2 s) := tkQ_in i1.1 i1.2.1
  have hT : (gvT s).size ≤ s.size := tkS_size
  have hV : (gvV s).s.size ≤ s.size := vlS_size
  cases hb : (vlQ s (gvQ2 s)).bad
  · refine z_pure (e0 := ?e0x1) mix e91 rfl ?z01 ?_
    (case z01 => exact rfl)
    dsimp only [c91]
    repeat' (first | ((with_reducible apply z_calle); (case' hd => apply (rnumberB [BV false, SV nilS, VN .i64 0, VN .i64 0] (BV false) (SV nilS) (VN .i64 0) (VN .i64 0) s q0 hs (q0_in s))); (case ha => exact rfl); (try any_goals exact sd)) | ((with_reducible apply z_calle); (case' hd => apply (rtakeB [BV false, SV nilS, VN .i64 0, VN .i64 0] (BV false) (SV nilS) (VN .i64 0) (VN .i64 0) s (gvQ1 s) (gvN s) hs i1.1 (by unfold gvN; omega))); (case ha => exact rfl); (try any_goals exact sd)) | ((with_reducible apply z_calle); (case' hd => apply (value_Db [BV false, SV nilS, VN .i64 0, VN .i64 0] s (gvQ2 s) false hb hs i2)); (case ha => exact rfl); (try any_goals exact sd)) | ((with_reducible apply z_call); (case' hd => apply (putValue_D (gvT s) (gvV s) (by omega))); (case hw => exact wknL_ok rfl); (try any_goals exact sd)) | refine zs ?_ | refine Br.mk ?_ ?_ | intro _ | refine zf ?_ | fail)
    · have h := gv_yes (s := s) ⟨hb, ‹_›, ‹_›⟩
      exact tup3_of (a := .string (gvT s)) (b := valV (gvV s)) (c := .int .i64 0) (by kernel_rfl) (by rw [h.1]) (by rw [h.2.1]) (by rw [h.2.2])
    · have h := gv_no (s := s) (fun h => ‹¬ pvS (gvT s) (gvV s) = s› h.2.2)
      exact tup3_of (a := .string nilS) (b := valV val0) (c := .int .i64 3) (by kernel_rfl) (by rw [h.1]) (by rw [h.2.1]) (by rw [h.2.2])
    · have h := gv_no (s := s) (fun h => ‹¬ pvE (gvT s) (gvV s) = 0› h.2.1)
      exact tup3_of (a := .string nilS) (b := valV val0) (c := .int .i64 3) (by kernel_rfl) (by rw [h.1]) (by rw [h.2.1]) (by rw [h.2.2])
  · refine z_pure (e0 := ?e0x2) mix e91 rfl ?z02 ?_
    (case z02 => exact rfl)
    dsimp only [c91]
    repeat' (first | ((with_reducible apply z_calle); (case' hd => apply (rnumberB [BV false, SV nilS, VN .i64 0, VN .i64 0] (BV false) (SV nilS) (VN .i64 0) (VN .i64 0) s q0 hs (q0_in s))); (case ha => exact rfl); (try any_goals exact sd)) | ((with_reducible apply z_calle); (case' hd => apply (rtakeB [BV false, SV nilS, VN .i64 0, VN .i64 0] (BV false) (SV nilS) (VN .i64 0) (VN .i64 0) s (gvQ1 s) (gvN s) hs i1.1 (by unfold gvN; omega))); (case ha => exact rfl); (try any_goals exact sd)) | ((with_reducible apply z_calle); (case' hd => apply (value_Db [BV false, SV nilS, VN .i64 0, VN .i64 0] s (gvQ2 s) true hb hs i2)); (case ha => exact rfl); (try any_goals exact sd)) | ((with_reducible apply z_call); (case' hd => apply (putValue_D (gvT s) (gvV s) (by omega))); (case hw => exact wknL_ok rfl); (try any_goals exact sd)) | refine zs ?_ | refine Br.mk ?_ ?_ | intro _ | refine zf ?_ | fail)
    have h := gv_no (s := s) (fun h => by have h1 := h.1; rw [hb] at h1; exact Bool.noConfusion h1)
    exact tup3_of (a := .string nilS) (b := valV val0) (c := .int .i64 3) (by kernel_rfl) (by rw [h.1]) (by rw [h.2.1]) (by rw [h.2.2])
end Go.Proofs.YtlbodfkhenkcjaaGreatDoor.X


namespace Go.Proofs.YtlbodfkhenkcjaaGreatDoor.X
open Go Go.Proofs Go.RowKit Go.Proofs.YtlbodfkhenkcjaaGreatDoor.D
set_option maxRecDepth 100000
set_option maxHeartbeats 1000000
set_option linter.unusedVariables false
set_option linter.unusedSimpArgs false
variable {I : D.Inv}
attribute [local irreducible] D.DPure D.DEff D.callable D.dops D.dwp D.dxops D.optNat D.seqQ D.blkQ D.lopQ D.xK

def c166 : DFun := ⟨11, [.t 4], .seq (.reg [⟨some 4, .mv (.c .nilIface), none⟩]) (.seq (.reg [⟨some 5, .mv (.t 1), none⟩, ⟨some 6, .call 192 [.t 5], none⟩, ⟨some 7, .mv (.t 0), none⟩, ⟨some 8, .mki 36 (.t 7), none⟩, ⟨some 9, .bsl 1 [.t 6, .t 8], none⟩, ⟨some 10, .call 88 [.t 9], none⟩, ⟨some 4, .mv (.t 10), none⟩]) .ret)⟩
theorem e166 : cfun Tryz.prog 166 = some c166 := by kernel_rfl
def c114 : DFun := ⟨21, [.t 6], .seq (.reg [⟨some 3, .box (.t 0), none⟩, ⟨some 6, .mv (.c .nilIface), none⟩]) (.seq (.seq (.reg [⟨some 7, .mv (.t 2), none⟩, ⟨some 8, .call 67 [.t 7], none⟩, ⟨some 9, .un .not (.t 8), none⟩]) (.cond (.t 9) (.seq (.reg [⟨some 10, .call 166 [.c (.int .i64 4), .c (.string ⟨#[115, 105, 122, 101]⟩)], none⟩, ⟨some 6, .mv (.t 10), none⟩]) .ret) .skip)) (.seq (.seq (.reg [⟨some 11, .ld 5 true (.t 3), none⟩, ⟨some 12, .call 167 [.t 11], none⟩, ⟨some 13, .un .not (.t 12), none⟩]) (.cond (.t 13) (.seq (.reg [⟨some 14, .call 166 [.c (.int .i64 3), .c (.string ⟨#[104, 101, 97, 100]⟩)], none⟩, ⟨some 6, .mv (.t 14), none⟩]) .ret) .skip)) (.seq (.seq (.reg [⟨some 15, .mv (.t 1), none⟩, ⟨some 16, .len true (.t 15), none⟩, ⟨some 17, .mv (.t 2), none⟩, ⟨some 18, .bin .sub (.t 17) (.c (.int .i64 16)), none⟩, ⟨some 19, .bin .gtr (.t 16) (.t 18), none⟩]) (.cond (.t 19) (.seq (.reg [⟨some 20, .call 166 [.c (.int .i64 8), .c (.string ⟨#[98, 111, 100, 121]⟩)], none⟩, ⟨some 6, .mv (.t 20), none⟩]) .ret) .skip)) (.seq (.reg [⟨some 6, .mv (.c .nilIface), none⟩]) .ret))))⟩
theorem e114 : cfun Tryz.prog 114 = some c114 := by kernel_rfl
def c66 : DFun := ⟨58, [.t 6, .t 7], .seq (.reg [⟨some 3, .box (.t 0), none⟩, ⟨some 6, .mv (.c (.string ⟨#[]⟩)), none⟩, ⟨some 7, .mv (.c (.int .i64 0)), none⟩]) (.seq (.seq (.reg [⟨some 10, .ld 5 true (.t 3), none⟩, ⟨some 11, .mv (.t 1), none⟩, ⟨some 12, .mv (.t 2), none⟩, ⟨some 13, .call 114 [.t 10, .t 11, .t 12], none⟩, ⟨some 14, .call 113 [.t 13], none⟩, ⟨some 8, .mv (.t 14), none⟩]) (.seq (.reg [⟨some 15, .mv (.t 8), none⟩, ⟨some 16, .bin .neq (.t 15) (.c (.int .i64 0)), none⟩]) (.cond (.t 16) (.seq (.reg [⟨some 17, .mv (.t 8), none⟩, ⟨some 6, .mv (.c (.string ⟨#[]⟩)), none⟩, ⟨some 7, .mv (.t 17), none⟩]) .ret) .skip))) (.seq (.reg [⟨some 18, .fa 0 (.t 3), none⟩, ⟨some 19, .ld 1 false (.t 18), none⟩, ⟨some 20, .fa 1 (.t 3), none⟩, ⟨some 21, .ld 1 false (.t 20), none⟩, ⟨some 22, .fa 2 (.t 3), none⟩, ⟨some 23, .ld 1 false (.t 22), none⟩, ⟨some 24, .fa 2 (.t 3), none⟩, ⟨some 25, .ld 1 false (.t 24), none⟩, ⟨some 26, .bin .quo (.t 25) (.c (.int .i64 256)), none⟩, ⟨some 27, .bsl 1 [.t 19, .t 21, .t 23, .t 26], none⟩, ⟨some 28, .call 115 [.t 27], none⟩, ⟨some 29, .fa 3 (.t 3), none⟩, ⟨some 30, .ld 1 false (.t 29), none⟩, ⟨some 31, .cvt .u32 (.t 30), none⟩, ⟨some 32, .call 64 [.t 31], none⟩, ⟨some 33, .bin .add (.t 28) (.t 32), none⟩, ⟨some 34, .fa 4 (.t 3), none⟩, ⟨some 35, .ld 1 false (.t 34), none⟩, ⟨some 36, .cvt .u32 (.t 35), none⟩, ⟨some 37, .call 64 [.t 36], none⟩, ⟨some 38, .bin .add (.t 33) (.t 37), none⟩, ⟨some 39, .bin .add (.t 38) (.c (.string ⟨#[0, 0, 0, 0]⟩)), none⟩, ⟨some 40, .mv (.t 1), none⟩, ⟨some 41, .bin .add (.t 39) (.t 40), none⟩, ⟨some 9, .mv (.t 41), none⟩]) (.seq (.reg [⟨some 42, .mv (.t 9), none⟩, ⟨some 43, .mv (.t 2), none⟩, ⟨some 44, .mv (.t 9), none⟩, ⟨some 45, .len true (.t 44), none⟩, ⟨some 46, .bin .sub (.t 43) (.t 45), none⟩, ⟨some 47, .call 65 [.c (.string ⟨#[0]⟩), .t 46], none⟩, ⟨some 48, .bin .add (.t 42) (.t 47), none⟩, ⟨some 9, .mv (.t 48), none⟩]) (.seq (.reg [⟨some 49, .mv (.t 9), none⟩, ⟨some 50, .slS (.t 49) none (some (.c (.int .i64 12))), none⟩, ⟨some 51, .mv (.t 9), none⟩, ⟨some 52, .call 116 [.t 51], none⟩, ⟨some 53, .call 64 [.t 52], none⟩, ⟨some 54, .bin .add (.t 50) (.t 53), none⟩, ⟨some 55, .mv (.t 9), none⟩, ⟨some 56, .slS (.t 55) (some (.c (.int .i64 16))) none, none⟩, ⟨some 57, .bin .add (.t 54) (.t 56), none⟩, ⟨some 6, .mv (.t 57), none⟩, ⟨some 7, .mv (.c (.int .i64 0)), none⟩]) .ret))))⟩
theorem e66 : cfun Tryz.prog 66 = some c66 := by kernel_rfl
def c51 : DFun := ⟨66, [.c 2 5 true, .t 3, .t 4], .seq (.reg [⟨some 2, .zero (.agg #[.int .i64 0, .int .i64 0, .int .i64 0, .int .i64 0, .int .i64 0]), none⟩, ⟨some 3, .mv (.c (.string ⟨#[]⟩)), none⟩, ⟨some 4, .mv (.c (.int .i64 0)), none⟩]) (.seq (.seq (.reg [⟨some 12, .mv (.t 0), none⟩, ⟨some 13, .len true (.t 12), none⟩, ⟨some 14, .call 67 [.t 13], none⟩, ⟨some 15, .un .not (.t 14), none⟩]) (.cond (.t 15) (.seq (.reg [⟨some 16, .bld [.int .i64 0, .int .i64 0, .int .i64 0, .int .i64 0, .int .i64 0] [], none⟩, ⟨none, .st 5 (.t 2) (.t 16), none⟩, ⟨some 3, .mv (.c (.string ⟨#[]⟩)), none⟩, ⟨some 4, .mv (.c (.int .i64 3)), none⟩]) .ret) .skip)) (.seq (.reg [⟨some 18, .mv (.t 0), none⟩, ⟨some 19, .call 59 [.t 18, .c (.int .i64 4)], none⟩, ⟨some 17, .mv (.t 19), none⟩, ⟨some 20, .ext (.t 17) 0, none⟩, ⟨some 21, .ext (.t 17) 1, none⟩, ⟨some 5, .mv (.t 20), none⟩, ⟨some 6, .mv (.t 21), none⟩]) (.seq (.reg [⟨some 23, .mv (.t 0), none⟩, ⟨some 24, .call 59 [.t 23, .c (.int .i64 8)], none⟩, ⟨some 22, .mv (.t 24), none⟩, ⟨some 25, .ext (.t 22) 0, none⟩, ⟨some 26, .ext (.t 22) 1, none⟩, ⟨some 7, .mv (.t 25), none⟩, ⟨some 8, .mv (.t 26), none⟩]) (.seq (.reg [⟨some 27, .mv (.t 0), none⟩, ⟨some 28, .ixs (.t 27) (.c (.int .i64 0)), none⟩, ⟨some 29, .cvt .i64 (.t 28), none⟩, ⟨some 30, .mv (.t 0), none⟩, ⟨some 31, .ixs (.t 30) (.c (.int .i64 1)), none⟩, ⟨some 32, .cvt .i64 (.t 31), none⟩, ⟨some 33, .mv (.t 0), none⟩, ⟨some 34, .ixs (.t 33) (.c (.int .i64 2)), none⟩, ⟨some 35, .cvt .i64 (.t 34), none⟩, ⟨some 36, .mv (.t 0), none⟩, ⟨some 37, .ixs (.t 36) (.c (.int .i64 3)), none⟩, ⟨some 38, .cvt .i64 (.t 37), none⟩, ⟨some 39, .bin .mul (.c (.int .i64 256)) (.t 38), none⟩, ⟨some 40, .bin .add (.t 35) (.t 39), none⟩, ⟨some 41, .mv (.t 5), none⟩, ⟨some 42, .cvt .i64 (.t 41), none⟩, ⟨some 43, .mv (.t 7), none⟩, ⟨some 44, .cvt .i64 (.t 43), none⟩, ⟨some 45, .bld [.int .i64 0, .int .i64 0, .int .i64 0, .int .i64 0, .int .i64 0] [(0, 1, .t 29), (1, 1, .t 32), (2, 1, .t 40), (3, 1, .t 42), (4, 1, .t 44)], none⟩, ⟨some 9, .zero (.agg #[.int .i64 0, .int .i64 0, .int .i64 0, .int .i64 0, .int .i64 0]), none⟩, ⟨none, .st 5 (.t 9) (.t 45), none⟩]) (.seq (.seq (.reg [⟨some 47, .ld 5 true (.t 9), none⟩, ⟨some 48, .mv (.t 0), none⟩, ⟨some 49, .slS (.t 48) (some (.c (.int .i64 16))) none, none⟩, ⟨some 50, .mv (.t 0), none⟩, ⟨some 51, .len true (.t 50), none⟩, ⟨some 52, .call 66 [.t 47, .t 49, .t 51], none⟩, ⟨some 46, .mv (.t 52), none⟩, ⟨some 53, .ext (.t 46) 0, none⟩, ⟨some 54, .ext (.t 46) 1, none⟩, ⟨some 10, .mv (.t 53), none⟩, ⟨some 11, .mv (.t 54), none⟩]) (.seq (.reg [⟨some 55, .mv (.t 11), none⟩, ⟨some 56, .bin .neq (.t 55) (.c (.int .i64 0)), none⟩, ⟨some 57, .mv (.t 56), none⟩, ⟨some 58, .mv (.t 10), some (57, false)⟩, ⟨some 59, .mv (.t 0), some (57, false)⟩, ⟨some 60, .bin .neq (.t 58) (.t 59), some (57, false)⟩, ⟨some 61, .pick (.t 57) (.c (.bool true)) (.t 60), none⟩]) (.cond (.t 61) (.seq (.reg [⟨some 62, .bld [.int .i64 0, .int .i64 0, .int .i64 0, .int .i64 0, .int .i64 0] [], none⟩, ⟨none, .st 5 (.t 2) (.t 62), none⟩, ⟨some 3, .mv (.c (.string ⟨#[]⟩)), none⟩, ⟨some 4, .mv (.c (.int .i64 3)), none⟩]) .ret) .skip))) (.seq (.reg [⟨some 63, .ld 5 true (.t 9), none⟩, ⟨some 64, .mv (.t 0), none⟩, ⟨some 65, .slS (.t 64) (some (.c (.int .i64 16))) none, none⟩, ⟨none, .st 5 (.t 2) (.t 63), none⟩, ⟨some 3, .mv (.t 65), none⟩, ⟨some 4, .mv (.c (.int .i64 0)), none⟩]) .ret))))))⟩
theorem e51 : cfun Tryz.prog 51 = some c51 := by kernel_rfl
theorem fault_D (e : Int) (s : ByteArray) : DPure Tp I 166 [VN .i64 e, SV s] (joinD (strD s) (errV e)) := by
  refine z_pure (e0 := ?e0x1) mix e166 rfl ?z01 ?_
  (case z01 => exact rfl)
  dsimp only [c166]
  repeat' (first | ((with_reducible apply z_call); (case' hd => apply New_D); (case hw => exact wknL_ok rfl); (try any_goals exact sd)) | ((with_reducible apply z_call); (case' hd => apply (Join_D (strD s) (errV e) rfl rfl)); (case hw => exact wknL_ok rfl); (try any_goals exact sd)) | refine zs ?_ | refine Br.mk ?_ ?_ | intro _ | refine zf ?_ | fail)
  exact wk_eq (e := joinD (strD s) (errV e)) (by kernel_rfl) (wkn_ok rfl)
structure HeadM where
  kind : Int
  level : Int
  count : Int
  right : Int
  self : Int
abbrev hdV (h : HeadM) : Value := headV h.kind h.level h.count h.right h.self
abbrev hdB (h : HeadM) : Bool := headB h.kind h.level h.count h.right h.self
def mayE (h : HeadM) (body : ByteArray) (p : Int) : Int := if sizeB p = true then (if hdB h = true then (if p - 16 < (body.size : Int) then 8 else 0) else 3) else 4
def mayT (h : HeadM) (body : ByteArray) (p : Int) : ByteArray := if sizeB p = true then (if hdB h = true then ⟨#[98, 111, 100, 121]⟩ else ⟨#[104, 101, 97, 100]⟩) else ⟨#[115, 105, 122, 101]⟩
theorem sizeB_in {p : Int} (h : sizeB p = true) : 128 ≤ p ∧ p ≤ 1024 := by
  unfold sizeB at h
  simp at h
  omega
theorem mayE_is (h : HeadM) (body : ByteArray) (p : Int) : mayE h body p = 0 ∨ mayE h body p = 4 ∨ mayE h body p = 3 ∨ mayE h body p = 8 := by
  unfold mayE; (repeat' split) <;> omega
theorem faultD_no {s : ByteArray} {e : Int} (h : e ≠ 0) : faultD s e = joinD (strD s) (errV e) := if_neg h
theorem may_D (h : HeadM) (body : ByteArray) (p : Int) (hb : body.size ≤ 1000000) : DPure Tp I 114 [.v (hdV h), SV body, VN .i64 p] (faultD (mayT h body p) (mayE h body p)) := by
  by_cases hs : sizeB p = true
  · have hp := sizeB_in hs
    have d1 : DPure Tp I 67 [VN .i64 p] (BV true) := by have := size_D (I := I) p; rwa [hs] at this
    by_cases hh : hdB h = true
    · have d2 : DPure Tp I 167 [.v (hdV h)] (BV true) := by have := right_D (I := I) h.kind h.level h.count h.right h.self; rwa [show headB _ _ _ _ _ = true from hh] at this
      have hT : mayT h body p = ⟨#[98, 111, 100, 121]⟩ := by rw [mayT, if_pos hs, if_pos hh]
      refine z_pure (e0 := ?e0x2) mix e114 rfl ?z02 ?_
      (case z02 => exact rfl)
      dsimp only [c114]
      repeat' (first | ((with_reducible apply z_call); (case' hd => apply d1); (case hw => exact wknL_ok rfl); (try any_goals exact sd)) | ((with_reducible apply z_call); (case' hd => apply d2); (case hw => exact wknL_ok rfl); (try any_goals exact sd)) | ((with_reducible apply z_call); (case' hd => apply (fault_D 8 ⟨#[98, 111, 100, 121]⟩)); (case hw => exact wknL_ok rfl); (try any_goals exact sd)) | refine zs ?_ | refine Br.mk ?_ ?_ | intro _ | refine zf ?_ | fail)
      · have hE : mayE h body p = 8 := by rw [mayE, if_pos hs, if_pos hh, if_pos ‹_›]
        rw [hE, hT, faultD_no (by decide)]
        exact wk_eq (e := joinD (strD ⟨#[98, 111, 100, 121]⟩) (errV 8)) (by kernel_rfl) (wkn_ok rfl)
      · have hE : mayE h body p = 0 := by rw [mayE, if_pos hs, if_pos hh, if_neg ‹_›]
        rw [hE]
        exact wk_eq (e := .v .nilIface) (by kernel_rfl) (.v _)
    · have d2 : DPure Tp I 167 [.v (hdV h)] (BV false) := by have := right_D (I := I) h.kind h.level h.count h.right h.self; rwa [show headB _ _ _ _ _ = false by simpa using hh] at this
      have hT : mayT h body p = ⟨#[104, 101, 97, 100]⟩ := by rw [mayT, if_pos hs, if_neg hh]
      have hE : mayE h body p = 3 := by rw [mayE, if_pos hs, if_neg hh]
      rw [hE, hT, faultD_no (by decide)]
      refine z_pure (e0 := ?e0x3) mix e114 rfl ?z03 ?_
      (case z03 => exact rfl)
      dsimp only [c114]
      repeat' (first | ((with_reducible apply z_call); (case' hd => apply d1); (case hw => exact wknL_ok rfl); (try any_goals exact sd)) | ((with_reducible apply z_call); (case' hd => apply d2); (case hw => exact wknL_ok rfl); (try any_goals exact sd)) | ((with_reducible apply z_call); (case' hd => apply (fault_D 3 ⟨#[104, 101, 97, 100]⟩)); (case hw => exact wknL_ok rfl); (try any_goals exact sd)) | refine zs ?_ | refine Br.mk ?_ ?_ | intro _ | refine zf ?_ | fail)
      exact wk_eq (e := joinD (strD ⟨#[104, 101, 97, 100]⟩) (errV 3)) (by kernel_rfl) (wkn_ok rfl)
  · have d1 : DPure Tp I 67 [VN .i64 p] (BV false) := by have := size_D (I := I) p; rwa [show sizeB p = false by simpa using hs] at this
    have hT : mayT h body p = ⟨#[115, 105, 122, 101]⟩ := by rw [mayT, if_neg hs]
    have hE : mayE h body p = 4 := by rw [mayE, if_neg hs]
    rw [hE, hT, faultD_no (by decide)]
    refine z_pure (e0 := ?e0x4) mix e114 rfl ?z04 ?_
    (case z04 => exact rfl)
    dsimp only [c114]
    repeat' (first | ((with_reducible apply z_call); (case' hd => apply d1); (case hw => exact wknL_ok rfl); (try any_goals exact sd)) | ((with_reducible apply z_call); (case' hd => apply (fault_D 4 ⟨#[115, 105, 122, 101]⟩)); (case hw => exact wknL_ok rfl); (try any_goals exact sd)) | refine zs ?_ | refine Br.mk ?_ ?_ | intro _ | refine zf ?_ | fail)
    exact wk_eq (e := joinD (strD ⟨#[115, 105, 122, 101]⟩) (errV 4)) (by kernel_rfl) (wkn_ok rfl)
end Go.Proofs.YtlbodfkhenkcjaaGreatDoor.X


namespace Go.Proofs.YtlbodfkhenkcjaaGreatDoor.X
open Go Go.Proofs Go.RowKit Go.Proofs.YtlbodfkhenkcjaaGreatDoor.D
set_option maxRecDepth 100000
set_option maxHeartbeats 1000000
set_option linter.unusedVariables false
set_option linter.unusedSimpArgs false
variable {I : D.Inv}
attribute [local irreducible] D.DPure D.DEff D.callable mayE mayT rdN rdE fourB zeroB crcL

theorem within_in {b : Int} {l : List Int} (h : withinB b l = true) : ∀ x ∈ l, 0 ≤ x ∧ x < b := by
  intro x hx
  simp only [withinB, List.all_eq_true, Bool.and_eq_true, decide_eq_true_eq] at h
  exact h x hx
theorem hdB_in {h : HeadM} (hh : hdB h = true) : (1 ≤ h.kind ∧ h.kind < 5) ∧ (0 ≤ h.level ∧ h.level < 256) ∧ (0 ≤ h.count ∧ h.count < 65536) ∧ (0 ≤ h.right ∧ h.right < 4096) ∧ (0 ≤ h.self ∧ h.self < 4096) := by
  simp only [hdB, headB, Bool.and_eq_true, decide_eq_true_eq] at hh
  obtain ⟨⟨⟨⟨k1, k2⟩, k3⟩, k4⟩, k5⟩ := hh
  exact ⟨⟨k1, k2⟩, within_in k3 _ (by simp), within_in k4 _ (by simp), within_in k5 _ (by simp), within_in k5 _ (by simp)⟩
theorem bytesS_size (l : List Int) : (bytesS l).size = l.length := by simp [bytesS, strOfNums_size]
def crcN (s : ByteArray) : Int := notI (crcL (notI 0) s.data.toList)
def sealA (h : HeadM) (body : ByteArray) : ByteArray := bytesS [h.kind, h.level, h.count, h.count / 256] ++ fourB h.right ++ fourB h.self ++ ⟨#[0, 0, 0, 0]⟩ ++ body
def sealZ (h : HeadM) (body : ByteArray) (p : Int) : ByteArray := sealA h body ++ zeroB (p - (sealA h body).size).toNat
def sealB (h : HeadM) (body : ByteArray) (p : Int) : ByteArray := (sealZ h body p).extract 0 12 ++ fourB (crcN (sealZ h body p)) ++ (sealZ h body p).extract 16 (sealZ h body p).size
def sealS (h : HeadM) (body : ByteArray) (p : Int) : ByteArray := if mayE h body p = 0 then sealB h body p else nilS
theorem sealA_size (h : HeadM) (body : ByteArray) : (sealA h body).size = 16 + body.size := by
  unfold sealA
  simp only [ByteArray.size_append, bytesS_size, fourB_size]
  show _ + _ + _ + 4 + _ = _
  simp only [List.length_cons, List.length_nil]
theorem mayE_0 {h : HeadM} {body : ByteArray} {p : Int} (h0 : mayE h body p = 0) : sizeB p = true ∧ hdB h = true ∧ (body.size : Int) ≤ p - 16 := by
  unfold mayE at h0
  split at h0
  · split at h0
    · split at h0
      · omega
      · exact ⟨‹_›, ‹_›, by omega⟩
    · omega
  · omega
theorem lit4 : (⟨#[0, 0, 0, 0]⟩ : ByteArray).size = 4 := rfl
theorem seal_D0 (k l c r s : Int) (h : HeadM) (he : h = ⟨k, l, c, r, s⟩) (body : ByteArray) (p : Int) (hb : body.size ≤ 1000000) : DPure Tp I 66 [.v (headV k l c r s), SV body, VN .i64 p] (.v (.tuple #[.string (sealS h body p), .int .i64 (mayE h body p)])) := by
  subst he
  have hm := may_D (I := I) ⟨k, l, c, r, s⟩ body p hb
  have hi := mayE_is ⟨k, l, c, r, s⟩ body p
  have hn := number_D (I := I) (mayT ⟨k, l, c, r, s⟩ body p) (mayE ⟨k, l, c, r, s⟩ body p) hi
  by_cases h0 : mayE ⟨k, l, c, r, s⟩ body p = 0
  · rw [show faultD (mayT ⟨k, l, c, r, s⟩ body p) (mayE ⟨k, l, c, r, s⟩ body p) = .v .nilIface by rw [h0]; rfl] at hm hn
    have hF := mayE_0 h0
    have hp := sizeB_in hF.1
    have hd := hdB_in hF.2.1
    have hbs := hF.2.2
    dsimp only at hd
    have hA : (bytesS [k, l, c, c / 256] ++ fourB r ++ fourB s ++ ⟨#[0, 0, 0, 0]⟩ ++ body).size = 16 + body.size := sealA_size ⟨k, l, c, r, s⟩ body
    have hrep : 0 ≤ p - ((bytesS [k, l, c, c / 256] ++ fourB r ++ fourB s ++ ⟨#[0, 0, 0, 0]⟩ ++ body).size : Int) ∧ p - ((bytesS [k, l, c, c / 256] ++ fourB r ++ fourB s ++ ⟨#[0, 0, 0, 0]⟩ ++ body).size : Int) ≤ 1000000 := by rw [hA]; omega
    have hq : (sealZ ⟨k, l, c, r, s⟩ body p).size ≤ 9223372036854775807 := by unfold sealZ; rw [ByteArray.size_append, zeroB_size, sealA_size]; omega
    have dF := tableF_D (I := I) (sealZ ⟨k, l, c, r, s⟩ body p) hq
    have dR := repeat_D (I := I) _ hrep
    clear hA hrep hq hi hF
    refine z_pure (e0 := ?e0x1) mix e66 rfl ?z01 ?_
    (case z01 => exact rfl)
    dsimp only [c66]
    repeat' (first | ((with_reducible apply z_call); (case' hd => apply hm); (case hw => exact wknL_ok rfl); (try any_goals exact sd)) | ((with_reducible apply z_call); (case' hd => apply hn); (case hw => exact wknL_ok rfl); (try any_goals exact sd)) | ((with_reducible apply z_call); (case' hd => apply (bytes_D [k, l, c, c / 256] (Nat.le_of_ble_eq_true rfl))); (case hw => exact wknL_ok rfl); (try any_goals exact sd)) | ((with_reducible apply z_call); (case' hd => apply four_D); (case hw => exact wknL_ok rfl); (try any_goals exact sd)) | ((with_reducible apply z_call); (case' hd => apply dR); (case hw => exact wknL_ok rfl); (try any_goals exact sd)) | ((with_reducible apply z_call); (case' hd => apply dF); (case hw => exact wknL_ok rfl); (try any_goals exact sd)) | with_reducible refine s_cat (by simp only [ByteArray.size_append, ByteArray.size_extract, bytesS_size, fourB_size, zeroB_size, lit4, List.length_cons, List.length_nil]; omega) ?_ | with_reducible refine s_sub (by simp only [ByteArray.size_append, ByteArray.size_extract, bytesS_size, fourB_size, zeroB_size, lit4, List.length_cons, List.length_nil]; omega) ?_ | refine And.intro (by simp only [ByteArray.size_append, ByteArray.size_extract, bytesS_size, fourB_size, zeroB_size, lit4, List.length_cons, List.length_nil]; omega) ?_ | refine z1 ?_ | refine Br.mk ?_ ?_ | intro _ | refine zf ?_ | fail)
    all_goals first
      | (refine tup2_of (a := .string (sealB ⟨k, l, c, r, s⟩ body p)) (b := .int .i64 0) (by kernel_rfl) ?_ ?_
         · exact congrArg Value.string (if_pos h0)
         · exact congrArg (Value.int .i64) h0)
      | trace_state
  · rw [show faultD (mayT ⟨k, l, c, r, s⟩ body p) (mayE ⟨k, l, c, r, s⟩ body p) = joinD (strD (mayT ⟨k, l, c, r, s⟩ body p)) (errV (mayE ⟨k, l, c, r, s⟩ body p)) from if_neg h0] at hm hn
    refine z_pure (e0 := ?e0x2) mix e66 rfl ?z02 ?_
    (case z02 => exact rfl)
    dsimp only [c66]
    repeat' (first | ((with_reducible apply z_call); (case' hd => apply hm); (case hw => exact wknL_ok rfl); (try any_goals exact sd)) | ((with_reducible apply z_call); (case' hd => apply hn); (case hw => exact wknL_ok rfl); (try any_goals exact sd)) | refine zs ?_ | refine Br.mk ?_ ?_ | intro _ | refine zf ?_ | fail)
    refine tup2_of (a := .string nilS) (b := .int .i64 (mayE ⟨k, l, c, r, s⟩ body p)) (by kernel_rfl) ?_ rfl
    exact congrArg Value.string (if_neg h0)
theorem seal_D (h : HeadM) (body : ByteArray) (p : Int) (hb : body.size ≤ 1000000) : DPure Tp I 66 [.v (hdV h), SV body, VN .i64 p] (.v (.tuple #[.string (sealS h body p), .int .i64 (mayE h body p)])) := seal_D0 _ _ _ _ _ h rfl body p hb
end Go.Proofs.YtlbodfkhenkcjaaGreatDoor.X


namespace Go.Proofs.YtlbodfkhenkcjaaGreatDoor.X
open Go Go.Proofs Go.RowKit Go.Proofs.YtlbodfkhenkcjaaGreatDoor.D
set_option maxRecDepth 100000
set_option maxHeartbeats 1000000
set_option linter.unusedVariables false
set_option linter.unusedSimpArgs false
variable {I : D.Inv}
attribute [local irreducible] D.DPure D.DEff D.callable mayE mayT rdN rdE fourB zeroB crcL sealS

def hdOf (s : ByteArray) : HeadM := ⟨byteAt s 0, byteAt s 1, byteAt s 2 + 256 * byteAt s 3, rdN s 4, rdN s 8⟩
def bodyOf (s : ByteArray) : ByteArray := s.extract 16 s.size
def openP (s : ByteArray) : Prop := sizeB s.size = true ∧ mayE (hdOf s) (bodyOf s) s.size = 0 ∧ sealS (hdOf s) (bodyOf s) s.size = s
instance (s : ByteArray) : Decidable (openP s) := inferInstanceAs (Decidable (_ ∧ _ ∧ _))
def head0 : HeadM := ⟨0, 0, 0, 0, 0⟩
def opH (s : ByteArray) : HeadM := if openP s then hdOf s else head0
def opB (s : ByteArray) : ByteArray := if openP s then bodyOf s else nilS
def opE (s : ByteArray) : Int := if openP s then 0 else 3
theorem op_yes {s : ByteArray} (h : openP s) : opH s = hdOf s ∧ opB s = bodyOf s ∧ opE s = 0 := ⟨if_pos h, if_pos h, if_pos h⟩
theorem op_no {s : ByteArray} (h : ¬ openP s) : opH s = head0 ∧ opB s = nilS ∧ opE s = 3 := ⟨if_neg h, if_neg h, if_neg h⟩
theorem open_D (s : ByteArray) (hs : s.size ≤ 1000000) : DPure Tp I 51 [SV s] (.v (.tuple #[hdV (opH s), .string (opB s), .int .i64 (opE s)])) := by
  by_cases hz : sizeB s.size = true
  · have hp := sizeB_in hz
    have d1 : DPure Tp I 67 [VN .i64 s.size] (BV true) := by have := size_D (I := I) s.size; rwa [hz] at this
    have h4 : rdE s 4 = 0 := (rdE_0 (by omega) (by omega)).1
    have h8 : rdE s 8 = 0 := (rdE_0 (by omega) (by omega)).1
    have b4 := rdN_lo h4
    have b8 := rdN_lo h8
    have q2 := byteAt_hi s (Int.toNat 2)
    have q3 := byteAt_hi s (Int.toNat 3)
    have r2 := byteAt_lo s (Int.toNat 2)
    have r3 := byteAt_lo s (Int.toNat 3)
    have hb : (bodyOf s).size ≤ 1000000 := by unfold bodyOf; rw [ByteArray.size_extract]; omega
    refine z_pure (e0 := ?e0x1) mix e51 rfl ?z01 ?_
    (case z01 => exact rfl)
    dsimp only [c51]
    repeat' (first | ((with_reducible apply z_call); (case' hd => apply d1); (case hw => exact wknL_ok rfl); (try any_goals exact sd)) | ((with_reducible apply z_call); (case' hd => apply (read_D s 4 hs (by omega))); (case hw => exact wknL_ok rfl); (try any_goals exact sd)) | ((with_reducible apply z_call); (case' hd => apply (read_D s 8 hs (by omega))); (case hw => exact wknL_ok rfl); (try any_goals exact sd)) | ((with_reducible apply z_call); (case' hd => apply (seal_D (hdOf s) (bodyOf s) s.size hb)); (case hw => exact wknL_ok rfl); (try any_goals exact sd)) | refine zs ?_ | refine Br.mk ?_ ?_ | intro _ | refine zf ?_ | fail)
    all_goals first
      | (have hy := op_yes (s := s) ⟨hz, ‹_›, ‹_›⟩
         exact tup3_of (a := hdV (hdOf s)) (b := .string (bodyOf s)) (c := .int .i64 0) (by kernel_rfl) (by rw [hy.1]) (by rw [hy.2.1]) (by rw [hy.2.2]))
      | (have hn := op_no (s := s) (fun h => ‹¬ sealS (hdOf s) (bodyOf s) s.size = s› h.2.2)
         exact tup3_of (a := hdV head0) (b := .string nilS) (c := .int .i64 3) (by kernel_rfl) (by rw [hn.1]) (by rw [hn.2.1]) (by rw [hn.2.2]))
      | (have hn := op_no (s := s) (fun h => ‹¬ mayE (hdOf s) (bodyOf s) s.size = 0› h.2.1)
         exact tup3_of (a := hdV head0) (b := .string nilS) (c := .int .i64 3) (by kernel_rfl) (by rw [hn.1]) (by rw [hn.2.1]) (by rw [hn.2.2]))
  · have d1 : DPure Tp I 67 [VN .i64 s.size] (BV false) := by have := size_D (I := I) s.size; rwa [show sizeB s.size = false by simpa using hz] at this
    have hn := op_no (s := s) (fun h => hz h.1)
    refine z_pure (e0 := ?e0x2) mix e51 rfl ?z02 ?_
    (case z02 => exact rfl)
    dsimp only [c51]
    repeat' (first | ((with_reducible apply z_call); (case' hd => apply d1); (case hw => exact wknL_ok rfl); (try any_goals exact sd)) | refine zs ?_ | refine Br.mk ?_ ?_ | intro _ | refine zf ?_ | fail)
    exact tup3_of (a := hdV head0) (b := .string nilS) (c := .int .i64 3) (by kernel_rfl) (by rw [hn.1]) (by rw [hn.2.1]) (by rw [hn.2.2])
end Go.Proofs.YtlbodfkhenkcjaaGreatDoor.X

