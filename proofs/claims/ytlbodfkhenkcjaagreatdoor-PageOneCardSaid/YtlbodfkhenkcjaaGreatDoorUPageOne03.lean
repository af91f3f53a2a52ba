/- What functions of the given program compute, step by step: the walks that the law PageOne leans on, part 3. No conditions. -/
import Derived.Test.YtlbodfkhenkcjaaGreatDoorUPageOne02
import Derived.Test.YtlbodfkhenkcjaaGreatDoorVPageOneShelf
import Derived.Outline
namespace Go.Proofs.YtlbodfkhenkcjaaGreatDoor.X
open Go Go.Proofs Go.RowKit Go.Proofs.YtlbodfkhenkcjaaGreatDoor.D
set_option maxRecDepth 100000
set_option maxHeartbeats 1000000
set_option linter.unusedVariables false
set_option linter.unusedSimpArgs false
variable {I : D.Inv}

def c59 : DFun := ⟨37, [.t 4, .t 5], .seq (.reg [⟨some 4, .mv (.c (.int .u32 0)), none⟩, ⟨some 5, .mv (.c (.int .i64 0)), none⟩]) (.seq (.seq (.reg [⟨some 8, .mv (.t 1), none⟩, ⟨some 9, .bin .lss (.t 8) (.c (.int .i64 0)), none⟩, ⟨some 10, .mv (.t 9), none⟩, ⟨some 11, .mv (.t 1), some (10, false)⟩, ⟨some 12, .mv (.t 0), some (10, false)⟩, ⟨some 13, .len true (.t 12), some (10, false)⟩, ⟨some 14, .bin .gtr (.t 11) (.t 13), some (10, false)⟩, ⟨some 15, .pick (.t 10) (.c (.bool true)) (.t 14), none⟩]) (.cond (.t 15) (.seq (.reg [⟨some 4, .mv (.c (.int .u32 0)), none⟩, ⟨some 5, .mv (.c (.int .i64 4)), none⟩]) .ret) .skip)) (.seq (.seq (.reg [⟨some 16, .mv (.t 0), none⟩, ⟨some 17, .len true (.t 16), none⟩, ⟨some 18, .mv (.t 1), none⟩, ⟨some 19, .bin .sub (.t 17) (.t 18), none⟩, ⟨some 20, .bin .lss (.t 19) (.c (.int .i64 4)), none⟩]) (.cond (.t 20) (.seq (.reg [⟨some 4, .mv (.c (.int .u32 0)), none⟩, ⟨some 5, .mv (.c (.int .i64 7)), none⟩]) .ret) .skip)) (.seq (.reg [⟨some 6, .mv (.c (.int .u32 0)), none⟩]) (.seq (.seq (.reg [⟨some 21, .mv (.c (.int .i64 0)), none⟩]) (.block 0 (.loop (.seq (.reg [⟨some 22, .bin .lss (.t 21) (.c (.int .i64 4)), none⟩]) (.seq (.cond (.t 22) .skip (.exit 0)) (.seq (.block 1 (.seq (.reg [⟨some 23, .mv (.t 21), none⟩, ⟨some 7, .mv (.t 23), none⟩]) (.reg [⟨some 24, .mv (.t 6), none⟩, ⟨some 25, .mv (.t 0), none⟩, ⟨some 26, .mv (.t 1), none⟩, ⟨some 27, .mv (.t 7), none⟩, ⟨some 28, .bin .add (.t 26) (.t 27), none⟩, ⟨some 29, .ixs (.t 25) (.t 28), none⟩, ⟨some 30, .cvt .u32 (.t 29), none⟩, ⟨some 31, .mv (.t 7), none⟩, ⟨some 32, .bin .mul (.c (.int .i64 8)) (.t 31), none⟩, ⟨some 33, .bin .shl (.t 30) (.t 32), none⟩, ⟨some 34, .bin .or (.t 24) (.t 33), none⟩, ⟨some 6, .mv (.t 34), none⟩]))) (.reg [⟨some 35, .bin .add (.t 21) (.c (.int .i64 1)), none⟩, ⟨some 21, .mv (.t 35), none⟩]))))))) (.seq (.reg [⟨some 36, .mv (.t 6), none⟩, ⟨some 4, .mv (.t 36), none⟩, ⟨some 5, .mv (.c (.int .i64 0)), none⟩]) .ret)))))⟩
theorem e59 : cfun Tryz.prog 59 = some c59 := by kernel_rfl
def rdV (s : ByteArray) (a : Nat) : Nat → Int
  | 0 => 0
  | i + 1 => rdV s a i + byteAt s (a + i) * 2 ^ (8 * i)
theorem four_cases {i : Nat} (h : i < 4) : i = 0 ∨ i = 1 ∨ i = 2 ∨ i = 3 := by omega
theorem sh_b {b : Int} {i : Nat} (h0 : 0 ≤ b) (h1 : b ≤ 255) (hi : i < 4) : 0 ≤ b * 2 ^ (8 * i) ∧ b * 2 ^ (8 * i) ≤ 4294967295 := by
  rcases four_cases hi with rfl | rfl | rfl | rfl <;> simp <;> omega
theorem rdV_b (s : ByteArray) (a i : Nat) (hi : i ≤ 4) : 0 ≤ rdV s a i ∧ rdV s a i < 2 ^ (8 * i) := by
  have l := byteAt_lo s; have h := byteAt_hi s
  have hc : i = 0 ∨ i = 1 ∨ i = 2 ∨ i = 3 ∨ i = 4 := by omega
  have l0 := l a; have l1 := l (a+1); have l2 := l (a+2); have l3 := l (a+3)
  have h0 := h a; have h1 := h (a+1); have h2 := h (a+2); have h3 := h (a+3)
  rcases hc with rfl | rfl | rfl | rfl | rfl <;> simp [rdV] <;> omega
theorem rdV_or (s : ByteArray) (a i : Nat) (hi : i < 4) : byteAt s (a + i) * 2 ^ (8 * i) + rdV s a i < 4294967296 := by
  have := (rdV_b s a (i + 1) (by omega)).2
  have hc := four_cases hi
  simp only [rdV] at this
  rcases hc with rfl | rfl | rfl | rfl <;> simp at this ⊢ <;> omega
def rdE (s : ByteArray) (a : Int) : Int := if a < 0 ∨ (s.size : Int) < a then 4 else if (s.size : Int) - a < 4 then 7 else 0
def rdN (s : ByteArray) (a : Int) : Int := if rdE s a = 0 then rdV s a.toNat 4 else 0
theorem rdE_4 {s : ByteArray} {a : Int} (h : a < 0 ∨ (s.size : Int) < a) : rdE s a = 4 ∧ rdN s a = 0 := by
  have h1 : rdE s a = 4 := if_pos h
  exact ⟨h1, by rw [rdN, h1]; rfl⟩
theorem rdE_7 {s : ByteArray} {a : Int} (h : ¬ (a < 0 ∨ (s.size : Int) < a)) (h2 : (s.size : Int) - a < 4) : rdE s a = 7 ∧ rdN s a = 0 := by
  have h1 : rdE s a = 7 := by rw [rdE, if_neg h, if_pos h2]
  exact ⟨h1, by rw [rdN, h1]; rfl⟩
theorem rdE_0 {s : ByteArray} {a : Int} (h : ¬ (a < 0 ∨ (s.size : Int) < a)) (h2 : ¬ (s.size : Int) - a < 4) : rdE s a = 0 ∧ rdN s a = rdV s a.toNat 4 := by
  have h1 : rdE s a = 0 := by rw [rdE, if_neg h, if_neg h2]
  exact ⟨h1, by rw [rdN, if_pos h1]⟩
theorem read_D (s : ByteArray) (a : Int) (hs : s.size ≤ 1000000) (ha : -1000000 ≤ a ∧ a ≤ 1000000) : DPure Tp I 59 [.v (.string s), VN .i64 a] (.v (.tuple #[.int .u32 (rdN s a), .int .i64 (rdE s a)])) := by
  refine pure_of mix e59 (Nat.le_of_ble_eq_true rfl) ?_
  have ⟨n, hn⟩ : ∃ n : Nat, n = a.toNat := ⟨_, rfl⟩
  conv => whnf
  repeat' ((first
    | with_reducible refine cond_t ?_
    | with_reducible refine cond_f ?_
    | with_reducible refine s_lss (fun _ => ?_) (fun _ => ?_)
    | with_reducible refine s_gtr (fun _ => ?_) (fun _ => ?_)
    | with_reducible refine s_sub (by omega) ?_
    | ((with_reducible refine is_end ?_); refine ⟨Or.inr rfl, ?_⟩)
    | fail) <;> conv => whnf)
  · have hh := rdE_4 (s := s) (a := a) (by omega)
    refine wk_v (x := .tuple #[.int .u32 0, .int .i64 4]) (by kernel_rfl) ?_
    rw [hh.1, hh.2]
  · have hh := rdE_4 (s := s) (a := a) (by omega)
    refine wk_v (x := .tuple #[.int .u32 0, .int .i64 4]) (by kernel_rfl) ?_
    rw [hh.1, hh.2]
  · have hh := rdE_7 (s := s) (a := a) (by omega) (by omega)
    refine wk_v (x := .tuple #[.int .u32 0, .int .i64 7]) (by kernel_rfl) ?_
    rw [hh.1, hh.2]
  have hh := rdE_0 (s := s) (a := a) (by omega) (by omega)
  refine loop_ind (fun i : Nat => ⟨[(21, VN .i64 i), (6, VN .u32 (rdV s n i)), (0, .v (.string s)), (1, VN .i64 a)], [], []⟩) (fun i => i ≤ 4) (fun i => 4 - i) 0 ?_ (Nat.zero_le _) fun i hi => ?_
  · refine less_of 0 0 0 rfl rfl ?_ ?_ ?_ ?_ ?_
    · refine lessE_cons (ltd_eq rfl ?_) (lessE_cons (ltd_eq rfl ?_) (lessE_cons (ltd_eq rfl ?_) (lessE_cons (ltd_eq rfl ?_) lessE_nil))) <;> kernel_rfl
    all_goals kernel_rfl
  have hb := rdV_b s n i hi
  conv => whnf
  repeat' ((first
    | with_reducible refine cond_t ?_
    | with_reducible refine cond_f ?_
    | refine s_shl32 (8 * i) (by omega) (by omega) (sh_b (byteAt_lo _ _) (byteAt_hi _ _) (by omega)) ?_
    | refine s_or32 (8 * i) (byteAt s (a + (i : Int)).toNat) rfl hb (byteAt_lo _ _) (by have := rdV_or s n i (by omega); rwa [show (a + (i : Int)).toNat = n + i by omega]) ?_
    | with_reducible refine s_lss (fun _ => ?_) (fun _ => ?_)
    | with_reducible refine s_add (by omega) ?_
    | with_reducible refine s_mul (by omega) ?_
    | with_reducible refine c_u32_b ?_
    | ((with_reducible refine is_end ?_); refine ⟨Or.inr rfl, ?_⟩)
    | refine And.intro (by omega) ?_
    | fail) <;> conv => whnf)
  · refine ⟨i + 1, less_of 0 0 0 rfl rfl (lessE_cons (ltd_eq rfl ?_) (lessE_cons (ltd_eq rfl ?_) (lessE_cons (ltd_eq rfl ?_) (lessE_cons (ltd_eq rfl ?_) lessE_nil)))) ?_ ?_ ?_ ?_, by omega, by omega⟩
    · kernel_rfl
    · refine Eq.trans (b := VN .u32 (rdV s n i + byteAt s (a + (i : Int)).toNat * 2 ^ (8 * i))) (by kernel_rfl) ?_
      rw [show (a + (i : Int)).toNat = n + i by omega]
      rfl
    iterate 6 kernel_rfl
  · have hi4 : i = 4 := by omega
    subst hi4
    refine wk_v (x := .tuple #[.int .u32 (rdV s n 4), .int .i64 0]) (by kernel_rfl) ?_
    rw [hh.1, hh.2, hn]
end Go.Proofs.YtlbodfkhenkcjaaGreatDoor.X


namespace Go.Proofs.YtlbodfkhenkcjaaGreatDoor.X
open Go Go.Proofs Go.RowKit Go.Proofs.YtlbodfkhenkcjaaGreatDoor.D
set_option maxRecDepth 100000
set_option maxHeartbeats 1000000
set_option linter.unusedVariables false
set_option linter.unusedSimpArgs false
variable {I : D.Inv}

def c123 : DFun := ⟨73, [.t 2], .seq (.reg [⟨some 2, .mv (.c (.string ⟨#[]⟩)), none⟩]) (.seq (.block 0 (.seq (.reg [⟨some 7, .mv (.t 0), none⟩, ⟨some 8, .bin .leq (.t 7) (.c (.int .u64 240)), none⟩, ⟨some 6, .mv (.t 8), none⟩]) (.cond (.t 6) (.seq (.reg [⟨some 9, .mv (.t 0), none⟩, ⟨some 10, .cvt .u8 (.t 9), none⟩, ⟨some 11, .bsl 1 [.t 10], none⟩, ⟨some 12, .b2s (.t 11), none⟩, ⟨some 2, .mv (.t 12), none⟩]) .ret) (.seq (.reg [⟨some 14, .mv (.t 0), none⟩, ⟨some 15, .bin .leq (.t 14) (.c (.int .u64 2287)), none⟩, ⟨some 13, .mv (.t 15), none⟩]) (.cond (.t 13) (.seq (.reg [⟨some 16, .mv (.t 0), none⟩, ⟨some 17, .bin .sub (.t 16) (.c (.int .u64 240)), none⟩, ⟨some 18, .bin .shr (.t 17) (.c (.int .u64 8)), none⟩, ⟨some 19, .bin .add (.c (.int .u64 241)) (.t 18), none⟩, ⟨some 20, .cvt .u8 (.t 19), none⟩, ⟨some 21, .mv (.t 0), none⟩, ⟨some 22, .bin .sub (.t 21) (.c (.int .u64 240)), none⟩, ⟨some 23, .cvt .u8 (.t 22), none⟩, ⟨some 24, .bsl 1 [.t 20, .t 23], none⟩, ⟨some 25, .b2s (.t 24), none⟩, ⟨some 2, .mv (.t 25), none⟩]) .ret) (.seq (.reg [⟨some 27, .mv (.t 0), none⟩, ⟨some 28, .bin .leq (.t 27) (.c (.int .u64 67823)), none⟩, ⟨some 26, .mv (.t 28), none⟩]) (.cond (.t 26) (.seq (.reg [⟨some 29, .mv (.t 0), none⟩, ⟨some 30, .bin .sub (.t 29) (.c (.int .u64 2287)), none⟩, ⟨some 31, .bin .sub (.t 30) (.c (.int .u64 1)), none⟩, ⟨some 32, .bin .shr (.t 31) (.c (.int .u64 8)), none⟩, ⟨some 33, .cvt .u8 (.t 32), none⟩, ⟨some 34, .mv (.t 0), none⟩, ⟨some 35, .bin .sub (.t 34) (.c (.int .u64 2287)), none⟩, ⟨some 36, .bin .sub (.t 35) (.c (.int .u64 1)), none⟩, ⟨some 37, .cvt .u8 (.t 36), none⟩, ⟨some 38, .bsl 1 [.c (.int .u8 249), .t 33, .t 37], none⟩, ⟨some 39, .b2s (.t 38), none⟩, ⟨some 2, .mv (.t 39), none⟩]) .ret) .skip))))))) (.seq (.reg [⟨some 3, .mv (.c (.int .i64 3)), none⟩]) (.seq (.block 1 (.loop (.seq (.seq (.reg [⟨some 40, .mv (.t 3), none⟩, ⟨some 41, .bin .lss (.t 40) (.c (.int .i64 8)), none⟩, ⟨some 42, .mv (.t 41), none⟩, ⟨some 43, .mv (.t 0), some (42, true)⟩, ⟨some 44, .mv (.t 3), some (42, true)⟩, ⟨some 45, .bin .mul (.c (.int .i64 8)) (.t 44), some (42, true)⟩, ⟨some 46, .bin .shr (.t 43) (.t 45), some (42, true)⟩, ⟨some 47, .bin .gtr (.t 46) (.c (.int .u64 0)), some (42, true)⟩, ⟨some 48, .pick (.t 42) (.t 47) (.c (.bool false)), none⟩]) (.cond (.t 48) .skip (.exit 1))) (.block 2 (.reg [⟨some 49, .mv (.t 3), none⟩, ⟨some 50, .bin .add (.t 49) (.c (.int .i64 1)), none⟩, ⟨some 3, .mv (.t 50), none⟩]))))) (.seq (.reg [⟨some 51, .mv (.t 3), none⟩, ⟨some 52, .bin .add (.c (.int .i64 247)) (.t 51), none⟩, ⟨some 53, .cvt .u8 (.t 52), none⟩, ⟨some 54, .bsl 1 [.t 53], none⟩, ⟨some 4, .mv (.t 54), none⟩]) (.seq (.seq (.reg [⟨some 55, .mv (.t 3), none⟩, ⟨some 56, .mv (.c (.int .i64 0)), none⟩]) (.block 3 (.loop (.seq (.reg [⟨some 57, .bin .lss (.t 56) (.t 55), none⟩]) (.seq (.cond (.t 57) .skip (.exit 3)) (.seq (.block 4 (.seq (.reg [⟨some 58, .mv (.t 56), none⟩, ⟨some 5, .mv (.t 58), none⟩]) (.reg [⟨some 59, .mv (.t 4), none⟩, ⟨some 60, .mv (.t 0), none⟩, ⟨some 61, .mv (.t 3), none⟩, ⟨some 62, .bin .sub (.t 61) (.c (.int .i64 1)), none⟩, ⟨some 63, .mv (.t 5), none⟩, ⟨some 64, .bin .sub (.t 62) (.t 63), none⟩, ⟨some 65, .bin .mul (.c (.int .i64 8)) (.t 64), none⟩, ⟨some 66, .bin .shr (.t 60) (.t 65), none⟩, ⟨some 67, .cvt .u8 (.t 66), none⟩, ⟨some 68, .bsl 1 [.t 67], none⟩, ⟨some 69, .app 5 1 1 (.t 59) (.t 68), none⟩, ⟨some 4, .mv (.t 69), none⟩]))) (.reg [⟨some 70, .bin .add (.t 56) (.c (.int .i64 1)), none⟩, ⟨some 56, .mv (.t 70), none⟩]))))))) (.seq (.reg [⟨some 71, .mv (.t 4), none⟩, ⟨some 72, .b2s (.t 71), none⟩, ⟨some 2, .mv (.t 72), none⟩]) .ret))))))⟩
theorem e123 : cfun Tryz.prog 123 = some c123 := by kernel_rfl
def kOf (n : Int) : Nat := if n < 16777216 then 3 else if n < 4294967296 then 4 else if n < 1099511627776 then 5 else if n < 281474976710656 then 6 else if n < 72057594037927936 then 7 else 8
def beL (n : Int) (k i : Nat) : List Int := (List.range i).map fun j => n / 2 ^ (8 * (k - 1 - j)) % 256
def putS (n : Int) : ByteArray :=
  if n ≤ 240 then strOfNums [n] else if n ≤ 2287 then strOfNums [241 + (n - 240) / 2 ^ 8, (n - 240) % 256] else if n ≤ 67823 then strOfNums [249, (n - 2287 - 1) / 2 ^ 8, (n - 2287 - 1) % 256]
  else strOfNums ((247 + (kOf n : Int)) :: beL n (kOf n) (kOf n))
abbrev U8s (l : List Int) : List DV := l.map fun n => VN .u8 n
theorem beL_succ (n : Int) (k i : Nat) : beL n k (i + 1) = beL n k i ++ [n / 2 ^ (8 * (k - 1 - i)) % 256] := by simp [beL, List.range_succ]
theorem beL_len (n : Int) (k i : Nat) : (beL n k i).length = i := by simp [beL]
theorem U8s_nums (l : List Int) : nums (U8s l) = some l := nums_map l
def prE (n : Int) (k i : Nat) : DV := match i with
  | 0 => .full 1 [VN .u8 (247 + (k : Int))]
  | i + 1 => .own 0 5 1 (U8s ((247 + (k : Int)) :: beL n k (i + 1)))
def prO (i : Nat) : List Nat := match i with
  | 0 => []
  | i + 1 => [(i + 1 + 1) * 1]
abbrev SV (s : ByteArray) : DV := .v (.string s)
theorem str_of {d : DV} {s t : ByteArray} (h : d = .v (.string s)) (e : s = t) : Wk d (.v (.string t)) := by subst h; subst e; exact .v _

theorem s_shr64 {K : Value → Prop} {k' : IntKind} {a y : Int} (m : Nat) (h : y = m) (hm : m ≤ 64) (hk : K (.int .u64 (a / 2 ^ m))) : ∃ r, dbin .shr (.int .u64 a) (.int k' y) = some r ∧ K r := s_shr m h hm hk
theorem kOf_b (n : Int) : 3 ≤ kOf n ∧ kOf n ≤ 8 := by unfold kOf; (repeat' split) <;> omega
theorem kOf_up {n : Int} {k : Nat} (h3 : 3 ≤ k) (h8 : k < 8) (h : 0 < n / 2 ^ (8 * k)) (hk : k ≤ kOf n) : k + 1 ≤ kOf n := by
  have hc : k = 3 ∨ k = 4 ∨ k = 5 ∨ k = 6 ∨ k = 7 := by omega
  unfold kOf at hk ⊢
  rcases hc with rfl | rfl | rfl | rfl | rfl <;> simp at h <;> (repeat' split) <;> omega
theorem kOf_at {n : Int} {k : Nat} (h3 : 3 ≤ k) (h8 : k < 8) (h : ¬ 0 < n / 2 ^ (8 * k)) (hk : k ≤ kOf n) : kOf n = k := by
  have hc : k = 3 ∨ k = 4 ∨ k = 5 ∨ k = 6 ∨ k = 7 := by omega
  unfold kOf at hk ⊢
  rcases hc with rfl | rfl | rfl | rfl | rfl <;> simp at h hk ⊢ <;> (repeat' split at hk) <;> (repeat' split) <;> omega
theorem prO_ok (n : Int) (k i : Nat) : (prO (i + 1))[0]? = some ((U8s ((247 + (k : Int)) :: beL n k (i + 1))).length * 1) := by simp [prO, U8s, beL_len]
theorem prO_le {n : Int} {k i : Nat} {x : DV} (h : i + 1 ≤ 8) : ((U8s ((247 + (k : Int)) :: beL n k (i + 1))).length + [x].length) * 1 ≤ 140737488355328 := by simp [U8s, beL_len]; omega
theorem prE_snoc {n : Int} {k i : Nat} : VN .u8 (247 + (k : Int)) :: (U8s (beL n k i) ++ [VN .u8 (n / 2 ^ (8 * (k - 1 - i)) % 256)]) = U8s ((247 + (k : Int)) :: beL n k (i + 1)) := by
  rw [beL_succ]; simp [U8s]

theorem put_D (n : Int) (h : 0 ≤ n ∧ n ≤ 18446744073709551615) : DPure Tp I 123 [VN .u64 n] (.v (.string (putS n))) := by
  refine pure_of mix e123 (Nat.le_of_ble_eq_true rfl) ?_
  conv => whnf
  repeat' ((first
    | with_reducible refine cond_t ?_
    | with_reducible refine cond_f ?_
    | with_reducible refine c_u8 (by omega) ?_
    | with_reducible refine c_u8_mod ?_
    | with_reducible refine s_shr 8 rfl (by decide) ?_
    | with_reducible refine s_leq (fun _ => ?_) (fun _ => ?_)
    | with_reducible refine s_addu (by omega) ?_
    | with_reducible refine s_subu (by omega) ?_
    | ((with_reducible refine is_bsl ?_); refine ⟨_, wknL_ok rfl, rfl, ?_⟩)
    | ((with_reducible refine is_b2s ?_); refine ⟨_, _, rfl, rfl, rfl, ?_⟩)
    | ((with_reducible refine is_end ?_); refine ⟨Or.inr rfl, ?_⟩)
    | fail) <;> conv => whnf)
  · refine str_of (s := strOfNums [n]) (by kernel_rfl) ?_
    rw [putS, if_pos (by omega)]
  · refine str_of (s := strOfNums [241 + (n - 240) / 2 ^ 8, (n - 240) % 256]) (by kernel_rfl) ?_
    rw [putS, if_neg (by omega), if_pos (by omega)]
  · refine str_of (s := strOfNums [249, (n - 2287 - 1) / 2 ^ 8, (n - 2287 - 1) % 256]) (by kernel_rfl) ?_
    rw [putS, if_neg (by omega), if_neg (by omega), if_pos (by omega)]
  refine loop_ind (fun k : Nat => ⟨[(3, VN .i64 k), (0, VN .u64 n)], [], []⟩) (fun k => 3 ≤ k ∧ k ≤ kOf n) (fun k => 8 - k) 3 ?_ ⟨by omega, (kOf_b n).1⟩ fun k hk => ?_
  · refine less_of 0 0 0 rfl rfl ?_ ?_ ?_ ?_ ?_
    · refine lessE_cons (ltd_eq rfl ?_) (lessE_cons (ltd_eq rfl ?_) lessE_nil) <;> kernel_rfl
    all_goals kernel_rfl
  have hk8 := (kOf_b n).2
  conv => whnf
  repeat' ((first
    | with_reducible refine cond_t ?_
    | with_reducible refine cond_f ?_
    | with_reducible refine c_u8 (by omega) ?_
    | with_reducible refine s_shr64 (8 * k) (by omega) (by omega) ?_
    | with_reducible refine s_lss (fun _ => ?_) (fun _ => ?_)
    | with_reducible refine s_gtr (fun _ => ?_) (fun _ => ?_)
    | with_reducible refine s_add (by omega) ?_
    | with_reducible refine s_mul (by omega) ?_
    | ((with_reducible refine is_bsl ?_); refine ⟨_, wknL_ok rfl, rfl, ?_⟩)
    | fail) <;> conv => whnf)
  · exact ⟨k + 1, less_of 0 0 0 rfl rfl (lessE_cons (ltd_eq rfl (by kernel_rfl)) (lessE_cons (ltd_eq rfl (by kernel_rfl)) lessE_nil)) (by kernel_rfl) (by kernel_rfl) (by kernel_rfl) (by kernel_rfl), ⟨by omega, kOf_up hk.1 (by omega) ‹_› hk.2⟩, by omega⟩
  all_goals (
    have he : kOf n = k := by first | exact kOf_at hk.1 (by omega) ‹_› hk.2 | omega
    refine loop_ind (fun i : Nat => ⟨[(3, VN .i64 k), (0, VN .u64 n), (4, prE n k i), (55, VN .i64 k), (56, VN .i64 i)], [], prO i⟩) (fun i => i ≤ k) (fun i => k - i) 0 ?_ (Nat.zero_le _) fun i hi => ?_
    · refine less_of 0 0 0 rfl rfl ?_ ?_ ?_ ?_ ?_
      · refine lessE_cons (ltd_eq rfl ?_) (lessE_cons (ltd_eq rfl ?_) (lessE_cons (ltd_eq rfl ?_) (lessE_cons (ltd_eq rfl ?_) (lessE_cons (ltd_eq rfl ?_) lessE_nil)))) <;> kernel_rfl
      all_goals kernel_rfl
    by_cases hik : i < k
    · cases i with
      | zero =>
        conv => whnf
        repeat' ((first
          | with_reducible refine cond_t ?_
          | with_reducible refine c_u8_mod ?_
          | with_reducible refine s_shr64 (8 * (k - 1)) (by omega) (by omega) ?_
          | with_reducible refine s_lss_t (by omega) ?_
          | with_reducible refine s_add (by omega) ?_
          | with_reducible refine s_sub (by omega) ?_
          | with_reducible refine s_mul (by omega) ?_
          | ((with_reducible refine is_bsl ?_); refine ⟨_, wknL_ok rfl, rfl, ?_⟩)
          | ((with_reducible refine is_e3 ?_); refine ⟨_, rfl, rfl, ?_⟩)
          | ((with_reducible refine is_and ?_); refine And.intro rfl ?_)
          | (refine And.intro (by simp only [List.length_cons, List.length_nil, List.length_map, List.length_append, List.length_take, List.length_drop]; omega) ?_)
          | fail) <;> conv => whnf)
        exact ⟨1, less_of 0 1 0 rfl rfl (lessE_cons (ltd_eq rfl (by kernel_rfl)) (lessE_cons (ltd_eq rfl (by kernel_rfl)) (lessE_cons (ltd_eq rfl (by kernel_rfl)) (lessE_cons (ltd_eq rfl (by kernel_rfl)) (lessE_cons (ltd_eq rfl (by kernel_rfl)) lessE_nil))))) (by kernel_rfl) (by kernel_rfl) (by kernel_rfl) (by kernel_rfl), by omega, by omega⟩
      | succ i =>
        conv => whnf
        repeat' ((first
          | with_reducible refine cond_t ?_
          | with_reducible refine c_u8_mod ?_
          | with_reducible refine s_shr64 (8 * (k - 1 - (i + 1))) (by omega) (by omega) ?_
          | refine And.intro (prO_ok _ _ _) ?_
          | refine And.intro (prO_le (by omega)) ?_
          | with_reducible refine s_lss_t (by omega) ?_
          | with_reducible refine s_add (by omega) ?_
          | with_reducible refine s_sub (by omega) ?_
          | with_reducible refine s_mul (by omega) ?_
          | ((with_reducible refine is_bsl ?_); refine ⟨_, wknL_ok rfl, rfl, ?_⟩)
          | ((with_reducible refine is_e3 ?_); refine ⟨_, rfl, rfl, ?_⟩)
          | ((with_reducible refine is_and ?_); refine And.intro rfl ?_)
          | fail) <;> conv => whnf)
        refine ⟨i + 2, less_of 0 1 0 rfl rfl (lessE_cons (ltd_eq rfl (by kernel_rfl)) (lessE_cons (ltd_eq rfl (by kernel_rfl)) (lessE_cons (ltd_eq rfl ?_) (lessE_cons (ltd_eq rfl (by kernel_rfl)) (lessE_cons (ltd_eq rfl (by kernel_rfl)) lessE_nil))))) (by kernel_rfl) (by kernel_rfl) ?_ (by kernel_rfl), by omega, by omega⟩
        · refine Eq.trans (b := .own 0 5 1 (VN .u8 (247 + (k : Int)) :: (U8s (beL n k (i + 1)) ++ [VN .u8 (n / 2 ^ (8 * (k - 1 - (i + 1))) % 256)]))) (by kernel_rfl) ?_
          rw [prE_snoc]
          rfl
        · refine Eq.trans (b := [((U8s ((247 + (k : Int)) :: beL n k (i + 1))).length + 1) * 1]) (by kernel_rfl) ?_
          simp [U8s, beL_len, prO]
    · have hi' : i = k := by omega
      obtain ⟨j, hj⟩ : ∃ j, i = j + 1 := ⟨i - 1, by omega⟩
      rw [hj]
      conv => whnf
      repeat' ((first
        | with_reducible refine cond_f ?_
        | refine ⟨_, _, rfl, rfl, U8s_nums _, ?_⟩
        | with_reducible refine s_lss_f (by omega) ?_
        | ((with_reducible refine is_end ?_); refine ⟨Or.inr rfl, ?_⟩)
        | fail) <;> conv => whnf)
      refine str_of (s := strOfNums ((247 + (k : Int)) :: beL n k (j + 1))) (by kernel_rfl) ?_
      rw [putS, if_neg (by omega), if_neg (by omega), if_neg (by omega), he, ← hj, hi']
  )
end Go.Proofs.YtlbodfkhenkcjaaGreatDoor.X


namespace Go.Proofs.YtlbodfkhenkcjaaGreatDoor.X
open Go Go.Proofs Go.RowKit Go.Proofs.YtlbodfkhenkcjaaGreatDoor.D
set_option maxRecDepth 100000
set_option maxHeartbeats 1000000
set_option linter.unusedVariables false
set_option linter.unusedSimpArgs false
variable {I : D.Inv}

def c96 : DFun := ⟨91, [.t 4, .t 5, .t 6], .seq (.reg [⟨some 4, .mv (.c (.int .u64 0)), none⟩, ⟨some 5, .mv (.c (.int .i64 0)), none⟩, ⟨some 6, .mv (.c (.int .i64 0)), none⟩]) (.seq (.seq (.reg [⟨some 12, .mv (.t 1), none⟩, ⟨some 13, .bin .lss (.t 12) (.c (.int .i64 0)), none⟩, ⟨some 14, .mv (.t 13), none⟩, ⟨some 15, .mv (.t 1), some (14, false)⟩, ⟨some 16, .mv (.t 0), some (14, false)⟩, ⟨some 17, .len true (.t 16), some (14, false)⟩, ⟨some 18, .bin .gtr (.t 15) (.t 17), some (14, false)⟩, ⟨some 19, .pick (.t 14) (.c (.bool true)) (.t 18), none⟩]) (.cond (.t 19) (.seq (.reg [⟨some 4, .mv (.c (.int .u64 0)), none⟩, ⟨some 5, .mv (.c (.int .i64 0)), none⟩, ⟨some 6, .mv (.c (.int .i64 4)), none⟩]) .ret) .skip)) (.seq (.seq (.reg [⟨some 20, .mv (.t 1), none⟩, ⟨some 21, .mv (.t 0), none⟩, ⟨some 22, .len true (.t 21), none⟩, ⟨some 23, .bin .eql (.t 20) (.t 22), none⟩, ⟨some 24, .mv (.t 23), none⟩, ⟨some 25, .mv (.t 0), some (24, false)⟩, ⟨some 26, .len true (.t 25), some (24, false)⟩, ⟨some 27, .mv (.t 1), some (24, false)⟩, ⟨some 28, .bin .sub (.t 26) (.t 27), some (24, false)⟩, ⟨some 29, .bin .sub (.t 28) (.c (.int .i64 1)), some (24, false)⟩, ⟨some 30, .mv (.t 0), some (24, false)⟩, ⟨some 31, .mv (.t 1), some (24, false)⟩, ⟨some 32, .ixs (.t 30) (.t 31), some (24, false)⟩, ⟨some 33, .call 154 [.t 32], some (24, false)⟩, ⟨some 34, .bin .lss (.t 29) (.t 33), some (24, false)⟩, ⟨some 35, .pick (.t 24) (.c (.bool true)) (.t 34), none⟩]) (.cond (.t 35) (.seq (.reg [⟨some 4, .mv (.c (.int .u64 0)), none⟩, ⟨some 5, .mv (.c (.int .i64 0)), none⟩, ⟨some 6, .mv (.c (.int .i64 7)), none⟩]) .ret) .skip)) (.seq (.reg [⟨some 36, .mv (.t 0), none⟩, ⟨some 37, .mv (.t 1), none⟩, ⟨some 38, .ixs (.t 36) (.t 37), none⟩, ⟨some 39, .call 154 [.t 38], none⟩, ⟨some 7, .mv (.t 39), none⟩]) (.seq (.reg [⟨some 8, .mv (.c (.int .u64 0)), none⟩]) (.seq (.seq (.reg [⟨some 40, .mv (.t 7), none⟩, ⟨some 41, .mv (.c (.int .i64 0)), none⟩]) (.block 0 (.loop (.seq (.reg [⟨some 42, .bin .lss (.t 41) (.t 40), none⟩]) (.seq (.cond (.t 42) .skip (.exit 0)) (.seq (.block 1 (.seq (.reg [⟨some 43, .mv (.t 41), none⟩, ⟨some 9, .mv (.t 43), none⟩]) (.reg [⟨some 44, .mv (.t 8), none⟩, ⟨some 45, .bin .shl (.t 44) (.c (.int .u64 8)), none⟩, ⟨some 46, .mv (.t 0), none⟩, ⟨some 47, .mv (.t 1), none⟩, ⟨some 48, .bin .add (.t 47) (.c (.int .i64 1)), none⟩, ⟨some 49, .mv (.t 9), none⟩, ⟨some 50, .bin .add (.t 48) (.t 49), none⟩, ⟨some 51, .ixs (.t 46) (.t 50), none⟩, ⟨some 52, .cvt .u64 (.t 51), none⟩, ⟨some 53, .bin .or (.t 45) (.t 52), none⟩, ⟨some 8, .mv (.t 53), none⟩]))) (.reg [⟨some 54, .bin .add (.t 41) (.c (.int .i64 1)), none⟩, ⟨some 41, .mv (.t 54), none⟩]))))))) (.seq (.seq (.reg [⟨some 55, .mv (.t 0), none⟩, ⟨some 56, .mv (.t 1), none⟩, ⟨some 57, .ixs (.t 55) (.t 56), none⟩, ⟨some 10, .mv (.t 57), none⟩]) (.block 2 (.seq (.reg [⟨some 59, .mv (.t 7), none⟩, ⟨some 60, .bin .eql (.t 59) (.c (.int .i64 0)), none⟩, ⟨some 58, .mv (.t 60), none⟩]) (.cond (.t 58) (.reg [⟨some 61, .mv (.t 10), none⟩, ⟨some 62, .cvt .u64 (.t 61), none⟩, ⟨some 8, .mv (.t 62), none⟩]) (.seq (.reg [⟨some 64, .mv (.t 7), none⟩, ⟨some 65, .bin .eql (.t 64) (.c (.int .i64 1)), none⟩, ⟨some 63, .mv (.t 65), none⟩]) (.cond (.t 63) (.reg [⟨some 66, .mv (.t 8), none⟩, ⟨some 67, .mv (.t 10), none⟩, ⟨some 68, .bin .sub (.t 67) (.c (.int .u8 241)), none⟩, ⟨some 69, .cvt .u64 (.t 68), none⟩, ⟨some 70, .bin .shl (.t 69) (.c (.int .u64 8)), none⟩, ⟨some 71, .bin .add (.c (.int .u64 240)) (.t 70), none⟩, ⟨some 72, .bin .add (.t 66) (.t 71), none⟩, ⟨some 8, .mv (.t 72), none⟩]) (.seq (.reg [⟨some 74, .mv (.t 7), none⟩, ⟨some 75, .bin .eql (.t 74) (.c (.int .i64 2)), none⟩, ⟨some 73, .mv (.t 75), none⟩]) (.cond (.t 73) (.reg [⟨some 76, .mv (.t 8), none⟩, ⟨some 77, .bin .add (.t 76) (.c (.int .u64 2288)), none⟩, ⟨some 8, .mv (.t 77), none⟩]) .skip)))))))) (.seq (.seq (.reg [⟨some 78, .mv (.t 1), none⟩, ⟨some 79, .bin .add (.t 78) (.c (.int .i64 1)), none⟩, ⟨some 80, .mv (.t 7), none⟩, ⟨some 81, .bin .add (.t 79) (.t 80), none⟩, ⟨some 11, .mv (.t 81), none⟩]) (.seq (.reg [⟨some 82, .mv (.t 8), none⟩, ⟨some 83, .call 123 [.t 82], none⟩, ⟨some 84, .mv (.t 0), none⟩, ⟨some 85, .mv (.t 1), none⟩, ⟨some 86, .mv (.t 11), none⟩, ⟨some 87, .slS (.t 84) (some (.t 85)) (some (.t 86)), none⟩, ⟨some 88, .bin .eql (.t 83) (.t 87), none⟩]) (.cond (.t 88) (.seq (.reg [⟨some 89, .mv (.t 8), none⟩, ⟨some 90, .mv (.t 11), none⟩, ⟨some 4, .mv (.t 89), none⟩, ⟨some 5, .mv (.t 90), none⟩, ⟨some 6, .mv (.c (.int .i64 0)), none⟩]) .ret) .skip))) (.seq (.reg [⟨some 4, .mv (.c (.int .u64 0)), none⟩, ⟨some 5, .mv (.c (.int .i64 0)), none⟩, ⟨some 6, .mv (.c (.int .i64 3)), none⟩]) .ret))))))))⟩
theorem e96 : cfun Tryz.prog 96 = some c96 := by kernel_rfl
def bigN (s : ByteArray) (a : Nat) : Nat → Int
  | 0 => 0
  | i + 1 => bigN s a i * 2 ^ 8 + byteAt s (a + i)
theorem bigN_b (s : ByteArray) (a : Nat) : ∀ i, 0 ≤ bigN s a i ∧ bigN s a i < 2 ^ (8 * i)
  | 0 => by simp [bigN]
  | i + 1 => by
    have h := bigN_b s a i
    have := byteAt_lo s (a + i); have := byteAt_hi s (a + i)
    have e : (2 : Int) ^ (8 * (i + 1)) = 2 ^ (8 * i) * 256 := by rw [show 8 * (i + 1) = 8 * i + 8 by omega, Int.pow_add]; rfl
    rw [e]
    simp only [bigN]
    generalize (2 : Int) ^ (8 * i) = z at h
    omega
theorem bigN_56 (s : ByteArray) (a i : Nat) (h : i < 8) : bigN s a i < 72057594037927936 := by
  have hb := (bigN_b s a i).2
  have hc : i = 0 ∨ i = 1 ∨ i = 2 ∨ i = 3 ∨ i = 4 ∨ i = 5 ∨ i = 6 ∨ i = 7 := by omega
  rcases hc with rfl | rfl | rfl | rfl | rfl | rfl | rfl | rfl <;> simp at hb <;> omega
theorem bigN_64 (s : ByteArray) (a i : Nat) (h : i ≤ 8) : bigN s a i < 18446744073709551616 := by
  have hb := (bigN_b s a i).2
  have hc : i = 0 ∨ i = 1 ∨ i = 2 ∨ i = 3 ∨ i = 4 ∨ i = 5 ∨ i = 6 ∨ i = 7 ∨ i = 8 := by omega
  rcases hc with rfl | rfl | rfl | rfl | rfl | rfl | rfl | rfl | rfl <;> simp at hb <;> omega
def moreN (s : ByteArray) (a : Int) : Nat := (moreF (byteAt s a.toNat)).toNat
theorem moreF_b {c : Int} (h : c ≤ 255) : 0 ≤ moreF c ∧ moreF c ≤ 8 := by unfold moreF; (repeat' split) <;> omega
theorem moreN_eq (s : ByteArray) (a : Int) : moreF (byteAt s a.toNat) = (moreN s a : Int) := by have := (moreF_b (byteAt_hi s a.toNat)).1; unfold moreN; omega
theorem moreN_b (s : ByteArray) (a : Int) : moreN s a ≤ 8 := by have := (moreF_b (byteAt_hi s a.toNat)).2; unfold moreN; omega
def getV (s : ByteArray) (a : Int) : Int := let k := moreN s a; let c := byteAt s a.toNat; let n := bigN s (a.toNat + 1) k
  if k = 0 then c else if k = 1 then n + (240 + (c - 241) * 2 ^ 8) else if k = 2 then n + 2288 else n
def getShort (s : ByteArray) (a : Int) : Prop := a = s.size ∨ (s.size : Int) - a - 1 < moreN s a
instance (s : ByteArray) (a : Int) : Decidable (getShort s a) := inferInstanceAs (Decidable (_ ∨ _))
def getE (s : ByteArray) (a : Int) : Int := if a < 0 ∨ (s.size : Int) < a then 4 else if getShort s a then 7 else if putS (getV s a) = s.extract a.toNat (a + 1 + moreN s a).toNat then 0 else 3
def getN (s : ByteArray) (a : Int) : Int := if getE s a = 0 then getV s a else 0
def getT (s : ByteArray) (a : Int) : Int := if getE s a = 0 then a + 1 + moreN s a else 0
theorem tup3_of {d : DV} {a b c a' b' c' : Value} (h : d = .v (.tuple #[a, b, c])) (h1 : a' = a) (h2 : b' = b) (h3 : c' = c) : Wk d (.v (.tuple #[a', b', c'])) := by subst h; subst h1; subst h2; subst h3; exact .v _
theorem getE_4 {s : ByteArray} {a : Int} (h : a < 0 ∨ (s.size : Int) < a) : getE s a = 4 ∧ getN s a = 0 ∧ getT s a = 0 := by
  have h1 : getE s a = 4 := if_pos h
  exact ⟨h1, by rw [getN, h1]; rfl, by rw [getT, h1]; rfl⟩
theorem getE_7 {s : ByteArray} {a : Int} (h : ¬ (a < 0 ∨ (s.size : Int) < a)) (h2 : getShort s a) : getE s a = 7 ∧ getN s a = 0 ∧ getT s a = 0 := by
  have h1 : getE s a = 7 := by rw [getE, if_neg h, if_pos h2]
  exact ⟨h1, by rw [getN, h1]; rfl, by rw [getT, h1]; rfl⟩
theorem getE_3 {s : ByteArray} {a : Int} (h : ¬ (a < 0 ∨ (s.size : Int) < a)) (h2 : ¬ getShort s a) (h3 : ¬ putS (getV s a) = s.extract a.toNat (a + 1 + moreN s a).toNat) : getE s a = 3 ∧ getN s a = 0 ∧ getT s a = 0 := by
  have h1 : getE s a = 3 := by rw [getE, if_neg h, if_neg h2, if_neg h3]
  exact ⟨h1, by rw [getN, h1]; rfl, by rw [getT, h1]; rfl⟩
theorem getE_0 {s : ByteArray} {a : Int} (h : ¬ (a < 0 ∨ (s.size : Int) < a)) (h2 : ¬ getShort s a) (h3 : putS (getV s a) = s.extract a.toNat (a + 1 + moreN s a).toNat) : getE s a = 0 ∧ getN s a = getV s a ∧ getT s a = a + 1 + moreN s a := by
  have h1 : getE s a = 0 := by rw [getE, if_neg h, if_neg h2, if_pos h3]
  exact ⟨h1, by rw [getN, if_pos h1], by rw [getT, if_pos h1]⟩
theorem getV_0 {s : ByteArray} {a : Int} (h : (moreN s a : Int) = 0) : getV s a = byteAt s a.toNat := by unfold getV; rw [if_pos (by omega)]
theorem getV_1 {s : ByteArray} {a : Int} {i : Nat} (hi : i = moreN s a) (h : (moreN s a : Int) = 1) : getV s a = bigN s (a.toNat + 1) i + (240 + (byteAt s a.toNat - 241) * 2 ^ 8) := by subst hi; unfold getV; rw [if_neg (by omega), if_pos (by omega)]
theorem getV_2 {s : ByteArray} {a : Int} {i : Nat} (hi : i = moreN s a) (h : (moreN s a : Int) = 2) : getV s a = bigN s (a.toNat + 1) i + 2288 := by subst hi; unfold getV; rw [if_neg (by omega), if_neg (by omega), if_pos (by omega)]
theorem getV_3 {s : ByteArray} {a : Int} {i : Nat} (hi : i = moreN s a) (h0 : ¬ (moreN s a : Int) = 0) (h1 : ¬ (moreN s a : Int) = 1) (h2 : ¬ (moreN s a : Int) = 2) : getV s a = bigN s (a.toNat + 1) i := by subst hi; unfold getV; rw [if_neg (by omega), if_neg (by omega), if_neg (by omega)]
theorem more1 (s : ByteArray) (a : Int) : DPure Tp I 154 [VN .u8 (byteAt s a.toNat)] (VN .i64 (moreN s a)) := by
  rw [← moreN_eq]; exact wmore_D _ (byteAt_lo _ _) (byteAt_hi _ _)
theorem more_1 {s : ByteArray} {a : Int} (h : moreN s a = 1) : 241 ≤ byteAt s a.toNat ∧ byteAt s a.toNat ≤ 248 := by
  have e := moreN_eq s a
  rw [h] at e
  unfold moreF at e
  have := byteAt_hi s a.toNat
  (repeat' split at e) <;> omega

theorem get_D (s : ByteArray) (a : Int) (hs : s.size ≤ 1000000) (ha : -1000000 ≤ a ∧ a ≤ 2000000) : DPure Tp I 96 [.v (.string s), VN .i64 a] (.v (.tuple #[.int .u64 (getN s a), .int .i64 (getT s a), .int .i64 (getE s a)])) := by
  refine pure_of mix e96 (Nat.le_of_ble_eq_true rfl) ?_
  have hk8 := moreN_b s a
  conv => whnf
  repeat' ((first
    | with_reducible refine cond_t ?_
    | with_reducible refine cond_f ?_
    | refine ⟨_, _, wknL_ok rfl, more1 _ _, ?_⟩
    | with_reducible refine s_lss (fun _ => ?_) (fun _ => ?_)
    | with_reducible refine s_gtr (fun _ => ?_) (fun _ => ?_)
    | with_reducible refine s_eql (fun _ => ?_) (fun _ => ?_)
    | with_reducible refine s_sub (by omega) ?_
    | ((with_reducible refine is_end ?_); refine ⟨Or.inr rfl, ?_⟩)
    | refine And.intro (by omega) ?_
    | fail) <;> conv => whnf)
  · have h := getE_4 (s := s) (a := a) (by omega)
    exact tup3_of (a := .int .u64 0) (b := .int .i64 0) (c := .int .i64 4) (by kernel_rfl) (by rw [h.2.1]) (by rw [h.2.2]) (by rw [h.1])
  · have h := getE_4 (s := s) (a := a) (by omega)
    exact tup3_of (a := .int .u64 0) (b := .int .i64 0) (c := .int .i64 4) (by kernel_rfl) (by rw [h.2.1]) (by rw [h.2.2]) (by rw [h.1])
  · have h := getE_7 (s := s) (a := a) (by omega) (.inl (by omega))
    exact tup3_of (a := .int .u64 0) (b := .int .i64 0) (c := .int .i64 7) (by kernel_rfl) (by rw [h.2.1]) (by rw [h.2.2]) (by rw [h.1])
  · have h := getE_7 (s := s) (a := a) (by omega) (.inr (by omega))
    exact tup3_of (a := .int .u64 0) (b := .int .i64 0) (c := .int .i64 7) (by kernel_rfl) (by rw [h.2.1]) (by rw [h.2.2]) (by rw [h.1])
  have hns : ¬ getShort s a := by unfold getShort; omega
  have hr : ¬ (a < 0 ∨ (s.size : Int) < a) := by omega
  refine loop_ind (fun i : Nat => ⟨[(0, SV s), (1, VN .i64 a), (7, VN .i64 (moreN s a)), (8, VN .u64 (bigN s (a.toNat + 1) i)), (40, VN .i64 (moreN s a)), (41, VN .i64 i)], [], []⟩) (fun i => i ≤ moreN s a) (fun i => moreN s a - i) 0 ?_ (Nat.zero_le _) fun i hi => ?_
  · refine less_of 0 0 0 rfl rfl ?_ ?_ ?_ ?_ ?_
    · refine lessE_cons (ltd_eq rfl ?_) (lessE_cons (ltd_eq rfl ?_) (lessE_cons (ltd_eq rfl ?_) (lessE_cons (ltd_eq rfl ?_) (lessE_cons (ltd_eq rfl ?_) (lessE_cons (ltd_eq rfl ?_) lessE_nil))))) <;> kernel_rfl
    all_goals kernel_rfl
  have hb := bigN_b s (a.toNat + 1) i
  have h64 := bigN_64 s (a.toNat + 1) i (by omega)
  by_cases hik : i < moreN s a
  · have h56 := bigN_56 s (a.toNat + 1) i (by omega)
    conv => whnf
    repeat' ((first
      | with_reducible refine cond_t ?_
      | with_reducible refine s_shl64 8 rfl (by decide) (by omega) ?_
      | with_reducible refine s_or64 8 (bigN s (a.toNat + 1) i) rfl ⟨byteAt_lo _ _, by have := byteAt_hi s (a + 1 + (i : Int)).toNat; omega⟩ hb.1 (by have := byteAt_hi s (a + 1 + (i : Int)).toNat; omega) ?_
      | with_reducible refine s_lss_t (by omega) ?_
      | with_reducible refine s_add (by omega) ?_
      | with_reducible refine c_u64_b ?_
      | refine And.intro (by omega) ?_
      | fail) <;> conv => whnf)
    refine ⟨i + 1, less_of 0 0 0 rfl rfl (lessE_cons (ltd_eq rfl (by kernel_rfl)) (lessE_cons (ltd_eq rfl (by kernel_rfl)) (lessE_cons (ltd_eq rfl (by kernel_rfl)) (lessE_cons (ltd_eq rfl ?_) (lessE_cons (ltd_eq rfl (by kernel_rfl)) (lessE_cons (ltd_eq rfl (by kernel_rfl)) lessE_nil)))))) (by kernel_rfl) (by kernel_rfl) (by kernel_rfl) (by kernel_rfl), hik, by omega⟩
    refine Eq.trans (b := VN .u64 (bigN s (a.toNat + 1) i * 2 ^ 8 + byteAt s (a + 1 + (i : Int)).toNat)) (by kernel_rfl) ?_
    rw [show (a + 1 + (i : Int)).toNat = a.toNat + 1 + i by omega]
    rfl
  have hi' : i = moreN s a := by omega
  have hc0 := byteAt_lo s a.toNat
  have hc1 := byteAt_hi s a.toNat
  have hm1 : moreN s a = 1 → 241 ≤ byteAt s a.toNat ∧ byteAt s a.toNat ≤ 248 := more_1
  have hone : bigN s (a.toNat + 1) 1 = byteAt s (a.toNat + 1) := by simp [bigN]
  have h1b : i = 1 → bigN s (a.toNat + 1) i ≤ 255 := fun h => by rw [h, hone]; exact byteAt_hi _ _
  have h2b : i = 2 → bigN s (a.toNat + 1) i < 65536 := fun h => by rw [h] at hb ⊢; exact hb.2
  conv => whnf
  repeat' ((first
    | with_reducible refine cond_t ?_
    | with_reducible refine cond_f ?_
    | with_reducible refine s_sub8 (by omega) ?_
    | with_reducible refine c_u64 (by omega) ?_
    | with_reducible refine s_shl64 8 rfl (by decide) (by omega) ?_
    | refine ⟨_, _, wknL_ok rfl, put_D _ (by omega), ?_⟩
    | with_reducible refine s_lss_f (by omega) ?_
    | with_reducible refine s_eql (fun _ => ?_) (fun _ => ?_)
    | with_reducible refine s_add (by omega) ?_
    | with_reducible refine s_addu (by omega) ?_
    | with_reducible refine s_seql (fun _ => ?_) (fun _ => ?_)
    | ((with_reducible refine is_end ?_); refine ⟨Or.inr rfl, ?_⟩)
    | refine And.intro (by omega) ?_
    | fail) <;> conv => whnf)
  all_goals first
    | (have h := getE_0 hr hns (by first | (rw [getV_0 ‹_›]; assumption) | (rw [getV_1 hi' ‹_›]; assumption) | (rw [getV_2 hi' ‹_›]; assumption) | (rw [getV_3 hi' ‹_› ‹_› ‹_›]; assumption))
       first
       | (have e := getV_0 (s := s) (a := a) ‹_›; exact tup3_of (a := .int .u64 (byteAt s a.toNat)) (b := .int .i64 (a + 1 + moreN s a)) (c := .int .i64 0) (by kernel_rfl) (by rw [h.2.1, e]) (by rw [h.2.2]) (by rw [h.1]))
       | (have e := getV_1 hi' ‹_›; exact tup3_of (a := .int .u64 (bigN s (a.toNat + 1) i + (240 + (byteAt s a.toNat - 241) * 2 ^ 8))) (b := .int .i64 (a + 1 + moreN s a)) (c := .int .i64 0) (by kernel_rfl) (by rw [h.2.1, e]) (by rw [h.2.2]) (by rw [h.1]))
       | (have e := getV_2 hi' ‹_›; exact tup3_of (a := .int .u64 (bigN s (a.toNat + 1) i + 2288)) (b := .int .i64 (a + 1 + moreN s a)) (c := .int .i64 0) (by kernel_rfl) (by rw [h.2.1, e]) (by rw [h.2.2]) (by rw [h.1]))
       | (have e := getV_3 hi' ‹_› ‹_› ‹_›; exact tup3_of (a := .int .u64 (bigN s (a.toNat + 1) i)) (b := .int .i64 (a + 1 + moreN s a)) (c := .int .i64 0) (by kernel_rfl) (by rw [h.2.1, e]) (by rw [h.2.2]) (by rw [h.1])))
    | (have h := getE_3 hr hns (by first | (rw [getV_0 ‹_›]; assumption) | (rw [getV_1 hi' ‹_›]; assumption) | (rw [getV_2 hi' ‹_›]; assumption) | (rw [getV_3 hi' ‹_› ‹_› ‹_›]; assumption))
       exact tup3_of (a := .int .u64 0) (b := .int .i64 0) (c := .int .i64 3) (by kernel_rfl) (by rw [h.2.1]) (by rw [h.2.2]) (by rw [h.1]))
end Go.Proofs.YtlbodfkhenkcjaaGreatDoor.X


namespace Go.Proofs.YtlbodfkhenkcjaaGreatDoor.X
open Go Go.Proofs Go.RowKit Go.Proofs.YtlbodfkhenkcjaaGreatDoor.D
set_option maxRecDepth 100000
set_option maxHeartbeats 1000000
set_option linter.unusedVariables false
set_option linter.unusedSimpArgs false
variable {I : D.Inv}

def zeroB (n : Nat) : ByteArray := ⟨(Lib.repeatL (⟨#[0]⟩ : ByteArray).data.toList n).toArray⟩
theorem zeroB_size (n : Nat) : (zeroB n).size = n := by
  unfold zeroB
  show (Lib.repeatL _ n).length = n
  induction n with
  | zero => rfl
  | succ n ih => simp [Lib.repeatL] at ih ⊢; omega
theorem repeat_D (n : Int) (h : 0 ≤ n ∧ n ≤ 1000000) : DPure Tp I 65 [SV ⟨#[0]⟩, VN .i64 n] (SV (zeroB n.toNat)) := by
  obtain ⟨m, rfl⟩ := Int.eq_ofNat_of_zero_le h.1
  exact of_walk (xs := [.string ⟨#[0]⟩, .int .i64 m]) (by kernel_rfl) fun W _ => Tryz.strings_Repeat ⟨#[0]⟩ m W (by omega) (by show 1 * m ≤ _; omega)

def catB (l : List ByteArray) : ByteArray := ⟨(Lib.join (l.map (·.data.toList)) []).toArray⟩
def strsL (l : List ByteArray) : List DV := l.map SV
theorem strsL_flat : ∀ l : List ByteArray, (strsL l).flatMap DV.cells = strsL l
  | [] => rfl
  | s :: l => by
    have := strsL_flat l
    unfold strsL at this ⊢
    rw [List.map_cons, List.flatMap_cons, this]
    rfl
theorem join_D (l : List ByteArray) (h : l.length ≤ 1000000) (hs : (catB l).size ≤ 1000000) : DPure Tp I 174 [.list 1 (strsL l), SV ⟨#[]⟩] (SV (catB l)) := by
  refine ⟨by kernel_rfl, fun S W vals hI hr => ?_⟩
  obtain ⟨v0, vs, rfl, r0, hr⟩ := hr.uncons
  obtain ⟨v1, vs, rfl, r1, hr⟩ := hr.uncons
  obtain rfl := hr.unnil
  cases r1
  cases r0 with
  | list _ _ _ ys a len cap b o h1 h3 h4 h5 h6 h7 h8 =>
    rw [strsL_flat] at h6 h8
    have hl : (strsL l).length = l.length := by simp [strsL]
    rw [hl] at h1 h6
    obtain ⟨rfl, hcap⟩ := h1
    rcases Nat.eq_zero_or_pos l.length with h0 | h0
    · obtain rfl : l = [] := List.eq_nil_of_length_eq_zero h0
      refine (Tryz.strings_Join_none a cap ⟨#[]⟩ W).mono ?_
      rintro e w' ⟨rfl, rfl⟩
      exact ⟨_, rfl, .v _ _, Below.refl _ _⟩
    · have hne : strsL l ≠ [] := by intro e; rw [← hl, e] at h0; simp at h0
      obtain rfl := h5 hne
      have hcell : ∀ (j : Nat) x, l[j]? = some x → W.cell? ⟨b, o + j, none⟩ = some (.string x) := by
        intro j x hj
        have hjl : j < l.length := (List.getElem?_eq_some_iff.1 hj).1
        have hy : ys[j]? = some (ys[j]'(by omega)) := List.getElem?_eq_getElem _
        have h9 := h8 j (SV x) _ (by simp [strsL, hj]) hy
        have e : ys[j]'(by omega) = .string x := by
          generalize hz : ys[j]'(by omega) = z at h9
          cases h9
          rfl
        rw [e] at hy
        exact (h7 j _ hy).2
      have hb : b < W.heap.size := by
        obtain ⟨x, hx⟩ : ∃ x, l[0]? = some x := ⟨l[0], List.getElem?_eq_getElem h0⟩
        exact World.block_lt_of_cell? W _ (hcell 0 x hx)
      refine (Tryz.strings_Join b o cap l ⟨#[]⟩ W hcell hb (by omega) hcap (by have : (Lib.join (l.map (·.data.toList)) []).length = (catB l).size := rfl; show (Lib.join (l.map (·.data.toList)) []).length ≤ _; omega)).mono ?_
      rintro e w' ⟨rfl, hbel⟩
      exact ⟨_, rfl, .v _ _, hbel⟩

def fourB (n : Int) : ByteArray := strOfNums [n % 256, n / 256 % 256, n / 65536 % 256, n / 16777216 % 256]
theorem fourB_size (n : Int) : (fourB n).size = 4 := rfl
theorem four_conv (w : World) (a b c d : Int) : (convert 75 9 (.slice (some ⟨w.heap.size, 0, none⟩) 4 4)).run Tryz.prog (w.alloc (.cells #[.int .u8 a, .int .u8 b, .int .u8 c, .int .u8 d] 74)) = .ok (.string (strOfNums [a, b, c, d])) (w.alloc (.cells #[.int .u8 a, .int .u8 b, .int .u8 c, .int .u8 d] 74)) := by
  refine run_convert_bytes_arg (P := Tryz.prog) _ 75 5 Tryz.underlying75 Tryz.underlying5 w.heap.size 0 4 4 [a, b, c, d] rfl (fun j hj => ?_) 9 Tryz.underlying9
  have : j = 0 ∨ j = 1 ∨ j = 2 ∨ j = 3 := by omega
  rcases this with rfl | rfl | rfl | rfl <;> go_simp
theorem four_W (a0 : Int) (w : World) :
    Calls Tryz.prog 64 #[.int .u32 a0] w fun e w' => e = .returned (.string (fourB a0)) ∧ Below w.heap.size w w' := by
  go_enter Tryz.func64, Tryz.ntmps64
  go_wp2
  refine wp_loop_rounds 5 ?_
  rw [rounds_succ]
  go_wp2
  rw [rounds_succ]
  go_wp2
  rw [rounds_succ]
  go_wp2
  rw [rounds_succ]
  go_wp2
  rw [rounds_succ]
  have hk := four_conv w (a0 % 256) (a0 / 256 % 256) (a0 / 65536 % 256) (a0 / 16777216 % 256)
  go_wp2_with fail
  go_ret
  exact ⟨rfl, (Below.refl _ _).alloc (Nat.le_refl _) _⟩
theorem four_D (n : Int) : DPure Tp I 64 [VN .u32 n] (SV (fourB n)) :=
  of_walk (xs := [.int .u32 n]) (by kernel_rfl) fun W _ => four_W n W
end Go.Proofs.YtlbodfkhenkcjaaGreatDoor.X


namespace Go.Proofs.YtlbodfkhenkcjaaGreatDoor.X
open Go Go.Proofs Go.RowKit Go.Proofs.YtlbodfkhenkcjaaGreatDoor.D
set_option maxRecDepth 100000
set_option maxHeartbeats 1000000
set_option linter.unusedVariables false
set_option linter.unusedSimpArgs false
variable {I : D.Inv}

def c176 : DFun := ⟨9, [.t 2], .seq (.reg [⟨some 2, .mv (.c (.bool false)), none⟩]) (.seq (.reg [⟨some 3, .mv (.t 0), none⟩, ⟨some 4, .bin .geq (.t 3) (.c (.int .i64 1)), none⟩, ⟨some 5, .mv (.t 4), none⟩, ⟨some 6, .mv (.t 0), some (5, true)⟩, ⟨some 7, .bin .lss (.t 6) (.c (.int .i64 4096)), some (5, true)⟩, ⟨some 8, .pick (.t 5) (.t 7) (.c (.bool false)), none⟩, ⟨some 2, .mv (.t 8), none⟩]) .ret)⟩
theorem e176 : cfun Tryz.prog 176 = some c176 := by kernel_rfl
def c169 : DFun := ⟨37, [.t 2], .seq (.reg [⟨some 1, .box (.t 0), none⟩, ⟨some 2, .mv (.c (.bool false)), none⟩]) (.seq (.seq (.reg [⟨some 3, .fa 0 (.t 1), none⟩, ⟨some 4, .ld 1 false (.t 3), none⟩]) (.cond (.t 4) (.seq (.reg [⟨some 5, .fa 1 (.t 1), none⟩, ⟨some 6, .ld 1 false (.t 5), none⟩, ⟨some 7, .bin .eql (.t 6) (.c (.string ⟨#[]⟩)), none⟩, ⟨some 8, .mv (.t 7), none⟩, ⟨some 9, .fa 2 (.t 1), some (8, true)⟩, ⟨some 10, .ld 1 false (.t 9), some (8, true)⟩, ⟨some 11, .bin .geq (.t 10) (.c (.int .i64 1)), some (8, true)⟩, ⟨some 12, .pick (.t 8) (.t 11) (.c (.bool false)), none⟩, ⟨some 13, .mv (.t 12), none⟩, ⟨some 14, .fa 2 (.t 1), some (13, true)⟩, ⟨some 15, .ld 1 false (.t 14), some (13, true)⟩, ⟨some 16, .bin .leq (.t 15) (.c (.int .i64 4096)), some (13, true)⟩, ⟨some 17, .pick (.t 13) (.t 16) (.c (.bool false)), none⟩, ⟨some 18, .mv (.t 17), none⟩, ⟨some 19, .fa 3 (.t 1), some (18, true)⟩, ⟨some 20, .ld 1 false (.t 19), some (18, true)⟩, ⟨some 21, .call 176 [.t 20], some (18, true)⟩, ⟨some 22, .pick (.t 18) (.t 21) (.c (.bool false)), none⟩, ⟨some 2, .mv (.t 22), none⟩]) .ret) .skip)) (.seq (.reg [⟨some 23, .fa 2 (.t 1), none⟩, ⟨some 24, .ld 1 false (.t 23), none⟩, ⟨some 25, .bin .eql (.t 24) (.c (.int .i64 0)), none⟩, ⟨some 26, .mv (.t 25), none⟩, ⟨some 27, .fa 3 (.t 1), some (26, true)⟩, ⟨some 28, .ld 1 false (.t 27), some (26, true)⟩, ⟨some 29, .bin .eql (.t 28) (.c (.int .i64 0)), some (26, true)⟩, ⟨some 30, .pick (.t 26) (.t 29) (.c (.bool false)), none⟩, ⟨some 31, .mv (.t 30), none⟩, ⟨some 32, .fa 1 (.t 1), some (31, true)⟩, ⟨some 33, .ld 1 false (.t 32), some (31, true)⟩, ⟨some 34, .len true (.t 33), some (31, true)⟩, ⟨some 35, .bin .leq (.t 34) (.c (.int .i64 256)), some (31, true)⟩, ⟨some 36, .pick (.t 31) (.t 35) (.c (.bool false)), none⟩, ⟨some 2, .mv (.t 36), none⟩]) .ret))⟩
theorem e169 : cfun Tryz.prog 169 = some c169 := by kernel_rfl
def c173 : DFun := ⟨9, [.t 2], .seq (.reg [⟨some 2, .mv (.c (.string ⟨#[]⟩)), none⟩]) (.seq (.reg [⟨some 3, .mv (.t 0), none⟩, ⟨some 4, .len true (.t 3), none⟩, ⟨some 5, .cvt .u64 (.t 4), none⟩, ⟨some 6, .call 123 [.t 5], none⟩, ⟨some 7, .mv (.t 0), none⟩, ⟨some 8, .bin .add (.t 6) (.t 7), none⟩, ⟨some 2, .mv (.t 8), none⟩]) .ret)⟩
theorem e173 : cfun Tryz.prog 173 = some c173 := by kernel_rfl
def c122 : DFun := ⟨40, [.t 4, .t 5], .seq (.reg [⟨some 3, .box (.t 1), none⟩, ⟨some 4, .mv (.c (.string ⟨#[]⟩)), none⟩, ⟨some 5, .mv (.c (.int .i64 0)), none⟩]) (.seq (.seq (.reg [⟨some 6, .mv (.t 0), none⟩, ⟨some 7, .len true (.t 6), none⟩, ⟨some 8, .bin .gtr (.t 7) (.c (.int .i64 128)), none⟩, ⟨some 9, .mv (.t 8), none⟩, ⟨some 10, .ld 4 true (.t 3), some (9, false)⟩, ⟨some 11, .call 169 [.t 10], some (9, false)⟩, ⟨some 12, .un .not (.t 11), some (9, false)⟩, ⟨some 13, .pick (.t 9) (.c (.bool true)) (.t 12), none⟩]) (.cond (.t 13) (.seq (.reg [⟨some 4, .mv (.c (.string ⟨#[]⟩)), none⟩, ⟨some 5, .mv (.c (.int .i64 3)), none⟩]) .ret) .skip)) (.seq (.seq (.reg [⟨some 14, .fa 0 (.t 3), none⟩, ⟨some 15, .ld 1 false (.t 14), none⟩]) (.cond (.t 15) (.seq (.reg [⟨some 16, .mv (.t 0), none⟩, ⟨some 17, .call 173 [.t 16], none⟩, ⟨some 18, .bsl 1 [.c (.int .u8 1)], none⟩, ⟨some 19, .b2s (.t 18), none⟩, ⟨some 20, .bin .add (.t 17) (.t 19), none⟩, ⟨some 21, .fa 2 (.t 3), none⟩, ⟨some 22, .ld 1 false (.t 21), none⟩, ⟨some 23, .cvt .u64 (.t 22), none⟩, ⟨some 24, .call 123 [.t 23], none⟩, ⟨some 25, .bin .add (.t 20) (.t 24), none⟩, ⟨some 26, .fa 3 (.t 3), none⟩, ⟨some 27, .ld 1 false (.t 26), none⟩, ⟨some 28, .cvt .u32 (.t 27), none⟩, ⟨some 29, .call 64 [.t 28], none⟩, ⟨some 30, .bin .add (.t 25) (.t 29), none⟩, ⟨some 4, .mv (.t 30), none⟩, ⟨some 5, .mv (.c (.int .i64 0)), none⟩]) .ret) .skip)) (.seq (.reg [⟨some 31, .mv (.t 0), none⟩, ⟨some 32, .call 173 [.t 31], none⟩, ⟨some 33, .bsl 1 [.c (.int .u8 0)], none⟩, ⟨some 34, .b2s (.t 33), none⟩, ⟨some 35, .bin .add (.t 32) (.t 34), none⟩, ⟨some 36, .fa 1 (.t 3), none⟩, ⟨some 37, .ld 1 false (.t 36), none⟩, ⟨some 38, .call 173 [.t 37], none⟩, ⟨some 39, .bin .add (.t 35) (.t 38), none⟩, ⟨some 4, .mv (.t 39), none⟩, ⟨some 5, .mv (.c (.int .i64 0)), none⟩]) .ret)))⟩
theorem e122 : cfun Tryz.prog 122 = some c122 := by kernel_rfl
def c129 : DFun := ⟨20, [.t 4, .t 5], .seq (.reg [⟨some 4, .mv (.c (.string ⟨#[]⟩)), none⟩, ⟨some 5, .mv (.c (.int .i64 0)), none⟩]) (.seq (.seq (.reg [⟨some 6, .mv (.t 0), none⟩, ⟨some 7, .call 176 [.t 6], none⟩, ⟨some 8, .un .not (.t 7), none⟩, ⟨some 9, .mv (.t 8), none⟩, ⟨some 10, .mv (.t 1), some (9, false)⟩, ⟨some 11, .len true (.t 10), some (9, false)⟩, ⟨some 12, .bin .gtr (.t 11) (.c (.int .i64 128)), some (9, false)⟩, ⟨some 13, .pick (.t 9) (.c (.bool true)) (.t 12), none⟩]) (.cond (.t 13) (.seq (.reg [⟨some 4, .mv (.c (.string ⟨#[]⟩)), none⟩, ⟨some 5, .mv (.c (.int .i64 3)), none⟩]) .ret) .skip)) (.seq (.reg [⟨some 14, .mv (.t 0), none⟩, ⟨some 15, .cvt .u32 (.t 14), none⟩, ⟨some 16, .call 64 [.t 15], none⟩, ⟨some 17, .mv (.t 1), none⟩, ⟨some 18, .call 173 [.t 17], none⟩, ⟨some 19, .bin .add (.t 16) (.t 18), none⟩, ⟨some 4, .mv (.t 19), none⟩, ⟨some 5, .mv (.c (.int .i64 0)), none⟩]) .ret))⟩
theorem e129 : cfun Tryz.prog 129 = some c129 := by kernel_rfl
abbrev BV (b : Bool) : DV := .v (.bool b)
def pageP (n : Int) : Prop := 1 ≤ n ∧ n < 4096
instance (n : Int) : Decidable (pageP n) := inferInstanceAs (Decidable (_ ∧ _))
theorem page_D (n : Int) : DPure Tp I 176 [VN .i64 n] (BV (decide (pageP n))) := by
  refine pure_of mix e176 (Nat.le_of_ble_eq_true rfl) ?_
  conv => whnf
  repeat' ((first
    | with_reducible refine s_lss (fun _ => ?_) (fun _ => ?_)
    | with_reducible refine s_geq (fun _ => ?_) (fun _ => ?_)
    | ((with_reducible refine is_end ?_); refine ⟨Or.inr rfl, ?_⟩)
    | fail) <;> conv => whnf)
  all_goals first
    | (refine bool_of (b := true) ?_ (Eq.symm (decide_eq_true (by unfold pageP; omega))); kernel_rfl)
    | (refine bool_of (b := false) ?_ (Eq.symm (decide_eq_false (by unfold pageP; omega))); kernel_rfl)

structure ValM where
  over : Bool
  s : ByteArray
  len : Int
  page : Int
abbrev valV (v : ValM) : Value := .agg #[.bool v.over, .string v.s, .int .i64 v.len, .int .i64 v.page]
abbrev nilS : ByteArray := ⟨#[]⟩
def rightP (v : ValM) : Prop := (v.over = true ∧ v.s = nilS ∧ 1 ≤ v.len ∧ v.len ≤ 4096 ∧ pageP v.page) ∨ (v.over = false ∧ v.len = 0 ∧ v.page = 0 ∧ v.s.size ≤ 256)
instance (v : ValM) : Decidable (rightP v) := inferInstanceAs (Decidable (_ ∨ _))
theorem vright_D (v : ValM) : DPure Tp I 169 [.v (valV v)] (BV (decide (rightP v))) := by
  obtain ⟨o, s, n, p⟩ := v
  refine pure_of mix e169 (Nat.le_of_ble_eq_true rfl) ?_
  cases o
  all_goals (
  conv => whnf
  repeat' ((first
    | with_reducible refine cond_t ?_
    | with_reducible refine cond_f ?_
    | refine call_bool (wknL_ok rfl) (page_D _) (fun _ => ?_) (fun _ => ?_)
    | with_reducible refine s_leq (fun _ => ?_) (fun _ => ?_)
    | with_reducible refine s_geq (fun _ => ?_) (fun _ => ?_)
    | with_reducible refine s_eql (fun _ => ?_) (fun _ => ?_)
    | with_reducible refine s_seql (fun _ => ?_) (fun _ => ?_)
    | ((with_reducible refine is_e3 ?_); refine ⟨_, rfl, rfl, ?_⟩)
    | ((with_reducible refine is_end ?_); refine ⟨Or.inr rfl, ?_⟩)
    | ((with_reducible refine is_and ?_); refine And.intro rfl ?_)
    | fail) <;> conv => whnf)
  )
  all_goals first
    | (refine bool_of (b := true) ?_ (Eq.symm (decide_eq_true (by unfold rightP; grind))); kernel_rfl)
    | (refine bool_of (b := false) ?_ (Eq.symm (decide_eq_false (by unfold rightP; grind))); kernel_rfl)

def textS (s : ByteArray) : ByteArray := putS s.size ++ s
theorem putS_size {n : Int} (h : 0 ≤ n) : 1 ≤ (putS n).size ∧ (putS n).size ≤ 9 := by
  have := kOf_b n
  unfold putS
  (repeat' split) <;> simp [strOfNums_size, beL_len] <;> omega
theorem textS_size (s : ByteArray) : s.size + 1 ≤ (textS s).size ∧ (textS s).size ≤ s.size + 9 := by
  have := putS_size (n := (s.size : Int)) (by omega)
  unfold textS
  rw [ByteArray.size_append]
  omega
theorem text_D (s : ByteArray) (h : s.size ≤ 1000000) : DPure Tp I 173 [SV s] (SV (textS s)) := by
  have hp := putS_size (n := (s.size : Int)) (by omega)
  refine pure_of mix e173 (Nat.le_of_ble_eq_true rfl) ?_
  conv => whnf
  repeat' ((first
    | refine ⟨_, _, wknL_ok rfl, put_D _ (by omega), ?_⟩
    | with_reducible refine c_u64 (by first | omega | (dsimp only; omega)) ?_
    | with_reducible refine s_cat (by first | omega | (dsimp only; omega) | (simp only [ByteArray.size_append, ByteArray.size_extract, strOfNums_size, List.length_cons, List.length_nil, List.length_map]; omega)) ?_
    | ((with_reducible refine is_end ?_); refine ⟨Or.inr rfl, ?_⟩)
    | fail) <;> conv => whnf)
  exact str_of (s := putS s.size ++ s) (by kernel_rfl) rfl

def putValS (t : ByteArray) (v : ValM) : ByteArray := if v.over = true then textS t ++ strOfNums [1] ++ putS v.len ++ fourB v.page else textS t ++ strOfNums [0] ++ textS v.s
def putValP (t : ByteArray) (v : ValM) : Prop := t.size ≤ 128 ∧ rightP v
instance (t : ByteArray) (v : ValM) : Decidable (putValP t v) := inferInstanceAs (Decidable (_ ∧ _))
def pvS (t : ByteArray) (v : ValM) : ByteArray := if putValP t v then putValS t v else nilS
def pvE (t : ByteArray) (v : ValM) : Int := if putValP t v then 0 else 3
theorem tup2_of {d : DV} {a b a' b' : Value} (h : d = .v (.tuple #[a, b])) (h1 : a' = a) (h2 : b' = b) : Wk d (.v (.tuple #[a', b'])) := by subst h; subst h1; subst h2; exact .v _
theorem pv_no {t : ByteArray} {v : ValM} (h : ¬ putValP t v) : pvS t v = nilS ∧ pvE t v = 3 := ⟨if_neg h, if_neg h⟩
theorem pv_yes {t : ByteArray} {v : ValM} (h : putValP t v) : pvS t v = putValS t v ∧ pvE t v = 0 := ⟨if_pos h, if_pos h⟩
theorem dp_t {f : FuncId} {args : List DV} {p : Prop} [Decidable p] (h : DPure Tp I f args (BV (decide p))) (hp : p) : DPure Tp I f args (BV true) := by rwa [decide_eq_true hp] at h
theorem dp_f {f : FuncId} {args : List DV} {p : Prop} [Decidable p] (h : DPure Tp I f args (BV (decide p))) (hp : ¬ p) : DPure Tp I f args (BV false) := by rwa [decide_eq_false hp] at h
theorem putValue_D (t : ByteArray) (v : ValM) (ht : t.size ≤ 1000000) : DPure Tp I 122 [SV t, .v (valV v)] (.v (.tuple #[.string (pvS t v), .int .i64 (pvE t v)])) := by
  refine pure_of mix e122 (Nat.le_of_ble_eq_true rfl) ?_
  have hT := textS_size t
  by_cases h : putValP t v
  · have hy := pv_yes h
    obtain ⟨o, s, n, p⟩ := v
    have h1 := h.1
    have h2 := h.2
    cases o
    · have hs : s.size ≤ 256 := by unfold rightP at h2; simp at h2; omega
      have hS := textS_size s
      have hR := dp_t (I := I) (vright_D ⟨false, s, n, p⟩) h2
      conv => whnf
      repeat' ((first
        | with_reducible refine cond_f ?_
        | refine ⟨_, _, wknL_ok rfl, hR, ?_⟩
        | refine ⟨_, _, wknL_ok rfl, text_D _ (by first | omega | (dsimp only; omega)), ?_⟩
        | with_reducible refine s_gtr_f (by omega) ?_
        | with_reducible refine s_cat (by first | omega | (dsimp only; omega) | (simp only [ByteArray.size_append, ByteArray.size_extract, strOfNums_size, List.length_cons, List.length_nil, List.length_map]; omega)) ?_
        | ((with_reducible refine is_bsl ?_); refine ⟨_, wknL_ok rfl, rfl, ?_⟩)
        | ((with_reducible refine is_b2s ?_); refine ⟨_, _, rfl, rfl, rfl, ?_⟩)
        | ((with_reducible refine is_e3 ?_); refine ⟨_, rfl, rfl, ?_⟩)
        | ((with_reducible refine is_e2 ?_); refine ⟨_, rfl, ?_⟩)
        | ((with_reducible refine is_cond ?_); refine cond_f ?_)
        | ((with_reducible refine is_end ?_); refine ⟨Or.inr rfl, ?_⟩)
        | ((with_reducible refine is_and ?_); refine And.intro rfl ?_)
        | fail) <;> conv => whnf)
      refine tup2_of (a := .string (textS t ++ strOfNums [0] ++ textS s)) (b := .int .i64 0) (by kernel_rfl) ?_ ?_
      · exact congrArg Value.string hy.1
      · exact congrArg (Value.int .i64) hy.2
    · have hn : 1 ≤ n ∧ n ≤ 4096 ∧ 1 ≤ p ∧ p < 4096 := by unfold rightP pageP at h2; simp at h2; omega
      have hN := putS_size (n := n) (by omega)
      have hF := fourB_size p
      have hR := dp_t (I := I) (vright_D ⟨true, s, n, p⟩) h2
      conv => whnf
      repeat' ((first
        | with_reducible refine cond_t ?_
        | refine ⟨_, _, wknL_ok rfl, hR, ?_⟩
        | refine ⟨_, _, wknL_ok rfl, text_D _ (by first | omega | (dsimp only; omega)), ?_⟩
        | refine ⟨_, _, wknL_ok rfl, put_D _ (by first | omega | (dsimp only; omega)), ?_⟩
        | refine ⟨_, _, wknL_ok rfl, four_D _, ?_⟩
        | with_reducible refine s_gtr_f (by omega) ?_
        | with_reducible refine c_u64 (by first | omega | (dsimp only; omega)) ?_
        | with_reducible refine c_u32 (by first | omega | (dsimp only; omega)) ?_
        | with_reducible refine s_cat (by first | omega | (dsimp only; omega) | (simp only [ByteArray.size_append, ByteArray.size_extract, strOfNums_size, List.length_cons, List.length_nil, List.length_map]; omega)) ?_
        | ((with_reducible refine is_bsl ?_); refine ⟨_, wknL_ok rfl, rfl, ?_⟩)
        | ((with_reducible refine is_b2s ?_); refine ⟨_, _, rfl, rfl, rfl, ?_⟩)
        | ((with_reducible refine is_e3 ?_); refine ⟨_, rfl, rfl, ?_⟩)
        | ((with_reducible refine is_e2 ?_); refine ⟨_, rfl, ?_⟩)
        | ((with_reducible refine is_cond ?_); refine cond_f ?_)
        | ((with_reducible refine is_end ?_); refine ⟨Or.inr rfl, ?_⟩)
        | ((with_reducible refine is_and ?_); refine And.intro rfl ?_)
        | fail) <;> conv => whnf)
      refine tup2_of (a := .string (textS t ++ strOfNums [1] ++ putS n ++ fourB p)) (b := .int .i64 0) (by kernel_rfl) ?_ ?_
      · exact congrArg Value.string hy.1
      · exact congrArg (Value.int .i64) hy.2
  · have hy := pv_no h
    by_cases h1 : t.size ≤ 128
    · have h2 : ¬ rightP v := fun h2 => h ⟨h1, h2⟩
      conv => whnf
      repeat' ((first
        | refine ⟨_, _, wknL_ok rfl, dp_f (vright_D v) h2, ?_⟩
        | with_reducible refine s_gtr_f (by omega) ?_
        | ((with_reducible refine is_e3 ?_); refine ⟨_, rfl, rfl, ?_⟩)
        | ((with_reducible refine is_e2 ?_); refine ⟨_, rfl, ?_⟩)
        | ((with_reducible refine is_cond ?_); refine cond_t ?_)
        | ((with_reducible refine is_end ?_); refine ⟨Or.inr rfl, ?_⟩)
        | ((with_reducible refine is_and ?_); refine And.intro rfl ?_)
        | fail) <;> conv => whnf)
      exact tup2_of (a := .string nilS) (b := .int .i64 3) (by kernel_rfl) (by rw [hy.1]) (by rw [hy.2])
    · conv => whnf
      repeat' ((first
        | with_reducible refine cond_t ?_
        | with_reducible refine s_gtr_t (by omega) ?_
        | ((with_reducible refine is_end ?_); refine ⟨Or.inr rfl, ?_⟩)
        | ((with_reducible refine is_and ?_); refine And.intro rfl ?_)
        | fail) <;> conv => whnf)
      exact tup2_of (a := .string nilS) (b := .int .i64 3) (by kernel_rfl) (by rw [hy.1]) (by rw [hy.2])

def pkP (k : Int) (t : ByteArray) : Prop := pageP k ∧ t.size ≤ 128
instance (k : Int) (t : ByteArray) : Decidable (pkP k t) := inferInstanceAs (Decidable (_ ∧ _))
def pkS (k : Int) (t : ByteArray) : ByteArray := if pkP k t then fourB k ++ textS t else nilS
def pkE (k : Int) (t : ByteArray) : Int := if pkP k t then 0 else 3
theorem putKid_D (k : Int) (t : ByteArray) (ht : t.size ≤ 1000000) : DPure Tp I 129 [VN .i64 k, SV t] (.v (.tuple #[.string (pkS k t), .int .i64 (pkE k t)])) := by
  refine pure_of mix e129 (Nat.le_of_ble_eq_true rfl) ?_
  have hT := textS_size t
  have hF := fourB_size k
  by_cases h : pkP k t
  · have h1 := h.1
    have h2 := h.2
    have h3 : 1 ≤ k ∧ k < 4096 := h1
    conv => whnf
    repeat' ((first
      | with_reducible refine cond_f ?_
      | refine ⟨_, _, wknL_ok rfl, dp_t (page_D k) h1, ?_⟩
      | refine ⟨_, _, wknL_ok rfl, text_D _ (by first | omega | (dsimp only; omega)), ?_⟩
      | refine ⟨_, _, wknL_ok rfl, four_D _, ?_⟩
      | with_reducible refine s_gtr_f (by omega) ?_
      | with_reducible refine c_u32 (by first | omega | (dsimp only; omega)) ?_
      | with_reducible refine s_cat (by first | omega | (dsimp only; omega) | (simp only [ByteArray.size_append, ByteArray.size_extract, strOfNums_size, List.length_cons, List.length_nil, List.length_map]; omega)) ?_
      | ((with_reducible refine is_e2 ?_); refine ⟨_, rfl, ?_⟩)
      | ((with_reducible refine is_end ?_); refine ⟨Or.inr rfl, ?_⟩)
      | fail) <;> conv => whnf)
    exact tup2_of (a := .string (fourB k ++ textS t)) (b := .int .i64 0) (by kernel_rfl) (by rw [pkS, if_pos h]) (by rw [pkE, if_pos h])
  · have hy : pkS k t = nilS ∧ pkE k t = 3 := ⟨if_neg h, if_neg h⟩
    by_cases h1 : pageP k
    · have h2 : ¬ t.size ≤ 128 := fun h2 => h ⟨h1, h2⟩
      conv => whnf
      repeat' ((first
        | with_reducible refine cond_t ?_
        | refine ⟨_, _, wknL_ok rfl, dp_t (page_D k) h1, ?_⟩
        | with_reducible refine s_gtr_t (by omega) ?_
        | ((with_reducible refine is_e2 ?_); refine ⟨_, rfl, ?_⟩)
        | ((with_reducible refine is_end ?_); refine ⟨Or.inr rfl, ?_⟩)
        | fail) <;> conv => whnf)
      exact tup2_of (a := .string nilS) (b := .int .i64 3) (by kernel_rfl) (by rw [hy.1]) (by rw [hy.2])
    · conv => whnf
      repeat' ((first
        | with_reducible refine cond_t ?_
        | refine ⟨_, _, wknL_ok rfl, dp_f (page_D k) h1, ?_⟩
        | ((with_reducible refine is_e2 ?_); refine ⟨_, rfl, ?_⟩)
        | ((with_reducible refine is_end ?_); refine ⟨Or.inr rfl, ?_⟩)
        | fail) <;> conv => whnf)
      exact tup2_of (a := .string nilS) (b := .int .i64 3) (by kernel_rfl) (by rw [hy.1]) (by rw [hy.2])
end Go.Proofs.YtlbodfkhenkcjaaGreatDoor.X


namespace Go.Proofs.YtlbodfkhenkcjaaGreatDoor.X
open Go Go.Proofs Go.RowKit Go.Proofs.YtlbodfkhenkcjaaGreatDoor.D
set_option maxRecDepth 100000
set_option maxHeartbeats 1000000
set_option linter.unusedVariables false
set_option linter.unusedSimpArgs false
variable {I : D.Inv}

def c148 : DFun := ⟨49, [.t 4], .seq (.reg [⟨some 4, .mv (.c (.string ⟨#[]⟩)), none⟩]) (.seq (.seq (.reg [⟨some 5, .mv (.t 0), none⟩, ⟨some 6, .nilc (.t 5), none⟩, ⟨some 7, .fa 2 (.t 6), none⟩, ⟨some 8, .ld 1 false (.t 7), none⟩, ⟨some 9, .mv (.t 8), none⟩, ⟨some 10, .mv (.t 1), some (9, false)⟩, ⟨some 11, .mv (.t 0), some (9, false)⟩, ⟨some 12, .nilc (.t 11), some (9, false)⟩, ⟨some 13, .fa 0 (.t 12), some (9, false)⟩, ⟨some 14, .ld 1 false (.t 13), some (9, false)⟩, ⟨some 15, .len true (.t 14), some (9, false)⟩, ⟨some 16, .mv (.t 0), some (9, false)⟩, ⟨some 17, .nilc (.t 16), some (9, false)⟩, ⟨some 18, .fa 1 (.t 17), some (9, false)⟩, ⟨some 19, .ld 1 false (.t 18), some (9, false)⟩, ⟨some 20, .bin .sub (.t 15) (.t 19), some (9, false)⟩, ⟨some 21, .bin .gtr (.t 10) (.t 20), some (9, false)⟩, ⟨some 22, .pick (.t 9) (.c (.bool true)) (.t 21), none⟩]) (.cond (.t 22) (.seq (.reg [⟨some 23, .mv (.t 0), none⟩, ⟨some 24, .nilc (.t 23), none⟩, ⟨some 25, .fa 2 (.t 24), none⟩, ⟨none, .st 1 (.t 25) (.c (.bool true)), none⟩]) (.seq (.reg [⟨some 4, .mv (.c (.string ⟨#[]⟩)), none⟩]) .ret)) .skip)) (.seq (.reg [⟨some 26, .mv (.t 0), none⟩, ⟨some 27, .nilc (.t 26), none⟩, ⟨some 28, .fa 1 (.t 27), none⟩, ⟨some 29, .ld 1 false (.t 28), none⟩, ⟨some 30, .mv (.t 1), none⟩, ⟨some 31, .bin .add (.t 29) (.t 30), none⟩, ⟨some 32, .nilc (.t 26), none⟩, ⟨some 33, .fa 1 (.t 32), none⟩, ⟨none, .st 1 (.t 33) (.t 31), none⟩]) (.seq (.reg [⟨some 34, .mv (.t 0), none⟩, ⟨some 35, .nilc (.t 34), none⟩, ⟨some 36, .fa 0 (.t 35), none⟩, ⟨some 37, .ld 1 false (.t 36), none⟩, ⟨some 38, .mv (.t 0), none⟩, ⟨some 39, .nilc (.t 38), none⟩, ⟨some 40, .fa 1 (.t 39), none⟩, ⟨some 41, .ld 1 false (.t 40), none⟩, ⟨some 42, .mv (.t 1), none⟩, ⟨some 43, .bin .sub (.t 41) (.t 42), none⟩, ⟨some 44, .mv (.t 0), none⟩, ⟨some 45, .nilc (.t 44), none⟩, ⟨some 46, .fa 1 (.t 45), none⟩, ⟨some 47, .ld 1 false (.t 46), none⟩, ⟨some 48, .slS (.t 37) (some (.t 43)) (some (.t 47)), none⟩, ⟨some 4, .mv (.t 48), none⟩]) .ret)))⟩
theorem e148 : cfun Tryz.prog 148 = some c148 := by kernel_rfl
def c149 : DFun := ⟨34, [.t 2], .seq (.reg [⟨some 2, .mv (.c (.int .i64 0)), none⟩]) (.seq (.reg [⟨some 7, .mv (.t 0), none⟩, ⟨some 8, .nilc (.t 7), none⟩, ⟨some 9, .fa 0 (.t 8), none⟩, ⟨some 10, .ld 1 false (.t 9), none⟩, ⟨some 11, .mv (.t 0), none⟩, ⟨some 12, .nilc (.t 11), none⟩, ⟨some 13, .fa 1 (.t 12), none⟩, ⟨some 14, .ld 1 false (.t 13), none⟩, ⟨some 15, .call 96 [.t 10, .t 14], none⟩, ⟨some 6, .mv (.t 15), none⟩, ⟨some 16, .ext (.t 6) 0, none⟩, ⟨some 17, .ext (.t 6) 1, none⟩, ⟨some 18, .ext (.t 6) 2, none⟩, ⟨some 3, .mv (.t 16), none⟩, ⟨some 4, .mv (.t 17), none⟩, ⟨some 5, .mv (.t 18), none⟩]) (.seq (.seq (.reg [⟨some 19, .mv (.t 5), none⟩, ⟨some 20, .bin .neq (.t 19) (.c (.int .i64 0)), none⟩, ⟨some 21, .mv (.t 20), none⟩, ⟨some 22, .mv (.t 3), some (21, false)⟩, ⟨some 23, .bin .gtr (.t 22) (.c (.int .u64 4096)), some (21, false)⟩, ⟨some 24, .pick (.t 21) (.c (.bool true)) (.t 23), none⟩]) (.cond (.t 24) (.seq (.reg [⟨some 25, .mv (.t 0), none⟩, ⟨some 26, .nilc (.t 25), none⟩, ⟨some 27, .fa 2 (.t 26), none⟩, ⟨none, .st 1 (.t 27) (.c (.bool true)), none⟩]) (.seq (.reg [⟨some 2, .mv (.c (.int .i64 0)), none⟩]) .ret)) .skip)) (.seq (.reg [⟨some 28, .mv (.t 0), none⟩, ⟨some 29, .mv (.t 4), none⟩, ⟨some 30, .nilc (.t 28), none⟩, ⟨some 31, .fa 1 (.t 30), none⟩, ⟨none, .st 1 (.t 31) (.t 29), none⟩]) (.seq (.reg [⟨some 32, .mv (.t 3), none⟩, ⟨some 33, .cvt .i64 (.t 32), none⟩, ⟨some 2, .mv (.t 33), none⟩]) .ret))))⟩
theorem e149 : cfun Tryz.prog 149 = some c149 := by kernel_rfl
def c155 : DFun := ⟨35, [.t 2], .seq (.reg [⟨some 2, .mv (.c (.int .i64 0)), none⟩]) (.seq (.reg [⟨some 6, .mv (.t 0), none⟩, ⟨some 7, .nilc (.t 6), none⟩, ⟨some 8, .fa 0 (.t 7), none⟩, ⟨some 9, .ld 1 false (.t 8), none⟩, ⟨some 10, .mv (.t 0), none⟩, ⟨some 11, .nilc (.t 10), none⟩, ⟨some 12, .fa 1 (.t 11), none⟩, ⟨some 13, .ld 1 false (.t 12), none⟩, ⟨some 14, .call 59 [.t 9, .t 13], none⟩, ⟨some 5, .mv (.t 14), none⟩, ⟨some 15, .ext (.t 5) 0, none⟩, ⟨some 16, .ext (.t 5) 1, none⟩, ⟨some 3, .mv (.t 15), none⟩, ⟨some 4, .mv (.t 16), none⟩]) (.seq (.seq (.reg [⟨some 17, .mv (.t 4), none⟩, ⟨some 18, .bin .neq (.t 17) (.c (.int .i64 0)), none⟩, ⟨some 19, .mv (.t 18), none⟩, ⟨some 20, .mv (.t 3), some (19, false)⟩, ⟨some 21, .bin .geq (.t 20) (.c (.int .u32 4096)), some (19, false)⟩, ⟨some 22, .pick (.t 19) (.c (.bool true)) (.t 21), none⟩]) (.cond (.t 22) (.seq (.reg [⟨some 23, .mv (.t 0), none⟩, ⟨some 24, .nilc (.t 23), none⟩, ⟨some 25, .fa 2 (.t 24), none⟩, ⟨none, .st 1 (.t 25) (.c (.bool true)), none⟩]) (.seq (.reg [⟨some 2, .mv (.c (.int .i64 0)), none⟩]) .ret)) .skip)) (.seq (.reg [⟨some 26, .mv (.t 0), none⟩, ⟨some 27, .nilc (.t 26), none⟩, ⟨some 28, .fa 1 (.t 27), none⟩, ⟨some 29, .ld 1 false (.t 28), none⟩, ⟨some 30, .bin .add (.t 29) (.c (.int .i64 4)), none⟩, ⟨some 31, .nilc (.t 26), none⟩, ⟨some 32, .fa 1 (.t 31), none⟩, ⟨none, .st 1 (.t 32) (.t 30), none⟩]) (.seq (.reg [⟨some 33, .mv (.t 3), none⟩, ⟨some 34, .cvt .i64 (.t 33), none⟩, ⟨some 2, .mv (.t 34), none⟩]) .ret))))⟩
theorem e155 : cfun Tryz.prog 155 = some c155 := by kernel_rfl
def c150 : DFun := ⟨46, [], .seq (.reg [⟨some 2, .mv (.t 0), none⟩, ⟨some 3, .nilc (.t 2), none⟩, ⟨some 4, .fa 0 (.t 3), none⟩, ⟨some 5, .calle 148 [.t 4, .c (.int .i64 1)], none⟩]) (.block 0 (.seq (.block 3 (.seq (.block 2 (.seq (.block 1 (.seq (.seq (.seq (.reg [⟨some 7, .bin .eql (.t 5) (.c (.string ⟨#[1]⟩)), none⟩, ⟨some 6, .mv (.t 7), none⟩]) (.cond (.t 6) (.exit 1) .skip)) (.seq (.reg [⟨some 9, .bin .eql (.t 5) (.c (.string ⟨#[0]⟩)), none⟩, ⟨some 8, .mv (.t 9), none⟩]) (.cond (.t 8) (.exit 2) .skip))) (.exit 3))) (.seq (.seq (.reg [⟨some 10, .mv (.t 0), none⟩, ⟨some 11, .nilc (.t 10), none⟩, ⟨some 12, .fa 3 (.t 11), none⟩, ⟨some 13, .fa 0 (.t 12), none⟩, ⟨none, .st 1 (.t 13) (.c (.bool true)), none⟩]) (.seq (.reg [⟨some 14, .mv (.t 0), none⟩, ⟨some 15, .mv (.t 0), none⟩, ⟨some 16, .nilc (.t 15), none⟩, ⟨some 17, .fa 0 (.t 16), none⟩, ⟨some 18, .calle 149 [.t 17], none⟩, ⟨some 19, .nilc (.t 14), none⟩, ⟨some 20, .fa 3 (.t 19), none⟩, ⟨some 21, .fa 2 (.t 20), none⟩, ⟨none, .st 1 (.t 21) (.t 18), none⟩]) (.reg [⟨some 22, .mv (.t 0), none⟩, ⟨some 23, .mv (.t 0), none⟩, ⟨some 24, .nilc (.t 23), none⟩, ⟨some 25, .fa 0 (.t 24), none⟩, ⟨some 26, .calle 155 [.t 25], none⟩, ⟨some 27, .nilc (.t 22), none⟩, ⟨some 28, .fa 3 (.t 27), none⟩, ⟨some 29, .fa 3 (.t 28), none⟩, ⟨none, .st 1 (.t 29) (.t 26), none⟩]))) (.exit 0)))) (.reg [⟨some 30, .mv (.t 0), none⟩, ⟨some 31, .mv (.t 0), none⟩, ⟨some 32, .nilc (.t 31), none⟩, ⟨some 33, .fa 0 (.t 32), none⟩, ⟨some 34, .mv (.t 0), none⟩, ⟨some 35, .nilc (.t 34), none⟩, ⟨some 36, .fa 0 (.t 35), none⟩, ⟨some 37, .calle 149 [.t 36], none⟩, ⟨some 38, .calle 148 [.t 33, .t 37], none⟩, ⟨some 39, .nilc (.t 30), none⟩, ⟨some 40, .fa 3 (.t 39), none⟩, ⟨some 41, .fa 1 (.t 40), none⟩, ⟨none, .st 1 (.t 41) (.t 38), none⟩]))) (.seq (.reg [⟨some 42, .mv (.t 0), none⟩, ⟨some 43, .nilc (.t 42), none⟩, ⟨some 44, .fa 3 (.t 43), none⟩, ⟨some 45, .fa 0 (.t 44), none⟩, ⟨none, .st 1 (.t 45) (.c (.bool false)), none⟩]) (.exit 0))))⟩
theorem e150 : cfun Tryz.prog 150 = some c150 := by kernel_rfl
def c98 : DFun := ⟨40, [.t 2, .t 3, .t 4], .seq (.reg [⟨some 2, .mv (.c (.int .i64 0)), none⟩, ⟨some 3, .mv (.c (.string ⟨#[]⟩)), none⟩, ⟨some 4, .mv (.c (.int .i64 0)), none⟩]) (.seq (.reg [⟨some 10, .mv (.t 0), none⟩, ⟨some 11, .bld [.string ⟨#[]⟩, .int .i64 0, .bool false] [(0, 1, .t 10)], none⟩, ⟨some 12, .box (.t 11), none⟩, ⟨some 5, .mv (.t 12), none⟩]) (.seq (.reg [⟨some 13, .mv (.t 5), none⟩, ⟨some 14, .calle 155 [.t 13], none⟩, ⟨some 6, .mv (.t 14), none⟩]) (.seq (.reg [⟨some 15, .mv (.t 5), none⟩, ⟨some 16, .mv (.t 5), none⟩, ⟨some 17, .calle 149 [.t 16], none⟩, ⟨some 18, .calle 148 [.t 15, .t 17], none⟩, ⟨some 7, .mv (.t 18), none⟩]) (.seq (.seq (.reg [⟨some 20, .mv (.t 6), none⟩, ⟨some 21, .mv (.t 7), none⟩, ⟨some 22, .call 129 [.t 20, .t 21], none⟩, ⟨some 19, .mv (.t 22), none⟩, ⟨some 23, .ext (.t 19) 0, none⟩, ⟨some 24, .ext (.t 19) 1, none⟩, ⟨some 8, .mv (.t 23), none⟩, ⟨some 9, .mv (.t 24), none⟩]) (.seq (.reg [⟨some 25, .mv (.t 5), none⟩, ⟨some 26, .nilc (.t 25), none⟩, ⟨some 27, .fa 2 (.t 26), none⟩, ⟨some 28, .ld 1 false (.t 27), none⟩, ⟨some 29, .mv (.t 28), none⟩, ⟨some 30, .mv (.t 9), some (29, false)⟩, ⟨some 31, .bin .neq (.t 30) (.c (.int .i64 0)), some (29, false)⟩, ⟨some 32, .pick (.t 29) (.c (.bool true)) (.t 31), none⟩, ⟨some 33, .mv (.t 32), none⟩, ⟨some 34, .mv (.t 8), some (33, false)⟩, ⟨some 35, .mv (.t 0), some (33, false)⟩, ⟨some 36, .bin .neq (.t 34) (.t 35), some (33, false)⟩, ⟨some 37, .pick (.t 33) (.c (.bool true)) (.t 36), none⟩]) (.cond (.t 37) (.seq (.reg [⟨some 2, .mv (.c (.int .i64 0)), none⟩, ⟨some 3, .mv (.c (.string ⟨#[]⟩)), none⟩, ⟨some 4, .mv (.c (.int .i64 3)), none⟩]) .ret) .skip))) (.seq (.reg [⟨some 38, .mv (.t 6), none⟩, ⟨some 39, .mv (.t 7), none⟩, ⟨some 2, .mv (.t 38), none⟩, ⟨some 3, .mv (.t 39), none⟩, ⟨some 4, .mv (.c (.int .i64 0)), none⟩]) .ret)))))⟩
theorem e98 : cfun Tryz.prog 98 = some c98 := by kernel_rfl
def c91 : DFun := ⟨52, [.t 2, .c 3 4 true, .t 4], .seq (.reg [⟨some 2, .mv (.c (.string ⟨#[]⟩)), none⟩, ⟨some 3, .zero (.agg #[.bool false, .string ⟨#[]⟩, .int .i64 0, .int .i64 0]), none⟩, ⟨some 4, .mv (.c (.int .i64 0)), none⟩]) (.seq (.reg [⟨some 9, .mv (.t 0), none⟩, ⟨some 10, .bld [.string ⟨#[]⟩, .int .i64 0, .bool false] [(0, 1, .t 9)], none⟩, ⟨some 11, .bld [.string ⟨#[]⟩, .int .i64 0, .bool false, .bool false, .string ⟨#[]⟩, .int .i64 0, .int .i64 0] [(0, 3, .t 10)], none⟩, ⟨some 12, .box (.t 11), none⟩, ⟨some 5, .mv (.t 12), none⟩]) (.seq (.reg [⟨some 13, .mv (.t 5), none⟩, ⟨some 14, .nilc (.t 13), none⟩, ⟨some 15, .fa 0 (.t 14), none⟩, ⟨some 16, .mv (.t 5), none⟩, ⟨some 17, .nilc (.t 16), none⟩, ⟨some 18, .fa 0 (.t 17), none⟩, ⟨some 19, .calle 149 [.t 18], none⟩, ⟨some 20, .calle 148 [.t 15, .t 19], none⟩, ⟨some 6, .mv (.t 20), none⟩]) (.seq (.reg [⟨some 21, .mv (.t 5), none⟩, ⟨some 22, .calle 150 [.t 21], none⟩]) (.seq (.seq (.reg [⟨some 24, .mv (.t 6), none⟩, ⟨some 25, .mv (.t 5), none⟩, ⟨some 26, .nilc (.t 25), none⟩, ⟨some 27, .fa 3 (.t 26), none⟩, ⟨some 28, .ld 4 true (.t 27), none⟩, ⟨some 29, .call 122 [.t 24, .t 28], none⟩, ⟨some 23, .mv (.t 29), none⟩, ⟨some 30, .ext (.t 23) 0, none⟩, ⟨some 31, .ext (.t 23) 1, none⟩, ⟨some 7, .mv (.t 30), none⟩, ⟨some 8, .mv (.t 31), none⟩]) (.seq (.reg [⟨some 32, .mv (.t 5), none⟩, ⟨some 33, .nilc (.t 32), none⟩, ⟨some 34, .fa 0 (.t 33), none⟩, ⟨some 35, .fa 2 (.t 34), none⟩, ⟨some 36, .ld 1 false (.t 35), none⟩, ⟨some 37, .mv (.t 36), none⟩, ⟨some 38, .mv (.t 8), some (37, false)⟩, ⟨some 39, .bin .neq (.t 38) (.c (.int .i64 0)), some (37, false)⟩, ⟨some 40, .pick (.t 37) (.c (.bool true)) (.t 39), none⟩, ⟨some 41, .mv (.t 40), none⟩, ⟨some 42, .mv (.t 7), some (41, false)⟩, ⟨some 43, .mv (.t 0), some (41, false)⟩, ⟨some 44, .bin .neq (.t 42) (.t 43), some (41, false)⟩, ⟨some 45, .pick (.t 41) (.c (.bool true)) (.t 44), none⟩]) (.cond (.t 45) (.seq (.reg [⟨some 46, .bld [.bool false, .string ⟨#[]⟩, .int .i64 0, .int .i64 0] [], none⟩, ⟨some 2, .mv (.c (.string ⟨#[]⟩)), none⟩, ⟨none, .st 4 (.t 3) (.t 46), none⟩, ⟨some 4, .mv (.c (.int .i64 3)), none⟩]) .ret) .skip))) (.seq (.reg [⟨some 47, .mv (.t 6), none⟩, ⟨some 48, .mv (.t 5), none⟩, ⟨some 49, .nilc (.t 48), none⟩, ⟨some 50, .fa 3 (.t 49), none⟩, ⟨some 51, .ld 4 true (.t 50), none⟩, ⟨some 2, .mv (.t 47), none⟩, ⟨none, .st 4 (.t 3) (.t 51), none⟩, ⟨some 4, .mv (.c (.int .i64 0)), none⟩]) .ret)))))⟩
theorem e91 : cfun Tryz.prog 91 = some c91 := by kernel_rfl
structure RQ where
  at' : Int
  bad : Bool
def numP (s : ByteArray) (q : RQ) : Prop := getE s q.at' = 0 ∧ getN s q.at' ≤ 4096
instance (s : ByteArray) (q : RQ) : Decidable (numP s q) := inferInstanceAs (Decidable (_ ∧ _))
def fourP (s : ByteArray) (q : RQ) : Prop := rdE s q.at' = 0 ∧ rdN s q.at' < 4096
instance (s : ByteArray) (q : RQ) : Decidable (fourP s q) := inferInstanceAs (Decidable (_ ∧ _))
def takeP (s : ByteArray) (q : RQ) (n : Int) : Prop := q.bad = false ∧ n ≤ (s.size : Int) - q.at'
instance (s : ByteArray) (q : RQ) (n : Int) : Decidable (takeP s q n) := inferInstanceAs (Decidable (_ ∧ _))
def numV (s : ByteArray) (q : RQ) : Int := if numP s q then getN s q.at' else 0
def numQ (s : ByteArray) (q : RQ) : RQ := if numP s q then ⟨getT s q.at', q.bad⟩ else ⟨q.at', true⟩
def frV (s : ByteArray) (q : RQ) : Int := if fourP s q then rdN s q.at' else 0
def frQ (s : ByteArray) (q : RQ) : RQ := if fourP s q then ⟨q.at' + 4, q.bad⟩ else ⟨q.at', true⟩
def tkS (s : ByteArray) (q : RQ) (n : Int) : ByteArray := if takeP s q n then s.extract q.at'.toNat (q.at' + n).toNat else nilS
def tkQ (s : ByteArray) (q : RQ) (n : Int) : RQ := if takeP s q n then ⟨q.at' + n, q.bad⟩ else ⟨q.at', true⟩
def inQ (s : ByteArray) (q : RQ) : Prop := 0 ≤ q.at' ∧ q.at' ≤ s.size
theorem getT_in {s : ByteArray} {a : Int} (h : getE s a = 0) : 0 ≤ a ∧ a + 1 ≤ getT s a ∧ getT s a ≤ s.size := by
  have ht : getT s a = a + 1 + moreN s a := by rw [getT, if_pos h]
  unfold getE at h
  split at h
  · omega
  · split at h
    · omega
    · rename_i h1 h2
      unfold getShort at h2
      omega
theorem getN_lo {s : ByteArray} {a : Int} (h : getE s a = 0) : 0 ≤ getN s a := by
  rw [getN, if_pos h]
  have hb := (bigN_b s (a.toNat + 1) (moreN s a)).1
  have hc := byteAt_lo s a.toNat
  have h1 := @more_1 s a
  unfold getV
  simp only
  (repeat' split) <;> omega
theorem rdE_in {s : ByteArray} {a : Int} (h : rdE s a = 0) : 0 ≤ a ∧ a + 4 ≤ s.size := by unfold rdE at h; (repeat' split at h) <;> omega
theorem rdN_lo {s : ByteArray} {a : Int} (h : rdE s a = 0) : 0 ≤ rdN s a ∧ rdN s a < 4294967296 := by
  rw [rdN, if_pos h]
  have := rdV_b s a.toNat 4 (by omega)
  simpa using this
theorem numQ_in {s : ByteArray} {q : RQ} (h : inQ s q) : inQ s (numQ s q) ∧ 0 ≤ numV s q ∧ numV s q ≤ 4096 := by
  unfold numQ numV
  split
  · rename_i hp
    have := getT_in hp.1; have := getN_lo hp.1; have := hp.2
    unfold inQ
    simp only
    omega
  · exact ⟨h, by omega, by omega⟩
theorem frQ_in {s : ByteArray} {q : RQ} (h : inQ s q) : inQ s (frQ s q) ∧ 0 ≤ frV s q ∧ frV s q < 4096 := by
  unfold frQ frV
  split
  · rename_i hp
    have := rdE_in hp.1; have := rdN_lo hp.1; have := hp.2
    unfold inQ
    simp only
    omega
  · exact ⟨h, by omega, by omega⟩
theorem tkQ_in {s : ByteArray} {q : RQ} {n : Int} (h : inQ s q) (hn : 0 ≤ n) : inQ s (tkQ s q n) := by
  unfold tkQ
  split
  · rename_i hp
    have := hp.2
    unfold inQ at h ⊢
    simp only
    omega
  · exact h
theorem tkS_size {s : ByteArray} {q : RQ} {n : Int} : (tkS s q n).size ≤ s.size := by
  unfold tkS
  split
  · rw [ByteArray.size_extract]; omega
  · exact Nat.zero_le _
abbrev rc (s : ByteArray) (q : RQ) : List DV := [SV s, VN .i64 q.at', BV q.bad]

theorem rnumberA (s : ByteArray) (q : RQ) (hs : s.size ≤ 1000000) (hq : inQ s q) : DEff Tp I 149 [.lp 0 0] [rc s q] [] (VN .i64 (numV s q)) [rc s (numQ s q)] [] := by
  unfold inQ at hq
  refine eff_of mix e149 (Nat.le_of_ble_eq_true rfl) ?_
  by_cases h : numP s q
  · have hv : numV s q = getN s q.at' := if_pos h
    have hw : numQ s q = ⟨getT s q.at', q.bad⟩ := if_pos h
    have h1 := h.1
    have h2 := h.2
    have h3 := getN_lo h1
    conv => whnf
    repeat' ((first
      | with_reducible refine cond_f ?_
      | refine ⟨_, _, wknL_ok rfl, get_D s q.at' hs (by omega), ?_⟩
      | with_reducible refine s_gtr_f (by omega) ?_
      | with_reducible refine s_neq_f (by omega) ?_
      | with_reducible refine c_i64 (by omega) ?_
      | ((fail_if_success (with_reducible refine is_int ?_)); refine cmp_int rfl rfl ?_)
      | ((with_reducible refine is_e3 ?_); refine ⟨_, rfl, rfl, ?_⟩)
      | ((with_reducible refine is_e2 ?_); refine ⟨_, rfl, ?_⟩)
      | ((with_reducible refine is_nilc ?_); refine ⟨Or.inr (Or.inl rfl), ?_⟩)
      | ((with_reducible refine is_end ?_); refine ⟨Or.inr rfl, ?_⟩)
      | fail) <;> conv => whnf)
    refine .same ?_ ?_ rfl
    · exact Eq.trans (b := VN .i64 (getN s q.at')) (by kernel_rfl) (by rw [hv])
    · exact Eq.trans (b := [rc s (⟨getT s q.at', q.bad⟩ : RQ)]) (by kernel_rfl) (by rw [hw])
  · have hv : numV s q = 0 := if_neg h
    have hw : numQ s q = ⟨q.at', true⟩ := if_neg h
    by_cases h1 : getE s q.at' = 0
    · have h2 : 4096 < getN s q.at' := by unfold numP at h; omega
      conv => whnf
      repeat' ((first
        | with_reducible refine cond_t ?_
        | refine ⟨_, _, wknL_ok rfl, get_D s q.at' hs (by omega), ?_⟩
        | with_reducible refine s_gtr_t (by omega) ?_
        | with_reducible refine s_neq_f (by omega) ?_
        | ((fail_if_success (with_reducible refine is_int ?_)); refine cmp_int rfl rfl ?_)
        | ((with_reducible refine is_e3 ?_); refine ⟨_, rfl, rfl, ?_⟩)
        | ((with_reducible refine is_e2 ?_); refine ⟨_, rfl, ?_⟩)
        | ((with_reducible refine is_nilc ?_); refine ⟨Or.inr (Or.inl rfl), ?_⟩)
        | ((with_reducible refine is_end ?_); refine ⟨Or.inr rfl, ?_⟩)
        | fail) <;> conv => whnf)
      refine .same ?_ ?_ rfl
      · exact Eq.trans (b := VN .i64 0) (by kernel_rfl) (by rw [hv])
      · exact Eq.trans (b := [rc s (⟨q.at', true⟩ : RQ)]) (by kernel_rfl) (by rw [hw])
    · conv => whnf
      repeat' ((first
        | with_reducible refine cond_t ?_
        | refine ⟨_, _, wknL_ok rfl, get_D s q.at' hs (by omega), ?_⟩
        | with_reducible refine s_neq_t (by omega) ?_
        | ((fail_if_success (with_reducible refine is_int ?_)); refine cmp_int rfl rfl ?_)
        | ((with_reducible refine is_e3 ?_); refine ⟨_, rfl, rfl, ?_⟩)
        | ((with_reducible refine is_e2 ?_); refine ⟨_, rfl, ?_⟩)
        | ((with_reducible refine is_nilc ?_); refine ⟨Or.inr (Or.inl rfl), ?_⟩)
        | ((with_reducible refine is_end ?_); refine ⟨Or.inr rfl, ?_⟩)
        | fail) <;> conv => whnf)
      refine .same ?_ ?_ rfl
      · exact Eq.trans (b := VN .i64 0) (by kernel_rfl) (by rw [hv])
      · exact Eq.trans (b := [rc s (⟨q.at', true⟩ : RQ)]) (by kernel_rfl) (by rw [hw])
theorem rfourA (s : ByteArray) (q : RQ) (hs : s.size ≤ 1000000) (hq : inQ s q) : DEff Tp I 155 [.lp 0 0] [rc s q] [] (VN .i64 (frV s q)) [rc s (frQ s q)] [] := by
  unfold inQ at hq
  refine eff_of mix e155 (Nat.le_of_ble_eq_true rfl) ?_
  by_cases h : fourP s q
  · have hv : frV s q = rdN s q.at' := if_pos h
    have hw : frQ s q = ⟨q.at' + 4, q.bad⟩ := if_pos h
    have h1 := h.1
    have h2 := h.2
    have h3 := rdN_lo h1
    conv => whnf
    repeat' ((first
      | with_reducible refine cond_f ?_
      | refine ⟨_, _, wknL_ok rfl, read_D s q.at' hs (by omega), ?_⟩
      | with_reducible refine s_geq_f (by omega) ?_
      | with_reducible refine s_neq_f (by omega) ?_
      | with_reducible refine s_add (by omega) ?_
      | with_reducible refine c_i64 (by omega) ?_
      | ((fail_if_success (with_reducible refine is_int ?_)); refine cmp_int rfl rfl ?_)
      | ((with_reducible refine is_e3 ?_); refine ⟨_, rfl, rfl, ?_⟩)
      | ((with_reducible refine is_e2 ?_); refine ⟨_, rfl, ?_⟩)
      | ((with_reducible refine is_nilc ?_); refine ⟨Or.inr (Or.inl rfl), ?_⟩)
      | ((with_reducible refine is_end ?_); refine ⟨Or.inr rfl, ?_⟩)
      | fail) <;> conv => whnf)
    refine .same ?_ ?_ rfl
    · exact Eq.trans (b := VN .i64 (rdN s q.at')) (by kernel_rfl) (by rw [hv])
    · exact Eq.trans (b := [rc s (⟨q.at' + 4, q.bad⟩ : RQ)]) (by kernel_rfl) (by rw [hw])
  · have hv : frV s q = 0 := if_neg h
    have hw : frQ s q = ⟨q.at', true⟩ := if_neg h
    by_cases h1 : rdE s q.at' = 0
    · have h2 : 4096 ≤ rdN s q.at' := by unfold fourP at h; omega
      conv => whnf
      repeat' ((first
        | with_reducible refine cond_t ?_
        | refine ⟨_, _, wknL_ok rfl, read_D s q.at' hs (by omega), ?_⟩
        | with_reducible refine s_geq_t (by omega) ?_
        | with_reducible refine s_neq_f (by omega) ?_
        | ((fail_if_success (with_reducible refine is_int ?_)); refine cmp_int rfl rfl ?_)
        | ((with_reducible refine is_e3 ?_); refine ⟨_, rfl, rfl, ?_⟩)
        | ((with_reducible refine is_e2 ?_); refine ⟨_, rfl, ?_⟩)
        | ((with_reducible refine is_nilc ?_); refine ⟨Or.inr (Or.inl rfl), ?_⟩)
        | ((with_reducible refine is_end ?_); refine ⟨Or.inr rfl, ?_⟩)
        | fail) <;> conv => whnf)
      refine .same ?_ ?_ rfl
      · exact Eq.trans (b := VN .i64 0) (by kernel_rfl) (by rw [hv])
      · exact Eq.trans (b := [rc s (⟨q.at', true⟩ : RQ)]) (by kernel_rfl) (by rw [hw])
    · conv => whnf
      repeat' ((first
        | with_reducible refine cond_t ?_
        | refine ⟨_, _, wknL_ok rfl, read_D s q.at' hs (by omega), ?_⟩
        | with_reducible refine s_neq_t (by omega) ?_
        | ((fail_if_success (with_reducible refine is_int ?_)); refine cmp_int rfl rfl ?_)
        | ((with_reducible refine is_e3 ?_); refine ⟨_, rfl, rfl, ?_⟩)
        | ((with_reducible refine is_e2 ?_); refine ⟨_, rfl, ?_⟩)
        | ((with_reducible refine is_nilc ?_); refine ⟨Or.inr (Or.inl rfl), ?_⟩)
        | ((with_reducible refine is_end ?_); refine ⟨Or.inr rfl, ?_⟩)
        | fail) <;> conv => whnf)
      refine .same ?_ ?_ rfl
      · exact Eq.trans (b := VN .i64 0) (by kernel_rfl) (by rw [hv])
      · exact Eq.trans (b := [rc s (⟨q.at', true⟩ : RQ)]) (by kernel_rfl) (by rw [hw])
theorem rtake0A (s : ByteArray) (a : Int) (b : Bool) (n : Int) (hs : s.size ≤ 1000000) (hq : 0 ≤ a ∧ a ≤ s.size) (hn : 0 ≤ n ∧ n ≤ 1000000) : DEff Tp I 148 [.lp 0 0, VN .i64 n] [[SV s, VN .i64 a, BV b]] [] (SV (tkS s ⟨a, b⟩ n)) [rc s (tkQ s ⟨a, b⟩ n)] [] := by
  refine eff_of mix e148 (Nat.le_of_ble_eq_true rfl) ?_
  by_cases h : takeP s ⟨a, b⟩ n
  · have hv : tkS s ⟨a, b⟩ n = s.extract a.toNat (a + n).toNat := if_pos h
    have hw : tkQ s ⟨a, b⟩ n = ⟨a + n, b⟩ := if_pos h
    have h2 : n ≤ (s.size : Int) - a := h.2
    cases b with
    | true => exact absurd h.1 Bool.noConfusion
    | false =>
      conv => whnf
      repeat' ((first
        | with_reducible refine cond_f ?_
        | with_reducible refine s_gtr_f (by omega) ?_
        | with_reducible refine s_add (by omega) ?_
        | with_reducible refine s_sub (by omega) ?_
        | ((with_reducible refine is_e3 ?_); refine ⟨_, rfl, rfl, ?_⟩)
        | ((with_reducible refine is_nilc ?_); refine ⟨Or.inr (Or.inl rfl), ?_⟩)
        | ((with_reducible refine is_end ?_); refine ⟨Or.inr rfl, ?_⟩)
        | refine And.intro (by omega) ?_
        | fail) <;> conv => whnf)
      refine .same ?_ ?_ rfl
      · refine Eq.trans (b := SV (s.extract (a + n - n).toNat (a + n).toNat)) (by kernel_rfl) ?_
        rw [hv, show a + n - n = a by omega]
      · exact Eq.trans (b := [rc s (⟨a + n, false⟩ : RQ)]) (by kernel_rfl) (by rw [hw])
  · have hv : tkS s ⟨a, b⟩ n = nilS := if_neg h
    have hw : tkQ s ⟨a, b⟩ n = ⟨a, true⟩ := if_neg h
    cases b with
    | true =>
      conv => whnf
      repeat' ((first
        | with_reducible refine cond_t ?_
        | ((with_reducible refine is_e3 ?_); refine ⟨_, rfl, rfl, ?_⟩)
        | ((with_reducible refine is_nilc ?_); refine ⟨Or.inr (Or.inl rfl), ?_⟩)
        | ((with_reducible refine is_end ?_); refine ⟨Or.inr rfl, ?_⟩)
        | fail) <;> conv => whnf)
      refine .same ?_ ?_ rfl
      · exact Eq.trans (b := SV nilS) (by kernel_rfl) (by rw [hv])
      · exact Eq.trans (b := [rc s (⟨a, true⟩ : RQ)]) (by kernel_rfl) (by rw [hw])
    | false =>
      have h2 : ¬ n ≤ (s.size : Int) - a := fun h2 => h ⟨rfl, h2⟩
      conv => whnf
      repeat' ((first
        | with_reducible refine cond_t ?_
        | with_reducible refine s_gtr_t (by omega) ?_
        | with_reducible refine s_sub (by omega) ?_
        | ((with_reducible refine is_e3 ?_); refine ⟨_, rfl, rfl, ?_⟩)
        | ((with_reducible refine is_nilc ?_); refine ⟨Or.inr (Or.inl rfl), ?_⟩)
        | ((with_reducible refine is_end ?_); refine ⟨Or.inr rfl, ?_⟩)
        | fail) <;> conv => whnf)
      refine .same ?_ ?_ rfl
      · exact Eq.trans (b := SV nilS) (by kernel_rfl) (by rw [hv])
      · exact Eq.trans (b := [rc s (⟨a, true⟩ : RQ)]) (by kernel_rfl) (by rw [hw])
theorem rtakeA (s : ByteArray) (q : RQ) (n : Int) (hs : s.size ≤ 1000000) (hq : inQ s q) (hn : 0 ≤ n ∧ n ≤ 1000000) : DEff Tp I 148 [.lp 0 0, VN .i64 n] [rc s q] [] (SV (tkS s q n)) [rc s (tkQ s q n)] [] := rtake0A s q.at' q.bad n hs hq hn

theorem rnumberB (z : List DV) (v0 v1 v2 v3 : DV) (s : ByteArray) (q : RQ) (hs : s.size ≤ 1000000) (hq : inQ s q) : DEff Tp I 149 [.lp 1 0] [z, [SV s, VN .i64 (q).at', BV (q).bad, v0, v1, v2, v3]] [] (VN .i64 (numV s q)) [z, [SV s, VN .i64 ((numQ s q)).at', BV ((numQ s q)).bad, v0, v1, v2, v3]] [] := by
  unfold inQ at hq
  refine eff_of mix e149 (Nat.le_of_ble_eq_true rfl) ?_
  by_cases h : numP s q
  · have hv : numV s q = getN s q.at' := if_pos h
    have hw : numQ s q = ⟨getT s q.at', q.bad⟩ := if_pos h
    have h1 := h.1
    have h2 := h.2
    have h3 := getN_lo h1
    conv => whnf
    repeat' ((first
      | with_reducible refine cond_f ?_
      | refine ⟨_, _, wknL_ok rfl, get_D s q.at' hs (by omega), ?_⟩
      | with_reducible refine s_gtr_f (by omega) ?_
      | with_reducible refine s_neq_f (by omega) ?_
      | with_reducible refine c_i64 (by omega) ?_
      | ((fail_if_success (with_reducible refine is_int ?_)); refine cmp_int rfl rfl ?_)
      | ((with_reducible refine is_e3 ?_); refine ⟨_, rfl, rfl, ?_⟩)
      | ((with_reducible refine is_e2 ?_); refine ⟨_, rfl, ?_⟩)
      | ((with_reducible refine is_nilc ?_); refine ⟨Or.inr (Or.inl rfl), ?_⟩)
      | ((with_reducible refine is_end ?_); refine ⟨Or.inr rfl, ?_⟩)
      | fail) <;> conv => whnf)
    refine .same ?_ ?_ rfl
    · exact Eq.trans (b := VN .i64 (getN s q.at')) (by kernel_rfl) (by rw [hv])
    · exact Eq.trans (b := [z, [SV s, VN .i64 ((⟨getT s q.at', q.bad⟩ : RQ)).at', BV ((⟨getT s q.at', q.bad⟩ : RQ)).bad, v0, v1, v2, v3]]) (by kernel_rfl) (by rw [hw])
  · have hv : numV s q = 0 := if_neg h
    have hw : numQ s q = ⟨q.at', true⟩ := if_neg h
    by_cases h1 : getE s q.at' = 0
    · have h2 : 4096 < getN s q.at' := by unfold numP at h; omega
      conv => whnf
      repeat' ((first
        | with_reducible refine cond_t ?_
        | refine ⟨_, _, wknL_ok rfl, get_D s q.at' hs (by omega), ?_⟩
        | with_reducible refine s_gtr_t (by omega) ?_
        | with_reducible refine s_neq_f (by omega) ?_
        | ((fail_if_success (with_reducible refine is_int ?_)); refine cmp_int rfl rfl ?_)
        | ((with_reducible refine is_e3 ?_); refine ⟨_, rfl, rfl, ?_⟩)
        | ((with_reducible refine is_e2 ?_); refine ⟨_, rfl, ?_⟩)
        | ((with_reducible refine is_nilc ?_); refine ⟨Or.inr (Or.inl rfl), ?_⟩)
        | ((with_reducible refine is_end ?_); refine ⟨Or.inr rfl, ?_⟩)
        | fail) <;> conv => whnf)
      refine .same ?_ ?_ rfl
      · exact Eq.trans (b := VN .i64 0) (by kernel_rfl) (by rw [hv])
      · exact Eq.trans (b := [z, [SV s, VN .i64 ((⟨q.at', true⟩ : RQ)).at', BV ((⟨q.at', true⟩ : RQ)).bad, v0, v1, v2, v3]]) (by kernel_rfl) (by rw [hw])
    · conv => whnf
      repeat' ((first
        | with_reducible refine cond_t ?_
        | refine ⟨_, _, wknL_ok rfl, get_D s q.at' hs (by omega), ?_⟩
        | with_reducible refine s_neq_t (by omega) ?_
        | ((fail_if_success (with_reducible refine is_int ?_)); refine cmp_int rfl rfl ?_)
        | ((with_reducible refine is_e3 ?_); refine ⟨_, rfl, rfl, ?_⟩)
        | ((with_reducible refine is_e2 ?_); refine ⟨_, rfl, ?_⟩)
        | ((with_reducible refine is_nilc ?_); refine ⟨Or.inr (Or.inl rfl), ?_⟩)
        | ((with_reducible refine is_end ?_); refine ⟨Or.inr rfl, ?_⟩)
        | fail) <;> conv => whnf)
      refine .same ?_ ?_ rfl
      · exact Eq.trans (b := VN .i64 0) (by kernel_rfl) (by rw [hv])
      · exact Eq.trans (b := [z, [SV s, VN .i64 ((⟨q.at', true⟩ : RQ)).at', BV ((⟨q.at', true⟩ : RQ)).bad, v0, v1, v2, v3]]) (by kernel_rfl) (by rw [hw])
theorem rfourB (z : List DV) (v0 v1 v2 v3 : DV) (s : ByteArray) (q : RQ) (hs : s.size ≤ 1000000) (hq : inQ s q) : DEff Tp I 155 [.lp 1 0] [z, [SV s, VN .i64 (q).at', BV (q).bad, v0, v1, v2, v3]] [] (VN .i64 (frV s q)) [z, [SV s, VN .i64 ((frQ s q)).at', BV ((frQ s q)).bad, v0, v1, v2, v3]] [] := by
  unfold inQ at hq
  refine eff_of mix e155 (Nat.le_of_ble_eq_true rfl) ?_
  by_cases h : fourP s q
  · have hv : frV s q = rdN s q.at' := if_pos h
    have hw : frQ s q = ⟨q.at' + 4, q.bad⟩ := if_pos h
    have h1 := h.1
    have h2 := h.2
    have h3 := rdN_lo h1
    conv => whnf
    repeat' ((first
      | with_reducible refine cond_f ?_
      | refine ⟨_, _, wknL_ok rfl, read_D s q.at' hs (by omega), ?_⟩
      | with_reducible refine s_geq_f (by omega) ?_
      | with_reducible refine s_neq_f (by omega) ?_
      | with_reducible refine s_add (by omega) ?_
      | with_reducible refine c_i64 (by omega) ?_
      | ((fail_if_success (with_reducible refine is_int ?_)); refine cmp_int rfl rfl ?_)
      | ((with_reducible refine is_e3 ?_); refine ⟨_, rfl, rfl, ?_⟩)
      | ((with_reducible refine is_e2 ?_); refine ⟨_, rfl, ?_⟩)
      | ((with_reducible refine is_nilc ?_); refine ⟨Or.inr (Or.inl rfl), ?_⟩)
      | ((with_reducible refine is_end ?_); refine ⟨Or.inr rfl, ?_⟩)
      | fail) <;> conv => whnf)
    refine .same ?_ ?_ rfl
    · exact Eq.trans (b := VN .i64 (rdN s q.at')) (by kernel_rfl) (by rw [hv])
    · exact Eq.trans (b := [z, [SV s, VN .i64 ((⟨q.at' + 4, q.bad⟩ : RQ)).at', BV ((⟨q.at' + 4, q.bad⟩ : RQ)).bad, v0, v1, v2, v3]]) (by kernel_rfl) (by rw [hw])
  · have hv : frV s q = 0 := if_neg h
    have hw : frQ s q = ⟨q.at', true⟩ := if_neg h
    by_cases h1 : rdE s q.at' = 0
    · have h2 : 4096 ≤ rdN s q.at' := by unfold fourP at h; omega
      conv => whnf
      repeat' ((first
        | with_reducible refine cond_t ?_
        | refine ⟨_, _, wknL_ok rfl, read_D s q.at' hs (by omega), ?_⟩
        | with_reducible refine s_geq_t (by omega) ?_
        | with_reducible refine s_neq_f (by omega) ?_
        | ((fail_if_success (with_reducible refine is_int ?_)); refine cmp_int rfl rfl ?_)
        | ((with_reducible refine is_e3 ?_); refine ⟨_, rfl, rfl, ?_⟩)
        | ((with_reducible refine is_e2 ?_); refine ⟨_, rfl, ?_⟩)
        | ((with_reducible refine is_nilc ?_); refine ⟨Or.inr (Or.inl rfl), ?_⟩)
        | ((with_reducible refine is_end ?_); refine ⟨Or.inr rfl, ?_⟩)
        | fail) <;> conv => whnf)
      refine .same ?_ ?_ rfl
      · exact Eq.trans (b := VN .i64 0) (by kernel_rfl) (by rw [hv])
      · exact Eq.trans (b := [z, [SV s, VN .i64 ((⟨q.at', true⟩ : RQ)).at', BV ((⟨q.at', true⟩ : RQ)).bad, v0, v1, v2, v3]]) (by kernel_rfl) (by rw [hw])
    · conv => whnf
      repeat' ((first
        | with_reducible refine cond_t ?_
        | refine ⟨_, _, wknL_ok rfl, read_D s q.at' hs (by omega), ?_⟩
        | with_reducible refine s_neq_t (by omega) ?_
        | ((fail_if_success (with_reducible refine is_int ?_)); refine cmp_int rfl rfl ?_)
        | ((with_reducible refine is_e3 ?_); refine ⟨_, rfl, rfl, ?_⟩)
        | ((with_reducible refine is_e2 ?_); refine ⟨_, rfl, ?_⟩)
        | ((with_reducible refine is_nilc ?_); refine ⟨Or.inr (Or.inl rfl), ?_⟩)
        | ((with_reducible refine is_end ?_); refine ⟨Or.inr rfl, ?_⟩)
        | fail) <;> conv => whnf)
      refine .same ?_ ?_ rfl
      · exact Eq.trans (b := VN .i64 0) (by kernel_rfl) (by rw [hv])
      · exact Eq.trans (b := [z, [SV s, VN .i64 ((⟨q.at', true⟩ : RQ)).at', BV ((⟨q.at', true⟩ : RQ)).bad, v0, v1, v2, v3]]) (by kernel_rfl) (by rw [hw])
theorem rtake0B (z : List DV) (v0 v1 v2 v3 : DV) (s : ByteArray) (a : Int) (b : Bool) (n : Int) (hs : s.size ≤ 1000000) (hq : 0 ≤ a ∧ a ≤ s.size) (hn : 0 ≤ n ∧ n ≤ 1000000) : DEff Tp I 148 [.lp 1 0, VN .i64 n] [z, [SV s, VN .i64 a, BV b, v0, v1, v2, v3]] [] (SV (tkS s ⟨a, b⟩ n)) [z, [SV s, VN .i64 ((tkQ s ⟨a, b⟩ n)).at', BV ((tkQ s ⟨a, b⟩ n)).bad, v0, v1, v2, v3]] [] := by
  refine eff_of mix e148 (Nat.le_of_ble_eq_true rfl) ?_
  by_cases h : takeP s ⟨a, b⟩ n
  · have hv : tkS s ⟨a, b⟩ n = s.extract a.toNat (a + n).toNat := if_pos h
    have hw : tkQ s ⟨a, b⟩ n = ⟨a + n, b⟩ := if_pos h
    have h2 : n ≤ (s.size : Int) - a := h.2
    cases b with
    | true => exact absurd h.1 Bool.noConfusion
    | false =>
      conv => whnf
      repeat' ((first
        | with_reducible refine cond_f ?_
        | with_reducible refine s_gtr_f (by omega) ?_
        | with_reducible refine s_add (by omega) ?_
        | with_reducible refine s_sub (by omega) ?_
        | ((with_reducible refine is_e3 ?_); refine ⟨_, rfl, rfl, ?_⟩)
        | ((with_reducible refine is_nilc ?_); refine ⟨Or.inr (Or.inl rfl), ?_⟩)
        | ((with_reducible refine is_end ?_); refine ⟨Or.inr rfl, ?_⟩)
        | refine And.intro (by omega) ?_
        | fail) <;> conv => whnf)
      refine .same ?_ ?_ rfl
      · refine Eq.trans (b := SV (s.extract (a + n - n).toNat (a + n).toNat)) (by kernel_rfl) ?_
        rw [hv, show a + n - n = a by omega]
      · exact Eq.trans (b := [z, [SV s, VN .i64 ((⟨a + n, false⟩ : RQ)).at', BV ((⟨a + n, false⟩ : RQ)).bad, v0, v1, v2, v3]]) (by kernel_rfl) (by rw [hw])
  · have hv : tkS s ⟨a, b⟩ n = nilS := if_neg h
    have hw : tkQ s ⟨a, b⟩ n = ⟨a, true⟩ := if_neg h
    cases b with
    | true =>
      conv => whnf
      repeat' ((first
        | with_reducible refine cond_t ?_
        | ((with_reducible refine is_e3 ?_); refine ⟨_, rfl, rfl, ?_⟩)
        | ((with_reducible refine is_nilc ?_); refine ⟨Or.inr (Or.inl rfl), ?_⟩)
        | ((with_reducible refine is_end ?_); refine ⟨Or.inr rfl, ?_⟩)
        | fail) <;> conv => whnf)
      refine .same ?_ ?_ rfl
      · exact Eq.trans (b := SV nilS) (by kernel_rfl) (by rw [hv])
      · exact Eq.trans (b := [z, [SV s, VN .i64 ((⟨a, true⟩ : RQ)).at', BV ((⟨a, true⟩ : RQ)).bad, v0, v1, v2, v3]]) (by kernel_rfl) (by rw [hw])
    | false =>
      have h2 : ¬ n ≤ (s.size : Int) - a := fun h2 => h ⟨rfl, h2⟩
      conv => whnf
      repeat' ((first
        | with_reducible refine cond_t ?_
        | with_reducible refine s_gtr_t (by omega) ?_
        | with_reducible refine s_sub (by omega) ?_
        | ((with_reducible refine is_e3 ?_); refine ⟨_, rfl, rfl, ?_⟩)
        | ((with_reducible refine is_nilc ?_); refine ⟨Or.inr (Or.inl rfl), ?_⟩)
        | ((with_reducible refine is_end ?_); refine ⟨Or.inr rfl, ?_⟩)
        | fail) <;> conv => whnf)
      refine .same ?_ ?_ rfl
      · exact Eq.trans (b := SV nilS) (by kernel_rfl) (by rw [hv])
      · exact Eq.trans (b := [z, [SV s, VN .i64 ((⟨a, true⟩ : RQ)).at', BV ((⟨a, true⟩ : RQ)).bad, v0, v1, v2, v3]]) (by kernel_rfl) (by rw [hw])
theorem rtakeB (z : List DV) (v0 v1 v2 v3 : DV) (s : ByteArray) (q : RQ) (n : Int) (hs : s.size ≤ 1000000) (hq : inQ s q) (hn : 0 ≤ n ∧ n ≤ 1000000) : DEff Tp I 148 [.lp 1 0, VN .i64 n] [z, [SV s, VN .i64 (q).at', BV (q).bad, v0, v1, v2, v3]] [] (SV (tkS s q n)) [z, [SV s, VN .i64 ((tkQ s q n)).at', BV ((tkQ s q n)).bad, v0, v1, v2, v3]] [] := rtake0B z v0 v1 v2 v3 s q.at' q.bad n hs hq hn

end Go.Proofs.YtlbodfkhenkcjaaGreatDoor.X


namespace Go.Proofs.YtlbodfkhenkcjaaGreatDoor.X
open Go Go.Proofs Go.RowKit Go.Proofs.YtlbodfkhenkcjaaGreatDoor.D
set_option maxRecDepth 100000
set_option maxHeartbeats 1000000
set_option linter.unusedVariables false
set_option linter.unusedSimpArgs false
variable {I : D.Inv}
attribute [local irreducible] D.DPure D.DEff D.callable numV numQ frV frQ tkS tkQ getE getN getT rdE rdN putS fourB textS pkS pkE pvS pvE

abbrev q0 : RQ := ⟨0, false⟩
theorem q0_in (s : ByteArray) : inQ s q0 := ⟨by decide, by show (0 : Int) ≤ s.size; omega⟩
abbrev gkQ1 (s : ByteArray) : RQ := frQ s q0
abbrev gkQ2 (s : ByteArray) : RQ := numQ s (gkQ1 s)
abbrev gkN (s : ByteArray) : Int := numV s (gkQ1 s)
abbrev gkT (s : ByteArray) : ByteArray := tkS s (gkQ2 s) (gkN s)
abbrev gkQ3 (s : ByteArray) : RQ := tkQ s (gkQ2 s) (gkN s)
def gkP (s : ByteArray) : Prop := (gkQ3 s).bad = false ∧ pkE (frV s q0) (gkT s) = 0 ∧ pkS (frV s q0) (gkT s) = s
instance (s : ByteArray) : Decidable (gkP s) := inferInstanceAs (Decidable (_ ∧ _ ∧ _))
def gkK (s : ByteArray) : Int := if gkP s then frV s q0 else 0
def gkS (s : ByteArray) : ByteArray := if gkP s then gkT s else nilS
def gkE (s : ByteArray) : Int := if gkP s then 0 else 3
theorem rtakeAb (s : ByteArray) (q : RQ) (n : Int) (b : Bool) (h : (tkQ s q n).bad = b) (hs : s.size ≤ 1000000) (hq : inQ s q) (hn : 0 ≤ n ∧ n ≤ 1000000) : DEff Tp I 148 [.lp 0 0, VN .i64 n] [rc s q] [] (SV (tkS s q n)) [[SV s, VN .i64 (tkQ s q n).at', BV b]] [] := by
  subst h; exact rtakeA s q n hs hq hn
theorem gk_yes {s : ByteArray} (h : gkP s) : gkK s = frV s q0 ∧ gkS s = gkT s ∧ gkE s = 0 := ⟨if_pos h, if_pos h, if_pos h⟩
theorem gk_no {s : ByteArray} (h : ¬ gkP s) : gkK s = 0 ∧ gkS s = nilS ∧ gkE s = 3 := ⟨if_neg h, if_neg h, if_neg h⟩
theorem getKid_D (s : ByteArray) (hs : s.size ≤ 1000000) : DPure Tp I 98 [SV s] (.v (.tuple #[.int .i64 (gkK s), .string (gkS s), .int .i64 (gkE s)])) := by
  have i1 := frQ_in (q0_in s)
  have i2 := numQ_in i1.1
  have hT : (gkT s).size ≤ s.size := tkS_size
  refine pure_of mix e98 (Nat.le_of_ble_eq_true rfl) ?_
  cases hb : (gkQ3 s).bad
  · conv => whnf
    repeat' ((first
      | with_reducible refine cond_t ?_
      | with_reducible refine cond_f ?_
      | refine Or.inr ⟨_, _, _, rfourA s q0 hs (q0_in s), ?_⟩
      | refine Or.inr ⟨_, _, _, rnumberA s (gkQ1 s) hs i1.1, ?_⟩
      | refine Or.inr ⟨_, _, _, rtakeAb s (gkQ2 s) (gkN s) false hb hs i2.1 (by unfold gkN; unfold gkQ1; omega), ?_⟩
      | refine ⟨_, _, wknL_ok rfl, putKid_D (frV s q0) (gkT s) (by omega), ?_⟩
      | with_reducible refine s_neq (fun _ => ?_) (fun _ => ?_)
      | with_reducible refine s_sneq (fun _ => ?_) (fun _ => ?_)
      | ((fail_if_success (with_reducible refine is_int ?_)); refine cmp_int rfl rfl ?_)
      | ((fail_if_success (with_reducible refine is_str ?_)); refine cmp_str rfl rfl ?_)
      | ((with_reducible refine is_e3 ?_); refine ⟨_, rfl, rfl, ?_⟩)
      | ((with_reducible refine is_e2 ?_); refine ⟨_, rfl, ?_⟩)
      | ((with_reducible refine is_nilc ?_); refine ⟨Or.inr (Or.inl rfl), ?_⟩)
      | ((with_reducible refine is_end ?_); refine ⟨Or.inr rfl, ?_⟩)
      | ((with_reducible refine is_and ?_); refine And.intro rfl ?_)
      | fail) <;> conv => whnf)
    · have h := gk_yes (s := s) ⟨hb, ‹pkE (frV s q0) (gkT s) = 0›, ‹pkS (frV s q0) (gkT s) = s›⟩
      exact tup3_of (a := .int .i64 (frV s q0)) (b := .string (gkT s)) (c := .int .i64 0) (by kernel_rfl) (by rw [h.1]) (by rw [h.2.1]) (by rw [h.2.2])
    · have h := gk_no (s := s) (fun h => ‹¬ pkS (frV s q0) (gkT s) = s› h.2.2)
      exact tup3_of (a := .int .i64 0) (b := .string nilS) (c := .int .i64 3) (by kernel_rfl) (by rw [h.1]) (by rw [h.2.1]) (by rw [h.2.2])
    · have h := gk_no (s := s) (fun h => ‹¬ pkE (frV s q0) (gkT s) = 0› h.2.1)
      exact tup3_of (a := .int .i64 0) (b := .string nilS) (c := .int .i64 3) (by kernel_rfl) (by rw [h.1]) (by rw [h.2.1]) (by rw [h.2.2])
  · conv => whnf
    repeat' ((first
      | with_reducible refine cond_t ?_
      | refine Or.inr ⟨_, _, _, rfourA s q0 hs (q0_in s), ?_⟩
      | refine Or.inr ⟨_, _, _, rnumberA s (gkQ1 s) hs i1.1, ?_⟩
      | refine Or.inr ⟨_, _, _, rtakeAb s (gkQ2 s) (gkN s) true hb hs i2.1 (by unfold gkN; unfold gkQ1; omega), ?_⟩
      | refine ⟨_, _, wknL_ok rfl, putKid_D (frV s q0) (gkT s) (by omega), ?_⟩
      | ((with_reducible refine is_e3 ?_); refine ⟨_, rfl, rfl, ?_⟩)
      | ((with_reducible refine is_e2 ?_); refine ⟨_, rfl, ?_⟩)
      | ((with_reducible refine is_nilc ?_); refine ⟨Or.inr (Or.inl rfl), ?_⟩)
      | ((with_reducible refine is_end ?_); refine ⟨Or.inr rfl, ?_⟩)
      | ((with_reducible refine is_and ?_); refine And.intro rfl ?_)
      | fail) <;> conv => whnf)
    have h := gk_no (s := s) (fun h => by have h1 := h.1; rw [hb] at h1; exact Bool.noConfusion h1)
    exact tup3_of (a := .int .i64 0) (b := .string nilS) (c := .int .i64 3) (by kernel_rfl) (by rw [h.1]) (by rw [h.2.1]) (by rw [h.2.2])

end Go.Proofs.YtlbodfkhenkcjaaGreatDoor.X


namespace Go.Proofs.YtlbodfkhenkcjaaGreatDoor.D
open Go Go.RowKit

section
variable {P : Program} {I : Inv} {m0 k0 : Nat}

def seqQ (P : Program) (I : Inv) (m0 k0 : Nat) (b : DCode) (Q : DExit → St → Prop) (e : DExit) (σ : St) : Prop := match e with
  | .normal => dwp P I m0 k0 b σ Q
  | e => Q e σ
def blkQ (id : Nat) (Q : DExit → St → Prop) (e : DExit) (σ : St) : Prop := match e with
  | .exit j => if j = id then Q .normal σ else Q (.exit j) σ
  | e => Q e σ
def lopQ (X : St → Prop) (Q : DExit → St → Prop) (e : DExit) (σ : St) : Prop := match e with
  | .normal => X σ
  | e => Q e σ
variable {a b : DCode} {σ : St} {Q : DExit → St → Prop} {X : St → Prop} {id j : Nat}
theorem z_seq (h : dwp P I m0 k0 a σ (seqQ P I m0 k0 b Q)) : dwp P I m0 k0 (.seq a b) σ Q := dwp_mono (d := a) h fun e τ h => by cases e <;> exact h
theorem z_seqn (h : dwp P I m0 k0 b σ Q) : seqQ P I m0 k0 b Q .normal σ := h
theorem z_seqx (h : Q (.exit j) σ) : seqQ P I m0 k0 b Q (.exit j) σ := h
theorem z_seqr (h : Q .ret σ) : seqQ P I m0 k0 b Q .ret σ := h
theorem z_blk (h : dwp P I m0 k0 a σ (blkQ id Q)) : dwp P I m0 k0 (.block id a) σ Q := dwp_mono (d := a) h fun e τ h => by cases e <;> exact h
theorem z_blkn (h : Q .normal σ) : blkQ id Q .normal σ := h
theorem z_blkr (h : Q .ret σ) : blkQ id Q .ret σ := h
theorem z_blkh (h : Q .normal σ) : blkQ id Q (.exit id) σ := by unfold blkQ; simp only [if_true]; exact h
theorem z_blkm (hne : Nat.beq j id = false) (h : Q (.exit j) σ) : blkQ id Q (.exit j) σ := by
  unfold blkQ
  simp only
  rw [if_neg (fun e => by subst e; simp at hne)]
  exact h
theorem z_lopn (h : X σ) : lopQ X Q .normal σ := h
theorem z_lopx (h : Q (.exit j) σ) : lopQ X Q (.exit j) σ := h
theorem z_lopr (h : Q .ret σ) : lopQ X Q .ret σ := h
theorem z_skip (h : Q .normal σ) : dwp P I m0 k0 .skip σ Q := h
theorem z_exit (h : Q (.exit j) σ) : dwp P I m0 k0 (.exit j) σ Q := h
theorem z_ret (h : Q .ret σ) : dwp P I m0 k0 .ret σ Q := h
theorem z_reg {ops : List Op1} (h : dops P I ops σ (Q .normal)) : dwp P I m0 k0 (.reg ops) σ Q := h
theorem z_nil {K : St → Prop} (h : K σ) : dops P I [] σ K := h
variable {c : Opd} {env : List (Nat × DV)} {loc : List (List DV)} {ow : List Nat}
theorem z_cond_t (hc : ev env c = .v (.bool true)) (h : dwp P I m0 k0 a ⟨env, loc, ow⟩ Q) : dwp P I m0 k0 (.cond c a b) ⟨env, loc, ow⟩ Q := by simp only [dwp, hc]; exact ⟨fun _ => h, fun h => Bool.noConfusion h⟩
theorem z_cond_f (hc : ev env c = .v (.bool false)) (h : dwp P I m0 k0 b ⟨env, loc, ow⟩ Q) : dwp P I m0 k0 (.cond c a b) ⟨env, loc, ow⟩ Q := by simp only [dwp, hc]; exact ⟨fun h => Bool.noConfusion h, fun _ => h⟩
theorem z_cond {t : Bool} (hc : ev env c = .v (.bool t)) (h1 : t = true → dwp P I m0 k0 a ⟨env, loc, ow⟩ Q) (h2 : t = false → dwp P I m0 k0 b ⟨env, loc, ow⟩ Q) : dwp P I m0 k0 (.cond c a b) ⟨env, loc, ow⟩ Q := by simp only [dwp, hc]; exact ⟨h1, h2⟩
theorem z_loop {α : Type} (R : α → St) (Pv : α → Prop) (μ : α → Nat) (v0 : α) (h0 : Less m0 k0 (R v0) σ) (hP : Pv v0)
    (h : ∀ v, Pv v → dwp P I m0 k0 a (R v) (lopQ (fun τ => ∃ v', Less m0 k0 (R v') τ ∧ Pv v' ∧ μ v' < μ v) Q)) : dwp P I m0 k0 (.loop a) σ Q :=
  loop_ind R Pv μ v0 h0 hP fun v hv => dwp_mono (d := a) (h v hv) fun e τ h => by cases e <;> exact h

variable {os : List Op1} {K : St → Prop} {n : Nat} {r : DV}
theorem z_neu {op : DOp} (hn : op.neutral = true) (h : ap P I op ⟨env, loc, ow⟩ fun r => dops P I os ⟨(n, r) :: env, loc, ow⟩ K) : dops P I (⟨some n, op, none⟩ :: os) ⟨env, loc, ow⟩ K := by
  cases op <;> first | exact h | exact Bool.noConfusion hn
theorem z_g {op : DOp} {d : Option Nat} {g : Nat} {w : Bool} (hg : ev env (.t g) = .v (.bool w)) (h : dops P I (⟨d, op, none⟩ :: os) ⟨env, loc, ow⟩ K) : dops P I (⟨d, op, some (g, w)⟩ :: os) ⟨env, loc, ow⟩ K := by
  have hg' : look env g = .v (.bool w) := hg
  show dop1 P I ⟨d, op, some (g, w)⟩ ⟨env, loc, ow⟩ fun σ' => dops P I os σ' K
  unfold dop1
  simp only [hg', if_true]
  exact h
theorem z_gf {op : DOp} {g : Nat} (hg : ev env (.t g) = .v (.bool false)) (h : dops P I os ⟨(n, .v undef) :: env, loc, ow⟩ K) : dops P I (⟨some n, op, some (g, true)⟩ :: os) ⟨env, loc, ow⟩ K := by
  have hg' : look env g = .v (.bool false) := hg
  show dop1 P I ⟨some n, op, some (g, true)⟩ ⟨env, loc, ow⟩ fun σ' => dops P I os σ' K
  unfold dop1
  simp only [hg', Bool.false_eq_true, if_false]
  exact h
theorem z_gt {op : DOp} {g : Nat} (hg : ev env (.t g) = .v (.bool true)) (h : dops P I os ⟨(n, .v undef) :: env, loc, ow⟩ K) : dops P I (⟨some n, op, some (g, false)⟩ :: os) ⟨env, loc, ow⟩ K := by
  have hg' : look env g = .v (.bool true) := hg
  show dop1 P I ⟨some n, op, some (g, false)⟩ ⟨env, loc, ow⟩ fun σ' => dops P I os σ' K
  unfold dop1
  simp only [hg', Bool.true_eq_false, if_false]
  exact h
theorem z_gu {op : DOp} {g : Nat} {w : Bool} {xs : Array Value} (hg : ev env (.t g) = .v (.tuple xs)) (h : dops P I os ⟨(n, .v undef) :: env, loc, ow⟩ K) : dops P I (⟨some n, op, some (g, w)⟩ :: os) ⟨env, loc, ow⟩ K := by
  have hg' : look env g = .v (.tuple xs) := hg
  show dop1 P I ⟨some n, op, some (g, w)⟩ ⟨env, loc, ow⟩ fun σ' => dops P I os σ' K
  unfold dop1
  simp only [hg']
  exact h

variable {x y i : Opd} {sz off o kk j' : Nat} {k k' : IntKind} {va vb : Value} {d : DV} {s : ByteArray} {l : List DV} {cs : List DV} {u w : Int}
theorem z_mv (h : ev env x = r) (hk : dops P I os ⟨(n, r) :: env, loc, ow⟩ K) : dops P I (⟨some n, .mv x, none⟩ :: os) ⟨env, loc, ow⟩ K := z_neu rfl (by subst h; exact hk)
theorem z_pick_t (hc : ev env c = .v (.bool true)) (h : ev env x = r) (hk : dops P I os ⟨(n, r) :: env, loc, ow⟩ K) : dops P I (⟨some n, .pick c x y, none⟩ :: os) ⟨env, loc, ow⟩ K := z_neu rfl (by simp only [ap, hc, if_true, h]; exact hk)
theorem z_pick_f (hc : ev env c = .v (.bool false)) (h : ev env y = r) (hk : dops P I os ⟨(n, r) :: env, loc, ow⟩ K) : dops P I (⟨some n, .pick c x y, none⟩ :: os) ⟨env, loc, ow⟩ K := z_neu rfl (by simp only [ap, hc, Bool.false_eq_true, if_false, h]; exact hk)
theorem part_one (h : cs[off]? = some r) : part false ((cs.drop off).take 1) = r := by
  obtain ⟨h1, h2⟩ := List.getElem?_eq_some_iff.1 h
  rw [List.drop_eq_getElem_cons h1, h2]
  rfl
theorem ble_one (h : cs[off]? = some r) : Nat.ble (off + 1) cs.length = true := Nat.ble_eq.mpr (List.getElem?_eq_some_iff.1 h).1
theorem z_ld (h : ev env x = .lp kk off) (hc : loc[kk]? = some cs) (hd : cs[off]? = some r) (hk : dops P I os ⟨(n, r) :: env, loc, ow⟩ K) : dops P I (⟨some n, .ld 1 false x, none⟩ :: os) ⟨env, loc, ow⟩ K :=
  z_neu rfl (by simp only [ap, h]; exact ⟨cs, hc, ble_one hd, by rw [part_one hd]; exact hk⟩)
theorem z_lda (h : ev env x = .lp kk off) (hc : loc[kk]? = some cs) (hb : Nat.ble (off + sz) cs.length = true) (hr : part true ((cs.drop off).take sz) = r) (hk : dops P I os ⟨(n, r) :: env, loc, ow⟩ K) : dops P I (⟨some n, .ld sz true x, none⟩ :: os) ⟨env, loc, ow⟩ K :=
  z_neu rfl (by simp only [ap, h]; exact ⟨cs, hc, hb, by rw [hr]; exact hk⟩)
theorem z_lde (h : ev env x = .ep d off) (hd : d.cells[off]? = some r) (hk : dops P I os ⟨(n, r) :: env, loc, ow⟩ K) : dops P I (⟨some n, .ld 1 false x, none⟩ :: os) ⟨env, loc, ow⟩ K :=
  z_neu rfl (by simp only [ap, h]; exact ⟨ble_one hd, by rw [part_one hd]; exact hk⟩)
theorem z_ldea (h : ev env x = .ep d off) (hb : Nat.ble (off + sz) d.cells.length = true) (hr : part true ((d.cells.drop off).take sz) = r) (hk : dops P I os ⟨(n, r) :: env, loc, ow⟩ K) : dops P I (⟨some n, .ld sz true x, none⟩ :: os) ⟨env, loc, ow⟩ K :=
  z_neu rfl (by simp only [ap, h]; exact ⟨hb, by rw [hr]; exact hk⟩)
theorem z_nilc (h : ev env x = .lp kk off) (hk : dops P I os ⟨(n, .lp kk off) :: env, loc, ow⟩ K) : dops P I (⟨some n, .nilc x, none⟩ :: os) ⟨env, loc, ow⟩ K := z_neu rfl (by simp only [ap, h]; exact ⟨.inr (.inl rfl), hk⟩)
theorem z_bin {op : BinOp} (hx : ev env x = .v va) (hy : ev env y = .v vb) (h : ∃ r, dbin op va vb = some r ∧ dops P I os ⟨(n, .v r) :: env, loc, ow⟩ K) : dops P I (⟨some n, .bin op x y, none⟩ :: os) ⟨env, loc, ow⟩ K :=
  z_neu rfl (by simp only [ap, hx, hy]; exact h)
theorem z_isnil {t b : Bool} {kd : Nat} {ng : Bool} (hx : ev env x = d) (h : dnil kd d = some t) (hb : (if ng = true then !t else t) = b) (hk : dops P I os ⟨(n, .v (.bool b)) :: env, loc, ow⟩ K) : dops P I (⟨some n, .isnil kd ng x, none⟩ :: os) ⟨env, loc, ow⟩ K :=
  z_neu rfl (by subst hb; subst hx; exact ⟨t, h, hk⟩)
theorem z_not_t (hx : ev env x = .v (.bool true)) (hk : dops P I os ⟨(n, .v (.bool false)) :: env, loc, ow⟩ K) : dops P I (⟨some n, .un .not x, none⟩ :: os) ⟨env, loc, ow⟩ K := z_neu rfl (by simp only [ap, hx]; exact ⟨_, rfl, hk⟩)
theorem z_not_f (hx : ev env x = .v (.bool false)) (hk : dops P I os ⟨(n, .v (.bool true)) :: env, loc, ow⟩ K) : dops P I (⟨some n, .un .not x, none⟩ :: os) ⟨env, loc, ow⟩ K := z_neu rfl (by simp only [ap, hx]; exact ⟨_, rfl, hk⟩)
theorem z_cvt (hx : ev env x = .v (.int k' u)) (h : ∃ m, k.wrap u = m ∧ dops P I os ⟨(n, .v (.int k m)) :: env, loc, ow⟩ K) : dops P I (⟨some n, .cvt k x, none⟩ :: os) ⟨env, loc, ow⟩ K := z_neu rfl (by simp only [ap, hx]; exact h)
theorem z_s2b (hx : ev env x = .v (.string s)) (hk : dops P I os ⟨(n, .list 1 (bytesD s.data.toList)) :: env, loc, ow⟩ K) : dops P I (⟨some n, .s2b x, none⟩ :: os) ⟨env, loc, ow⟩ K := z_neu rfl (by simp only [ap, hx]; exact hk)
theorem z_b2s {ns : List Int} (hx : ev env x = d) (h1 : elems d = some l) (h2 : fitsSz 1 d = true) (h3 : nums l = some ns) (hk : dops P I os ⟨(n, .v (.string (strOfNums ns))) :: env, loc, ow⟩ K) : dops P I (⟨some n, .b2s x, none⟩ :: os) ⟨env, loc, ow⟩ K :=
  z_neu rfl (by subst hx; exact ⟨l, ns, h1, h2, h3, hk⟩)
theorem z_mki {t : TypeId} (hx : ev env x = d) (hr : mkIfc t d = r) (hk : dops P I os ⟨(n, r) :: env, loc, ow⟩ K) : dops P I (⟨some n, .mki t x, none⟩ :: os) ⟨env, loc, ow⟩ K := z_neu rfl (by subst hx; subst hr; exact hk)
theorem z_mkf {f : FuncId} {xs : List Opd} {ds : List DV} (h : xs.map (ev env) = ds) (hk : dops P I os ⟨(n, .fn f ds) :: env, loc, ow⟩ K) : dops P I (⟨some n, .mkf f xs, none⟩ :: os) ⟨env, loc, ow⟩ K := z_neu rfl (by subst h; exact hk)
theorem z_slS {lo hi : Option Opd} (hx : ev env x = .v (.string s)) (h : optNat env lo 0 fun l => optNat env hi s.size fun h => l ≤ h ∧ h ≤ s.size ∧ dops P I os ⟨(n, .v (.string (s.extract l h))) :: env, loc, ow⟩ K) : dops P I (⟨some n, .slS x lo hi, none⟩ :: os) ⟨env, loc, ow⟩ K :=
  z_neu rfl (by simp only [ap, hx]; exact h)
theorem z_slL {lo hi mx : Option Opd} (hx : ev env x = d) (h1 : elems d = some l) (h2 : fitsSz sz d = true)
    (h : optNat env mx l.length fun m => optNat env hi l.length fun h => optNat env lo 0 fun k => k ≤ h ∧ h ≤ m ∧ m ≤ l.length ∧ dops P I os ⟨(n, .list sz ((l.take h).drop k)) :: env, loc, ow⟩ K) : dops P I (⟨some n, .slL sz x lo hi mx, none⟩ :: os) ⟨env, loc, ow⟩ K :=
  z_neu rfl (by subst hx; exact ⟨l, h1, h2, h⟩)
theorem z_opt_n {q : Nat} {X' : Nat → Prop} (h : X' q) : optNat env none q X' := h
theorem z_opt_s {q : Nat} {X' : Nat → Prop} (hx : ev env x = .v (.int k u)) (h0 : 0 ≤ u) (h : X' u.toNat) : optNat env (some x) q X' := by simp only [optNat, hx]; exact ⟨h0, h⟩
theorem z_fa (h : ev env x = .lp kk o) (hk : dops P I os ⟨(n, .lp kk (o + off)) :: env, loc, ow⟩ K) : dops P I (⟨some n, .fa off x, none⟩ :: os) ⟨env, loc, ow⟩ K := z_neu rfl (by simp only [ap, h]; exact hk)
theorem z_fae (h : ev env x = .ep d o) (hk : dops P I os ⟨(n, .ep d (o + off)) :: env, loc, ow⟩ K) : dops P I (⟨some n, .fa off x, none⟩ :: os) ⟨env, loc, ow⟩ K := z_neu rfl (by simp only [ap, h]; exact hk)
theorem z_ixa (hi : ev env i = .v (.int k u)) (hx : ev env x = d) (h1 : elems d = some l) (h2 : fitsSz sz d = true) (h : 0 ≤ u ∧ ∃ e, l[u.toNat]? = some e ∧ dops P I os ⟨(n, .ep e 0) :: env, loc, ow⟩ K) : dops P I (⟨some n, .ixa sz x i, none⟩ :: os) ⟨env, loc, ow⟩ K :=
  z_neu rfl (by subst hx; simp only [ap, hi, asNat]; exact ⟨h.1, l, h.2.choose, h1, h2, h.2.choose_spec.1, h.2.choose_spec.2⟩)
theorem z_ixp {ln : Nat} (hi : ev env i = .v (.int k u)) (hx : ev env x = .lp kk o) (h : 0 ≤ u ∧ u.toNat < ln ∧ dops P I os ⟨(n, .lp kk (o + u.toNat * sz)) :: env, loc, ow⟩ K) : dops P I (⟨some n, .ixp ln sz x i, none⟩ :: os) ⟨env, loc, ow⟩ K :=
  z_neu rfl (by simp only [ap, hi, hx, asNat]; exact h)
theorem z_ixs (hi : ev env i = .v (.int k u)) (hx : ev env x = .v (.string s)) (h : 0 ≤ u ∧ u.toNat < s.size ∧ dops P I os ⟨(n, .v (.int .u8 (byteAt s u.toNat))) :: env, loc, ow⟩ K) : dops P I (⟨some n, .ixs x i, none⟩ :: os) ⟨env, loc, ow⟩ K :=
  z_neu rfl (by simp only [ap, hi, hx, asNat]; exact h)
theorem z_ext0 {y0 : Value} {ys : List Value} (hx : ev env x = .v (.tuple ⟨y0 :: ys⟩)) (hk : dops P I os ⟨(n, .v y0) :: env, loc, ow⟩ K) : dops P I (⟨some n, .ext x 0, none⟩ :: os) ⟨env, loc, ow⟩ K := z_neu rfl (by simp only [ap, hx]; exact ⟨y0, rfl, hk⟩)
theorem z_ext1 {y0 y1 : Value} {ys : List Value} (hx : ev env x = .v (.tuple ⟨y0 :: y1 :: ys⟩)) (hk : dops P I os ⟨(n, .v y1) :: env, loc, ow⟩ K) : dops P I (⟨some n, .ext x 1, none⟩ :: os) ⟨env, loc, ow⟩ K := z_neu rfl (by simp only [ap, hx]; exact ⟨y1, rfl, hk⟩)
theorem z_ext2 {y0 y1 y2 : Value} {ys : List Value} (hx : ev env x = .v (.tuple ⟨y0 :: y1 :: y2 :: ys⟩)) (hk : dops P I os ⟨(n, .v y2) :: env, loc, ow⟩ K) : dops P I (⟨some n, .ext x 2, none⟩ :: os) ⟨env, loc, ow⟩ K := z_neu rfl (by simp only [ap, hx]; exact ⟨y2, rfl, hk⟩)
theorem z_extt (hx : ev env x = .tup cs) (h : cs[j']? = some r) (hk : dops P I os ⟨(n, r) :: env, loc, ow⟩ K) : dops P I (⟨some n, .ext x j', none⟩ :: os) ⟨env, loc, ow⟩ K := z_neu rfl (by simp only [ap, hx]; exact ⟨r, h, hk⟩)
theorem z_lenS (hx : ev env x = .v (.string s)) (hk : dops P I os ⟨(n, .v (.int .i64 s.size)) :: env, loc, ow⟩ K) : dops P I (⟨some n, .len true x, none⟩ :: os) ⟨env, loc, ow⟩ K := z_neu rfl (by simp only [ap, hx, if_true]; exact hk)
theorem z_lenL (hx : ev env x = d) (h : elems d = some l) (hk : dops P I os ⟨(n, .v (.int .i64 l.length)) :: env, loc, ow⟩ K) : dops P I (⟨some n, .len false x, none⟩ :: os) ⟨env, loc, ow⟩ K := z_neu rfl (by subst hx; simp only [ap, Bool.false_eq_true, if_false]; exact ⟨l, h, hk⟩)
theorem z_min (hx : ev env x = .v (.int k u)) (hy : ev env y = .v (.int k' w)) (hk : dops P I os ⟨(n, .v (.int k (min u w))) :: env, loc, ow⟩ K) : dops P I (⟨some n, .mm false x [y], none⟩ :: os) ⟨env, loc, ow⟩ K := z_neu rfl (by simp only [ap, hx]; exact ⟨[.int k' w], _, by simp only [List.map_cons, List.map_nil, hy], mm_min, hk⟩)
theorem z_max (hx : ev env x = .v (.int k u)) (hy : ev env y = .v (.int k' w)) (hk : dops P I os ⟨(n, .v (.int k (max u w))) :: env, loc, ow⟩ K) : dops P I (⟨some n, .mm true x [y], none⟩ :: os) ⟨env, loc, ow⟩ K := z_neu rfl (by simp only [ap, hx]; exact ⟨[.int k' w], _, by simp only [List.map_cons, List.map_nil, hy], mm_max, hk⟩)
theorem z_bld {z : List Value} {ps : List (Nat × Nat × Opd)} {qs : List (Nat × List DV)} (hp : (ps.map fun p => (p.1, (ev env p.2.2).cells)) = qs) (h1 : fillD (z.map .v) qs = some cs) (h2 : ps.all (fun p => Nat.beq (ev env p.2.2).cells.length p.2.1 && !(ev env p.2.2).isU) = true) (hr : mkAgg cs = r)
    (hk : dops P I os ⟨(n, r) :: env, loc, ow⟩ K) : dops P I (⟨some n, .bld z ps, none⟩ :: os) ⟨env, loc, ow⟩ K := z_neu rfl (by subst hp; subst hr; exact ⟨cs, h1, h2, hk⟩)
theorem z_bsl {ps : List Opd} {es : List DV} (h1 : wknL (ps.map (ev env)) = some es) (h2 : es.all (fun d => Nat.beq d.cells.length sz && d.cells.all DV.one) = true) (hk : dops P I os ⟨(n, .full sz es) :: env, loc, ow⟩ K) : dops P I (⟨some n, .bsl sz ps, none⟩ :: os) ⟨env, loc, ow⟩ K :=
  z_neu rfl ⟨es, wknL_ok h1, h2, hk⟩
variable {f : FuncId} {args : List Opd} {es : List DV}
theorem z_call (hd : DPure P I f es r) (hw : WkL (args.map (ev env)) es) (hk : dops P I os ⟨(n, r) :: env, loc, ow⟩ K) : dops P I (⟨some n, .call f args, none⟩ :: os) ⟨env, loc, ow⟩ K := z_neu rfl ⟨es, r, hw, hd, hk⟩
theorem z_callb {bb : Bool} (hd : DPure P I f es (.v (.bool bb))) (hw : WkL (args.map (ev env)) es) (h1 : bb = true → dops P I os ⟨(n, .v (.bool true)) :: env, loc, ow⟩ K) (h2 : bb = false → dops P I os ⟨(n, .v (.bool false)) :: env, loc, ow⟩ K) : dops P I (⟨some n, .call f args, none⟩ :: os) ⟨env, loc, ow⟩ K :=
  z_neu rfl (by
    cases bb
    · exact ⟨es, _, hw, hd, h2 rfl⟩
    · exact ⟨es, _, hw, hd, h1 rfl⟩)
theorem z_inv {m : String} {t : TypeId} (hx : asIfc (ev env x) = some (t, d)) (hm : Meth P t m f) (hd : DPure P I f es r) (hw : WkL (d :: args.map (ev env)) es) (hk : dops P I os ⟨(n, r) :: env, loc, ow⟩ K) : dops P I (⟨some n, .inv m x args, none⟩ :: os) ⟨env, loc, ow⟩ K := z_neu rfl ⟨t, d, f, es, r, hx, hm, hw, hd, hk⟩
theorem z_callep (hd : DPure P I f es r) (hw : WkL (args.map (ev env)) es) (hk : dops P I os ⟨(n, r) :: env, loc, ow⟩ K) : dops P I (⟨some n, .calle f args, none⟩ :: os) ⟨env, loc, ow⟩ K := .inl ⟨es, r, hw, hd, hk⟩
theorem z_calle {loc' : List (List DV)} {ow' : List Nat} (hd : DEff P I f es loc ow r loc' ow') (ha : args.map (ev env) = es) (hk : dops P I os ⟨(n, r) :: env, loc', ow'⟩ K) : dops P I (⟨some n, .calle f args, none⟩ :: os) ⟨env, loc, ow⟩ K := by
  subst ha; exact .inr ⟨r, loc', ow', hd, hk⟩
theorem z_callv {loc' : List (List DV)} {ow' : List Nat} {g : FuncId} (hx : ev env x = .fn g cs) (hd : DEff P I g es loc ow r loc' ow') (ha : args.map (ev env) ++ cs = es) (hk : dops P I os ⟨(n, r) :: env, loc', ow'⟩ K) : dops P I (⟨some n, .callv x args, none⟩ :: os) ⟨env, loc, ow⟩ K := by
  subst ha; exact ⟨g, cs, by show asFn (ev env x) = _; rw [hx]; rfl, .inr ⟨r, loc', ow', hd, hk⟩⟩
theorem z_callvp {g : FuncId} (hx : ev env x = .fn g cs) (hd : DPure P I g es r) (ha : WkL (args.map (ev env) ++ cs) es) (hk : dops P I os ⟨(n, r) :: env, loc, ow⟩ K) : dops P I (⟨some n, .callv x args, none⟩ :: os) ⟨env, loc, ow⟩ K :=
  ⟨g, cs, by show asFn (ev env x) = _; rw [hx]; rfl, .inl ⟨es, r, ha, hd, hk⟩⟩
theorem z_box {loc' : List (List DV)} {q : Nat} (hx : ev env x = d) (hu : d.isU = false) (hc : d.cells = cs) (hq : loc.length = q) (hl : loc ++ [cs] = loc') (hk : dops P I os ⟨(n, .lp q 0) :: env, loc', ow⟩ K) : dops P I (⟨some n, .box x, none⟩ :: os) ⟨env, loc, ow⟩ K := by
  subst hl; subst hc; subst hq; subst hx; exact ⟨hu, hk⟩
theorem z_zero {loc' : List (List DV)} {q : Nat} {z : Value} (hc : (DV.v z).cells = cs) (hq : loc.length = q) (hl : loc ++ [cs] = loc') (hk : dops P I os ⟨(n, .lp q 0) :: env, loc', ow⟩ K) : dops P I (⟨some n, .zero z, none⟩ :: os) ⟨env, loc, ow⟩ K := by
  subst hl; subst hc; subst hq; exact hk
theorem z_st {loc' : List (List DV)} (ha : ev env x = .lp kk off) (hcs : loc[kk]? = some cs) (hx : ev env y = d) (hb : (Nat.ble (off + sz) cs.length && (Nat.beq d.cells.length sz && d.cells.all DV.one)) = true) (hl : loc.set kk (cs.take off ++ d.cells ++ cs.drop (off + sz)) = loc')
    (hk : dops P I os ⟨env, loc', ow⟩ K) : dops P I (⟨none, .st sz x y, none⟩ :: os) ⟨env, loc, ow⟩ K := by
  subst hl; subst hx
  show dop P I (.st sz x y) ⟨env, loc, ow⟩ fun r σ' => dops P I os { σ' with env := putE σ'.env none r } K
  simp only [dop, ha]
  exact ⟨cs, hcs, hb, hk⟩
theorem z_app_own {e bytes id : Nat} {xs : List DV} {ow' : List Nat} (hs : ev env x = .own id e sz l) (hx : ev env y = d) (h1 : elems d = some xs) (h2 : fitsSz sz d = true) (ho : ow[id]? = some (l.length * sz)) (hb : (l.length + xs.length) * bytes ≤ 140737488355328) (hw : ow.set id ((l.length + xs.length) * sz) = ow')
    (hk : dops P I os ⟨(n, .own id e sz (l ++ xs)) :: env, loc, ow'⟩ K) : dops P I (⟨some n, .app e sz bytes x y, none⟩ :: os) ⟨env, loc, ow⟩ K := by
  subst hw; subst hx
  show dop P I (.app e sz bytes x y) ⟨env, loc, ow⟩ fun r σ' => dops P I os { σ' with env := putE σ'.env (some n) r } K
  simp only [dop]
  refine ⟨xs, h1, h2, ?_⟩
  rw [hs]
  exact ⟨rfl, rfl, ho, hb, hk⟩
theorem z_eqs {ng b b' : Bool} {ks : List Nat} {xs ys : Array Value} (hx : ev env x = .v (.agg xs)) (hy : ev env y = .v (.agg ys)) (h : cellsEq ks xs.toList ys.toList = some b) (hb : (if ng = true then !b else b) = b') (hk : dops P I os ⟨(n, .v (.bool b')) :: env, loc, ow⟩ K) : dops P I (⟨some n, .eqs ng ks x y, none⟩ :: os) ⟨env, loc, ow⟩ K :=
  z_neu rfl (by subst hb; simp only [ap, hx, hy]; exact ⟨b, h, hk⟩)
theorem z_fin {rs : List DRes} {L : List DV → Prop} {e : DExit} {ds : List DV} (he : goes e = true) (hr : evRes rs σ = some ds) (hw : L ds) : (e = .normal ∨ e = .ret) ∧ resD rs σ L := ⟨goes_ok he, evRes_ok hr hw⟩
theorem z_pure {g : FuncId} {D : DFun} {as0 : List DV} {e0 : List (Nat × DV)} (hmix : P.follows .mixedOrders = true) (hc : cfun P g = some D) (hlen : Nat.ble as0.length D.n = true) (h0 : env0 0 as0 = e0) (h : dwp P I 0 0 D.code ⟨e0, [], []⟩ (fun e σ => (e = .normal ∨ e = .ret) ∧ resD D.res σ fun ds => Wk (pack ds) r)) : DPure P I g as0 r := by
  subst h0; exact pure_of hmix hc (Nat.le_of_ble_eq_true hlen) h
theorem dpure_mk {g : FuncId} {as0 : List DV} {r : DV} (h1 : callable P g = true) (h2 : ∀ (S : Nat → Nat → Prop) (W : World) (vals : List Value), I.I W → RepL S W noLink as0 vals → Calls P g vals.toArray W fun e W' => ∃ y, e = .returned y ∧ Rep (fun b o => S b o ∨ W.heap.size ≤ b) W' noLink r y ∧ Below W.heap.size W W') : DPure P I g as0 r := ⟨h1, h2⟩
theorem z_eff {g : FuncId} {D : DFun} {as0 : List DV} {e0 : List (Nat × DV)} {l0 l1 : List (List DV)} {w0 w1 : List Nat} {m k : Nat} {r : DV} (hmix : P.follows .mixedOrders = true) (hc : cfun P g = some D) (hlen : Nat.ble as0.length D.n = true) (h0 : env0 0 as0 = e0) (hm : l0.length = m) (hk : w0.length = k) (h : dwp P I m k D.code ⟨e0, l0, w0⟩ (fun e σ => (e = .normal ∨ e = .ret) ∧ resD D.res σ fun ds => Fin m k (pack ds) σ r l1 w1)) : DEff P I g as0 l0 w0 r l1 w1 := by
  subst h0; subst hm; subst hk; exact eff_of hmix hc (Nat.le_of_ble_eq_true hlen) h
end
end Go.Proofs.YtlbodfkhenkcjaaGreatDoor.D


namespace Go.Proofs.YtlbodfkhenkcjaaGreatDoor.X
open Go Go.Proofs Go.RowKit Go.Proofs.YtlbodfkhenkcjaaGreatDoor.D
set_option maxRecDepth 100000
set_option maxHeartbeats 1000000
set_option linter.unusedVariables false
set_option linter.unusedSimpArgs false
variable {I : D.Inv}
attribute [local irreducible] D.DPure D.DEff D.callable numV numQ frV frQ tkS tkQ getE getN getT rdE rdN putS fourB textS pkS pkE pvS pvE

abbrev gvQ1 (s : ByteArray) : RQ := numQ s q0
abbrev gvN (s : ByteArray) : Int := numV s q0
abbrev gvT (s : ByteArray) : ByteArray := tkS s (gvQ1 s) (gvN s)
abbrev gvQ2 (s : ByteArray) : RQ := tkQ s (gvQ1 s) (gvN s)
abbrev vlB (s : ByteArray) (q : RQ) : ByteArray := tkS s q 1
abbrev vlQ1 (s : ByteArray) (q : RQ) : RQ := tkQ s q 1
def vlV (s : ByteArray) (q : RQ) : ValM :=
  if vlB s q = ⟨#[1]⟩ then ⟨true, nilS, numV s (vlQ1 s q), frV s (numQ s (vlQ1 s q))⟩
  else if vlB s q = ⟨#[0]⟩ then ⟨false, tkS s (numQ s (vlQ1 s q)) (numV s (vlQ1 s q)), 0, 0⟩ else ⟨false, nilS, 0, 0⟩
def vlQ (s : ByteArray) (q : RQ) : RQ :=
  if vlB s q = ⟨#[1]⟩ then frQ s (numQ s (vlQ1 s q)) else if vlB s q = ⟨#[0]⟩ then tkQ s (numQ s (vlQ1 s q)) (numV s (vlQ1 s q)) else vlQ1 s q
abbrev gcell (s : ByteArray) (q : RQ) (v : ValM) : List DV := [SV s, VN .i64 q.at', BV q.bad, BV v.over, SV v.s, VN .i64 v.len, VN .i64 v.page]
theorem value_D (z : List DV) (s : ByteArray) (q : RQ) (hs : s.size ≤ 1000000) (hq : inQ s q) : DEff Tp I 150 [.lp 1 0] [z, gcell s q ⟨false, nilS, 0, 0⟩] [] (.v (.tuple #[])) [z, gcell s (vlQ s q) (vlV s q)] [] := by
  have i1 : inQ s (vlQ1 s q) := tkQ_in hq (by omega)
  have i2 := numQ_in i1
  refine z_eff (e0 := ?e0x1) mix e150 rfl ?z01 rfl rfl ?_
  (case z01 => exact rfl)
  dsimp only [c150]
  repeat' (first
    | ((with_reducible apply z_calle); (case' hd => apply (rtakeB z (BV false) (SV nilS) (VN .i64 0) (VN .i64 0) s q 1 hs hq (by omega))); (case ha => exact rfl); (try any_goals (first | omega | (dsimp only; omega) | (simp only [ByteArray.size_append, ByteArray.size_extract, strOfNums_size, List.length_cons, List.length_nil, List.length_map, List.length_append, List.length_take, List.length_drop]; omega))))
    | ((with_reducible apply z_calle); (case' hd => apply (rnumberB z (BV true) (SV nilS) (VN .i64 0) (VN .i64 0) s (vlQ1 s q) hs i1)); (case ha => exact rfl); (try any_goals (first | omega | (dsimp only; omega) | (simp only [ByteArray.size_append, ByteArray.size_extract, strOfNums_size, List.length_cons, List.length_nil, List.length_map, List.length_append, List.length_take, List.length_drop]; omega))))
    | ((with_reducible apply z_calle); (case' hd => apply (rfourB z (BV true) (SV nilS) (VN .i64 (numV s (vlQ1 s q))) (VN .i64 0) s (numQ s (vlQ1 s q)) hs i2.1)); (case ha => exact rfl); (try any_goals (first | omega | (dsimp only; omega) | (simp only [ByteArray.size_append, ByteArray.size_extract, strOfNums_size, List.length_cons, List.length_nil, List.length_map, List.length_append, List.length_take, List.length_drop]; omega))))
    | ((with_reducible apply z_calle); (case' hd => apply (rnumberB z (BV false) (SV nilS) (VN .i64 0) (VN .i64 0) s (vlQ1 s q) hs i1)); (case ha => exact rfl); (try any_goals (first | omega | (dsimp only; omega) | (simp only [ByteArray.size_append, ByteArray.size_extract, strOfNums_size, List.length_cons, List.length_nil, List.length_map, List.length_append, List.length_take, List.length_drop]; omega))))
    | ((with_reducible apply z_calle); (case' hd => apply (rtakeB z (BV false) (SV nilS) (VN .i64 0) (VN .i64 0) s (numQ s (vlQ1 s q)) (numV s (vlQ1 s q)) hs i2.1 (by omega))); (case ha => exact rfl); (try any_goals (first | omega | (dsimp only; omega) | (simp only [ByteArray.size_append, ByteArray.size_extract, strOfNums_size, List.length_cons, List.length_nil, List.length_map, List.length_append, List.length_take, List.length_drop]; omega))))
    | with_reducible refine z_seq ?_
    | with_reducible refine z_seqn ?_
    | with_reducible refine z_seqx ?_
    | with_reducible refine z_blk ?_
    | with_reducible refine z_blkn ?_
    | with_reducible refine z_blkh ?_
    | ((with_reducible apply z_blkm); (case hne => exact rfl))
    | with_reducible refine z_skip ?_
    | with_reducible refine z_exit ?_
    | with_reducible refine z_reg ?_
    | with_reducible refine z_nil ?_
    | ((with_reducible apply z_cond_t); (case hc => exact rfl))
    | ((with_reducible apply z_cond_f); (case hc => exact rfl))
    | ((with_reducible apply z_mv); (case h => ((conv => {lhs; whnf}) <;> exact rfl)))
    | ((with_reducible apply z_nilc); (case h => ((conv => {lhs; whnf}) <;> exact rfl)))
    | ((with_reducible apply z_fa); (case h => ((conv => {lhs; whnf}) <;> exact rfl)))
    | ((with_reducible apply z_bin); (case hx => ((conv => {lhs; whnf}) <;> exact rfl)); (case hy => ((conv => {lhs; whnf}) <;> exact rfl)))
    | ((with_reducible apply z_st); (case ha => ((conv => {lhs; whnf}) <;> exact rfl)); (case hcs => ((conv => {lhs; whnf}) <;> exact rfl)); (case hx => ((conv => {lhs; whnf}) <;> exact rfl)); (case hb => exact rfl); (case hl => ((conv => {lhs; whnf}) <;> exact rfl)))
    | ((with_reducible apply z_fin); (case he => exact rfl); (case hr => ((conv => {lhs; whnf}) <;> exact rfl)))
    | with_reducible refine s_seql (fun _ => ?_) (fun _ => ?_)
    | fail)
  · have e : vlV s q = ⟨true, nilS, numV s (vlQ1 s q), frV s (numQ s (vlQ1 s q))⟩ := if_pos ‹vlB s q = ⟨#[1]⟩›
    have e2 : vlQ s q = frQ s (numQ s (vlQ1 s q)) := if_pos ‹vlB s q = ⟨#[1]⟩›
    refine .same (by kernel_rfl) ?_ rfl
    exact Eq.trans (b := [z, gcell s (frQ s (numQ s (vlQ1 s q))) ⟨true, nilS, numV s (vlQ1 s q), frV s (numQ s (vlQ1 s q))⟩]) (by kernel_rfl) (by rw [e, e2])
  · have e : vlV s q = ⟨false, tkS s (numQ s (vlQ1 s q)) (numV s (vlQ1 s q)), 0, 0⟩ := by unfold vlV; rw [if_neg ‹_›, if_pos ‹_›]
    have e2 : vlQ s q = tkQ s (numQ s (vlQ1 s q)) (numV s (vlQ1 s q)) := by unfold vlQ; rw [if_neg ‹_›, if_pos ‹_›]
    refine .same (by kernel_rfl) ?_ rfl
    exact Eq.trans (b := [z, gcell s (tkQ s (numQ s (vlQ1 s q)) (numV s (vlQ1 s q))) ⟨false, tkS s (numQ s (vlQ1 s q)) (numV s (vlQ1 s q)), 0, 0⟩]) (by kernel_rfl) (by rw [e, e2])
  · have e : vlV s q = ⟨false, nilS, 0, 0⟩ := by unfold vlV; rw [if_neg ‹_›, if_neg ‹_›]
    have e2 : vlQ s q = vlQ1 s q := by unfold vlQ; rw [if_neg ‹_›, if_neg ‹_›]
    refine .same (by kernel_rfl) ?_ rfl
    exact Eq.trans (b := [z, gcell s (vlQ1 s q) ⟨false, nilS, 0, 0⟩]) (by kernel_rfl) (by rw [e, e2])
end Go.Proofs.YtlbodfkhenkcjaaGreatDoor.X


namespace Go.Proofs.YtlbodfkhenkcjaaGreatDoor.X
open Go Go.Proofs Go.RowKit Go.Proofs.YtlbodfkhenkcjaaGreatDoor.D
set_option maxRecDepth 100000
set_option maxHeartbeats 1000000
set_option linter.unusedVariables false
set_option linter.unusedSimpArgs false
variable {I : D.Inv}
attribute [local irreducible] D.DPure D.DEff D.callable

def c205 : DFun := ⟨27, [.t 4], .seq (.reg [⟨some 4, .mv (.c (.int .i64 0)), none⟩]) (.seq (.reg [⟨some 5, .mv (.c (.int .i64 0)), none⟩]) (.seq (.block 0 (.loop (.seq (.seq (.reg [⟨some 6, .mv (.t 5), none⟩, ⟨some 7, .mv (.t 0), none⟩, ⟨some 8, .len false (.t 7), none⟩, ⟨some 9, .mv (.t 1), none⟩, ⟨some 10, .len false (.t 9), none⟩, ⟨some 11, .mm false (.t 8) [.t 10], none⟩, ⟨some 12, .bin .lss (.t 6) (.t 11), none⟩, ⟨some 13, .mv (.t 12), none⟩, ⟨some 14, .mv (.t 0), some (13, true)⟩, ⟨some 15, .mv (.t 5), some (13, true)⟩, ⟨some 16, .ixa 1 (.t 14) (.t 15), some (13, true)⟩, ⟨some 17, .ld 1 false (.t 16), some (13, true)⟩, ⟨some 18, .mv (.t 1), some (13, true)⟩, ⟨some 19, .mv (.t 5), some (13, true)⟩, ⟨some 20, .ixa 1 (.t 18) (.t 19), some (13, true)⟩, ⟨some 21, .ld 1 false (.t 20), some (13, true)⟩, ⟨some 22, .bin .eql (.t 17) (.t 21), some (13, true)⟩, ⟨some 23, .pick (.t 13) (.t 22) (.c (.bool false)), none⟩]) (.cond (.t 23) .skip (.exit 0))) (.block 1 (.reg [⟨some 24, .mv (.t 5), none⟩, ⟨some 25, .bin .add (.t 24) (.c (.int .i64 1)), none⟩, ⟨some 5, .mv (.t 25), none⟩]))))) (.seq (.reg [⟨some 26, .mv (.t 5), none⟩, ⟨some 4, .mv (.t 26), none⟩]) .ret)))⟩
theorem e205 : cfun Tryz.prog 205 = some c205 := by kernel_rfl
def c195 : DFun := ⟨10, [.t 4], .seq (.reg [⟨some 4, .mv (.c (.int .i64 0)), none⟩]) (.seq (.reg [⟨some 5, .mv (.t 0), none⟩, ⟨some 6, .s2b (.t 5), none⟩, ⟨some 7, .mv (.t 1), none⟩, ⟨some 8, .s2b (.t 7), none⟩, ⟨some 9, .call 205 [.t 6, .t 8], none⟩, ⟨some 4, .mv (.t 9), none⟩]) .ret)⟩
theorem e195 : cfun Tryz.prog 195 = some c195 := by kernel_rfl
def c196 : DFun := ⟨18, [.t 4], .seq (.reg [⟨some 4, .mv (.c (.int .i64 0)), none⟩]) (.seq (.seq (.reg [⟨some 7, .mv (.t 1), none⟩, ⟨some 8, .len false (.t 7), none⟩, ⟨some 9, .mv (.c (.int .i64 0)), none⟩]) (.block 0 (.loop (.seq (.reg [⟨some 10, .bin .lss (.t 9) (.t 8), none⟩]) (.seq (.cond (.t 10) .skip (.exit 0)) (.seq (.block 1 (.seq (.reg [⟨some 11, .ixa 1 (.t 7) (.t 9), none⟩, ⟨some 12, .ld 1 false (.t 11), none⟩, ⟨some 6, .mv (.t 12), none⟩]) (.reg [⟨some 13, .mv (.t 0), none⟩, ⟨some 14, .mv (.t 6), none⟩, ⟨some 15, .mm false (.t 13) [.t 14], none⟩, ⟨some 0, .mv (.t 15), none⟩]))) (.reg [⟨some 16, .bin .add (.t 9) (.c (.int .i64 1)), none⟩, ⟨some 9, .mv (.t 16), none⟩]))))))) (.seq (.reg [⟨some 17, .mv (.t 0), none⟩, ⟨some 4, .mv (.t 17), none⟩]) .ret))⟩
theorem e196 : cfun Tryz.prog 196 = some c196 := by kernel_rfl
def common : List UInt8 → List UInt8 → Nat
  | a :: x, b :: y => if a = b then common x y + 1 else 0
  | _, _ => 0
theorem common_le : ∀ (x y : List UInt8), common x y ≤ x.length ∧ common x y ≤ y.length
  | [], _ => by simp [common]
  | _ :: _, [] => by simp [common]
  | a :: x, b :: y => by
    have := common_le x y
    simp only [common, List.length_cons]
    split <;> omega
theorem common_at : ∀ {x y : List UInt8} {n : Nat} (hx : n < x.length) (hy : n < y.length), n ≤ common x y → (x[n] = y[n] → n < common x y) ∧ (x[n] ≠ y[n] → common x y = n)
  | [], _, _, hx, _, _ => by simp at hx
  | _ :: _, [], _, _, hy, _ => by simp at hy
  | a :: x, b :: y, 0, _, _, h => by
    simp only [common, List.getElem_cons_zero]
    constructor
    · intro e; rw [if_pos e]; omega
    · intro e; rw [if_neg e]
  | a :: x, b :: y, n + 1, hx, hy, h => by
    simp only [common] at h ⊢
    split at h
    · rename_i e
      rw [if_pos e]
      have := common_at (x := x) (y := y) (n := n) (by simpa using hx) (by simpa using hy) (by omega)
      simp only [List.getElem_cons_succ]
      constructor
      · intro e2; have := this.1 e2; omega
      · intro e2; have := this.2 e2; omega
    · omega
theorem common_end {x y : List UInt8} {n : Nat} (h : n ≤ common x y) (he : ¬ (n < x.length ∧ n < y.length)) : common x y = n := by
  have := common_le x y
  omega
theorem bytesD_get {l : List UInt8} {i : Nat} (h : i < l.length) : (bytesD l)[(i : Int).toNat]? = some (VN .u8 (l[i]'h).toNat) := by simp [bytesD, h]
theorem bytesD_len (l : List UInt8) : (bytesD l).length = l.length := by simp [bytesD]
theorem u8_eq {a b : UInt8} (h : ((a.toNat : Nat) : Int) = (b.toNat : Nat)) : a = b := UInt8.toNat_inj.1 (by omega)
theorem shared_D (x y : List UInt8) (hx : x.length ≤ 1000000) (hy : y.length ≤ 1000000) : DPure Tp I 205 [.list 1 (bytesD x), .list 1 (bytesD y)] (VN .i64 (common x y)) := by
  have lx := bytesD_len x
  have ly := bytesD_len y
  refine z_pure (e0 := ?e0x1) mix e205 rfl ?z01 ?_
  (case z01 => exact rfl)
  dsimp only [c205]
  repeat' (first
    | with_reducible refine z_seq ?_
    | with_reducible refine z_seqn ?_
    | with_reducible refine z_blk ?_
    | with_reducible refine z_reg ?_
    | with_reducible refine z_nil ?_
    | ((with_reducible apply z_mv); (case h => ((conv => {lhs; whnf}) <;> exact rfl)))
    | fail)
  refine z_loop (fun i : Nat => ⟨[(0, .list 1 (bytesD x)), (1, .list 1 (bytesD y)), (5, VN .i64 i)], [], []⟩) (fun i : Nat => i ≤ common x y) (fun i : Nat => common x y - i) (0) ?_ ?_ fun i hi => ?_
  · exact (less_of 0 0 0 rfl rfl (lessE_cons (ltd_eq rfl (by kernel_rfl)) (lessE_cons (ltd_eq rfl (by kernel_rfl)) (lessE_cons (ltd_eq rfl (by kernel_rfl)) lessE_nil))) (by kernel_rfl) (by kernel_rfl) (by kernel_rfl) (by kernel_rfl))
  · omega
  have hc := common_le x y
  by_cases hb : i < x.length ∧ i < y.length
  · have hat := common_at hb.1 hb.2 hi
    repeat' (first
      | refine ⟨_, bytesD_get hb.1, ?_⟩
      | refine ⟨_, bytesD_get hb.2, ?_⟩
      | with_reducible refine z_seq ?_
      | with_reducible refine z_seqn ?_
      | with_reducible refine z_seqx ?_
      | with_reducible refine z_blk ?_
      | with_reducible refine z_blkn ?_
      | with_reducible refine z_blkh ?_
      | with_reducible refine z_lopn ?_
      | with_reducible refine z_lopx ?_
      | with_reducible refine z_skip ?_
      | with_reducible refine z_exit ?_
      | with_reducible refine z_ret ?_
      | with_reducible refine z_reg ?_
      | with_reducible refine z_nil ?_
      | ((with_reducible apply z_cond_t); (case hc => exact rfl))
      | ((with_reducible apply z_cond_f); (case hc => exact rfl))
      | ((with_reducible apply z_g); (case hg => exact rfl))
      | ((with_reducible apply z_mv); (case h => ((conv => {lhs; whnf}) <;> exact rfl)))
      | ((with_reducible apply z_pick_t); (case hc => exact rfl); (case h => ((conv => {lhs; whnf}) <;> exact rfl)))
      | ((with_reducible apply z_lde); (case h => ((conv => {lhs; whnf}) <;> exact rfl)); (case hd => ((conv => {lhs; whnf}) <;> exact rfl)))
      | ((with_reducible apply z_bin); (case hx => ((conv => {lhs; whnf}) <;> exact rfl)); (case hy => ((conv => {lhs; whnf}) <;> exact rfl)))
      | ((with_reducible apply z_ixa); (case hi => ((conv => {lhs; whnf}) <;> exact rfl)); (case hx => ((conv => {lhs; whnf}) <;> exact rfl)); (case h1 => ((conv => {lhs; whnf}) <;> exact rfl)); (case h2 => exact rfl))
      | ((with_reducible apply z_lenL); (case hx => ((conv => {lhs; whnf}) <;> exact rfl)); (case h => ((conv => {lhs; whnf}) <;> exact rfl)))
      | ((with_reducible apply z_min); (case hx => ((conv => {lhs; whnf}) <;> exact rfl)); (case hy => ((conv => {lhs; whnf}) <;> exact rfl)))
      | ((with_reducible apply z_fin); (case he => exact rfl); (case hr => ((conv => {lhs; whnf}) <;> exact rfl)))
      | with_reducible refine s_lss_t (by omega) ?_
      | with_reducible refine s_eql (fun _ => ?_) (fun _ => ?_)
      | with_reducible refine s_add (by first | omega | (dsimp only; omega) | (simp only [ByteArray.size_append, ByteArray.size_extract, strOfNums_size, List.length_cons, List.length_nil, List.length_map, List.length_append, List.length_take, List.length_drop]; omega)) ?_
      | refine And.intro (by omega) ?_
      | fail)
    · have := hat.1 (u8_eq ‹_›)
      exact ⟨i + 1, (less_of 0 0 0 rfl rfl (lessE_cons (ltd_eq rfl (by kernel_rfl)) (lessE_cons (ltd_eq rfl (by kernel_rfl)) (lessE_cons (ltd_eq rfl (by kernel_rfl)) lessE_nil))) (by kernel_rfl) (by kernel_rfl) (by kernel_rfl) (by kernel_rfl)), by omega, by omega⟩
    · have := hat.2 (fun e => ‹¬ _› (by rw [e]))
      exact int_of (b := i) (by kernel_rfl) (by rw [this])
  · have := common_end hi hb
    repeat' (first
      | with_reducible refine z_seq ?_
      | with_reducible refine z_seqn ?_
      | with_reducible refine z_seqx ?_
      | with_reducible refine z_blkh ?_
      | with_reducible refine z_lopx ?_
      | with_reducible refine z_exit ?_
      | with_reducible refine z_ret ?_
      | with_reducible refine z_reg ?_
      | with_reducible refine z_nil ?_
      | ((with_reducible apply z_cond_f); (case hc => exact rfl))
      | ((with_reducible apply z_gf); (case hg => exact rfl))
      | ((with_reducible apply z_mv); (case h => ((conv => {lhs; whnf}) <;> exact rfl)))
      | ((with_reducible apply z_pick_f); (case hc => exact rfl); (case h => ((conv => {lhs; whnf}) <;> exact rfl)))
      | ((with_reducible apply z_bin); (case hx => ((conv => {lhs; whnf}) <;> exact rfl)); (case hy => ((conv => {lhs; whnf}) <;> exact rfl)))
      | ((with_reducible apply z_lenL); (case hx => ((conv => {lhs; whnf}) <;> exact rfl)); (case h => ((conv => {lhs; whnf}) <;> exact rfl)))
      | ((with_reducible apply z_min); (case hx => ((conv => {lhs; whnf}) <;> exact rfl)); (case hy => ((conv => {lhs; whnf}) <;> exact rfl)))
      | ((with_reducible apply z_fin); (case he => exact rfl); (case hr => ((conv => {lhs; whnf}) <;> exact rfl)))
      | with_reducible refine s_lss_f (by omega) ?_
      | fail)
    exact int_of (b := i) (by kernel_rfl) (by rw [this])
def commonS (a b : ByteArray) : Nat := common a.data.toList b.data.toList
theorem common_D (a b : ByteArray) (ha : a.size ≤ 1000000) (hb : b.size ≤ 1000000) : DPure Tp I 195 [SV a, SV b] (VN .i64 (commonS a b)) := by
  have h1 : a.data.toList.length ≤ 1000000 := by simpa using ha
  have h2 : b.data.toList.length ≤ 1000000 := by simpa using hb
  refine z_pure (e0 := ?e0x2) mix e195 rfl ?z02 ?_
  (case z02 => exact rfl)
  dsimp only [c195]
  repeat' (first
    | ((with_reducible apply z_call); (case' hd => apply (shared_D a.data.toList b.data.toList h1 h2)); (case hw => exact wknL_ok rfl); (try any_goals (first | omega | (dsimp only; omega) | (simp only [ByteArray.size_append, ByteArray.size_extract, strOfNums_size, List.length_cons, List.length_nil, List.length_map, List.length_append, List.length_take, List.length_drop]; omega))))
    | with_reducible refine z_seq ?_
    | with_reducible refine z_seqn ?_
    | with_reducible refine z_ret ?_
    | with_reducible refine z_reg ?_
    | with_reducible refine z_nil ?_
    | ((with_reducible apply z_mv); (case h => ((conv => {lhs; whnf}) <;> exact rfl)))
    | ((with_reducible apply z_s2b); (case hx => ((conv => {lhs; whnf}) <;> exact rfl)))
    | ((with_reducible apply z_fin); (case he => exact rfl); (case hr => ((conv => {lhs; whnf}) <;> exact rfl)))
    | fail)
  exact int_of (b := commonS a b) (by kernel_rfl) rfl
def leastL (a : Int) (l : List Int) : Int := l.foldl min a
theorem least_snoc (a : Int) {l : List Int} {i : Nat} (h : i < l.length) : leastL a (l.take (i + 1)) = min (leastL a (l.take i)) l[i] := by
  rw [List.take_succ_eq_append_getElem h, leastL, List.foldl_append]; rfl
theorem ints_len (l : List Int) : (l.map fun n => VN .i64 n).length = l.length := by simp
theorem least_D (a : Int) (l : List Int) (hl : l.length ≤ 1000000) : DPure Tp I 196 [VN .i64 a, ints l] (VN .i64 (leastL a l)) := by
  have ll := ints_len l
  refine z_pure (e0 := ?e0x3) mix e196 rfl ?z03 ?_
  (case z03 => exact rfl)
  dsimp only [c196]
  repeat' (first
    | with_reducible refine z_seq ?_
    | with_reducible refine z_seqn ?_
    | with_reducible refine z_blk ?_
    | with_reducible refine z_reg ?_
    | with_reducible refine z_nil ?_
    | ((with_reducible apply z_mv); (case h => ((conv => {lhs; whnf}) <;> exact rfl)))
    | ((with_reducible apply z_lenL); (case hx => ((conv => {lhs; whnf}) <;> exact rfl)); (case h => ((conv => {lhs; whnf}) <;> exact rfl)))
    | fail)
  refine z_loop (fun i : Nat => ⟨[(0, VN .i64 (leastL a (l.take i))), (7, ints l), (8, VN .i64 (l.map fun n => VN .i64 n).length), (9, VN .i64 i)], [], []⟩) (fun i : Nat => i ≤ l.length) (fun i : Nat => l.length - i) (0) ?_ ?_ fun i hi => ?_
  · exact (less_of 0 0 0 rfl rfl (lessE_cons (ltd_eq rfl (by kernel_rfl)) (lessE_cons (ltd_eq rfl (by kernel_rfl)) (lessE_cons (ltd_eq rfl (by kernel_rfl)) (lessE_cons (ltd_eq rfl (by kernel_rfl)) lessE_nil)))) (by kernel_rfl) (by kernel_rfl) (by kernel_rfl) (by kernel_rfl))
  · omega
  by_cases hil : i < l.length
  · repeat' (first
      | refine ⟨_, ints_get hil, ?_⟩
      | with_reducible refine z_seq ?_
      | with_reducible refine z_seqn ?_
      | with_reducible refine z_blk ?_
      | with_reducible refine z_blkn ?_
      | with_reducible refine z_lopn ?_
      | with_reducible refine z_skip ?_
      | with_reducible refine z_reg ?_
      | with_reducible refine z_nil ?_
      | ((with_reducible apply z_cond_t); (case hc => exact rfl))
      | ((with_reducible apply z_mv); (case h => ((conv => {lhs; whnf}) <;> exact rfl)))
      | ((with_reducible apply z_lde); (case h => ((conv => {lhs; whnf}) <;> exact rfl)); (case hd => ((conv => {lhs; whnf}) <;> exact rfl)))
      | ((with_reducible apply z_bin); (case hx => ((conv => {lhs; whnf}) <;> exact rfl)); (case hy => ((conv => {lhs; whnf}) <;> exact rfl)))
      | ((with_reducible apply z_ixa); (case hi => ((conv => {lhs; whnf}) <;> exact rfl)); (case hx => ((conv => {lhs; whnf}) <;> exact rfl)); (case h1 => ((conv => {lhs; whnf}) <;> exact rfl)); (case h2 => exact rfl))
      | ((with_reducible apply z_min); (case hx => ((conv => {lhs; whnf}) <;> exact rfl)); (case hy => ((conv => {lhs; whnf}) <;> exact rfl)))
      | with_reducible refine s_lss_t (by omega) ?_
      | with_reducible refine s_add (by first | omega | (dsimp only; omega) | (simp only [ByteArray.size_append, ByteArray.size_extract, strOfNums_size, List.length_cons, List.length_nil, List.length_map, List.length_append, List.length_take, List.length_drop]; omega)) ?_
      | refine And.intro (by omega) ?_
      | fail)
    refine ⟨i + 1, (less_of 0 0 0 rfl rfl (lessE_cons (ltd_eq rfl ?_) (lessE_cons (ltd_eq rfl (by kernel_rfl)) (lessE_cons (ltd_eq rfl (by kernel_rfl)) (lessE_cons (ltd_eq rfl (by kernel_rfl)) lessE_nil)))) (by kernel_rfl) (by kernel_rfl) (by kernel_rfl) (by kernel_rfl)), hil, by omega⟩
    rw [least_snoc a hil]; kernel_rfl
  · repeat' (first
      | with_reducible refine z_seq ?_
      | with_reducible refine z_seqn ?_
      | with_reducible refine z_seqx ?_
      | with_reducible refine z_blkh ?_
      | with_reducible refine z_lopx ?_
      | with_reducible refine z_exit ?_
      | with_reducible refine z_ret ?_
      | with_reducible refine z_reg ?_
      | with_reducible refine z_nil ?_
      | ((with_reducible apply z_cond_f); (case hc => exact rfl))
      | ((with_reducible apply z_mv); (case h => ((conv => {lhs; whnf}) <;> exact rfl)))
      | ((with_reducible apply z_bin); (case hx => ((conv => {lhs; whnf}) <;> exact rfl)); (case hy => ((conv => {lhs; whnf}) <;> exact rfl)))
      | ((with_reducible apply z_fin); (case he => exact rfl); (case hr => ((conv => {lhs; whnf}) <;> exact rfl)))
      | with_reducible refine s_lss_f (by omega) ?_
      | fail)
    exact int_of (b := leastL a (l.take i)) (by kernel_rfl) (by rw [List.take_of_length_le (by omega)])
end Go.Proofs.YtlbodfkhenkcjaaGreatDoor.X


namespace Go.Proofs.YtlbodfkhenkcjaaGreatDoor.X
open Go Go.Proofs Go.RowKit Go.Proofs.YtlbodfkhenkcjaaGreatDoor.D
set_option maxRecDepth 100000
set_option maxHeartbeats 1000000
set_option linter.unusedVariables false
set_option linter.unusedSimpArgs false
variable {I : D.Inv}
attribute [local irreducible] D.DPure D.DEff D.callable putS fourB catB zeroB

def c124 : DFun := ⟨16, [.t 4], .seq (.reg [⟨some 4, .mv (.c (.int .i64 0)), none⟩]) (.seq (.reg [⟨some 5, .mv (.t 0), none⟩, ⟨some 6, .len true (.t 5), none⟩, ⟨some 7, .mv (.t 1), none⟩, ⟨some 8, .call 174 [.t 7, .c (.string ⟨#[]⟩)], none⟩, ⟨some 9, .len true (.t 8), none⟩, ⟨some 10, .bin .add (.t 6) (.t 9), none⟩, ⟨some 11, .mv (.t 1), none⟩, ⟨some 12, .len false (.t 11), none⟩, ⟨some 13, .bin .add (.t 12) (.c (.int .i64 1)), none⟩, ⟨some 14, .bin .mul (.c (.int .i64 2)) (.t 13), none⟩, ⟨some 15, .bin .add (.t 10) (.t 14), none⟩, ⟨some 4, .mv (.t 15), none⟩]) .ret)⟩
theorem e124 : cfun Tryz.prog 124 = some c124 := by kernel_rfl
def c125 : DFun := ⟨10, [.t 2], .seq (.reg [⟨some 2, .mv (.c (.string ⟨#[]⟩)), none⟩]) (.seq (.reg [⟨some 3, .mv (.t 0), none⟩, ⟨some 4, .cvt .u8 (.t 3), none⟩, ⟨some 5, .mv (.t 0), none⟩, ⟨some 6, .bin .shr (.t 5) (.c (.int .u64 8)), none⟩, ⟨some 7, .cvt .u8 (.t 6), none⟩, ⟨some 8, .bsl 1 [.t 4, .t 7], none⟩, ⟨some 9, .b2s (.t 8), none⟩, ⟨some 2, .mv (.t 9), none⟩]) .ret)⟩
theorem e125 : cfun Tryz.prog 125 = some c125 := by kernel_rfl
def c70 : DFun := ⟨56, [.t 6, .t 7], .seq (.reg [⟨some 6, .mv (.c (.string ⟨#[]⟩)), none⟩, ⟨some 7, .mv (.c (.int .i64 0)), none⟩]) (.seq (.seq (.reg [⟨some 12, .mv (.t 0), none⟩, ⟨some 13, .bin .lss (.t 12) (.c (.int .i64 0)), none⟩, ⟨some 14, .mv (.t 13), none⟩, ⟨some 15, .mv (.t 0), some (14, false)⟩, ⟨some 16, .bin .gtr (.t 15) (.c (.int .i64 65535)), some (14, false)⟩, ⟨some 17, .pick (.t 14) (.c (.bool true)) (.t 16), none⟩]) (.cond (.t 17) (.seq (.reg [⟨some 6, .mv (.c (.string ⟨#[]⟩)), none⟩, ⟨some 7, .mv (.c (.int .i64 4)), none⟩]) .ret) .skip)) (.seq (.seq (.reg [⟨some 18, .mv (.t 1), none⟩, ⟨some 19, .mv (.t 2), none⟩, ⟨some 20, .call 124 [.t 18, .t 19], none⟩, ⟨some 21, .mv (.t 0), none⟩, ⟨some 22, .bin .gtr (.t 20) (.t 21), none⟩]) (.cond (.t 22) (.seq (.reg [⟨some 6, .mv (.c (.string ⟨#[]⟩)), none⟩, ⟨some 7, .mv (.c (.int .i64 8)), none⟩]) .ret) .skip)) (.seq (.reg [⟨some 23, .mv (.t 1), none⟩, ⟨some 8, .mv (.t 23), none⟩, ⟨some 9, .mv (.c (.string ⟨#[]⟩)), none⟩]) (.seq (.seq (.reg [⟨some 24, .mv (.t 2), none⟩, ⟨some 25, .len false (.t 24), none⟩, ⟨some 26, .mv (.c (.int .i64 0)), none⟩]) (.block 0 (.loop (.seq (.reg [⟨some 27, .bin .lss (.t 26) (.t 25), none⟩]) (.seq (.cond (.t 27) .skip (.exit 0)) (.seq (.block 1 (.seq (.reg [⟨some 28, .ixa 1 (.t 24) (.t 26), none⟩, ⟨some 29, .ld 1 false (.t 28), none⟩, ⟨some 11, .mv (.t 29), none⟩]) (.seq (.reg [⟨some 30, .mv (.t 8), none⟩, ⟨some 31, .len true (.t 30), none⟩, ⟨some 32, .call 125 [.t 31], none⟩, ⟨some 33, .mv (.t 9), none⟩, ⟨some 34, .bin .add (.t 32) (.t 33), none⟩, ⟨some 9, .mv (.t 34), none⟩]) (.reg [⟨some 35, .mv (.t 8), none⟩, ⟨some 36, .mv (.t 11), none⟩, ⟨some 37, .bin .add (.t 35) (.t 36), none⟩, ⟨some 8, .mv (.t 37), none⟩])))) (.reg [⟨some 38, .bin .add (.t 26) (.c (.int .i64 1)), none⟩, ⟨some 26, .mv (.t 38), none⟩]))))))) (.seq (.reg [⟨some 39, .mv (.t 8), none⟩, ⟨some 40, .len true (.t 39), none⟩, ⟨some 41, .call 125 [.t 40], none⟩, ⟨some 42, .mv (.t 9), none⟩, ⟨some 43, .bin .add (.t 41) (.t 42), none⟩, ⟨some 9, .mv (.t 43), none⟩]) (.seq (.reg [⟨some 44, .mv (.t 8), none⟩, ⟨some 45, .mv (.t 0), none⟩, ⟨some 46, .mv (.t 8), none⟩, ⟨some 47, .len true (.t 46), none⟩, ⟨some 48, .bin .sub (.t 45) (.t 47), none⟩, ⟨some 49, .mv (.t 9), none⟩, ⟨some 50, .len true (.t 49), none⟩, ⟨some 51, .bin .sub (.t 48) (.t 50), none⟩, ⟨some 52, .call 65 [.c (.string ⟨#[0]⟩), .t 51], none⟩, ⟨some 53, .bin .add (.t 44) (.t 52), none⟩, ⟨some 54, .mv (.t 9), none⟩, ⟨some 55, .bin .add (.t 53) (.t 54), none⟩, ⟨some 6, .mv (.t 55), none⟩, ⟨some 7, .mv (.c (.int .i64 0)), none⟩]) .ret))))))⟩
theorem e70 : cfun Tryz.prog 70 = some c70 := by kernel_rfl
def sizeN (fx : ByteArray) (l : List ByteArray) : Int := fx.size + (catB l).size + 2 * (l.length + 1)
theorem ssize_D (fx : ByteArray) (l : List ByteArray) (h : l.length ≤ 1000000) (hs : (catB l).size ≤ 1000000) (hf : fx.size ≤ 1000000) : DPure Tp I 124 [SV fx, .list 1 (strsL l)] (VN .i64 (sizeN fx l)) := by
  have hl : (strsL l).length = l.length := by simp [strsL]
  refine z_pure (e0 := ?e0x1) mix e124 rfl ?z01 ?_
  (case z01 => exact rfl)
  dsimp only [c124]
  repeat' (first
    | ((with_reducible apply z_call); (case' hd => apply (join_D l h hs)); (case hw => exact wknL_ok rfl); (try any_goals (first | omega | (dsimp only; omega) | (simp only [ByteArray.size_append, ByteArray.size_extract, strOfNums_size, List.length_cons, List.length_nil, List.length_map, List.length_append, List.length_take, List.length_drop]; omega))))
    | with_reducible refine z_seq ?_
    | with_reducible refine z_seqn ?_
    | with_reducible refine z_ret ?_
    | with_reducible refine z_reg ?_
    | with_reducible refine z_nil ?_
    | ((with_reducible apply z_mv); (case h => ((conv => {lhs; whnf}) <;> exact rfl)))
    | ((with_reducible apply z_bin); (case hx => ((conv => {lhs; whnf}) <;> exact rfl)); (case hy => ((conv => {lhs; whnf}) <;> exact rfl)))
    | ((with_reducible apply z_lenS); (case hx => ((conv => {lhs; whnf}) <;> exact rfl)))
    | ((with_reducible apply z_lenL); (case hx => ((conv => {lhs; whnf}) <;> exact rfl)); (case h => ((conv => {lhs; whnf}) <;> exact rfl)))
    | ((with_reducible apply z_fin); (case he => exact rfl); (case hr => ((conv => {lhs; whnf}) <;> exact rfl)))
    | with_reducible refine s_add (by first | omega | (dsimp only; omega) | (simp only [ByteArray.size_append, ByteArray.size_extract, strOfNums_size, List.length_cons, List.length_nil, List.length_map, List.length_append, List.length_take, List.length_drop]; omega)) ?_
    | with_reducible refine s_mul (by first | omega | (dsimp only; omega) | (simp only [ByteArray.size_append, ByteArray.size_extract, strOfNums_size, List.length_cons, List.length_nil, List.length_map, List.length_append, List.length_take, List.length_drop]; omega)) ?_
    | fail)
  refine int_of (b := (fx.size : Int) + (catB l).size + 2 * ((strsL l).length + 1)) (by kernel_rfl) ?_
  rw [hl]; rfl
def placeS (n : Int) : ByteArray := strOfNums [n % 256, n / 2 ^ 8 % 256]
theorem placeS_size (n : Int) : (placeS n).size = 2 := rfl
theorem place_D (n : Int) : DPure Tp I 125 [VN .i64 n] (SV (placeS n)) := by
  refine z_pure (e0 := ?e0x2) mix e125 rfl ?z02 ?_
  (case z02 => exact rfl)
  dsimp only [c125]
  repeat' (first
    | with_reducible refine c_u8_mod ?_
    | with_reducible refine s_shr 8 rfl (by decide) ?_
    | with_reducible refine z_seq ?_
    | with_reducible refine z_seqn ?_
    | with_reducible refine z_ret ?_
    | with_reducible refine z_reg ?_
    | with_reducible refine z_nil ?_
    | ((with_reducible apply z_mv); (case h => ((conv => {lhs; whnf}) <;> exact rfl)))
    | ((with_reducible apply z_bin); (case hx => ((conv => {lhs; whnf}) <;> exact rfl)); (case hy => ((conv => {lhs; whnf}) <;> exact rfl)))
    | ((with_reducible apply z_cvt); (case hx => ((conv => {lhs; whnf}) <;> exact rfl)))
    | ((with_reducible apply z_b2s); (case hx => ((conv => {lhs; whnf}) <;> exact rfl)); (case h1 => ((conv => {lhs; whnf}) <;> exact rfl)); (case h2 => exact rfl); (case h3 => exact rfl))
    | ((with_reducible apply z_bsl); (case h1 => ((conv => {lhs; whnf}) <;> exact rfl)); (case h2 => exact rfl))
    | ((with_reducible apply z_fin); (case he => exact rfl); (case hr => ((conv => {lhs; whnf}) <;> exact rfl)))
    | fail)
  exact str_of (s := placeS n) (by kernel_rfl) rfl
theorem strs_get {l : List ByteArray} {i : Nat} (h : i < l.length) : (strsL l)[(i : Int).toNat]? = some (SV (l[i]'h)) := by simp [strsL, h]
theorem strs_len (l : List ByteArray) : (strsL l).length = l.length := by simp [strsL]
def pkF (q : ByteArray × ByteArray) (c : ByteArray) : ByteArray × ByteArray := (q.1 ++ c, placeS q.1.size ++ q.2)
def pkT (fx : ByteArray) (l : List ByteArray) : ByteArray × ByteArray := l.foldl pkF (fx, nilS)
theorem pkT_snoc (fx : ByteArray) {l : List ByteArray} {i : Nat} (h : i < l.length) : pkT fx (l.take (i + 1)) = pkF (pkT fx (l.take i)) l[i] := by
  rw [List.take_succ_eq_append_getElem h, pkT, List.foldl_append]; rfl
theorem cat_cons (c : ByteArray) (l : List ByteArray) : (catB (c :: l)).size = c.size + (catB l).size := by
  unfold catB
  show (Lib.join _ _).length = _ + (Lib.join _ _).length
  cases l with
  | nil => simp [Lib.join]
  | cons d l => simp [Lib.join]
theorem pkF_size : ∀ (l : List ByteArray) (q : ByteArray × ByteArray), (l.foldl pkF q).1.size = q.1.size + (catB l).size ∧ (l.foldl pkF q).2.size = q.2.size + 2 * l.length
  | [], q => by simp [catB, Lib.join]; rfl
  | c :: l, q => by
    have := pkF_size l (pkF q c)
    rw [List.foldl_cons, cat_cons, this.1, this.2]
    simp only [pkF, ByteArray.size_append, placeS_size, List.length_cons]
    omega
theorem pkT_size (fx : ByteArray) (l : List ByteArray) : (pkT fx l).1.size = fx.size + (catB l).size ∧ (pkT fx l).2.size = 2 * l.length := by
  have := pkF_size l (fx, nilS)
  have h0 : nilS.size = 0 := rfl
  rw [h0] at this
  exact ⟨this.1, by rw [show (pkT fx l).2.size = _ from this.2]; omega⟩
theorem cat_take (l : List ByteArray) (i : Nat) : (catB (l.take i)).size ≤ (catB l).size := by
  induction l generalizing i with
  | nil => simp
  | cons c l ih =>
    cases i with
    | zero =>
      rw [List.take_zero]
      have : (catB []).size = 0 := by simp [catB, Lib.join]; rfl
      omega
    | succ i => rw [List.take_succ_cons, cat_cons, cat_cons]; have := ih i; omega
def packB (room : Int) (fx : ByteArray) (l : List ByteArray) : ByteArray :=
  (pkT fx l).1 ++ zeroB (room - (pkT fx l).1.size - ((placeS (pkT fx l).1.size ++ (pkT fx l).2).size : Nat)).toNat ++ (placeS (pkT fx l).1.size ++ (pkT fx l).2)
def packE (room : Int) (fx : ByteArray) (l : List ByteArray) : Int := if room < 0 ∨ 65535 < room then 4 else if room < sizeN fx l then 8 else 0
def packS (room : Int) (fx : ByteArray) (l : List ByteArray) : ByteArray := if packE room fx l = 0 then packB room fx l else nilS
theorem packS_no {room : Int} {fx : ByteArray} {l : List ByteArray} {e : Int} (h : packE room fx l = e) (he : e ≠ 0) : packS room fx l = nilS := if_neg (by rw [h]; exact he)
theorem pack_D (room : Int) (fx : ByteArray) (l : List ByteArray) (h : l.length ≤ 1000000) (hs : (catB l).size ≤ 1000000) (hf : fx.size ≤ 1000000) (hr : -1000000 ≤ room ∧ room ≤ 1000000) :
    DPure Tp I 70 [VN .i64 room, SV fx, .list 1 (strsL l)] (.v (.tuple #[.string (packS room fx l), .int .i64 (packE room fx l)])) := by
  have hl := strs_len l
  refine z_pure (e0 := ?e0x3) mix e70 rfl ?z03 ?_
  (case z03 => exact rfl)
  dsimp only [c70]
  repeat' (first
    | ((with_reducible apply z_call); (case' hd => apply (ssize_D fx l h hs hf)); (case hw => exact wknL_ok rfl); (try any_goals (first | omega | (dsimp only; omega) | (simp only [ByteArray.size_append, ByteArray.size_extract, strOfNums_size, List.length_cons, List.length_nil, List.length_map, List.length_append, List.length_take, List.length_drop]; omega))))
    | with_reducible refine z_seq ?_
    | with_reducible refine z_seqn ?_
    | with_reducible refine z_seqr ?_
    | with_reducible refine z_blk ?_
    | with_reducible refine z_skip ?_
    | with_reducible refine z_ret ?_
    | with_reducible refine z_reg ?_
    | with_reducible refine z_nil ?_
    | ((with_reducible apply z_cond_t); (case hc => exact rfl))
    | ((with_reducible apply z_cond_f); (case hc => exact rfl))
    | ((with_reducible apply z_gt); (case hg => exact rfl))
    | ((with_reducible apply z_g); (case hg => exact rfl))
    | ((with_reducible apply z_mv); (case h => ((conv => {lhs; whnf}) <;> exact rfl)))
    | ((with_reducible apply z_pick_t); (case hc => exact rfl); (case h => ((conv => {lhs; whnf}) <;> exact rfl)))
    | ((with_reducible apply z_pick_f); (case hc => exact rfl); (case h => ((conv => {lhs; whnf}) <;> exact rfl)))
    | ((with_reducible apply z_bin); (case hx => ((conv => {lhs; whnf}) <;> exact rfl)); (case hy => ((conv => {lhs; whnf}) <;> exact rfl)))
    | ((with_reducible apply z_lenL); (case hx => ((conv => {lhs; whnf}) <;> exact rfl)); (case h => ((conv => {lhs; whnf}) <;> exact rfl)))
    | ((with_reducible apply z_fin); (case he => exact rfl); (case hr => ((conv => {lhs; whnf}) <;> exact rfl)))
    | with_reducible refine s_lss (fun _ => ?_) (fun _ => ?_)
    | with_reducible refine s_gtr (fun _ => ?_) (fun _ => ?_)
    | fail)
  · have e : packE room fx l = 4 := if_pos (by omega)
    exact tup2_of (a := .string nilS) (b := .int .i64 4) (by kernel_rfl) (by rw [packS_no e (by decide)]) (by rw [e])
  · have e : packE room fx l = 4 := if_pos (by omega)
    exact tup2_of (a := .string nilS) (b := .int .i64 4) (by kernel_rfl) (by rw [packS_no e (by decide)]) (by rw [e])
  · have e : packE room fx l = 8 := by rw [packE, if_neg (by omega), if_pos (by omega)]
    exact tup2_of (a := .string nilS) (b := .int .i64 8) (by kernel_rfl) (by rw [packS_no e (by decide)]) (by rw [e])
  have he : packE room fx l = 0 := by rw [packE, if_neg (by omega), if_neg (by omega)]
  have hsz : sizeN fx l = fx.size + (catB l).size + 2 * (l.length + 1) := rfl
  refine z_loop (fun i : Nat => ⟨[(0, VN .i64 room), (8, SV (pkT fx (l.take i)).1), (9, SV (pkT fx (l.take i)).2), (24, .list 1 (strsL l)), (25, VN .i64 (strsL l).length), (26, VN .i64 i)], [], []⟩) (fun i : Nat => i ≤ l.length) (fun i : Nat => l.length - i) (0) ?_ ?_ fun i hi => ?_
  · exact (less_of 0 0 0 rfl rfl (lessE_cons (ltd_eq rfl (by kernel_rfl)) (lessE_cons (ltd_eq rfl (by kernel_rfl)) (lessE_cons (ltd_eq rfl (by kernel_rfl)) (lessE_cons (ltd_eq rfl (by kernel_rfl)) (lessE_cons (ltd_eq rfl (by kernel_rfl)) (lessE_cons (ltd_eq rfl (by kernel_rfl)) lessE_nil)))))) (by kernel_rfl) (by kernel_rfl) (by kernel_rfl) (by kernel_rfl))
  · omega
  have hz := pkT_size fx (l.take i)
  have hct := cat_take l i
  have hlt : (l.take i).length ≤ l.length := by rw [List.length_take]; omega
  by_cases hil : i < l.length
  · have hzz := pkT_size fx (l.take (i + 1))
    have hct2 := cat_take l (i + 1)
    have hsn := pkT_snoc fx hil
    have hci : (pkT fx (l.take i)).1.size + (l[i]'hil).size ≤ 2000000 := by
      rw [hsn] at hzz
      have := hzz.1
      simp only [pkF, ByteArray.size_append] at this
      omega
    repeat' (first
      | refine ⟨_, strs_get hil, ?_⟩
      | ((with_reducible apply z_call); (case' hd => apply place_D); (case hw => exact wknL_ok rfl); (try any_goals (first | omega | (dsimp only; omega) | (simp only [ByteArray.size_append, ByteArray.size_extract, strOfNums_size, List.length_cons, List.length_nil, List.length_map, List.length_append, List.length_take, List.length_drop]; omega))))
      | with_reducible refine s_cat (by rw [placeS_size]; omega) ?_
      | with_reducible refine z_seq ?_
      | with_reducible refine z_seqn ?_
      | with_reducible refine z_blk ?_
      | with_reducible refine z_blkn ?_
      | with_reducible refine z_lopn ?_
      | with_reducible refine z_skip ?_
      | with_reducible refine z_reg ?_
      | with_reducible refine z_nil ?_
      | ((with_reducible apply z_cond_t); (case hc => exact rfl))
      | ((with_reducible apply z_mv); (case h => ((conv => {lhs; whnf}) <;> exact rfl)))
      | ((with_reducible apply z_lde); (case h => ((conv => {lhs; whnf}) <;> exact rfl)); (case hd => ((conv => {lhs; whnf}) <;> exact rfl)))
      | ((with_reducible apply z_bin); (case hx => ((conv => {lhs; whnf}) <;> exact rfl)); (case hy => ((conv => {lhs; whnf}) <;> exact rfl)))
      | ((with_reducible apply z_ixa); (case hi => ((conv => {lhs; whnf}) <;> exact rfl)); (case hx => ((conv => {lhs; whnf}) <;> exact rfl)); (case h1 => ((conv => {lhs; whnf}) <;> exact rfl)); (case h2 => exact rfl))
      | ((with_reducible apply z_lenS); (case hx => ((conv => {lhs; whnf}) <;> exact rfl)))
      | with_reducible refine s_lss_t (by omega) ?_
      | with_reducible refine s_add (by first | omega | (dsimp only; omega) | (simp only [ByteArray.size_append, ByteArray.size_extract, strOfNums_size, List.length_cons, List.length_nil, List.length_map, List.length_append, List.length_take, List.length_drop]; omega)) ?_
      | with_reducible refine s_cat (by first | omega | (dsimp only; omega) | (simp only [ByteArray.size_append, ByteArray.size_extract, strOfNums_size, List.length_cons, List.length_nil, List.length_map]; omega)) ?_
      | refine And.intro (by omega) ?_
      | fail)
    refine ⟨i + 1, (less_of 0 0 0 rfl rfl (lessE_cons (ltd_eq rfl (by kernel_rfl)) (lessE_cons (ltd_eq rfl ?_) (lessE_cons (ltd_eq rfl ?_) (lessE_cons (ltd_eq rfl (by kernel_rfl)) (lessE_cons (ltd_eq rfl (by kernel_rfl)) (lessE_cons (ltd_eq rfl (by kernel_rfl)) lessE_nil)))))) (by kernel_rfl) (by kernel_rfl) (by kernel_rfl) (by kernel_rfl)), hil, by omega⟩
    · rw [hsn]; kernel_rfl
    · rw [hsn]; kernel_rfl
  · have hi' : i = l.length := by omega
    have htk : l.take i = l := List.take_of_length_le (by omega)
    have hp := placeS_size (pkT fx (l.take i)).1.size
    have hzb : (zeroB (room - (pkT fx (l.take i)).1.size - ((placeS (pkT fx (l.take i)).1.size ++ (pkT fx (l.take i)).2).size : Nat)).toNat).size ≤ 1000000 := by rw [zeroB_size]; omega
    rw [htk] at hz hlt hct hp hzb ⊢
    have hpp : (placeS ((pkT fx l).1.size : Int) ++ (pkT fx l).2).size = 2 * l.length + 2 := by rw [ByteArray.size_append, placeS_size, hz.2]; omega
    rw [zeroB_size] at hzb
    repeat' (first
      | ((with_reducible apply z_call); (case' hd => apply place_D); (case hw => exact wknL_ok rfl); (try any_goals (first | omega | (dsimp only; omega) | (simp only [ByteArray.size_append, ByteArray.size_extract, strOfNums_size, List.length_cons, List.length_nil, List.length_map, List.length_append, List.length_take, List.length_drop]; omega))))
      | ((with_reducible apply z_call); (case' hd => apply repeat_D); (case hw => exact wknL_ok rfl); (try any_goals (first | omega | (dsimp only; omega) | (simp only [ByteArray.size_append, ByteArray.size_extract, strOfNums_size, List.length_cons, List.length_nil, List.length_map, List.length_append, List.length_take, List.length_drop]; omega))))
      | with_reducible refine s_cat (by simp only [placeS_size, ByteArray.size_append, zeroB_size]; omega) ?_
      | with_reducible refine z_seq ?_
      | with_reducible refine z_seqn ?_
      | with_reducible refine z_seqx ?_
      | with_reducible refine z_blkh ?_
      | with_reducible refine z_lopx ?_
      | with_reducible refine z_exit ?_
      | with_reducible refine z_ret ?_
      | with_reducible refine z_reg ?_
      | with_reducible refine z_nil ?_
      | ((with_reducible apply z_cond_f); (case hc => exact rfl))
      | ((with_reducible apply z_mv); (case h => ((conv => {lhs; whnf}) <;> exact rfl)))
      | ((with_reducible apply z_bin); (case hx => ((conv => {lhs; whnf}) <;> exact rfl)); (case hy => ((conv => {lhs; whnf}) <;> exact rfl)))
      | ((with_reducible apply z_lenS); (case hx => ((conv => {lhs; whnf}) <;> exact rfl)))
      | ((with_reducible apply z_fin); (case he => exact rfl); (case hr => ((conv => {lhs; whnf}) <;> exact rfl)))
      | with_reducible refine s_lss_f (by omega) ?_
      | with_reducible refine s_sub (by first | omega | (dsimp only; omega) | (simp only [ByteArray.size_append, ByteArray.size_extract, strOfNums_size, List.length_cons, List.length_nil, List.length_map, List.length_append, List.length_take, List.length_drop]; omega)) ?_
      | fail)
    exact tup2_of (a := .string (packB room fx l)) (b := .int .i64 0) (by kernel_rfl) (by rw [packS, if_pos he]) (by rw [he])
end Go.Proofs.YtlbodfkhenkcjaaGreatDoor.X


namespace Go.Proofs.YtlbodfkhenkcjaaGreatDoor.D
open Go Go.RowKit

section
variable {P : Program} {I : Inv} {env : List (Nat × DV)} {loc : List (List DV)} {ow : List Nat} {os : List Op1} {K : St → Prop} {n sz : Nat} {r d : DV} {x y i lo hi : Opd} {l : List DV} {k k' : IntKind} {u w : Int}
theorem z_slL_lo (hx : ev env x = d) (h1 : elems d = some l) (h2 : fitsSz sz d = true) (hl : ev env lo = .v (.int k u)) (h : 0 ≤ u ∧ u.toNat ≤ l.length ∧ dops P I os ⟨(n, .list sz (l.drop u.toNat)) :: env, loc, ow⟩ K) : dops P I (⟨some n, .slL sz x (some lo) none none, none⟩ :: os) ⟨env, loc, ow⟩ K :=
  z_slL hx h1 h2 (by simp only [optNat, hl, asNat]; refine ⟨h.1, h.2.1, Nat.le_refl _, Nat.le_refl _, ?_⟩; rw [List.take_length]; exact h.2.2)
theorem z_slL_all {mx : Opd} (hx : ev env x = d) (h1 : elems d = some l) (h2 : fitsSz sz d = true) (hl : ev env lo = .v (.int k w)) (hh : ev env hi = .v (.int k' u)) (hm : ev env mx = .v (.int k' u)) (h : 0 ≤ w ∧ w ≤ u ∧ u.toNat ≤ l.length ∧ dops P I os ⟨(n, .list sz ((l.take u.toNat).drop w.toNat)) :: env, loc, ow⟩ K) : dops P I (⟨some n, .slL sz x (some lo) (some hi) (some mx), none⟩ :: os) ⟨env, loc, ow⟩ K :=
  z_slL hx h1 h2 (by simp only [optNat, hl, hh, hm, asNat]; exact ⟨by omega, by omega, h.1, by omega, Nat.le_refl _, h.2.2.1, h.2.2.2⟩)
theorem z_beq {ng a b c : Bool} (hx : ev env x = .v (.bool a)) (hy : ev env y = .v (.bool b)) (hr : (if ng = true then !(a == b) else a == b) = c) (hk : dops P I os ⟨(n, .v (.bool c)) :: env, loc, ow⟩ K) : dops P I (⟨some n, .beq ng x y, none⟩ :: os) ⟨env, loc, ow⟩ K :=
  z_neu rfl (by subst hr; simp only [ap, hx, hy]; exact hk)
theorem tid_ne {t t' : TypeId} (h : Nat.beq t' t = false) : ¬ t' = t := fun e => by subst e; simp at h
theorem z_ta_iy {t : TypeId} {z : Value} (hx : ev env x = .ifc t d) (hk : dops P I os ⟨(n, .tup [d, .v (.bool true)]) :: env, loc, ow⟩ K) : dops P I (⟨some n, .ta t true z x, none⟩ :: os) ⟨env, loc, ow⟩ K := z_neu rfl (by simp only [ap, hx, if_true]; exact hk)
theorem z_ta_in {t t' : TypeId} {z : Value} (hx : ev env x = .ifc t' d) (ht : Nat.beq t' t = false) (hk : dops P I os ⟨(n, .v (.tuple #[z, .bool false])) :: env, loc, ow⟩ K) : dops P I (⟨some n, .ta t true z x, none⟩ :: os) ⟨env, loc, ow⟩ K := z_neu rfl (by simp only [ap, hx, if_neg (tid_ne ht)]; exact ⟨trivial, hk⟩)
theorem z_ta_vy {t : TypeId} {z v : Value} (hx : ev env x = .v (.iface t v)) (hk : dops P I os ⟨(n, .v (.tuple #[v, .bool true])) :: env, loc, ow⟩ K) : dops P I (⟨some n, .ta t true z x, none⟩ :: os) ⟨env, loc, ow⟩ K := z_neu rfl (by simp only [ap, hx, if_true]; exact hk)
theorem z_ta_vn {t t' : TypeId} {z v : Value} (hx : ev env x = .v (.iface t' v)) (ht : Nat.beq t' t = false) (hk : dops P I os ⟨(n, .v (.tuple #[z, .bool false])) :: env, loc, ow⟩ K) : dops P I (⟨some n, .ta t true z x, none⟩ :: os) ⟨env, loc, ow⟩ K := z_neu rfl (by simp only [ap, hx, if_neg (tid_ne ht)]; exact ⟨trivial, hk⟩)
variable {V : Value → Prop}
theorem s_quo {a b : Int} (ha : 0 ≤ a ∧ a ≤ 9223372036854775807) (hb : 0 < b) (hk : V (.int .i64 (a / b))) : ∃ r, dbin .quo (.int .i64 a) (.int .i64 b) = some r ∧ V r := by
  refine ⟨_, ?_, hk⟩
  show (if b = 0 then none else some (Value.int .i64 (IntKind.i64.wrap (a.tdiv b)))) = _
  have h0 := Int.ediv_nonneg ha.1 (Int.le_of_lt hb)
  have h1 := Int.ediv_le_self b ha.1
  rw [if_neg (by omega), Int.tdiv_eq_ediv_of_nonneg ha.1, w_i64 (by omega)]
theorem s_shli {k' : IntKind} {a y : Int} (m : Nat) (h : y = m) (hm : m ≤ 64) (hb : -9223372036854775808 ≤ a * 2 ^ m ∧ a * 2 ^ m ≤ 9223372036854775807) (hk : V (.int .i64 (a * 2 ^ m))) : ∃ r, dbin .shl (.int .i64 a) (.int k' y) = some r ∧ V r := by
  refine ⟨_, ?_, hk⟩
  subst h
  show dshift .shl .i64 a (m : Int) = _
  unfold dshift
  rw [if_neg (by omega)]
  simp only [Int.toNat_natCast, show min m IntKind.i64.bits = m from Nat.min_eq_left hm]
  rw [w_i64 hb]
theorem z_eqsb {b : Bool} {ks : List Nat} {xs ys : Array Value} (hx : ev env x = .v (.agg xs)) (hy : ev env y = .v (.agg ys)) (h : cellsEq ks xs.toList ys.toList = some b) (h1 : b = true → dops P I os ⟨(n, .v (.bool true)) :: env, loc, ow⟩ K) (h2 : b = false → dops P I os ⟨(n, .v (.bool false)) :: env, loc, ow⟩ K) : dops P I (⟨some n, .eqs false ks x y, none⟩ :: os) ⟨env, loc, ow⟩ K :=
  z_neu rfl (by
    simp only [ap, hx, hy]
    cases b
    · exact ⟨false, h, h2 rfl⟩
    · exact ⟨true, h, h1 rfl⟩)
theorem z_unr {m0 k0 : Nat} {a : DCode} {σ : St} {Q : DExit → St → Prop} (σ' : St) (h0 : Less m0 k0 σ' σ) (hb : dwp P I m0 k0 a σ' (lopQ (fun τ => dwp P I m0 k0 (.loop a) τ Q) Q)) : dwp P I m0 k0 (.loop a) σ Q :=
  ⟨fun X hX => hX σ ⟨σ', h0, dwp_mono (d := a) hb fun e τ h => by
    cases e with
    | normal => exact DLoop.out h X hX
    | exit j => exact h
    | ret => exact h⟩⟩
def pickE (env : List (Nat × DV)) : List Nat → List (Nat × DV)
  | [] => []
  | t :: r => (t, look env t) :: pickE env r
theorem lessE_pick {m k : Nat} {env : List (Nat × DV)} : ∀ {ts : List Nat}, ts.all (fun t => okD m k (look env t)) = true → lessE m k 0 env (pickE env ts)
  | [], _ => trivial
  | t :: r, h => by
    simp only [List.all_cons, Bool.and_eq_true] at h
    exact ⟨.same h.1, lessE_pick h.2⟩
theorem z_unrA {m0 k0 : Nat} {a : DCode} {Q : DExit → St → Prop} (ts : List Nat) (h1 : Nat.ble m0 loc.length = true) (h2 : Nat.ble k0 ow.length = true) (h3 : okLL loc.length ow.length loc = true) (h4 : ts.all (fun t => okD loc.length ow.length (look env t)) = true)
    (hb : dwp P I m0 k0 a ⟨pickE env ts, loc, ow⟩ (lopQ (fun τ => dwp P I m0 k0 (.loop a) τ Q) Q)) : dwp P I m0 k0 (.loop a) ⟨env, loc, ow⟩ Q :=
  z_unr ⟨pickE env ts, loc, ow⟩ (.mk loc.length ow.length 0 h1 h2 (lessE_pick h4) (by simp) h3 (by simp) (Nat.ble_self_eq_true _)) hb
theorem tup2w {d x1 x2 y1 y2 : DV} (h : d = .tup [x1, x2]) (h1 : Wk x1 y1) (h2 : Wk x2 y2) : Wk d (.tup [y1, y2]) := by
  subst h; exact .tupL (.cons h1 (.cons h2 .nil))
theorem tup3w {d x1 x2 x3 y1 y2 y3 : DV} (h : d = .tup [x1, x2, x3]) (h1 : Wk x1 y1) (h2 : Wk x2 y2) (h3 : Wk x3 y3) : Wk d (.tup [y1, y2, y3]) := by
  subst h; exact .tupL (.cons h1 (.cons h2 (.cons h3 .nil)))
theorem wk_eq {d e r : DV} (h : d = e) (w : Wk e r) : Wk d r := by subst h; exact w
theorem wk_own {d : DV} {id e sz : Nat} {l l' : List DV} (h : d = .own id e sz l) (he : l = l') : Wk d (.list sz l') := by subst h; subst he; exact .own _ _ _ _
theorem wk_list {d : DV} {sz : Nat} {l l' : List DV} (h : d = .list sz l) (he : l = l') : Wk d (.list sz l') := by subst h; subst he; exact .list _ _
end
end Go.Proofs.YtlbodfkhenkcjaaGreatDoor.D

