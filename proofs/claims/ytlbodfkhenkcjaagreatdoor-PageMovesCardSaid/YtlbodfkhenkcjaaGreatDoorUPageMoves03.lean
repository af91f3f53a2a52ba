/- What functions of the given program compute, step by step: the walks that the law PageMoves leans on, part 3. No conditions. -/
import Derived.Test.YtlbodfkhenkcjaaGreatDoorUPageMoves02
import Derived.Test.YtlbodfkhenkcjaaGreatDoorProg
import Derived.Test.YtlbodfkhenkcjaaGreatDoorVPageMovesShelf
import Derived.Outline
namespace Go.Proofs.YtlbodfkhenkcjaaGreatDoor.D
open Go Go.RowKit

theorem w_i64 {n : Int} (h : -9223372036854775808 ≤ n ∧ n ≤ 9223372036854775807) : IntKind.i64.wrap n = n := IntWalk.i64_in n h
theorem w_u64 {n : Int} (h : 0 ≤ n ∧ n ≤ 18446744073709551615) : IntKind.u64.wrap n = n := IntWalk.u64_in n h
theorem w_u32 {n : Int} (h : 0 ≤ n ∧ n ≤ 4294967295) : IntKind.u32.wrap n = n := IntWalk.u32_in n h
theorem w_u8 {n : Int} (h : 0 ≤ n ∧ n ≤ 255) : IntKind.u8.wrap n = n := IntWalk.u8_in n h
theorem byteAt_lo (s : ByteArray) (n : Nat) : 0 ≤ byteAt s n := Int.natCast_nonneg _
theorem byteAt_hi (s : ByteArray) (n : Nat) : byteAt s n ≤ 255 := by
  unfold byteAt
  have := ((s.data.toList[n]?).getD 0).toNat_lt
  omega

section
variable {K : Value → Prop}
theorem s_add {a b : Int} (h : -9223372036854775808 ≤ a + b ∧ a + b ≤ 9223372036854775807) (hk : K (.int .i64 (a + b))) : ∃ r, dbin .add (.int .i64 a) (.int .i64 b) = some r ∧ K r := ⟨_, congrArg (fun n => some (Value.int .i64 n)) (w_i64 h), hk⟩
theorem s_sub {a b : Int} (h : -9223372036854775808 ≤ a - b ∧ a - b ≤ 9223372036854775807) (hk : K (.int .i64 (a - b))) : ∃ r, dbin .sub (.int .i64 a) (.int .i64 b) = some r ∧ K r := ⟨_, congrArg (fun n => some (Value.int .i64 n)) (w_i64 h), hk⟩
theorem s_mul {a b : Int} (h : -9223372036854775808 ≤ a * b ∧ a * b ≤ 9223372036854775807) (hk : K (.int .i64 (a * b))) : ∃ r, dbin .mul (.int .i64 a) (.int .i64 b) = some r ∧ K r := ⟨_, congrArg (fun n => some (Value.int .i64 n)) (w_i64 h), hk⟩
theorem s_addu {a b : Int} (h : 0 ≤ a + b ∧ a + b ≤ 18446744073709551615) (hk : K (.int .u64 (a + b))) : ∃ r, dbin .add (.int .u64 a) (.int .u64 b) = some r ∧ K r := ⟨_, congrArg (fun n => some (Value.int .u64 n)) (w_u64 h), hk⟩
theorem s_subu {a b : Int} (h : 0 ≤ a - b ∧ a - b ≤ 18446744073709551615) (hk : K (.int .u64 (a - b))) : ∃ r, dbin .sub (.int .u64 a) (.int .u64 b) = some r ∧ K r := ⟨_, congrArg (fun n => some (Value.int .u64 n)) (w_u64 h), hk⟩
theorem s_cat {a b : ByteArray} (h : a.size + b.size ≤ 9223372036854775807) (hk : K (.string (a ++ b))) : ∃ r, dbin .add (.string a) (.string b) = some r ∧ K r := ⟨_, if_pos h, hk⟩

variable {k : IntKind} {a b : Int}
theorem kk {α : Type} (x y : α) : (if k = k then x else y) = x := if_pos rfl
theorem s_lss_t (h : a < b) (hk : K (.bool true)) : ∃ r, dbin .lss (.int k a) (.int k b) = some r ∧ K r := ⟨_, by show (if k = k then _ else _) = _; rw [kk]; simp only [dint, decide_eq_true h], hk⟩
theorem s_lss_f (h : ¬ a < b) (hk : K (.bool false)) : ∃ r, dbin .lss (.int k a) (.int k b) = some r ∧ K r := ⟨_, by show (if k = k then _ else _) = _; rw [kk]; simp only [dint, decide_eq_false h], hk⟩
theorem s_lss (h1 : a < b → K (.bool true)) (h2 : ¬ a < b → K (.bool false)) : ∃ r, dbin .lss (.int k a) (.int k b) = some r ∧ K r := (Decidable.em (a < b)).elim (fun h => s_lss_t h (h1 h)) (fun h => s_lss_f h (h2 h))
theorem s_leq_t (h : a ≤ b) (hk : K (.bool true)) : ∃ r, dbin .leq (.int k a) (.int k b) = some r ∧ K r := ⟨_, by show (if k = k then _ else _) = _; rw [kk]; simp only [dint, decide_eq_true h], hk⟩
theorem s_leq_f (h : ¬ a ≤ b) (hk : K (.bool false)) : ∃ r, dbin .leq (.int k a) (.int k b) = some r ∧ K r := ⟨_, by show (if k = k then _ else _) = _; rw [kk]; simp only [dint, decide_eq_false h], hk⟩
theorem s_leq (h1 : a ≤ b → K (.bool true)) (h2 : ¬ a ≤ b → K (.bool false)) : ∃ r, dbin .leq (.int k a) (.int k b) = some r ∧ K r := (Decidable.em (a ≤ b)).elim (fun h => s_leq_t h (h1 h)) (fun h => s_leq_f h (h2 h))
theorem s_gtr_t (h : b < a) (hk : K (.bool true)) : ∃ r, dbin .gtr (.int k a) (.int k b) = some r ∧ K r := ⟨_, by show (if k = k then _ else _) = _; rw [kk]; simp only [dint, decide_eq_true h], hk⟩
theorem s_gtr_f (h : ¬ b < a) (hk : K (.bool false)) : ∃ r, dbin .gtr (.int k a) (.int k b) = some r ∧ K r := ⟨_, by show (if k = k then _ else _) = _; rw [kk]; simp only [dint, decide_eq_false h], hk⟩
theorem s_gtr (h1 : b < a → K (.bool true)) (h2 : ¬ b < a → K (.bool false)) : ∃ r, dbin .gtr (.int k a) (.int k b) = some r ∧ K r := (Decidable.em (b < a)).elim (fun h => s_gtr_t h (h1 h)) (fun h => s_gtr_f h (h2 h))
theorem s_geq_t (h : b ≤ a) (hk : K (.bool true)) : ∃ r, dbin .geq (.int k a) (.int k b) = some r ∧ K r := ⟨_, by show (if k = k then _ else _) = _; rw [kk]; simp only [dint, decide_eq_true h], hk⟩
theorem s_geq_f (h : ¬ b ≤ a) (hk : K (.bool false)) : ∃ r, dbin .geq (.int k a) (.int k b) = some r ∧ K r := ⟨_, by show (if k = k then _ else _) = _; rw [kk]; simp only [dint, decide_eq_false h], hk⟩
theorem s_geq (h1 : b ≤ a → K (.bool true)) (h2 : ¬ b ≤ a → K (.bool false)) : ∃ r, dbin .geq (.int k a) (.int k b) = some r ∧ K r := (Decidable.em (b ≤ a)).elim (fun h => s_geq_t h (h1 h)) (fun h => s_geq_f h (h2 h))
theorem beq_t (h : a = b) : (a == b) = true := by subst h; simp
theorem beq_f (h : ¬ a = b) : (a == b) = false := by simpa using h
theorem s_eql_t (h : a = b) (hk : K (.bool true)) : ∃ r, dbin .eql (.int k a) (.int k b) = some r ∧ K r := ⟨_, by show (if k = k then _ else _) = _; rw [kk]; simp only [dint, beq_t h], hk⟩
theorem s_eql_f (h : ¬ a = b) (hk : K (.bool false)) : ∃ r, dbin .eql (.int k a) (.int k b) = some r ∧ K r := ⟨_, by show (if k = k then _ else _) = _; rw [kk]; simp only [dint, beq_f h], hk⟩
theorem s_eql (h1 : a = b → K (.bool true)) (h2 : ¬ a = b → K (.bool false)) : ∃ r, dbin .eql (.int k a) (.int k b) = some r ∧ K r := (Decidable.em (a = b)).elim (fun h => s_eql_t h (h1 h)) (fun h => s_eql_f h (h2 h))
theorem s_neq_f (h : a = b) (hk : K (.bool false)) : ∃ r, dbin .neq (.int k a) (.int k b) = some r ∧ K r := ⟨_, by show (if k = k then _ else _) = _; rw [kk]; simp only [dint, bne, beq_t h]; rfl, hk⟩
theorem s_neq_t (h : ¬ a = b) (hk : K (.bool true)) : ∃ r, dbin .neq (.int k a) (.int k b) = some r ∧ K r := ⟨_, by show (if k = k then _ else _) = _; rw [kk]; simp only [dint, bne, beq_f h]; rfl, hk⟩
theorem s_neq (h1 : a = b → K (.bool false)) (h2 : ¬ a = b → K (.bool true)) : ∃ r, dbin .neq (.int k a) (.int k b) = some r ∧ K r := (Decidable.em (a = b)).elim (fun h => s_neq_f h (h1 h)) (fun h => s_neq_t h (h2 h))

variable {s t : ByteArray}
theorem bytes_ext {s t : ByteArray} (h : s.toList = t.toList) : s = t := by
  have h' : s.data.toList = t.data.toList := by simpa [ByteArray.toList_eq] using h
  cases s; cases t; congr 1; exact Array.toList_inj.1 h'
theorem sbeq_t (h : s = t) : (s.toList == t.toList) = true := by subst h; simp
theorem sbeq_f (h : ¬ s = t) : (s.toList == t.toList) = false := by simpa using fun e => h (bytes_ext e)
theorem s_seql_t (h : s = t) (hk : K (.bool true)) : ∃ r, dbin .eql (.string s) (.string t) = some r ∧ K r := ⟨_, congrArg (fun b => some (Value.bool b)) (sbeq_t h), hk⟩
theorem s_seql_f (h : ¬ s = t) (hk : K (.bool false)) : ∃ r, dbin .eql (.string s) (.string t) = some r ∧ K r := ⟨_, congrArg (fun b => some (Value.bool b)) (sbeq_f h), hk⟩
theorem s_seql (h1 : s = t → K (.bool true)) (h2 : ¬ s = t → K (.bool false)) : ∃ r, dbin .eql (.string s) (.string t) = some r ∧ K r := (Decidable.em (s = t)).elim (fun h => s_seql_t h (h1 h)) (fun h => s_seql_f h (h2 h))
theorem s_sneq (h1 : s = t → K (.bool false)) (h2 : ¬ s = t → K (.bool true)) : ∃ r, dbin .neq (.string s) (.string t) = some r ∧ K r := by
  by_cases h : s = t
  · exact ⟨_, congrArg (fun b => some (Value.bool (!b))) (sbeq_t h), h1 h⟩
  · exact ⟨_, congrArg (fun b => some (Value.bool (!b))) (sbeq_f h), h2 h⟩
def sLt (s t : ByteArray) : Prop := Op.bytesLess s.toList t.toList = true
theorem s_slss (h1 : sLt s t → K (.bool true)) (h2 : ¬ sLt s t → K (.bool false)) : ∃ r, dbin .lss (.string s) (.string t) = some r ∧ K r := by
  refine ⟨_, rfl, ?_⟩
  cases h : Op.bytesLess s.toList t.toList
  · exact h2 (by simp [sLt, h])
  · exact h1 h
theorem s_sgeq (h1 : sLt s t → K (.bool false)) (h2 : ¬ sLt s t → K (.bool true)) : ∃ r, dbin .geq (.string s) (.string t) = some r ∧ K r := by
  refine ⟨_, rfl, ?_⟩
  cases h : Op.bytesLess s.toList t.toList
  · exact h2 (by simp [sLt, h])
  · exact h1 h
end
theorem c_i64 {n : Int} {K : Int → Prop} (h : -9223372036854775808 ≤ n ∧ n ≤ 9223372036854775807) (hk : K n) : ∃ m, IntKind.i64.wrap n = m ∧ K m := ⟨n, w_i64 h, hk⟩
theorem c_u64 {n : Int} {K : Int → Prop} (h : 0 ≤ n ∧ n ≤ 18446744073709551615) (hk : K n) : ∃ m, IntKind.u64.wrap n = m ∧ K m := ⟨n, w_u64 h, hk⟩
theorem c_u32 {n : Int} {K : Int → Prop} (h : 0 ≤ n ∧ n ≤ 4294967295) (hk : K n) : ∃ m, IntKind.u32.wrap n = m ∧ K m := ⟨n, w_u32 h, hk⟩
theorem c_u8 {n : Int} {K : Int → Prop} (h : 0 ≤ n ∧ n ≤ 255) (hk : K n) : ∃ m, IntKind.u8.wrap n = m ∧ K m := ⟨n, w_u8 h, hk⟩

theorem c_i64_b {s : ByteArray} {n : Nat} {K : Int → Prop} (hk : K (byteAt s n)) : ∃ m, IntKind.i64.wrap (byteAt s n) = m ∧ K m := c_i64 (by have := byteAt_lo s n; have := byteAt_hi s n; omega) hk
theorem c_u64_b {s : ByteArray} {n : Nat} {K : Int → Prop} (hk : K (byteAt s n)) : ∃ m, IntKind.u64.wrap (byteAt s n) = m ∧ K m := c_u64 (by have := byteAt_lo s n; have := byteAt_hi s n; omega) hk
theorem c_u32_b {s : ByteArray} {n : Nat} {K : Int → Prop} (hk : K (byteAt s n)) : ∃ m, IntKind.u32.wrap (byteAt s n) = m ∧ K m := c_u32 (by have := byteAt_lo s n; have := byteAt_hi s n; omega) hk
theorem strOfNums_size (l : List Int) : (strOfNums l).size = l.length := by simp [strOfNums, ByteArray.size]

theorem c_u8_mod {n : Int} {K : Int → Prop} (hk : K (n % 256)) : ∃ m, IntKind.u8.wrap n = m ∧ K m := ⟨_, IntKind.wrap_u8 n, hk⟩
section
variable {K : Value → Prop}
theorem s_sub8 {a b : Int} (h : 0 ≤ a - b ∧ a - b ≤ 255) (hk : K (.int .u8 (a - b))) : ∃ r, dbin .sub (.int .u8 a) (.int .u8 b) = some r ∧ K r := ⟨_, congrArg (fun n => some (Value.int .u8 n)) (w_u8 h), hk⟩
theorem s_shr {k k' : IntKind} {a y : Int} (m : Nat) (h : y = m) (hm : m ≤ k.bits) (hk : K (.int k (a / 2 ^ m))) : ∃ r, dbin .shr (.int k a) (.int k' y) = some r ∧ K r := by
  refine ⟨_, ?_, hk⟩
  subst h
  show dshift .shr k a (m : Int) = _
  unfold dshift
  rw [if_neg (by omega)]
  simp only [Int.toNat_natCast, Nat.min_eq_left hm]
  rw [Int.fdiv_eq_ediv_of_nonneg _ (Int.pow_nonneg (by decide))]
theorem s_shl64 {k' : IntKind} {a y : Int} (m : Nat) (h : y = m) (hm : m ≤ 64) (hb : 0 ≤ a * 2 ^ m ∧ a * 2 ^ m ≤ 18446744073709551615) (hk : K (.int .u64 (a * 2 ^ m))) : ∃ r, dbin .shl (.int .u64 a) (.int k' y) = some r ∧ K r := by
  refine ⟨_, ?_, hk⟩
  subst h
  show dshift .shl .u64 a (m : Int) = _
  unfold dshift
  rw [if_neg (by omega)]
  simp only [Int.toNat_natCast, show min m IntKind.u64.bits = m from Nat.min_eq_left hm]
  rw [w_u64 hb]
theorem s_shl32 {k' : IntKind} {a y : Int} (m : Nat) (h : y = m) (hm : m ≤ 32) (hb : 0 ≤ a * 2 ^ m ∧ a * 2 ^ m ≤ 4294967295) (hk : K (.int .u32 (a * 2 ^ m))) : ∃ r, dbin .shl (.int .u32 a) (.int k' y) = some r ∧ K r := by
  refine ⟨_, ?_, hk⟩
  subst h
  show dshift .shl .u32 a (m : Int) = _
  unfold dshift
  rw [if_neg (by omega)]
  simp only [Int.toNat_natCast, show min m IntKind.u32.bits = m from Nat.min_eq_left hm]
  rw [w_u32 hb]
theorem or_nat {n a b : Nat} {k : Nat} (ha : a < 2 ^ k) (hb : b * 2 ^ k + a < 2 ^ n) : (BitVec.ofInt n (a : Int) ||| BitVec.ofInt n ((b * 2 ^ k : Nat) : Int)).toNat = a + b * 2 ^ k := by
  rw [BitVec.ofInt_natCast, BitVec.ofInt_natCast, BitVec.toNat_or, BitVec.toNat_ofNat, BitVec.toNat_ofNat, Nat.mod_eq_of_lt (by omega), Nat.mod_eq_of_lt (by omega), Nat.or_comm, ← Nat.shiftLeft_eq, ← Nat.shiftLeft_add_eq_or_of_lt ha, Nat.shiftLeft_eq, Nat.add_comm]
theorem s_or32 {a c : Int} (m : Nat) (b : Int) (hc : c = b * 2 ^ m) (h0 : 0 ≤ a ∧ a < 2 ^ m) (h1 : 0 ≤ b) (h2 : b * 2 ^ m + a < 4294967296) (hk : K (.int .u32 (a + c))) : ∃ r, dbin .or (.int .u32 a) (.int .u32 c) = some r ∧ K r := by
  refine ⟨_, ?_, hk⟩
  subst hc
  obtain ⟨x, rfl⟩ := Int.eq_ofNat_of_zero_le h0.1
  obtain ⟨y, rfl⟩ := Int.eq_ofNat_of_zero_le h1
  have hx : x < 2 ^ m := by have := h0.2; exact_mod_cast this
  have e2 : ((y : Int) * 2 ^ m) = ((y * 2 ^ m : Nat) : Int) := by simp
  have hy : y * 2 ^ m + x < 2 ^ 32 := by
    rw [e2] at h2
    generalize y * 2 ^ m = z at h2
    omega
  show some (Value.int .u32 (IntKind.u32.wrap _)) = _
  have e := or_nat (n := 32) hx hy
  rw [e2]
  show some (Value.int .u32 (IntKind.u32.wrap ((BitVec.ofInt 32 (x : Int) ||| BitVec.ofInt 32 ((y * 2 ^ m : Nat) : Int)).toNat : Int))) = _
  rw [e, w_u32 (by omega)]
  simp
theorem s_or64 {a c : Int} (m : Nat) (b : Int) (ha : a = b * 2 ^ m) (h0 : 0 ≤ c ∧ c < 2 ^ m) (h1 : 0 ≤ b) (h2 : b * 2 ^ m + c < 18446744073709551616) (hk : K (.int .u64 (a + c))) : ∃ r, dbin .or (.int .u64 a) (.int .u64 c) = some r ∧ K r := by
  refine ⟨_, ?_, hk⟩
  subst ha
  obtain ⟨x, rfl⟩ := Int.eq_ofNat_of_zero_le h0.1
  obtain ⟨y, rfl⟩ := Int.eq_ofNat_of_zero_le h1
  have hx : x < 2 ^ m := by have := h0.2; exact_mod_cast this
  have e2 : ((y : Int) * 2 ^ m) = ((y * 2 ^ m : Nat) : Int) := by simp
  have hy : y * 2 ^ m + x < 2 ^ 64 := by
    rw [e2] at h2
    generalize y * 2 ^ m = z at h2
    omega
  have e := or_nat (n := 64) hx hy
  rw [e2]
  show some (Value.int .u64 (IntKind.u64.wrap ((BitVec.ofInt 64 ((y * 2 ^ m : Nat) : Int) ||| BitVec.ofInt 64 (x : Int)).toNat : Int))) = _
  rw [BitVec.or_comm, e, w_u64 (by omega)]
  congr 2
  omega
end

theorem cmp_int {op : BinOp} {x y : Value} {k k' : IntKind} {a b : Int} {K : Value → Prop} (hx : x = .int k a) (hy : y = .int k' b) (h : ∃ r, dbin op (.int k a) (.int k' b) = some r ∧ K r) : ∃ r, dbin op x y = some r ∧ K r := by subst hx; subst hy; exact h
theorem is_int {op : BinOp} {k k' : IntKind} {a b : Int} {K : Value → Prop} (h : ∃ r, dbin op (.int k a) (.int k' b) = some r ∧ K r) : ∃ r, dbin op (.int k a) (.int k' b) = some r ∧ K r := h
theorem cmp_str {op : BinOp} {x y : Value} {a b : ByteArray} {K : Value → Prop} (hx : x = .string a) (hy : y = .string b) (h : ∃ r, dbin op (.string a) (.string b) = some r ∧ K r) : ∃ r, dbin op x y = some r ∧ K r := by subst hx; subst hy; exact h
theorem is_str {op : BinOp} {a b : ByteArray} {K : Value → Prop} (h : ∃ r, dbin op (.string a) (.string b) = some r ∧ K r) : ∃ r, dbin op (.string a) (.string b) = some r ∧ K r := h

theorem is_e3 {α : Type} {a : Option α} {b : α → Bool} {K : α → Prop} (h : ∃ x, a = some x ∧ b x = true ∧ K x) : ∃ x, a = some x ∧ b x = true ∧ K x := h
theorem is_e2 {α : Type} {a : Option α} {K : α → Prop} (h : ∃ x, a = some x ∧ K x) : ∃ x, a = some x ∧ K x := h
theorem is_bsl {a : List DV} {b : List DV → Bool} {K : List DV → Prop} (h : ∃ es, WkL a es ∧ b es = true ∧ K es) : ∃ es, WkL a es ∧ b es = true ∧ K es := h
theorem is_b2s {d : DV} {K : List DV → List Int → Prop} (h : ∃ l ns, elems d = some l ∧ fitsSz 1 d = true ∧ nums l = some ns ∧ K l ns) : ∃ l ns, elems d = some l ∧ fitsSz 1 d = true ∧ nums l = some ns ∧ K l ns := h
theorem is_cvt {k : IntKind} {n : Int} {K : Int → Prop} (h : ∃ m, k.wrap n = m ∧ K m) : ∃ m, k.wrap n = m ∧ K m := h
theorem is_nilc {a b c : Option Bool} {K : Prop} (h : (a = some false ∨ b = some false ∨ c = some false) ∧ K) : (a = some false ∨ b = some false ∨ c = some false) ∧ K := h
theorem is_and {α : Type} {a b : α} {K : Prop} (h : a = b ∧ K) : a = b ∧ K := h

theorem is_ne {l : List DV} {K M : Prop} (h : l.isEmpty = false ∧ K) : (l.isEmpty = false ∧ K) ∨ M := .inl h
theorem is_end {a b c : DExit} {K : Prop} (h : (a = b ∨ a = c) ∧ K) : (a = b ∨ a = c) ∧ K := h

theorem is_cond {c : Bool} {A B : Prop} (h : (c = true → A) ∧ (c = false → B)) : (c = true → A) ∧ (c = false → B) := h

theorem mm_min {k k' : IntKind} {a b : Int} : List.foldlM (dmm false) (.int k a) [.int k' b] = some (.int k (min a b)) := by
  show some (Value.int k (if b < a then b else a)) = _
  congr 2; omega
theorem mm_max {k k' : IntKind} {a b : Int} : List.foldlM (dmm true) (.int k a) [.int k' b] = some (.int k (max a b)) := by
  show some (Value.int k (if b > a then b else a)) = _
  congr 2; omega

section
variable {P : Program} {I : Inv} {f : FuncId} {args es : List DV}
theorem call_bool {b : Bool} {K : DV → Prop} (hw : WkL args es) (h : DPure P I f es (.v (.bool b))) (h1 : b = true → K (.v (.bool true))) (h2 : b = false → K (.v (.bool false))) : ∃ es r, WkL args es ∧ DPure P I f es r ∧ K r :=
  ⟨es, _, hw, h, by cases b with
    | true => exact h1 rfl
    | false => exact h2 rfl⟩
end
end Go.Proofs.YtlbodfkhenkcjaaGreatDoor.D


namespace Go.Proofs.YtlbodfkhenkcjaaGreatDoor.D
open Go Go.RowKit

section
variable {P : Program} {I : Inv} {m0 k0 : Nat}

def seqQ (P : Program) (I : Inv) (m0 k0 : Nat) (b : DCode) (Q : DExit → St → Prop) (e : DExit) (σ : St) : Prop := match e with
  | .normal => dwp P I m0 k0 b σ Q
  | e => Q e σ
def blkQ (id : Nat) (Q : DExit → St → Prop) (e : DExit) (σ : St) : Prop := match e with
  | .exit j => if j = id then Q .normal σ else Q (.exit j) σ
  | e => Q e σ
def lopQ (X : St → Prop) (Q : DExit → St → Prop) (e : DExit) (σ : St) : Prop := match e with
  | .normal => X σ
  | e => Q e σ
variable {a b : DCode} {σ : St} {Q : DExit → St → Prop} {X : St → Prop} {id j : Nat}
theorem z_seq (h : dwp P I m0 k0 a σ (seqQ P I m0 k0 b Q)) : dwp P I m0 k0 (.seq a b) σ Q := dwp_mono (d := a) h fun e τ h => by cases e <;> exact h
theorem z_seqn (h : dwp P I m0 k0 b σ Q) : seqQ P I m0 k0 b Q .normal σ := h
theorem z_seqx (h : Q (.exit j) σ) : seqQ P I m0 k0 b Q (.exit j) σ := h
theorem z_seqr (h : Q .ret σ) : seqQ P I m0 k0 b Q .ret σ := h
theorem z_blk (h : dwp P I m0 k0 a σ (blkQ id Q)) : dwp P I m0 k0 (.block id a) σ Q := dwp_mono (d := a) h fun e τ h => by cases e <;> exact h
theorem z_blkn (h : Q .normal σ) : blkQ id Q .normal σ := h
theorem z_blkr (h : Q .ret σ) : blkQ id Q .ret σ := h
theorem z_blkh (h : Q .normal σ) : blkQ id Q (.exit id) σ := by unfold blkQ; simp only [if_true]; exact h
theorem z_blkm (hne : Nat.beq j id = false) (h : Q (.exit j) σ) : blkQ id Q (.exit j) σ := by
  unfold blkQ
  simp only
  rw [if_neg (fun e => by subst e; simp at hne)]
  exact h
theorem z_lopn (h : X σ) : lopQ X Q .normal σ := h
theorem z_lopx (h : Q (.exit j) σ) : lopQ X Q (.exit j) σ := h
theorem z_lopr (h : Q .ret σ) : lopQ X Q .ret σ := h
theorem z_skip (h : Q .normal σ) : dwp P I m0 k0 .skip σ Q := h
theorem z_exit (h : Q (.exit j) σ) : dwp P I m0 k0 (.exit j) σ Q := h
theorem z_ret (h : Q .ret σ) : dwp P I m0 k0 .ret σ Q := h
theorem z_reg {ops : List Op1} (h : dops P I ops σ (Q .normal)) : dwp P I m0 k0 (.reg ops) σ Q := h
theorem z_nil {K : St → Prop} (h : K σ) : dops P I [] σ K := h
variable {c : Opd} {env : List (Nat × DV)} {loc : List (List DV)} {ow : List Nat}
theorem z_cond_t (hc : ev env c = .v (.bool true)) (h : dwp P I m0 k0 a ⟨env, loc, ow⟩ Q) : dwp P I m0 k0 (.cond c a b) ⟨env, loc, ow⟩ Q := by simp only [dwp, hc]; exact ⟨fun _ => h, fun h => Bool.noConfusion h⟩
theorem z_cond_f (hc : ev env c = .v (.bool false)) (h : dwp P I m0 k0 b ⟨env, loc, ow⟩ Q) : dwp P I m0 k0 (.cond c a b) ⟨env, loc, ow⟩ Q := by simp only [dwp, hc]; exact ⟨fun h => Bool.noConfusion h, fun _ => h⟩
theorem z_cond {t : Bool} (hc : ev env c = .v (.bool t)) (h1 : t = true → dwp P I m0 k0 a ⟨env, loc, ow⟩ Q) (h2 : t = false → dwp P I m0 k0 b ⟨env, loc, ow⟩ Q) : dwp P I m0 k0 (.cond c a b) ⟨env, loc, ow⟩ Q := by simp only [dwp, hc]; exact ⟨h1, h2⟩
theorem z_loop {α : Type} (R : α → St) (Pv : α → Prop) (μ : α → Nat) (v0 : α) (h0 : Less m0 k0 (R v0) σ) (hP : Pv v0)
    (h : ∀ v, Pv v → dwp P I m0 k0 a (R v) (lopQ (fun τ => ∃ v', Less m0 k0 (R v') τ ∧ Pv v' ∧ μ v' < μ v) Q)) : dwp P I m0 k0 (.loop a) σ Q :=
  loop_ind R Pv μ v0 h0 hP fun v hv => dwp_mono (d := a) (h v hv) fun e τ h => by cases e <;> exact h

variable {os : List Op1} {K : St → Prop} {n : Nat} {r : DV}
theorem z_neu {op : DOp} (hn : op.neutral = true) (h : ap P I op ⟨env, loc, ow⟩ fun r => dops P I os ⟨(n, r) :: env, loc, ow⟩ K) : dops P I (⟨some n, op, none⟩ :: os) ⟨env, loc, ow⟩ K := by
  cases op <;> first | exact h | exact Bool.noConfusion hn
theorem z_g {op : DOp} {d : Option Nat} {g : Nat} {w : Bool} (hg : ev env (.t g) = .v (.bool w)) (h : dops P I (⟨d, op, none⟩ :: os) ⟨env, loc, ow⟩ K) : dops P I (⟨d, op, some (g, w)⟩ :: os) ⟨env, loc, ow⟩ K := by
  have hg' : look env g = .v (.bool w) := hg
  show dop1 P I ⟨d, op, some (g, w)⟩ ⟨env, loc, ow⟩ fun σ' => dops P I os σ' K
  unfold dop1
  simp only [hg', if_true]
  exact h
theorem z_gf {op : DOp} {g : Nat} (hg : ev env (.t g) = .v (.bool false)) (h : dops P I os ⟨(n, .v undef) :: env, loc, ow⟩ K) : dops P I (⟨some n, op, some (g, true)⟩ :: os) ⟨env, loc, ow⟩ K := by
  have hg' : look env g = .v (.bool false) := hg
  show dop1 P I ⟨some n, op, some (g, true)⟩ ⟨env, loc, ow⟩ fun σ' => dops P I os σ' K
  unfold dop1
  simp only [hg', Bool.false_eq_true, if_false]
  exact h
theorem z_gt {op : DOp} {g : Nat} (hg : ev env (.t g) = .v (.bool true)) (h : dops P I os ⟨(n, .v undef) :: env, loc, ow⟩ K) : dops P I (⟨some n, op, some (g, false)⟩ :: os) ⟨env, loc, ow⟩ K := by
  have hg' : look env g = .v (.bool true) := hg
  show dop1 P I ⟨some n, op, some (g, false)⟩ ⟨env, loc, ow⟩ fun σ' => dops P I os σ' K
  unfold dop1
  simp only [hg', Bool.true_eq_false, if_false]
  exact h
theorem z_gu {op : DOp} {g : Nat} {w : Bool} {xs : Array Value} (hg : ev env (.t g) = .v (.tuple xs)) (h : dops P I os ⟨(n, .v undef) :: env, loc, ow⟩ K) : dops P I (⟨some n, op, some (g, w)⟩ :: os) ⟨env, loc, ow⟩ K := by
  have hg' : look env g = .v (.tuple xs) := hg
  show dop1 P I ⟨some n, op, some (g, w)⟩ ⟨env, loc, ow⟩ fun σ' => dops P I os σ' K
  unfold dop1
  simp only [hg']
  exact h

variable {x y i : Opd} {sz off o kk j' : Nat} {k k' : IntKind} {va vb : Value} {d : DV} {s : ByteArray} {l : List DV} {cs : List DV} {u w : Int}
theorem z_mv (h : ev env x = r) (hk : dops P I os ⟨(n, r) :: env, loc, ow⟩ K) : dops P I (⟨some n, .mv x, none⟩ :: os) ⟨env, loc, ow⟩ K := z_neu rfl (by subst h; exact hk)
theorem z_pick_t (hc : ev env c = .v (.bool true)) (h : ev env x = r) (hk : dops P I os ⟨(n, r) :: env, loc, ow⟩ K) : dops P I (⟨some n, .pick c x y, none⟩ :: os) ⟨env, loc, ow⟩ K := z_neu rfl (by simp only [ap, hc, if_true, h]; exact hk)
theorem z_pick_f (hc : ev env c = .v (.bool false)) (h : ev env y = r) (hk : dops P I os ⟨(n, r) :: env, loc, ow⟩ K) : dops P I (⟨some n, .pick c x y, none⟩ :: os) ⟨env, loc, ow⟩ K := z_neu rfl (by simp only [ap, hc, Bool.false_eq_true, if_false, h]; exact hk)
theorem part_one (h : cs[off]? = some r) : part false ((cs.drop off).take 1) = r := by
  obtain ⟨h1, h2⟩ := List.getElem?_eq_some_iff.1 h
  rw [List.drop_eq_getElem_cons h1, h2]
  rfl
theorem ble_one (h : cs[off]? = some r) : Nat.ble (off + 1) cs.length = true := Nat.ble_eq.mpr (List.getElem?_eq_some_iff.1 h).1
theorem z_ld (h : ev env x = .lp kk off) (hc : loc[kk]? = some cs) (hd : cs[off]? = some r) (hk : dops P I os ⟨(n, r) :: env, loc, ow⟩ K) : dops P I (⟨some n, .ld 1 false x, none⟩ :: os) ⟨env, loc, ow⟩ K :=
  z_neu rfl (by simp only [ap, h]; exact ⟨cs, hc, ble_one hd, by rw [part_one hd]; exact hk⟩)
theorem z_lda (h : ev env x = .lp kk off) (hc : loc[kk]? = some cs) (hb : Nat.ble (off + sz) cs.length = true) (hr : part true ((cs.drop off).take sz) = r) (hk : dops P I os ⟨(n, r) :: env, loc, ow⟩ K) : dops P I (⟨some n, .ld sz true x, none⟩ :: os) ⟨env, loc, ow⟩ K :=
  z_neu rfl (by simp only [ap, h]; exact ⟨cs, hc, hb, by rw [hr]; exact hk⟩)
theorem z_lde (h : ev env x = .ep d off) (hd : d.cells[off]? = some r) (hk : dops P I os ⟨(n, r) :: env, loc, ow⟩ K) : dops P I (⟨some n, .ld 1 false x, none⟩ :: os) ⟨env, loc, ow⟩ K :=
  z_neu rfl (by simp only [ap, h]; exact ⟨ble_one hd, by rw [part_one hd]; exact hk⟩)
theorem z_ldea (h : ev env x = .ep d off) (hb : Nat.ble (off + sz) d.cells.length = true) (hr : part true ((d.cells.drop off).take sz) = r) (hk : dops P I os ⟨(n, r) :: env, loc, ow⟩ K) : dops P I (⟨some n, .ld sz true x, none⟩ :: os) ⟨env, loc, ow⟩ K :=
  z_neu rfl (by simp only [ap, h]; exact ⟨hb, by rw [hr]; exact hk⟩)
theorem z_nilc (h : ev env x = .lp kk off) (hk : dops P I os ⟨(n, .lp kk off) :: env, loc, ow⟩ K) : dops P I (⟨some n, .nilc x, none⟩ :: os) ⟨env, loc, ow⟩ K := z_neu rfl (by simp only [ap, h]; exact ⟨.inr (.inl rfl), hk⟩)
theorem z_nilce (h : ev env x = .ep d off) (hk : dops P I os ⟨(n, .ep d off) :: env, loc, ow⟩ K) : dops P I (⟨some n, .nilc x, none⟩ :: os) ⟨env, loc, ow⟩ K := z_neu rfl (by simp only [ap, h]; exact ⟨.inr (.inl rfl), hk⟩)
theorem z_nilci {t : TypeId} (h : ev env x = .ifc t d) (hk : dops P I os ⟨(n, .ifc t d) :: env, loc, ow⟩ K) : dops P I (⟨some n, .nilc x, none⟩ :: os) ⟨env, loc, ow⟩ K := z_neu rfl (by simp only [ap, h]; exact ⟨.inl rfl, hk⟩)
theorem z_nilcf {f : FuncId} (h : ev env x = .fn f cs) (hk : dops P I os ⟨(n, .fn f cs) :: env, loc, ow⟩ K) : dops P I (⟨some n, .nilc x, none⟩ :: os) ⟨env, loc, ow⟩ K := z_neu rfl (by simp only [ap, h]; exact ⟨.inr (.inr rfl), hk⟩)
theorem z_bin {op : BinOp} (hx : ev env x = .v va) (hy : ev env y = .v vb) (h : ∃ r, dbin op va vb = some r ∧ dops P I os ⟨(n, .v r) :: env, loc, ow⟩ K) : dops P I (⟨some n, .bin op x y, none⟩ :: os) ⟨env, loc, ow⟩ K :=
  z_neu rfl (by simp only [ap, hx, hy]; exact h)
theorem z_isnil {t b : Bool} {kd : Nat} {ng : Bool} (hx : ev env x = d) (h : dnil kd d = some t) (hb : (if ng = true then !t else t) = b) (hk : dops P I os ⟨(n, .v (.bool b)) :: env, loc, ow⟩ K) : dops P I (⟨some n, .isnil kd ng x, none⟩ :: os) ⟨env, loc, ow⟩ K :=
  z_neu rfl (by subst hb; subst hx; exact ⟨t, h, hk⟩)
theorem z_not_t (hx : ev env x = .v (.bool true)) (hk : dops P I os ⟨(n, .v (.bool false)) :: env, loc, ow⟩ K) : dops P I (⟨some n, .un .not x, none⟩ :: os) ⟨env, loc, ow⟩ K := z_neu rfl (by simp only [ap, hx]; exact ⟨_, rfl, hk⟩)
theorem z_not_f (hx : ev env x = .v (.bool false)) (hk : dops P I os ⟨(n, .v (.bool true)) :: env, loc, ow⟩ K) : dops P I (⟨some n, .un .not x, none⟩ :: os) ⟨env, loc, ow⟩ K := z_neu rfl (by simp only [ap, hx]; exact ⟨_, rfl, hk⟩)
theorem z_cvt (hx : ev env x = .v (.int k' u)) (h : ∃ m, k.wrap u = m ∧ dops P I os ⟨(n, .v (.int k m)) :: env, loc, ow⟩ K) : dops P I (⟨some n, .cvt k x, none⟩ :: os) ⟨env, loc, ow⟩ K := z_neu rfl (by simp only [ap, hx]; exact h)
theorem z_s2b (hx : ev env x = .v (.string s)) (hk : dops P I os ⟨(n, .list 1 (bytesD s.data.toList)) :: env, loc, ow⟩ K) : dops P I (⟨some n, .s2b x, none⟩ :: os) ⟨env, loc, ow⟩ K := z_neu rfl (by simp only [ap, hx]; exact hk)
theorem z_b2s {ns : List Int} (hx : ev env x = d) (h1 : elems d = some l) (h2 : fitsSz 1 d = true) (h3 : nums l = some ns) (hk : dops P I os ⟨(n, .v (.string (strOfNums ns))) :: env, loc, ow⟩ K) : dops P I (⟨some n, .b2s x, none⟩ :: os) ⟨env, loc, ow⟩ K :=
  z_neu rfl (by subst hx; exact ⟨l, ns, h1, h2, h3, hk⟩)
theorem z_mki {t : TypeId} (hx : ev env x = d) (hr : mkIfc t d = r) (hk : dops P I os ⟨(n, r) :: env, loc, ow⟩ K) : dops P I (⟨some n, .mki t x, none⟩ :: os) ⟨env, loc, ow⟩ K := z_neu rfl (by subst hx; subst hr; exact hk)
theorem z_mkf {f : FuncId} {xs : List Opd} {ds : List DV} (h : xs.map (ev env) = ds) (hk : dops P I os ⟨(n, .fn f ds) :: env, loc, ow⟩ K) : dops P I (⟨some n, .mkf f xs, none⟩ :: os) ⟨env, loc, ow⟩ K := z_neu rfl (by subst h; exact hk)
theorem z_slS {lo hi : Option Opd} (hx : ev env x = .v (.string s)) (h : optNat env lo 0 fun l => optNat env hi s.size fun h => l ≤ h ∧ h ≤ s.size ∧ dops P I os ⟨(n, .v (.string (s.extract l h))) :: env, loc, ow⟩ K) : dops P I (⟨some n, .slS x lo hi, none⟩ :: os) ⟨env, loc, ow⟩ K :=
  z_neu rfl (by simp only [ap, hx]; exact h)
theorem z_slL {lo hi mx : Option Opd} (hx : ev env x = d) (h1 : elems d = some l) (h2 : fitsSz sz d = true)
    (h : optNat env mx l.length fun m => optNat env hi l.length fun h => optNat env lo 0 fun k => k ≤ h ∧ h ≤ m ∧ m ≤ l.length ∧ dops P I os ⟨(n, .list sz ((l.take h).drop k)) :: env, loc, ow⟩ K) : dops P I (⟨some n, .slL sz x lo hi mx, none⟩ :: os) ⟨env, loc, ow⟩ K :=
  z_neu rfl (by subst hx; exact ⟨l, h1, h2, h⟩)
theorem z_opt_n {q : Nat} {X' : Nat → Prop} (h : X' q) : optNat env none q X' := h
theorem z_opt_s {q : Nat} {X' : Nat → Prop} (hx : ev env x = .v (.int k u)) (h0 : 0 ≤ u) (h : X' u.toNat) : optNat env (some x) q X' := by simp only [optNat, hx]; exact ⟨h0, h⟩
theorem z_fa (h : ev env x = .lp kk o) (hk : dops P I os ⟨(n, .lp kk (o + off)) :: env, loc, ow⟩ K) : dops P I (⟨some n, .fa off x, none⟩ :: os) ⟨env, loc, ow⟩ K := z_neu rfl (by simp only [ap, h]; exact hk)
theorem z_fae (h : ev env x = .ep d o) (hk : dops P I os ⟨(n, .ep d (o + off)) :: env, loc, ow⟩ K) : dops P I (⟨some n, .fa off x, none⟩ :: os) ⟨env, loc, ow⟩ K := z_neu rfl (by simp only [ap, h]; exact hk)
theorem z_fld (hx : ev env x = d) (hc : aggCells d = some cs) (hd : cs[off]? = some r) (hk : dops P I os ⟨(n, r) :: env, loc, ow⟩ K) : dops P I (⟨some n, .fld off 1 false x, none⟩ :: os) ⟨env, loc, ow⟩ K :=
  z_neu rfl (by subst hx; exact ⟨cs, hc, ble_one hd, by rw [part_one hd]; exact hk⟩)
theorem z_flda (hx : ev env x = d) (hc : aggCells d = some cs) (hb : Nat.ble (off + sz) cs.length = true) (hr : part true ((cs.drop off).take sz) = r) (hk : dops P I os ⟨(n, r) :: env, loc, ow⟩ K) : dops P I (⟨some n, .fld off sz true x, none⟩ :: os) ⟨env, loc, ow⟩ K :=
  z_neu rfl (by subst hx; exact ⟨cs, hc, hb, by rw [hr]; exact hk⟩)
theorem rowOf_elems {d : DV} {l : List DV} (h : elems d = some l) : rowOf d = none := by cases d <;> first | rfl | simp [elems] at h
theorem z_ixa (hi : ev env i = .v (.int k u)) (hx : ev env x = d) (h1 : elems d = some l) (h2 : fitsSz sz d = true) (h : 0 ≤ u ∧ ∃ e, l[u.toNat]? = some e ∧ dops P I os ⟨(n, .ep e 0) :: env, loc, ow⟩ K) : dops P I (⟨some n, .ixa sz x i, none⟩ :: os) ⟨env, loc, ow⟩ K :=
  z_neu rfl (by subst hx; simp only [ap, hi, asNat, rowOf_elems h1]; exact ⟨h.1, l, h.2.choose, h1, h2, h.2.choose_spec.1, h.2.choose_spec.2⟩)
theorem z_ixp {ln : Nat} (hi : ev env i = .v (.int k u)) (hx : ev env x = .lp kk o) (h : 0 ≤ u ∧ u.toNat < ln ∧ dops P I os ⟨(n, .lp kk (o + u.toNat * sz)) :: env, loc, ow⟩ K) : dops P I (⟨some n, .ixp ln sz x i, none⟩ :: os) ⟨env, loc, ow⟩ K :=
  z_neu rfl (by simp only [ap, hi, hx, asNat]; exact h)
theorem z_ixs (hi : ev env i = .v (.int k u)) (hx : ev env x = .v (.string s)) (h : 0 ≤ u ∧ u.toNat < s.size ∧ dops P I os ⟨(n, .v (.int .u8 (byteAt s u.toNat))) :: env, loc, ow⟩ K) : dops P I (⟨some n, .ixs x i, none⟩ :: os) ⟨env, loc, ow⟩ K :=
  z_neu rfl (by simp only [ap, hi, hx, asNat]; exact h)
theorem z_ext0 {y0 : Value} {ys : List Value} (hx : ev env x = .v (.tuple ⟨y0 :: ys⟩)) (hk : dops P I os ⟨(n, .v y0) :: env, loc, ow⟩ K) : dops P I (⟨some n, .ext x 0, none⟩ :: os) ⟨env, loc, ow⟩ K := z_neu rfl (by simp only [ap, hx]; exact ⟨y0, rfl, hk⟩)
theorem z_ext1 {y0 y1 : Value} {ys : List Value} (hx : ev env x = .v (.tuple ⟨y0 :: y1 :: ys⟩)) (hk : dops P I os ⟨(n, .v y1) :: env, loc, ow⟩ K) : dops P I (⟨some n, .ext x 1, none⟩ :: os) ⟨env, loc, ow⟩ K := z_neu rfl (by simp only [ap, hx]; exact ⟨y1, rfl, hk⟩)
theorem z_ext2 {y0 y1 y2 : Value} {ys : List Value} (hx : ev env x = .v (.tuple ⟨y0 :: y1 :: y2 :: ys⟩)) (hk : dops P I os ⟨(n, .v y2) :: env, loc, ow⟩ K) : dops P I (⟨some n, .ext x 2, none⟩ :: os) ⟨env, loc, ow⟩ K := z_neu rfl (by simp only [ap, hx]; exact ⟨y2, rfl, hk⟩)
theorem z_extt (hx : ev env x = .tup cs) (h : cs[j']? = some r) (hk : dops P I os ⟨(n, r) :: env, loc, ow⟩ K) : dops P I (⟨some n, .ext x j', none⟩ :: os) ⟨env, loc, ow⟩ K := z_neu rfl (by simp only [ap, hx]; exact ⟨r, h, hk⟩)
theorem z_lenS (hx : ev env x = .v (.string s)) (hk : dops P I os ⟨(n, .v (.int .i64 s.size)) :: env, loc, ow⟩ K) : dops P I (⟨some n, .len true x, none⟩ :: os) ⟨env, loc, ow⟩ K := z_neu rfl (by simp only [ap, hx, if_true]; exact hk)
theorem z_lenL (hx : ev env x = d) (h : elems d = some l) (hk : dops P I os ⟨(n, .v (.int .i64 l.length)) :: env, loc, ow⟩ K) : dops P I (⟨some n, .len false x, none⟩ :: os) ⟨env, loc, ow⟩ K := z_neu rfl (by subst hx; simp only [ap, Bool.false_eq_true, if_false, rowOf_elems h]; exact ⟨l, h, hk⟩)
theorem z_min (hx : ev env x = .v (.int k u)) (hy : ev env y = .v (.int k' w)) (hk : dops P I os ⟨(n, .v (.int k (min u w))) :: env, loc, ow⟩ K) : dops P I (⟨some n, .mm false x [y], none⟩ :: os) ⟨env, loc, ow⟩ K := z_neu rfl (by simp only [ap, hx]; exact ⟨[.int k' w], _, by simp only [List.map_cons, List.map_nil, hy], mm_min, hk⟩)
theorem z_max (hx : ev env x = .v (.int k u)) (hy : ev env y = .v (.int k' w)) (hk : dops P I os ⟨(n, .v (.int k (max u w))) :: env, loc, ow⟩ K) : dops P I (⟨some n, .mm true x [y], none⟩ :: os) ⟨env, loc, ow⟩ K := z_neu rfl (by simp only [ap, hx]; exact ⟨[.int k' w], _, by simp only [List.map_cons, List.map_nil, hy], mm_max, hk⟩)
theorem z_bld {z : List Value} {ps : List (Nat × Nat × Opd)} {qs : List (Nat × List DV)} (hp : (ps.map fun p => (p.1, (ev env p.2.2).cells)) = qs) (h1 : fillD (z.map .v) qs = some cs) (h2 : ps.all (fun p => Nat.beq (ev env p.2.2).cells.length p.2.1 && !(ev env p.2.2).isU) = true) (hr : mkAgg cs = r)
    (hk : dops P I os ⟨(n, r) :: env, loc, ow⟩ K) : dops P I (⟨some n, .bld z ps, none⟩ :: os) ⟨env, loc, ow⟩ K := z_neu rfl (by subst hp; subst hr; exact ⟨cs, h1, h2, hk⟩)
theorem z_bsl {ps : List Opd} {es : List DV} (h1 : wknL (ps.map (ev env)) = some es) (h2 : es.all (fun d => Nat.beq d.cells.length sz && d.cells.all DV.one) = true) (hk : dops P I os ⟨(n, .full sz es) :: env, loc, ow⟩ K) : dops P I (⟨some n, .bsl sz ps, none⟩ :: os) ⟨env, loc, ow⟩ K :=
  z_neu rfl ⟨es, wknL_ok h1, h2, hk⟩
variable {f : FuncId} {args : List Opd} {es : List DV}
theorem z_call (hd : DPure P I f es r) (hw : WkL (args.map (ev env)) es) (hk : dops P I os ⟨(n, r) :: env, loc, ow⟩ K) : dops P I (⟨some n, .call f args, none⟩ :: os) ⟨env, loc, ow⟩ K := z_neu rfl ⟨es, r, hw, hd, hk⟩
theorem z_callb {bb : Bool} (hd : DPure P I f es (.v (.bool bb))) (hw : WkL (args.map (ev env)) es) (h1 : bb = true → dops P I os ⟨(n, .v (.bool true)) :: env, loc, ow⟩ K) (h2 : bb = false → dops P I os ⟨(n, .v (.bool false)) :: env, loc, ow⟩ K) : dops P I (⟨some n, .call f args, none⟩ :: os) ⟨env, loc, ow⟩ K :=
  z_neu rfl (by
    cases bb
    · exact ⟨es, _, hw, hd, h2 rfl⟩
    · exact ⟨es, _, hw, hd, h1 rfl⟩)
theorem z_inv {m : String} {t : TypeId} (hx : asIfc (ev env x) = some (t, d)) (hm : Meth P t m f) (hd : DPure P I f es r) (hw : WkL (d :: args.map (ev env)) es) (hk : dops P I os ⟨(n, r) :: env, loc, ow⟩ K) : dops P I (⟨some n, .inv m x args, none⟩ :: os) ⟨env, loc, ow⟩ K := z_neu rfl ⟨t, d, f, es, r, hx, hm, hw, hd, hk⟩
theorem z_callep (hd : DPure P I f es r) (hw : WkL (args.map (ev env)) es) (hk : dops P I os ⟨(n, r) :: env, loc, ow⟩ K) : dops P I (⟨some n, .calle f args, none⟩ :: os) ⟨env, loc, ow⟩ K := .inl ⟨es, r, hw, hd, hk⟩
theorem z_calle {loc' : List (List DV)} {ow' : List Nat} (hd : DEff P I f es loc ow r loc' ow') (ha : args.map (ev env) = es) (hk : dops P I os ⟨(n, r) :: env, loc', ow'⟩ K) : dops P I (⟨some n, .calle f args, none⟩ :: os) ⟨env, loc, ow⟩ K := by
  subst ha; exact .inr ⟨r, loc', ow', hd, hk⟩
theorem z_callv {loc' : List (List DV)} {ow' : List Nat} {g : FuncId} (hx : ev env x = .fn g cs) (hd : DEff P I g es loc ow r loc' ow') (ha : args.map (ev env) ++ cs = es) (hk : dops P I os ⟨(n, r) :: env, loc', ow'⟩ K) : dops P I (⟨some n, .callv x args, none⟩ :: os) ⟨env, loc, ow⟩ K := by
  subst ha; exact ⟨g, cs, by show asFn (ev env x) = _; rw [hx]; rfl, .inr ⟨r, loc', ow', hd, hk⟩⟩
theorem z_callvp {g : FuncId} (hx : ev env x = .fn g cs) (hd : DPure P I g es r) (ha : WkL (args.map (ev env) ++ cs) es) (hk : dops P I os ⟨(n, r) :: env, loc, ow⟩ K) : dops P I (⟨some n, .callv x args, none⟩ :: os) ⟨env, loc, ow⟩ K :=
  ⟨g, cs, by show asFn (ev env x) = _; rw [hx]; rfl, .inl ⟨es, r, ha, hd, hk⟩⟩
theorem z_box {loc' : List (List DV)} {q : Nat} (hx : ev env x = d) (hu : d.isU = false) (hc : d.cells = cs) (hq : loc.length = q) (hl : loc ++ [cs] = loc') (hk : dops P I os ⟨(n, .lp q 0) :: env, loc', ow⟩ K) : dops P I (⟨some n, .box x, none⟩ :: os) ⟨env, loc, ow⟩ K := by
  subst hl; subst hc; subst hq; subst hx; exact ⟨hu, hk⟩
theorem z_zero {loc' : List (List DV)} {q : Nat} {z : Value} (hc : (DV.v z).cells = cs) (hq : loc.length = q) (hl : loc ++ [cs] = loc') (hk : dops P I os ⟨(n, .lp q 0) :: env, loc', ow⟩ K) : dops P I (⟨some n, .zero z, none⟩ :: os) ⟨env, loc, ow⟩ K := by
  subst hl; subst hc; subst hq; exact hk
theorem z_st {loc' : List (List DV)} (ha : ev env x = .lp kk off) (hcs : loc[kk]? = some cs) (hx : ev env y = d) (hb : (Nat.ble (off + sz) cs.length && (Nat.beq d.cells.length sz && d.cells.all DV.one)) = true) (hl : loc.set kk (cs.take off ++ d.cells ++ cs.drop (off + sz)) = loc')
    (hk : dops P I os ⟨env, loc', ow⟩ K) : dops P I (⟨none, .st sz x y, none⟩ :: os) ⟨env, loc, ow⟩ K := by
  subst hl; subst hx
  show dop P I (.st sz x y) ⟨env, loc, ow⟩ fun r σ' => dops P I os { σ' with env := putE σ'.env none r } K
  simp only [dop, ha]
  exact ⟨cs, hcs, hb, hk⟩
theorem z_app_own {e bytes id : Nat} {xs : List DV} {ow' : List Nat} (hs : ev env x = .own id e sz l) (hx : ev env y = d) (h1 : elems d = some xs) (h2 : fitsSz sz d = true) (ho : ow[id]? = some (l.length * sz)) (hb : (l.length + xs.length) * bytes ≤ 140737488355328) (hw : ow.set id ((l.length + xs.length) * sz) = ow')
    (hk : dops P I os ⟨(n, .own id e sz (l ++ xs)) :: env, loc, ow'⟩ K) : dops P I (⟨some n, .app e sz bytes x y, none⟩ :: os) ⟨env, loc, ow⟩ K := by
  subst hw; subst hx
  show dop P I (.app e sz bytes x y) ⟨env, loc, ow⟩ fun r σ' => dops P I os { σ' with env := putE σ'.env (some n) r } K
  simp only [dop]
  refine ⟨xs, h1, h2, ?_⟩
  rw [hs]
  exact ⟨rfl, rfl, ho, hb, hk⟩
theorem z_app_full {e bytes q : Nat} {xs : List DV} {ow' : List Nat} (hs : ev env x = .full sz l) (hx : ev env y = d) (h1 : elems d = some xs) (h2 : fitsSz sz d = true) (he : xs.isEmpty = false) (hb : (l.length + xs.length) * bytes ≤ 140737488355328) (hq : ow.length = q) (hw : ow ++ [(l.length + xs.length) * sz] = ow')
    (hk : dops P I os ⟨(n, .own q e sz (l ++ xs)) :: env, loc, ow'⟩ K) : dops P I (⟨some n, .app e sz bytes x y, none⟩ :: os) ⟨env, loc, ow⟩ K := by
  subst hw; subst hx; subst hq
  show dop P I (.app e sz bytes x y) ⟨env, loc, ow⟩ fun r σ' => dops P I os { σ' with env := putE σ'.env (some n) r } K
  simp only [dop]
  refine ⟨xs, h1, h2, ?_⟩
  rw [hs]
  exact ⟨rfl, .inl ⟨he, hb, hk⟩⟩
theorem z_app_full0 {e bytes : Nat} (hs : ev env x = .full sz l) (hx : ev env y = d) (h1 : elems d = some []) (h2 : fitsSz sz d = true)
    (hk : dops P I os ⟨(n, .full sz l) :: env, loc, ow⟩ K) : dops P I (⟨some n, .app e sz bytes x y, none⟩ :: os) ⟨env, loc, ow⟩ K := by
  subst hx
  show dop P I (.app e sz bytes x y) ⟨env, loc, ow⟩ fun r σ' => dops P I os { σ' with env := putE σ'.env (some n) r } K
  simp only [dop]
  refine ⟨[], h1, h2, ?_⟩
  rw [hs]
  exact ⟨rfl, .inr ⟨rfl, hk⟩⟩
theorem z_app_nil {e bytes q : Nat} {xs : List DV} {ow' : List Nat} (hs : ev env x = .v (.slice none 0 0)) (hx : ev env y = d) (h1 : elems d = some xs) (h2 : fitsSz sz d = true) (hb : xs.length * bytes ≤ 140737488355328) (hq : ow.length = q) (hw : ow ++ [xs.length * sz] = ow')
    (hk : dops P I os ⟨(n, .own q e sz xs) :: env, loc, ow'⟩ K) : dops P I (⟨some n, .app e sz bytes x y, none⟩ :: os) ⟨env, loc, ow⟩ K := by
  subst hw; subst hx; subst hq
  show dop P I (.app e sz bytes x y) ⟨env, loc, ow⟩ fun r σ' => dops P I os { σ' with env := putE σ'.env (some n) r } K
  simp only [dop]
  refine ⟨xs, h1, h2, ?_⟩
  rw [hs]
  exact ⟨hb, hk⟩
theorem z_eqs {ng b b' : Bool} {ks : List Nat} {xs ys : Array Value} (hx : ev env x = .v (.agg xs)) (hy : ev env y = .v (.agg ys)) (h : cellsEq ks xs.toList ys.toList = some b) (hb : (if ng = true then !b else b) = b') (hk : dops P I os ⟨(n, .v (.bool b')) :: env, loc, ow⟩ K) : dops P I (⟨some n, .eqs ng ks x y, none⟩ :: os) ⟨env, loc, ow⟩ K :=
  z_neu rfl (by subst hb; simp only [ap, hx, hy]; exact ⟨b, h, hk⟩)
theorem z_fin {rs : List DRes} {L : List DV → Prop} {e : DExit} {ds : List DV} (he : goes e = true) (hr : evRes rs σ = some ds) (hw : L ds) : (e = .normal ∨ e = .ret) ∧ resD rs σ L := ⟨goes_ok he, evRes_ok hr hw⟩
theorem z_pure {g : FuncId} {D : DFun} {as0 : List DV} {e0 : List (Nat × DV)} (hmix : P.follows .mixedOrders = true) (hc : cfun P g = some D) (hlen : Nat.ble as0.length D.n = true) (h0 : env0 0 as0 = e0) (h : dwp P I 0 0 D.code ⟨e0, [], []⟩ (fun e σ => (e = .normal ∨ e = .ret) ∧ resD D.res σ fun ds => Wk (pack ds) r)) : DPure P I g as0 r := by
  subst h0; exact pure_of hmix hc (Nat.le_of_ble_eq_true hlen) h
theorem dpure_mk {g : FuncId} {as0 : List DV} {r : DV} (h1 : callable P g = true) (h2 : ∀ (S : Nat → Nat → Prop) (W : World) (vals : List Value), I.I W → RepL S W noLink as0 vals → Calls P g vals.toArray W fun e W' => ∃ y, e = .returned y ∧ Rep (fun b o => S b o ∨ W.heap.size ≤ b) W' noLink r y ∧ Below W.heap.size W W') : DPure P I g as0 r := ⟨h1, h2⟩
theorem z_eff {g : FuncId} {D : DFun} {as0 : List DV} {e0 : List (Nat × DV)} {l0 l1 : List (List DV)} {w0 w1 : List Nat} {m k : Nat} {r : DV} (hmix : P.follows .mixedOrders = true) (hc : cfun P g = some D) (hlen : Nat.ble as0.length D.n = true) (h0 : env0 0 as0 = e0) (hm : l0.length = m) (hk : w0.length = k) (h : dwp P I m k D.code ⟨e0, l0, w0⟩ (fun e σ => (e = .normal ∨ e = .ret) ∧ resD D.res σ fun ds => Fin m k (pack ds) σ r l1 w1)) : DEff P I g as0 l0 w0 r l1 w1 := by
  subst h0; subst hm; subst hk; exact eff_of hmix hc (Nat.le_of_ble_eq_true hlen) h
end
end Go.Proofs.YtlbodfkhenkcjaaGreatDoor.D


namespace Go.Proofs.YtlbodfkhenkcjaaGreatDoor.D
open Go Go.RowKit

section
variable {P : Program} {I : Inv} {env : List (Nat × DV)} {loc : List (List DV)} {ow : List Nat} {os : List Op1} {K : St → Prop} {n sz : Nat} {r d : DV} {x y i lo hi : Opd} {l : List DV} {k k' : IntKind} {u w : Int}
theorem z_slL_lo (hx : ev env x = d) (h1 : elems d = some l) (h2 : fitsSz sz d = true) (hl : ev env lo = .v (.int k u)) (h : 0 ≤ u ∧ u.toNat ≤ l.length ∧ dops P I os ⟨(n, .list sz (l.drop u.toNat)) :: env, loc, ow⟩ K) : dops P I (⟨some n, .slL sz x (some lo) none none, none⟩ :: os) ⟨env, loc, ow⟩ K :=
  z_slL hx h1 h2 (by simp only [optNat, hl, asNat]; refine ⟨h.1, h.2.1, Nat.le_refl _, Nat.le_refl _, ?_⟩; rw [List.take_length]; exact h.2.2)
theorem z_slL_hi (hx : ev env x = d) (h1 : elems d = some l) (h2 : fitsSz sz d = true) (hh : ev env hi = .v (.int k u)) (h : 0 ≤ u ∧ u.toNat ≤ l.length ∧ dops P I os ⟨(n, .list sz (l.take u.toNat)) :: env, loc, ow⟩ K) : dops P I (⟨some n, .slL sz x none (some hi) none, none⟩ :: os) ⟨env, loc, ow⟩ K :=
  z_slL hx h1 h2 (by simp only [optNat, hh, asNat]; exact ⟨h.1, Nat.zero_le _, h.2.1, Nat.le_refl _, h.2.2⟩)
theorem z_slL_himx {mx : Opd} (hx : ev env x = d) (h1 : elems d = some l) (h2 : fitsSz sz d = true) (hh : ev env hi = .v (.int k u)) (hm : ev env mx = .v (.int k' u)) (h : 0 ≤ u ∧ u.toNat ≤ l.length ∧ dops P I os ⟨(n, .list sz (l.take u.toNat)) :: env, loc, ow⟩ K) : dops P I (⟨some n, .slL sz x none (some hi) (some mx), none⟩ :: os) ⟨env, loc, ow⟩ K :=
  z_slL hx h1 h2 (by simp only [optNat, hh, hm, asNat]; exact ⟨h.1, h.1, Nat.zero_le _, Nat.le_refl _, h.2.1, h.2.2⟩)
theorem z_slL_all {mx : Opd} (hx : ev env x = d) (h1 : elems d = some l) (h2 : fitsSz sz d = true) (hl : ev env lo = .v (.int k w)) (hh : ev env hi = .v (.int k' u)) (hm : ev env mx = .v (.int k' u)) (h : 0 ≤ w ∧ w ≤ u ∧ u.toNat ≤ l.length ∧ dops P I os ⟨(n, .list sz ((l.take u.toNat).drop w.toNat)) :: env, loc, ow⟩ K) : dops P I (⟨some n, .slL sz x (some lo) (some hi) (some mx), none⟩ :: os) ⟨env, loc, ow⟩ K :=
  z_slL hx h1 h2 (by simp only [optNat, hl, hh, hm, asNat]; exact ⟨by omega, by omega, h.1, by omega, Nat.le_refl _, h.2.2.1, h.2.2.2⟩)
theorem z_beq {ng a b c : Bool} (hx : ev env x = .v (.bool a)) (hy : ev env y = .v (.bool b)) (hr : (if ng = true then !(a == b) else a == b) = c) (hk : dops P I os ⟨(n, .v (.bool c)) :: env, loc, ow⟩ K) : dops P I (⟨some n, .beq ng x y, none⟩ :: os) ⟨env, loc, ow⟩ K :=
  z_neu rfl (by subst hr; simp only [ap, hx, hy]; exact hk)
theorem z_not_s {b : Bool} (hx : ev env x = .v (.bool b)) (hk : dops P I os ⟨(n, .v (.bool !b)) :: env, loc, ow⟩ K) : dops P I (⟨some n, .un .not x, none⟩ :: os) ⟨env, loc, ow⟩ K := z_neu rfl (by simp only [ap, hx]; exact ⟨_, rfl, hk⟩)
theorem ltd_ownf {m k z t id e sz : Nat} {env : List (Nat × DV)} (h1 : Nat.ble k id = true) (h2 : Nat.blt id (k + z) = true) (e' : D.look env t = .full sz []) : LtD m k z (D.look env t) (.own id e sz []) := by rw [e']; exact .ownf h1 h2
theorem tid_ne {t t' : TypeId} (h : Nat.beq t' t = false) : ¬ t' = t := fun e => by subst e; simp at h
theorem z_ta_iy {t : TypeId} {z : Value} (hx : ev env x = .ifc t d) (hk : dops P I os ⟨(n, .tup [d, .v (.bool true)]) :: env, loc, ow⟩ K) : dops P I (⟨some n, .ta t true z x, none⟩ :: os) ⟨env, loc, ow⟩ K := z_neu rfl (by simp only [ap, hx, if_true]; exact hk)
theorem z_ta_in {t t' : TypeId} {z : Value} (hx : ev env x = .ifc t' d) (ht : Nat.beq t' t = false) (hk : dops P I os ⟨(n, .v (.tuple #[z, .bool false])) :: env, loc, ow⟩ K) : dops P I (⟨some n, .ta t true z x, none⟩ :: os) ⟨env, loc, ow⟩ K := z_neu rfl (by simp only [ap, hx, if_neg (tid_ne ht)]; exact ⟨trivial, hk⟩)
theorem z_ta_vy {t : TypeId} {z v : Value} (hx : ev env x = .v (.iface t v)) (hk : dops P I os ⟨(n, .v (.tuple #[v, .bool true])) :: env, loc, ow⟩ K) : dops P I (⟨some n, .ta t true z x, none⟩ :: os) ⟨env, loc, ow⟩ K := z_neu rfl (by simp only [ap, hx, if_true]; exact hk)
theorem z_ta_vn {t t' : TypeId} {z v : Value} (hx : ev env x = .v (.iface t' v)) (ht : Nat.beq t' t = false) (hk : dops P I os ⟨(n, .v (.tuple #[z, .bool false])) :: env, loc, ow⟩ K) : dops P I (⟨some n, .ta t true z x, none⟩ :: os) ⟨env, loc, ow⟩ K := z_neu rfl (by simp only [ap, hx, if_neg (tid_ne ht)]; exact ⟨trivial, hk⟩)
theorem z_ta_nil {t : TypeId} {z : Value} (hx : ev env x = .v .nilIface) (hk : dops P I os ⟨(n, .v (.tuple #[z, .bool false])) :: env, loc, ow⟩ K) : dops P I (⟨some n, .ta t true z x, none⟩ :: os) ⟨env, loc, ow⟩ K := z_neu rfl (by simp only [ap, hx]; exact ⟨trivial, hk⟩)
variable {V : Value → Prop}
theorem s_quo {a b : Int} (ha : 0 ≤ a ∧ a ≤ 9223372036854775807) (hb : 0 < b) (hk : V (.int .i64 (a / b))) : ∃ r, dbin .quo (.int .i64 a) (.int .i64 b) = some r ∧ V r := by
  refine ⟨_, ?_, hk⟩
  show (if b = 0 then none else some (Value.int .i64 (IntKind.i64.wrap (a.tdiv b)))) = _
  have h0 := Int.ediv_nonneg ha.1 (Int.le_of_lt hb)
  have h1 := Int.ediv_le_self b ha.1
  rw [if_neg (by omega), Int.tdiv_eq_ediv_of_nonneg ha.1, w_i64 (by omega)]
theorem s_rem {a b : Int} (ha : 0 ≤ a) (hb : 0 < b) (hk : V (.int .i64 (a % b))) : ∃ r, dbin .rem (.int .i64 a) (.int .i64 b) = some r ∧ V r := by
  refine ⟨_, ?_, hk⟩
  show (if b = 0 then none else some (Value.int .i64 (a.tmod b))) = _
  rw [if_neg (by omega), Int.tmod_eq_emod_of_nonneg ha]
theorem s_shli {k' : IntKind} {a y : Int} (m : Nat) (h : y = m) (hm : m ≤ 64) (hb : -9223372036854775808 ≤ a * 2 ^ m ∧ a * 2 ^ m ≤ 9223372036854775807) (hk : V (.int .i64 (a * 2 ^ m))) : ∃ r, dbin .shl (.int .i64 a) (.int k' y) = some r ∧ V r := by
  refine ⟨_, ?_, hk⟩
  subst h
  show dshift .shl .i64 a (m : Int) = _
  unfold dshift
  rw [if_neg (by omega)]
  simp only [Int.toNat_natCast, show min m IntKind.i64.bits = m from Nat.min_eq_left hm]
  rw [w_i64 hb]
theorem z_eqsb {b : Bool} {ks : List Nat} {xs ys : Array Value} (hx : ev env x = .v (.agg xs)) (hy : ev env y = .v (.agg ys)) (h : cellsEq ks xs.toList ys.toList = some b) (h1 : b = true → dops P I os ⟨(n, .v (.bool true)) :: env, loc, ow⟩ K) (h2 : b = false → dops P I os ⟨(n, .v (.bool false)) :: env, loc, ow⟩ K) : dops P I (⟨some n, .eqs false ks x y, none⟩ :: os) ⟨env, loc, ow⟩ K :=
  z_neu rfl (by
    simp only [ap, hx, hy]
    cases b
    · exact ⟨false, h, h2 rfl⟩
    · exact ⟨true, h, h1 rfl⟩)
theorem z_ixr {m kk : Nat} (hi : ev env i = .v (.int k u)) (hx : ev env x = .row kk sz m) (h : 0 ≤ u ∧ u.toNat < m ∧ dops P I os ⟨(n, .lp kk (u.toNat * sz)) :: env, loc, ow⟩ K) : dops P I (⟨some n, .ixa sz x i, none⟩ :: os) ⟨env, loc, ow⟩ K :=
  z_neu rfl (by simp only [ap, hi, hx, asNat, rowOf]; exact ⟨h.1, trivial, h.2.1, h.2.2⟩)
theorem z_lenR {m kk : Nat} (hx : ev env x = .row kk sz m) (hk : dops P I os ⟨(n, .v (.int .i64 m)) :: env, loc, ow⟩ K) : dops P I (⟨some n, .len false x, none⟩ :: os) ⟨env, loc, ow⟩ K :=
  z_neu rfl (by simp only [ap, hx, rowOf, Bool.false_eq_true, if_false]; exact hk)
def xK (P : Program) (I : Inv) (r : List XOp) (K : St → Prop) (σ : St) : Prop := dxops P I r σ K
theorem z_xreg {m0 k0 : Nat} {xs : List XOp} {σ : St} {Q : DExit → St → Prop} (h : dxops P I xs σ (Q .normal)) : dwp P I m0 k0 (.xreg xs) σ Q := h
theorem z_xop {o : Op1} {r : List XOp} {σ : St} (h : dops P I [o] σ (xK P I r K)) : dxops P I (.op o :: r) σ K := h
theorem z_xk {r : List XOp} {σ : St} (h : dxops P I r σ K) : xK P I r K σ := h
theorem z_xnil {σ : St} (h : K σ) : dxops P I [] σ K := h
theorem z_xmks {bytes m : Nat} {z : Value} {c : Opd} {r : List XOp} {q : Nat} {loc' : List (List DV)} (hl : ev env lo = .v (.int k m)) (hc : ev env c = .v (.int k' m)) (hb : m * bytes ≤ 140737488355328) (hq : loc.length = q) (hl' : loc ++ [List.replicate m (.v z)] = loc')
    (hk : dxops P I r ⟨(n, .row q 1 m) :: env, loc', ow⟩ K) : dxops P I (.sp (some n) (.mks bytes z lo c) :: r) ⟨env, loc, ow⟩ K := by
  subst hq; subst hl'; exact ⟨k, k', m, hl, hc, hb, hk⟩
theorem z_xcall {f : FuncId} {args : List Opd} {r : List XOp} (h : dops P I [⟨some n, .call f args, none⟩] ⟨env, loc, ow⟩ (xK P I r K)) : dxops P I (.sp (some n) (.callr f args) :: r) ⟨env, loc, ow⟩ K := .inl h
theorem z_xown {f : FuncId} {args : List Opd} {es : List DV} {r : List XOp} {q : Nat} {cs : List DV} (hd : DOwn P I f es sz l) (hw : WkL (args.map (ev env)) es) (hne : l.isEmpty = false) (hp : plainC cs = true) (hcs : l.flatMap DV.cells = cs) (hq : loc.length = q)
    (hk : ∀ t, dxops P I r ⟨(n, .row q sz l.length) :: env, loc ++ [cs ++ List.replicate t .u], ow⟩ K) : dxops P I (.sp (some n) (.callr f args) :: r) ⟨env, loc, ow⟩ K := by
  subst hq; subst hcs; exact .inr ⟨es, sz, l, hw, hd, hne, hp, hk⟩
theorem z_xapp {e bytes : Nat} {r : List XOp} (h : dops P I [⟨some n, .app e sz bytes x y, none⟩] ⟨env, loc, ow⟩ (xK P I r K)) : dxops P I (.sp (some n) (.appr e sz bytes x y) :: r) ⟨env, loc, ow⟩ K := .inl h
theorem z_ghf {m0 k0 : Nat} {Q : DExit → St → Prop} (k sz m : Nat) (l : List DV) (h1 : frzOk k sz l ⟨env, loc, ow⟩) (h2 : m = l.length) (h3 : rowsE k sz m env) (h4 : rowsLL k sz m loc) (h : Q .normal ⟨frzE k sz l env, (loc.map fun cs => cs.map (frzD k sz l)).set k [], ow⟩) : dwp P I m0 k0 .gh ⟨env, loc, ow⟩ Q :=
  .inr ⟨k, sz, m, l, h1, h2, h3, h4, h⟩
theorem z_st1 {loc' : List (List DV)} {kk off : Nat} {cs : List DV} {v : Value} (ha : ev env x = .lp kk off) (hcs : loc[kk]? = some cs) (hx : ev env y = .v v) (hv : (DV.v v).cells = [.v v]) (ho : (DV.v v).one = true) (hb : off + 1 ≤ cs.length) (hl : loc.set kk (cs.take off ++ [.v v] ++ cs.drop (off + 1)) = loc')
    (hk : dops P I os ⟨env, loc', ow⟩ K) : dops P I (⟨none, .st 1 x y, none⟩ :: os) ⟨env, loc, ow⟩ K := by
  subst hl
  show dop P I (.st 1 x y) ⟨env, loc, ow⟩ fun r σ' => dops P I os { σ' with env := putE σ'.env none r } K
  simp only [dop, ha]
  refine ⟨cs, hcs, ?_, ?_⟩
  · rw [hx, hv]
    simp only [Bool.and_eq_true, List.all_cons, List.all_nil, Bool.and_true, ho]
    exact ⟨Nat.ble_eq_true_of_le hb, rfl⟩
  · rw [hx, hv]
    exact hk
theorem down_pure {f : FuncId} {es : List DV} (h : DOwn P I f es sz l) : DPure P I f es (.list sz l) := by
  obtain ⟨e0, loc', ow', hp, _⟩ := h
  refine ⟨hp.1, fun S W vals hI hr => ?_⟩
  have hs1 : Sim I ⟨W, S⟩ noLink W [] [] := ⟨hI, Below.refl _ _, rfl, fun k b h => by simp [noLink] at h, fun j k b h => by simp [noLink] at h, fun k cs h => by simp at h, rfl, fun id N g h => by simp [noLink] at h, fun i j N M g h => by simp [noLink] at h, fun k b h => by simp [noLink] at h, fun b h => by simp [noLink] at h⟩
  have hr1 : RepL (stab ⟨W, S⟩ noLink) W noLink es vals := hr.step ⟨fun b o y h1 h2 => ⟨.inl ⟨cell_lt h2, h1⟩, h2⟩, fun _ _ h => h, fun id N C h => by simp [noLink] at h⟩
  refine (hp.2 ⟨W, S⟩ W noLink vals hs1 hr1).mono fun e W' ⟨y, L1, he, h1, h2, h3⟩ => ⟨y, he, ?_, h1.below⟩
  refine (h3.wk (.own _ _ _ _)).step ⟨fun b o z k1 k2 => ⟨?_, k2⟩, fun _ _ h => h, fun id N C h => by simp [noLink] at h⟩
  rcases k1 with ⟨_, k1⟩ | ⟨k1, _⟩
  · exact .inl k1
  · exact .inr k1
theorem tup2w {d x1 x2 y1 y2 : DV} (h : d = .tup [x1, x2]) (h1 : Wk x1 y1) (h2 : Wk x2 y2) : Wk d (.tup [y1, y2]) := by
  subst h; exact .tupL (.cons h1 (.cons h2 .nil))
theorem tup3w {d x1 x2 x3 y1 y2 y3 : DV} (h : d = .tup [x1, x2, x3]) (h1 : Wk x1 y1) (h2 : Wk x2 y2) (h3 : Wk x3 y3) : Wk d (.tup [y1, y2, y3]) := by
  subst h; exact .tupL (.cons h1 (.cons h2 (.cons h3 .nil)))
theorem wk_eq {d e r : DV} (h : d = e) (w : Wk e r) : Wk d r := by subst h; exact w
theorem wk_own {d : DV} {id e sz : Nat} {l l' : List DV} (h : d = .own id e sz l) (he : l = l') : Wk d (.list sz l') := by subst h; subst he; exact .own _ _ _ _
theorem wk_list {d : DV} {sz : Nat} {l l' : List DV} (h : d = .list sz l) (he : l = l') : Wk d (.list sz l') := by subst h; subst he; exact .list _ _
end
end Go.Proofs.YtlbodfkhenkcjaaGreatDoor.D


namespace Go.Proofs.YtlbodfkhenkcjaaGreatDoor.D
open Go Go.RowKit
inductive Br (a b : Prop) : Prop where
  | mk : a → b → Br a b
theorem Br.l {a b : Prop} (h : Br a b) : a := by cases h; assumption
theorem Br.r {a b : Prop} (h : Br a b) : b := by cases h; assumption
inductive HidQ (q : Prop) : Prop where
  | mk : q → HidQ q
theorem HidQ.out {q : Prop} (h : HidQ q) : q := by cases h; assumption
theorem sd {p : Prop} (h : p := by
  first | omega | (dsimp only; omega) | (simp only [ByteArray.size_append, ByteArray.size_extract, strOfNums_size, List.length_cons, List.length_nil, List.length_map, List.length_append, List.length_take, List.length_drop]; omega)) : p := h
section
variable {P : Program} {I : Inv} {m0 k0 : Nat} {a b : DCode} {σ : St} {Q : DExit → St → Prop} {X : St → Prop} {id j : Nat}
variable {c : Opd} {env : List (Nat × DV)} {loc : List (List DV)} {ow : List Nat}
variable {os : List Op1} {K : St → Prop} {n : Nat} {r : DV}
variable {x y i lo hi : Opd} {sz off o kk j' : Nat} {k k' : IntKind} {va vb : Value} {d : DV} {s : ByteArray} {l : List DV} {cs : List DV} {u w : Int}
variable {f : FuncId} {args : List Opd} {es : List DV}

theorem z_condB {t : Bool} (hc : ev env c = .v (.bool t)) (h : Br (t = true → dwp P I m0 k0 a ⟨env, loc, ow⟩ Q) (t = false → dwp P I m0 k0 b ⟨env, loc, ow⟩ Q)) : dwp P I m0 k0 (.cond c a b) ⟨env, loc, ow⟩ Q := z_cond hc h.l h.r
section
variable {K : Value → Prop} {k : IntKind} {a b : Int} {s t : ByteArray}
theorem s_lssB (h : Br (a < b → K (.bool true)) (¬ a < b → K (.bool false))) : ∃ r, dbin .lss (.int k a) (.int k b) = some r ∧ K r := s_lss h.l h.r
theorem s_leqB (h : Br (a ≤ b → K (.bool true)) (¬ a ≤ b → K (.bool false))) : ∃ r, dbin .leq (.int k a) (.int k b) = some r ∧ K r := s_leq h.l h.r
theorem s_gtrB (h : Br (b < a → K (.bool true)) (¬ b < a → K (.bool false))) : ∃ r, dbin .gtr (.int k a) (.int k b) = some r ∧ K r := s_gtr h.l h.r
theorem s_geqB (h : Br (b ≤ a → K (.bool true)) (¬ b ≤ a → K (.bool false))) : ∃ r, dbin .geq (.int k a) (.int k b) = some r ∧ K r := s_geq h.l h.r
theorem s_eqlB (h : Br (a = b → K (.bool true)) (¬ a = b → K (.bool false))) : ∃ r, dbin .eql (.int k a) (.int k b) = some r ∧ K r := s_eql h.l h.r
theorem s_neqB (h : Br (a = b → K (.bool false)) (¬ a = b → K (.bool true))) : ∃ r, dbin .neq (.int k a) (.int k b) = some r ∧ K r := s_neq h.l h.r
theorem s_seqlB (h : Br (s = t → K (.bool true)) (¬ s = t → K (.bool false))) : ∃ r, dbin .eql (.string s) (.string t) = some r ∧ K r := s_seql h.l h.r
theorem s_sneqB (h : Br (s = t → K (.bool false)) (¬ s = t → K (.bool true))) : ∃ r, dbin .neq (.string s) (.string t) = some r ∧ K r := s_sneq h.l h.r
theorem s_slssB (h : Br (sLt s t → K (.bool true)) (¬ sLt s t → K (.bool false))) : ∃ r, dbin .lss (.string s) (.string t) = some r ∧ K r := s_slss h.l h.r
theorem s_sgeqB (h : Br (sLt s t → K (.bool false)) (¬ sLt s t → K (.bool true))) : ∃ r, dbin .geq (.string s) (.string t) = some r ∧ K r := s_sgeq h.l h.r
end
theorem g_ops (h : dops P I os σ K) : dops P I os σ K := h
theorem g_bin {op : BinOp} {V : Value → Prop} (h : ∃ r, dbin op va vb = some r ∧ V r) : ∃ r, dbin op va vb = some r ∧ V r := h
end
attribute [local irreducible] dops dwp dxops optNat seqQ blkQ lopQ xK ap dop dop1
set_option maxHeartbeats 1000000
theorem zs {p q : Prop} (hq : q) (h : HidQ q → p := by
  intro hq_
  repeat1' first
  | ((with_reducible apply g_ops); first
    | ((with_reducible apply z_mv); (case h => (conv => {lhs; whnf}) <;> exact rfl))
    | ((with_reducible apply z_ld); (case h | hc | hd => (conv => {lhs; whnf}) <;> exact rfl))
    | ((with_reducible apply z_fa); (case h => (conv => {lhs; whnf}) <;> exact rfl))
    | ((with_reducible apply z_g); (case hg => exact rfl))
    | ((with_reducible apply z_gf); (case hg => exact rfl))
    | ((with_reducible apply z_gt); (case hg => exact rfl))
    | (with_reducible apply z_nil)
    | ((with_reducible apply z_bin); (case hx | hy => (conv => {lhs; whnf}) <;> exact rfl))
    | ((with_reducible apply z_lde); (case h | hd => (conv => {lhs; whnf}) <;> exact rfl))
    | ((with_reducible apply z_fae); (case h => (conv => {lhs; whnf}) <;> exact rfl))
    | ((with_reducible apply z_lda); (case h | hc => (conv => {lhs; whnf}) <;> exact rfl); (case hb => exact rfl); (case hr => (conv => {lhs; whnf}) <;> exact rfl))
    | ((with_reducible apply z_pick_t); (case hc => exact rfl); (case h => (conv => {lhs; whnf}) <;> exact rfl))
    | ((with_reducible apply z_pick_f); (case hc => exact rfl); (case h => (conv => {lhs; whnf}) <;> exact rfl))
    | ((with_reducible apply z_ixa); (case hi | hx | h1 => (conv => {lhs; whnf}) <;> exact rfl); (case h2 => exact rfl))
    | ((with_reducible apply z_ldea); (case h => (conv => {lhs; whnf}) <;> exact rfl); (case hb => exact rfl); (case hr => (conv => {lhs; whnf}) <;> exact rfl))
    | ((with_reducible apply z_lenL); (case hx | h => (conv => {lhs; whnf}) <;> exact rfl))
    | ((with_reducible apply z_lenS); (case hx => (conv => {lhs; whnf}) <;> exact rfl))
    | ((with_reducible apply z_ext0); (case hx => (conv => {lhs; whnf}) <;> exact rfl))
    | ((with_reducible apply z_ext1); (case hx => (conv => {lhs; whnf}) <;> exact rfl))
    | ((with_reducible apply z_ext2); (case hx => (conv => {lhs; whnf}) <;> exact rfl))
    | ((with_reducible apply z_extt); (case hx | h => (conv => {lhs; whnf}) <;> exact rfl))
    | ((with_reducible apply z_cvt); (case hx => (conv => {lhs; whnf}) <;> exact rfl))
    | ((with_reducible apply z_slS); (case hx => (conv => {lhs; whnf}) <;> exact rfl))
    | ((with_reducible apply z_flda); (case hx | hc => (conv => {lhs; whnf}) <;> exact rfl); (case hb => exact rfl); (case hr => (conv => {lhs; whnf}) <;> exact rfl))
    | ((with_reducible apply z_fld); (case hx | hc | hd => (conv => {lhs; whnf}) <;> exact rfl))
    | ((with_reducible apply z_isnil); (case hx | h | hb => (conv => {lhs; whnf}) <;> exact rfl))
    | ((with_reducible apply z_bld); (case hp => exact rfl); (case h1 => (conv => {lhs; whnf}) <;> exact rfl); (case h2 => exact rfl); (case hr => (conv => {lhs; whnf}) <;> exact rfl))
    | ((with_reducible apply z_box); (case hx => (conv => {lhs; whnf}) <;> exact rfl); (case hu => exact rfl); (case hc | hq | hl => (conv => {lhs; whnf}) <;> exact rfl))
    | ((with_reducible apply z_st); (case ha | hcs | hx => (conv => {lhs; whnf}) <;> exact rfl); (case hb => exact rfl); (case hl => (conv => {lhs; whnf}) <;> exact rfl))
    | ((with_reducible apply z_mki); (case hx | hr => (conv => {lhs; whnf}) <;> exact rfl))
    | ((with_reducible apply z_ixs); (case hi | hx => (conv => {lhs; whnf}) <;> exact rfl))
    | ((with_reducible apply z_app_own); (case hs | hx | h1 => (conv => {lhs; whnf}) <;> exact rfl); (case h2 | ho => exact rfl); (case hb => exact sd); (case hw => (conv => {lhs; whnf}) <;> exact rfl))
    | ((with_reducible apply z_bsl); (case h1 => (conv => {lhs; whnf}) <;> exact rfl); (case h2 => exact rfl))
    | ((with_reducible apply z_not_t); (case hx => exact rfl))
    | ((with_reducible apply z_not_f); (case hx => exact rfl))
    | ((with_reducible apply z_zero); (case hc | hq | hl => (conv => {lhs; whnf}) <;> exact rfl))
    | ((with_reducible apply z_gu); (case hg => (conv => {lhs; whnf}) <;> exact rfl))
    | ((with_reducible apply z_nilc); (case h => (conv => {lhs; whnf}) <;> exact rfl))
    | ((with_reducible apply z_nilce); (case h => (conv => {lhs; whnf}) <;> exact rfl))
    | ((with_reducible apply z_nilci); (case h => (conv => {lhs; whnf}) <;> exact rfl))
    | ((with_reducible apply z_nilcf); (case h => (conv => {lhs; whnf}) <;> exact rfl))
    | ((with_reducible apply z_not_s); (case hx => (conv => {lhs; whnf}) <;> exact rfl))
    | ((with_reducible apply z_beq); (case hx | hy | hr => (conv => {lhs; whnf}) <;> exact rfl))
    | ((with_reducible apply z_s2b); (case hx => (conv => {lhs; whnf}) <;> exact rfl))
    | ((with_reducible apply z_b2s); (case hx | h1 => (conv => {lhs; whnf}) <;> exact rfl); (case h2 | h3 => exact rfl))
    | ((with_reducible apply z_mkf); (case h => (conv => {lhs; whnf}) <;> exact rfl))
    | ((with_reducible apply z_slL_lo); (case hx | h1 => (conv => {lhs; whnf}) <;> exact rfl); (case h2 => exact rfl); (case hl => (conv => {lhs; whnf}) <;> exact rfl))
    | ((with_reducible apply z_slL_hi); (case hx | h1 => (conv => {lhs; whnf}) <;> exact rfl); (case h2 => exact rfl); (case hh => (conv => {lhs; whnf}) <;> exact rfl))
    | ((with_reducible apply z_slL_himx); (case hx | h1 => (conv => {lhs; whnf}) <;> exact rfl); (case h2 => exact rfl); (case hh | hm => (conv => {lhs; whnf}) <;> exact rfl))
    | ((with_reducible apply z_slL_all); (case hx | h1 => (conv => {lhs; whnf}) <;> exact rfl); (case h2 => exact rfl); (case hl | hh | hm => (conv => {lhs; whnf}) <;> exact rfl))
    | ((with_reducible apply z_slL); (case hx | h1 => (conv => {lhs; whnf}) <;> exact rfl); (case h2 => exact rfl))
    | ((with_reducible apply z_ixp); (case hi | hx => (conv => {lhs; whnf}) <;> exact rfl))
    | ((with_reducible apply z_min); (case hx | hy => (conv => {lhs; whnf}) <;> exact rfl))
    | ((with_reducible apply z_max); (case hx | hy => (conv => {lhs; whnf}) <;> exact rfl))
    | ((with_reducible apply z_ixr); (case hi | hx => (conv => {lhs; whnf}) <;> exact rfl))
    | ((with_reducible apply z_lenR); (case hx => (conv => {lhs; whnf}) <;> exact rfl))
    | ((with_reducible apply z_ta_iy); (case hx => (conv => {lhs; whnf}) <;> exact rfl))
    | ((with_reducible apply z_ta_in); (case hx => (conv => {lhs; whnf}) <;> exact rfl); (case ht => exact rfl))
    | ((with_reducible apply z_ta_vy); (case hx => (conv => {lhs; whnf}) <;> exact rfl))
    | ((with_reducible apply z_ta_vn); (case hx => (conv => {lhs; whnf}) <;> exact rfl); (case ht => exact rfl))
    | ((with_reducible apply z_ta_nil); (case hx => (conv => {lhs; whnf}) <;> exact rfl))
    | ((with_reducible apply z_app_full); (case hs | hx | h1 => (conv => {lhs; whnf}) <;> exact rfl); (case h2 | he => exact rfl); (case hb => exact sd); (case hq | hw => (conv => {lhs; whnf}) <;> exact rfl))
    | ((with_reducible apply z_app_full0); (case hs | hx | h1 => (conv => {lhs; whnf}) <;> exact rfl); (case h2 => exact rfl))
    | ((with_reducible apply z_app_nil); (case hs | hx | h1 => (conv => {lhs; whnf}) <;> exact rfl); (case h2 => exact rfl); (case hb => exact sd); (case hq | hw => (conv => {lhs; whnf}) <;> exact rfl))
    | ((with_reducible apply z_eqs); (case hx | hy | h | hb => (conv => {lhs; whnf}) <;> exact rfl)))
  | ((with_reducible first
    | apply z_seq
    | apply z_seqn
    | apply z_seqx
    | apply z_seqr
    | apply z_blk
    | apply z_blkn
    | apply z_blkr
    | apply z_blkh
    | apply z_lopn
    | apply z_lopx
    | apply z_lopr
    | apply z_skip
    | apply z_exit
    | apply z_ret
    | apply z_reg
    | apply z_opt_n
    | apply z_xreg
    | apply z_xop
    | apply z_xk
    | apply z_xnil
    | apply z_xapp
    | apply z_xcall))
  | ((with_reducible apply g_bin); first
    | (with_reducible refine s_quo (by omega) (by decide) ?_)
    | (with_reducible refine s_rem (by omega) (by decide) ?_)
    | (with_reducible refine s_shli 8 rfl (by decide) (by omega) ?_)
    | (with_reducible refine s_lss_t (by omega) ?_)
    | (with_reducible refine s_lss_f (by omega) ?_)
    | ((with_reducible refine s_lssB ?_); exact hq_.out)
    | (with_reducible refine s_leq_t (by omega) ?_)
    | (with_reducible refine s_leq_f (by omega) ?_)
    | ((with_reducible refine s_leqB ?_); exact hq_.out)
    | (with_reducible refine s_gtr_t (by omega) ?_)
    | (with_reducible refine s_gtr_f (by omega) ?_)
    | ((with_reducible refine s_gtrB ?_); exact hq_.out)
    | (with_reducible refine s_geq_t (by omega) ?_)
    | (with_reducible refine s_geq_f (by omega) ?_)
    | ((with_reducible refine s_geqB ?_); exact hq_.out)
    | (with_reducible refine s_eql_t (by omega) ?_)
    | (with_reducible refine s_eql_f (by omega) ?_)
    | ((with_reducible refine s_eqlB ?_); exact hq_.out)
    | (with_reducible refine s_neq_t (by omega) ?_)
    | (with_reducible refine s_neq_f (by omega) ?_)
    | ((with_reducible refine s_neqB ?_); exact hq_.out)
    | (with_reducible refine s_add sd ?_)
    | (with_reducible refine s_sub sd ?_)
    | (with_reducible refine s_mul sd ?_)
    | (with_reducible refine s_addu (by omega) ?_)
    | (with_reducible refine s_subu (by omega) ?_)
    | ((with_reducible refine s_seqlB ?_); exact hq_.out)
    | ((with_reducible refine s_sneqB ?_); exact hq_.out)
    | ((with_reducible refine s_slssB ?_); exact hq_.out)
    | ((with_reducible refine s_sgeqB ?_); exact hq_.out)
    | (with_reducible refine s_cat (by first | omega | (dsimp only; omega) | (simp only [ByteArray.size_append, ByteArray.size_extract, strOfNums_size, List.length_cons, List.length_nil, List.length_map]; omega)) ?_))
  | ((with_reducible apply z_blkm); (case hne => exact rfl))
  | ((with_reducible apply z_cond_t); (case hc => exact rfl))
  | ((with_reducible apply z_cond_f); (case hc => exact rfl))
  | ((with_reducible apply z_condB); (case hc => (conv => {lhs; whnf}) <;> exact rfl))
  | ((with_reducible apply z_xmks); (case hl | hc => (conv => {lhs; whnf}) <;> exact rfl); (case hb => exact sd); (case hq | hl' => (conv => {lhs; whnf}) <;> exact rfl))
  | (with_reducible refine c_i64_b ?_)
  | (with_reducible refine c_u64_b ?_)
  | (with_reducible refine c_u32_b ?_)
  | (with_reducible refine c_i64 sd ?_)
  | (with_reducible refine c_u64 sd ?_)
  | (with_reducible refine c_u32 sd ?_)
  | ((with_reducible apply z_opt_s); (case hx => (conv => {lhs; whnf}) <;> exact rfl); (case h0 => exact sd))
  | ((with_reducible apply z_fin); (case he => exact rfl); (case hr => (conv => {lhs; whnf}) <;> exact rfl))
  | (refine And.intro (by omega) ?_)
  | (refine And.intro (by dsimp only; omega) ?_)
  | (refine And.intro (by decide) ?_)
  | (refine And.intro (by simp only [ByteArray.size_append, ByteArray.size_extract, strOfNums_size, List.length_cons, List.length_nil, List.length_map, List.length_append, List.length_take, List.length_drop]; omega) ?_)
  | fail
  all_goals exact hq_.out) : p := h ⟨hq⟩
theorem z1 {p q : Prop} (hq : q) (h : HidQ q → p := by
  intro hq_
  first
  | ((with_reducible apply g_ops); first
    | ((with_reducible apply z_mv); (case h => (conv => {lhs; whnf}) <;> exact rfl))
    | ((with_reducible apply z_ld); (case h | hc | hd => (conv => {lhs; whnf}) <;> exact rfl))
    | ((with_reducible apply z_fa); (case h => (conv => {lhs; whnf}) <;> exact rfl))
    | ((with_reducible apply z_g); (case hg => exact rfl))
    | ((with_reducible apply z_gf); (case hg => exact rfl))
    | ((with_reducible apply z_gt); (case hg => exact rfl))
    | (with_reducible apply z_nil)
    | ((with_reducible apply z_bin); (case hx | hy => (conv => {lhs; whnf}) <;> exact rfl))
    | ((with_reducible apply z_lde); (case h | hd => (conv => {lhs; whnf}) <;> exact rfl))
    | ((with_reducible apply z_fae); (case h => (conv => {lhs; whnf}) <;> exact rfl))
    | ((with_reducible apply z_lda); (case h | hc => (conv => {lhs; whnf}) <;> exact rfl); (case hb => exact rfl); (case hr => (conv => {lhs; whnf}) <;> exact rfl))
    | ((with_reducible apply z_pick_t); (case hc => exact rfl); (case h => (conv => {lhs; whnf}) <;> exact rfl))
    | ((with_reducible apply z_pick_f); (case hc => exact rfl); (case h => (conv => {lhs; whnf}) <;> exact rfl))
    | ((with_reducible apply z_ixa); (case hi | hx | h1 => (conv => {lhs; whnf}) <;> exact rfl); (case h2 => exact rfl))
    | ((with_reducible apply z_ldea); (case h => (conv => {lhs; whnf}) <;> exact rfl); (case hb => exact rfl); (case hr => (conv => {lhs; whnf}) <;> exact rfl))
    | ((with_reducible apply z_lenL); (case hx | h => (conv => {lhs; whnf}) <;> exact rfl))
    | ((with_reducible apply z_lenS); (case hx => (conv => {lhs; whnf}) <;> exact rfl))
    | ((with_reducible apply z_ext0); (case hx => (conv => {lhs; whnf}) <;> exact rfl))
    | ((with_reducible apply z_ext1); (case hx => (conv => {lhs; whnf}) <;> exact rfl))
    | ((with_reducible apply z_ext2); (case hx => (conv => {lhs; whnf}) <;> exact rfl))
    | ((with_reducible apply z_extt); (case hx | h => (conv => {lhs; whnf}) <;> exact rfl))
    | ((with_reducible apply z_cvt); (case hx => (conv => {lhs; whnf}) <;> exact rfl))
    | ((with_reducible apply z_slS); (case hx => (conv => {lhs; whnf}) <;> exact rfl))
    | ((with_reducible apply z_flda); (case hx | hc => (conv => {lhs; whnf}) <;> exact rfl); (case hb => exact rfl); (case hr => (conv => {lhs; whnf}) <;> exact rfl))
    | ((with_reducible apply z_fld); (case hx | hc | hd => (conv => {lhs; whnf}) <;> exact rfl))
    | ((with_reducible apply z_isnil); (case hx | h | hb => (conv => {lhs; whnf}) <;> exact rfl))
    | ((with_reducible apply z_bld); (case hp => exact rfl); (case h1 => (conv => {lhs; whnf}) <;> exact rfl); (case h2 => exact rfl); (case hr => (conv => {lhs; whnf}) <;> exact rfl))
    | ((with_reducible apply z_box); (case hx => (conv => {lhs; whnf}) <;> exact rfl); (case hu => exact rfl); (case hc | hq | hl => (conv => {lhs; whnf}) <;> exact rfl))
    | ((with_reducible apply z_st); (case ha | hcs | hx => (conv => {lhs; whnf}) <;> exact rfl); (case hb => exact rfl); (case hl => (conv => {lhs; whnf}) <;> exact rfl))
    | ((with_reducible apply z_mki); (case hx | hr => (conv => {lhs; whnf}) <;> exact rfl))
    | ((with_reducible apply z_ixs); (case hi | hx => (conv => {lhs; whnf}) <;> exact rfl))
    | ((with_reducible apply z_app_own); (case hs | hx | h1 => (conv => {lhs; whnf}) <;> exact rfl); (case h2 | ho => exact rfl); (case hb => exact sd); (case hw => (conv => {lhs; whnf}) <;> exact rfl))
    | ((with_reducible apply z_bsl); (case h1 => (conv => {lhs; whnf}) <;> exact rfl); (case h2 => exact rfl))
    | ((with_reducible apply z_not_t); (case hx => exact rfl))
    | ((with_reducible apply z_not_f); (case hx => exact rfl))
    | ((with_reducible apply z_zero); (case hc | hq | hl => (conv => {lhs; whnf}) <;> exact rfl))
    | ((with_reducible apply z_gu); (case hg => (conv => {lhs; whnf}) <;> exact rfl))
    | ((with_reducible apply z_nilc); (case h => (conv => {lhs; whnf}) <;> exact rfl))
    | ((with_reducible apply z_nilce); (case h => (conv => {lhs; whnf}) <;> exact rfl))
    | ((with_reducible apply z_nilci); (case h => (conv => {lhs; whnf}) <;> exact rfl))
    | ((with_reducible apply z_nilcf); (case h => (conv => {lhs; whnf}) <;> exact rfl))
    | ((with_reducible apply z_not_s); (case hx => (conv => {lhs; whnf}) <;> exact rfl))
    | ((with_reducible apply z_beq); (case hx | hy | hr => (conv => {lhs; whnf}) <;> exact rfl))
    | ((with_reducible apply z_s2b); (case hx => (conv => {lhs; whnf}) <;> exact rfl))
    | ((with_reducible apply z_b2s); (case hx | h1 => (conv => {lhs; whnf}) <;> exact rfl); (case h2 | h3 => exact rfl))
    | ((with_reducible apply z_mkf); (case h => (conv => {lhs; whnf}) <;> exact rfl))
    | ((with_reducible apply z_slL_lo); (case hx | h1 => (conv => {lhs; whnf}) <;> exact rfl); (case h2 => exact rfl); (case hl => (conv => {lhs; whnf}) <;> exact rfl))
    | ((with_reducible apply z_slL_hi); (case hx | h1 => (conv => {lhs; whnf}) <;> exact rfl); (case h2 => exact rfl); (case hh => (conv => {lhs; whnf}) <;> exact rfl))
    | ((with_reducible apply z_slL_himx); (case hx | h1 => (conv => {lhs; whnf}) <;> exact rfl); (case h2 => exact rfl); (case hh | hm => (conv => {lhs; whnf}) <;> exact rfl))
    | ((with_reducible apply z_slL_all); (case hx | h1 => (conv => {lhs; whnf}) <;> exact rfl); (case h2 => exact rfl); (case hl | hh | hm => (conv => {lhs; whnf}) <;> exact rfl))
    | ((with_reducible apply z_slL); (case hx | h1 => (conv => {lhs; whnf}) <;> exact rfl); (case h2 => exact rfl))
    | ((with_reducible apply z_ixp); (case hi | hx => (conv => {lhs; whnf}) <;> exact rfl))
    | ((with_reducible apply z_min); (case hx | hy => (conv => {lhs; whnf}) <;> exact rfl))
    | ((with_reducible apply z_max); (case hx | hy => (conv => {lhs; whnf}) <;> exact rfl))
    | ((with_reducible apply z_ixr); (case hi | hx => (conv => {lhs; whnf}) <;> exact rfl))
    | ((with_reducible apply z_lenR); (case hx => (conv => {lhs; whnf}) <;> exact rfl))
    | ((with_reducible apply z_ta_iy); (case hx => (conv => {lhs; whnf}) <;> exact rfl))
    | ((with_reducible apply z_ta_in); (case hx => (conv => {lhs; whnf}) <;> exact rfl); (case ht => exact rfl))
    | ((with_reducible apply z_ta_vy); (case hx => (conv => {lhs; whnf}) <;> exact rfl))
    | ((with_reducible apply z_ta_vn); (case hx => (conv => {lhs; whnf}) <;> exact rfl); (case ht => exact rfl))
    | ((with_reducible apply z_ta_nil); (case hx => (conv => {lhs; whnf}) <;> exact rfl))
    | ((with_reducible apply z_app_full); (case hs | hx | h1 => (conv => {lhs; whnf}) <;> exact rfl); (case h2 | he => exact rfl); (case hb => exact sd); (case hq | hw => (conv => {lhs; whnf}) <;> exact rfl))
    | ((with_reducible apply z_app_full0); (case hs | hx | h1 => (conv => {lhs; whnf}) <;> exact rfl); (case h2 => exact rfl))
    | ((with_reducible apply z_app_nil); (case hs | hx | h1 => (conv => {lhs; whnf}) <;> exact rfl); (case h2 => exact rfl); (case hb => exact sd); (case hq | hw => (conv => {lhs; whnf}) <;> exact rfl))
    | ((with_reducible apply z_eqs); (case hx | hy | h | hb => (conv => {lhs; whnf}) <;> exact rfl)))
  | ((with_reducible first
    | apply z_seq
    | apply z_seqn
    | apply z_seqx
    | apply z_seqr
    | apply z_blk
    | apply z_blkn
    | apply z_blkr
    | apply z_blkh
    | apply z_lopn
    | apply z_lopx
    | apply z_lopr
    | apply z_skip
    | apply z_exit
    | apply z_ret
    | apply z_reg
    | apply z_opt_n
    | apply z_xreg
    | apply z_xop
    | apply z_xk
    | apply z_xnil
    | apply z_xapp
    | apply z_xcall))
  | ((with_reducible apply g_bin); first
    | (with_reducible refine s_quo (by omega) (by decide) ?_)
    | (with_reducible refine s_rem (by omega) (by decide) ?_)
    | (with_reducible refine s_shli 8 rfl (by decide) (by omega) ?_)
    | (with_reducible refine s_lss_t (by omega) ?_)
    | (with_reducible refine s_lss_f (by omega) ?_)
    | ((with_reducible refine s_lssB ?_); exact hq_.out)
    | (with_reducible refine s_leq_t (by omega) ?_)
    | (with_reducible refine s_leq_f (by omega) ?_)
    | ((with_reducible refine s_leqB ?_); exact hq_.out)
    | (with_reducible refine s_gtr_t (by omega) ?_)
    | (with_reducible refine s_gtr_f (by omega) ?_)
    | ((with_reducible refine s_gtrB ?_); exact hq_.out)
    | (with_reducible refine s_geq_t (by omega) ?_)
    | (with_reducible refine s_geq_f (by omega) ?_)
    | ((with_reducible refine s_geqB ?_); exact hq_.out)
    | (with_reducible refine s_eql_t (by omega) ?_)
    | (with_reducible refine s_eql_f (by omega) ?_)
    | ((with_reducible refine s_eqlB ?_); exact hq_.out)
    | (with_reducible refine s_neq_t (by omega) ?_)
    | (with_reducible refine s_neq_f (by omega) ?_)
    | ((with_reducible refine s_neqB ?_); exact hq_.out)
    | (with_reducible refine s_add sd ?_)
    | (with_reducible refine s_sub sd ?_)
    | (with_reducible refine s_mul sd ?_)
    | (with_reducible refine s_addu (by omega) ?_)
    | (with_reducible refine s_subu (by omega) ?_)
    | ((with_reducible refine s_seqlB ?_); exact hq_.out)
    | ((with_reducible refine s_sneqB ?_); exact hq_.out)
    | ((with_reducible refine s_slssB ?_); exact hq_.out)
    | ((with_reducible refine s_sgeqB ?_); exact hq_.out)
    | (with_reducible refine s_cat (by first | omega | (dsimp only; omega) | (simp only [ByteArray.size_append, ByteArray.size_extract, strOfNums_size, List.length_cons, List.length_nil, List.length_map]; omega)) ?_))
  | ((with_reducible apply z_blkm); (case hne => exact rfl))
  | ((with_reducible apply z_cond_t); (case hc => exact rfl))
  | ((with_reducible apply z_cond_f); (case hc => exact rfl))
  | ((with_reducible apply z_condB); (case hc => (conv => {lhs; whnf}) <;> exact rfl))
  | ((with_reducible apply z_xmks); (case hl | hc => (conv => {lhs; whnf}) <;> exact rfl); (case hb => exact sd); (case hq | hl' => (conv => {lhs; whnf}) <;> exact rfl))
  | (with_reducible refine c_i64_b ?_)
  | (with_reducible refine c_u64_b ?_)
  | (with_reducible refine c_u32_b ?_)
  | (with_reducible refine c_i64 sd ?_)
  | (with_reducible refine c_u64 sd ?_)
  | (with_reducible refine c_u32 sd ?_)
  | ((with_reducible apply z_opt_s); (case hx => (conv => {lhs; whnf}) <;> exact rfl); (case h0 => exact sd))
  | ((with_reducible apply z_fin); (case he => exact rfl); (case hr => (conv => {lhs; whnf}) <;> exact rfl))
  | (refine And.intro (by omega) ?_)
  | (refine And.intro (by dsimp only; omega) ?_)
  | (refine And.intro (by decide) ?_)
  | (refine And.intro (by simp only [ByteArray.size_append, ByteArray.size_extract, strOfNums_size, List.length_cons, List.length_nil, List.length_map, List.length_append, List.length_take, List.length_drop]; omega) ?_)
  | fail
  all_goals exact hq_.out) : p := h ⟨hq⟩
theorem zf {p q : Prop} (hq : q) (h : HidQ q → p := by
  intro hq_
  first
  | (with_reducible refine is_ne ?_)
  | (((fail_if_success (with_reducible refine is_int ?_)); refine cmp_int rfl rfl ?_))
  | (((fail_if_success (with_reducible refine is_str ?_)); refine cmp_str rfl rfl ?_))
  | (((with_reducible refine is_e2 ?_); refine ⟨_, rfl, ?_⟩))
  | (((with_reducible refine is_cvt ?_); refine ⟨_, rfl, ?_⟩))
  | fail
  all_goals exact hq_.out) : p := h ⟨hq⟩
end Go.Proofs.YtlbodfkhenkcjaaGreatDoor.D


namespace Go.Proofs.YtlbodfkhenkcjaaGreatDoor.X
open Go Go.Proofs Go.RowKit Go.Proofs.YtlbodfkhenkcjaaGreatDoor.D
set_option maxRecDepth 100000
set_option maxHeartbeats 4000000
set_option linter.unusedVariables false
variable {I : D.Inv}
noncomputable abbrev Tp := Tryz.prog
theorem mix : Tryz.prog.follows .mixedOrders = true := by kernel_rfl
abbrev VN (k : IntKind) (n : Int) : DV := .v (.int k n)

def c208 : DFun := ⟨10, [], .seq (.reg [⟨some 2, .ld 1 false (.t 0), none⟩, ⟨some 3, .bin .and (.t 2) (.c (.int .u32 1)), none⟩, ⟨some 1, .mv (.t 3), none⟩]) (.seq (.reg [⟨some 4, .ld 1 false (.t 0), none⟩, ⟨some 5, .bin .shr (.t 4) (.c (.int .u64 1)), none⟩, ⟨none, .st 1 (.t 0) (.t 5), none⟩]) (.seq (.reg [⟨some 6, .mv (.t 1), none⟩, ⟨some 7, .bin .eql (.t 6) (.c (.int .u32 1)), none⟩]) (.cond (.t 7) (.reg [⟨some 8, .ld 1 false (.t 0), none⟩, ⟨some 9, .bin .xor (.t 8) (.c (.int .u32 2197175160)), none⟩, ⟨none, .st 1 (.t 0) (.t 9), none⟩]) .skip)))⟩
theorem e208 : cfun Tryz.prog 208 = some c208 := by kernel_rfl
def c204 : DFun := ⟨11, [.t 2], .seq (.reg [⟨some 1, .box (.t 0), none⟩, ⟨some 2, .mv (.c (.int .u32 0)), none⟩]) (.seq (.reg [⟨some 4, .mkf 208 [.t 1], none⟩, ⟨some 3, .mv (.t 4), none⟩]) (.seq (.seq (.reg [⟨some 5, .mv (.c (.int .i64 0)), none⟩]) (.block 0 (.loop (.seq (.reg [⟨some 6, .bin .lss (.t 5) (.c (.int .i64 8)), none⟩]) (.seq (.cond (.t 6) .skip (.exit 0)) (.seq (.block 1 (.reg [⟨some 7, .mv (.t 3), none⟩, ⟨some 8, .callv (.t 7) [], none⟩])) (.reg [⟨some 9, .bin .add (.t 5) (.c (.int .i64 1)), none⟩, ⟨some 5, .mv (.t 9), none⟩]))))))) (.seq (.reg [⟨some 10, .ld 1 false (.t 1), none⟩, ⟨some 2, .mv (.t 10), none⟩]) .ret)))⟩
theorem e204 : cfun Tryz.prog 204 = some c204 := by kernel_rfl
theorem wrap_i64 {n : Int} (h : -9223372036854775808 ≤ n) (h' : n ≤ 9223372036854775807) : IntKind.i64.wrap n = n := IntWalk.i64_in n ⟨h, h'⟩
def bitV (b : Bool) (r : Int) : Int := match b with
  | true => IntKind.u32.wrap ↑(BitVec.ofInt IntKind.u32.bits (r.fdiv (2 ^ (min (Int.toNat 1) IntKind.u32.bits))) ^^^ BitVec.ofInt IntKind.u32.bits 2197175160).toNat
  | false => r.fdiv (2 ^ (min (Int.toNat 1) IntKind.u32.bits))
def bitI (r : Int) : Int := bitV (IntKind.u32.wrap ↑(BitVec.ofInt IntKind.u32.bits r &&& BitVec.ofInt IntKind.u32.bits 1).toNat == 1) r

theorem bitI_of {r : Int} {b : Bool} (h : (IntKind.u32.wrap ↑(BitVec.ofInt IntKind.u32.bits r &&& BitVec.ofInt IntKind.u32.bits 1).toNat == 1) = b) : bitI r = bitV b r := by subst h; rfl

theorem step1_D (r : Int) : DEff Tp I 208 [.lp 0 0] [[VN .u32 r]] [] (.v (.tuple #[])) [[VN .u32 (bitI r)]] [] := by
  refine eff_of mix e208 (Nat.le_of_ble_eq_true rfl) ?_
  conv => whnf
  repeat' ((first | refine cmp_split rfl (fun h => ?_) (fun h => ?_) | refine cond_t ?_ | refine cond_f ?_ | refine ⟨_, rfl, rfl, ?_⟩ | refine ⟨_, rfl, ?_⟩ | refine ⟨Or.inl rfl, ?_⟩ | fail) <;> conv => whnf)
  · refine .same rfl (Eq.trans (b := [[VN .u32 (bitV true r)]]) ?_ (congrArg (fun z => [[VN .u32 z]]) (bitI_of h).symm)) rfl
    kernel_rfl
  · refine .same rfl (Eq.trans (b := [[VN .u32 (bitV false r)]]) ?_ (congrArg (fun z => [[VN .u32 z]]) (bitI_of h).symm)) rfl
    kernel_rfl

def bitN : Nat → Int → Int
  | 0, r => r
  | n + 1, r => bitI (bitN n r)

theorem step_D (r : Int) : DPure Tp I 204 [VN .u32 r] (VN .u32 (bitN 8 r)) := by
  refine pure_of mix e204 (Nat.le_of_ble_eq_true rfl) ?_
  conv => whnf
  repeat' ((first | refine ⟨rfl, ?_⟩ | fail) <;> conv => whnf)
  refine loop_ind (fun i : Nat => ⟨[(5, VN .i64 i), (3, .fn 208 [.lp 0 0]), (1, .lp 0 0)], [[VN .u32 (bitN i r)]], []⟩) (fun i => i ≤ 8) (fun i => 8 - i) 0 (.mk 1 0 0 rfl rfl ⟨.same rfl, .same rfl, .same rfl, trivial⟩ rfl rfl rfl rfl) (Nat.zero_le _) fun i hi => ?_
  conv => whnf
  repeat' ((first | refine ⟨_, _, rfl, call_e (step1_D _) ?_⟩ | refine cmp_split rfl (fun h => ?_) (fun h => ?_) | refine cond_t ?_ | refine cond_f ?_ | refine ⟨_, rfl, rfl, ?_⟩ | refine ⟨_, rfl, ?_⟩ | refine ⟨Or.inr rfl, ?_⟩ | fail) <;> conv => whnf)
  · have hi' : i < 8 := by simp at h; omega
    refine ⟨i + 1, .mk 1 0 0 rfl rfl ⟨?_, .same rfl, .same rfl, trivial⟩ rfl rfl rfl rfl, by omega, by omega⟩
    have e : ((i : Int) + 1) = ((i + 1 : Nat) : Int) := by omega
    refine cast (congrArg (LtD 1 0 0 · _) ?_) (LtD.same (m := 1) (k := 0) (z := 0) (d := VN .i64 ((i + 1 : Nat) : Int)) rfl)
    rewrite [← wrap_i64 (n := ((i + 1 : Nat) : Int)) (by omega) (by omega), ← e]
    kernel_rfl
  · have hi' : i = 8 := by simp at h; omega
    subst hi'
    exact .v _
end Go.Proofs.YtlbodfkhenkcjaaGreatDoor.X


namespace Go.Proofs.YtlbodfkhenkcjaaGreatDoor.X
open Go Go.Proofs Go.RowKit Go.Proofs.YtlbodfkhenkcjaaGreatDoor.D
set_option maxRecDepth 100000
set_option maxHeartbeats 1000000
set_option linter.unusedVariables false
variable {I : D.Inv}

def c194 : DFun := ⟨13, [.c 0 256 true], .seq (.reg [⟨some 0, .zero (.agg #[.int .u32 0, .int .u32 0, .int .u32 0, .int .u32 0, .int .u32 0, .int .u32 0, .int .u32 0, .int .u32 0, .int .u32 0, .int .u32 0, .int .u32 0, .int .u32 0, .int .u32 0, .int .u32 0, .int .u32 0, .int .u32 0, .int .u32 0, .int .u32 0, .int .u32 0, .int .u32 0, .int .u32 0, .int .u32 0, .int .u32 0, .int .u32 0, .int .u32 0, .int .u32 0, .int .u32 0, .int .u32 0, .int .u32 0, .int .u32 0, .int .u32 0, .int .u32 0, .int .u32 0, .int .u32 0, .int .u32 0, .int .u32 0, .int .u32 0, .int .u32 0, .int .u32 0, .int .u32 0, .int .u32 0, .int .u32 0, .int .u32 0, .int .u32 0, .int .u32 0, .int .u32 0, .int .u32 0, .int .u32 0, .int .u32 0, .int .u32 0, .int .u32 0, .int .u32 0, .int .u32 0, .int .u32 0, .int .u32 0, .int .u32 0, .int .u32 0, .int .u32 0, .int .u32 0, .int .u32 0, .int .u32 0, .int .u32 0, .int .u32 0, .int .u32 0, .int .u32 0, .int .u32 0, .int .u32 0, .int .u32 0, .int .u32 0, .int .u32 0, .int .u32 0, .int .u32 0, .int .u32 0, .int .u32 0, .int .u32 0, .int .u32 0, .int .u32 0, .int .u32 0, .int .u32 0, .int .u32 0, .int .u32 0, .int .u32 0, .int .u32 0, .int .u32 0, .int .u32 0, .int .u32 0, .int .u32 0, .int .u32 0, .int .u32 0, .int .u32 0, .int .u32 0, .int .u32 0, .int .u32 0, .int .u32 0, .int .u32 0, .int .u32 0, .int .u32 0, .int .u32 0, .int .u32 0, .int .u32 0, .int .u32 0, .int .u32 0, .int .u32 0, .int .u32 0, .int .u32 0, .int .u32 0, .int .u32 0, .int .u32 0, .int .u32 0, .int .u32 0, .int .u32 0, .int .u32 0, .int .u32 0, .int .u32 0, .int .u32 0, .int .u32 0, .int .u32 0, .int .u32 0, .int .u32 0, .int .u32 0, .int .u32 0, .int .u32 0, .int .u32 0, .int .u32 0, .int .u32 0, .int .u32 0, .int .u32 0, .int .u32 0, .int .u32 0, .int .u32 0, .int .u32 0, .int .u32 0, .int .u32 0, .int .u32 0, .int .u32 0, .int .u32 0, .int .u32 0, .int .u32 0, .int .u32 0, .int .u32 0, .int .u32 0, .int .u32 0, .int .u32 0, .int .u32 0, .int .u32 0, .int .u32 0, .int .u32 0, .int .u32 0, .int .u32 0, .int .u32 0, .int .u32 0, .int .u32 0, .int .u32 0, .int .u32 0, .int .u32 0, .int .u32 0, .int .u32 0, .int .u32 0, .int .u32 0, .int .u32 0, .int .u32 0, .int .u32 0, .int .u32 0, .int .u32 0, .int .u32 0, .int .u32 0, .int .u32 0, .int .u32 0, .int .u32 0, .int .u32 0, .int .u32 0, .int .u32 0, .int .u32 0, .int .u32 0, .int .u32 0, .int .u32 0, .int .u32 0, .int .u32 0, .int .u32 0, .int .u32 0, .int .u32 0, .int .u32 0, .int .u32 0, .int .u32 0, .int .u32 0, .int .u32 0, .int .u32 0, .int .u32 0, .int .u32 0, .int .u32 0, .int .u32 0, .int .u32 0, .int .u32 0, .int .u32 0, .int .u32 0, .int .u32 0, .int .u32 0, .int .u32 0, .int .u32 0, .int .u32 0, .int .u32 0, .int .u32 0, .int .u32 0, .int .u32 0, .int .u32 0, .int .u32 0, .int .u32 0, .int .u32 0, .int .u32 0, .int .u32 0, .int .u32 0, .int .u32 0, .int .u32 0, .int .u32 0, .int .u32 0, .int .u32 0, .int .u32 0, .int .u32 0, .int .u32 0, .int .u32 0, .int .u32 0, .int .u32 0, .int .u32 0, .int .u32 0, .int .u32 0, .int .u32 0, .int .u32 0, .int .u32 0, .int .u32 0, .int .u32 0, .int .u32 0, .int .u32 0, .int .u32 0, .int .u32 0, .int .u32 0, .int .u32 0, .int .u32 0, .int .u32 0, .int .u32 0, .int .u32 0, .int .u32 0, .int .u32 0, .int .u32 0, .int .u32 0, .int .u32 0, .int .u32 0, .int .u32 0, .int .u32 0, .int .u32 0, .int .u32 0, .int .u32 0, .int .u32 0, .int .u32 0, .int .u32 0, .int .u32 0, .int .u32 0]), none⟩]) (.seq (.reg [⟨some 1, .zero (.agg #[.int .u32 0, .int .u32 0, .int .u32 0, .int .u32 0, .int .u32 0, .int .u32 0, .int .u32 0, .int .u32 0, .int .u32 0, .int .u32 0, .int .u32 0, .int .u32 0, .int .u32 0, .int .u32 0, .int .u32 0, .int .u32 0, .int .u32 0, .int .u32 0, .int .u32 0, .int .u32 0, .int .u32 0, .int .u32 0, .int .u32 0, .int .u32 0, .int .u32 0, .int .u32 0, .int .u32 0, .int .u32 0, .int .u32 0, .int .u32 0, .int .u32 0, .int .u32 0, .int .u32 0, .int .u32 0, .int .u32 0, .int .u32 0, .int .u32 0, .int .u32 0, .int .u32 0, .int .u32 0, .int .u32 0, .int .u32 0, .int .u32 0, .int .u32 0, .int .u32 0, .int .u32 0, .int .u32 0, .int .u32 0, .int .u32 0, .int .u32 0, .int .u32 0, .int .u32 0, .int .u32 0, .int .u32 0, .int .u32 0, .int .u32 0, .int .u32 0, .int .u32 0, .int .u32 0, .int .u32 0, .int .u32 0, .int .u32 0, .int .u32 0, .int .u32 0, .int .u32 0, .int .u32 0, .int .u32 0, .int .u32 0, .int .u32 0, .int .u32 0, .int .u32 0, .int .u32 0, .int .u32 0, .int .u32 0, .int .u32 0, .int .u32 0, .int .u32 0, .int .u32 0, .int .u32 0, .int .u32 0, .int .u32 0, .int .u32 0, .int .u32 0, .int .u32 0, .int .u32 0, .int .u32 0, .int .u32 0, .int .u32 0, .int .u32 0, .int .u32 0, .int .u32 0, .int .u32 0, .int .u32 0, .int .u32 0, .int .u32 0, .int .u32 0, .int .u32 0, .int .u32 0, .int .u32 0, .int .u32 0, .int .u32 0, .int .u32 0, .int .u32 0, .int .u32 0, .int .u32 0, .int .u32 0, .int .u32 0, .int .u32 0, .int .u32 0, .int .u32 0, .int .u32 0, .int .u32 0, .int .u32 0, .int .u32 0, .int .u32 0, .int .u32 0, .int .u32 0, .int .u32 0, .int .u32 0, .int .u32 0, .int .u32 0, .int .u32 0, .int .u32 0, .int .u32 0, .int .u32 0, .int .u32 0, .int .u32 0, .int .u32 0, .int .u32 0, .int .u32 0, .int .u32 0, .int .u32 0, .int .u32 0, .int .u32 0, .int .u32 0, .int .u32 0, .int .u32 0, .int .u32 0, .int .u32 0, .int .u32 0, .int .u32 0, .int .u32 0, .int .u32 0, .int .u32 0, .int .u32 0, .int .u32 0, .int .u32 0, .int .u32 0, .int .u32 0, .int .u32 0, .int .u32 0, .int .u32 0, .int .u32 0, .int .u32 0, .int .u32 0, .int .u32 0, .int .u32 0, .int .u32 0, .int .u32 0, .int .u32 0, .int .u32 0, .int .u32 0, .int .u32 0, .int .u32 0, .int .u32 0, .int .u32 0, .int .u32 0, .int .u32 0, .int .u32 0, .int .u32 0, .int .u32 0, .int .u32 0, .int .u32 0, .int .u32 0, .int .u32 0, .int .u32 0, .int .u32 0, .int .u32 0, .int .u32 0, .int .u32 0, .int .u32 0, .int .u32 0, .int .u32 0, .int .u32 0, .int .u32 0, .int .u32 0, .int .u32 0, .int .u32 0, .int .u32 0, .int .u32 0, .int .u32 0, .int .u32 0, .int .u32 0, .int .u32 0, .int .u32 0, .int .u32 0, .int .u32 0, .int .u32 0, .int .u32 0, .int .u32 0, .int .u32 0, .int .u32 0, .int .u32 0, .int .u32 0, .int .u32 0, .int .u32 0, .int .u32 0, .int .u32 0, .int .u32 0, .int .u32 0, .int .u32 0, .int .u32 0, .int .u32 0, .int .u32 0, .int .u32 0, .int .u32 0, .int .u32 0, .int .u32 0, .int .u32 0, .int .u32 0, .int .u32 0, .int .u32 0, .int .u32 0, .int .u32 0, .int .u32 0, .int .u32 0, .int .u32 0, .int .u32 0, .int .u32 0, .int .u32 0, .int .u32 0, .int .u32 0, .int .u32 0, .int .u32 0, .int .u32 0, .int .u32 0, .int .u32 0, .int .u32 0, .int .u32 0, .int .u32 0, .int .u32 0, .int .u32 0, .int .u32 0, .int .u32 0, .int .u32 0, .int .u32 0, .int .u32 0, .int .u32 0, .int .u32 0, .int .u32 0, .int .u32 0, .int .u32 0, .int .u32 0, .int .u32 0, .int .u32 0, .int .u32 0]), none⟩]) (.seq (.seq (.reg [⟨some 3, .mv (.c (.int .i64 0)), none⟩]) (.block 0 (.loop (.seq (.reg [⟨some 4, .bin .lss (.t 3) (.c (.int .i64 256)), none⟩]) (.seq (.cond (.t 4) .skip (.exit 0)) (.seq (.block 1 (.seq (.reg [⟨some 5, .mv (.t 3), none⟩, ⟨some 2, .mv (.t 5), none⟩]) (.reg [⟨some 6, .mv (.t 2), none⟩, ⟨some 7, .mv (.t 2), none⟩, ⟨some 8, .cvt .u32 (.t 7), none⟩, ⟨some 9, .call 204 [.t 8], none⟩, ⟨some 10, .ixp 256 1 (.t 1) (.t 6), none⟩, ⟨none, .st 1 (.t 10) (.t 9), none⟩]))) (.reg [⟨some 11, .bin .add (.t 3) (.c (.int .i64 1)), none⟩, ⟨some 3, .mv (.t 11), none⟩]))))))) (.seq (.reg [⟨some 12, .ld 256 true (.t 1), none⟩, ⟨none, .st 256 (.t 0) (.t 12), none⟩]) .ret)))⟩
theorem e194 : cfun Tryz.prog 194 = some c194 := by kernel_rfl
def c168 : DFun := ⟨30, [.t 4], .seq (.reg [⟨some 4, .mv (.c (.int .u32 0)), none⟩]) (.seq (.reg [⟨some 8, .call 194 [], none⟩, ⟨some 5, .zero (.agg #[.int .u32 0, .int .u32 0, .int .u32 0, .int .u32 0, .int .u32 0, .int .u32 0, .int .u32 0, .int .u32 0, .int .u32 0, .int .u32 0, .int .u32 0, .int .u32 0, .int .u32 0, .int .u32 0, .int .u32 0, .int .u32 0, .int .u32 0, .int .u32 0, .int .u32 0, .int .u32 0, .int .u32 0, .int .u32 0, .int .u32 0, .int .u32 0, .int .u32 0, .int .u32 0, .int .u32 0, .int .u32 0, .int .u32 0, .int .u32 0, .int .u32 0, .int .u32 0, .int .u32 0, .int .u32 0, .int .u32 0, .int .u32 0, .int .u32 0, .int .u32 0, .int .u32 0, .int .u32 0, .int .u32 0, .int .u32 0, .int .u32 0, .int .u32 0, .int .u32 0, .int .u32 0, .int .u32 0, .int .u32 0, .int .u32 0, .int .u32 0, .int .u32 0, .int .u32 0, .int .u32 0, .int .u32 0, .int .u32 0, .int .u32 0, .int .u32 0, .int .u32 0, .int .u32 0, .int .u32 0, .int .u32 0, .int .u32 0, .int .u32 0, .int .u32 0, .int .u32 0, .int .u32 0, .int .u32 0, .int .u32 0, .int .u32 0, .int .u32 0, .int .u32 0, .int .u32 0, .int .u32 0, .int .u32 0, .int .u32 0, .int .u32 0, .int .u32 0, .int .u32 0, .int .u32 0, .int .u32 0, .int .u32 0, .int .u32 0, .int .u32 0, .int .u32 0, .int .u32 0, .int .u32 0, .int .u32 0, .int .u32 0, .int .u32 0, .int .u32 0, .int .u32 0, .int .u32 0, .int .u32 0, .int .u32 0, .int .u32 0, .int .u32 0, .int .u32 0, .int .u32 0, .int .u32 0, .int .u32 0, .int .u32 0, .int .u32 0, .int .u32 0, .int .u32 0, .int .u32 0, .int .u32 0, .int .u32 0, .int .u32 0, .int .u32 0, .int .u32 0, .int .u32 0, .int .u32 0, .int .u32 0, .int .u32 0, .int .u32 0, .int .u32 0, .int .u32 0, .int .u32 0, .int .u32 0, .int .u32 0, .int .u32 0, .int .u32 0, .int .u32 0, .int .u32 0, .int .u32 0, .int .u32 0, .int .u32 0, .int .u32 0, .int .u32 0, .int .u32 0, .int .u32 0, .int .u32 0, .int .u32 0, .int .u32 0, .int .u32 0, .int .u32 0, .int .u32 0, .int .u32 0, .int .u32 0, .int .u32 0, .int .u32 0, .int .u32 0, .int .u32 0, .int .u32 0, .int .u32 0, .int .u32 0, .int .u32 0, .int .u32 0, .int .u32 0, .int .u32 0, .int .u32 0, .int .u32 0, .int .u32 0, .int .u32 0, .int .u32 0, .int .u32 0, .int .u32 0, .int .u32 0, .int .u32 0, .int .u32 0, .int .u32 0, .int .u32 0, .int .u32 0, .int .u32 0, .int .u32 0, .int .u32 0, .int .u32 0, .int .u32 0, .int .u32 0, .int .u32 0, .int .u32 0, .int .u32 0, .int .u32 0, .int .u32 0, .int .u32 0, .int .u32 0, .int .u32 0, .int .u32 0, .int .u32 0, .int .u32 0, .int .u32 0, .int .u32 0, .int .u32 0, .int .u32 0, .int .u32 0, .int .u32 0, .int .u32 0, .int .u32 0, .int .u32 0, .int .u32 0, .int .u32 0, .int .u32 0, .int .u32 0, .int .u32 0, .int .u32 0, .int .u32 0, .int .u32 0, .int .u32 0, .int .u32 0, .int .u32 0, .int .u32 0, .int .u32 0, .int .u32 0, .int .u32 0, .int .u32 0, .int .u32 0, .int .u32 0, .int .u32 0, .int .u32 0, .int .u32 0, .int .u32 0, .int .u32 0, .int .u32 0, .int .u32 0, .int .u32 0, .int .u32 0, .int .u32 0, .int .u32 0, .int .u32 0, .int .u32 0, .int .u32 0, .int .u32 0, .int .u32 0, .int .u32 0, .int .u32 0, .int .u32 0, .int .u32 0, .int .u32 0, .int .u32 0, .int .u32 0, .int .u32 0, .int .u32 0, .int .u32 0, .int .u32 0, .int .u32 0, .int .u32 0, .int .u32 0, .int .u32 0, .int .u32 0, .int .u32 0, .int .u32 0, .int .u32 0, .int .u32 0, .int .u32 0, .int .u32 0, .int .u32 0, .int .u32 0, .int .u32 0, .int .u32 0, .int .u32 0, .int .u32 0, .int .u32 0, .int .u32 0, .int .u32 0, .int .u32 0, .int .u32 0]), none⟩, ⟨none, .st 256 (.t 5) (.t 8), none⟩]) (.seq (.reg [⟨some 9, .mv (.t 0), none⟩, ⟨some 10, .un .xor (.t 9), none⟩, ⟨some 6, .mv (.t 10), none⟩]) (.seq (.seq (.reg [⟨some 11, .mv (.t 1), none⟩, ⟨some 12, .len true (.t 11), none⟩, ⟨some 13, .mv (.c (.int .i64 0)), none⟩]) (.block 0 (.loop (.seq (.reg [⟨some 14, .bin .lss (.t 13) (.t 12), none⟩]) (.seq (.cond (.t 14) .skip (.exit 0)) (.seq (.block 1 (.seq (.reg [⟨some 15, .mv (.t 13), none⟩, ⟨some 7, .mv (.t 15), none⟩]) (.reg [⟨some 16, .mv (.t 6), none⟩, ⟨some 17, .cvt .u8 (.t 16), none⟩, ⟨some 18, .mv (.t 1), none⟩, ⟨some 19, .mv (.t 7), none⟩, ⟨some 20, .ixs (.t 18) (.t 19), none⟩, ⟨some 21, .bin .xor (.t 17) (.t 20), none⟩, ⟨some 22, .ixp 256 1 (.t 5) (.t 21), none⟩, ⟨some 23, .ld 1 false (.t 22), none⟩, ⟨some 24, .mv (.t 6), none⟩, ⟨some 25, .bin .shr (.t 24) (.c (.int .u64 8)), none⟩, ⟨some 26, .bin .xor (.t 23) (.t 25), none⟩, ⟨some 6, .mv (.t 26), none⟩]))) (.reg [⟨some 27, .bin .add (.t 13) (.c (.int .i64 1)), none⟩, ⟨some 13, .mv (.t 27), none⟩]))))))) (.seq (.reg [⟨some 28, .mv (.t 6), none⟩, ⟨some 29, .un .xor (.t 28), none⟩, ⟨some 4, .mv (.t 29), none⟩]) .ret))))⟩
theorem e168 : cfun Tryz.prog 168 = some c168 := by kernel_rfl
def c116 : DFun := ⟨5, [.t 2], .seq (.reg [⟨some 2, .mv (.c (.int .u32 0)), none⟩]) (.seq (.reg [⟨some 3, .mv (.t 0), none⟩, ⟨some 4, .call 168 [.c (.int .u32 0), .t 3], none⟩, ⟨some 2, .mv (.t 4), none⟩]) .ret)⟩
theorem e116 : cfun Tryz.prog 116 = some c116 := by kernel_rfl
def tabL (i : Nat) : List DV := (List.range 256).map fun j => VN .u32 (if j < i then bitN 8 j else 0)
theorem tabL_len (i : Nat) : (tabL i).length = 256 := by simp [tabL]
theorem tabL_set (i : Nat) (h : i < 256) : (tabL i).take i ++ [VN .u32 (bitN 8 i)] ++ (tabL i).drop (i + 1) = tabL (i + 1) := by
  refine List.ext_getElem? fun j => ?_
  have hl := tabL_len i
  rw [List.append_assoc, List.getElem?_append]
  simp only [List.length_take, hl, Nat.min_eq_left (Nat.le_of_lt h)]
  by_cases h1 : j < i
  · rw [if_pos h1, List.getElem?_take, if_pos h1]
    simp only [tabL, List.getElem?_map, List.getElem?_range (show j < 256 by omega), Option.map_some, if_pos h1, if_pos (show j < i + 1 by omega)]
  · rw [if_neg h1]
    by_cases h2 : j = i
    · subst h2
      simp [tabL, List.getElem?_range h]
    · have : j - i = (j - (i + 1)) + 1 := by omega
      rw [this, List.singleton_append, List.getElem?_cons_succ, List.getElem?_drop, show i + 1 + (j - (i + 1)) = j by omega]
      by_cases h3 : j < 256
      · simp only [tabL, List.getElem?_map, List.getElem?_range h3, Option.map_some, if_neg h1, if_neg (show ¬ j < i + 1 by omega)]
      · rw [List.getElem?_eq_none (by omega), List.getElem?_eq_none (by rw [tabL_len]; omega)]

def tabV : Array Value := ((List.range 256).map fun (j : Nat) => Value.int .u32 (bitN 8 (j : Int))).toArray
def zeros : List DV := List.replicate 256 (VN .u32 0)
theorem wrap_u32 {n : Int} (h : 0 ≤ n) (h' : n ≤ 4294967295) : IntKind.u32.wrap n = n := IntWalk.u32_in n ⟨h, h'⟩

theorem st_in {off n len : Nat} {b : Bool} (h : off + n ≤ len) (hb : b = true) : (Nat.ble (off + n) len && b) = true := by rw [Nat.ble_eq.mpr h, hb]; rfl

theorem table_D : DPure Tp I 194 [] (.v (.agg tabV)) := by
  refine pure_of mix e194 (Nat.le_of_ble_eq_true rfl) ?_
  conv => whnf
  repeat' ((first | refine cmp_split rfl (fun h => ?_) (fun h => ?_) | refine cond_t ?_ | refine cond_f ?_ | refine ⟨_, wknL_ok rfl, rfl, ?_⟩ | refine ⟨_, _, rfl, rfl, rfl, ?_⟩ | refine ⟨_, rfl, rfl, rfl, ?_⟩ | refine ⟨_, rfl, rfl, ?_⟩ | refine ⟨_, rfl, ?_⟩ | refine ⟨Or.inr (Or.inl rfl), ?_⟩ | refine ⟨Or.inr rfl, ?_⟩ | refine ⟨Or.inl rfl, ?_⟩ | refine ⟨rfl, ?_⟩ | fail) <;> conv => whnf)
  refine loop_ind (fun i : Nat => ⟨[(3, VN .i64 i), (0, .lp 0 0), (1, .lp 1 0)], [zeros, tabL i], []⟩) (fun i => i ≤ 256) (fun i => 256 - i) 0 (.mk 2 0 0 rfl rfl ⟨.same rfl, .same rfl, .same rfl, trivial⟩ (by kernel_rfl) (by kernel_rfl) rfl rfl) (Nat.zero_le _) fun i hi => ?_
  conv => whnf
  repeat' ((first | refine ⟨_, _, WkL.cons (Wk.v _) WkL.nil, step_D _, ?_⟩ | refine And.intro (by omega) ?_ | refine And.intro (by have := of_decide_eq_true h; omega) ?_ | refine And.intro (st_in (by rw [tabL_len]; have := of_decide_eq_true h; omega) rfl) ?_ | refine cmp_split rfl (fun h => ?_) (fun h => ?_) | refine cond_t ?_ | refine cond_f ?_ | refine ⟨_, rfl, rfl, ?_⟩ | refine ⟨_, rfl, ?_⟩ | refine ⟨Or.inr rfl, ?_⟩ | fail) <;> conv => whnf)
  · have hi' : i < 256 := by simp at h; omega
    refine ⟨i + 1, ?_, by omega, by omega⟩
    refine less_of 2 0 0 rfl rfl ?_ ?_ ?_ ?_ ?_
    · refine lessE_cons (ltd_eq rfl ?_) (lessE_cons (ltd_eq rfl ?_) (lessE_cons (ltd_eq rfl ?_) lessE_nil))
      · refine Eq.trans (b := VN .i64 (IntKind.i64.wrap ((i : Int) + 1))) ?_ (by rw [wrap_i64 (by omega) (by omega)]; rfl)
        kernel_rfl
      · kernel_rfl
      · kernel_rfl
    · refine Eq.trans (b := [zeros, (tabL i).take (0 + (i : Int).toNat * 1) ++ [VN .u32 (bitN 8 (IntKind.u32.wrap i))] ++ (tabL i).drop (0 + (i : Int).toNat * 1 + 1)]) ?_ ?_
      · kernel_rfl
      · rw [wrap_u32 (by omega) (by omega), ← tabL_set i hi']
        simp
    · kernel_rfl
    · kernel_rfl
    · kernel_rfl
  · have hi' : i = 256 := by simp at h; omega
    subst hi'
    refine wk_v (x := .agg tabV) ?_ rfl
    kernel_rfl

def crcI (r : Int) (b : Int) : Int := IntKind.u32.wrap ↑(BitVec.ofInt IntKind.u32.bits (bitN 8 (IntKind.u8.wrap ↑(BitVec.ofInt IntKind.u8.bits (IntKind.u8.wrap r) ^^^ BitVec.ofInt IntKind.u8.bits b).toNat)) ^^^ BitVec.ofInt IntKind.u32.bits (r.fdiv (2 ^ (min (Int.toNat 8) IntKind.u32.bits)))).toNat
def crcL (r : Int) (l : List UInt8) : Int := l.foldl (fun r b => crcI r b.toNat) r
def notI (r : Int) : Int := IntKind.u32.wrap ↑(BitVec.ofInt IntKind.u32.bits (if IntKind.u32.signed then -1 else IntKind.u32.max) ^^^ BitVec.ofInt IntKind.u32.bits r).toNat

theorem tab_get {n : Nat} (h : n < 256) : (tabV.toList.map DV.v)[n]? = some (VN .u32 (bitN 8 n)) := by
  simp [tabV, List.getElem?_range h]

theorem u8_lo (n : Int) : 0 ≤ IntKind.u8.wrap n := by rw [IntKind.wrap_u8]; omega
theorem u8_hi (n : Int) : (IntKind.u8.wrap n).toNat < 256 := by rw [IntKind.wrap_u8]; omega
def tabs : List DV := tabV.toList.map DV.v
theorem tabs_len : tabs.length = 256 := by simp [tabs, tabV]
theorem ld_tab {n : Int} (h0 : 0 ≤ n) (h : n.toNat < 256) : D.part false ((tabs.drop (0 + n.toNat * 1)).take 1) = VN .u32 (bitN 8 n) := by
  have e : n = (n.toNat : Int) := by omega
  have hg := tab_get h
  rw [← e] at hg
  have : 0 + n.toNat * 1 = n.toNat := by omega
  rw [this]
  have hl : n.toNat < tabs.length := by rw [tabs_len]; exact h
  rw [List.drop_eq_getElem_cons hl]
  have : tabs[n.toNat] = VN .u32 (bitN 8 n) := by
    have := List.getElem?_eq_getElem hl
    rw [show tabs[n.toNat]? = _ from hg] at this
    exact (Option.some.inj this).symm
  rw [this]
  rfl

theorem ble_tab {n : Int} (h : n.toNat < 256) : Nat.ble (0 + n.toNat * 1 + 1) tabs.length = true := Nat.ble_eq.mpr (by rw [tabs_len]; omega)

theorem more_D (c : Int) (s : ByteArray) (hs : s.size ≤ 9223372036854775807) : DPure Tp I 168 [VN .u32 c, .v (.string s)] (VN .u32 (notI (crcL (notI c) s.data.toList))) := by
  refine pure_of mix e168 (Nat.le_of_ble_eq_true rfl) ?_
  conv => whnf
  repeat' ((first | refine ⟨_, _, WkL.nil, table_D, ?_⟩ | refine ⟨_, rfl, rfl, ?_⟩ | refine ⟨_, rfl, ?_⟩ | fail) <;> conv => whnf)
  refine loop_ind (fun i : Nat => ⟨[(13, VN .i64 i), (12, VN .i64 s.size), (6, VN .u32 (crcL (notI c) (s.data.toList.take i))), (1, .v (.string s)), (5, .lp 0 0)], [tabs], []⟩) (fun i => i ≤ s.size) (fun i => s.size - i) 0 ?_ (Nat.zero_le _) fun i hi => ?_
  · refine less_of 1 0 0 rfl rfl ?_ ?_ ?_ ?_ ?_
    · refine lessE_cons (ltd_eq rfl ?_) (lessE_cons (ltd_eq rfl ?_) (lessE_cons (ltd_eq rfl ?_) (lessE_cons (ltd_eq rfl ?_) (lessE_cons (ltd_eq rfl ?_) lessE_nil)))) <;> kernel_rfl
    all_goals kernel_rfl
  conv => whnf
  repeat' ((first | refine And.intro (by omega) ?_ | refine And.intro (show (i : Int).toNat < s.size by have := of_decide_eq_true h; omega) ?_ | refine And.intro (u8_lo _) ?_ | refine And.intro (u8_hi _) ?_ | (refine And.intro (ble_tab (u8_hi _)) ?_; conv => {arg 1; rewrite [ld_tab (u8_lo _) (u8_hi _)]}) | refine cmp_split rfl (fun h => ?_) (fun h => ?_) | refine cond_t ?_ | refine cond_f ?_ | refine ⟨_, rfl, ?_⟩ | refine ⟨Or.inr rfl, ?_⟩ | fail) <;> conv => whnf)
  · have hi' : i < s.size := by simp at h; omega
    have hs' : i < s.data.toList.length := by simpa using hi'
    refine ⟨i + 1, ?_, by omega, by omega⟩
    refine less_of 1 0 0 rfl rfl ?_ ?_ ?_ ?_ ?_
    · refine lessE_cons (ltd_eq rfl ?_) (lessE_cons (ltd_eq rfl ?_) (lessE_cons (ltd_eq rfl ?_) (lessE_cons (ltd_eq rfl ?_) (lessE_cons (ltd_eq rfl ?_) lessE_nil))))
      · refine Eq.trans (b := VN .i64 (IntKind.i64.wrap ((i : Int) + 1))) ?_ (by rw [wrap_i64 (by omega) (by omega)]; rfl)
        kernel_rfl
      · kernel_rfl
      · refine Eq.trans (b := VN .u32 (crcI (crcL (notI c) (s.data.toList.take i)) (byteAt s (i : Int).toNat))) (by kernel_rfl) ?_
        have e : s.data.toList.take (i + 1) = s.data.toList.take i ++ [s.data.toList[i]] := by rw [List.take_succ_eq_append_getElem hs']
        have e2 : byteAt s (i : Int).toNat = (s.data.toList[i].toNat : Int) := by simp [byteAt, List.getElem?_eq_getElem hs']
        rw [e, e2, crcL, crcL, List.foldl_append]
        rfl
      · kernel_rfl
      · kernel_rfl
    all_goals kernel_rfl
  · have hi' : i = s.size := by simp at h; omega
    refine wk_v (x := .int .u32 (notI (crcL (notI c) (s.data.toList.take i)))) (by kernel_rfl) ?_
    rw [List.take_of_length_le (by simp; omega)]

theorem tableF_D (s : ByteArray) (hs : s.size ≤ 9223372036854775807) : DPure Tp I 116 [.v (.string s)] (VN .u32 (notI (crcL (notI 0) s.data.toList))) := by
  refine pure_of mix e116 (Nat.le_of_ble_eq_true rfl) ?_
  conv => whnf
  repeat' ((first | refine ⟨_, _, WkL.cons (Wk.v _) (WkL.cons (Wk.v _) WkL.nil), more_D _ _ hs, ?_⟩ | refine ⟨Or.inr rfl, ?_⟩ | fail) <;> conv => whnf)
  exact .v _
end Go.Proofs.YtlbodfkhenkcjaaGreatDoor.X


namespace Go.Proofs.YtlbodfkhenkcjaaGreatDoor.X
open Go Go.Proofs Go.RowKit Go.Proofs.YtlbodfkhenkcjaaGreatDoor.D
set_option maxRecDepth 100000
set_option maxHeartbeats 1000000
set_option linter.unusedVariables false
variable {I : D.Inv}

def c117 : DFun := ⟨2, [.c 0 4 true], .seq (.reg [⟨some 0, .zero (.agg #[.int .i64 0, .int .i64 0, .int .i64 0, .int .i64 0]), none⟩]) (.seq (.reg [⟨some 1, .bld [.int .i64 0, .int .i64 0, .int .i64 0, .int .i64 0] [(0, 1, .c (.int .i64 128)), (1, 1, .c (.int .i64 256)), (2, 1, .c (.int .i64 512)), (3, 1, .c (.int .i64 1024))], none⟩, ⟨none, .st 4 (.t 0) (.t 1), none⟩]) .ret)⟩
theorem e117 : cfun Tryz.prog 117 = some c117 := by kernel_rfl
def c67 : DFun := ⟨13, [.t 2], .seq (.reg [⟨some 2, .mv (.c (.bool false)), none⟩]) (.seq (.seq (.reg [⟨some 5, .call 117 [], none⟩, ⟨some 6, .mv (.c (.int .i64 0)), none⟩]) (.block 0 (.loop (.seq (.reg [⟨some 7, .bin .lss (.t 6) (.c (.int .i64 4)), none⟩]) (.seq (.cond (.t 7) .skip (.exit 0)) (.seq (.block 1 (.seq (.reg [⟨some 8, .ixv 4 1 false (.t 5) (.t 6), none⟩, ⟨some 4, .mv (.t 8), none⟩]) (.seq (.reg [⟨some 9, .mv (.t 4), none⟩, ⟨some 10, .mv (.t 0), none⟩, ⟨some 11, .bin .eql (.t 9) (.t 10), none⟩]) (.cond (.t 11) (.seq (.reg [⟨some 2, .mv (.c (.bool true)), none⟩]) .ret) .skip)))) (.reg [⟨some 12, .bin .add (.t 6) (.c (.int .i64 1)), none⟩, ⟨some 6, .mv (.t 12), none⟩]))))))) (.seq (.reg [⟨some 2, .mv (.c (.bool false)), none⟩]) .ret))⟩
theorem e67 : cfun Tryz.prog 67 = some c67 := by kernel_rfl
theorem sizes_D : DPure Tp I 117 [] (.v (.agg #[.int .i64 128, .int .i64 256, .int .i64 512, .int .i64 1024])) := by
  refine pure_of mix e117 (Nat.le_of_ble_eq_true rfl) ?_
  conv => whnf
  repeat' ((first | refine ⟨_, rfl, rfl, ?_⟩ | refine ⟨Or.inr rfl, ?_⟩ | fail) <;> conv => whnf)
  exact .v _

def sizeB (p : Int) : Bool := 128 == p || (256 == p || (512 == p || 1024 == p))
theorem bool_of {d : DV} {b c : Bool} (h : d = .v (.bool b)) (e : b = c) : Wk d (.v (.bool c)) := by subst h; subst e; exact .v _

theorem of_decide_ne {a b : Int} (h : (a == b) = false) : b ≠ a := by intro e; subst e; simp at h

theorem size_D (p : Int) : DPure Tp I 67 [VN .i64 p] (.v (.bool (sizeB p))) := by
  refine pure_of mix e67 (Nat.le_of_ble_eq_true rfl) ?_
  conv => whnf
  repeat' ((first | refine ⟨_, _, WkL.nil, sizes_D, ?_⟩ | fail) <;> conv => whnf)
  refine loop_ind (fun i : Nat => ⟨[(6, VN .i64 i), (5, .v (.agg #[.int .i64 128, .int .i64 256, .int .i64 512, .int .i64 1024])), (0, VN .i64 p)], [], []⟩) (fun i => i ≤ 4 ∧ (1 ≤ i → p ≠ 128) ∧ (2 ≤ i → p ≠ 256) ∧ (3 ≤ i → p ≠ 512) ∧ (4 ≤ i → p ≠ 1024)) (fun i => 4 - i) 0 ?_ (by omega) fun i hi => ?_
  · refine less_of 0 0 0 rfl rfl ?_ ?_ ?_ ?_ ?_
    · refine lessE_cons (ltd_eq rfl ?_) (lessE_cons (ltd_eq rfl ?_) (lessE_cons (ltd_eq rfl ?_) lessE_nil)) <;> kernel_rfl
    all_goals kernel_rfl
  obtain ⟨hi, h1, h2, h3, h4⟩ := hi
  have hc : i = 0 ∨ i = 1 ∨ i = 2 ∨ i = 3 ∨ i = 4 := by omega
  rcases hc with rfl | rfl | rfl | rfl | rfl
  all_goals (
  conv => whnf
  repeat' ((first | refine And.intro (by omega) ?_ | refine And.intro (by decide) ?_ | refine cmp_split rfl (fun h => ?_) (fun h => ?_) | refine cond_t ?_ | refine cond_f ?_ | refine ⟨_, rfl, ?_⟩ | refine ⟨Or.inr rfl, ?_⟩ | fail) <;> conv => whnf)
  )
  all_goals first
    | (exfalso; revert h; simp; done)
    | (refine bool_of (b := true) (by kernel_rfl) ?_; have := eq_of_beq h; subst this; rfl)
    | (refine bool_of (b := false) (by kernel_rfl) ?_; have q1 := h1 (by omega); have q2 := h2 (by omega); have q3 := h3 (by omega); have q4 := h4 (by omega); simp [sizeB, Ne.symm q1, Ne.symm q2, Ne.symm q3, Ne.symm q4]; done)
    | (refine ⟨1, less_of 0 0 0 rfl rfl (lessE_cons (ltd_eq rfl ?_) (lessE_cons (ltd_eq rfl ?_) (lessE_cons (ltd_eq rfl ?_) lessE_nil))) ?_ ?_ ?_ ?_, ?_, by omega⟩
       iterate 7 (first | kernel_rfl | skip)
       (have hn := of_decide_ne h; omega))
    | (refine ⟨2, less_of 0 0 0 rfl rfl (lessE_cons (ltd_eq rfl ?_) (lessE_cons (ltd_eq rfl ?_) (lessE_cons (ltd_eq rfl ?_) lessE_nil))) ?_ ?_ ?_ ?_, ?_, by omega⟩
       iterate 7 (first | kernel_rfl | skip)
       (have hn := of_decide_ne h; omega))
    | (refine ⟨3, less_of 0 0 0 rfl rfl (lessE_cons (ltd_eq rfl ?_) (lessE_cons (ltd_eq rfl ?_) (lessE_cons (ltd_eq rfl ?_) lessE_nil))) ?_ ?_ ?_ ?_, ?_, by omega⟩
       iterate 7 (first | kernel_rfl | skip)
       (have hn := of_decide_ne h; omega))
    | (refine ⟨4, less_of 0 0 0 rfl rfl (lessE_cons (ltd_eq rfl ?_) (lessE_cons (ltd_eq rfl ?_) (lessE_cons (ltd_eq rfl ?_) lessE_nil))) ?_ ?_ ?_ ?_, ?_, by omega⟩
       iterate 7 (first | kernel_rfl | skip)
       (have hn := of_decide_ne h; omega))
end Go.Proofs.YtlbodfkhenkcjaaGreatDoor.X


namespace Go.Proofs.YtlbodfkhenkcjaaGreatDoor.X
open Go Go.Proofs Go.RowKit Go.Proofs.YtlbodfkhenkcjaaGreatDoor.D
set_option maxRecDepth 100000
set_option maxHeartbeats 1000000
set_option linter.unusedVariables false
set_option linter.unusedSimpArgs false
variable {I : D.Inv}

def c193 : DFun := ⟨21, [.t 4], .seq (.reg [⟨some 4, .mv (.c (.bool false)), none⟩]) (.seq (.seq (.reg [⟨some 7, .mv (.t 1), none⟩, ⟨some 8, .len false (.t 7), none⟩, ⟨some 9, .mv (.c (.int .i64 0)), none⟩]) (.block 0 (.loop (.seq (.reg [⟨some 10, .bin .lss (.t 9) (.t 8), none⟩]) (.seq (.cond (.t 10) .skip (.exit 0)) (.seq (.block 1 (.seq (.reg [⟨some 11, .ixa 1 (.t 7) (.t 9), none⟩, ⟨some 12, .ld 1 false (.t 11), none⟩, ⟨some 6, .mv (.t 12), none⟩]) (.seq (.reg [⟨some 13, .mv (.t 6), none⟩, ⟨some 14, .bin .lss (.t 13) (.c (.int .i64 0)), none⟩, ⟨some 15, .mv (.t 14), none⟩, ⟨some 16, .mv (.t 6), some (15, false)⟩, ⟨some 17, .mv (.t 0), some (15, false)⟩, ⟨some 18, .bin .geq (.t 16) (.t 17), some (15, false)⟩, ⟨some 19, .pick (.t 15) (.c (.bool true)) (.t 18), none⟩]) (.cond (.t 19) (.seq (.reg [⟨some 4, .mv (.c (.bool false)), none⟩]) .ret) .skip)))) (.reg [⟨some 20, .bin .add (.t 9) (.c (.int .i64 1)), none⟩, ⟨some 9, .mv (.t 20), none⟩]))))))) (.seq (.reg [⟨some 4, .mv (.c (.bool true)), none⟩]) .ret))⟩
theorem e193 : cfun Tryz.prog 193 = some c193 := by kernel_rfl
def c167 : DFun := ⟨31, [.t 2], .seq (.reg [⟨some 1, .box (.t 0), none⟩, ⟨some 2, .mv (.c (.bool false)), none⟩]) (.seq (.reg [⟨some 3, .fa 0 (.t 1), none⟩, ⟨some 4, .ld 1 false (.t 3), none⟩, ⟨some 5, .bin .geq (.t 4) (.c (.int .i64 1)), none⟩, ⟨some 6, .mv (.t 5), none⟩, ⟨some 7, .fa 0 (.t 1), some (6, true)⟩, ⟨some 8, .ld 1 false (.t 7), some (6, true)⟩, ⟨some 9, .bin .lss (.t 8) (.c (.int .i64 5)), some (6, true)⟩, ⟨some 10, .pick (.t 6) (.t 9) (.c (.bool false)), none⟩, ⟨some 11, .mv (.t 10), none⟩, ⟨some 12, .fa 1 (.t 1), some (11, true)⟩, ⟨some 13, .ld 1 false (.t 12), some (11, true)⟩, ⟨some 14, .bsl 1 [.t 13], some (11, true)⟩, ⟨some 15, .call 193 [.c (.int .i64 256), .t 14], some (11, true)⟩, ⟨some 16, .pick (.t 11) (.t 15) (.c (.bool false)), none⟩, ⟨some 17, .mv (.t 16), none⟩, ⟨some 18, .fa 2 (.t 1), some (17, true)⟩, ⟨some 19, .ld 1 false (.t 18), some (17, true)⟩, ⟨some 20, .bsl 1 [.t 19], some (17, true)⟩, ⟨some 21, .call 193 [.c (.int .i64 65536), .t 20], some (17, true)⟩, ⟨some 22, .pick (.t 17) (.t 21) (.c (.bool false)), none⟩, ⟨some 23, .mv (.t 22), none⟩, ⟨some 24, .fa 3 (.t 1), some (23, true)⟩, ⟨some 25, .ld 1 false (.t 24), some (23, true)⟩, ⟨some 26, .fa 4 (.t 1), some (23, true)⟩, ⟨some 27, .ld 1 false (.t 26), some (23, true)⟩, ⟨some 28, .bsl 1 [.t 25, .t 27], some (23, true)⟩, ⟨some 29, .call 193 [.c (.int .i64 4096), .t 28], some (23, true)⟩, ⟨some 30, .pick (.t 23) (.t 29) (.c (.bool false)), none⟩, ⟨some 2, .mv (.t 30), none⟩]) .ret)⟩
theorem e167 : cfun Tryz.prog 167 = some c167 := by kernel_rfl
abbrev ints (l : List Int) : DV := .list 1 (l.map fun n => VN .i64 n)
def withinB (b : Int) (l : List Int) : Bool := l.all fun n => decide (0 ≤ n) && decide (n < b)
theorem ints_get {l : List Int} {i : Nat} (h : i < l.length) : (l.map fun n => VN .i64 n)[(i : Int).toNat]? = some (VN .i64 l[i]) := by simp [h]

theorem within_no {b : Int} {l : List Int} {i : Nat} (h : i < l.length) (hn : ¬ (0 ≤ l[i] ∧ l[i] < b)) : withinB b l = false := by
  rw [Bool.eq_false_iff]
  intro hc
  simp only [withinB, List.all_eq_true, Bool.and_eq_true, decide_eq_true_eq] at hc
  exact hn (hc _ (List.getElem_mem h))
theorem within_yes {b : Int} {l : List Int} {i : Nat} (h : i < l.length) (hp : withinB b (l.take i) = true) (hn : 0 ≤ l[i] ∧ l[i] < b) : withinB b (l.take (i + 1)) = true := by
  rw [List.take_succ_eq_append_getElem h]
  simp only [withinB, List.all_append, Bool.and_eq_true] at hp ⊢
  exact ⟨hp, by simp [hn.1, hn.2]⟩

theorem within_D (b : Int) (l : List Int) (hl : l.length ≤ 1000000) : DPure Tp I 193 [VN .i64 b, ints l] (.v (.bool (withinB b l))) := by
  refine pure_of mix e193 (Nat.le_of_ble_eq_true rfl) ?_
  conv => whnf
  repeat' ((first | refine ⟨_, rfl, ?_⟩ | fail) <;> conv => whnf)
  refine loop_ind (fun i : Nat => ⟨[(9, VN .i64 i), (8, VN .i64 l.length), (7, ints l), (0, VN .i64 b)], [], []⟩) (fun i => i ≤ l.length ∧ withinB b (l.take i) = true) (fun i => l.length - i) 0 ?_ ⟨Nat.zero_le _, rfl⟩ fun i hi => ?_
  · refine less_of 0 0 0 rfl rfl ?_ ?_ ?_ ?_ ?_
    · refine lessE_cons (ltd_eq rfl ?_) (lessE_cons (ltd_eq rfl ?_) (lessE_cons (ltd_eq rfl ?_) (lessE_cons (ltd_eq rfl ?_) lessE_nil)))
      · kernel_rfl
      · refine Eq.trans (b := VN .i64 (l.map fun n => VN .i64 n).length) ?_ (by simp)
        kernel_rfl
      · kernel_rfl
      · kernel_rfl
    all_goals kernel_rfl
  obtain ⟨hi, hp⟩ := hi
  by_cases hlt : i < l.length
  · conv => whnf
    repeat' ((first | refine And.intro (by omega) ?_ | refine ⟨_, _, rfl, rfl, ints_get hlt, ?_⟩ | refine cmp_split rfl (fun h => ?_) (fun h => ?_) | refine cond_t ?_ | refine cond_f ?_ | refine ⟨_, rfl, ?_⟩ | refine ⟨Or.inr rfl, ?_⟩ | refine ⟨rfl, ?_⟩ | fail) <;> conv => whnf)
    all_goals first
      | (exfalso; simp at h; omega)
      | (refine bool_of (b := false) (by kernel_rfl) ?_; exact (within_no hlt (by simp at h; omega)).symm)
      | skip
    refine ⟨i + 1, less_of 0 0 0 rfl rfl (lessE_cons (ltd_eq rfl ?_) (lessE_cons (ltd_eq rfl ?_) (lessE_cons (ltd_eq rfl ?_) (lessE_cons (ltd_eq rfl ?_) lessE_nil)))) ?_ ?_ ?_ ?_, ⟨hlt, ?_⟩, by omega⟩
    · refine Eq.trans (b := VN .i64 (IntKind.i64.wrap ((i : Int) + 1))) ?_ (by rw [wrap_i64 (by omega) (by omega)]; rfl)
      kernel_rfl
    iterate 7 kernel_rfl
    rename_i q1 q2
    simp at q2 h
    exact within_yes hlt hp ⟨q2, h⟩
  · conv => whnf
    repeat' ((first | refine And.intro (by omega) ?_ | refine ⟨_, _, rfl, rfl, ints_get (by have := of_decide_eq_true h; omega), ?_⟩ | refine cmp_split rfl (fun h => ?_) (fun h => ?_) | refine cond_t ?_ | refine cond_f ?_ | refine ⟨_, rfl, ?_⟩ | refine ⟨Or.inr rfl, ?_⟩ | refine ⟨rfl, ?_⟩ | fail) <;> conv => whnf)
    all_goals first
      | (exfalso; simp at h; omega)
      | (exfalso; rename_i q; simp at q; omega)
      | (exfalso; rename_i q _; simp at q; omega)
      | (refine bool_of (b := true) (by kernel_rfl) ?_; rw [List.take_of_length_le (by omega)] at hp; exact hp.symm)

theorem call_b {f : FuncId} {args es : List DV} {b : Bool} {K : DV → Prop} (hw : WkL args es) (h : DPure Tp I f es (.v (.bool b))) (h1 : b = true → K (.v (.bool true))) (h2 : b = false → K (.v (.bool false))) : ∃ es r, WkL args es ∧ DPure Tp I f es r ∧ K r :=
  ⟨es, _, hw, h, by cases b with
    | true => exact h1 rfl
    | false => exact h2 rfl⟩
theorem within1 (b n : Int) : DPure Tp I 193 [VN .i64 b, .list 1 [VN .i64 n]] (.v (.bool (withinB b [n]))) := within_D b [n] (by simp)
theorem within2 (b n m : Int) : DPure Tp I 193 [VN .i64 b, .list 1 [VN .i64 n, VN .i64 m]] (.v (.bool (withinB b [n, m]))) := within_D b [n, m] (by simp)

abbrev headV (k l c r s : Int) : Value := .agg #[.int .i64 k, .int .i64 l, .int .i64 c, .int .i64 r, .int .i64 s]
def headB (k l c r s : Int) : Bool := decide (1 ≤ k) && decide (k < 5) && withinB 256 [l] && withinB 65536 [c] && withinB 4096 [r, s]

theorem right_D (k l c r s : Int) : DPure Tp I 167 [.v (headV k l c r s)] (.v (.bool (headB k l c r s))) := by
  refine pure_of mix e167 (Nat.le_of_ble_eq_true rfl) ?_
  conv => whnf
  repeat' ((first | refine call_b (WkL.cons (Wk.v _) (WkL.cons (Wk.full _ _) WkL.nil)) (within1 _ _) (fun h => ?_) (fun h => ?_) | refine call_b (WkL.cons (Wk.v _) (WkL.cons (Wk.full _ _) WkL.nil)) (within2 _ _ _) (fun h => ?_) (fun h => ?_) | refine ⟨_, WkL.cons (Wk.v _) WkL.nil, rfl, ?_⟩ | refine ⟨_, WkL.cons (Wk.v _) (WkL.cons (Wk.v _) WkL.nil), rfl, ?_⟩ | refine cmp_split rfl (fun h => ?_) (fun h => ?_) | refine ⟨_, rfl, rfl, ?_⟩ | refine ⟨Or.inr rfl, ?_⟩ | refine ⟨rfl, ?_⟩ | fail) <;> conv => whnf)
  all_goals first
    | (refine bool_of (b := true) (by kernel_rfl) ?_; simp only [headB, *, Bool.and_true, Bool.true_and, Bool.false_and, Bool.and_false]; done)
    | (refine bool_of (b := false) (by kernel_rfl) ?_; simp only [headB, *, Bool.and_true, Bool.true_and, Bool.false_and, Bool.and_false]; done)
end Go.Proofs.YtlbodfkhenkcjaaGreatDoor.X


namespace Go.Proofs.YtlbodfkhenkcjaaGreatDoor.X
open Go Go.Proofs Go.RowKit Go.Proofs.YtlbodfkhenkcjaaGreatDoor.D
set_option maxRecDepth 100000
set_option maxHeartbeats 1000000
set_option linter.unusedVariables false
set_option linter.unusedSimpArgs false
variable {I : D.Inv}

def c115 : DFun := ⟨20, [.t 2], .seq (.reg [⟨some 2, .mv (.c (.string ⟨#[]⟩)), none⟩]) (.seq (.reg [⟨some 3, .mv (.c (.slice none 0 0)), none⟩]) (.seq (.seq (.reg [⟨some 6, .mv (.t 0), none⟩, ⟨some 7, .len false (.t 6), none⟩, ⟨some 8, .mv (.c (.int .i64 0)), none⟩]) (.block 0 (.loop (.seq (.reg [⟨some 9, .bin .lss (.t 8) (.t 7), none⟩]) (.seq (.cond (.t 9) .skip (.exit 0)) (.seq (.block 1 (.seq (.reg [⟨some 10, .ixa 1 (.t 6) (.t 8), none⟩, ⟨some 11, .ld 1 false (.t 10), none⟩, ⟨some 5, .mv (.t 11), none⟩]) (.reg [⟨some 12, .mv (.t 3), none⟩, ⟨some 13, .mv (.t 5), none⟩, ⟨some 14, .cvt .u8 (.t 13), none⟩, ⟨some 15, .bsl 1 [.t 14], none⟩, ⟨some 16, .app 5 1 1 (.t 12) (.t 15), none⟩, ⟨some 3, .mv (.t 16), none⟩]))) (.reg [⟨some 17, .bin .add (.t 8) (.c (.int .i64 1)), none⟩, ⟨some 8, .mv (.t 17), none⟩]))))))) (.seq (.reg [⟨some 18, .mv (.t 3), none⟩, ⟨some 19, .b2s (.t 18), none⟩, ⟨some 2, .mv (.t 19), none⟩]) .ret)))⟩
theorem e115 : cfun Tryz.prog 115 = some c115 := by kernel_rfl
def bl (l : List Int) : List DV := l.map fun n => VN .u8 (IntKind.u8.wrap n)
def bytesS (l : List Int) : ByteArray := strOfNums (l.map IntKind.u8.wrap)
theorem bl_nums (l : List Int) : nums (bl l) = some (l.map IntKind.u8.wrap) := by rw [← nums_map]; simp [bl]; rfl
theorem bl_bd {l : List Int} {i : Nat} (x : DV) (hl : l.length ≤ 1000000) : ((bl (l.take i)).length + [x].length) * 1 ≤ 140737488355328 := by simp [bl]; omega

theorem ltd_own {m k z t id e sz : Nat} {env : List (Nat × DV)} (h1 : Nat.ble k id = true) (h2 : Nat.blt id (k + z) = true) (e' : D.look env t = .v (.slice none 0 0)) : LtD m k z (D.look env t) (.own id e sz []) := by rw [e']; exact .own h1 h2

theorem bl_snoc {l : List Int} {i : Nat} (h : i < l.length) : bl (l.take i) ++ [VN .u8 (IntKind.u8.wrap l[i])] = bl (l.take (i + 1)) := by
  rw [List.take_succ_eq_append_getElem h]
  unfold bl
  rw [List.map_append]
  rfl

theorem bytes_D (l : List Int) (hl : l.length ≤ 1000000) : DPure Tp I 115 [ints l] (.v (.string (bytesS l))) := by
  refine pure_of mix e115 (Nat.le_of_ble_eq_true rfl) ?_
  conv => whnf
  repeat' ((first | refine ⟨_, rfl, ?_⟩ | fail) <;> conv => whnf)
  refine loop_ind (fun i : Nat => ⟨[(8, VN .i64 i), (7, VN .i64 l.length), (6, ints l), (3, .own 0 5 1 (bl (l.take i)))], [], [(bl (l.take i)).length * 1]⟩) (fun i => i ≤ l.length) (fun i => l.length - i) 0 ?_ (Nat.zero_le _) fun i hi => ?_
  · refine less_of 0 0 1 rfl rfl ?_ ?_ ?_ ?_ ?_
    · refine lessE_cons (ltd_eq rfl ?_) (lessE_cons (ltd_eq rfl ?_) (lessE_cons (ltd_eq rfl ?_) (lessE_cons (ltd_own rfl rfl ?_) lessE_nil)))
      · kernel_rfl
      · refine Eq.trans (b := VN .i64 (l.map fun n => VN .i64 n).length) ?_ (by simp)
        kernel_rfl
      · kernel_rfl
      · kernel_rfl
    all_goals kernel_rfl
  by_cases hlt : i < l.length
  · conv => whnf
    repeat' ((first | refine And.intro (by omega) ?_ | refine ⟨_, _, rfl, rfl, ints_get hlt, ?_⟩ | refine ⟨_, WkL.cons (Wk.v _) WkL.nil, rfl, ?_⟩ | refine And.intro (bl_bd _ hl) ?_ | refine cmp_split rfl (fun h => ?_) (fun h => ?_) | refine cond_t ?_ | refine cond_f ?_ | refine ⟨_, rfl, rfl, rfl, ?_⟩ | refine ⟨_, rfl, ?_⟩ | refine ⟨rfl, ?_⟩ | fail) <;> conv => whnf)
    · refine ⟨i + 1, less_of 0 1 0 rfl rfl (lessE_cons (ltd_eq rfl ?_) (lessE_cons (ltd_eq rfl ?_) (lessE_cons (ltd_eq rfl ?_) (lessE_cons (ltd_eq rfl ?_) lessE_nil)))) ?_ ?_ ?_ ?_, by omega, by omega⟩
      · refine Eq.trans (b := VN .i64 (IntKind.i64.wrap ((i : Int) + 1))) ?_ (by rw [wrap_i64 (by omega) (by omega)]; rfl)
        kernel_rfl
      · kernel_rfl
      · kernel_rfl
      · refine Eq.trans (b := .own 0 5 1 (bl (l.take i) ++ [VN .u8 (IntKind.u8.wrap l[i])])) (by kernel_rfl) (by rw [bl_snoc hlt])
      · kernel_rfl
      · kernel_rfl
      · refine Eq.trans (b := [((bl (l.take i)).length + [VN .u8 (IntKind.u8.wrap l[i])].length) * 1]) (by kernel_rfl) ?_
        rw [← bl_snoc hlt, List.length_append]
      · kernel_rfl
    · exfalso; simp at h; omega
  · conv => whnf
    repeat' ((first | refine And.intro (by omega) ?_ | refine ⟨_, _, rfl, rfl, ints_get (by have := of_decide_eq_true h; omega), ?_⟩ | refine ⟨_, WkL.cons (Wk.v _) WkL.nil, rfl, ?_⟩ | refine And.intro (bl_bd _ hl) ?_ | refine ⟨_, _, rfl, rfl, bl_nums _, ?_⟩ | refine cmp_split rfl (fun h => ?_) (fun h => ?_) | refine cond_t ?_ | refine cond_f ?_ | refine ⟨_, rfl, rfl, rfl, ?_⟩ | refine ⟨_, rfl, ?_⟩ | refine ⟨Or.inr rfl, ?_⟩ | refine ⟨rfl, ?_⟩ | fail) <;> conv => whnf)
    · exfalso; simp at h; omega
    · have hi' : i = l.length := by omega
      refine wk_v (x := .string (bytesS (l.take i))) (by kernel_rfl) ?_
      rw [List.take_of_length_le (by omega)]
end Go.Proofs.YtlbodfkhenkcjaaGreatDoor.X


namespace Go.Proofs.YtlbodfkhenkcjaaGreatDoor.X
open Go Go.Proofs Go.RowKit Go.Proofs.YtlbodfkhenkcjaaGreatDoor.D
set_option maxRecDepth 100000
set_option maxHeartbeats 1000000
set_option linter.unusedVariables false
set_option linter.unusedSimpArgs false
variable {I : D.Inv}

def c154 : DFun := ⟨21, [.t 2], .seq (.reg [⟨some 2, .mv (.c (.int .i64 0)), none⟩]) (.seq (.reg [⟨some 3, .mv (.c (.int .i64 0)), none⟩]) (.seq (.block 0 (.seq (.block 3 (.seq (.block 2 (.seq (.block 1 (.seq (.seq (.seq (.reg [⟨some 5, .mv (.t 0), none⟩, ⟨some 6, .bin .gtr (.t 5) (.c (.int .u8 249)), none⟩, ⟨some 4, .mv (.t 6), none⟩]) (.cond (.t 4) (.exit 1) .skip)) (.seq (.seq (.reg [⟨some 8, .mv (.t 0), none⟩, ⟨some 9, .bin .eql (.t 8) (.c (.int .u8 249)), none⟩, ⟨some 7, .mv (.t 9), none⟩]) (.cond (.t 7) (.exit 2) .skip)) (.seq (.reg [⟨some 11, .mv (.t 0), none⟩, ⟨some 12, .bin .geq (.t 11) (.c (.int .u8 241)), none⟩, ⟨some 10, .mv (.t 12), none⟩]) (.cond (.t 10) (.exit 3) .skip)))) (.exit 0))) (.seq (.seq (.reg [⟨some 13, .mv (.t 0), none⟩, ⟨some 14, .cvt .i64 (.t 13), none⟩, ⟨some 15, .bin .sub (.t 14) (.c (.int .i64 247)), none⟩, ⟨some 2, .mv (.t 15), none⟩]) .ret) (.exit 0)))) (.reg [⟨some 16, .mv (.t 3), none⟩, ⟨some 17, .bin .add (.t 16) (.c (.int .i64 1)), none⟩, ⟨some 3, .mv (.t 17), none⟩]))) (.seq (.reg [⟨some 18, .mv (.t 3), none⟩, ⟨some 19, .bin .add (.t 18) (.c (.int .i64 1)), none⟩, ⟨some 3, .mv (.t 19), none⟩]) (.exit 0)))) (.seq (.reg [⟨some 20, .mv (.t 3), none⟩, ⟨some 2, .mv (.t 20), none⟩]) .ret)))⟩
theorem e154 : cfun Tryz.prog 154 = some c154 := by kernel_rfl
def moreF (c : Int) : Int := if 249 < c then c - 247 else if c = 249 then 2 else if 241 ≤ c then 1 else 0
theorem int_of {d : DV} {k : IntKind} {b c : Int} (h : d = .v (.int k b)) (e : b = c) : Wk d (VN k c) := by subst h; subst e; exact .v _

theorem wmore_D (c : Int) (h0 : 0 ≤ c) (h1 : c ≤ 255) : DPure Tp I 154 [VN .u8 c] (VN .i64 (moreF c)) := by
  refine pure_of mix e154 (Nat.le_of_ble_eq_true rfl) ?_
  conv => whnf
  repeat' ((first | refine cmp_split rfl (fun h => ?_) (fun h => ?_) | refine cond_t ?_ | refine cond_f ?_ | refine ⟨_, rfl, ?_⟩ | refine ⟨Or.inr rfl, ?_⟩ | fail) <;> conv => whnf)
  · refine int_of (b := IntKind.i64.wrap (IntKind.i64.wrap c - 247)) (by kernel_rfl) ?_
    have := of_decide_eq_true h
    rw [wrap_i64 (n := c) (by omega) (by omega), wrap_i64 (by omega) (by omega), moreF, if_pos this]
  · refine int_of (b := IntKind.i64.wrap (IntKind.i64.wrap (0 + 1) + 1)) (by kernel_rfl) ?_
    have := eq_of_beq h
    subst this
    decide
  · rename_i g1 g2
    refine int_of (b := IntKind.i64.wrap (0 + 1)) (by kernel_rfl) ?_
    have g3 := of_decide_eq_false g1
    have g4 := of_decide_ne g2
    have g5 := of_decide_eq_true h
    rw [wrap_i64 (by omega) (by omega), moreF, if_neg g3, if_neg (Ne.symm g4), if_pos g5]
    rfl
  · rename_i g1 g2
    refine int_of (b := 0) (by kernel_rfl) ?_
    have g3 := of_decide_eq_false g1
    have g4 := of_decide_ne g2
    have g5 := of_decide_eq_false h
    rw [moreF, if_neg g3, if_neg (Ne.symm g4), if_neg g5]
end Go.Proofs.YtlbodfkhenkcjaaGreatDoor.X


namespace Go.Proofs.YtlbodfkhenkcjaaGreatDoor.X
open Go Go.Proofs Go.RowKit Go.Proofs.YtlbodfkhenkcjaaGreatDoor.D
set_option maxRecDepth 100000
set_option maxHeartbeats 1000000
set_option linter.unusedVariables false
set_option linter.unusedSimpArgs false
variable {I : D.Inv}

def c59 : DFun := ⟨37, [.t 4, .t 5], .seq (.reg [⟨some 4, .mv (.c (.int .u32 0)), none⟩, ⟨some 5, .mv (.c (.int .i64 0)), none⟩]) (.seq (.seq (.reg [⟨some 8, .mv (.t 1), none⟩, ⟨some 9, .bin .lss (.t 8) (.c (.int .i64 0)), none⟩, ⟨some 10, .mv (.t 9), none⟩, ⟨some 11, .mv (.t 1), some (10, false)⟩, ⟨some 12, .mv (.t 0), some (10, false)⟩, ⟨some 13, .len true (.t 12), some (10, false)⟩, ⟨some 14, .bin .gtr (.t 11) (.t 13), some (10, false)⟩, ⟨some 15, .pick (.t 10) (.c (.bool true)) (.t 14), none⟩]) (.cond (.t 15) (.seq (.reg [⟨some 4, .mv (.c (.int .u32 0)), none⟩, ⟨some 5, .mv (.c (.int .i64 4)), none⟩]) .ret) .skip)) (.seq (.seq (.reg [⟨some 16, .mv (.t 0), none⟩, ⟨some 17, .len true (.t 16), none⟩, ⟨some 18, .mv (.t 1), none⟩, ⟨some 19, .bin .sub (.t 17) (.t 18), none⟩, ⟨some 20, .bin .lss (.t 19) (.c (.int .i64 4)), none⟩]) (.cond (.t 20) (.seq (.reg [⟨some 4, .mv (.c (.int .u32 0)), none⟩, ⟨some 5, .mv (.c (.int .i64 7)), none⟩]) .ret) .skip)) (.seq (.reg [⟨some 6, .mv (.c (.int .u32 0)), none⟩]) (.seq (.seq (.reg [⟨some 21, .mv (.c (.int .i64 0)), none⟩]) (.block 0 (.loop (.seq (.reg [⟨some 22, .bin .lss (.t 21) (.c (.int .i64 4)), none⟩]) (.seq (.cond (.t 22) .skip (.exit 0)) (.seq (.block 1 (.seq (.reg [⟨some 23, .mv (.t 21), none⟩, ⟨some 7, .mv (.t 23), none⟩]) (.reg [⟨some 24, .mv (.t 6), none⟩, ⟨some 25, .mv (.t 0), none⟩, ⟨some 26, .mv (.t 1), none⟩, ⟨some 27, .mv (.t 7), none⟩, ⟨some 28, .bin .add (.t 26) (.t 27), none⟩, ⟨some 29, .ixs (.t 25) (.t 28), none⟩, ⟨some 30, .cvt .u32 (.t 29), none⟩, ⟨some 31, .mv (.t 7), none⟩, ⟨some 32, .bin .mul (.c (.int .i64 8)) (.t 31), none⟩, ⟨some 33, .bin .shl (.t 30) (.t 32), none⟩, ⟨some 34, .bin .or (.t 24) (.t 33), none⟩, ⟨some 6, .mv (.t 34), none⟩]))) (.reg [⟨some 35, .bin .add (.t 21) (.c (.int .i64 1)), none⟩, ⟨some 21, .mv (.t 35), none⟩]))))))) (.seq (.reg [⟨some 36, .mv (.t 6), none⟩, ⟨some 4, .mv (.t 36), none⟩, ⟨some 5, .mv (.c (.int .i64 0)), none⟩]) .ret)))))⟩
theorem e59 : cfun Tryz.prog 59 = some c59 := by kernel_rfl
def rdV (s : ByteArray) (a : Nat) : Nat → Int
  | 0 => 0
  | i + 1 => rdV s a i + byteAt s (a + i) * 2 ^ (8 * i)
theorem four_cases {i : Nat} (h : i < 4) : i = 0 ∨ i = 1 ∨ i = 2 ∨ i = 3 := by omega
theorem sh_b {b : Int} {i : Nat} (h0 : 0 ≤ b) (h1 : b ≤ 255) (hi : i < 4) : 0 ≤ b * 2 ^ (8 * i) ∧ b * 2 ^ (8 * i) ≤ 4294967295 := by
  rcases four_cases hi with rfl | rfl | rfl | rfl <;> simp <;> omega
theorem rdV_b (s : ByteArray) (a i : Nat) (hi : i ≤ 4) : 0 ≤ rdV s a i ∧ rdV s a i < 2 ^ (8 * i) := by
  have l := byteAt_lo s; have h := byteAt_hi s
  have hc : i = 0 ∨ i = 1 ∨ i = 2 ∨ i = 3 ∨ i = 4 := by omega
  have l0 := l a; have l1 := l (a+1); have l2 := l (a+2); have l3 := l (a+3)
  have h0 := h a; have h1 := h (a+1); have h2 := h (a+2); have h3 := h (a+3)
  rcases hc with rfl | rfl | rfl | rfl | rfl <;> simp [rdV] <;> omega
theorem rdV_or (s : ByteArray) (a i : Nat) (hi : i < 4) : byteAt s (a + i) * 2 ^ (8 * i) + rdV s a i < 4294967296 := by
  have := (rdV_b s a (i + 1) (by omega)).2
  have hc := four_cases hi
  simp only [rdV] at this
  rcases hc with rfl | rfl | rfl | rfl <;> simp at this ⊢ <;> omega
def rdE (s : ByteArray) (a : Int) : Int := if a < 0 ∨ (s.size : Int) < a then 4 else if (s.size : Int) - a < 4 then 7 else 0
def rdN (s : ByteArray) (a : Int) : Int := if rdE s a = 0 then rdV s a.toNat 4 else 0
theorem rdE_4 {s : ByteArray} {a : Int} (h : a < 0 ∨ (s.size : Int) < a) : rdE s a = 4 ∧ rdN s a = 0 := by
  have h1 : rdE s a = 4 := if_pos h
  exact ⟨h1, by rw [rdN, h1]; rfl⟩
theorem rdE_7 {s : ByteArray} {a : Int} (h : ¬ (a < 0 ∨ (s.size : Int) < a)) (h2 : (s.size : Int) - a < 4) : rdE s a = 7 ∧ rdN s a = 0 := by
  have h1 : rdE s a = 7 := by rw [rdE, if_neg h, if_pos h2]
  exact ⟨h1, by rw [rdN, h1]; rfl⟩
theorem rdE_0 {s : ByteArray} {a : Int} (h : ¬ (a < 0 ∨ (s.size : Int) < a)) (h2 : ¬ (s.size : Int) - a < 4) : rdE s a = 0 ∧ rdN s a = rdV s a.toNat 4 := by
  have h1 : rdE s a = 0 := by rw [rdE, if_neg h, if_neg h2]
  exact ⟨h1, by rw [rdN, if_pos h1]⟩
theorem read_D (s : ByteArray) (a : Int) (hs : s.size ≤ 1000000) (ha : -1000000 ≤ a ∧ a ≤ 1000000) : DPure Tp I 59 [.v (.string s), VN .i64 a] (.v (.tuple #[.int .u32 (rdN s a), .int .i64 (rdE s a)])) := by
  refine pure_of mix e59 (Nat.le_of_ble_eq_true rfl) ?_
  have ⟨n, hn⟩ : ∃ n : Nat, n = a.toNat := ⟨_, rfl⟩
  conv => whnf
  repeat' ((first | (with_reducible first | refine cond_t ?_ | refine cond_f ?_ | refine s_lss (fun _ => ?_) (fun _ => ?_) | refine s_gtr (fun _ => ?_) (fun _ => ?_) | refine s_sub (by omega) ?_) | ((with_reducible refine is_end ?_); refine ⟨Or.inr rfl, ?_⟩) | fail) <;> conv => whnf)
  · have hh := rdE_4 (s := s) (a := a) (by omega)
    refine wk_v (x := .tuple #[.int .u32 0, .int .i64 4]) (by kernel_rfl) ?_
    rw [hh.1, hh.2]
  · have hh := rdE_4 (s := s) (a := a) (by omega)
    refine wk_v (x := .tuple #[.int .u32 0, .int .i64 4]) (by kernel_rfl) ?_
    rw [hh.1, hh.2]
  · have hh := rdE_7 (s := s) (a := a) (by omega) (by omega)
    refine wk_v (x := .tuple #[.int .u32 0, .int .i64 7]) (by kernel_rfl) ?_
    rw [hh.1, hh.2]
  have hh := rdE_0 (s := s) (a := a) (by omega) (by omega)
  refine loop_ind (fun i : Nat => ⟨[(21, VN .i64 i), (6, VN .u32 (rdV s n i)), (0, .v (.string s)), (1, VN .i64 a)], [], []⟩) (fun i => i ≤ 4) (fun i => 4 - i) 0 ?_ (Nat.zero_le _) fun i hi => ?_
  · refine less_of 0 0 0 rfl rfl ?_ ?_ ?_ ?_ ?_
    · refine lessE_cons (ltd_eq rfl ?_) (lessE_cons (ltd_eq rfl ?_) (lessE_cons (ltd_eq rfl ?_) (lessE_cons (ltd_eq rfl ?_) lessE_nil))) <;> kernel_rfl
    all_goals kernel_rfl
  have hb := rdV_b s n i hi
  conv => whnf
  repeat' ((first | (with_reducible first | refine cond_t ?_ | refine cond_f ?_) | refine s_shl32 (8 * i) (by omega) (by omega) (sh_b (byteAt_lo _ _) (byteAt_hi _ _) (by omega)) ?_ | refine s_or32 (8 * i) (byteAt s (a + (i : Int)).toNat) rfl hb (byteAt_lo _ _) (by have := rdV_or s n i (by omega); rwa [show (a + (i : Int)).toNat = n + i by omega]) ?_ | (with_reducible first | refine s_lss (fun _ => ?_) (fun _ => ?_) | refine s_add (by omega) ?_ | refine s_mul (by omega) ?_ | refine c_u32_b ?_) | ((with_reducible refine is_end ?_); refine ⟨Or.inr rfl, ?_⟩) | refine And.intro (by omega) ?_ | fail) <;> conv => whnf)
  · refine ⟨i + 1, less_of 0 0 0 rfl rfl (lessE_cons (ltd_eq rfl ?_) (lessE_cons (ltd_eq rfl ?_) (lessE_cons (ltd_eq rfl ?_) (lessE_cons (ltd_eq rfl ?_) lessE_nil)))) ?_ ?_ ?_ ?_, by omega, by omega⟩
    · kernel_rfl
    · refine Eq.trans (b := VN .u32 (rdV s n i + byteAt s (a + (i : Int)).toNat * 2 ^ (8 * i))) (by kernel_rfl) ?_
      rw [show (a + (i : Int)).toNat = n + i by omega]
      rfl
    iterate 6 kernel_rfl
  · have hi4 : i = 4 := by omega
    subst hi4
    refine wk_v (x := .tuple #[.int .u32 (rdV s n 4), .int .i64 0]) (by kernel_rfl) ?_
    rw [hh.1, hh.2, hn]
end Go.Proofs.YtlbodfkhenkcjaaGreatDoor.X


namespace Go.Proofs.YtlbodfkhenkcjaaGreatDoor.X
open Go Go.Proofs Go.RowKit Go.Proofs.YtlbodfkhenkcjaaGreatDoor.D
set_option maxRecDepth 100000
set_option maxHeartbeats 1000000
set_option linter.unusedVariables false
set_option linter.unusedSimpArgs false
variable {I : D.Inv}

def c123 : DFun := ⟨73, [.t 2], .seq (.reg [⟨some 2, .mv (.c (.string ⟨#[]⟩)), none⟩]) (.seq (.block 0 (.seq (.reg [⟨some 7, .mv (.t 0), none⟩, ⟨some 8, .bin .leq (.t 7) (.c (.int .u64 240)), none⟩, ⟨some 6, .mv (.t 8), none⟩]) (.cond (.t 6) (.seq (.reg [⟨some 9, .mv (.t 0), none⟩, ⟨some 10, .cvt .u8 (.t 9), none⟩, ⟨some 11, .bsl 1 [.t 10], none⟩, ⟨some 12, .b2s (.t 11), none⟩, ⟨some 2, .mv (.t 12), none⟩]) .ret) (.seq (.reg [⟨some 14, .mv (.t 0), none⟩, ⟨some 15, .bin .leq (.t 14) (.c (.int .u64 2287)), none⟩, ⟨some 13, .mv (.t 15), none⟩]) (.cond (.t 13) (.seq (.reg [⟨some 16, .mv (.t 0), none⟩, ⟨some 17, .bin .sub (.t 16) (.c (.int .u64 240)), none⟩, ⟨some 18, .bin .shr (.t 17) (.c (.int .u64 8)), none⟩, ⟨some 19, .bin .add (.c (.int .u64 241)) (.t 18), none⟩, ⟨some 20, .cvt .u8 (.t 19), none⟩, ⟨some 21, .mv (.t 0), none⟩, ⟨some 22, .bin .sub (.t 21) (.c (.int .u64 240)), none⟩, ⟨some 23, .cvt .u8 (.t 22), none⟩, ⟨some 24, .bsl 1 [.t 20, .t 23], none⟩, ⟨some 25, .b2s (.t 24), none⟩, ⟨some 2, .mv (.t 25), none⟩]) .ret) (.seq (.reg [⟨some 27, .mv (.t 0), none⟩, ⟨some 28, .bin .leq (.t 27) (.c (.int .u64 67823)), none⟩, ⟨some 26, .mv (.t 28), none⟩]) (.cond (.t 26) (.seq (.reg [⟨some 29, .mv (.t 0), none⟩, ⟨some 30, .bin .sub (.t 29) (.c (.int .u64 2287)), none⟩, ⟨some 31, .bin .sub (.t 30) (.c (.int .u64 1)), none⟩, ⟨some 32, .bin .shr (.t 31) (.c (.int .u64 8)), none⟩, ⟨some 33, .cvt .u8 (.t 32), none⟩, ⟨some 34, .mv (.t 0), none⟩, ⟨some 35, .bin .sub (.t 34) (.c (.int .u64 2287)), none⟩, ⟨some 36, .bin .sub (.t 35) (.c (.int .u64 1)), none⟩, ⟨some 37, .cvt .u8 (.t 36), none⟩, ⟨some 38, .bsl 1 [.c (.int .u8 249), .t 33, .t 37], none⟩, ⟨some 39, .b2s (.t 38), none⟩, ⟨some 2, .mv (.t 39), none⟩]) .ret) .skip))))))) (.seq (.reg [⟨some 3, .mv (.c (.int .i64 3)), none⟩]) (.seq (.block 1 (.loop (.seq (.seq (.reg [⟨some 40, .mv (.t 3), none⟩, ⟨some 41, .bin .lss (.t 40) (.c (.int .i64 8)), none⟩, ⟨some 42, .mv (.t 41), none⟩, ⟨some 43, .mv (.t 0), some (42, true)⟩, ⟨some 44, .mv (.t 3), some (42, true)⟩, ⟨some 45, .bin .mul (.c (.int .i64 8)) (.t 44), some (42, true)⟩, ⟨some 46, .bin .shr (.t 43) (.t 45), some (42, true)⟩, ⟨some 47, .bin .gtr (.t 46) (.c (.int .u64 0)), some (42, true)⟩, ⟨some 48, .pick (.t 42) (.t 47) (.c (.bool false)), none⟩]) (.cond (.t 48) .skip (.exit 1))) (.block 2 (.reg [⟨some 49, .mv (.t 3), none⟩, ⟨some 50, .bin .add (.t 49) (.c (.int .i64 1)), none⟩, ⟨some 3, .mv (.t 50), none⟩]))))) (.seq (.reg [⟨some 51, .mv (.t 3), none⟩, ⟨some 52, .bin .add (.c (.int .i64 247)) (.t 51), none⟩, ⟨some 53, .cvt .u8 (.t 52), none⟩, ⟨some 54, .bsl 1 [.t 53], none⟩, ⟨some 4, .mv (.t 54), none⟩]) (.seq (.seq (.reg [⟨some 55, .mv (.t 3), none⟩, ⟨some 56, .mv (.c (.int .i64 0)), none⟩]) (.block 3 (.loop (.seq (.reg [⟨some 57, .bin .lss (.t 56) (.t 55), none⟩]) (.seq (.cond (.t 57) .skip (.exit 3)) (.seq (.block 4 (.seq (.reg [⟨some 58, .mv (.t 56), none⟩, ⟨some 5, .mv (.t 58), none⟩]) (.reg [⟨some 59, .mv (.t 4), none⟩, ⟨some 60, .mv (.t 0), none⟩, ⟨some 61, .mv (.t 3), none⟩, ⟨some 62, .bin .sub (.t 61) (.c (.int .i64 1)), none⟩, ⟨some 63, .mv (.t 5), none⟩, ⟨some 64, .bin .sub (.t 62) (.t 63), none⟩, ⟨some 65, .bin .mul (.c (.int .i64 8)) (.t 64), none⟩, ⟨some 66, .bin .shr (.t 60) (.t 65), none⟩, ⟨some 67, .cvt .u8 (.t 66), none⟩, ⟨some 68, .bsl 1 [.t 67], none⟩, ⟨some 69, .app 5 1 1 (.t 59) (.t 68), none⟩, ⟨some 4, .mv (.t 69), none⟩]))) (.reg [⟨some 70, .bin .add (.t 56) (.c (.int .i64 1)), none⟩, ⟨some 56, .mv (.t 70), none⟩]))))))) (.seq (.reg [⟨some 71, .mv (.t 4), none⟩, ⟨some 72, .b2s (.t 71), none⟩, ⟨some 2, .mv (.t 72), none⟩]) .ret))))))⟩
theorem e123 : cfun Tryz.prog 123 = some c123 := by kernel_rfl
def kOf (n : Int) : Nat := if n < 16777216 then 3 else if n < 4294967296 then 4 else if n < 1099511627776 then 5 else if n < 281474976710656 then 6 else if n < 72057594037927936 then 7 else 8
def beL (n : Int) (k i : Nat) : List Int := (List.range i).map fun j => n / 2 ^ (8 * (k - 1 - j)) % 256
def putS (n : Int) : ByteArray :=
  if n ≤ 240 then strOfNums [n] else if n ≤ 2287 then strOfNums [241 + (n - 240) / 2 ^ 8, (n - 240) % 256] else if n ≤ 67823 then strOfNums [249, (n - 2287 - 1) / 2 ^ 8, (n - 2287 - 1) % 256]
  else strOfNums ((247 + (kOf n : Int)) :: beL n (kOf n) (kOf n))
abbrev U8s (l : List Int) : List DV := l.map fun n => VN .u8 n
theorem beL_succ (n : Int) (k i : Nat) : beL n k (i + 1) = beL n k i ++ [n / 2 ^ (8 * (k - 1 - i)) % 256] := by simp [beL, List.range_succ]
theorem beL_len (n : Int) (k i : Nat) : (beL n k i).length = i := by simp [beL]
theorem U8s_nums (l : List Int) : nums (U8s l) = some l := nums_map l
def prE (n : Int) (k i : Nat) : DV := match i with
  | 0 => .full 1 [VN .u8 (247 + (k : Int))]
  | i + 1 => .own 0 5 1 (U8s ((247 + (k : Int)) :: beL n k (i + 1)))
def prO (i : Nat) : List Nat := match i with
  | 0 => []
  | i + 1 => [(i + 1 + 1) * 1]
abbrev SV (s : ByteArray) : DV := .v (.string s)
theorem str_of {d : DV} {s t : ByteArray} (h : d = .v (.string s)) (e : s = t) : Wk d (.v (.string t)) := by subst h; subst e; exact .v _

theorem s_shr64 {K : Value → Prop} {k' : IntKind} {a y : Int} (m : Nat) (h : y = m) (hm : m ≤ 64) (hk : K (.int .u64 (a / 2 ^ m))) : ∃ r, dbin .shr (.int .u64 a) (.int k' y) = some r ∧ K r := s_shr m h hm hk
theorem kOf_b (n : Int) : 3 ≤ kOf n ∧ kOf n ≤ 8 := by unfold kOf; (repeat' split) <;> omega
theorem kOf_up {n : Int} {k : Nat} (h3 : 3 ≤ k) (h8 : k < 8) (h : 0 < n / 2 ^ (8 * k)) (hk : k ≤ kOf n) : k + 1 ≤ kOf n := by
  have hc : k = 3 ∨ k = 4 ∨ k = 5 ∨ k = 6 ∨ k = 7 := by omega
  unfold kOf at hk ⊢
  rcases hc with rfl | rfl | rfl | rfl | rfl <;> simp at h <;> (repeat' split) <;> omega
theorem kOf_at {n : Int} {k : Nat} (h3 : 3 ≤ k) (h8 : k < 8) (h : ¬ 0 < n / 2 ^ (8 * k)) (hk : k ≤ kOf n) : kOf n = k := by
  have hc : k = 3 ∨ k = 4 ∨ k = 5 ∨ k = 6 ∨ k = 7 := by omega
  unfold kOf at hk ⊢
  rcases hc with rfl | rfl | rfl | rfl | rfl <;> simp at h hk ⊢ <;> (repeat' split at hk) <;> (repeat' split) <;> omega
theorem prO_ok (n : Int) (k i : Nat) : (prO (i + 1))[0]? = some ((U8s ((247 + (k : Int)) :: beL n k (i + 1))).length * 1) := by simp [prO, U8s, beL_len]
theorem prO_le {n : Int} {k i : Nat} {x : DV} (h : i + 1 ≤ 8) : ((U8s ((247 + (k : Int)) :: beL n k (i + 1))).length + [x].length) * 1 ≤ 140737488355328 := by simp [U8s, beL_len]; omega
theorem prE_snoc {n : Int} {k i : Nat} : VN .u8 (247 + (k : Int)) :: (U8s (beL n k i) ++ [VN .u8 (n / 2 ^ (8 * (k - 1 - i)) % 256)]) = U8s ((247 + (k : Int)) :: beL n k (i + 1)) := by
  rw [beL_succ]; simp [U8s]

theorem put_D (n : Int) (h : 0 ≤ n ∧ n ≤ 18446744073709551615) : DPure Tp I 123 [VN .u64 n] (.v (.string (putS n))) := by
  refine pure_of mix e123 (Nat.le_of_ble_eq_true rfl) ?_
  conv => whnf
  repeat' ((first | (with_reducible first | refine cond_t ?_ | refine cond_f ?_ | refine c_u8 (by omega) ?_ | refine c_u8_mod ?_ | refine s_shr 8 rfl (by decide) ?_ | refine s_leq (fun _ => ?_) (fun _ => ?_) | refine s_addu (by omega) ?_ | refine s_subu (by omega) ?_) | ((with_reducible refine is_bsl ?_); refine ⟨_, wknL_ok rfl, rfl, ?_⟩) | ((with_reducible refine is_b2s ?_); refine ⟨_, _, rfl, rfl, rfl, ?_⟩) | ((with_reducible refine is_end ?_); refine ⟨Or.inr rfl, ?_⟩) | fail) <;> conv => whnf)
  · refine str_of (s := strOfNums [n]) (by kernel_rfl) ?_
    rw [putS, if_pos (by omega)]
  · refine str_of (s := strOfNums [241 + (n - 240) / 2 ^ 8, (n - 240) % 256]) (by kernel_rfl) ?_
    rw [putS, if_neg (by omega), if_pos (by omega)]
  · refine str_of (s := strOfNums [249, (n - 2287 - 1) / 2 ^ 8, (n - 2287 - 1) % 256]) (by kernel_rfl) ?_
    rw [putS, if_neg (by omega), if_neg (by omega), if_pos (by omega)]
  refine loop_ind (fun k : Nat => ⟨[(3, VN .i64 k), (0, VN .u64 n)], [], []⟩) (fun k => 3 ≤ k ∧ k ≤ kOf n) (fun k => 8 - k) 3 ?_ ⟨by omega, (kOf_b n).1⟩ fun k hk => ?_
  · refine less_of 0 0 0 rfl rfl ?_ ?_ ?_ ?_ ?_
    · refine lessE_cons (ltd_eq rfl ?_) (lessE_cons (ltd_eq rfl ?_) lessE_nil) <;> kernel_rfl
    all_goals kernel_rfl
  have hk8 := (kOf_b n).2
  conv => whnf
  repeat' ((first | (with_reducible first | refine cond_t ?_ | refine cond_f ?_ | refine c_u8 (by omega) ?_ | refine s_shr64 (8 * k) (by omega) (by omega) ?_ | refine s_lss (fun _ => ?_) (fun _ => ?_) | refine s_gtr (fun _ => ?_) (fun _ => ?_) | refine s_add (by omega) ?_ | refine s_mul (by omega) ?_) | ((with_reducible refine is_bsl ?_); refine ⟨_, wknL_ok rfl, rfl, ?_⟩) | fail) <;> conv => whnf)
  · exact ⟨k + 1, less_of 0 0 0 rfl rfl (lessE_cons (ltd_eq rfl (by kernel_rfl)) (lessE_cons (ltd_eq rfl (by kernel_rfl)) lessE_nil)) (by kernel_rfl) (by kernel_rfl) (by kernel_rfl) (by kernel_rfl), ⟨by omega, kOf_up hk.1 (by omega) ‹_› hk.2⟩, by omega⟩
  all_goals (
    have he : kOf n = k := by first | exact kOf_at hk.1 (by omega) ‹_› hk.2 | omega
    refine loop_ind (fun i : Nat => ⟨[(3, VN .i64 k), (0, VN .u64 n), (4, prE n k i), (55, VN .i64 k), (56, VN .i64 i)], [], prO i⟩) (fun i => i ≤ k) (fun i => k - i) 0 ?_ (Nat.zero_le _) fun i hi => ?_
    · refine less_of 0 0 0 rfl rfl ?_ ?_ ?_ ?_ ?_
      · refine lessE_cons (ltd_eq rfl ?_) (lessE_cons (ltd_eq rfl ?_) (lessE_cons (ltd_eq rfl ?_) (lessE_cons (ltd_eq rfl ?_) (lessE_cons (ltd_eq rfl ?_) lessE_nil)))) <;> kernel_rfl
      all_goals kernel_rfl
    by_cases hik : i < k
    · cases i with
      | zero =>
        conv => whnf
        repeat' ((first | (with_reducible first | refine cond_t ?_ | refine c_u8_mod ?_ | refine s_shr64 (8 * (k - 1)) (by omega) (by omega) ?_ | refine s_lss_t (by omega) ?_ | refine s_add (by omega) ?_ | refine s_sub (by omega) ?_ | refine s_mul (by omega) ?_) | ((with_reducible refine is_bsl ?_); refine ⟨_, wknL_ok rfl, rfl, ?_⟩) | ((with_reducible refine is_e3 ?_); refine ⟨_, rfl, rfl, ?_⟩) | with_reducible refine is_ne ?_ | ((with_reducible refine is_and ?_); refine And.intro rfl ?_) | (refine And.intro (by simp only [List.length_cons, List.length_nil, List.length_map, List.length_append, List.length_take, List.length_drop]; omega) ?_) | fail) <;> conv => whnf)
        exact ⟨1, less_of 0 1 0 rfl rfl (lessE_cons (ltd_eq rfl (by kernel_rfl)) (lessE_cons (ltd_eq rfl (by kernel_rfl)) (lessE_cons (ltd_eq rfl (by kernel_rfl)) (lessE_cons (ltd_eq rfl (by kernel_rfl)) (lessE_cons (ltd_eq rfl (by kernel_rfl)) lessE_nil))))) (by kernel_rfl) (by kernel_rfl) (by kernel_rfl) (by kernel_rfl), by omega, by omega⟩
      | succ i =>
        conv => whnf
        repeat' ((first | (with_reducible first | refine cond_t ?_ | refine c_u8_mod ?_ | refine s_shr64 (8 * (k - 1 - (i + 1))) (by omega) (by omega) ?_) | refine And.intro (prO_ok _ _ _) ?_ | refine And.intro (prO_le (by omega)) ?_ | (with_reducible first | refine s_lss_t (by omega) ?_ | refine s_add (by omega) ?_ | refine s_sub (by omega) ?_ | refine s_mul (by omega) ?_) | ((with_reducible refine is_bsl ?_); refine ⟨_, wknL_ok rfl, rfl, ?_⟩) | ((with_reducible refine is_e3 ?_); refine ⟨_, rfl, rfl, ?_⟩) | ((with_reducible refine is_and ?_); refine And.intro rfl ?_) | fail) <;> conv => whnf)
        refine ⟨i + 2, less_of 0 1 0 rfl rfl (lessE_cons (ltd_eq rfl (by kernel_rfl)) (lessE_cons (ltd_eq rfl (by kernel_rfl)) (lessE_cons (ltd_eq rfl ?_) (lessE_cons (ltd_eq rfl (by kernel_rfl)) (lessE_cons (ltd_eq rfl (by kernel_rfl)) lessE_nil))))) (by kernel_rfl) (by kernel_rfl) ?_ (by kernel_rfl), by omega, by omega⟩
        · refine Eq.trans (b := .own 0 5 1 (VN .u8 (247 + (k : Int)) :: (U8s (beL n k (i + 1)) ++ [VN .u8 (n / 2 ^ (8 * (k - 1 - (i + 1))) % 256)]))) (by kernel_rfl) ?_
          rw [prE_snoc]
          rfl
        · refine Eq.trans (b := [((U8s ((247 + (k : Int)) :: beL n k (i + 1))).length + 1) * 1]) (by kernel_rfl) ?_
          simp [U8s, beL_len, prO]
    · have hi' : i = k := by omega
      obtain ⟨j, hj⟩ : ∃ j, i = j + 1 := ⟨i - 1, by omega⟩
      rw [hj]
      conv => whnf
      repeat' ((first | with_reducible refine cond_f ?_ | refine ⟨_, _, rfl, rfl, U8s_nums _, ?_⟩ | with_reducible refine s_lss_f (by omega) ?_ | ((with_reducible refine is_end ?_); refine ⟨Or.inr rfl, ?_⟩) | fail) <;> conv => whnf)
      refine str_of (s := strOfNums ((247 + (k : Int)) :: beL n k (j + 1))) (by kernel_rfl) ?_
      rw [putS, if_neg (by omega), if_neg (by omega), if_neg (by omega), he, ← hj, hi']
  )
end Go.Proofs.YtlbodfkhenkcjaaGreatDoor.X


namespace Go.Proofs.YtlbodfkhenkcjaaGreatDoor.X
open Go Go.Proofs Go.RowKit Go.Proofs.YtlbodfkhenkcjaaGreatDoor.D
set_option maxRecDepth 100000
set_option maxHeartbeats 1000000
set_option linter.unusedVariables false
set_option linter.unusedSimpArgs false
variable {I : D.Inv}

def c96 : DFun := ⟨91, [.t 4, .t 5, .t 6], .seq (.reg [⟨some 4, .mv (.c (.int .u64 0)), none⟩, ⟨some 5, .mv (.c (.int .i64 0)), none⟩, ⟨some 6, .mv (.c (.int .i64 0)), none⟩]) (.seq (.seq (.reg [⟨some 12, .mv (.t 1), none⟩, ⟨some 13, .bin .lss (.t 12) (.c (.int .i64 0)), none⟩, ⟨some 14, .mv (.t 13), none⟩, ⟨some 15, .mv (.t 1), some (14, false)⟩, ⟨some 16, .mv (.t 0), some (14, false)⟩, ⟨some 17, .len true (.t 16), some (14, false)⟩, ⟨some 18, .bin .gtr (.t 15) (.t 17), some (14, false)⟩, ⟨some 19, .pick (.t 14) (.c (.bool true)) (.t 18), none⟩]) (.cond (.t 19) (.seq (.reg [⟨some 4, .mv (.c (.int .u64 0)), none⟩, ⟨some 5, .mv (.c (.int .i64 0)), none⟩, ⟨some 6, .mv (.c (.int .i64 4)), none⟩]) .ret) .skip)) (.seq (.seq (.reg [⟨some 20, .mv (.t 1), none⟩, ⟨some 21, .mv (.t 0), none⟩, ⟨some 22, .len true (.t 21), none⟩, ⟨some 23, .bin .eql (.t 20) (.t 22), none⟩, ⟨some 24, .mv (.t 23), none⟩, ⟨some 25, .mv (.t 0), some (24, false)⟩, ⟨some 26, .len true (.t 25), some (24, false)⟩, ⟨some 27, .mv (.t 1), some (24, false)⟩, ⟨some 28, .bin .sub (.t 26) (.t 27), some (24, false)⟩, ⟨some 29, .bin .sub (.t 28) (.c (.int .i64 1)), some (24, false)⟩, ⟨some 30, .mv (.t 0), some (24, false)⟩, ⟨some 31, .mv (.t 1), some (24, false)⟩, ⟨some 32, .ixs (.t 30) (.t 31), some (24, false)⟩, ⟨some 33, .call 154 [.t 32], some (24, false)⟩, ⟨some 34, .bin .lss (.t 29) (.t 33), some (24, false)⟩, ⟨some 35, .pick (.t 24) (.c (.bool true)) (.t 34), none⟩]) (.cond (.t 35) (.seq (.reg [⟨some 4, .mv (.c (.int .u64 0)), none⟩, ⟨some 5, .mv (.c (.int .i64 0)), none⟩, ⟨some 6, .mv (.c (.int .i64 7)), none⟩]) .ret) .skip)) (.seq (.reg [⟨some 36, .mv (.t 0), none⟩, ⟨some 37, .mv (.t 1), none⟩, ⟨some 38, .ixs (.t 36) (.t 37), none⟩, ⟨some 39, .call 154 [.t 38], none⟩, ⟨some 7, .mv (.t 39), none⟩]) (.seq (.reg [⟨some 8, .mv (.c (.int .u64 0)), none⟩]) (.seq (.seq (.reg [⟨some 40, .mv (.t 7), none⟩, ⟨some 41, .mv (.c (.int .i64 0)), none⟩]) (.block 0 (.loop (.seq (.reg [⟨some 42, .bin .lss (.t 41) (.t 40), none⟩]) (.seq (.cond (.t 42) .skip (.exit 0)) (.seq (.block 1 (.seq (.reg [⟨some 43, .mv (.t 41), none⟩, ⟨some 9, .mv (.t 43), none⟩]) (.reg [⟨some 44, .mv (.t 8), none⟩, ⟨some 45, .bin .shl (.t 44) (.c (.int .u64 8)), none⟩, ⟨some 46, .mv (.t 0), none⟩, ⟨some 47, .mv (.t 1), none⟩, ⟨some 48, .bin .add (.t 47) (.c (.int .i64 1)), none⟩, ⟨some 49, .mv (.t 9), none⟩, ⟨some 50, .bin .add (.t 48) (.t 49), none⟩, ⟨some 51, .ixs (.t 46) (.t 50), none⟩, ⟨some 52, .cvt .u64 (.t 51), none⟩, ⟨some 53, .bin .or (.t 45) (.t 52), none⟩, ⟨some 8, .mv (.t 53), none⟩]))) (.reg [⟨some 54, .bin .add (.t 41) (.c (.int .i64 1)), none⟩, ⟨some 41, .mv (.t 54), none⟩]))))))) (.seq (.seq (.reg [⟨some 55, .mv (.t 0), none⟩, ⟨some 56, .mv (.t 1), none⟩, ⟨some 57, .ixs (.t 55) (.t 56), none⟩, ⟨some 10, .mv (.t 57), none⟩]) (.block 2 (.seq (.reg [⟨some 59, .mv (.t 7), none⟩, ⟨some 60, .bin .eql (.t 59) (.c (.int .i64 0)), none⟩, ⟨some 58, .mv (.t 60), none⟩]) (.cond (.t 58) (.reg [⟨some 61, .mv (.t 10), none⟩, ⟨some 62, .cvt .u64 (.t 61), none⟩, ⟨some 8, .mv (.t 62), none⟩]) (.seq (.reg [⟨some 64, .mv (.t 7), none⟩, ⟨some 65, .bin .eql (.t 64) (.c (.int .i64 1)), none⟩, ⟨some 63, .mv (.t 65), none⟩]) (.cond (.t 63) (.reg [⟨some 66, .mv (.t 8), none⟩, ⟨some 67, .mv (.t 10), none⟩, ⟨some 68, .bin .sub (.t 67) (.c (.int .u8 241)), none⟩, ⟨some 69, .cvt .u64 (.t 68), none⟩, ⟨some 70, .bin .shl (.t 69) (.c (.int .u64 8)), none⟩, ⟨some 71, .bin .add (.c (.int .u64 240)) (.t 70), none⟩, ⟨some 72, .bin .add (.t 66) (.t 71), none⟩, ⟨some 8, .mv (.t 72), none⟩]) (.seq (.reg [⟨some 74, .mv (.t 7), none⟩, ⟨some 75, .bin .eql (.t 74) (.c (.int .i64 2)), none⟩, ⟨some 73, .mv (.t 75), none⟩]) (.cond (.t 73) (.reg [⟨some 76, .mv (.t 8), none⟩, ⟨some 77, .bin .add (.t 76) (.c (.int .u64 2288)), none⟩, ⟨some 8, .mv (.t 77), none⟩]) .skip)))))))) (.seq (.seq (.reg [⟨some 78, .mv (.t 1), none⟩, ⟨some 79, .bin .add (.t 78) (.c (.int .i64 1)), none⟩, ⟨some 80, .mv (.t 7), none⟩, ⟨some 81, .bin .add (.t 79) (.t 80), none⟩, ⟨some 11, .mv (.t 81), none⟩]) (.seq (.reg [⟨some 82, .mv (.t 8), none⟩, ⟨some 83, .call 123 [.t 82], none⟩, ⟨some 84, .mv (.t 0), none⟩, ⟨some 85, .mv (.t 1), none⟩, ⟨some 86, .mv (.t 11), none⟩, ⟨some 87, .slS (.t 84) (some (.t 85)) (some (.t 86)), none⟩, ⟨some 88, .bin .eql (.t 83) (.t 87), none⟩]) (.cond (.t 88) (.seq (.reg [⟨some 89, .mv (.t 8), none⟩, ⟨some 90, .mv (.t 11), none⟩, ⟨some 4, .mv (.t 89), none⟩, ⟨some 5, .mv (.t 90), none⟩, ⟨some 6, .mv (.c (.int .i64 0)), none⟩]) .ret) .skip))) (.seq (.reg [⟨some 4, .mv (.c (.int .u64 0)), none⟩, ⟨some 5, .mv (.c (.int .i64 0)), none⟩, ⟨some 6, .mv (.c (.int .i64 3)), none⟩]) .ret))))))))⟩
theorem e96 : cfun Tryz.prog 96 = some c96 := by kernel_rfl
def bigN (s : ByteArray) (a : Nat) : Nat → Int
  | 0 => 0
  | i + 1 => bigN s a i * 2 ^ 8 + byteAt s (a + i)
theorem bigN_b (s : ByteArray) (a : Nat) : ∀ i, 0 ≤ bigN s a i ∧ bigN s a i < 2 ^ (8 * i)
  | 0 => by simp [bigN]
  | i + 1 => by
    have h := bigN_b s a i
    have := byteAt_lo s (a + i); have := byteAt_hi s (a + i)
    have e : (2 : Int) ^ (8 * (i + 1)) = 2 ^ (8 * i) * 256 := by rw [show 8 * (i + 1) = 8 * i + 8 by omega, Int.pow_add]; rfl
    rw [e]
    simp only [bigN]
    generalize (2 : Int) ^ (8 * i) = z at h
    omega
theorem bigN_56 (s : ByteArray) (a i : Nat) (h : i < 8) : bigN s a i < 72057594037927936 := by
  have hb := (bigN_b s a i).2
  have hc : i = 0 ∨ i = 1 ∨ i = 2 ∨ i = 3 ∨ i = 4 ∨ i = 5 ∨ i = 6 ∨ i = 7 := by omega
  rcases hc with rfl | rfl | rfl | rfl | rfl | rfl | rfl | rfl <;> simp at hb <;> omega
theorem bigN_64 (s : ByteArray) (a i : Nat) (h : i ≤ 8) : bigN s a i < 18446744073709551616 := by
  have hb := (bigN_b s a i).2
  have hc : i = 0 ∨ i = 1 ∨ i = 2 ∨ i = 3 ∨ i = 4 ∨ i = 5 ∨ i = 6 ∨ i = 7 ∨ i = 8 := by omega
  rcases hc with rfl | rfl | rfl | rfl | rfl | rfl | rfl | rfl | rfl <;> simp at hb <;> omega
def moreN (s : ByteArray) (a : Int) : Nat := (moreF (byteAt s a.toNat)).toNat
theorem moreF_b {c : Int} (h : c ≤ 255) : 0 ≤ moreF c ∧ moreF c ≤ 8 := by unfold moreF; (repeat' split) <;> omega
theorem moreN_eq (s : ByteArray) (a : Int) : moreF (byteAt s a.toNat) = (moreN s a : Int) := by have := (moreF_b (byteAt_hi s a.toNat)).1; unfold moreN; omega
theorem moreN_b (s : ByteArray) (a : Int) : moreN s a ≤ 8 := by have := (moreF_b (byteAt_hi s a.toNat)).2; unfold moreN; omega
def getV (s : ByteArray) (a : Int) : Int := let k := moreN s a; let c := byteAt s a.toNat; let n := bigN s (a.toNat + 1) k
  if k = 0 then c else if k = 1 then n + (240 + (c - 241) * 2 ^ 8) else if k = 2 then n + 2288 else n
def getShort (s : ByteArray) (a : Int) : Prop := a = s.size ∨ (s.size : Int) - a - 1 < moreN s a
instance (s : ByteArray) (a : Int) : Decidable (getShort s a) := inferInstanceAs (Decidable (_ ∨ _))
def getE (s : ByteArray) (a : Int) : Int := if a < 0 ∨ (s.size : Int) < a then 4 else if getShort s a then 7 else if putS (getV s a) = s.extract a.toNat (a + 1 + moreN s a).toNat then 0 else 3
def getN (s : ByteArray) (a : Int) : Int := if getE s a = 0 then getV s a else 0
def getT (s : ByteArray) (a : Int) : Int := if getE s a = 0 then a + 1 + moreN s a else 0
theorem tup3_of {d : DV} {a b c a' b' c' : Value} (h : d = .v (.tuple #[a, b, c])) (h1 : a' = a) (h2 : b' = b) (h3 : c' = c) : Wk d (.v (.tuple #[a', b', c'])) := by subst h; subst h1; subst h2; subst h3; exact .v _
theorem getE_4 {s : ByteArray} {a : Int} (h : a < 0 ∨ (s.size : Int) < a) : getE s a = 4 ∧ getN s a = 0 ∧ getT s a = 0 := by
  have h1 : getE s a = 4 := if_pos h
  exact ⟨h1, by rw [getN, h1]; rfl, by rw [getT, h1]; rfl⟩
theorem getE_7 {s : ByteArray} {a : Int} (h : ¬ (a < 0 ∨ (s.size : Int) < a)) (h2 : getShort s a) : getE s a = 7 ∧ getN s a = 0 ∧ getT s a = 0 := by
  have h1 : getE s a = 7 := by rw [getE, if_neg h, if_pos h2]
  exact ⟨h1, by rw [getN, h1]; rfl, by rw [getT, h1]; rfl⟩
theorem getE_3 {s : ByteArray} {a : Int} (h : ¬ (a < 0 ∨ (s.size : Int) < a)) (h2 : ¬ getShort s a) (h3 : ¬ putS (getV s a) = s.extract a.toNat (a + 1 + moreN s a).toNat) : getE s a = 3 ∧ getN s a = 0 ∧ getT s a = 0 := by
  have h1 : getE s a = 3 := by rw [getE, if_neg h, if_neg h2, if_neg h3]
  exact ⟨h1, by rw [getN, h1]; rfl, by rw [getT, h1]; rfl⟩
theorem getE_0 {s : ByteArray} {a : Int} (h : ¬ (a < 0 ∨ (s.size : Int) < a)) (h2 : ¬ getShort s a) (h3 : putS (getV s a) = s.extract a.toNat (a + 1 + moreN s a).toNat) : getE s a = 0 ∧ getN s a = getV s a ∧ getT s a = a + 1 + moreN s a := by
  have h1 : getE s a = 0 := by rw [getE, if_neg h, if_neg h2, if_pos h3]
  exact ⟨h1, by rw [getN, if_pos h1], by rw [getT, if_pos h1]⟩
theorem getV_0 {s : ByteArray} {a : Int} (h : (moreN s a : Int) = 0) : getV s a = byteAt s a.toNat := by unfold getV; rw [if_pos (by omega)]
theorem getV_1 {s : ByteArray} {a : Int} {i : Nat} (hi : i = moreN s a) (h : (moreN s a : Int) = 1) : getV s a = bigN s (a.toNat + 1) i + (240 + (byteAt s a.toNat - 241) * 2 ^ 8) := by subst hi; unfold getV; rw [if_neg (by omega), if_pos (by omega)]
theorem getV_2 {s : ByteArray} {a : Int} {i : Nat} (hi : i = moreN s a) (h : (moreN s a : Int) = 2) : getV s a = bigN s (a.toNat + 1) i + 2288 := by subst hi; unfold getV; rw [if_neg (by omega), if_neg (by omega), if_pos (by omega)]
theorem getV_3 {s : ByteArray} {a : Int} {i : Nat} (hi : i = moreN s a) (h0 : ¬ (moreN s a : Int) = 0) (h1 : ¬ (moreN s a : Int) = 1) (h2 : ¬ (moreN s a : Int) = 2) : getV s a = bigN s (a.toNat + 1) i := by subst hi; unfold getV; rw [if_neg (by omega), if_neg (by omega), if_neg (by omega)]
theorem more1 (s : ByteArray) (a : Int) : DPure Tp I 154 [VN .u8 (byteAt s a.toNat)] (VN .i64 (moreN s a)) := by
  rw [← moreN_eq]; exact wmore_D _ (byteAt_lo _ _) (byteAt_hi _ _)
theorem more_1 {s : ByteArray} {a : Int} (h : moreN s a = 1) : 241 ≤ byteAt s a.toNat ∧ byteAt s a.toNat ≤ 248 := by
  have e := moreN_eq s a
  rw [h] at e
  unfold moreF at e
  have := byteAt_hi s a.toNat
  (repeat' split at e) <;> omega

theorem get_D (s : ByteArray) (a : Int) (hs : s.size ≤ 1000000) (ha : -1000000 ≤ a ∧ a ≤ 2000000) : DPure Tp I 96 [.v (.string s), VN .i64 a] (.v (.tuple #[.int .u64 (getN s a), .int .i64 (getT s a), .int .i64 (getE s a)])) := by
  refine pure_of mix e96 (Nat.le_of_ble_eq_true rfl) ?_
  have hk8 := moreN_b s a
  conv => whnf
  repeat' ((first | (with_reducible first | refine cond_t ?_ | refine cond_f ?_) | refine ⟨_, _, wknL_ok rfl, more1 _ _, ?_⟩ | (with_reducible first | refine s_lss (fun _ => ?_) (fun _ => ?_) | refine s_gtr (fun _ => ?_) (fun _ => ?_) | refine s_eql (fun _ => ?_) (fun _ => ?_) | refine s_sub (by omega) ?_) | ((with_reducible refine is_end ?_); refine ⟨Or.inr rfl, ?_⟩) | refine And.intro (by omega) ?_ | fail) <;> conv => whnf)
  · have h := getE_4 (s := s) (a := a) (by omega)
    exact tup3_of (a := .int .u64 0) (b := .int .i64 0) (c := .int .i64 4) (by kernel_rfl) (by rw [h.2.1]) (by rw [h.2.2]) (by rw [h.1])
  · have h := getE_4 (s := s) (a := a) (by omega)
    exact tup3_of (a := .int .u64 0) (b := .int .i64 0) (c := .int .i64 4) (by kernel_rfl) (by rw [h.2.1]) (by rw [h.2.2]) (by rw [h.1])
  · have h := getE_7 (s := s) (a := a) (by omega) (.inl (by omega))
    exact tup3_of (a := .int .u64 0) (b := .int .i64 0) (c := .int .i64 7) (by kernel_rfl) (by rw [h.2.1]) (by rw [h.2.2]) (by rw [h.1])
  · have h := getE_7 (s := s) (a := a) (by omega) (.inr (by omega))
    exact tup3_of (a := .int .u64 0) (b := .int .i64 0) (c := .int .i64 7) (by kernel_rfl) (by rw [h.2.1]) (by rw [h.2.2]) (by rw [h.1])
  have hns : ¬ getShort s a := by unfold getShort; omega
  have hr : ¬ (a < 0 ∨ (s.size : Int) < a) := by omega
  refine loop_ind (fun i : Nat => ⟨[(0, SV s), (1, VN .i64 a), (7, VN .i64 (moreN s a)), (8, VN .u64 (bigN s (a.toNat + 1) i)), (40, VN .i64 (moreN s a)), (41, VN .i64 i)], [], []⟩) (fun i => i ≤ moreN s a) (fun i => moreN s a - i) 0 ?_ (Nat.zero_le _) fun i hi => ?_
  · refine less_of 0 0 0 rfl rfl ?_ ?_ ?_ ?_ ?_
    · refine lessE_cons (ltd_eq rfl ?_) (lessE_cons (ltd_eq rfl ?_) (lessE_cons (ltd_eq rfl ?_) (lessE_cons (ltd_eq rfl ?_) (lessE_cons (ltd_eq rfl ?_) (lessE_cons (ltd_eq rfl ?_) lessE_nil))))) <;> kernel_rfl
    all_goals kernel_rfl
  have hb := bigN_b s (a.toNat + 1) i
  have h64 := bigN_64 s (a.toNat + 1) i (by omega)
  by_cases hik : i < moreN s a
  · have h56 := bigN_56 s (a.toNat + 1) i (by omega)
    conv => whnf
    repeat' ((first | (with_reducible first | refine cond_t ?_ | refine s_shl64 8 rfl (by decide) (by omega) ?_) | with_reducible refine s_or64 8 (bigN s (a.toNat + 1) i) rfl ⟨byteAt_lo _ _, by have := byteAt_hi s (a + 1 + (i : Int)).toNat; omega⟩ hb.1 (by have := byteAt_hi s (a + 1 + (i : Int)).toNat; omega) ?_ | (with_reducible first | refine s_lss_t (by omega) ?_ | refine s_add (by omega) ?_ | refine c_u64_b ?_) | refine And.intro (by omega) ?_ | fail) <;> conv => whnf)
    refine ⟨i + 1, less_of 0 0 0 rfl rfl (lessE_cons (ltd_eq rfl (by kernel_rfl)) (lessE_cons (ltd_eq rfl (by kernel_rfl)) (lessE_cons (ltd_eq rfl (by kernel_rfl)) (lessE_cons (ltd_eq rfl ?_) (lessE_cons (ltd_eq rfl (by kernel_rfl)) (lessE_cons (ltd_eq rfl (by kernel_rfl)) lessE_nil)))))) (by kernel_rfl) (by kernel_rfl) (by kernel_rfl) (by kernel_rfl), hik, by omega⟩
    refine Eq.trans (b := VN .u64 (bigN s (a.toNat + 1) i * 2 ^ 8 + byteAt s (a + 1 + (i : Int)).toNat)) (by kernel_rfl) ?_
    rw [show (a + 1 + (i : Int)).toNat = a.toNat + 1 + i by omega]
    rfl
  have hi' : i = moreN s a := by omega
  have hc0 := byteAt_lo s a.toNat
  have hc1 := byteAt_hi s a.toNat
  have hm1 : moreN s a = 1 → 241 ≤ byteAt s a.toNat ∧ byteAt s a.toNat ≤ 248 := more_1
  have hone : bigN s (a.toNat + 1) 1 = byteAt s (a.toNat + 1) := by simp [bigN]
  have h1b : i = 1 → bigN s (a.toNat + 1) i ≤ 255 := fun h => by rw [h, hone]; exact byteAt_hi _ _
  have h2b : i = 2 → bigN s (a.toNat + 1) i < 65536 := fun h => by rw [h] at hb ⊢; exact hb.2
  conv => whnf
  repeat' ((first | (with_reducible first | refine cond_t ?_ | refine cond_f ?_ | refine s_sub8 (by omega) ?_ | refine c_u64 (by omega) ?_ | refine s_shl64 8 rfl (by decide) (by omega) ?_) | refine ⟨_, _, wknL_ok rfl, put_D _ (by omega), ?_⟩ | (with_reducible first | refine s_lss_f (by omega) ?_ | refine s_eql (fun _ => ?_) (fun _ => ?_) | refine s_add (by omega) ?_ | refine s_addu (by omega) ?_ | refine s_seql (fun _ => ?_) (fun _ => ?_)) | ((with_reducible refine is_end ?_); refine ⟨Or.inr rfl, ?_⟩) | refine And.intro (by omega) ?_ | fail) <;> conv => whnf)
  all_goals first
    | (have h := getE_0 hr hns (by first | (rw [getV_0 ‹_›]; assumption) | (rw [getV_1 hi' ‹_›]; assumption) | (rw [getV_2 hi' ‹_›]; assumption) | (rw [getV_3 hi' ‹_› ‹_› ‹_›]; assumption))
       first
       | (have e := getV_0 (s := s) (a := a) ‹_›; exact tup3_of (a := .int .u64 (byteAt s a.toNat)) (b := .int .i64 (a + 1 + moreN s a)) (c := .int .i64 0) (by kernel_rfl) (by rw [h.2.1, e]) (by rw [h.2.2]) (by rw [h.1]))
       | (have e := getV_1 hi' ‹_›; exact tup3_of (a := .int .u64 (bigN s (a.toNat + 1) i + (240 + (byteAt s a.toNat - 241) * 2 ^ 8))) (b := .int .i64 (a + 1 + moreN s a)) (c := .int .i64 0) (by kernel_rfl) (by rw [h.2.1, e]) (by rw [h.2.2]) (by rw [h.1]))
       | (have e := getV_2 hi' ‹_›; exact tup3_of (a := .int .u64 (bigN s (a.toNat + 1) i + 2288)) (b := .int .i64 (a + 1 + moreN s a)) (c := .int .i64 0) (by kernel_rfl) (by rw [h.2.1, e]) (by rw [h.2.2]) (by rw [h.1]))
       | (have e := getV_3 hi' ‹_› ‹_› ‹_›; exact tup3_of (a := .int .u64 (bigN s (a.toNat + 1) i)) (b := .int .i64 (a + 1 + moreN s a)) (c := .int .i64 0) (by kernel_rfl) (by rw [h.2.1, e]) (by rw [h.2.2]) (by rw [h.1])))
    | (have h := getE_3 hr hns (by first | (rw [getV_0 ‹_›]; assumption) | (rw [getV_1 hi' ‹_›]; assumption) | (rw [getV_2 hi' ‹_›]; assumption) | (rw [getV_3 hi' ‹_› ‹_› ‹_›]; assumption))
       exact tup3_of (a := .int .u64 0) (b := .int .i64 0) (c := .int .i64 3) (by kernel_rfl) (by rw [h.2.1]) (by rw [h.2.2]) (by rw [h.1]))
end Go.Proofs.YtlbodfkhenkcjaaGreatDoor.X


namespace Go.Proofs.YtlbodfkhenkcjaaGreatDoor.X
open Go Go.Proofs Go.RowKit Go.Proofs.YtlbodfkhenkcjaaGreatDoor.D
set_option maxRecDepth 100000
set_option maxHeartbeats 1000000
set_option linter.unusedVariables false
set_option linter.unusedSimpArgs false
variable {I : D.Inv}

def zeroB (n : Nat) : ByteArray := ⟨(Lib.repeatL (⟨#[0]⟩ : ByteArray).data.toList n).toArray⟩
theorem zeroB_size (n : Nat) : (zeroB n).size = n := by
  unfold zeroB
  show (Lib.repeatL _ n).length = n
  induction n with
  | zero => rfl
  | succ n ih => simp [Lib.repeatL] at ih ⊢; omega
theorem repeat_D (n : Int) (h : 0 ≤ n ∧ n ≤ 1000000) : DPure Tp I 65 [SV ⟨#[0]⟩, VN .i64 n] (SV (zeroB n.toNat)) := by
  obtain ⟨m, rfl⟩ := Int.eq_ofNat_of_zero_le h.1
  exact of_walk (xs := [.string ⟨#[0]⟩, .int .i64 m]) (by kernel_rfl) fun W _ => Tryz.strings_Repeat ⟨#[0]⟩ m W (by omega) (by show 1 * m ≤ _; omega)

def catB (l : List ByteArray) : ByteArray := ⟨(Lib.join (l.map (·.data.toList)) []).toArray⟩
def strsL (l : List ByteArray) : List DV := l.map SV
theorem strsL_flat : ∀ l : List ByteArray, (strsL l).flatMap DV.cells = strsL l
  | [] => rfl
  | s :: l => by
    have := strsL_flat l
    unfold strsL at this ⊢
    rw [List.map_cons, List.flatMap_cons, this]
    rfl
theorem join_D (l : List ByteArray) (h : l.length ≤ 1000000) (hs : (catB l).size ≤ 1000000) : DPure Tp I 174 [.list 1 (strsL l), SV ⟨#[]⟩] (SV (catB l)) := by
  refine ⟨by kernel_rfl, fun S W vals hI hr => ?_⟩
  obtain ⟨v0, vs, rfl, r0, hr⟩ := hr.uncons
  obtain ⟨v1, vs, rfl, r1, hr⟩ := hr.uncons
  obtain rfl := hr.unnil
  cases r1
  cases r0 with
  | list _ _ _ ys a len cap b o h1 h3 h4 h5 h6 h7 h8 =>
    rw [strsL_flat] at h6 h8
    have hl : (strsL l).length = l.length := by simp [strsL]
    rw [hl] at h1 h6
    obtain ⟨rfl, hcap⟩ := h1
    rcases Nat.eq_zero_or_pos l.length with h0 | h0
    · obtain rfl : l = [] := List.eq_nil_of_length_eq_zero h0
      refine (Tryz.strings_Join_none a cap ⟨#[]⟩ W).mono ?_
      rintro e w' ⟨rfl, rfl⟩
      exact ⟨_, rfl, .v _ _, Below.refl _ _⟩
    · have hne : strsL l ≠ [] := by intro e; rw [← hl, e] at h0; simp at h0
      obtain rfl := h5 hne
      have hcell : ∀ (j : Nat) x, l[j]? = some x → W.cell? ⟨b, o + j, none⟩ = some (.string x) := by
        intro j x hj
        have hjl : j < l.length := (List.getElem?_eq_some_iff.1 hj).1
        have hy : ys[j]? = some (ys[j]'(by omega)) := List.getElem?_eq_getElem _
        have h9 := h8 j (SV x) _ (by simp [strsL, hj]) hy
        have e : ys[j]'(by omega) = .string x := by
          generalize hz : ys[j]'(by omega) = z at h9
          cases h9
          rfl
        rw [e] at hy
        exact (h7 j _ hy).2
      have hb : b < W.heap.size := by
        obtain ⟨x, hx⟩ : ∃ x, l[0]? = some x := ⟨l[0], List.getElem?_eq_getElem h0⟩
        exact World.block_lt_of_cell? W _ (hcell 0 x hx)
      refine (Tryz.strings_Join b o cap l ⟨#[]⟩ W hcell hb (by omega) hcap (by have : (Lib.join (l.map (·.data.toList)) []).length = (catB l).size := rfl; show (Lib.join (l.map (·.data.toList)) []).length ≤ _; omega)).mono ?_
      rintro e w' ⟨rfl, hbel⟩
      exact ⟨_, rfl, .v _ _, hbel⟩

def fourB (n : Int) : ByteArray := strOfNums [n % 256, n / 256 % 256, n / 65536 % 256, n / 16777216 % 256]
theorem fourB_size (n : Int) : (fourB n).size = 4 := rfl
theorem four_conv (w : World) (a b c d : Int) : (convert 75 9 (.slice (some ⟨w.heap.size, 0, none⟩) 4 4)).run Tryz.prog (w.alloc (.cells #[.int .u8 a, .int .u8 b, .int .u8 c, .int .u8 d] 74)) = .ok (.string (strOfNums [a, b, c, d])) (w.alloc (.cells #[.int .u8 a, .int .u8 b, .int .u8 c, .int .u8 d] 74)) := by
  refine run_convert_bytes_arg (P := Tryz.prog) _ 75 5 Tryz.underlying75 Tryz.underlying5 w.heap.size 0 4 4 [a, b, c, d] rfl (fun j hj => ?_) 9 Tryz.underlying9
  have : j = 0 ∨ j = 1 ∨ j = 2 ∨ j = 3 := by omega
  rcases this with rfl | rfl | rfl | rfl <;> go_simp
theorem four_W (a0 : Int) (w : World) :
    Calls Tryz.prog 64 #[.int .u32 a0] w fun e w' => e = .returned (.string (fourB a0)) ∧ Below w.heap.size w w' := by
  go_enter Tryz.func64, Tryz.ntmps64
  go_wp2
  refine wp_loop_rounds 5 ?_
  rw [rounds_succ]
  go_wp2
  rw [rounds_succ]
  go_wp2
  rw [rounds_succ]
  go_wp2
  rw [rounds_succ]
  go_wp2
  rw [rounds_succ]
  have hk := four_conv w (a0 % 256) (a0 / 256 % 256) (a0 / 65536 % 256) (a0 / 16777216 % 256)
  go_wp2_with fail
  go_ret
  exact ⟨rfl, (Below.refl _ _).alloc (Nat.le_refl _) _⟩
theorem four_D (n : Int) : DPure Tp I 64 [VN .u32 n] (SV (fourB n)) :=
  of_walk (xs := [.int .u32 n]) (by kernel_rfl) fun W _ => four_W n W
end Go.Proofs.YtlbodfkhenkcjaaGreatDoor.X


namespace Go.Proofs.YtlbodfkhenkcjaaGreatDoor.X
open Go Go.Proofs Go.RowKit Go.Proofs.YtlbodfkhenkcjaaGreatDoor.D
set_option maxRecDepth 100000
set_option maxHeartbeats 1000000
set_option linter.unusedVariables false
set_option linter.unusedSimpArgs false
variable {I : D.Inv}

def c176 : DFun := ⟨9, [.t 2], .seq (.reg [⟨some 2, .mv (.c (.bool false)), none⟩]) (.seq (.reg [⟨some 3, .mv (.t 0), none⟩, ⟨some 4, .bin .geq (.t 3) (.c (.int .i64 1)), none⟩, ⟨some 5, .mv (.t 4), none⟩, ⟨some 6, .mv (.t 0), some (5, true)⟩, ⟨some 7, .bin .lss (.t 6) (.c (.int .i64 4096)), some (5, true)⟩, ⟨some 8, .pick (.t 5) (.t 7) (.c (.bool false)), none⟩, ⟨some 2, .mv (.t 8), none⟩]) .ret)⟩
theorem e176 : cfun Tryz.prog 176 = some c176 := by kernel_rfl
def c169 : DFun := ⟨37, [.t 2], .seq (.reg [⟨some 1, .box (.t 0), none⟩, ⟨some 2, .mv (.c (.bool false)), none⟩]) (.seq (.seq (.reg [⟨some 3, .fa 0 (.t 1), none⟩, ⟨some 4, .ld 1 false (.t 3), none⟩]) (.cond (.t 4) (.seq (.reg [⟨some 5, .fa 1 (.t 1), none⟩, ⟨some 6, .ld 1 false (.t 5), none⟩, ⟨some 7, .bin .eql (.t 6) (.c (.string ⟨#[]⟩)), none⟩, ⟨some 8, .mv (.t 7), none⟩, ⟨some 9, .fa 2 (.t 1), some (8, true)⟩, ⟨some 10, .ld 1 false (.t 9), some (8, true)⟩, ⟨some 11, .bin .geq (.t 10) (.c (.int .i64 1)), some (8, true)⟩, ⟨some 12, .pick (.t 8) (.t 11) (.c (.bool false)), none⟩, ⟨some 13, .mv (.t 12), none⟩, ⟨some 14, .fa 2 (.t 1), some (13, true)⟩, ⟨some 15, .ld 1 false (.t 14), some (13, true)⟩, ⟨some 16, .bin .leq (.t 15) (.c (.int .i64 4096)), some (13, true)⟩, ⟨some 17, .pick (.t 13) (.t 16) (.c (.bool false)), none⟩, ⟨some 18, .mv (.t 17), none⟩, ⟨some 19, .fa 3 (.t 1), some (18, true)⟩, ⟨some 20, .ld 1 false (.t 19), some (18, true)⟩, ⟨some 21, .call 176 [.t 20], some (18, true)⟩, ⟨some 22, .pick (.t 18) (.t 21) (.c (.bool false)), none⟩, ⟨some 2, .mv (.t 22), none⟩]) .ret) .skip)) (.seq (.reg [⟨some 23, .fa 2 (.t 1), none⟩, ⟨some 24, .ld 1 false (.t 23), none⟩, ⟨some 25, .bin .eql (.t 24) (.c (.int .i64 0)), none⟩, ⟨some 26, .mv (.t 25), none⟩, ⟨some 27, .fa 3 (.t 1), some (26, true)⟩, ⟨some 28, .ld 1 false (.t 27), some (26, true)⟩, ⟨some 29, .bin .eql (.t 28) (.c (.int .i64 0)), some (26, true)⟩, ⟨some 30, .pick (.t 26) (.t 29) (.c (.bool false)), none⟩, ⟨some 31, .mv (.t 30), none⟩, ⟨some 32, .fa 1 (.t 1), some (31, true)⟩, ⟨some 33, .ld 1 false (.t 32), some (31, true)⟩, ⟨some 34, .len true (.t 33), some (31, true)⟩, ⟨some 35, .bin .leq (.t 34) (.c (.int .i64 256)), some (31, true)⟩, ⟨some 36, .pick (.t 31) (.t 35) (.c (.bool false)), none⟩, ⟨some 2, .mv (.t 36), none⟩]) .ret))⟩
theorem e169 : cfun Tryz.prog 169 = some c169 := by kernel_rfl
def c173 : DFun := ⟨9, [.t 2], .seq (.reg [⟨some 2, .mv (.c (.string ⟨#[]⟩)), none⟩]) (.seq (.reg [⟨some 3, .mv (.t 0), none⟩, ⟨some 4, .len true (.t 3), none⟩, ⟨some 5, .cvt .u64 (.t 4), none⟩, ⟨some 6, .call 123 [.t 5], none⟩, ⟨some 7, .mv (.t 0), none⟩, ⟨some 8, .bin .add (.t 6) (.t 7), none⟩, ⟨some 2, .mv (.t 8), none⟩]) .ret)⟩
theorem e173 : cfun Tryz.prog 173 = some c173 := by kernel_rfl
def c122 : DFun := ⟨40, [.t 4, .t 5], .seq (.reg [⟨some 3, .box (.t 1), none⟩, ⟨some 4, .mv (.c (.string ⟨#[]⟩)), none⟩, ⟨some 5, .mv (.c (.int .i64 0)), none⟩]) (.seq (.seq (.reg [⟨some 6, .mv (.t 0), none⟩, ⟨some 7, .len true (.t 6), none⟩, ⟨some 8, .bin .gtr (.t 7) (.c (.int .i64 128)), none⟩, ⟨some 9, .mv (.t 8), none⟩, ⟨some 10, .ld 4 true (.t 3), some (9, false)⟩, ⟨some 11, .call 169 [.t 10], some (9, false)⟩, ⟨some 12, .un .not (.t 11), some (9, false)⟩, ⟨some 13, .pick (.t 9) (.c (.bool true)) (.t 12), none⟩]) (.cond (.t 13) (.seq (.reg [⟨some 4, .mv (.c (.string ⟨#[]⟩)), none⟩, ⟨some 5, .mv (.c (.int .i64 3)), none⟩]) .ret) .skip)) (.seq (.seq (.reg [⟨some 14, .fa 0 (.t 3), none⟩, ⟨some 15, .ld 1 false (.t 14), none⟩]) (.cond (.t 15) (.seq (.reg [⟨some 16, .mv (.t 0), none⟩, ⟨some 17, .call 173 [.t 16], none⟩, ⟨some 18, .bsl 1 [.c (.int .u8 1)], none⟩, ⟨some 19, .b2s (.t 18), none⟩, ⟨some 20, .bin .add (.t 17) (.t 19), none⟩, ⟨some 21, .fa 2 (.t 3), none⟩, ⟨some 22, .ld 1 false (.t 21), none⟩, ⟨some 23, .cvt .u64 (.t 22), none⟩, ⟨some 24, .call 123 [.t 23], none⟩, ⟨some 25, .bin .add (.t 20) (.t 24), none⟩, ⟨some 26, .fa 3 (.t 3), none⟩, ⟨some 27, .ld 1 false (.t 26), none⟩, ⟨some 28, .cvt .u32 (.t 27), none⟩, ⟨some 29, .call 64 [.t 28], none⟩, ⟨some 30, .bin .add (.t 25) (.t 29), none⟩, ⟨some 4, .mv (.t 30), none⟩, ⟨some 5, .mv (.c (.int .i64 0)), none⟩]) .ret) .skip)) (.seq (.reg [⟨some 31, .mv (.t 0), none⟩, ⟨some 32, .call 173 [.t 31], none⟩, ⟨some 33, .bsl 1 [.c (.int .u8 0)], none⟩, ⟨some 34, .b2s (.t 33), none⟩, ⟨some 35, .bin .add (.t 32) (.t 34), none⟩, ⟨some 36, .fa 1 (.t 3), none⟩, ⟨some 37, .ld 1 false (.t 36), none⟩, ⟨some 38, .call 173 [.t 37], none⟩, ⟨some 39, .bin .add (.t 35) (.t 38), none⟩, ⟨some 4, .mv (.t 39), none⟩, ⟨some 5, .mv (.c (.int .i64 0)), none⟩]) .ret)))⟩
theorem e122 : cfun Tryz.prog 122 = some c122 := by kernel_rfl
def c129 : DFun := ⟨20, [.t 4, .t 5], .seq (.reg [⟨some 4, .mv (.c (.string ⟨#[]⟩)), none⟩, ⟨some 5, .mv (.c (.int .i64 0)), none⟩]) (.seq (.seq (.reg [⟨some 6, .mv (.t 0), none⟩, ⟨some 7, .call 176 [.t 6], none⟩, ⟨some 8, .un .not (.t 7), none⟩, ⟨some 9, .mv (.t 8), none⟩, ⟨some 10, .mv (.t 1), some (9, false)⟩, ⟨some 11, .len true (.t 10), some (9, false)⟩, ⟨some 12, .bin .gtr (.t 11) (.c (.int .i64 128)), some (9, false)⟩, ⟨some 13, .pick (.t 9) (.c (.bool true)) (.t 12), none⟩]) (.cond (.t 13) (.seq (.reg [⟨some 4, .mv (.c (.string ⟨#[]⟩)), none⟩, ⟨some 5, .mv (.c (.int .i64 3)), none⟩]) .ret) .skip)) (.seq (.reg [⟨some 14, .mv (.t 0), none⟩, ⟨some 15, .cvt .u32 (.t 14), none⟩, ⟨some 16, .call 64 [.t 15], none⟩, ⟨some 17, .mv (.t 1), none⟩, ⟨some 18, .call 173 [.t 17], none⟩, ⟨some 19, .bin .add (.t 16) (.t 18), none⟩, ⟨some 4, .mv (.t 19), none⟩, ⟨some 5, .mv (.c (.int .i64 0)), none⟩]) .ret))⟩
theorem e129 : cfun Tryz.prog 129 = some c129 := by kernel_rfl
abbrev BV (b : Bool) : DV := .v (.bool b)
def pageP (n : Int) : Prop := 1 ≤ n ∧ n < 4096
instance (n : Int) : Decidable (pageP n) := inferInstanceAs (Decidable (_ ∧ _))
theorem page_D (n : Int) : DPure Tp I 176 [VN .i64 n] (BV (decide (pageP n))) := by
  refine pure_of mix e176 (Nat.le_of_ble_eq_true rfl) ?_
  conv => whnf
  repeat' ((first | (with_reducible first | refine s_lss (fun _ => ?_) (fun _ => ?_) | refine s_geq (fun _ => ?_) (fun _ => ?_)) | ((with_reducible refine is_end ?_); refine ⟨Or.inr rfl, ?_⟩) | fail) <;> conv => whnf)
  all_goals first
    | (refine bool_of (b := true) ?_ (Eq.symm (decide_eq_true (by unfold pageP; omega))); kernel_rfl)
    | (refine bool_of (b := false) ?_ (Eq.symm (decide_eq_false (by unfold pageP; omega))); kernel_rfl)

structure ValM where
  over : Bool
  s : ByteArray
  len : Int
  page : Int
abbrev valV (v : ValM) : Value := .agg #[.bool v.over, .string v.s, .int .i64 v.len, .int .i64 v.page]
abbrev nilS : ByteArray := ⟨#[]⟩
def rightP (v : ValM) : Prop := (v.over = true ∧ v.s = nilS ∧ 1 ≤ v.len ∧ v.len ≤ 4096 ∧ pageP v.page) ∨ (v.over = false ∧ v.len = 0 ∧ v.page = 0 ∧ v.s.size ≤ 256)
instance (v : ValM) : Decidable (rightP v) := inferInstanceAs (Decidable (_ ∨ _))
theorem vright_D (v : ValM) : DPure Tp I 169 [.v (valV v)] (BV (decide (rightP v))) := by
  obtain ⟨o, s, n, p⟩ := v
  refine pure_of mix e169 (Nat.le_of_ble_eq_true rfl) ?_
  cases o
  all_goals (
  conv => whnf
  repeat' ((first | (with_reducible first | refine cond_t ?_ | refine cond_f ?_) | refine call_bool (wknL_ok rfl) (page_D _) (fun _ => ?_) (fun _ => ?_) | (with_reducible first | refine s_leq (fun _ => ?_) (fun _ => ?_) | refine s_geq (fun _ => ?_) (fun _ => ?_) | refine s_eql (fun _ => ?_) (fun _ => ?_) | refine s_seql (fun _ => ?_) (fun _ => ?_)) | ((with_reducible refine is_e3 ?_); refine ⟨_, rfl, rfl, ?_⟩) | ((with_reducible refine is_end ?_); refine ⟨Or.inr rfl, ?_⟩) | ((with_reducible refine is_and ?_); refine And.intro rfl ?_) | fail) <;> conv => whnf)
  )
  all_goals first
    | (refine bool_of (b := true) ?_ (Eq.symm (decide_eq_true (by unfold rightP; grind))); kernel_rfl)
    | (refine bool_of (b := false) ?_ (Eq.symm (decide_eq_false (by unfold rightP; grind))); kernel_rfl)

def textS (s : ByteArray) : ByteArray := putS s.size ++ s
theorem putS_size {n : Int} (h : 0 ≤ n) : 1 ≤ (putS n).size ∧ (putS n).size ≤ 9 := by
  have := kOf_b n
  unfold putS
  (repeat' split) <;> simp [strOfNums_size, beL_len] <;> omega
theorem textS_size (s : ByteArray) : s.size + 1 ≤ (textS s).size ∧ (textS s).size ≤ s.size + 9 := by
  have := putS_size (n := (s.size : Int)) (by omega)
  unfold textS
  rw [ByteArray.size_append]
  omega
theorem text_D (s : ByteArray) (h : s.size ≤ 1000000) : DPure Tp I 173 [SV s] (SV (textS s)) := by
  have hp := putS_size (n := (s.size : Int)) (by omega)
  refine pure_of mix e173 (Nat.le_of_ble_eq_true rfl) ?_
  conv => whnf
  repeat' ((first | refine ⟨_, _, wknL_ok rfl, put_D _ (by omega), ?_⟩ | with_reducible refine c_u64 (by first | omega | (dsimp only; omega)) ?_ | with_reducible refine s_cat (by first | omega | (dsimp only; omega) | (simp only [ByteArray.size_append, ByteArray.size_extract, strOfNums_size, List.length_cons, List.length_nil, List.length_map]; omega)) ?_ | ((with_reducible refine is_end ?_); refine ⟨Or.inr rfl, ?_⟩) | fail) <;> conv => whnf)
  exact str_of (s := putS s.size ++ s) (by kernel_rfl) rfl

def putValS (t : ByteArray) (v : ValM) : ByteArray := if v.over = true then textS t ++ strOfNums [1] ++ putS v.len ++ fourB v.page else textS t ++ strOfNums [0] ++ textS v.s
def putValP (t : ByteArray) (v : ValM) : Prop := t.size ≤ 128 ∧ rightP v
instance (t : ByteArray) (v : ValM) : Decidable (putValP t v) := inferInstanceAs (Decidable (_ ∧ _))
def pvS (t : ByteArray) (v : ValM) : ByteArray := if putValP t v then putValS t v else nilS
def pvE (t : ByteArray) (v : ValM) : Int := if putValP t v then 0 else 3
theorem tup2_of {d : DV} {a b a' b' : Value} (h : d = .v (.tuple #[a, b])) (h1 : a' = a) (h2 : b' = b) : Wk d (.v (.tuple #[a', b'])) := by subst h; subst h1; subst h2; exact .v _
theorem pv_no {t : ByteArray} {v : ValM} (h : ¬ putValP t v) : pvS t v = nilS ∧ pvE t v = 3 := ⟨if_neg h, if_neg h⟩
theorem pv_yes {t : ByteArray} {v : ValM} (h : putValP t v) : pvS t v = putValS t v ∧ pvE t v = 0 := ⟨if_pos h, if_pos h⟩
theorem dp_t {f : FuncId} {args : List DV} {p : Prop} [Decidable p] (h : DPure Tp I f args (BV (decide p))) (hp : p) : DPure Tp I f args (BV true) := by rwa [decide_eq_true hp] at h
theorem dp_f {f : FuncId} {args : List DV} {p : Prop} [Decidable p] (h : DPure Tp I f args (BV (decide p))) (hp : ¬ p) : DPure Tp I f args (BV false) := by rwa [decide_eq_false hp] at h
theorem putValue_D (t : ByteArray) (v : ValM) (ht : t.size ≤ 1000000) : DPure Tp I 122 [SV t, .v (valV v)] (.v (.tuple #[.string (pvS t v), .int .i64 (pvE t v)])) := by
  refine pure_of mix e122 (Nat.le_of_ble_eq_true rfl) ?_
  have hT := textS_size t
  by_cases h : putValP t v
  · have hy := pv_yes h
    obtain ⟨o, s, n, p⟩ := v
    have h1 := h.1
    have h2 := h.2
    cases o
    · have hs : s.size ≤ 256 := by unfold rightP at h2; simp at h2; omega
      have hS := textS_size s
      have hR := dp_t (I := I) (vright_D ⟨false, s, n, p⟩) h2
      conv => whnf
      repeat' ((first | with_reducible refine cond_f ?_ | refine ⟨_, _, wknL_ok rfl, hR, ?_⟩ | refine ⟨_, _, wknL_ok rfl, text_D _ (by first | omega | (dsimp only; omega)), ?_⟩ | with_reducible refine s_gtr_f (by omega) ?_ | with_reducible refine s_cat (by first | omega | (dsimp only; omega) | (simp only [ByteArray.size_append, ByteArray.size_extract, strOfNums_size, List.length_cons, List.length_nil, List.length_map]; omega)) ?_ | ((with_reducible refine is_bsl ?_); refine ⟨_, wknL_ok rfl, rfl, ?_⟩) | ((with_reducible refine is_b2s ?_); refine ⟨_, _, rfl, rfl, rfl, ?_⟩) | ((with_reducible refine is_e3 ?_); refine ⟨_, rfl, rfl, ?_⟩) | ((with_reducible refine is_e2 ?_); refine ⟨_, rfl, ?_⟩) | ((with_reducible refine is_cond ?_); refine cond_f ?_) | ((with_reducible refine is_end ?_); refine ⟨Or.inr rfl, ?_⟩) | ((with_reducible refine is_and ?_); refine And.intro rfl ?_) | fail) <;> conv => whnf)
      refine tup2_of (a := .string (textS t ++ strOfNums [0] ++ textS s)) (b := .int .i64 0) (by kernel_rfl) ?_ ?_
      · exact congrArg Value.string hy.1
      · exact congrArg (Value.int .i64) hy.2
    · have hn : 1 ≤ n ∧ n ≤ 4096 ∧ 1 ≤ p ∧ p < 4096 := by unfold rightP pageP at h2; simp at h2; omega
      have hN := putS_size (n := n) (by omega)
      have hF := fourB_size p
      have hR := dp_t (I := I) (vright_D ⟨true, s, n, p⟩) h2
      conv => whnf
      repeat' ((first | with_reducible refine cond_t ?_ | refine ⟨_, _, wknL_ok rfl, hR, ?_⟩ | refine ⟨_, _, wknL_ok rfl, text_D _ (by first | omega | (dsimp only; omega)), ?_⟩ | refine ⟨_, _, wknL_ok rfl, put_D _ (by first | omega | (dsimp only; omega)), ?_⟩ | refine ⟨_, _, wknL_ok rfl, four_D _, ?_⟩ | with_reducible refine s_gtr_f (by omega) ?_ | with_reducible refine c_u64 (by first | omega | (dsimp only; omega)) ?_ | with_reducible refine c_u32 (by first | omega | (dsimp only; omega)) ?_ | with_reducible refine s_cat (by first | omega | (dsimp only; omega) | (simp only [ByteArray.size_append, ByteArray.size_extract, strOfNums_size, List.length_cons, List.length_nil, List.length_map]; omega)) ?_ | ((with_reducible refine is_bsl ?_); refine ⟨_, wknL_ok rfl, rfl, ?_⟩) | ((with_reducible refine is_b2s ?_); refine ⟨_, _, rfl, rfl, rfl, ?_⟩) | ((with_reducible refine is_e3 ?_); refine ⟨_, rfl, rfl, ?_⟩) | ((with_reducible refine is_e2 ?_); refine ⟨_, rfl, ?_⟩) | ((with_reducible refine is_cond ?_); refine cond_f ?_) | ((with_reducible refine is_end ?_); refine ⟨Or.inr rfl, ?_⟩) | ((with_reducible refine is_and ?_); refine And.intro rfl ?_) | fail) <;> conv => whnf)
      refine tup2_of (a := .string (textS t ++ strOfNums [1] ++ putS n ++ fourB p)) (b := .int .i64 0) (by kernel_rfl) ?_ ?_
      · exact congrArg Value.string hy.1
      · exact congrArg (Value.int .i64) hy.2
  · have hy := pv_no h
    by_cases h1 : t.size ≤ 128
    · have h2 : ¬ rightP v := fun h2 => h ⟨h1, h2⟩
      conv => whnf
      repeat' ((first | refine ⟨_, _, wknL_ok rfl, dp_f (vright_D v) h2, ?_⟩ | with_reducible refine s_gtr_f (by omega) ?_ | ((with_reducible refine is_e3 ?_); refine ⟨_, rfl, rfl, ?_⟩) | ((with_reducible refine is_e2 ?_); refine ⟨_, rfl, ?_⟩) | ((with_reducible refine is_cond ?_); refine cond_t ?_) | ((with_reducible refine is_end ?_); refine ⟨Or.inr rfl, ?_⟩) | ((with_reducible refine is_and ?_); refine And.intro rfl ?_) | fail) <;> conv => whnf)
      exact tup2_of (a := .string nilS) (b := .int .i64 3) (by kernel_rfl) (by rw [hy.1]) (by rw [hy.2])
    · conv => whnf
      repeat' ((first | (with_reducible first | refine cond_t ?_ | refine s_gtr_t (by omega) ?_) | ((with_reducible refine is_end ?_); refine ⟨Or.inr rfl, ?_⟩) | ((with_reducible refine is_and ?_); refine And.intro rfl ?_) | fail) <;> conv => whnf)
      exact tup2_of (a := .string nilS) (b := .int .i64 3) (by kernel_rfl) (by rw [hy.1]) (by rw [hy.2])

def pkP (k : Int) (t : ByteArray) : Prop := pageP k ∧ t.size ≤ 128
instance (k : Int) (t : ByteArray) : Decidable (pkP k t) := inferInstanceAs (Decidable (_ ∧ _))
def pkS (k : Int) (t : ByteArray) : ByteArray := if pkP k t then fourB k ++ textS t else nilS
def pkE (k : Int) (t : ByteArray) : Int := if pkP k t then 0 else 3
theorem putKid_D (k : Int) (t : ByteArray) (ht : t.size ≤ 1000000) : DPure Tp I 129 [VN .i64 k, SV t] (.v (.tuple #[.string (pkS k t), .int .i64 (pkE k t)])) := by
  refine pure_of mix e129 (Nat.le_of_ble_eq_true rfl) ?_
  have hT := textS_size t
  have hF := fourB_size k
  by_cases h : pkP k t
  · have h1 := h.1
    have h2 := h.2
    have h3 : 1 ≤ k ∧ k < 4096 := h1
    conv => whnf
    repeat' ((first | with_reducible refine cond_f ?_ | refine ⟨_, _, wknL_ok rfl, dp_t (page_D k) h1, ?_⟩ | refine ⟨_, _, wknL_ok rfl, text_D _ (by first | omega | (dsimp only; omega)), ?_⟩ | refine ⟨_, _, wknL_ok rfl, four_D _, ?_⟩ | with_reducible refine s_gtr_f (by omega) ?_ | with_reducible refine c_u32 (by first | omega | (dsimp only; omega)) ?_ | with_reducible refine s_cat (by first | omega | (dsimp only; omega) | (simp only [ByteArray.size_append, ByteArray.size_extract, strOfNums_size, List.length_cons, List.length_nil, List.length_map]; omega)) ?_ | ((with_reducible refine is_e2 ?_); refine ⟨_, rfl, ?_⟩) | ((with_reducible refine is_end ?_); refine ⟨Or.inr rfl, ?_⟩) | fail) <;> conv => whnf)
    exact tup2_of (a := .string (fourB k ++ textS t)) (b := .int .i64 0) (by kernel_rfl) (by rw [pkS, if_pos h]) (by rw [pkE, if_pos h])
  · have hy : pkS k t = nilS ∧ pkE k t = 3 := ⟨if_neg h, if_neg h⟩
    by_cases h1 : pageP k
    · have h2 : ¬ t.size ≤ 128 := fun h2 => h ⟨h1, h2⟩
      conv => whnf
      repeat' ((first | with_reducible refine cond_t ?_ | refine ⟨_, _, wknL_ok rfl, dp_t (page_D k) h1, ?_⟩ | with_reducible refine s_gtr_t (by omega) ?_ | ((with_reducible refine is_e2 ?_); refine ⟨_, rfl, ?_⟩) | ((with_reducible refine is_end ?_); refine ⟨Or.inr rfl, ?_⟩) | fail) <;> conv => whnf)
      exact tup2_of (a := .string nilS) (b := .int .i64 3) (by kernel_rfl) (by rw [hy.1]) (by rw [hy.2])
    · conv => whnf
      repeat' ((first | with_reducible refine cond_t ?_ | refine ⟨_, _, wknL_ok rfl, dp_f (page_D k) h1, ?_⟩ | ((with_reducible refine is_e2 ?_); refine ⟨_, rfl, ?_⟩) | ((with_reducible refine is_end ?_); refine ⟨Or.inr rfl, ?_⟩) | fail) <;> conv => whnf)
      exact tup2_of (a := .string nilS) (b := .int .i64 3) (by kernel_rfl) (by rw [hy.1]) (by rw [hy.2])
end Go.Proofs.YtlbodfkhenkcjaaGreatDoor.X

