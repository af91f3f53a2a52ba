/- What functions of the given program compute, step by step: the walks that the seat's laws lean on, part 10. No conditions. -/
import Derived.Test.YtmheajenlhlbhaaM01
import Derived.Test.YtmheajenlhlbhaaM02
import Derived.Test.YtmheajenlhlbhaaM03
import Derived.Test.YtmheajenlhlbhaaM09
-- Plain laws: what Cut, Rise, Items, Ints compute, for every input.
namespace Go.Proofs.Ytmheajenlhlbhaa.X
open Go.RowKit Go.Proofs.YtmheajenlhlbhaaW.PrintWords Go.Proofs.YtmheajenlhlbhaaW.PrintLast Go.Proofs.YtmheajenlhlbhaaW.PrintMore

theorem w64n (n : Nat) (h : n < 1000000000) : wrap64 ((n : Int) + 1) = ((n + 1 : Nat) : Int) := by
  rw [show ((n : Int) + 1) = ((n + 1 : Nat) : Int) by omega]
  exact IntWalk.wrap64_in _ (by omega)
theorem w64i (x : Int) (h : -1000000000 ≤ x ∧ x ≤ 1000000000) : wrap64 x = x := IntWalk.wrap64_in _ (by omega)
theorem mn_le (a b : Int) : mn a b ≤ a := by unfold mn; split <;> omega
theorem mn_nn (a : Nat) (b : Int) (h : 0 ≤ b) : 0 ≤ mn (a : Int) b := by unfold mn; split <;> omega
theorem mn_le_r (a b : Int) : mn a b ≤ b := by unfold mn; split <;> omega

/-! ### Size -/
theorem Size_ok (a : Int) : ∃ p, withylaw16_Size.f a = some p ∧ (p = 128 ∨ p = 256 ∨ p = 512 ∨ p = 1024) := by
  unfold withylaw16_Size.f
  split
  · exact ⟨_, rfl, by omega⟩
  · split
    · exact ⟨_, rfl, by omega⟩
    · split
      · exact ⟨_, rfl, by omega⟩
      · exact ⟨_, rfl, by omega⟩

/-! ### Cut -/
def cutP (x : S30) : S30 := ⟨x.f0.extract 0 (mn (x.f0.size : Int) 140).toNat, x.f1.extract 0 (mn (x.f1.size : Int) 700).toNat⟩
theorem rd30 {l : List S30} {a : Nat} (h : a < l.length) : rd_T30 l (a : Int) = l[a] := by
  simp [rd_T30, List.getD_eq_getElem?_getD, List.getElem?_eq_getElem h]
theorem rd35 {l : List S35} {a : Nat} (h : a < l.length) : rd_T35 l (a : Int) = l[a] := by
  simp [rd_T35, List.getD_eq_getElem?_getD, List.getElem?_eq_getElem h]
theorem rdI {l : List Int} {a : Nat} (h : a < l.length) : rd l (a : Int) = l[a] := by
  simp [rd, List.getD_eq_getElem?_getD, List.getElem?_eq_getElem h]
theorem Cut_l (l : List S30) : ∀ (k a : Nat) (acc : List S30), 41 ≤ a + k → a ≤ 40 → acc.length ≤ a →
    withylaw16_Cut.l0 k l acc (a : Int) = some (acc ++ ((l.drop a).take (40 - a)).map cutP)
  | 0, a, acc, h, h1, _ => by omega
  | k + 1, a, acc, h, h1, h2 => by
    unfold withylaw16_Cut.l0
    by_cases c : a < l.length
    · rw [if_pos (by omega)]
      by_cases d : a < 40
      · rw [if_pos (by omega), if_pos (by omega), rd30 c, if_pos (mn_nn _ _ (by omega)), if_pos (mn_le _ _), if_pos (mn_nn _ _ (by omega)), if_pos (mn_le _ _), if_pos (by omega), w64n a (by omega)]
        rw [Cut_l l k (a + 1) _ (by omega) (by omega) (by simp; omega)]
        rw [List.drop_eq_getElem_cons c, show 40 - a = (40 - (a + 1)) + 1 by omega, List.take_succ_cons, List.map_cons, List.append_assoc]
        rfl
      · rw [if_neg (by omega), show 40 - a = 0 by omega]
        simp
    · rw [if_neg (by omega), List.drop_eq_nil_of_le (by omega)]
      simp
theorem Cut_ok (k : Nat) (l : List S30) (hk : 41 ≤ k) : withylaw16_Cut.f k l = some ((l.take 40).map cutP) := by
  unfold withylaw16_Cut.f
  have := Cut_l l k 0 [] (by omega) (by omega) (by simp)
  simpa using this
/-- What a pair of a short list has. -/
def Cutted (l : List S30) : Prop := l.length ≤ 40 ∧ ∀ x ∈ l, x.f0.size ≤ 140 ∧ x.f1.size ≤ 700
theorem cutP_size (x : S30) : (cutP x).f0.size ≤ 140 ∧ (cutP x).f1.size ≤ 700 := by
  unfold cutP
  simp only [ByteArray.size_extract]
  have h1 := mn_le_r (x.f0.size : Int) 140
  have h2 := mn_le_r (x.f1.size : Int) 700
  omega
theorem Cut_cutted (l : List S30) : Cutted ((l.take 40).map cutP) := by
  refine ⟨by simp; omega, fun x hx => ?_⟩
  obtain ⟨y, _, rfl⟩ := List.mem_map.mp hx
  exact cutP_size y

/-! ### Rise -/
theorem Rise_l (l : List S30) (p : Int) (hp : 0 ≤ p ∧ p ≤ 100000) (hl : Cutted l) : ∀ (k a : Nat) (acc : List S30), l.length + 1 ≤ a + k → a ≤ l.length → acc.length ≤ a → (∀ x ∈ acc, x ∈ l ∧ (x.f0.size : Int) ≤ Int.tdiv p 8) →
    ∃ r, withylaw16_Rise.l0 k l p acc (a : Int) = some r ∧ r.length ≤ l.length ∧ (∀ x ∈ r, x ∈ l ∧ (x.f0.size : Int) ≤ Int.tdiv p 8)
  | 0, a, acc, h, h1, _, _ => by omega
  | k + 1, a, acc, h, h1, h2, h3 => by
    have hl40 := hl.1
    have hw : wrap64 (Int.tdiv p 8) = Int.tdiv p 8 := w64i _ (by rw [Int.tdiv_eq_ediv_of_nonneg hp.1]; omega)
    unfold withylaw16_Rise.l0
    by_cases c : a < l.length
    · rw [if_pos (by omega), if_pos (by omega), rd30 c, hw]
      have keep := Rise_l l p hp hl k (a + 1) acc (by omega) (by omega) (by omega) h3
      have more : (l[a].f0.size : Int) ≤ Int.tdiv p 8 → ∃ r, withylaw16_Rise.l0 k l p (acc ++ [(⟨l[a].f0, l[a].f1⟩ : S30)]) ((a + 1 : Nat) : Int) = some r ∧ r.length ≤ l.length ∧ (∀ x ∈ r, x ∈ l ∧ (x.f0.size : Int) ≤ Int.tdiv p 8) := fun hs =>
        Rise_l l p hp hl k (a + 1) _ (by omega) (by omega) (by simp; omega) (fun x hx => by
          rcases List.mem_append.mp hx with hx | hx
          · exact h3 x hx
          · rw [List.mem_singleton] at hx
            subst hx
            exact ⟨List.getElem_mem c, hs⟩)
      have hw1 := w64n a (by omega)
      by_cases d : (l[a].f0.size : Int) ≤ Int.tdiv p 8
      · rw [if_pos d]
        by_cases e : acc.length = 0
        · rw [if_pos (by omega), if_pos (by omega), hw1]
          exact more d
        · rw [if_neg (by omega), w64i ((acc.length : Int) - 1) (by omega), if_pos (by omega), if_pos (by omega)]
          split
          · rw [if_pos (by omega), hw1]
            exact more d
          · rw [hw1]
            exact keep
      · rw [if_neg d, hw1]
        exact keep
    · rw [if_neg (by omega)]
      exact ⟨acc, rfl, by omega, h3⟩
theorem Rise_ok (k : Nat) (l : List S30) (p : Int) (hp : 0 ≤ p ∧ p ≤ 100000) (hk : 41 ≤ k) : ∃ r, withylaw16_Rise.f k l p = some r ∧ Cutted r ∧ (∀ x ∈ r, (x.f0.size : Int) ≤ Int.tdiv p 8) := by
  unfold withylaw16_Rise.f
  have hc := Cut_cutted l
  obtain ⟨r, h1, h2, h3⟩ := Rise_l ((l.take 40).map cutP) p hp hc k 0 [] (by have := hc.1; omega) (by omega) (by simp) (by simp)
  refine ⟨r, by rw [Cut_ok k l hk]; exact h1, ⟨by have := hc.1; omega, fun x hx => hc.2 x (h3 x hx).1⟩, fun x hx => (h3 x hx).2⟩

/-! ### Items -/
def itemOf (p at_ : Int) (x : S30) : S35 := if (x.f1.size : Int) > Int.tdiv p 4 then ⟨x.f0, ⟨true, ⟨#[]⟩, (x.f1.size : Int), at_⟩⟩ else ⟨x.f0, ⟨false, x.f1, 0, 0⟩⟩
def stepAt (p at_ : Int) (x : S30) : Int := if (x.f1.size : Int) > Int.tdiv p 4 then at_ + pagesI (x.f1.size : Int) p else at_
def itemsN (p : Int) : Int → List S30 → List S35
  | _, [] => []
  | a, x :: r => itemOf p a x :: itemsN p (stepAt p a x) r
def atN (p : Int) : Int → List S30 → Int
  | a, [] => a
  | a, x :: r => atN p (stepAt p a x) r
theorem itemsN_length (p : Int) : ∀ (l : List S30) (a : Int), (itemsN p a l).length = l.length
  | [], _ => rfl
  | x :: r, a => by simp [itemsN, itemsN_length p r]
theorem itemOf_key (p a : Int) (x : S30) : (itemOf p a x).f0 = x.f0 := by unfold itemOf; split <;> rfl
theorem itemsN_key (p : Int) : ∀ (l : List S30) (a : Int), ∀ y ∈ itemsN p a l, ∃ x ∈ l, y.f0 = x.f0
  | [], _, y, h => by simp [itemsN] at h
  | x :: r, a, y, h => by
    rcases List.mem_cons.mp h with rfl | h
    · exact ⟨x, List.mem_cons_self .., itemOf_key _ _ _⟩
    · obtain ⟨z, hz, he⟩ := itemsN_key p r _ y h
      exact ⟨z, List.mem_cons_of_mem _ hz, he⟩
theorem pagesI_bound (n p : Int) (hn : 0 ≤ n ∧ n ≤ 1000) (hp : 128 ≤ p) : 0 ≤ pagesI n p ∧ pagesI n p ≤ 1000 := by
  unfold pagesI
  rw [show mx n 0 = n by unfold mx; split <;> omega]
  have h1 : n / (p - 16) ≤ n := Int.ediv_le_self _ hn.1
  have h2 : 0 ≤ n / (p - 16) := Int.ediv_nonneg hn.1 (by omega)
  have h3 := mn_le_r (n % (p - 16)) 1
  have h4 : 0 ≤ n % (p - 16) := Int.emod_nonneg _ (by omega)
  have h5 : 0 ≤ mn (n % (p - 16)) 1 := by unfold mn; split <;> omega
  have h6 : n / (p - 16) ≤ 100 := by
    have := Int.ediv_mul_le n (show p - 16 ≠ 0 by omega)
    by_cases hh : n / (p - 16) ≤ 100
    · exact hh
    · have : 101 * (p - 16) ≤ n / (p - 16) * (p - 16) := Int.mul_le_mul_of_nonneg_right (by omega) (by omega)
      omega
  omega
theorem stepAt_bound (p a : Int) (x : S30) (hx : x.f1.size ≤ 1000) (hp : 128 ≤ p) : a ≤ stepAt p a x ∧ stepAt p a x ≤ a + 1000 := by
  unfold stepAt
  split
  · have := pagesI_bound (x.f1.size : Int) p (by omega) hp; omega
  · omega
theorem Items_l (l : List S30) (p : Int) (hp : 128 ≤ p ∧ p ≤ 100000) (hl : Cutted l) : ∀ (k a : Nat) (at_ : Int) (acc : List S35), l.length + 1 ≤ a + k → a ≤ l.length → acc.length ≤ a → 0 ≤ at_ → at_ ≤ 100000 + 1000 * (a : Int) →
    pack_Items.l0 k at_ p acc l (l.length : Int) (a : Int) = some (acc ++ itemsN p at_ (l.drop a), atN p at_ (l.drop a))
  | 0, a, at_, acc, h, h1, _, _, _ => by omega
  | k + 1, a, at_, acc, h, h1, h2, h3, h4 => by
    have hl40 := hl.1
    have hw : wrap64 (Int.tdiv p 4) = Int.tdiv p 4 := w64i _ (by rw [Int.tdiv_eq_ediv_of_nonneg (by omega)]; omega)
    unfold pack_Items.l0
    by_cases c : a < l.length
    · have hx := (hl.2 _ (List.getElem_mem c)).2
      have hpg := pagesI_bound (l[a].f1.size : Int) p (by omega) hp.1
      rw [if_pos (by omega), if_pos (by omega), if_pos (by omega), rd30 c, hw, w64n a (by omega), List.drop_eq_getElem_cons c]
      by_cases d : (l[a].f1.size : Int) > Int.tdiv p 4
      · rw [if_pos d, show chain_Pages.f (l[a].f1.size : Int) p = some (pagesI (l[a].f1.size : Int) p) by unfold chain_Pages.f; rw [if_pos (by omega)]]
        rw [Option.bind_some, if_pos (by omega), w64i (at_ + pagesI (l[a].f1.size : Int) p) (by omega)]
        rw [Items_l l p hp hl k (a + 1) _ _ (by omega) (by omega) (by simp; omega) (by omega) (by omega)]
        simp [itemsN, atN, itemOf, stepAt, d]
      · rw [if_neg d, if_pos (by omega)]
        rw [Items_l l p hp hl k (a + 1) _ _ (by omega) (by omega) (by simp; omega) (by omega) (by omega)]
        simp [itemsN, atN, itemOf, stepAt, d]
    · rw [if_neg (by omega), List.drop_eq_nil_of_le (by omega)]
      simp [itemsN, atN]
theorem Items_ok (k : Nat) (l : List S30) (a p : Int) (hp : 128 ≤ p ∧ p ≤ 100000) (hl : Cutted l) (ha : 0 ≤ a ∧ a ≤ 100000) (hk : 41 ≤ k) : pack_Items.f k l a p = some (itemsN p a l, atN p a l) := by
  unfold pack_Items.f
  have := Items_l l p hp hl k 0 a [] (by have := hl.1; omega) (by omega) (by simp) ha.1 (by omega)
  simpa using this

/-! ### Ints -/
theorem Ints_l (l : List Int) (hl : l.length ≤ 1000) : ∀ (k a : Nat), l.length + 1 ≤ a + k → a ≤ l.length → withyref01_Ints.l0 k l l (a : Int) = some true
  | 0, a, h, h1 => by omega
  | k + 1, a, h, h1 => by
    unfold withyref01_Ints.l0
    by_cases c : a < l.length
    · rw [if_pos (by omega), if_pos (by omega), if_pos (by omega), if_pos rfl, w64n a (by omega)]
      exact Ints_l l hl k (a + 1) (by omega) (by omega)
    · rw [if_neg (by omega)]
theorem Ints_ok (k : Nat) (l : List Int) (hl : l.length ≤ 1000) (hk : l.length + 1 ≤ k) : withyref01_Ints.f k l l = some true := by
  unfold withyref01_Ints.f
  rw [if_pos rfl]
  exact Ints_l l hl k 0 (by omega) (by omega)

/-! ### Group -/
theorem Group_ok (p a : Int) (l : List S30) (hp : 0 ≤ p ∧ p ≤ 100000) (hl : Cutted l) (n : Nat) : pack_Group.f ((itemsN p a l).drop n) p = some (groupN p ((itemsN p a l).drop n)) := by
  unfold pack_Group.f
  rw [if_pos]
  refine ⟨?_, by omega, by omega, fun y hy => ?_⟩
  · rw [List.length_drop, itemsN_length]
    have := hl.1
    omega
  · obtain ⟨x, hx, he⟩ := itemsN_key p l a y (List.mem_of_mem_drop hy)
    have := (hl.2 x hx).1
    rw [he]
    omega
def sumN (l : List Int) : Nat → Int
  | 0 => 0
  | n + 1 => sumN l n + l.getD n 0
/-- From any leaf on the leaves are those of what is left. -/
theorem groupN_from (p : Int) : ∀ (d : Nat) (l : List S35), l.length ≤ d → ∀ k, k ≤ (groupN p l).length → ∃ s : Nat, ((groupN p l).take k).sum = (s : Int) ∧ s ≤ l.length ∧ (s < l.length → groupN p (l.drop s) = (groupN p l).drop k)
  | d, l, hd, 0, _ => ⟨0, by simp, by omega, fun _ => by simp⟩
  | 0, l, hd, k + 1, hk => by
    have : l = [] := List.length_eq_zero_iff.mp (by omega)
    subst this
    rw [groupN_eq] at hk ⊢
    have hf := firstN_bounds ([] : List S35) p
    have hz : firstN ([] : List S35) p = 0 := by simpa using hf.2
    simp [hz] at hk ⊢
  | d + 1, l, hd, k + 1, hk => by
    have hf := firstN_bounds l p
    rw [groupN_eq] at hk ⊢
    by_cases h : firstN l p = l.length
    · rw [if_pos h] at hk ⊢
      have : k = 0 := by simpa using hk
      subst this
      exact ⟨l.length, by simp [h], by omega, fun hh => by omega⟩
    · rw [if_neg h] at hk ⊢
      have hk' : k ≤ (groupN p (l.drop (firstN l p))).length := by simpa using hk
      obtain ⟨s, h1, h2, h3⟩ := groupN_from p d (l.drop (firstN l p)) (by rw [List.length_drop]; omega) k hk'
      rw [List.length_drop] at h2 h3
      refine ⟨firstN l p + s, by rw [List.take_succ_cons, List.sum_cons, h1]; omega, by omega, fun hh => ?_⟩
      rw [List.drop_succ_cons, ← h3 (by omega), List.drop_drop]
theorem groupN_length (p : Int) : ∀ (d : Nat) (l : List S35), l.length ≤ d → (groupN p l).length ≤ l.length + 1
  | 0, l, hd => by
    have : l = [] := List.length_eq_zero_iff.mp (by omega)
    subst this
    rw [groupN_eq]
    have hf := firstN_bounds ([] : List S35) p
    have hz : firstN ([] : List S35) p = 0 := by simpa using hf.2
    simp [hz]
  | d + 1, l, hd => by
    have hf := firstN_bounds l p
    rw [groupN_eq]
    by_cases h : firstN l p = l.length
    · rw [if_pos h]; simp
    · rw [if_neg h]
      have := groupN_length p d (l.drop (firstN l p)) (by rw [List.length_drop]; omega)
      rw [List.length_drop] at this
      simp only [List.length_cons]
      omega
end Go.Proofs.Ytmheajenlhlbhaa.X

namespace Go.Proofs.Ytmheajenlhlbhaa.X
open Go.RowKit Go.Proofs.YtmheajenlhlbhaaW.PrintWords Go.Proofs.YtmheajenlhlbhaaW.PrintLast Go.Proofs.YtmheajenlhlbhaaW.PrintMore
attribute [local go_sem] max2_int min2_int max_two min_two max_three min_three max_four min_four   -- for this text's walks alone
set_option linter.unusedVariables false
set_option linter.unusedSimpArgs false

theorem eqA32 (d : Nat) (w : World) (x0 y0 : Bool) (x1 y1 : ByteArray) (x2 y2 : Int) (x3 y3 : Int) :
    (Op.equalIn (d + 2) 32 (.agg #[.bool x0, .string x1, .int .i64 x2, .int .i64 x3]) (.agg #[.bool y0, .string y1, .int .i64 y2, .int .i64 y3])).run Try.prog w = .ok (x0 == y0 && (x1.toList == y1.toList && (x2 == y2 && (x3 == y3)))) w := by
  refine eqA_of Try.underlying32 (by kernel_rfl) ?_
  refine eqf_cons (by rfl) (by go_simp; rfl) (by go_simp; rfl) (by go_simp) ?_
  refine eqf_cons (by rfl) (by go_simp; rfl) (by go_simp; rfl) (by go_simp) ?_
  refine eqf_cons (by rfl) (by go_simp; rfl) (by go_simp; rfl) (by go_simp) ?_
  exact eqf_last (by rfl) (by go_simp; rfl) (by go_simp; rfl) (by go_simp)
end Go.Proofs.Ytmheajenlhlbhaa.X

namespace Go.Proofs.Ytmheajenlhlbhaa.X
open Go.RowKit Go.Proofs.YtmheajenlhlbhaaW.PrintWords Go.Proofs.YtmheajenlhlbhaaW.PrintLast Go.Proofs.YtmheajenlhlbhaaW.PrintMore
attribute [local go_sem] max2_int min2_int max_two min_two max_three min_three max_four min_four   -- for this text's walks alone
set_option linter.unusedVariables false
set_option linter.unusedSimpArgs false

--GIVEN-- withy/disk.Size
/-! ### disk_Size: function 25 -/
def disk_Size.f (a0 : Int) : Option Bool := some (a0 == 128 || a0 == 256 || a0 == 512 || a0 == 1024)

set_option maxHeartbeats 400000 in
theorem disk_sizes.calls (w : World) :
    Calls Try.prog 35 #[] w fun e w' => e = .returned (.agg #[.int .i64 128, .int .i64 256, .int .i64 512, .int .i64 1024]) ∧ Below w.heap.size w w' := by
  go_enter Try.func35, Try.ntmps35
  go_wp2
  exact bodyPost_ret (v := .agg #[.int .i64 128, .int .i64 256, .int .i64 512, .int .i64 1024]) (by simp [results, Try.results35, go_sem]) rfl ⟨rfl, (Below.refl _ _).alloc (Nat.le_refl _) _⟩

set_option maxHeartbeats 1000000 in
theorem disk_Size.calls (a0 : Int) (r : Bool) (w : World) (h : disk_Size.f a0 = some r) :
    Calls Try.prog 25 #[.int .i64 a0] w fun e w' => e = .returned (.bool r) ∧ Below w.heap.size w w' := by
  have i0 : ∀ w, (Instr.index 70 (.agg #[.int .i64 128, .int .i64 256, .int .i64 512, .int .i64 1024]) (.int .i64 0)).run Try.prog w = .ok (.int .i64 128) w := fun _ => by kernel_rfl
  have i1 : ∀ w, (Instr.index 70 (.agg #[.int .i64 128, .int .i64 256, .int .i64 512, .int .i64 1024]) (.int .i64 1)).run Try.prog w = .ok (.int .i64 256) w := fun _ => by kernel_rfl
  have i2 : ∀ w, (Instr.index 70 (.agg #[.int .i64 128, .int .i64 256, .int .i64 512, .int .i64 1024]) (.int .i64 2)).run Try.prog w = .ok (.int .i64 512) w := fun _ => by kernel_rfl
  have i3 : ∀ w, (Instr.index 70 (.agg #[.int .i64 128, .int .i64 256, .int .i64 512, .int .i64 1024]) (.int .i64 3)).run Try.prog w = .ok (.int .i64 1024) w := fun _ => by kernel_rfl
  have Hr : Aside0 (r = (a0 == 128 || a0 == 256 || a0 == 512 || a0 == 1024)) := ⟨by simpa [disk_Size.f] using h.symm⟩
  clear h
  go_enter Try.func25, Try.ntmps25
  go_wp2_with (go_at_call 35; refine (disk_sizes.calls _).mono ?_; rintro e w1 ⟨rfl, hb⟩)
  have HB := Aside0.mk hb
  clear hb
  go_loop [6] (fun i => ∃ k : Nat, k ≤ 4 ∧ i = .int .i64 k ∧ Aside0 ((k = 0) ∨ (k = 1 ∧ a0 ≠ 128) ∨ (k = 2 ∧ a0 ≠ 128 ∧ a0 ≠ 256) ∨ (k = 3 ∧ a0 ≠ 128 ∧ a0 ≠ 256 ∧ a0 ≠ 512) ∨ (k = 4 ∧ a0 ≠ 128 ∧ a0 ≠ 256 ∧ a0 ≠ 512 ∧ a0 ≠ 1024))) (fun i => 4 - (intOf i).toNat)
  case atStart => exact ⟨0, by omega, rfl, ⟨.inl rfl⟩⟩
  case round =>
    obtain ⟨k, hk, rfl, HK⟩ := hrel
    rcases HK.out with h | h | h | h | h
    · obtain rfl := h
      clear HK hk
      by_cases c : a0 = 128
      · subst c
        go_wp2
        go_ret
        exact ⟨by rw [Hr.out]; rfl, HB.out⟩
      · have HC := Aside0.mk c
        have c1 : (128 == a0) = false := by simpa using Ne.symm c
        clear c
        go_wp2
        go_round
        case rel => exact ⟨1, by omega, rfl, ⟨.inr (.inl ⟨rfl, HC.out⟩)⟩⟩
        case measure => simp [intOf]
    · obtain ⟨rfl, n0⟩ := h
      clear HK hk
      have N0 := Aside0.mk n0
      clear n0
      by_cases c : a0 = 256
      · subst c
        go_wp2
        go_ret
        exact ⟨by rw [Hr.out]; rfl, HB.out⟩
      · have HC := Aside0.mk c
        have c1 : (256 == a0) = false := by simpa using Ne.symm c
        clear c
        go_wp2
        go_round
        case rel => exact ⟨2, by omega, rfl, ⟨.inr (.inr (.inl ⟨rfl, N0.out, HC.out⟩))⟩⟩
        case measure => simp [intOf]
    · obtain ⟨rfl, n0, n1⟩ := h
      clear HK hk
      have N0 := Aside0.mk n0
      clear n0
      have N1 := Aside0.mk n1
      clear n1
      by_cases c : a0 = 512
      · subst c
        go_wp2
        go_ret
        exact ⟨by rw [Hr.out]; rfl, HB.out⟩
      · have HC := Aside0.mk c
        have c1 : (512 == a0) = false := by simpa using Ne.symm c
        clear c
        go_wp2
        go_round
        case rel => exact ⟨3, by omega, rfl, ⟨.inr (.inr (.inr (.inl ⟨rfl, N0.out, N1.out, HC.out⟩)))⟩⟩
        case measure => simp [intOf]
    · obtain ⟨rfl, n0, n1, n2⟩ := h
      clear HK hk
      have N0 := Aside0.mk n0
      clear n0
      have N1 := Aside0.mk n1
      clear n1
      have N2 := Aside0.mk n2
      clear n2
      by_cases c : a0 = 1024
      · subst c
        go_wp2
        go_ret
        exact ⟨by rw [Hr.out]; rfl, HB.out⟩
      · have HC := Aside0.mk c
        have c1 : (1024 == a0) = false := by simpa using Ne.symm c
        clear c
        go_wp2
        go_round
        case rel => exact ⟨4, by omega, rfl, ⟨.inr (.inr (.inr (.inr (⟨rfl, N0.out, N1.out, N2.out, HC.out⟩))))⟩⟩
        case measure => simp [intOf]
    · obtain ⟨rfl, n0, n1, n2, n3⟩ := h
      clear HK hk
      have HR2 : Aside0 (r = false) := ⟨by rw [Hr.out]; simp [n0, n1, n2, n3]⟩
      clear n0 n1 n2 n3
      go_wp2
      go_ret
      exact ⟨by rw [HR2.out]; rfl, HB.out⟩


end Go.Proofs.Ytmheajenlhlbhaa.X
