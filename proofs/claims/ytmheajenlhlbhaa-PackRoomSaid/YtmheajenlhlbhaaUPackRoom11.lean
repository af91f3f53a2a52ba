/- What functions of the given program compute, step by step: the walks that the law PackRoom leans on, part 11. No conditions. -/
import Derived.Test.YtmheajenlhlbhaaUPackRoom07
import Derived.Test.YtmheajenlhlbhaaUPackRoom10
import Derived.Test.YtmheajenlhlbhaaUPackRoom01
-- Plain laws: an encoded leaf, a group's room, and that the next item would have none.
namespace Go.Proofs.Ytmheajenlhlbhaa.X
open Go.RowKit Go.Proofs.YtmheajenlhlbhaaW.PrintWords Go.Proofs.YtmheajenlhlbhaaW.PrintLast Go.Proofs.YtmheajenlhlbhaaW.PrintMore
theorem growN_fits (l : List S35) (p : Int) : ∀ (d n j : Nat), n < j → j ≤ growN l p d n → fitsN l p j = true
  | 0, n, j, h, h' => by rw [growN] at h'; omega
  | d + 1, n, j, h, h' => by
    rw [growN] at h'
    by_cases c : n < l.length
    · rw [if_pos c] at h'
      by_cases e : fitsN l p (n + 1) = true
      · rw [if_pos e] at h'
        by_cases q : j = n + 1
        · rw [q]; exact e
        · exact growN_fits l p d (n + 1) j (by omega) h'
      · rw [if_neg e] at h'; omega
    · rw [if_neg c] at h'; omega
theorem first_fits (l : List S35) (p : Int) (j : Nat) (h : 2 ≤ j) (h' : j ≤ firstN l p) : fitsN l p j = true := growN_fits l p _ _ j (by omega) h'
def Rising (l : List S30) : Prop := ∀ i (h : i + 1 < l.length), Op.bytesLess (l[i]'(by omega)).f0.toList l[i + 1].f0.toList = true
theorem Rising_snoc (acc : List S30) (x : S30) (h : Rising acc) (hx : ∀ (c : 0 < acc.length), Op.bytesLess (acc[acc.length - 1]'(by omega)).f0.toList x.f0.toList = true) : Rising (acc ++ [x]) := by
  intro i hi
  rw [List.length_append, List.length_singleton] at hi
  by_cases c : i + 1 < acc.length
  · rw [List.getElem_append_left (by omega), List.getElem_append_left c]
    exact h i c
  · have e : i = acc.length - 1 := by omega
    subst e
    rw [List.getElem_append_left (by omega)]
    have : (acc ++ [x])[acc.length - 1 + 1]'(by rw [List.length_append, List.length_singleton]; omega) = x := by
      rw [List.getElem_append_right (by omega)]
      simp
    rw [this]
    exact hx (by omega)
theorem Rise_rising (l : List S30) (p : Int) (hp : 0 ≤ p ∧ p ≤ 100000) (hl : Cutted l) : ∀ (k a : Nat) (acc : List S30), l.length + 1 ≤ a + k → a ≤ l.length → acc.length ≤ a → Rising acc →
    ∃ r, withylaw16_Rise.l0 k l p acc (a : Int) = some r ∧ Rising r
  | 0, a, acc, h, h1, _, _ => by omega
  | k + 1, a, acc, h, h1, h2, h3 => by
    have hl40 := hl.1
    have hw : wrap64 (Int.tdiv p 8) = Int.tdiv p 8 := w64i _ (by rw [Int.tdiv_eq_ediv_of_nonneg hp.1]; omega)
    unfold withylaw16_Rise.l0
    by_cases c : a < l.length
    · rw [if_pos (by omega), if_pos (by omega), rd30 c, hw]
      have keep := Rise_rising l p hp hl k (a + 1) acc (by omega) (by omega) (by omega) h3
      have more : (∀ (c : 0 < acc.length), Op.bytesLess (acc[acc.length - 1]'(by omega)).f0.toList l[a].f0.toList = true) → ∃ r, withylaw16_Rise.l0 k l p (acc ++ [(⟨l[a].f0, l[a].f1⟩ : S30)]) ((a + 1 : Nat) : Int) = some r ∧ Rising r := fun hs =>
        Rise_rising l p hp hl k (a + 1) _ (by omega) (by omega) (by simp; omega) (Rising_snoc acc _ h3 hs)
      have hw1 := w64n a (by omega)
      by_cases d : (l[a].f0.size : Int) ≤ Int.tdiv p 8
      · rw [if_pos d]
        by_cases e : acc.length = 0
        · rw [if_pos (by omega), if_pos (by omega), hw1]
          exact more (fun c => by omega)
        · rw [if_neg (by omega), w64i ((acc.length : Int) - 1) (by omega), if_pos (by omega), if_pos (by omega), show (acc.length : Int) - 1 = ((acc.length - 1 : Nat) : Int) by omega, rd30 (show acc.length - 1 < acc.length by omega)]
          split
          · rename_i hq
            rw [if_pos (by omega), hw1]
            exact more (fun _ => hq)
          · rw [hw1]
            exact keep
      · rw [if_neg d, hw1]
        exact keep
    · rw [if_neg (by omega)]
      exact ⟨acc, rfl, h3⟩
theorem Rise_full (k : Nat) (l : List S30) (p : Int) (hp : 0 ≤ p ∧ p ≤ 100000) (hk : 41 ≤ k) : ∃ r, withylaw16_Rise.f k l p = some r ∧ Cutted r ∧ (∀ x ∈ r, (x.f0.size : Int) ≤ Int.tdiv p 8) ∧ Rising r := by
  obtain ⟨r, h1, h2, h3⟩ := Rise_ok k l p hp hk
  have hc := Cut_cutted l
  obtain ⟨r', h4, h5⟩ := Rise_rising ((l.take 40).map cutP) p hp hc k 0 [] (by have := hc.1; omega) (by omega) (by simp) (fun i hi => by simp at hi)
  have : withylaw16_Rise.f k l p = some r' := by
    unfold withylaw16_Rise.f
    rw [Cut_ok k l hk]
    exact h4
  rw [h1] at this
  obtain rfl := Option.some.inj this
  exact ⟨r, h1, h2, h3, h5⟩
def P4 (p : Int) : Prop := p = 128 ∨ p = 256 ∨ p = 512 ∨ p = 1024
theorem pagesI_small (n p : Int) (hn : 0 ≤ n ∧ n ≤ 700) (hp : P4 p) : 0 ≤ pagesI n p ∧ pagesI n p ≤ 7 := by
  unfold pagesI
  rw [show mx n 0 = n by unfold mx; split <;> omega]
  unfold mn
  rcases hp with rfl | rfl | rfl | rfl <;> split <;> omega
theorem itemsN_get (p : Int) : ∀ (l : List S30) (at_ : Int) (a : Nat) (h : a < l.length) (h' : a < (itemsN p at_ l).length), (itemsN p at_ l)[a] = itemOf p (atN p at_ (l.take a)) l[a]
  | x :: r, at_, 0, _, _ => by simp [itemsN, atN]
  | x :: r, at_, a + 1, h, h' => by
    simp only [itemsN, List.getElem_cons_succ, List.take_succ_cons, atN]
    exact itemsN_get p r _ a _ _
theorem atN_succ (p : Int) : ∀ (l : List S30) (at_ : Int) (a : Nat) (h : a < l.length), atN p at_ (l.take (a + 1)) = stepAt p (atN p at_ (l.take a)) l[a]
  | x :: r, at_, 0, _ => by simp [atN]
  | x :: r, at_, a + 1, h => by
    have := atN_succ p r (stepAt p at_ x) a (by simpa using h)
    simpa [atN] using this
theorem stepAt_small (p a : Int) (x : S30) (hx : x.f1.size ≤ 700) (hp : P4 p) : a ≤ stepAt p a x ∧ stepAt p a x ≤ a + 7 := by
  unfold stepAt
  split
  · have := pagesI_small (x.f1.size : Int) p (by omega) hp; omega
  · omega
theorem atN_bound (p : Int) (hp : P4 p) (l : List S30) (hl : Cutted l) (at_ : Int) : ∀ a, a ≤ l.length → at_ ≤ atN p at_ (l.take a) ∧ atN p at_ (l.take a) ≤ at_ + 7 * (a : Int)
  | 0, _ => by simp [atN]
  | a + 1, h => by
    have h1 := atN_bound p hp l hl at_ a (by omega)
    rw [atN_succ p l at_ a (by omega)]
    have h2 := stepAt_small p (atN p at_ (l.take a)) l[a] (hl.2 _ (List.getElem_mem (by omega))).2 hp
    omega

/-! ### Order of texts -/
theorem less_trans : ∀ (x y z : List UInt8), Op.bytesLess x y = true → Op.bytesLess y z = true → Op.bytesLess x z = true
  | _, _, [], _, h => by simp [Op.bytesLess] at h
  | _, [], _ :: _, h, _ => by simp [Op.bytesLess] at h
  | [], _ :: _, _ :: _, _, _ => by simp [Op.bytesLess]
  | a :: x, b :: y, c :: z, h1, h2 => by
    simp only [Op.bytesLess, Bool.or_eq_true, Bool.and_eq_true, decide_eq_true_eq, beq_iff_eq] at h1 h2 ⊢
    rcases h1 with h1 | ⟨rfl, h1⟩
    · rcases h2 with h2 | ⟨rfl, h2⟩
      · exact .inl (UInt8.lt_trans h1 h2)
      · exact .inl h1
    · rcases h2 with h2 | ⟨rfl, h2⟩
      · exact .inl h2
      · exact .inr ⟨rfl, less_trans x y z h1 h2⟩
theorem less_take : ∀ (x y : List UInt8), Op.bytesLess x y = true → Op.bytesLess x (y.take (common (x.map fun b => (b.toNat : Int)) (y.map fun b => (b.toNat : Int)) + 1)) = true
  | _, [], h => by simp [Op.bytesLess] at h
  | [], b :: y, _ => by simp [common, Op.bytesLess]
  | a :: x, b :: y, h => by
    simp only [List.map_cons, common]
    by_cases e : ((a.toNat : Int)) = (b.toNat : Int)
    · rw [if_pos e]
      have e2 : a = b := UInt8.toNat_inj.1 (by omega)
      subst e2
      have h2 : Op.bytesLess x y = true := by simpa [Op.bytesLess] using h
      rw [List.take_succ_cons]
      simp only [Op.bytesLess, beq_self_eq_true, Bool.true_and, less_take x y h2, Bool.or_true]
    · rw [if_neg e, Nat.zero_add, List.take_succ_cons, List.take_zero]
      have e2 : ¬ a = b := fun h => e (by rw [h])
      have h2 : (decide (a < b) || (a == b && Op.bytesLess x y)) = true := h
      have e3 : (a == b) = false := by simpa using e2
      rw [e3, Bool.false_and, Bool.or_false] at h2
      simp only [Op.bytesLess, h2, Bool.true_or]
theorem extract_toList (b : ByteArray) (n : Nat) : (b.extract 0 n).toList = b.toList.take n := by
  rw [ByteArray.toList_eq, ByteArray.toList_eq, ByteArray.data_extract]
  simp
theorem leastB_above (a b : ByteArray) (h : Op.bytesLess a.toList b.toList = true) : Op.bytesLess a.toList (leastB a b).toList = true := by
  unfold leastB
  rw [if_pos h, extract_toList]
  rw [ByteArray.toList_eq, ByteArray.toList_eq] at h ⊢
  exact less_take _ _ h
theorem leastB_size_le (a b : ByteArray) : (leastB a b).size ≤ b.size := by
  unfold leastB
  split
  · rw [ByteArray.size_extract]; omega
  · exact Nat.zero_le _
theorem leastB_some (a b : ByteArray) (h : Op.bytesLess a.toList b.toList = true) : (leastB a b).toList.isEmpty = false := by
  have := leastB_above a b h
  cases e : (leastB a b).toList with
  | nil => rw [e] at this; simp [Op.bytesLess] at this
  | cons x y => rfl

/-! ### A leaf that may be -/
theorem itemsFrom_at {right : Int} {high : ByteArray} {p : Int} {l : List S35} : ∀ (d i : Nat), itemsFrom right high p l d i = true → ∀ j, i ≤ j → j < i + d → itemAt right high p l j = true
  | 0, i, _, j, h1, h2 => by omega
  | d + 1, i, h, j, h1, h2 => by
    unfold itemsFrom at h
    rw [Bool.and_eq_true] at h
    by_cases q : j = i
    · rw [q]; exact h.1
    · exact itemsFrom_at d (i + 1) h.2 j (by omega) (by omega)
theorem itemsFrom_mk {right : Int} {high : ByteArray} {p : Int} {l : List S35} : ∀ (d i : Nat), (∀ j, i ≤ j → j < i + d → itemAt right high p l j = true) → itemsFrom right high p l d i = true
  | 0, i, _ => rfl
  | d + 1, i, h => by
    unfold itemsFrom
    rw [h i (by omega) (by omega), itemsFrom_mk d (i + 1) (fun j h1 h2 => h j (by omega) (by omega))]
    rfl
theorem mayHead_is {self right : Int} {high : ByteArray} {p : Int} (h : mayHead self right high p = true) : sizeOk p = true ∧ numOk self = true ∧ (right = 0 ∨ numOk right = true) ∧ right ≠ self ∧ ((right == 0) = high.toList.isEmpty) ∧ (high.size : Int) ≤ p / 8 := by
  unfold mayHead at h
  simp only [Bool.and_eq_true, Bool.or_eq_true, Bool.not_eq_true', beq_iff_eq, decide_eq_true_eq] at h
  obtain ⟨⟨⟨⟨⟨h1, h2⟩, h3⟩, h4⟩, h5⟩, h6⟩ := h
  exact ⟨h1, h2, h3, by simpa using h4, h5, h6⟩
theorem numOk_is {n : Int} (h : numOk n = true) : 1 ≤ n ∧ n < 4096 := by
  unfold numOk at h
  simpa using h
theorem mayB_is {self right : Int} {high : ByteArray} {l : List S35} {p : Int} (h : mayB self right high l p = true) : mayHead self right high p = true ∧ ∀ j, j < l.length → itemAt right high p l j = true := by
  unfold mayB at h
  rw [Bool.and_eq_true] at h
  exact ⟨h.1, fun j hj => itemsFrom_at _ 0 h.2 j (by omega) (by omega)⟩
theorem mayB_key {self right : Int} {high : ByteArray} {l : List S35} {p : Int} (h : mayB self right high l p = true) : ∀ x ∈ l, (x.f0.size : Int) ≤ p / 8 := by
  intro x hx
  obtain ⟨j, hj, rfl⟩ := List.getElem_of_mem hx
  have := (mayB_is h).2 j hj
  unfold itemAt at this
  simp only [Bool.and_eq_true, decide_eq_true_eq, rd35 hj] at this
  exact this.1.1.1
def leafPage (self right : Int) (high : ByteArray) (l : List S35) (p : Int) : ByteArray :=
  sealOf (rawPage 2 0 l.length right self (packBody (p - 16) (leafFixed high l) (leafCells l)) p)
theorem rawPage_size (k l c r s : Int) (body : ByteArray) (p : Int) (h : ((16 + body.size : Nat) : Int) ≤ p) : ((rawPage k l c r s body p).size : Int) = p := by
  unfold rawPage fourB
  simp only [ByteArray.size_append, strOfNums_size, zeroB_size]
  have : (⟨#[0, 0, 0, 0]⟩ : ByteArray).size = 4 := rfl
  simp only [List.length_cons, List.length_nil]
  omega
theorem sealOf_size (t : ByteArray) (h : 16 ≤ t.size) : (sealOf t).size = t.size := by
  unfold sealOf fourB
  simp only [ByteArray.size_append, ByteArray.size_extract, strOfNums_size, List.length_cons, List.length_nil]
  omega
theorem leaf_sizes (self right : Int) (high : ByteArray) (l : List S35) (p : Int) (hm : mayB self right high l p = true) (hl : l.length ≤ 1000000) :
    high.size ≤ 1000000000 ∧ (∀ x ∈ l, x.f0.size ≤ 1000000000) ∧ (leafFixed high l).size ≤ 10000000000 ∧ sizeSum (leafCells l) ≤ 100000000000000 := by
  obtain ⟨h1, h2, h3, h4, h5, h6⟩ := mayHead_is (mayB_is hm).1
  have hb := sizeOk_bounds h1
  have hk := mayB_key hm
  have hk2 : ∀ x ∈ l, x.f0.size ≤ 1000000000 := fun x hx => by have := hk x hx; omega
  have hs := sizeSum_le (leafCells l) 428 (leafCells_mem l)
  rw [leafCells_length] at hs
  have ha : (stripAll (leafKeys l)).size ≤ 1000000000 := stripAll_size_le _ _ (fun s hs => by obtain ⟨x, hx, rfl⟩ := List.mem_map.1 hs; exact hk2 x hx)
  have p1 := putL_length_le (stripAll (leafKeys l)).size
  have p2 := putL_length_le high.size
  refine ⟨by omega, hk2, ?_, by omega⟩
  unfold leafFixed
  rw [ByteArray.size_append, ByteArray.size_append, ByteArray.size_append, strOfNums_size, strOfNums_size]
  omega
theorem Encode_is (self right : Int) (high : ByteArray) (l : List S35) (p : Int) (hm : mayB self right high l p = true) (hl : l.length ≤ 1000000) :
    leaf_Encode.f self right high l p = if ((leafNeed high l : Nat) : Int) ≤ p - 16 then some (leafPage self right high l p, 0) else some (⟨#[]⟩, 8) := by
  obtain ⟨h1, h2, h3, h4, h5, h6⟩ := mayHead_is (mayB_is hm).1
  have hb := sizeOk_bounds h1
  obtain ⟨z1, z2, z3, z4⟩ := leaf_sizes self right high l p hm hl
  unfold leaf_Encode.f
  rw [show disk_Size.f p = some true by unfold disk_Size.f; exact congrArg some h1, Option.bind_some, if_pos rfl]
  rw [show leaf_May.f self right high l p = some true by unfold leaf_May.f; rw [if_pos hl, hm], Option.bind_some, if_pos rfl]
  rw [show leaf_parts.f self right high l = some (leafFixed high l, leafCells l) by unfold leaf_parts.f; rw [if_pos ⟨by omega, z1, z2⟩], Option.bind_some]
  rw [show wrap64 (p - 16) = p - 16 from w64i _ (by omega)]
  dsimp only
  unfold slot_Pack.f
  rw [if_neg (by omega), if_pos ⟨z3, by rw [leafCells_length]; omega, z4⟩]
  have e : ((leafFixed high l).size + sizeSum (leafCells l) + 2 * ((leafCells l).length + 1) : Nat) = leafNeed high l := by unfold leafNeed; rw [leafCells_length]
  rw [e]
  by_cases c : ((leafNeed high l : Nat) : Int) ≤ p - 16
  · rw [if_neg (by omega), if_pos c, Option.bind_some]
    dsimp only
    rw [if_pos rfl]
    have hc : 2 * (l.length + 1) ≤ leafNeed high l := by unfold leafNeed; omega
    have hn := numOk_is h2
    have hr : 0 ≤ right ∧ right < 4096 := by
      rcases h3 with h3 | h3
      · omega
      · have := numOk_is h3; omega
    have hbody : ((packBody (p - 16) (leafFixed high l) (leafCells l)).size : Int) = p - 16 := packBody_size _ _ _ (by rw [e]; exact c)
    have hf : faultN 2 0 (l.length : Int) right self (packBody (p - 16) (leafFixed high l) (leafCells l)) p = 0 := by
      unfold faultN
      rw [if_pos h1, if_pos (by
        unfold headOk inB
        simp only [Bool.and_eq_true, decide_eq_true_eq]
        omega), if_neg (by omega)]
    unfold head_Seal.f
    rw [hf, if_pos rfl, Option.bind_some]
    rfl
  · rw [if_pos (by omega), if_neg c, Option.bind_some]
    rfl
theorem leafPage_size (self right : Int) (high : ByteArray) (l : List S35) (p : Int) (hp : 128 ≤ p) (h : ((leafNeed high l : Nat) : Int) ≤ p - 16) : ((leafPage self right high l p).size : Int) = p := by
  have e : ((leafFixed high l).size + sizeSum (leafCells l) + 2 * ((leafCells l).length + 1) : Nat) = leafNeed high l := by unfold leafNeed; rw [leafCells_length]
  have hbody : ((packBody (p - 16) (leafFixed high l) (leafCells l)).size : Int) = p - 16 := packBody_size _ _ _ (by rw [e]; exact h)
  unfold leafPage
  have hr := rawPage_size 2 0 (l.length : Int) right self (packBody (p - 16) (leafFixed high l) (leafCells l)) p (by omega)
  rw [sealOf_size _ (by omega)]
  exact hr

/-! ### Groups of items that may be -/
theorem empty_isEmpty : (⟨#[]⟩ : ByteArray).toList.isEmpty = true := by rw [ByteArray.toList_eq]; rfl
def Laid (p : Int) (M : List S35) : Prop := M.length ≤ 40 ∧ (∀ x ∈ M, (x.f0.size : Int) ≤ p / 8 ∧ valMay x.f1 p = true) ∧ ∀ i (h : i + 1 < M.length), Op.bytesLess (M[i]'(by omega)).f0.toList M[i + 1].f0.toList = true
theorem Laid.drop {p : Int} {M : List S35} (h : Laid p M) (a : Nat) : Laid p (M.drop a) := by
  refine ⟨by rw [List.length_drop]; have := h.1; omega, fun x hx => h.2.1 x (List.mem_of_mem_drop hx), fun i hi => ?_⟩
  rw [List.getElem_drop, List.getElem_drop]
  exact h.2.2 (a + i) (by rw [List.length_drop] at hi; omega)
theorem Laid.lt {p : Int} {M : List S35} (h : Laid p M) (d : Nat) : ∀ (i : Nat) (hi : i + d + 1 < M.length), Op.bytesLess (M[i]'(by omega)).f0.toList (M[i + d + 1]'hi).f0.toList = true := by
  induction d with
  | zero => exact fun i hi => h.2.2 i hi
  | succ d ih => exact fun i hi => less_trans _ _ _ (ih i (by omega)) (h.2.2 (i + d + 1) hi)
def rightOf (N : List S35) (m : Nat) : Int := if m = N.length then 0 else 2
theorem highB_in (N : List S35) (m : Nat) (h1 : 1 ≤ m) (h2 : m < N.length) : highB N m = leastB (N[m - 1]'(by omega)).f0 N[m].f0 := by
  unfold highB
  rw [if_neg (by omega), rd35 h2, rd35 (by omega : m - 1 < N.length)]
theorem group_may {p : Int} {N : List S35} (hp : P4 p) (h : Laid p N) (m : Nat) (h1 : 1 ≤ m) (h2 : m ≤ N.length) : mayB 1 (rightOf N m) (highB N m) (N.take m) p = true := by
  have hk : ∀ x ∈ N, (x.f0.size : Int) ≤ p / 8 := fun x hx => (h.2.1 x hx).1
  have hsz : sizeOk p = true := by unfold sizeOk; rcases hp with rfl | rfl | rfl | rfl <;> rfl
  have hp0 : 16 ≤ p / 8 := by rcases hp with rfl | rfl | rfl | rfl <;> decide
  have head : mayHead 1 (rightOf N m) (highB N m) p = true := by
    unfold mayHead rightOf
    by_cases c : m = N.length
    · have e : highB N m = ⟨#[]⟩ := by unfold highB; rw [if_pos (.inr c)]
      rw [if_pos c, e, hsz]
      have : decide (((⟨#[]⟩ : ByteArray).size : Int) ≤ p / 8) = true := decide_eq_true (by show (0 : Int) ≤ _; omega)
      rw [this, empty_isEmpty]
      rfl
    · have hl := h.2.2 (m - 1) (by omega)
      have hl' : Op.bytesLess (N[m - 1]'(by omega)).f0.toList (N[m]'(by omega)).f0.toList = true := by
        have e : m - 1 + 1 = m := by omega
        simpa only [e] using hl
      have e := highB_in N m h1 (by omega)
      have hs := leastB_size_le (N[m - 1]'(by omega)).f0 (N[m]'(by omega)).f0
      have hz := hk _ (List.getElem_mem (l := N) (n := m) (by omega))
      rw [if_neg c, e, hsz, leastB_some _ _ hl', decide_eq_true (by omega)]
      rfl
  unfold mayB
  rw [head, Bool.true_and]
  refine itemsFrom_mk _ 0 (fun j _ hj => ?_)
  have hj2 : j < m := by rw [List.length_take] at hj; omega
  have hjn : j < N.length := by omega
  have ej : (N.take m)[j]'(by rw [List.length_take]; omega) = N[j] := List.getElem_take
  have hx := h.2.1 _ (List.getElem_mem hjn)
  unfold itemAt
  rw [rd35 (by rw [List.length_take]; omega), ej, decide_eq_true hx.1, hx.2]
  have hprev : (decide (j = 0) || Op.bytesLess (rd_T35 (N.take m) ((j : Int) - 1)).f0.toList N[j].f0.toList) = true := by
    by_cases c : j = 0
    · rw [decide_eq_true c]; rfl
    · have e1 : ((j : Int) - 1) = ((j - 1 : Nat) : Int) := by omega
      rw [e1, rd35 (by rw [List.length_take]; omega), List.getElem_take]
      have hl := h.2.2 (j - 1) (by omega)
      have e : j - 1 + 1 = j := by omega
      simp only [e] at hl
      rw [hl, Bool.or_true]
  rw [hprev]
  unfold rightOf
  by_cases c : m = N.length
  · rw [if_pos c]; rfl
  · rw [if_neg c, highB_in N m h1 (by omega)]
    have hl := h.2.2 (m - 1) (by omega)
    have e : m - 1 + 1 = m := by omega
    simp only [e] at hl
    have ha := leastB_above _ _ hl
    have : Op.bytesLess N[j].f0.toList (leastB (N[m - 1]'(by omega)).f0 (N[m]'(by omega)).f0).toList = true := by
      by_cases q : j = m - 1
      · subst q; exact ha
      · have := h.lt (m - 1 - j - 1) j (by omega)
        have e2 : j + (m - 1 - j - 1) + 1 = m - 1 := by omega
        simp only [e2] at this
        exact less_trans _ _ _ this ha
    rw [this]
    rfl
theorem putL_len3 (n : Nat) (h : n ≤ 67823) : (putL n).length ≤ 3 := by
  unfold putL
  split
  · simp
  · split
    · simp
    · first | simp | (rw [if_pos h]; simp)
theorem span_one (a : ByteArray) : spanN [a] = (a.size : Int) := rfl
theorem one_fits {p : Int} {x : S35} {high : ByteArray} (hp : P4 p) (hk : (x.f0.size : Int) ≤ p / 8) (hv : valMay x.f1 p = true) (hh : (high.size : Int) ≤ p / 8) : ((leafNeed high [x] : Nat) : Int) ≤ p - 16 := by
  have hp0 : p / 8 ≤ 128 ∧ p / 4 ≤ 256 ∧ p / 8 + p / 8 + p / 4 + 40 ≤ p := by rcases hp with rfl | rfl | rfl | rfl <;> decide
  have hvo : valOk x.f1 = true := by
    unfold valMay at hv
    by_cases c : valOk x.f1 = true
    · exact c
    · rw [if_neg c] at hv; cases hv
  have hall : (stripAll (leafKeys [x])).size ≤ x.f0.size := by
    show (x.f0.extract 0 _).size ≤ _
    rw [ByteArray.size_extract]
    omega
  have hcell : leafCells [x] = [itemCell (x.f0.extract x.f0.size x.f0.size) x.f1] := by
    unfold leafCells stripRest leafKeys
    simp [span_one]
  have hval : ((valB x.f1).size : Int) ≤ p / 4 + 8 := by
    unfold valB
    unfold valMay at hv
    rw [if_pos hvo] at hv
    have hvb : x.f1.f0 = decide (p / 4 < mx x.f1.f2 (x.f1.f1.size : Int)) := by simpa using hv
    unfold valOk at hvo
    by_cases c : x.f1.f0 = true
    · rw [if_pos c] at hvo ⊢
      simp only [Bool.and_eq_true, decide_eq_true_eq] at hvo
      have := putL_len3 x.f1.f2.toNat (by omega)
      simp only [ByteArray.size_append, strOfNums_size, List.length_cons, List.length_nil]
      omega
    · rw [if_neg c] at hvo ⊢
      simp only [Bool.and_eq_true, decide_eq_true_eq] at hvo
      have hc : x.f1.f0 = false := by simpa using c
      rw [hc] at hvb
      have hm := of_decide_eq_false hvb.symm
      have hmx : (x.f1.f1.size : Int) ≤ mx x.f1.f2 (x.f1.f1.size : Int) := by unfold mx; split <;> omega
      unfold textB
      have := putL_len3 x.f1.f1.size (by omega)
      simp only [ByteArray.size_append, strOfNums_size, List.length_cons, List.length_nil]
      omega
  have hic : ((itemCell (x.f0.extract x.f0.size x.f0.size) x.f1).size : Int) ≤ 3 + (p / 4 + 8) := by
    unfold itemCell
    have hz : (x.f0.extract x.f0.size x.f0.size).size = 0 := by rw [ByteArray.size_extract]; omega
    rw [if_pos ⟨by omega, hvo⟩]
    unfold cellB textB
    have := putL_len3 0 (by omega)
    simp only [ByteArray.size_append, strOfNums_size, hz]
    omega
  unfold leafNeed
  rw [hcell]
  have e1 : sizeSum [itemCell (x.f0.extract x.f0.size x.f0.size) x.f1] = (itemCell (x.f0.extract x.f0.size x.f0.size) x.f1).size := by simp [sizeSum]
  rw [e1]
  unfold leafFixed
  have q1 := putL_len3 (stripAll (leafKeys [x])).size (by omega)
  have q2 := putL_len3 high.size (by omega)
  simp only [ByteArray.size_append, strOfNums_size, List.length_cons, List.length_nil]
  omega
theorem growN_stop (l : List S35) (p : Int) : ∀ (d n : Nat), l.length ≤ n + d → growN l p d n < l.length → fitsN l p (growN l p d n + 1) = false
  | 0, n, h, h' => by unfold growN at h'; omega
  | d + 1, n, h, h' => by
    unfold growN at h' ⊢
    by_cases c : n < l.length
    · rw [if_pos c] at h' ⊢
      by_cases e : fitsN l p (n + 1) = true
      · rw [if_pos e] at h' ⊢
        exact growN_stop l p d (n + 1) (by omega) h'
      · rw [if_neg e]
        simpa using e
    · rw [if_neg c] at h'
      exact absurd h' c
theorem first_stop (l : List S35) (p : Int) (h : firstN l p < l.length) : fitsN l p (firstN l p + 1) = false := growN_stop l p l.length _ (by omega) h
theorem first_room {p : Int} {N : List S35} (hp : P4 p) (h : Laid p N) (h0 : 0 < N.length) : 1 ≤ firstN N p ∧ ((leafNeed (highB N (firstN N p)) (N.take (firstN N p)) : Nat) : Int) ≤ p - 16 := by
  have hb := firstN_bounds N p
  have h1 : 1 ≤ firstN N p := by omega
  refine ⟨h1, ?_⟩
  by_cases c : 2 ≤ firstN N p
  · have := first_fits N p _ c (Nat.le_refl _)
    unfold fitsN at this
    exact of_decide_eq_true this
  · have e : firstN N p = 1 := by omega
    rw [e]
    have hx := h.2.1 _ (List.getElem_mem h0)
    have ht : N.take 1 = [N[0]] := by rw [List.take_succ_eq_append_getElem h0]; rfl
    rw [ht]
    refine one_fits hp hx.1 hx.2 ?_
    by_cases q : 1 = N.length
    · have : highB N 1 = ⟨#[]⟩ := by unfold highB; rw [if_pos (.inr q)]
      rw [this]
      show (0 : Int) ≤ _
      have := hx.1
      omega
    · rw [highB_in N 1 (by omega) (by omega)]
      have hs := leastB_size_le (N[1 - 1]'(by omega)).f0 (N[1]'(by omega)).f0
      have hz := (h.2.1 _ (List.getElem_mem (l := N) (n := 1) (by omega))).1
      omega
/-- A group's leaf has a page. -/
theorem group_yes {p : Int} {N : List S35} (hp : P4 p) (h : Laid p N) (h0 : 0 < N.length) :
    ∃ t, leaf_Encode.f 1 (rightOf N (firstN N p)) (highB N (firstN N p)) (N.take (firstN N p)) p = some (t, 0) ∧ (t.size : Int) = p := by
  obtain ⟨h1, h2⟩ := first_room hp h h0
  have hb := firstN_bounds N p
  have hl := h.1
  have hp0 : 128 ≤ p := by rcases hp with rfl | rfl | rfl | rfl <;> decide
  refine ⟨_, ?_, leafPage_size 1 (rightOf N (firstN N p)) (highB N (firstN N p)) (N.take (firstN N p)) p hp0 h2⟩
  rw [Encode_is _ _ _ _ _ (group_may hp h _ h1 hb.2) (by rw [List.length_take]; omega), if_pos h2]
/-- With the next item it has none. -/
theorem group_no {p : Int} {N : List S35} (hp : P4 p) (h : Laid p N) (h0 : firstN N p < N.length) :
    leaf_Encode.f 1 (rightOf N (firstN N p + 1)) (highB N (firstN N p + 1)) (N.take (firstN N p + 1)) p = some (⟨#[]⟩, 8) := by
  have hs := first_stop N p h0
  unfold fitsN at hs
  have hl := h.1
  rw [Encode_is _ _ _ _ _ (group_may hp h _ (by omega) h0) (by rw [List.length_take]; omega), if_neg (of_decide_eq_false hs)]
/-- Of no items: one leaf. -/
theorem group_none {p : Int} (hp : P4 p) : ∃ t, leaf_Encode.f 1 0 ⟨#[]⟩ [] p = some (t, 0) ∧ (t.size : Int) = p := by
  have hm : mayB 1 0 ⟨#[]⟩ [] p = true := by
    unfold mayB mayHead sizeOk
    rw [empty_isEmpty]
    rcases hp with rfl | rfl | rfl | rfl <;> rfl
  have hn : ((leafNeed ⟨#[]⟩ [] : Nat) : Int) ≤ p - 16 := by
    have : leafNeed ⟨#[]⟩ [] = 4 := by
      unfold leafNeed leafFixed
      simp only [ByteArray.size_append, strOfNums_size]
      rfl
    rw [this]
    rcases hp with rfl | rfl | rfl | rfl <;> decide
  have hp0 : 128 ≤ p := by rcases hp with rfl | rfl | rfl | rfl <;> decide
  exact ⟨_, by rw [Encode_is _ _ _ _ _ hm (by simp), if_pos hn], leafPage_size 1 0 ⟨#[]⟩ [] p hp0 hn⟩
/-- The items of pairs that rise. -/
theorem items_laid {p : Int} {r : List S30} (hp : P4 p) (hc : Cutted r) (hk : ∀ x ∈ r, (x.f0.size : Int) ≤ Int.tdiv p 8) (hr : Rising r) (a : Int) (ha : 1 ≤ a ∧ a ≤ 1000) : Laid p (itemsN p a r) := by
  have hlen := itemsN_length p r a
  have h40 := hc.1
  have hd : Int.tdiv p 8 = p / 8 ∧ Int.tdiv p 4 = p / 4 := by rcases hp with rfl | rfl | rfl | rfl <;> decide
  refine ⟨by omega, fun y hy => ?_, fun i hi => ?_⟩
  · obtain ⟨j, hj, rfl⟩ := List.getElem_of_mem hy
    have hj2 : j < r.length := by omega
    have e := itemsN_get p r a j hj2 hj
    have hat := atN_bound p hp r hc a j (by omega)
    have hx := hc.2 _ (List.getElem_mem hj2)
    have hkx := hk _ (List.getElem_mem hj2)
    rw [e]
    refine ⟨by rw [itemOf_key]; omega, ?_⟩
    unfold itemOf
    rw [hd.2]
    by_cases c : ((r[j].f1.size : Nat) : Int) > p / 4
    · rw [if_pos c]
      have hp0 : 0 ≤ p / 4 := by rcases hp with rfl | rfl | rfl | rfl <;> decide
      have ho : valOk (⟨true, ⟨#[]⟩, (r[j].f1.size : Int), atN p a (r.take j)⟩ : S32) = true := by
        unfold valOk
        simp
        omega
      unfold valMay
      rw [if_pos ho]
      have hmx : mx (r[j].f1.size : Int) (((⟨#[]⟩ : ByteArray).size : Nat) : Int) = (r[j].f1.size : Int) := by
        show mx _ (0 : Int) = _
        unfold mx
        split <;> omega
      show (true == decide (p / 4 < mx (r[j].f1.size : Int) (((⟨#[]⟩ : ByteArray).size : Nat) : Int))) = true
      rw [hmx, decide_eq_true (by omega)]
      rfl
    · rw [if_neg c]
      have hp1 : p / 4 ≤ 256 := by rcases hp with rfl | rfl | rfl | rfl <;> decide
      have ho : valOk (⟨false, r[j].f1, 0, 0⟩ : S32) = true := by
        unfold valOk
        simp
        omega
      unfold valMay
      rw [if_pos ho]
      have hmx : mx 0 (r[j].f1.size : Int) = (r[j].f1.size : Int) := by unfold mx; split <;> omega
      show (false == decide (p / 4 < mx 0 (r[j].f1.size : Int))) = true
      rw [hmx, decide_eq_false (by omega)]
      rfl
  · rw [itemsN_get p r a i (by omega) (by omega), itemsN_get p r a (i + 1) (by omega) hi, itemOf_key, itemOf_key]
    exact hr i (by omega)
end Go.Proofs.Ytmheajenlhlbhaa.X


namespace Go.Proofs.Ytmheajenlhlbhaa.X
open Go.RowKit Go.Proofs.YtmheajenlhlbhaaW.PrintWords Go.Proofs.YtmheajenlhlbhaaW.PrintLast Go.Proofs.YtmheajenlhlbhaaW.PrintMore
attribute [local go_sem] max2_int min2_int max_two min_two max_three min_three max_four min_four   -- for this text's walks alone
set_option linter.unusedVariables false
set_option linter.unusedSimpArgs false

theorem eqA32 (d : Nat) (w : World) (x0 y0 : Bool) (x1 y1 : ByteArray) (x2 y2 : Int) (x3 y3 : Int) :
    (Op.equalIn (d + 2) 32 (.agg #[.bool x0, .string x1, .int .i64 x2, .int .i64 x3]) (.agg #[.bool y0, .string y1, .int .i64 y2, .int .i64 y3])).run Try.prog w = .ok (x0 == y0 && (x1.toList == y1.toList && (x2 == y2 && (x3 == y3)))) w := by
  refine eqA_of Try.underlying32 (by kernel_rfl) ?_
  refine eqf_cons (by rfl) (by go_simp; rfl) (by go_simp; rfl) (by go_simp) ?_
  refine eqf_cons (by rfl) (by go_simp; rfl) (by go_simp; rfl) (by go_simp) ?_
  refine eqf_cons (by rfl) (by go_simp; rfl) (by go_simp; rfl) (by go_simp) ?_
  exact eqf_last (by rfl) (by go_simp; rfl) (by go_simp; rfl) (by go_simp)
end Go.Proofs.Ytmheajenlhlbhaa.X


namespace Go.Proofs.Ytmheajenlhlbhaa.X
open Go.RowKit Go.Proofs.YtmheajenlhlbhaaW.PrintWords Go.Proofs.YtmheajenlhlbhaaW.PrintLast Go.Proofs.YtmheajenlhlbhaaW.PrintMore
attribute [local go_sem] max2_int min2_int max_two min_two max_three min_three max_four min_four   -- for this text's walks alone
set_option linter.unusedVariables false
set_option linter.unusedSimpArgs false

/-! ### pack_Right: function 15 -/
def pack_Right.l0 : Nat → List (S30) → Int → List (S30) → Int → Int → Option (Bool)
  | 0, _, _, _, _, _ => none
  | k + 1, x0, x1, x10, x11, x12 => if x12 < x11 then (if 0 ≤ x12 then (if x12 < (x10.length : Int) then (if (((rd_T30 x10 x12).f0).size : Int) > (wrap64 (Int.tdiv x1 8)) then (some false) else (if (((rd_T30 x10 x12).f1).size : Int) > 4096 then (some false) else (if x12 > 0 then (if 0 ≤ (wrap64 (x12 - 1)) then (if (wrap64 (x12 - 1)) < (x0.length : Int) then (if ((Op.bytesLess (((rd_T30 x0 (wrap64 (x12 - 1))).f0).toList) (((rd_T30 x10 x12).f0).toList)) = true) then (pack_Right.l0 k x0 x1 x10 x11 (wrap64 (x12 + 1))) else (some false)) else (none)) else (none)) else (pack_Right.l0 k x0 x1 x10 x11 (wrap64 (x12 + 1)))))) else (none)) else (none)) else (some true)
def pack_Right.f (k : Nat) (l0 : List (S30)) (a1 : Int) : Option (Bool) := (disk_Size.f a1).bind fun t207 => (if t207 = true then (pack_Right.l0 k l0 a1 l0 (l0.length : Int) 0) else (some false))
set_option maxHeartbeats 8000000 in
set_option maxRecDepth 100000 in
theorem pack_Right.calls (k : Nat) (A0 : Option Addr) (c0 : Nat) (l0 : List (S30)) (a1 : Int) (r : Bool) (w : World) (hr0 : Kd.C k30 w A0 l0.length l0) (hc0 : l0.length ≤ c0) (h : pack_Right.f k l0 a1 = some r) :
    Calls Try.prog 15 #[.slice A0 l0.length c0, .int .i64 a1] w fun e w' => e = .returned (.bool r) ∧ Below w.heap.size w w' := by
  have hu30 := Try.underlying30
  have HR0 := Aside0.mk hr0
  have HC0 := Aside0.mk hc0
  clear hr0 hc0
  have HB := Aside0.mk (Below.refl w.heap.size w)
  have H : ((disk_Size.f a1).bind fun t207 => (if t207 = true then (pack_Right.l0 k l0 a1 l0 (l0.length : Int) 0) else (some false))) = some r := h
  clear h
  replace H := Option.bind_eq_some_iff.mp H
  obtain ⟨t207, A30, H⟩ := H
  replace H : (if t207 = true then (pack_Right.l0 k l0 a1 l0 (l0.length : Int) 0) else (some false)) = some r := H
  have A3 := Aside0.mk A30
  clear A30
  by_cases c4 : t207 = true
  · subst c4
    have H1 : (pack_Right.l0 k l0 a1 l0 (l0.length : Int) 0) = some r := by rw [if_pos rfl] at H; exact H
    clear H
    have H := H1
    clear H1
    have H' := Aside0.mk H
    clear H
    go_enter Try.func15, Try.ntmps15
    go_wp2_with (first | (go_at_call 25; (with_reducible refine (disk_Size.calls a1 true _ A3.out).mono ?_); rintro e w5 ⟨rfl, hb⟩; have n0_ := Aside0.mk (below_step (by repeat (first | (with_reducible first | exact HB.out | apply below_alloc | apply pw_below_drewN | apply below_drew1) | exact HB.out)) hb); clear HB; have HB := n0_; clear n0_; (try clear hb); (try clear hb2); (try clear hk); (try clear hi)))
    repeat (go_quiet (first | (go_at_call 25; (with_reducible refine (disk_Size.calls a1 true _ A3.out).mono ?_); rintro e w5 ⟨rfl, hb⟩; have n0_ := Aside0.mk (below_step (by repeat (first | (with_reducible first | exact HB.out | apply below_alloc | apply pw_below_drewN | apply below_drew1) | exact HB.out)) hb); clear HB; have HB := n0_; clear n0_; (try clear hb); (try clear hb2); (try clear hk); (try clear hi))); try go_wp2_with (first | (go_at_call 25; (with_reducible refine (disk_Size.calls a1 true _ A3.out).mono ?_); rintro e w5 ⟨rfl, hb⟩; have n0_ := Aside0.mk (below_step (by repeat (first | (with_reducible first | exact HB.out | apply below_alloc | apply pw_below_drewN | apply below_drew1) | exact HB.out)) hb); clear HB; have HB := n0_; clear n0_; (try clear hb); (try clear hb2); (try clear hk); (try clear hi))))
    go_loopg [12] k (fun kq v12 w' => ∃ (x12_1 : Int), v12 = .int .i64 x12_1 ∧ Aside0 (pack_Right.l0 kq l0 a1 l0 (l0.length : Int) x12_1 = some r) ∧ Aside0 (kq ≤ k) ∧ Aside0 (Below w.heap.size w w'))
    case atStart => exact ⟨(0), (by first | rfl | (simp; done) | (simp [*]; done)), H', ⟨Nat.le_refl _⟩, ⟨by repeat (first | (with_reducible first | exact HB.out | apply below_alloc | apply pw_below_drewN | apply below_drew1) | exact HB.out)⟩⟩
    case round =>
      clear H'
      try clear c1
      try clear p2
      try clear c4
      obtain ⟨x12_1, rfl, HA, HK1, HB⟩ := hrel
      cases gk with
      | zero => exact absurd HA.out (by simp [pack_Right.l0])
      | succ k1 =>
        have H := HA.out
        clear HA
        simp only [pack_Right.l0] at H
        by_cases c6 : x12_1 < (l0.length : Int)
        · rw [if_pos c6] at H
          have c6b0 : decide (x12_1 < (l0.length : Int)) = true := decide_eq_true c6
          clear c6
          by_cases c7 : 0 ≤ x12_1
          · rw [if_pos c7] at H
            have c7b0 : decide (0 ≤ x12_1) = true := decide_eq_true c7
            clear c7
            by_cases c8 : x12_1 < (l0.length : Int)
            · rw [if_pos c8] at H
              have c8b0 : decide (x12_1 < (l0.length : Int)) = true := decide_eq_true c8
              clear c8
              by_cases c9 : (((rd_T30 l0 x12_1).f0).size : Int) > (wrap64 (Int.tdiv a1 8))
              · rw [if_pos c9] at H
                have c9b0 : decide ((wrap64 (Int.tdiv a1 8)) < (((rd_T30 l0 x12_1).f0).size : Int)) = true := decide_eq_true c9
                clear c9
                obtain rfl := Option.some.inj H
                have p208 : 0 ≤ (x12_1 : Int) := of_decide_eq_true (by first | (with_reducible assumption) | assumption)
                have q208 : x12_1 < (l0.length : Int) := of_decide_eq_true (by first | (with_reducible assumption) | assumption)
                obtain ⟨ad208, e208, hx208_0, hx208_1⟩ := at_T30 HR0.out x12_1 p208 q208
                cases e208
                replace hx208_0 := (HB.out.cell (World.block_lt_of_cell? w _ hx208_0)).trans hx208_0
                replace hx208_1 := (HB.out.cell (World.block_lt_of_cell? w _ hx208_1)).trans hx208_1
                replace p208 := eq_true p208
                replace q208 := eq_true q208
                go_wp2_with (first | ((with_reducible refine gate_dst (N := 6) rfl ?_); (try (refine gate_guard (by rfl) ?_; dsimp only)); refine box_event ?hg (N := 6) ?hd (cs := #[.string (⟨#[]⟩ : ByteArray), .string (⟨#[]⟩ : ByteArray)]) (t := 30) ?hr ?_; (case hd => rfl); (case hg => rfl); (case hr => first | (go_simp; done) | (go_simp; rfl)); intro gb209 hg w10 hbox hb; have n0_ := Aside0.mk (below_step (by repeat (first | (with_reducible first | exact HB.out | apply below_alloc | apply pw_below_drewN | apply below_drew1) | exact HB.out)) hb); have n1_ := Aside0.mk (hbox); have n2_ := Aside0.mk ((by rw [hg]; exact (below_size (by repeat (first | (with_reducible first | exact HB.out | apply below_alloc | apply pw_below_drewN | apply below_drew1) | exact HB.out))) : w.heap.size ≤ gb209)); have n3_ := Aside0.mk ((by rw [hg]; exact (below_size (by repeat (first | (with_reducible first | exact HB.out | apply below_alloc | apply pw_below_drewN | apply below_drew1) | exact HB.out))) : w.heap.size ≤ gb209)); clear HB; have HB := n0_; have BK209 := n1_; have GW209 := n2_; have GE209 := n3_; clear n0_ n1_ n2_ n3_; clear hb hbox hg; have hcz11_0 : w10.cell? ⟨gb209, 0, none⟩ = some (.string (⟨#[]⟩ : ByteArray)) := (blk_cell BK209.out 0).trans rfl; have hcz11_1 : w10.cell? ⟨gb209, 1, none⟩ = some (.string (⟨#[]⟩ : ByteArray)) := (blk_cell BK209.out 1).trans rfl; have hfz11_0 := blk_frozen BK209.out 0; have hfz11_1 := blk_frozen BK209.out 1))
                repeat (go_quiet (first | ((with_reducible refine gate_dst (N := 6) rfl ?_); (try (refine gate_guard (by rfl) ?_; dsimp only)); refine box_event ?hg (N := 6) ?hd (cs := #[.string (⟨#[]⟩ : ByteArray), .string (⟨#[]⟩ : ByteArray)]) (t := 30) ?hr ?_; (case hd => rfl); (case hg => rfl); (case hr => first | (go_simp; done) | (go_simp; rfl)); intro gb209 hg w10 hbox hb; have n0_ := Aside0.mk (below_step (by repeat (first | (with_reducible first | exact HB.out | apply below_alloc | apply pw_below_drewN | apply below_drew1) | exact HB.out)) hb); have n1_ := Aside0.mk (hbox); have n2_ := Aside0.mk ((by rw [hg]; exact (below_size (by repeat (first | (with_reducible first | exact HB.out | apply below_alloc | apply pw_below_drewN | apply below_drew1) | exact HB.out))) : w.heap.size ≤ gb209)); have n3_ := Aside0.mk ((by rw [hg]; exact (below_size (by repeat (first | (with_reducible first | exact HB.out | apply below_alloc | apply pw_below_drewN | apply below_drew1) | exact HB.out))) : w.heap.size ≤ gb209)); clear HB; have HB := n0_; have BK209 := n1_; have GW209 := n2_; have GE209 := n3_; clear n0_ n1_ n2_ n3_; clear hb hbox hg; have hcz11_0 : w10.cell? ⟨gb209, 0, none⟩ = some (.string (⟨#[]⟩ : ByteArray)) := (blk_cell BK209.out 0).trans rfl; have hcz11_1 : w10.cell? ⟨gb209, 1, none⟩ = some (.string (⟨#[]⟩ : ByteArray)) := (blk_cell BK209.out 1).trans rfl; have hfz11_0 := blk_frozen BK209.out 0; have hfz11_1 := blk_frozen BK209.out 1)); try go_wp2_with (first | ((with_reducible refine gate_dst (N := 6) rfl ?_); (try (refine gate_guard (by rfl) ?_; dsimp only)); refine box_event ?hg (N := 6) ?hd (cs := #[.string (⟨#[]⟩ : ByteArray), .string (⟨#[]⟩ : ByteArray)]) (t := 30) ?hr ?_; (case hd => rfl); (case hg => rfl); (case hr => first | (go_simp; done) | (go_simp; rfl)); intro gb209 hg w10 hbox hb; have n0_ := Aside0.mk (below_step (by repeat (first | (with_reducible first | exact HB.out | apply below_alloc | apply pw_below_drewN | apply below_drew1) | exact HB.out)) hb); have n1_ := Aside0.mk (hbox); have n2_ := Aside0.mk ((by rw [hg]; exact (below_size (by repeat (first | (with_reducible first | exact HB.out | apply below_alloc | apply pw_below_drewN | apply below_drew1) | exact HB.out))) : w.heap.size ≤ gb209)); have n3_ := Aside0.mk ((by rw [hg]; exact (below_size (by repeat (first | (with_reducible first | exact HB.out | apply below_alloc | apply pw_below_drewN | apply below_drew1) | exact HB.out))) : w.heap.size ≤ gb209)); clear HB; have HB := n0_; have BK209 := n1_; have GW209 := n2_; have GE209 := n3_; clear n0_ n1_ n2_ n3_; clear hb hbox hg; have hcz11_0 : w10.cell? ⟨gb209, 0, none⟩ = some (.string (⟨#[]⟩ : ByteArray)) := (blk_cell BK209.out 0).trans rfl; have hcz11_1 : w10.cell? ⟨gb209, 1, none⟩ = some (.string (⟨#[]⟩ : ByteArray)) := (blk_cell BK209.out 1).trans rfl; have hfz11_0 := blk_frozen BK209.out 0; have hfz11_1 := blk_frozen BK209.out 1)))
                go_ret
                exact ⟨by first | rfl | (simp [errW_none, errW_some] <;> rfl) | (simp [*, errW_none, errW_some] <;> rfl), by repeat (first | (with_reducible first | exact HB.out | apply below_alloc | apply pw_below_drewN | apply below_drew1 | refine below_set ?_ GE209.out) | exact HB.out)⟩
              · rw [if_neg c9] at H
                have c9b0 : decide ((wrap64 (Int.tdiv a1 8)) < (((rd_T30 l0 x12_1).f0).size : Int)) = false := decide_eq_false c9
                clear c9
                by_cases c12 : (((rd_T30 l0 x12_1).f1).size : Int) > 4096
                · rw [if_pos c12] at H
                  have c12b0 : decide (4096 < (((rd_T30 l0 x12_1).f1).size : Int)) = true := decide_eq_true c12
                  have c12b1 : decide (4096 < ((rd_T30 l0 x12_1).f1).size) = true := decide_eq_true (by omega)
                  clear c12
                  obtain rfl := Option.some.inj H
                  have p208 : 0 ≤ (x12_1 : Int) := of_decide_eq_true (by first | (with_reducible assumption) | assumption)
                  have q208 : x12_1 < (l0.length : Int) := of_decide_eq_true (by first | (with_reducible assumption) | assumption)
                  obtain ⟨ad208, e208, hx208_0, hx208_1⟩ := at_T30 HR0.out x12_1 p208 q208
                  cases e208
                  replace hx208_0 := (HB.out.cell (World.block_lt_of_cell? w _ hx208_0)).trans hx208_0
                  replace hx208_1 := (HB.out.cell (World.block_lt_of_cell? w _ hx208_1)).trans hx208_1
                  replace p208 := eq_true p208
                  replace q208 := eq_true q208
                  go_wp2_with (first | ((with_reducible refine gate_dst (N := 6) rfl ?_); (try (refine gate_guard (by rfl) ?_; dsimp only)); refine box_event ?hg (N := 6) ?hd (cs := #[.string (⟨#[]⟩ : ByteArray), .string (⟨#[]⟩ : ByteArray)]) (t := 30) ?hr ?_; (case hd => rfl); (case hg => rfl); (case hr => first | (go_simp; done) | (go_simp; rfl)); intro gb209 hg w13 hbox hb; have n0_ := Aside0.mk (below_step (by repeat (first | (with_reducible first | exact HB.out | apply below_alloc | apply pw_below_drewN | apply below_drew1) | exact HB.out)) hb); have n1_ := Aside0.mk (hbox); have n2_ := Aside0.mk ((by rw [hg]; exact (below_size (by repeat (first | (with_reducible first | exact HB.out | apply below_alloc | apply pw_below_drewN | apply below_drew1) | exact HB.out))) : w.heap.size ≤ gb209)); have n3_ := Aside0.mk ((by rw [hg]; exact (below_size (by repeat (first | (with_reducible first | exact HB.out | apply below_alloc | apply pw_below_drewN | apply below_drew1) | exact HB.out))) : w.heap.size ≤ gb209)); clear HB; have HB := n0_; have BK209 := n1_; have GW209 := n2_; have GE209 := n3_; clear n0_ n1_ n2_ n3_; clear hb hbox hg; have hcz14_0 : w13.cell? ⟨gb209, 0, none⟩ = some (.string (⟨#[]⟩ : ByteArray)) := (blk_cell BK209.out 0).trans rfl; have hcz14_1 : w13.cell? ⟨gb209, 1, none⟩ = some (.string (⟨#[]⟩ : ByteArray)) := (blk_cell BK209.out 1).trans rfl; have hfz14_0 := blk_frozen BK209.out 0; have hfz14_1 := blk_frozen BK209.out 1))
                  repeat (go_quiet (first | ((with_reducible refine gate_dst (N := 6) rfl ?_); (try (refine gate_guard (by rfl) ?_; dsimp only)); refine box_event ?hg (N := 6) ?hd (cs := #[.string (⟨#[]⟩ : ByteArray), .string (⟨#[]⟩ : ByteArray)]) (t := 30) ?hr ?_; (case hd => rfl); (case hg => rfl); (case hr => first | (go_simp; done) | (go_simp; rfl)); intro gb209 hg w13 hbox hb; have n0_ := Aside0.mk (below_step (by repeat (first | (with_reducible first | exact HB.out | apply below_alloc | apply pw_below_drewN | apply below_drew1) | exact HB.out)) hb); have n1_ := Aside0.mk (hbox); have n2_ := Aside0.mk ((by rw [hg]; exact (below_size (by repeat (first | (with_reducible first | exact HB.out | apply below_alloc | apply pw_below_drewN | apply below_drew1) | exact HB.out))) : w.heap.size ≤ gb209)); have n3_ := Aside0.mk ((by rw [hg]; exact (below_size (by repeat (first | (with_reducible first | exact HB.out | apply below_alloc | apply pw_below_drewN | apply below_drew1) | exact HB.out))) : w.heap.size ≤ gb209)); clear HB; have HB := n0_; have BK209 := n1_; have GW209 := n2_; have GE209 := n3_; clear n0_ n1_ n2_ n3_; clear hb hbox hg; have hcz14_0 : w13.cell? ⟨gb209, 0, none⟩ = some (.string (⟨#[]⟩ : ByteArray)) := (blk_cell BK209.out 0).trans rfl; have hcz14_1 : w13.cell? ⟨gb209, 1, none⟩ = some (.string (⟨#[]⟩ : ByteArray)) := (blk_cell BK209.out 1).trans rfl; have hfz14_0 := blk_frozen BK209.out 0; have hfz14_1 := blk_frozen BK209.out 1)); try go_wp2_with (first | ((with_reducible refine gate_dst (N := 6) rfl ?_); (try (refine gate_guard (by rfl) ?_; dsimp only)); refine box_event ?hg (N := 6) ?hd (cs := #[.string (⟨#[]⟩ : ByteArray), .string (⟨#[]⟩ : ByteArray)]) (t := 30) ?hr ?_; (case hd => rfl); (case hg => rfl); (case hr => first | (go_simp; done) | (go_simp; rfl)); intro gb209 hg w13 hbox hb; have n0_ := Aside0.mk (below_step (by repeat (first | (with_reducible first | exact HB.out | apply below_alloc | apply pw_below_drewN | apply below_drew1) | exact HB.out)) hb); have n1_ := Aside0.mk (hbox); have n2_ := Aside0.mk ((by rw [hg]; exact (below_size (by repeat (first | (with_reducible first | exact HB.out | apply below_alloc | apply pw_below_drewN | apply below_drew1) | exact HB.out))) : w.heap.size ≤ gb209)); have n3_ := Aside0.mk ((by rw [hg]; exact (below_size (by repeat (first | (with_reducible first | exact HB.out | apply below_alloc | apply pw_below_drewN | apply below_drew1) | exact HB.out))) : w.heap.size ≤ gb209)); clear HB; have HB := n0_; have BK209 := n1_; have GW209 := n2_; have GE209 := n3_; clear n0_ n1_ n2_ n3_; clear hb hbox hg; have hcz14_0 : w13.cell? ⟨gb209, 0, none⟩ = some (.string (⟨#[]⟩ : ByteArray)) := (blk_cell BK209.out 0).trans rfl; have hcz14_1 : w13.cell? ⟨gb209, 1, none⟩ = some (.string (⟨#[]⟩ : ByteArray)) := (blk_cell BK209.out 1).trans rfl; have hfz14_0 := blk_frozen BK209.out 0; have hfz14_1 := blk_frozen BK209.out 1)))
                  go_ret
                  exact ⟨by first | rfl | (simp [errW_none, errW_some] <;> rfl) | (simp [*, errW_none, errW_some] <;> rfl), by repeat (first | (with_reducible first | exact HB.out | apply below_alloc | apply pw_below_drewN | apply below_drew1 | refine below_set ?_ GE209.out) | exact HB.out)⟩
                · rw [if_neg c12] at H
                  have c12b0 : decide (4096 < (((rd_T30 l0 x12_1).f1).size : Int)) = false := decide_eq_false c12
                  have c12b1 : decide (4096 < ((rd_T30 l0 x12_1).f1).size) = false := decide_eq_false (by omega)
                  clear c12
                  by_cases c15 : x12_1 > 0
                  · rw [if_pos c15] at H
                    have c15b0 : decide (0 < x12_1) = true := decide_eq_true c15
                    clear c15
                    obtain ⟨ji16, hji16⟩ : ∃ j_ : Int, (wrap64 (x12_1 - 1)) = j_ := ⟨_, rfl⟩
                    replace H : (if 0 ≤ (ji16) then (if (ji16) < (l0.length : Int) then (if ((Op.bytesLess (((rd_T30 l0 (ji16)).f0).toList) (((rd_T30 l0 x12_1).f0).toList)) = true) then (pack_Right.l0 k1 l0 a1 l0 (l0.length : Int) (wrap64 (x12_1 + 1))) else (some false)) else (none)) else (none)) = some r := by first | (rw [hji16] at H; exact H) | (simp only [hji16] at H ⊢; exact H)
                    have hji16w : (IntKind.i64.wrap (x12_1 - 1)) = ji16 := (i64_w _).trans hji16
                    by_cases c17 : 0 ≤ (ji16)
                    · rw [if_pos c17] at H
                      have c17b0 : decide (0 ≤ (ji16)) = true := decide_eq_true c17
                      clear c17
                      by_cases c18 : (ji16) < (l0.length : Int)
                      · rw [if_pos c18] at H
                        have c18b0 : decide ((ji16) < (l0.length : Int)) = true := decide_eq_true c18
                        clear c18
                        by_cases c19 : ((Op.bytesLess (((rd_T30 l0 (ji16)).f0).toList) (((rd_T30 l0 x12_1).f0).toList)) = true)
                        · rw [if_pos c19] at H
                          have c19b0 : (Op.bytesLess (((rd_T30 l0 (ji16)).f0).toList) (((rd_T30 l0 x12_1).f0).toList)) = true := c19
                          clear c19
                          have H' := Aside0.mk H
                          clear H
                          have p208 : 0 ≤ (x12_1 : Int) := of_decide_eq_true (by first | (with_reducible assumption) | assumption)
                          have q208 : x12_1 < (l0.length : Int) := of_decide_eq_true (by first | (with_reducible assumption) | assumption)
                          obtain ⟨ad208, e208, hx208_0, hx208_1⟩ := at_T30 HR0.out x12_1 p208 q208
                          cases e208
                          replace hx208_0 := (HB.out.cell (World.block_lt_of_cell? w _ hx208_0)).trans hx208_0
                          replace hx208_1 := (HB.out.cell (World.block_lt_of_cell? w _ hx208_1)).trans hx208_1
                          replace p208 := eq_true p208
                          replace q208 := eq_true q208
                          go_wp2_with (first | ((with_reducible refine gate_dst (N := 6) rfl ?_); (try (refine gate_guard (by rfl) ?_; dsimp only)); refine box_event ?hg (N := 6) ?hd (cs := #[.string (⟨#[]⟩ : ByteArray), .string (⟨#[]⟩ : ByteArray)]) (t := 30) ?hr ?_; (case hd => rfl); (case hg => rfl); (case hr => first | (go_simp; done) | (go_simp; rfl)); intro gb209 hg w20 hbox hb; have n0_ := Aside0.mk (below_step (by repeat (first | (with_reducible first | exact HB.out | apply below_alloc | apply pw_below_drewN | apply below_drew1) | exact HB.out)) hb); have n1_ := Aside0.mk (hbox); have n2_ := Aside0.mk ((by rw [hg]; exact (below_size (by repeat (first | (with_reducible first | exact HB.out | apply below_alloc | apply pw_below_drewN | apply below_drew1) | exact HB.out))) : w.heap.size ≤ gb209)); have n3_ := Aside0.mk ((by rw [hg]; exact (below_size (by repeat (first | (with_reducible first | exact HB.out | apply below_alloc | apply pw_below_drewN | apply below_drew1) | exact HB.out))) : w.heap.size ≤ gb209)); clear HB; have HB := n0_; have BK209 := n1_; have GW209 := n2_; have GE209 := n3_; clear n0_ n1_ n2_ n3_; clear hb hbox hg; have hcz21_0 : w20.cell? ⟨gb209, 0, none⟩ = some (.string (⟨#[]⟩ : ByteArray)) := (blk_cell BK209.out 0).trans rfl; have hcz21_1 : w20.cell? ⟨gb209, 1, none⟩ = some (.string (⟨#[]⟩ : ByteArray)) := (blk_cell BK209.out 1).trans rfl; have hfz21_0 := blk_frozen BK209.out 0; have hfz21_1 := blk_frozen BK209.out 1; have p210 : 0 ≤ ((ji16) : Int) := of_decide_eq_true (by first | (with_reducible assumption) | assumption); have q210 : (ji16) < (l0.length : Int) := of_decide_eq_true (by first | (with_reducible assumption) | assumption); obtain ⟨ad210, e210, hx210_0, hx210_1⟩ := at_T30 HR0.out (ji16) p210 q210; obtain rfl : ad208 = ad210 := (by injection e210); have hn210_0 : ad208.block ≠ gb209 := Nat.ne_of_lt (Nat.lt_of_lt_of_le (by have := World.block_lt_of_cell? _ _ hx210_0; first | rwa [add_block] at this | exact this) GW209.out); have hn210_1 : ad208.block ≠ gb209 := Nat.ne_of_lt (Nat.lt_of_lt_of_le (by have := World.block_lt_of_cell? _ _ hx210_0; first | rwa [add_block] at this | exact this) GW209.out); replace hx210_0 := (HB.out.cell (World.block_lt_of_cell? w _ hx210_0)).trans hx210_0; replace hx210_1 := (HB.out.cell (World.block_lt_of_cell? w _ hx210_1)).trans hx210_1; replace hx210_0 := (cell_far (p := ⟨gb209, 0, none⟩) (by first | (rw [add_block]; exact hn210_0) | (show (Addr.add _ _).block ≠ _; rw [add_block]; exact hn210_0) | exact hn210_0) (.string ((rd_T30 l0 x12_1).f0))).trans hx210_0; replace hx210_1 := (cell_far (p := ⟨gb209, 0, none⟩) (by first | (rw [add_block]; exact hn210_0) | (show (Addr.add _ _).block ≠ _; rw [add_block]; exact hn210_0) | exact hn210_0) (.string ((rd_T30 l0 x12_1).f0))).trans hx210_1; replace hx210_0 := (cell_far (p := ⟨gb209, 1, none⟩) (by first | (rw [add_block]; exact hn210_1) | (show (Addr.add _ _).block ≠ _; rw [add_block]; exact hn210_1) | exact hn210_1) (.string ((rd_T30 l0 x12_1).f1))).trans hx210_0; replace hx210_1 := (cell_far (p := ⟨gb209, 1, none⟩) (by first | (rw [add_block]; exact hn210_1) | (show (Addr.add _ _).block ≠ _; rw [add_block]; exact hn210_1) | exact hn210_1) (.string ((rd_T30 l0 x12_1).f1))).trans hx210_1; (try have hy210_0 := fun (n_ : Nat) => (show ((((w20.drewN n_).setCell ⟨gb209, 0, none⟩ (.string ((rd_T30 l0 x12_1).f0))).setCell ⟨gb209, 1, none⟩ (.string ((rd_T30 l0 x12_1).f1)))).cell? _ = some _ from hx210_0)); (try have hy210_1 := fun (n_ : Nat) => (show ((((w20.drewN n_).setCell ⟨gb209, 0, none⟩ (.string ((rd_T30 l0 x12_1).f0))).setCell ⟨gb209, 1, none⟩ (.string ((rd_T30 l0 x12_1).f1)))).cell? _ = some _ from hx210_1)); clear hn210_0; clear hn210_1; replace p210 := eq_true p210; replace q210 := eq_true q210))
                          repeat (go_quiet (first | ((with_reducible refine gate_dst (N := 6) rfl ?_); (try (refine gate_guard (by rfl) ?_; dsimp only)); refine box_event ?hg (N := 6) ?hd (cs := #[.string (⟨#[]⟩ : ByteArray), .string (⟨#[]⟩ : ByteArray)]) (t := 30) ?hr ?_; (case hd => rfl); (case hg => rfl); (case hr => first | (go_simp; done) | (go_simp; rfl)); intro gb209 hg w20 hbox hb; have n0_ := Aside0.mk (below_step (by repeat (first | (with_reducible first | exact HB.out | apply below_alloc | apply pw_below_drewN | apply below_drew1) | exact HB.out)) hb); have n1_ := Aside0.mk (hbox); have n2_ := Aside0.mk ((by rw [hg]; exact (below_size (by repeat (first | (with_reducible first | exact HB.out | apply below_alloc | apply pw_below_drewN | apply below_drew1) | exact HB.out))) : w.heap.size ≤ gb209)); have n3_ := Aside0.mk ((by rw [hg]; exact (below_size (by repeat (first | (with_reducible first | exact HB.out | apply below_alloc | apply pw_below_drewN | apply below_drew1) | exact HB.out))) : w.heap.size ≤ gb209)); clear HB; have HB := n0_; have BK209 := n1_; have GW209 := n2_; have GE209 := n3_; clear n0_ n1_ n2_ n3_; clear hb hbox hg; have hcz21_0 : w20.cell? ⟨gb209, 0, none⟩ = some (.string (⟨#[]⟩ : ByteArray)) := (blk_cell BK209.out 0).trans rfl; have hcz21_1 : w20.cell? ⟨gb209, 1, none⟩ = some (.string (⟨#[]⟩ : ByteArray)) := (blk_cell BK209.out 1).trans rfl; have hfz21_0 := blk_frozen BK209.out 0; have hfz21_1 := blk_frozen BK209.out 1; have p210 : 0 ≤ ((ji16) : Int) := of_decide_eq_true (by first | (with_reducible assumption) | assumption); have q210 : (ji16) < (l0.length : Int) := of_decide_eq_true (by first | (with_reducible assumption) | assumption); obtain ⟨ad210, e210, hx210_0, hx210_1⟩ := at_T30 HR0.out (ji16) p210 q210; obtain rfl : ad208 = ad210 := (by injection e210); have hn210_0 : ad208.block ≠ gb209 := Nat.ne_of_lt (Nat.lt_of_lt_of_le (by have := World.block_lt_of_cell? _ _ hx210_0; first | rwa [add_block] at this | exact this) GW209.out); have hn210_1 : ad208.block ≠ gb209 := Nat.ne_of_lt (Nat.lt_of_lt_of_le (by have := World.block_lt_of_cell? _ _ hx210_0; first | rwa [add_block] at this | exact this) GW209.out); replace hx210_0 := (HB.out.cell (World.block_lt_of_cell? w _ hx210_0)).trans hx210_0; replace hx210_1 := (HB.out.cell (World.block_lt_of_cell? w _ hx210_1)).trans hx210_1; replace hx210_0 := (cell_far (p := ⟨gb209, 0, none⟩) (by first | (rw [add_block]; exact hn210_0) | (show (Addr.add _ _).block ≠ _; rw [add_block]; exact hn210_0) | exact hn210_0) (.string ((rd_T30 l0 x12_1).f0))).trans hx210_0; replace hx210_1 := (cell_far (p := ⟨gb209, 0, none⟩) (by first | (rw [add_block]; exact hn210_0) | (show (Addr.add _ _).block ≠ _; rw [add_block]; exact hn210_0) | exact hn210_0) (.string ((rd_T30 l0 x12_1).f0))).trans hx210_1; replace hx210_0 := (cell_far (p := ⟨gb209, 1, none⟩) (by first | (rw [add_block]; exact hn210_1) | (show (Addr.add _ _).block ≠ _; rw [add_block]; exact hn210_1) | exact hn210_1) (.string ((rd_T30 l0 x12_1).f1))).trans hx210_0; replace hx210_1 := (cell_far (p := ⟨gb209, 1, none⟩) (by first | (rw [add_block]; exact hn210_1) | (show (Addr.add _ _).block ≠ _; rw [add_block]; exact hn210_1) | exact hn210_1) (.string ((rd_T30 l0 x12_1).f1))).trans hx210_1; (try have hy210_0 := fun (n_ : Nat) => (show ((((w20.drewN n_).setCell ⟨gb209, 0, none⟩ (.string ((rd_T30 l0 x12_1).f0))).setCell ⟨gb209, 1, none⟩ (.string ((rd_T30 l0 x12_1).f1)))).cell? _ = some _ from hx210_0)); (try have hy210_1 := fun (n_ : Nat) => (show ((((w20.drewN n_).setCell ⟨gb209, 0, none⟩ (.string ((rd_T30 l0 x12_1).f0))).setCell ⟨gb209, 1, none⟩ (.string ((rd_T30 l0 x12_1).f1)))).cell? _ = some _ from hx210_1)); clear hn210_0; clear hn210_1; replace p210 := eq_true p210; replace q210 := eq_true q210)); try go_wp2_with (first | ((with_reducible refine gate_dst (N := 6) rfl ?_); (try (refine gate_guard (by rfl) ?_; dsimp only)); refine box_event ?hg (N := 6) ?hd (cs := #[.string (⟨#[]⟩ : ByteArray), .string (⟨#[]⟩ : ByteArray)]) (t := 30) ?hr ?_; (case hd => rfl); (case hg => rfl); (case hr => first | (go_simp; done) | (go_simp; rfl)); intro gb209 hg w20 hbox hb; have n0_ := Aside0.mk (below_step (by repeat (first | (with_reducible first | exact HB.out | apply below_alloc | apply pw_below_drewN | apply below_drew1) | exact HB.out)) hb); have n1_ := Aside0.mk (hbox); have n2_ := Aside0.mk ((by rw [hg]; exact (below_size (by repeat (first | (with_reducible first | exact HB.out | apply below_alloc | apply pw_below_drewN | apply below_drew1) | exact HB.out))) : w.heap.size ≤ gb209)); have n3_ := Aside0.mk ((by rw [hg]; exact (below_size (by repeat (first | (with_reducible first | exact HB.out | apply below_alloc | apply pw_below_drewN | apply below_drew1) | exact HB.out))) : w.heap.size ≤ gb209)); clear HB; have HB := n0_; have BK209 := n1_; have GW209 := n2_; have GE209 := n3_; clear n0_ n1_ n2_ n3_; clear hb hbox hg; have hcz21_0 : w20.cell? ⟨gb209, 0, none⟩ = some (.string (⟨#[]⟩ : ByteArray)) := (blk_cell BK209.out 0).trans rfl; have hcz21_1 : w20.cell? ⟨gb209, 1, none⟩ = some (.string (⟨#[]⟩ : ByteArray)) := (blk_cell BK209.out 1).trans rfl; have hfz21_0 := blk_frozen BK209.out 0; have hfz21_1 := blk_frozen BK209.out 1; have p210 : 0 ≤ ((ji16) : Int) := of_decide_eq_true (by first | (with_reducible assumption) | assumption); have q210 : (ji16) < (l0.length : Int) := of_decide_eq_true (by first | (with_reducible assumption) | assumption); obtain ⟨ad210, e210, hx210_0, hx210_1⟩ := at_T30 HR0.out (ji16) p210 q210; obtain rfl : ad208 = ad210 := (by injection e210); have hn210_0 : ad208.block ≠ gb209 := Nat.ne_of_lt (Nat.lt_of_lt_of_le (by have := World.block_lt_of_cell? _ _ hx210_0; first | rwa [add_block] at this | exact this) GW209.out); have hn210_1 : ad208.block ≠ gb209 := Nat.ne_of_lt (Nat.lt_of_lt_of_le (by have := World.block_lt_of_cell? _ _ hx210_0; first | rwa [add_block] at this | exact this) GW209.out); replace hx210_0 := (HB.out.cell (World.block_lt_of_cell? w _ hx210_0)).trans hx210_0; replace hx210_1 := (HB.out.cell (World.block_lt_of_cell? w _ hx210_1)).trans hx210_1; replace hx210_0 := (cell_far (p := ⟨gb209, 0, none⟩) (by first | (rw [add_block]; exact hn210_0) | (show (Addr.add _ _).block ≠ _; rw [add_block]; exact hn210_0) | exact hn210_0) (.string ((rd_T30 l0 x12_1).f0))).trans hx210_0; replace hx210_1 := (cell_far (p := ⟨gb209, 0, none⟩) (by first | (rw [add_block]; exact hn210_0) | (show (Addr.add _ _).block ≠ _; rw [add_block]; exact hn210_0) | exact hn210_0) (.string ((rd_T30 l0 x12_1).f0))).trans hx210_1; replace hx210_0 := (cell_far (p := ⟨gb209, 1, none⟩) (by first | (rw [add_block]; exact hn210_1) | (show (Addr.add _ _).block ≠ _; rw [add_block]; exact hn210_1) | exact hn210_1) (.string ((rd_T30 l0 x12_1).f1))).trans hx210_0; replace hx210_1 := (cell_far (p := ⟨gb209, 1, none⟩) (by first | (rw [add_block]; exact hn210_1) | (show (Addr.add _ _).block ≠ _; rw [add_block]; exact hn210_1) | exact hn210_1) (.string ((rd_T30 l0 x12_1).f1))).trans hx210_1; (try have hy210_0 := fun (n_ : Nat) => (show ((((w20.drewN n_).setCell ⟨gb209, 0, none⟩ (.string ((rd_T30 l0 x12_1).f0))).setCell ⟨gb209, 1, none⟩ (.string ((rd_T30 l0 x12_1).f1)))).cell? _ = some _ from hx210_0)); (try have hy210_1 := fun (n_ : Nat) => (show ((((w20.drewN n_).setCell ⟨gb209, 0, none⟩ (.string ((rd_T30 l0 x12_1).f0))).setCell ⟨gb209, 1, none⟩ (.string ((rd_T30 l0 x12_1).f1)))).cell? _ = some _ from hx210_1)); clear hn210_0; clear hn210_1; replace p210 := eq_true p210; replace q210 := eq_true q210)))
                          go_roundg k1
                          case measure => have := HK1.out; omega
                          case rel => exact ⟨(wrap64 (x12_1 + 1)), (by first | rfl | (simp; done) | (simp [*]; done)), H', ⟨by have := HK1.out; omega⟩, ⟨by repeat (first | (with_reducible first | exact HB.out | apply below_alloc | apply pw_below_drewN | apply below_drew1 | refine below_set ?_ GE209.out) | exact HB.out)⟩⟩
                        · rw [if_neg c19] at H
                          have c19b0 : (Op.bytesLess (((rd_T30 l0 (ji16)).f0).toList) (((rd_T30 l0 x12_1).f0).toList)) = false := by simpa using c19
                          clear c19
                          obtain rfl := Option.some.inj H
                          have p208 : 0 ≤ (x12_1 : Int) := of_decide_eq_true (by first | (with_reducible assumption) | assumption)
                          have q208 : x12_1 < (l0.length : Int) := of_decide_eq_true (by first | (with_reducible assumption) | assumption)
                          obtain ⟨ad208, e208, hx208_0, hx208_1⟩ := at_T30 HR0.out x12_1 p208 q208
                          cases e208
                          replace hx208_0 := (HB.out.cell (World.block_lt_of_cell? w _ hx208_0)).trans hx208_0
                          replace hx208_1 := (HB.out.cell (World.block_lt_of_cell? w _ hx208_1)).trans hx208_1
                          replace p208 := eq_true p208
                          replace q208 := eq_true q208
                          go_wp2_with (first | ((with_reducible refine gate_dst (N := 6) rfl ?_); (try (refine gate_guard (by rfl) ?_; dsimp only)); refine box_event ?hg (N := 6) ?hd (cs := #[.string (⟨#[]⟩ : ByteArray), .string (⟨#[]⟩ : ByteArray)]) (t := 30) ?hr ?_; (case hd => rfl); (case hg => rfl); (case hr => first | (go_simp; done) | (go_simp; rfl)); intro gb209 hg w22 hbox hb; have n0_ := Aside0.mk (below_step (by repeat (first | (with_reducible first | exact HB.out | apply below_alloc | apply pw_below_drewN | apply below_drew1) | exact HB.out)) hb); have n1_ := Aside0.mk (hbox); have n2_ := Aside0.mk ((by rw [hg]; exact (below_size (by repeat (first | (with_reducible first | exact HB.out | apply below_alloc | apply pw_below_drewN | apply below_drew1) | exact HB.out))) : w.heap.size ≤ gb209)); have n3_ := Aside0.mk ((by rw [hg]; exact (below_size (by repeat (first | (with_reducible first | exact HB.out | apply below_alloc | apply pw_below_drewN | apply below_drew1) | exact HB.out))) : w.heap.size ≤ gb209)); clear HB; have HB := n0_; have BK209 := n1_; have GW209 := n2_; have GE209 := n3_; clear n0_ n1_ n2_ n3_; clear hb hbox hg; have hcz23_0 : w22.cell? ⟨gb209, 0, none⟩ = some (.string (⟨#[]⟩ : ByteArray)) := (blk_cell BK209.out 0).trans rfl; have hcz23_1 : w22.cell? ⟨gb209, 1, none⟩ = some (.string (⟨#[]⟩ : ByteArray)) := (blk_cell BK209.out 1).trans rfl; have hfz23_0 := blk_frozen BK209.out 0; have hfz23_1 := blk_frozen BK209.out 1; have p210 : 0 ≤ ((ji16) : Int) := of_decide_eq_true (by first | (with_reducible assumption) | assumption); have q210 : (ji16) < (l0.length : Int) := of_decide_eq_true (by first | (with_reducible assumption) | assumption); obtain ⟨ad210, e210, hx210_0, hx210_1⟩ := at_T30 HR0.out (ji16) p210 q210; obtain rfl : ad208 = ad210 := (by injection e210); have hn210_0 : ad208.block ≠ gb209 := Nat.ne_of_lt (Nat.lt_of_lt_of_le (by have := World.block_lt_of_cell? _ _ hx210_0; first | rwa [add_block] at this | exact this) GW209.out); have hn210_1 : ad208.block ≠ gb209 := Nat.ne_of_lt (Nat.lt_of_lt_of_le (by have := World.block_lt_of_cell? _ _ hx210_0; first | rwa [add_block] at this | exact this) GW209.out); replace hx210_0 := (HB.out.cell (World.block_lt_of_cell? w _ hx210_0)).trans hx210_0; replace hx210_1 := (HB.out.cell (World.block_lt_of_cell? w _ hx210_1)).trans hx210_1; replace hx210_0 := (cell_far (p := ⟨gb209, 0, none⟩) (by first | (rw [add_block]; exact hn210_0) | (show (Addr.add _ _).block ≠ _; rw [add_block]; exact hn210_0) | exact hn210_0) (.string ((rd_T30 l0 x12_1).f0))).trans hx210_0; replace hx210_1 := (cell_far (p := ⟨gb209, 0, none⟩) (by first | (rw [add_block]; exact hn210_0) | (show (Addr.add _ _).block ≠ _; rw [add_block]; exact hn210_0) | exact hn210_0) (.string ((rd_T30 l0 x12_1).f0))).trans hx210_1; replace hx210_0 := (cell_far (p := ⟨gb209, 1, none⟩) (by first | (rw [add_block]; exact hn210_1) | (show (Addr.add _ _).block ≠ _; rw [add_block]; exact hn210_1) | exact hn210_1) (.string ((rd_T30 l0 x12_1).f1))).trans hx210_0; replace hx210_1 := (cell_far (p := ⟨gb209, 1, none⟩) (by first | (rw [add_block]; exact hn210_1) | (show (Addr.add _ _).block ≠ _; rw [add_block]; exact hn210_1) | exact hn210_1) (.string ((rd_T30 l0 x12_1).f1))).trans hx210_1; (try have hy210_0 := fun (n_ : Nat) => (show ((((w22.drewN n_).setCell ⟨gb209, 0, none⟩ (.string ((rd_T30 l0 x12_1).f0))).setCell ⟨gb209, 1, none⟩ (.string ((rd_T30 l0 x12_1).f1)))).cell? _ = some _ from hx210_0)); (try have hy210_1 := fun (n_ : Nat) => (show ((((w22.drewN n_).setCell ⟨gb209, 0, none⟩ (.string ((rd_T30 l0 x12_1).f0))).setCell ⟨gb209, 1, none⟩ (.string ((rd_T30 l0 x12_1).f1)))).cell? _ = some _ from hx210_1)); clear hn210_0; clear hn210_1; replace p210 := eq_true p210; replace q210 := eq_true q210))
                          repeat (go_quiet (first | ((with_reducible refine gate_dst (N := 6) rfl ?_); (try (refine gate_guard (by rfl) ?_; dsimp only)); refine box_event ?hg (N := 6) ?hd (cs := #[.string (⟨#[]⟩ : ByteArray), .string (⟨#[]⟩ : ByteArray)]) (t := 30) ?hr ?_; (case hd => rfl); (case hg => rfl); (case hr => first | (go_simp; done) | (go_simp; rfl)); intro gb209 hg w22 hbox hb; have n0_ := Aside0.mk (below_step (by repeat (first | (with_reducible first | exact HB.out | apply below_alloc | apply pw_below_drewN | apply below_drew1) | exact HB.out)) hb); have n1_ := Aside0.mk (hbox); have n2_ := Aside0.mk ((by rw [hg]; exact (below_size (by repeat (first | (with_reducible first | exact HB.out | apply below_alloc | apply pw_below_drewN | apply below_drew1) | exact HB.out))) : w.heap.size ≤ gb209)); have n3_ := Aside0.mk ((by rw [hg]; exact (below_size (by repeat (first | (with_reducible first | exact HB.out | apply below_alloc | apply pw_below_drewN | apply below_drew1) | exact HB.out))) : w.heap.size ≤ gb209)); clear HB; have HB := n0_; have BK209 := n1_; have GW209 := n2_; have GE209 := n3_; clear n0_ n1_ n2_ n3_; clear hb hbox hg; have hcz23_0 : w22.cell? ⟨gb209, 0, none⟩ = some (.string (⟨#[]⟩ : ByteArray)) := (blk_cell BK209.out 0).trans rfl; have hcz23_1 : w22.cell? ⟨gb209, 1, none⟩ = some (.string (⟨#[]⟩ : ByteArray)) := (blk_cell BK209.out 1).trans rfl; have hfz23_0 := blk_frozen BK209.out 0; have hfz23_1 := blk_frozen BK209.out 1; have p210 : 0 ≤ ((ji16) : Int) := of_decide_eq_true (by first | (with_reducible assumption) | assumption); have q210 : (ji16) < (l0.length : Int) := of_decide_eq_true (by first | (with_reducible assumption) | assumption); obtain ⟨ad210, e210, hx210_0, hx210_1⟩ := at_T30 HR0.out (ji16) p210 q210; obtain rfl : ad208 = ad210 := (by injection e210); have hn210_0 : ad208.block ≠ gb209 := Nat.ne_of_lt (Nat.lt_of_lt_of_le (by have := World.block_lt_of_cell? _ _ hx210_0; first | rwa [add_block] at this | exact this) GW209.out); have hn210_1 : ad208.block ≠ gb209 := Nat.ne_of_lt (Nat.lt_of_lt_of_le (by have := World.block_lt_of_cell? _ _ hx210_0; first | rwa [add_block] at this | exact this) GW209.out); replace hx210_0 := (HB.out.cell (World.block_lt_of_cell? w _ hx210_0)).trans hx210_0; replace hx210_1 := (HB.out.cell (World.block_lt_of_cell? w _ hx210_1)).trans hx210_1; replace hx210_0 := (cell_far (p := ⟨gb209, 0, none⟩) (by first | (rw [add_block]; exact hn210_0) | (show (Addr.add _ _).block ≠ _; rw [add_block]; exact hn210_0) | exact hn210_0) (.string ((rd_T30 l0 x12_1).f0))).trans hx210_0; replace hx210_1 := (cell_far (p := ⟨gb209, 0, none⟩) (by first | (rw [add_block]; exact hn210_0) | (show (Addr.add _ _).block ≠ _; rw [add_block]; exact hn210_0) | exact hn210_0) (.string ((rd_T30 l0 x12_1).f0))).trans hx210_1; replace hx210_0 := (cell_far (p := ⟨gb209, 1, none⟩) (by first | (rw [add_block]; exact hn210_1) | (show (Addr.add _ _).block ≠ _; rw [add_block]; exact hn210_1) | exact hn210_1) (.string ((rd_T30 l0 x12_1).f1))).trans hx210_0; replace hx210_1 := (cell_far (p := ⟨gb209, 1, none⟩) (by first | (rw [add_block]; exact hn210_1) | (show (Addr.add _ _).block ≠ _; rw [add_block]; exact hn210_1) | exact hn210_1) (.string ((rd_T30 l0 x12_1).f1))).trans hx210_1; (try have hy210_0 := fun (n_ : Nat) => (show ((((w22.drewN n_).setCell ⟨gb209, 0, none⟩ (.string ((rd_T30 l0 x12_1).f0))).setCell ⟨gb209, 1, none⟩ (.string ((rd_T30 l0 x12_1).f1)))).cell? _ = some _ from hx210_0)); (try have hy210_1 := fun (n_ : Nat) => (show ((((w22.drewN n_).setCell ⟨gb209, 0, none⟩ (.string ((rd_T30 l0 x12_1).f0))).setCell ⟨gb209, 1, none⟩ (.string ((rd_T30 l0 x12_1).f1)))).cell? _ = some _ from hx210_1)); clear hn210_0; clear hn210_1; replace p210 := eq_true p210; replace q210 := eq_true q210)); try go_wp2_with (first | ((with_reducible refine gate_dst (N := 6) rfl ?_); (try (refine gate_guard (by rfl) ?_; dsimp only)); refine box_event ?hg (N := 6) ?hd (cs := #[.string (⟨#[]⟩ : ByteArray), .string (⟨#[]⟩ : ByteArray)]) (t := 30) ?hr ?_; (case hd => rfl); (case hg => rfl); (case hr => first | (go_simp; done) | (go_simp; rfl)); intro gb209 hg w22 hbox hb; have n0_ := Aside0.mk (below_step (by repeat (first | (with_reducible first | exact HB.out | apply below_alloc | apply pw_below_drewN | apply below_drew1) | exact HB.out)) hb); have n1_ := Aside0.mk (hbox); have n2_ := Aside0.mk ((by rw [hg]; exact (below_size (by repeat (first | (with_reducible first | exact HB.out | apply below_alloc | apply pw_below_drewN | apply below_drew1) | exact HB.out))) : w.heap.size ≤ gb209)); have n3_ := Aside0.mk ((by rw [hg]; exact (below_size (by repeat (first | (with_reducible first | exact HB.out | apply below_alloc | apply pw_below_drewN | apply below_drew1) | exact HB.out))) : w.heap.size ≤ gb209)); clear HB; have HB := n0_; have BK209 := n1_; have GW209 := n2_; have GE209 := n3_; clear n0_ n1_ n2_ n3_; clear hb hbox hg; have hcz23_0 : w22.cell? ⟨gb209, 0, none⟩ = some (.string (⟨#[]⟩ : ByteArray)) := (blk_cell BK209.out 0).trans rfl; have hcz23_1 : w22.cell? ⟨gb209, 1, none⟩ = some (.string (⟨#[]⟩ : ByteArray)) := (blk_cell BK209.out 1).trans rfl; have hfz23_0 := blk_frozen BK209.out 0; have hfz23_1 := blk_frozen BK209.out 1; have p210 : 0 ≤ ((ji16) : Int) := of_decide_eq_true (by first | (with_reducible assumption) | assumption); have q210 : (ji16) < (l0.length : Int) := of_decide_eq_true (by first | (with_reducible assumption) | assumption); obtain ⟨ad210, e210, hx210_0, hx210_1⟩ := at_T30 HR0.out (ji16) p210 q210; obtain rfl : ad208 = ad210 := (by injection e210); have hn210_0 : ad208.block ≠ gb209 := Nat.ne_of_lt (Nat.lt_of_lt_of_le (by have := World.block_lt_of_cell? _ _ hx210_0; first | rwa [add_block] at this | exact this) GW209.out); have hn210_1 : ad208.block ≠ gb209 := Nat.ne_of_lt (Nat.lt_of_lt_of_le (by have := World.block_lt_of_cell? _ _ hx210_0; first | rwa [add_block] at this | exact this) GW209.out); replace hx210_0 := (HB.out.cell (World.block_lt_of_cell? w _ hx210_0)).trans hx210_0; replace hx210_1 := (HB.out.cell (World.block_lt_of_cell? w _ hx210_1)).trans hx210_1; replace hx210_0 := (cell_far (p := ⟨gb209, 0, none⟩) (by first | (rw [add_block]; exact hn210_0) | (show (Addr.add _ _).block ≠ _; rw [add_block]; exact hn210_0) | exact hn210_0) (.string ((rd_T30 l0 x12_1).f0))).trans hx210_0; replace hx210_1 := (cell_far (p := ⟨gb209, 0, none⟩) (by first | (rw [add_block]; exact hn210_0) | (show (Addr.add _ _).block ≠ _; rw [add_block]; exact hn210_0) | exact hn210_0) (.string ((rd_T30 l0 x12_1).f0))).trans hx210_1; replace hx210_0 := (cell_far (p := ⟨gb209, 1, none⟩) (by first | (rw [add_block]; exact hn210_1) | (show (Addr.add _ _).block ≠ _; rw [add_block]; exact hn210_1) | exact hn210_1) (.string ((rd_T30 l0 x12_1).f1))).trans hx210_0; replace hx210_1 := (cell_far (p := ⟨gb209, 1, none⟩) (by first | (rw [add_block]; exact hn210_1) | (show (Addr.add _ _).block ≠ _; rw [add_block]; exact hn210_1) | exact hn210_1) (.string ((rd_T30 l0 x12_1).f1))).trans hx210_1; (try have hy210_0 := fun (n_ : Nat) => (show ((((w22.drewN n_).setCell ⟨gb209, 0, none⟩ (.string ((rd_T30 l0 x12_1).f0))).setCell ⟨gb209, 1, none⟩ (.string ((rd_T30 l0 x12_1).f1)))).cell? _ = some _ from hx210_0)); (try have hy210_1 := fun (n_ : Nat) => (show ((((w22.drewN n_).setCell ⟨gb209, 0, none⟩ (.string ((rd_T30 l0 x12_1).f0))).setCell ⟨gb209, 1, none⟩ (.string ((rd_T30 l0 x12_1).f1)))).cell? _ = some _ from hx210_1)); clear hn210_0; clear hn210_1; replace p210 := eq_true p210; replace q210 := eq_true q210)))
                          go_ret
                          exact ⟨by first | rfl | (simp [errW_none, errW_some] <;> rfl) | (simp only [← hji16]; first | rfl | (simp [errW_none, errW_some] <;> rfl)) | (simp [*, errW_none, errW_some] <;> rfl), by repeat (first | (with_reducible first | exact HB.out | apply below_alloc | apply pw_below_drewN | apply below_drew1 | refine below_set ?_ GE209.out) | exact HB.out)⟩
                      · rw [if_neg c18] at H
                        exact absurd H (by simp)
                    · rw [if_neg c17] at H
                      exact absurd H (by simp)
                  · rw [if_neg c15] at H
                    have c15b0 : decide (0 < x12_1) = false := decide_eq_false c15
                    clear c15
                    have H' := Aside0.mk H
                    clear H
                    have p208 : 0 ≤ (x12_1 : Int) := of_decide_eq_true (by first | (with_reducible assumption) | assumption)
                    have q208 : x12_1 < (l0.length : Int) := of_decide_eq_true (by first | (with_reducible assumption) | assumption)
                    obtain ⟨ad208, e208, hx208_0, hx208_1⟩ := at_T30 HR0.out x12_1 p208 q208
                    cases e208
                    replace hx208_0 := (HB.out.cell (World.block_lt_of_cell? w _ hx208_0)).trans hx208_0
                    replace hx208_1 := (HB.out.cell (World.block_lt_of_cell? w _ hx208_1)).trans hx208_1
                    replace p208 := eq_true p208
                    replace q208 := eq_true q208
                    go_wp2_with (first | ((with_reducible refine gate_dst (N := 6) rfl ?_); (try (refine gate_guard (by rfl) ?_; dsimp only)); refine box_event ?hg (N := 6) ?hd (cs := #[.string (⟨#[]⟩ : ByteArray), .string (⟨#[]⟩ : ByteArray)]) (t := 30) ?hr ?_; (case hd => rfl); (case hg => rfl); (case hr => first | (go_simp; done) | (go_simp; rfl)); intro gb209 hg w24 hbox hb; have n0_ := Aside0.mk (below_step (by repeat (first | (with_reducible first | exact HB.out | apply below_alloc | apply pw_below_drewN | apply below_drew1) | exact HB.out)) hb); have n1_ := Aside0.mk (hbox); have n2_ := Aside0.mk ((by rw [hg]; exact (below_size (by repeat (first | (with_reducible first | exact HB.out | apply below_alloc | apply pw_below_drewN | apply below_drew1) | exact HB.out))) : w.heap.size ≤ gb209)); have n3_ := Aside0.mk ((by rw [hg]; exact (below_size (by repeat (first | (with_reducible first | exact HB.out | apply below_alloc | apply pw_below_drewN | apply below_drew1) | exact HB.out))) : w.heap.size ≤ gb209)); clear HB; have HB := n0_; have BK209 := n1_; have GW209 := n2_; have GE209 := n3_; clear n0_ n1_ n2_ n3_; clear hb hbox hg; have hcz25_0 : w24.cell? ⟨gb209, 0, none⟩ = some (.string (⟨#[]⟩ : ByteArray)) := (blk_cell BK209.out 0).trans rfl; have hcz25_1 : w24.cell? ⟨gb209, 1, none⟩ = some (.string (⟨#[]⟩ : ByteArray)) := (blk_cell BK209.out 1).trans rfl; have hfz25_0 := blk_frozen BK209.out 0; have hfz25_1 := blk_frozen BK209.out 1))
                    repeat (go_quiet (first | ((with_reducible refine gate_dst (N := 6) rfl ?_); (try (refine gate_guard (by rfl) ?_; dsimp only)); refine box_event ?hg (N := 6) ?hd (cs := #[.string (⟨#[]⟩ : ByteArray), .string (⟨#[]⟩ : ByteArray)]) (t := 30) ?hr ?_; (case hd => rfl); (case hg => rfl); (case hr => first | (go_simp; done) | (go_simp; rfl)); intro gb209 hg w24 hbox hb; have n0_ := Aside0.mk (below_step (by repeat (first | (with_reducible first | exact HB.out | apply below_alloc | apply pw_below_drewN | apply below_drew1) | exact HB.out)) hb); have n1_ := Aside0.mk (hbox); have n2_ := Aside0.mk ((by rw [hg]; exact (below_size (by repeat (first | (with_reducible first | exact HB.out | apply below_alloc | apply pw_below_drewN | apply below_drew1) | exact HB.out))) : w.heap.size ≤ gb209)); have n3_ := Aside0.mk ((by rw [hg]; exact (below_size (by repeat (first | (with_reducible first | exact HB.out | apply below_alloc | apply pw_below_drewN | apply below_drew1) | exact HB.out))) : w.heap.size ≤ gb209)); clear HB; have HB := n0_; have BK209 := n1_; have GW209 := n2_; have GE209 := n3_; clear n0_ n1_ n2_ n3_; clear hb hbox hg; have hcz25_0 : w24.cell? ⟨gb209, 0, none⟩ = some (.string (⟨#[]⟩ : ByteArray)) := (blk_cell BK209.out 0).trans rfl; have hcz25_1 : w24.cell? ⟨gb209, 1, none⟩ = some (.string (⟨#[]⟩ : ByteArray)) := (blk_cell BK209.out 1).trans rfl; have hfz25_0 := blk_frozen BK209.out 0; have hfz25_1 := blk_frozen BK209.out 1)); try go_wp2_with (first | ((with_reducible refine gate_dst (N := 6) rfl ?_); (try (refine gate_guard (by rfl) ?_; dsimp only)); refine box_event ?hg (N := 6) ?hd (cs := #[.string (⟨#[]⟩ : ByteArray), .string (⟨#[]⟩ : ByteArray)]) (t := 30) ?hr ?_; (case hd => rfl); (case hg => rfl); (case hr => first | (go_simp; done) | (go_simp; rfl)); intro gb209 hg w24 hbox hb; have n0_ := Aside0.mk (below_step (by repeat (first | (with_reducible first | exact HB.out | apply below_alloc | apply pw_below_drewN | apply below_drew1) | exact HB.out)) hb); have n1_ := Aside0.mk (hbox); have n2_ := Aside0.mk ((by rw [hg]; exact (below_size (by repeat (first | (with_reducible first | exact HB.out | apply below_alloc | apply pw_below_drewN | apply below_drew1) | exact HB.out))) : w.heap.size ≤ gb209)); have n3_ := Aside0.mk ((by rw [hg]; exact (below_size (by repeat (first | (with_reducible first | exact HB.out | apply below_alloc | apply pw_below_drewN | apply below_drew1) | exact HB.out))) : w.heap.size ≤ gb209)); clear HB; have HB := n0_; have BK209 := n1_; have GW209 := n2_; have GE209 := n3_; clear n0_ n1_ n2_ n3_; clear hb hbox hg; have hcz25_0 : w24.cell? ⟨gb209, 0, none⟩ = some (.string (⟨#[]⟩ : ByteArray)) := (blk_cell BK209.out 0).trans rfl; have hcz25_1 : w24.cell? ⟨gb209, 1, none⟩ = some (.string (⟨#[]⟩ : ByteArray)) := (blk_cell BK209.out 1).trans rfl; have hfz25_0 := blk_frozen BK209.out 0; have hfz25_1 := blk_frozen BK209.out 1)))
                    go_roundg k1
                    case measure => have := HK1.out; omega
                    case rel => exact ⟨(wrap64 (x12_1 + 1)), (by first | rfl | (simp; done) | (simp [*]; done)), H', ⟨by have := HK1.out; omega⟩, ⟨by repeat (first | (with_reducible first | exact HB.out | apply below_alloc | apply pw_below_drewN | apply below_drew1 | refine below_set ?_ GE209.out) | exact HB.out)⟩⟩
            · rw [if_neg c8] at H
              exact absurd H (by simp)
          · rw [if_neg c7] at H
            exact absurd H (by simp)
        · rw [if_neg c6] at H
          have c6b0 : decide (x12_1 < (l0.length : Int)) = false := decide_eq_false c6
          clear c6
          obtain rfl := Option.some.inj H
          go_wp2
          repeat (go_quiet (fail); try go_wp2)
          go_ret
          exact ⟨by first | rfl | (simp [errW_none, errW_some] <;> rfl) | (simp [*, errW_none, errW_some] <;> rfl), by repeat (first | (with_reducible first | exact HB.out | apply below_alloc | apply pw_below_drewN | apply below_drew1) | exact HB.out)⟩
  · replace c4 := Bool.eq_false_iff.mpr c4
    subst c4
    have H1 : (some false) = some r := by rw [if_neg (show ¬ (false = true) by decide)] at H; exact H
    clear H
    have H := H1
    clear H1
    obtain rfl := Option.some.inj H
    go_enter Try.func15, Try.ntmps15
    go_wp2_with (first | (go_at_call 25; (with_reducible refine (disk_Size.calls a1 false _ A3.out).mono ?_); rintro e w26 ⟨rfl, hb⟩; have n0_ := Aside0.mk (below_step (by repeat (first | (with_reducible first | exact HB.out | apply below_alloc | apply pw_below_drewN | apply below_drew1) | exact HB.out)) hb); clear HB; have HB := n0_; clear n0_; (try clear hb); (try clear hb2); (try clear hk); (try clear hi)))
    repeat (go_quiet (first | (go_at_call 25; (with_reducible refine (disk_Size.calls a1 false _ A3.out).mono ?_); rintro e w26 ⟨rfl, hb⟩; have n0_ := Aside0.mk (below_step (by repeat (first | (with_reducible first | exact HB.out | apply below_alloc | apply pw_below_drewN | apply below_drew1) | exact HB.out)) hb); clear HB; have HB := n0_; clear n0_; (try clear hb); (try clear hb2); (try clear hk); (try clear hi))); try go_wp2_with (first | (go_at_call 25; (with_reducible refine (disk_Size.calls a1 false _ A3.out).mono ?_); rintro e w26 ⟨rfl, hb⟩; have n0_ := Aside0.mk (below_step (by repeat (first | (with_reducible first | exact HB.out | apply below_alloc | apply pw_below_drewN | apply below_drew1) | exact HB.out)) hb); clear HB; have HB := n0_; clear n0_; (try clear hb); (try clear hb2); (try clear hk); (try clear hi))))
    go_ret
    exact ⟨by first | rfl | (simp [errW_none, errW_some] <;> rfl) | (simp [*, errW_none, errW_some] <;> rfl), by repeat (first | (with_reducible first | exact HB.out | apply below_alloc | apply pw_below_drewN | apply below_drew1) | exact HB.out)⟩

end Go.Proofs.Ytmheajenlhlbhaa.X

