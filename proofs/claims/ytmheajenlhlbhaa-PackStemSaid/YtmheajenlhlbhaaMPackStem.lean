/- The law PackStem of the given program returns true for every input and leaves its arguments as they were. No conditions beyond the given statement's own. -/
import Derived.Test.YtmheajenlhlbhaaM01
import Derived.WalkKit
import Derived.ProofKit
import Derived.OpenShut
import Derived.ShutString
import Derived.ChangeOld
import Derived.Below
import Derived.SizedLaws
import Derived.Deep.SlicePairs
import Derived.Test.YtmheajenlhlbhaaM10
import Derived.Test.YtmheajenlhlbhaaM02
import Derived.Test.YtmheajenlhlbhaaM03
import Derived.Test.YtmheajenlhlbhaaM09
import Derived.Test.YtmheajenlhlbhaaM11
import Derived.Test.YtmheajenlhlbhaaM12
import Derived.Test.YtmheajenlhlbhaaRows
-- An argument of type []api.Pair, opened.
namespace Go.Proofs.Ytmheajenlhlbhaa.X
open Go.ChangeShapes Go.WideShapes Go.ChangeAt Go.RowKit Go.Deep Go.Proofs.YtmheajenlhlbhaaW.PrintWords
/-- An argument '[]api.Pair' as a row of pairs. -/
theorem open_pairs {H : Type} {enc : TypeId × Value → H} {w : World} {base : Nat} {spare : Nat → Bool} {held : Bool} {t : TypeId} {v : Value} {d : DataW H} {ps : List MemPlace} {ts : List TypeId} {ds : List (DataW H)} {j : Nat}
    (hsz : (DataW.weightsEach Try.prog ts ds).all (· ≤ reachBytes) = true) (hj : ts[j]? = some t) (hd : ds[j]? = some d) (hu : Try.prog.underlying t = some (.slice 30))
    (hv : ∃ a n c, v = .slice a n c) (h : DataW.Trod enc Try.prog w base spare held t v d ps) :
    ∃ (A : Option Addr) (c : Nat) (l : List S30), v = .slice A l.length c ∧ Kd.C k30 w A l.length l ∧ l.length ≤ c := by
  obtain ⟨a0, n0, c0, rfl⟩ := hv
  obtain ⟨fuel, hf⟩ := h
  rcases open_slice_pairs hu Try.underlying30 (by kernel_rfl) rfl rfl (by kernel_rfl) (by kernel_rfl) hf with ⟨hcs, _⟩ | ⟨a, len, cap, m, n, V0, V1, D0, D1, P0, P1, hcs, _, hl, hm, hmm, hx, hcell⟩
  · simp [Value.cells] at hcs
    obtain ⟨rfl, rfl, rfl⟩ := hcs
    exact ⟨none, 0, [], rfl, ⟨rfl, by simp, fun h0 => absurd h0 (by simp)⟩, by simp⟩
  · simp [Value.cells] at hcs
    obtain ⟨rfl, rfl, rfl⟩ := hcs
    have hlm : n0 ≤ m := by rw [hmm]; split <;> omega
    have hstr : ∀ i, i < n0 → ∃ x : S30, w.cell? (a.add (i * 2)) = some (.string x.f0) ∧ w.cell? (a.add (i * 2 + 1)) = some (.string x.f1) := by
      intro i hi
      obtain ⟨e0, e1, t0, t1⟩ := hcell i (by omega)
      obtain ⟨s0, h0, _, _⟩ := DataW.trod_string Try.underlying9 t0
      obtain ⟨s1, h1, _, _⟩ := DataW.trod_string Try.underlying9 t1
      simp only [List.cons.injEq, and_true] at h0 h1
      exact ⟨⟨s0, s1⟩, by rw [e0, h0], by rw [e1, h1]⟩
    haveI : Inhabited S30 := ⟨z30⟩
    obtain ⟨f, hF⟩ := choose_lt hstr
    have hz := (Prod.mk.inj hx).1
    have hB : (n0 + (m - n0)) * Try.prog.bytesOf 30 ≤ reachBytes := by
      have := sized_slice hsz hj (by rw [hd, hz]) hu
      simpa using this
    have h47 := reachBytes_lt
    have hb30 : Try.prog.bytesOf 30 = 32 := by kernel_rfl
    rw [hb30] at hB
    refine ⟨some a, c0, (List.range n0).map f, by simp, ?_, by simpa using hl⟩
    refine ⟨by simp, by simp; omega, fun _ => ⟨a, rfl, fun j p hj => ?_⟩⟩
    have hjl : j < n0 := by
      have := (List.getElem?_eq_some_iff.mp hj).1
      simpa using this
    have hp : f j = p := by
      rw [List.getElem?_map, List.getElem?_range hjl] at hj
      simpa using hj
    subst hp
    refine ⟨[.string (f j).f0, .string (f j).f1], rfl, k30_mk _ _, fun i u hu => ?_⟩
    match i, hu with
    | 0, hu => cases hu; exact (hF j hjl).1
    | 1, hu => cases hu; exact (hF j hjl).2
end Go.Proofs.Ytmheajenlhlbhaa.X

-- Plain laws of a leaf's size: what a stem ahead of all keys adds, and what dropping the first item takes away.
namespace Go.Proofs.Ytmheajenlhlbhaa.X
open Go.RowKit Go.Proofs.YtmheajenlhlbhaaW.PrintWords Go.Proofs.YtmheajenlhlbhaaW.PrintLast Go.Proofs.YtmheajenlhlbhaaW.PrintMore

/-! ### texts -/
theorem bl_append (a b : ByteArray) : bl (a ++ b) = bl a ++ bl b := by
  unfold bl
  rw [ByteArray.data_append]
  simp
theorem common_app : ∀ (x a b : List Int), common (x ++ a) (x ++ b) = x.length + common a b
  | [], a, b => by simp
  | c :: x, a, b => by
    rw [List.cons_append, List.cons_append, common, if_pos rfl, common_app x a b, List.length_cons]
    omega
theorem bytesLess_app : ∀ (x a b : List UInt8), Op.bytesLess (x ++ a) (x ++ b) = Op.bytesLess a b
  | [], a, b => by simp
  | c :: x, a, b => by
    rw [List.cons_append, List.cons_append]
    simp [Op.bytesLess, bytesLess_app x a b]
theorem toList_append (a b : ByteArray) : (a ++ b).toList = a.toList ++ b.toList := by
  rw [ByteArray.toList_eq, ByteArray.toList_eq, ByteArray.toList_eq, ByteArray.data_append]
  simp
theorem less_app (t a b : ByteArray) : Op.bytesLess (t ++ a).toList (t ++ b).toList = Op.bytesLess a.toList b.toList := by
  rw [toList_append, toList_append, bytesLess_app]
theorem common_tri : ∀ (a b c : List Int) (n : Nat), n ≤ common a b → n ≤ common a c → n ≤ common b c
  | _, _, _, 0, _, _ => Nat.zero_le _
  | [], _, _, n + 1, h, _ => by simp [common] at h
  | x :: a, [], _, n + 1, h, _ => by simp [common] at h
  | x :: a, y :: b, [], n + 1, _, h => by simp [common] at h
  | x :: a, y :: b, z :: c, n + 1, h, h' => by
    rw [common] at h h' ⊢
    by_cases e : x = y
    · by_cases e' : x = z
      · rw [if_pos e] at h
        rw [if_pos e'] at h'
        rw [if_pos (e.symm.trans e')]
        have := common_tri a b c n (by omega) (by omega)
        omega
      · rw [if_neg e'] at h'
        omega
    · rw [if_neg e] at h
      omega

/-! ### spans -/
theorem mn_add (c a b : Int) : mn (c + a) (c + b) = c + mn a b := by unfold mn; split <;> split <;> omega
theorem leastI_add (c : Int) : ∀ (l : List Int) (a : Int), leastI (c + a) (l.map fun x => c + x) = c + leastI a l
  | [], a => rfl
  | b :: l, a => by
    have := leastI_add c l (mn a b)
    simp only [leastI, List.map_cons, List.foldl_cons] at this ⊢
    rw [mn_add, this]
theorem leastI_ge (n : Int) : ∀ (l : List Int) (a : Int), n ≤ a → (∀ x ∈ l, n ≤ x) → n ≤ leastI a l
  | [], a, h, _ => h
  | b :: l, a, h, hl => by
    have hb := hl b (List.mem_cons_self ..)
    exact leastI_ge n l (mn a b) (by unfold mn; split <;> omega) (fun x hx => hl x (List.mem_cons_of_mem _ hx))
theorem span_stem (t a : ByteArray) (r : List ByteArray) : spanN ((a :: r).map (t ++ ·)) = (t.size : Int) + spanN (a :: r) := by
  simp only [List.map_cons, spanN, List.map_map]
  rw [← leastI_add, List.map_map]
  congr 1
  · rw [ByteArray.size_append]; omega
  · apply List.map_congr_left
    intro b _
    simp only [Function.comp]
    rw [bl_append, bl_append, common_app, bl_length]
    omega
theorem span_drop (a b : ByteArray) (r : List ByteArray) : spanN (a :: b :: r) ≤ spanN (b :: r) := by
  have h0 := spanN_nonneg (a :: b :: r)
  have hall := leastI_le ((b :: r).map fun x => ((common (bl a) (bl x) : Nat) : Int)) (a.size : Int)
  have hx : ∀ x ∈ b :: r, spanN (a :: b :: r) ≤ ((common (bl a) (bl x) : Nat) : Int) := fun x hx => hall.2 _ (List.mem_map.mpr ⟨x, hx, rfl⟩)
  generalize spanN (a :: b :: r) = s at h0 hx ⊢
  have hb := hx b (List.mem_cons_self ..)
  show s ≤ leastI (b.size : Int) (r.map fun c => ((common (bl b) (bl c) : Nat) : Int))
  refine leastI_ge _ _ _ ?_ fun y hy => ?_
  · have := common_le_right (bl a) (bl b)
    rw [bl_length] at this
    omega
  · obtain ⟨c, hc, rfl⟩ := List.mem_map.mp hy
    have hcc := hx c (List.mem_cons_of_mem _ hc)
    have := common_tri (bl a) (bl b) (bl c) s.toNat (by omega) (by omega)
    omega

/-! ### what a leaf needs -/
def Good (x : S35) : Prop := x.f0.size ≤ 16 ∧ valOk x.f1 = true
def cellN (n : Nat) (x : S35) : Nat := 1 + (x.f0.size - n) + (valB x.f1).size
theorem putL_small (n : Nat) (h : n ≤ 240) : (putL n).length = 1 := by
  unfold putL
  rw [if_pos h]
  rfl
theorem cell_size (n : Nat) (x : S35) (h : Good x) : (itemCell (x.f0.extract n x.f0.size) x.f1).size = cellN n x := by
  have hs : (x.f0.extract n x.f0.size).size = x.f0.size - n := by rw [ByteArray.size_extract]; omega
  have h16 := h.1
  unfold itemCell cellN cellB textB
  rw [if_pos ⟨by omega, h.2⟩, ByteArray.size_append, ByteArray.size_append, strOfNums_size, hs, putL_small _ (by omega)]
def spanK (l : List S35) : Nat := (spanN (leafKeys l)).toNat
theorem need_eq (high : ByteArray) (x : S35) (r : List S35) (hg : ∀ y ∈ x :: r, Good y) (hh : high.size ≤ 240) :
    leafNeed high (x :: r) = 2 + spanK (x :: r) + high.size + (((x :: r).map (cellN (spanK (x :: r)))).sum) + 2 * (r.length + 2) := by
  have hx := hg x (List.mem_cons_self ..)
  have hsp : spanK (x :: r) ≤ x.f0.size := by
    have := spanN_le (leafKeys (x :: r)) x.f0 (by simp [leafKeys])
    have h0 := spanN_nonneg (leafKeys (x :: r))
    unfold spanK
    omega
  have hx16 := hx.1
  have hall : (stripAll (leafKeys (x :: r))).size = spanK (x :: r) := by
    have e : leafKeys (x :: r) = x.f0 :: leafKeys r := rfl
    unfold spanK at hsp ⊢
    rw [e] at hsp ⊢
    rw [stripAll, ByteArray.size_extract]
    omega
  have hcells : sizeSum (leafCells (x :: r)) = ((x :: r).map (cellN (spanK (x :: r)))).sum := by
    unfold spanK
    generalize x :: r = l at hg
    unfold sizeSum leafCells stripRest
    generalize (spanN (leafKeys l)).toNat = n
    unfold leafKeys
    rw [List.map_map, List.zipWith_map_left, List.zipWith_self, List.map_map]
    refine congrArg List.sum (List.map_congr_left fun y hy => ?_)
    exact cell_size n y (hg y hy)
  unfold leafNeed leafFixed
  rw [hcells, ByteArray.size_append, ByteArray.size_append, ByteArray.size_append, strOfNums_size, strOfNums_size, hall, putL_small _ (by omega), putL_small _ hh, List.length_cons]
  omega
/-- The same item, with a stem ahead of its key. -/
def stemI (t : ByteArray) (x : S35) : S35 := ⟨t ++ x.f0, x.f1⟩
theorem spanK_stem (t : ByteArray) (x : S35) (r : List S35) : spanK ((x :: r).map (stemI t)) = t.size + spanK (x :: r) := by
  have h0 := spanN_nonneg (leafKeys (x :: r))
  have : leafKeys ((x :: r).map (stemI t)) = (x.f0 :: leafKeys r).map (t ++ ·) := by simp [leafKeys, stemI]
  unfold spanK
  rw [this, span_stem]
  have e : leafKeys (x :: r) = x.f0 :: leafKeys r := rfl
  rw [e] at h0 ⊢
  omega
theorem need_stem (t h h' : ByteArray) (l : List S35) (hl : l ≠ []) (hg : ∀ y ∈ l, Good y) (hg' : ∀ y ∈ l, Good (stemI t y)) (hh : h.size ≤ 240) (hh' : h'.size ≤ 240) (hle : h.size ≤ h'.size) :
    leafNeed h l ≤ leafNeed h' (l.map (stemI t)) := by
  match l, hl with
  | x :: r, _ =>
    have e := need_eq h' (stemI t x) (r.map (stemI t)) (by
      intro y hy
      rw [← List.map_cons] at hy
      obtain ⟨z, hz, rfl⟩ := List.mem_map.mp hy
      exact hg' z hz) hh'
    rw [← List.map_cons] at e
    rw [need_eq h x r hg hh, e, spanK_stem, List.map_map, List.length_map]
    have : ((x :: r).map (cellN (t.size + spanK (x :: r)) ∘ stemI t)) = (x :: r).map (cellN (spanK (x :: r))) := by
      apply List.map_congr_left
      intro y _
      simp only [Function.comp, cellN, stemI, ByteArray.size_append]
      omega
    rw [this]
    omega
theorem cells_le (n n' : Nat) (h : n ≤ n') : ∀ (r : List S35), (r.map (cellN n')).sum ≤ (r.map (cellN n)).sum
  | [] => Nat.le_refl _
  | y :: r => by
    have := cells_le n n' h r
    simp only [List.map_cons, List.sum_cons, cellN] at this ⊢
    omega
theorem need_drop (h : ByteArray) (x y : S35) (r : List S35) (hg : ∀ z ∈ x :: y :: r, Good z) (hh : h.size ≤ 240) : leafNeed h (y :: r) ≤ leafNeed h (x :: y :: r) := by
  rw [need_eq h x (y :: r) hg hh, need_eq h y r (fun z hz => hg z (List.mem_cons_of_mem _ hz)) hh]
  have h1 : spanK (x :: y :: r) ≤ spanK (y :: r) := by
    have := span_drop x.f0 y.f0 (leafKeys r)
    unfold spanK
    have e : leafKeys (x :: y :: r) = x.f0 :: y.f0 :: leafKeys r := rfl
    have e' : leafKeys (y :: r) = y.f0 :: leafKeys r := rfl
    rw [e, e']
    omega
  have h2 : spanK (y :: r) ≤ y.f0.size := by
    have := spanN_le (leafKeys (y :: r)) y.f0 (by simp [leafKeys])
    unfold spanK
    have h0 := spanN_nonneg (leafKeys (y :: r))
    omega
  have h3 := cells_le _ _ h1 r
  simp only [List.map_cons, List.sum_cons, List.length_cons, cellN] at h3 ⊢
  omega
end Go.Proofs.Ytmheajenlhlbhaa.X

namespace Go.Proofs.Ytmheajenlhlbhaa.X
open Go.RowKit Go.Proofs.YtmheajenlhlbhaaW.PrintWords Go.Proofs.YtmheajenlhlbhaaW.PrintLast Go.Proofs.YtmheajenlhlbhaaW.PrintMore
attribute [local go_sem] max2_int min2_int max_two min_two max_three min_three max_four min_four   -- for this text's walks alone
set_option linter.unusedVariables false
set_option linter.unusedSimpArgs false

/-! ### withylaw16_PackStem: function 5 -/
mutual
def withylaw16_PackStem.l0 : Nat → List (S30) → ByteArray → List (S30) → Int → Option (Bool)
  | 0, _, _, _, _ => none
  | k + 1, x0, x1, x5, x6 => if x6 < (x0.length : Int) then (if 0 ≤ x6 then (if x1.size + ((rd_T30 x0 x6).f0).size ≤ 9223372036854775807 then (if x5.length < 4398046511104 then (withylaw16_PackStem.l0 k x0 x1 (x5 ++ [(⟨x1 ++ ((rd_T30 x0 x6).f0), (rd_T30 x0 x6).f1⟩ : S30)]) (wrap64 (x6 + 1))) else (none)) else (none)) else (none)) else ((pack_Right.f k x0 128).bind fun t284 => (if t284 = true then ((pack_Right.f k x5 128).bind fun t285 => (withylaw16_PackStem.j1 k x0 x1 x5 (!t285))) else (withylaw16_PackStem.j1 k x0 x1 x5 true)))
def withylaw16_PackStem.j1 : Nat → List (S30) → ByteArray → List (S30) → Bool → Option (Bool)
  | 0, _, _, _, _ => none
  | k + 1, x0, x1, x5, x50 => if x50 = true then (none) else ((pack_Items.f k x0 1 128).bind fun bt286 => ((pack_Items.f k x5 1 128).bind fun bt290 => ((pack_Group.f bt286.1 128).bind fun t294 => ((pack_Group.f bt290.1 128).bind fun t297 => (if (t294.length : Int) = 0 then (none) else (if (t297.length : Int) = 0 then (none) else (if x1.toList = ([] : List UInt8) then ((withyref01_Ints.f k t294 t297).bind fun t300 => (if t300 = true then (if (t297.length : Int) ≥ (t294.length : Int) then (if 0 < (t297.length : Int) then (if 0 < (t294.length : Int) then (if (rd t297 0) ≤ (rd t294 0) then ((withylaw16_fixed.f).bind fun t303 => (some t303)) else (none)) else (none)) else (none)) else (none)) else (none))) else (if (t297.length : Int) ≥ (t294.length : Int) then (if 0 < (t297.length : Int) then (if 0 < (t294.length : Int) then (if (rd t297 0) ≤ (rd t294 0) then ((withylaw16_fixed.f).bind fun t306 => (some t306)) else (none)) else (none)) else (none)) else (none)))))))))
end
def withylaw16_PackStem.f (k : Nat) (l0 : List (S30)) (a1 : ByteArray) : Option (Bool) := if 0 ≤ (mn (a1.size : Int) 8) then (if (mn (a1.size : Int) 8) ≤ (a1.size : Int) then ((withylaw16_Rise.f k l0 64).bind fun t273 => (withylaw16_PackStem.l0 k t273 (a1.extract 0 ((mn (a1.size : Int) 8) : Int).toNat) (([] : List (S30))) 0)) else (none)) else (none)
theorem withylaw16_PackStem.mono_l : ∀ k, (∀ y0 y1 y2 y3, LeO (withylaw16_PackStem.l0 k y0 y1 y2 y3) (withylaw16_PackStem.l0 (k + 1) y0 y1 y2 y3)) ∧ (∀ y0 y1 y2 y3, LeO (withylaw16_PackStem.j1 k y0 y1 y2 y3) (withylaw16_PackStem.j1 (k + 1) y0 y1 y2 y3))
  | 0 => ⟨fun _ _ _ _ r h => by simp [withylaw16_PackStem.l0] at h, fun _ _ _ _ r h => by simp [withylaw16_PackStem.j1] at h⟩
  | k + 1 => by
    obtain ⟨ih0, ih1⟩ := withylaw16_PackStem.mono_l k
    refine ⟨?_, ?_⟩
    · intro y0 y1 y2 y3
      unfold withylaw16_PackStem.l0
      repeat' first
      | (with_reducible exact ih0 _ _ _ _)
      | (with_reducible exact ih1 _ _ _ _)
      | (with_reducible exact pack_Items.mono _ _ _ _)
      | (with_reducible exact pack_Right.mono _ _ _)
      | (with_reducible exact withylaw16_Rise.mono _ _ _)
      | (with_reducible exact withyref01_Ints.mono _ _ _)
      | (with_reducible exact LeO.refl _)
      | (with_reducible exact LeO.none _)
      | (with_reducible refine LeO.ite ?_ ?_)
      | (with_reducible refine LeO.bind ?_ (fun _ => ?_))
      | exact ih0 _ _ _ _
      | exact ih1 _ _ _ _
      | exact pack_Items.mono _ _ _ _
      | exact pack_Right.mono _ _ _
      | exact withylaw16_Rise.mono _ _ _
      | exact withyref01_Ints.mono _ _ _
      | exact LeO.none _
      | refine LeO.ite ?_ ?_
      | refine LeO.bind ?_ (fun _ => ?_)
    · intro y0 y1 y2 y3
      unfold withylaw16_PackStem.j1
      repeat' first
      | (with_reducible exact ih0 _ _ _ _)
      | (with_reducible exact ih1 _ _ _ _)
      | (with_reducible exact pack_Items.mono _ _ _ _)
      | (with_reducible exact pack_Right.mono _ _ _)
      | (with_reducible exact withylaw16_Rise.mono _ _ _)
      | (with_reducible exact withyref01_Ints.mono _ _ _)
      | (with_reducible exact LeO.refl _)
      | (with_reducible exact LeO.none _)
      | (with_reducible refine LeO.ite ?_ ?_)
      | (with_reducible refine LeO.bind ?_ (fun _ => ?_))
      | exact ih0 _ _ _ _
      | exact ih1 _ _ _ _
      | exact pack_Items.mono _ _ _ _
      | exact pack_Right.mono _ _ _
      | exact withylaw16_Rise.mono _ _ _
      | exact withyref01_Ints.mono _ _ _
      | exact LeO.none _
      | refine LeO.ite ?_ ?_
      | refine LeO.bind ?_ (fun _ => ?_)
theorem withylaw16_PackStem.mono : ∀ a0 a1 k, LeO (withylaw16_PackStem.f k a0 a1) (withylaw16_PackStem.f (k + 1) a0 a1) := by
  intro a0 a1 k
  obtain ⟨ih0, ih1⟩ := withylaw16_PackStem.mono_l k
  unfold withylaw16_PackStem.f
  repeat' first
      | (with_reducible exact ih0 _ _ _ _)
      | (with_reducible exact ih1 _ _ _ _)
      | (with_reducible exact pack_Items.mono _ _ _ _)
      | (with_reducible exact pack_Right.mono _ _ _)
      | (with_reducible exact withylaw16_Rise.mono _ _ _)
      | (with_reducible exact withyref01_Ints.mono _ _ _)
      | (with_reducible exact LeO.refl _)
      | (with_reducible exact LeO.none _)
      | (with_reducible refine LeO.ite ?_ ?_)
      | (with_reducible refine LeO.bind ?_ (fun _ => ?_))
      | exact ih0 _ _ _ _
      | exact ih1 _ _ _ _
      | exact pack_Items.mono _ _ _ _
      | exact pack_Right.mono _ _ _
      | exact withylaw16_Rise.mono _ _ _
      | exact withyref01_Ints.mono _ _ _
      | exact LeO.none _
      | refine LeO.ite ?_ ?_
      | refine LeO.bind ?_ (fun _ => ?_)
def withylaw16_PackStem.T7 : Bool × List (List Nat × List Nat) := (true, [([], []), ([], []), ([], []), ([], []), ([2, 3], [2, 3]), ([4], [4]), ([5], [5]), ([1, 6], [1, 6]), ([], []), ([], []), ([8, 9], [8, 9]), ([10], [10]), ([11], [11]), ([7, 12], [7, 12]), ([13], [13]), ([0, 14], [0, 14]), ([15, 15, 0, 1, 2, 3, 4, 5, 6, 7, 8, 9, 10, 11, 12, 13, 14, 15], [0, 15])])
def withylaw16_PackStem.B7 : List Nat := [0, 0, 0, 0, 12, 28, 60, 126, 0, 0, 768, 1792, 3840, 8190, 16382, 32767, 65535]
theorem withylaw16_PackStem.tab7 : rtab .any (opsOf Try.f5 7) = withylaw16_PackStem.T7 := by kernel_rfl
theorem withylaw16_PackStem.bits7 : waitsOk withylaw16_PackStem.T7.2 withylaw16_PackStem.B7 = true := by kernel_rfl
def withylaw16_PackStem.T15 : Bool × List (List Nat × List Nat) := (true, [([], []), ([0], [0]), ([], []), ([2], [2]), ([1, 3], [1, 3]), ([4], [4]), ([5], [5]), ([6, 5], [5, 6]), ([7, 5], [5, 7]), ([5], [5]), ([9, 5], [5, 9]), ([10, 5], [5, 10]), ([8, 11, 5], [5, 8, 11]), ([5, 12], [5, 12]), ([13, 5], [13]), ([14, 14], [14]), ([14, 15], [14, 15]), ([16, 15, 0, 1, 2, 3, 4, 5, 6, 7, 8, 9, 10, 11, 12, 13, 14, 15, 16], [16])])
def withylaw16_PackStem.B15 : List Nat := [0, 1, 0, 4, 15, 31, 63, 127, 255, 63, 575, 1599, 4095, 8191, 16383, 32767, 65535, 131071]
theorem withylaw16_PackStem.tab15 : rtab .any (opsOf Try.f5 15) = withylaw16_PackStem.T15 := by kernel_rfl
theorem withylaw16_PackStem.bits15 : waitsOk withylaw16_PackStem.T15.2 withylaw16_PackStem.B15 = true := by kernel_rfl
set_option maxHeartbeats 8000000 in
set_option maxRecDepth 100000 in
theorem withylaw16_PackStem.calls (k : Nat) (A0 : Option Addr) (c0 : Nat) (l0 : List (S30)) (a1 : ByteArray) (r : Bool) (w : World) (hr0 : Kd.C k30 w A0 l0.length l0) (hc0 : l0.length ≤ c0) (h : withylaw16_PackStem.f k l0 a1 = some r) :
    Calls Try.prog 5 #[.slice A0 l0.length c0, .string a1] w fun e w' => e = .returned (.bool r) ∧ Below w.heap.size w w' := by
  have hu30 := Try.underlying30
  have HR0 := Aside0.mk hr0
  have HC0 := Aside0.mk hc0
  clear hr0 hc0
  have HB := Aside0.mk (Below.refl w.heap.size w)
  have H : (if 0 ≤ (mn (a1.size : Int) 8) then (if (mn (a1.size : Int) 8) ≤ (a1.size : Int) then ((withylaw16_Rise.f k l0 64).bind fun t273 => (withylaw16_PackStem.l0 k t273 (a1.extract 0 ((mn (a1.size : Int) 8) : Int).toNat) (([] : List (S30))) 0)) else (none)) else (none)) = some r := h
  clear h
  obtain ⟨ji3, hji3⟩ : ∃ j_ : Int, (mn (a1.size : Int) 8) = j_ := ⟨_, rfl⟩
  replace H : (if 0 ≤ (ji3) then (if (ji3) ≤ (a1.size : Int) then ((withylaw16_Rise.f k l0 64).bind fun t273 => (withylaw16_PackStem.l0 k t273 (a1.extract 0 ((ji3) : Int).toNat) (([] : List (S30))) 0)) else (none)) else (none)) = some r := by first | (rw [hji3] at H; exact H) | (simp only [hji3] at H ⊢; exact H)
  (try (have hji3h : ji3 ≤ 8 := by (rw [← hji3]; unfold mn; (repeat' split) <;> omega)))
  (try (have hji3g : ji3 ≤ 64 := by omega))
  (try (have hji3l : 0 ≤ ji3 := by (rw [← hji3]; unfold mn; (repeat' split) <;> omega)))
  (try (have hji3m : 0 ≤ ji3 := by omega))
  have hji3_ : (if 8 < (a1.size : Int) then 8 else (a1.size : Int)) = ji3 := hji3
  by_cases c4 : 0 ≤ (ji3)
  · rw [if_pos c4] at H
    have c4b0 := eq_true c4
    have c4b1 : decide (0 ≤ (ji3)) = true := decide_eq_true c4
    clear c4
    by_cases c5 : (ji3) ≤ (a1.size : Int)
    · rw [if_pos c5] at H
      have c5b0 := eq_true c5
      have c5b1 : decide ((ji3) ≤ (a1.size : Int)) = true := decide_eq_true c5
      clear c5
      replace H := Option.bind_eq_some_iff.mp H
      obtain ⟨t273, A60, H⟩ := H
      replace H : (withylaw16_PackStem.l0 k t273 (a1.extract 0 ((ji3) : Int).toNat) (([] : List (S30))) 0) = some r := H
      have A6 := Aside0.mk A60
      clear A60
      obtain ⟨y276, hy276⟩ : ∃ y_ : List (S30), y_ = (([] : List (S30))) := ⟨_, rfl⟩
      replace H : (withylaw16_PackStem.l0 k t273 (a1.extract 0 ((ji3) : Int).toNat) y276 0) = some r := by first | (rw [hy276]; with_reducible exact H) | (have H2_ := (Option.bind_some _ _).symm.trans H; rw [hy276]; with_reducible exact H2_) | (have H2_ := (Option.bind_some _ _).symm.trans H; with_reducible exact H2_) | with_reducible exact H | (rw [hy276]; exact H) | exact H
      have Ny276 := Aside0.mk hy276
      clear hy276
      have H' := Aside0.mk H
      clear H
      go_enter Try.func5, Try.ntmps5
      go_wp2_with (first | ((with_reducible refine gate_callee (f := 8) rfl ?_); refine goesL_ (some 19) rfl rfl Try.func8 (by kernel_rfl) rfl #[.slice A0 l0.length c0, .int .i64 64] rfl (by (try simp only [List.map_toArray, List.map_cons, List.map_nil]); first | done | rfl | (simp only [List.length_drop, List.length_take]; rfl)) ?_; (with_reducible refine (withylaw16_Rise.calls k _ _ l0 64 t273 _ ?side1 ?side2 A6.out).mono ?_); (case side1 => repeat (first | exact HR0.out | (with_reducible refine Kd.C_alloc ?_ _) | (with_reducible refine Kd.C_drewN ?_ _) | (with_reducible refine Kd.C_drew ?_))); (case side2 => exact HC0.out); rintro e w7 ⟨v274, rfl, ho0, hb⟩; refine ⟨_, rfl, ?_⟩; have n0_ := Aside0.mk (Kd.R_lower ho0 (below_size (by repeat (first | (with_reducible first | exact HB.out | apply below_alloc | apply pw_below_drewN | apply below_drew1) | exact HB.out)))); have n1_ := Aside0.mk (below_step (by repeat (first | (with_reducible first | exact HB.out | apply below_alloc | apply pw_below_drewN | apply below_drew1) | exact HB.out)) hb); clear HB; have HO275 := n0_; have HB := n1_; clear n0_ n1_; (try clear hb); (try clear hb2); (try clear hk); (try clear hi); (try clear ho0)) | ((with_reducible refine gate_dst (N := 20) rfl ?_); (try (refine gate_guard (by rfl) ?_; dsimp only)); refine Kd.R_lit k30 _ 30 ?hg (N := 20) ?hd (xs := ([] : List (S30))) (inner := []) (ok := fun _ => True) (okp := fun _ => True) ?hr ?hp (fun _ hk => hk) trivial (Below.refl _ _) (Nat.le_refl _) (by simp) ?_; (case hd => rfl); (case hg => rfl); (case hr => first | (go_simp; done) | (go_simp; rfl)); (case hp => exact (Reps.none _ _)); intro v277 w8 ho9 hb hg_ hnew_; clear hg_ hnew_; (first | rw [← Ny276.out] at ho9 | (simp only [Int.reduceToNat] at ho9; rw [← Ny276.out] at ho9)); have n0_ := Aside0.mk (Kd.R_elder' (by (with_reducible repeat (first | apply Kd.R_alloc | apply Kd.R_drewN | apply Kd.R_drew)); exact HO275.out) (Kd.R_base ho9) hb); have n1_ := Aside0.mk (Kd.R_lower (Kd.R_new' ho9 (Kd.R_lt (by (with_reducible repeat (first | apply Kd.R_alloc | apply Kd.R_drewN | apply Kd.R_drew)); exact HO275.out))) (below_size (by repeat (first | (with_reducible first | exact HB.out | apply below_alloc | apply pw_below_drewN | apply below_drew1) | exact HB.out)))); have n2_ := Aside0.mk (below_step (by repeat (first | (with_reducible first | exact HB.out | apply below_alloc | apply pw_below_drewN | apply below_drew1) | exact HB.out)) hb); clear HO275; clear HB; have HO275 := n0_; have HO278 := n1_; have HB := n2_; clear n0_ n1_ n2_; clear hb ho9))
      go_loopg [5, 6] k (fun kq v5 v6 w' => ∃ (x5_1 : List (S30)) (x6_1 : Int), v6 = .int .i64 x6_1 ∧ Aside0 (withylaw16_PackStem.l0 kq t273 (a1.extract 0 ((ji3) : Int).toNat) x5_1 x6_1 = some r) ∧ Aside0 (kq ≤ k) ∧ Aside0 (Kd.R k30 30 w' w.heap.size (fun k_ => some k_ ≠ (v5 : Value).ownBlock) v274 t273) ∧ Aside0 (Kd.R k30 30 w' w.heap.size (fun k_ => some k_ ≠ (v274 : Value).ownBlock) v5 x5_1) ∧ Aside0 (Below w.heap.size w w'))
      case atStart => exact ⟨(y276), (0), (by first | rfl | (simp; done) | (simp [*]; done)), H', ⟨Nat.le_refl _⟩, ⟨by (with_reducible repeat (first | apply Kd.R_alloc | apply Kd.R_drewN | apply Kd.R_drew)); exact Kd.R_mono HO275.out (fun _ hk => hk.2)⟩, ⟨by (with_reducible repeat (first | apply Kd.R_alloc | apply Kd.R_drewN | apply Kd.R_drew)); exact Kd.R_mono HO278.out (fun _ hk => hk.2)⟩, ⟨by repeat (first | (with_reducible first | exact HB.out | apply below_alloc | apply pw_below_drewN | apply below_drew1) | exact HB.out)⟩⟩
      case round =>
        clear H'
        try clear p2
        try clear c4
        try clear c4b0
        try clear c4b1
        try clear c5
        try clear c5b0
        try clear c5b1
        try clear c8
        obtain ⟨x5_1, x6_1, rfl, HA, HK1, HO_0, HO_5, HB⟩ := hrel
        cases gk with
        | zero => exact absurd HA.out (by simp [withylaw16_PackStem.l0])
        | succ k1 =>
          have H := HA.out
          clear HA
          simp only [withylaw16_PackStem.l0] at H
          by_cases c10 : x6_1 < (t273.length : Int)
          · rw [if_pos c10] at H
            have c10b0 : decide (x6_1 < (t273.length : Int)) = true := decide_eq_true c10
            clear c10
            by_cases c11 : 0 ≤ x6_1
            · rw [if_pos c11] at H
              have c11b0 : decide (0 ≤ x6_1) = true := decide_eq_true c11
              clear c11
              by_cases c12 : (a1.extract 0 ((ji3) : Int).toNat).size + ((rd_T30 t273 x6_1).f0).size ≤ 9223372036854775807
              · rw [if_pos c12] at H
                have c12b0 := eq_true c12
                have c12b1 : decide ((a1.extract 0 ((ji3) : Int).toNat).size + ((rd_T30 t273 x6_1).f0).size ≤ 9223372036854775807) = true := decide_eq_true c12
                try have c12b2 : (9223372036854775807 < (a1.extract 0 ((ji3) : Int).toNat).size + ((rd_T30 t273 x6_1).f0).size) = False := eq_false (Nat.not_lt.2 c12)
                try have c12b3 := c12b2; try simp only [ByteArray.size_append, ByteArray.size_extract, Nat.sub_zero] at c12b3
                by_cases c13 : x5_1.length < 4398046511104
                · rw [if_pos c13] at H
                  have LMc13 := Aside0.mk c13
                  clear c13
                  obtain ⟨y281, hy281⟩ : ∃ y_ : List (S30), y_ = (x5_1 ++ [(⟨(a1.extract 0 ((ji3) : Int).toNat) ++ ((rd_T30 t273 x6_1).f0), (rd_T30 t273 x6_1).f1⟩ : S30)]) := ⟨_, rfl⟩
                  replace H : (withylaw16_PackStem.l0 k1 t273 (a1.extract 0 ((ji3) : Int).toNat) y281 (wrap64 (x6_1 + 1))) = some r := by first | (rw [hy281]; with_reducible exact H) | (have H2_ := (Option.bind_some _ _).symm.trans H; rw [hy281]; with_reducible exact H2_) | (have H2_ := (Option.bind_some _ _).symm.trans H; with_reducible exact H2_) | with_reducible exact H | (rw [hy281]; exact H) | exact H
                  have Ny281 := Aside0.mk hy281
                  clear hy281
                  have H' := Aside0.mk H
                  clear H
                  obtain ⟨Ao14, co14, eo14⟩ := Kd.R_slice HO_0.out
                  subst eo14
                  try go_wp2
                  have n0_ := Aside0.mk (Kd.R_drew HO_0.out)
                  have n1_ := Aside0.mk (Kd.R_drew HO_5.out)
                  have n2_ := Aside0.mk (below_drew1 HB.out)
                  clear HO_0
                  clear HO_5
                  clear HB
                  have HO_0 := n0_
                  have HO_5 := n1_
                  have HB := n2_
                  clear n0_ n1_ n2_
                  have p279 : 0 ≤ (x6_1 : Int) := of_decide_eq_true (by first | (with_reducible assumption) | assumption)
                  have q279 : x6_1 < (t273.length : Int) := of_decide_eq_true (by first | (with_reducible assumption) | assumption)
                  obtain ⟨ad279, e279, hx279_0, hx279_1⟩ := at_T30 (Kd.R_reads' HO_0.out).2.2 x6_1 p279 q279
                  cases e279
                  replace p279 := eq_true p279
                  replace q279 := eq_true q279
                  have p280 : 0 ≤ (x6_1 : Int) := of_decide_eq_true (by first | (with_reducible assumption) | assumption)
                  have q280 : x6_1 < (t273.length : Int) := of_decide_eq_true (by first | (with_reducible assumption) | assumption)
                  obtain ⟨ad280, e280, hx280_0, hx280_1⟩ := at_T30 (Kd.R_reads' HO_0.out).2.2 x6_1 p280 q280
                  obtain rfl : ad279 = ad280 := (by injection e280)
                  replace p280 := eq_true p280
                  replace q280 := eq_true q280
                  refine start_ (n := 17) (S := fun w' => w'.cell? (ad279.add ((x6_1).toNat * 2)) = some (.string ((rd_T30 t273 x6_1).f0)) ∧ w'.cell? ⟨(ad279.add ((x6_1).toNat * 2)).block, (ad279.add ((x6_1).toNat * 2)).off + 1, none⟩ = some (.string ((rd_T30 t273 x6_1).f1)) ∧ w'.cell? (ad279.add ((x6_1).toNat * 2)) = some (.string ((rd_T30 t273 x6_1).f0)) ∧ w'.cell? ⟨(ad279.add ((x6_1).toNat * 2)).block, (ad279.add ((x6_1).toNat * 2)).off + 1, none⟩ = some (.string ((rd_T30 t273 x6_1).f1))) (ds := [14, 15]) #[false, false, false, false, false, false, false, false, false, false, false, false, false, false, false, false, false] (by kernel_rfl) rfl rfl ⟨hx279_0, hx279_1, hx280_0, hx280_1⟩ (fun hHeld => ?_); refine with_tabW withylaw16_PackStem.tab7 withylaw16_PackStem.bits7 (fun HT_ HW_ => ?_)
                  generalize wr.drew = w15 at HO_0 HO_5 HB hx279_0 hx279_1 hx280_0 hx280_1 hHeld ⊢
                  refine pure_ (i := 0) (N := some 27) (v := ?_) (a' := ?_) #[true, false, false, false, false, false, false, false, false, false, false, false, false, false, false, false, false] rfl rfl (any_of HT_.out (by kernel_rfl)) (fun _ _ _ h => h) (Or.inl ⟨by rfl, ?_⟩) ?_ ?_
                  rotate_left
                  · intro w'
                    go_simp
                    with_reducible rfl
                  rotate_left
                  · simp only [Act.put, List.setIfInBounds_toArray, List.set_cons_zero, List.set_cons_succ, i64_w, i32_w]
                    rfl
                  refine pure_ (i := 1) (N := some 28) (v := ?_) (a' := ?_) #[true, true, false, false, false, false, false, false, false, false, false, false, false, false, false, false, false] rfl rfl (any_of HT_.out (by kernel_rfl)) (fun _ _ _ h => h) (Or.inl ⟨by rfl, ?_⟩) ?_ ?_
                  rotate_left
                  · intro w'
                    go_simp
                    with_reducible rfl
                  rotate_left
                  · simp only [Act.put, List.setIfInBounds_toArray, List.set_cons_zero, List.set_cons_succ, i64_w, i32_w]
                    rfl
                  refine pure_ (i := 2) (N := some 29) (v := ?_) (a' := ?_) #[true, true, true, false, false, false, false, false, false, false, false, false, false, false, false, false, false] rfl rfl (any_of HT_.out (by kernel_rfl)) (fun _ _ _ h => h) (Or.inl ⟨by rfl, ?_⟩) ?_ ?_
                  rotate_left
                  · intro w'
                    go_simp
                    with_reducible rfl
                  rotate_left
                  · simp only [Act.put, List.setIfInBounds_toArray, List.set_cons_zero, List.set_cons_succ, i64_w, i32_w]
                    rfl
                  refine pure_ (i := 3) (N := some 30) (v := ?_) (a' := ?_) #[true, true, true, true, false, false, false, false, false, false, false, false, false, false, false, false, false] rfl rfl (any_of HT_.out (by kernel_rfl)) (fun _ _ _ h => h) (Or.inl ⟨by rfl, ?_⟩) ?_ ?_
                  rotate_left
                  · intro w'
                    go_simp
                    with_reducible rfl
                  rotate_left
                  · simp only [Act.put, List.setIfInBounds_toArray, List.set_cons_zero, List.set_cons_succ, i64_w, i32_w]
                    rfl
                  refine pure_ (i := 4) (N := some 31) (v := ?_) (a' := ?_) #[true, true, true, true, true, false, false, false, false, false, false, false, false, false, false, false, false] rfl rfl (any_of HT_.out (by kernel_rfl)) (fun _ _ _ h => h) (Or.inl ⟨by rfl, ?_⟩) ?_ ?_
                  rotate_left
                  · intro w'
                    go_simp
                    with_reducible rfl
                  rotate_left
                  · simp only [Act.put, List.setIfInBounds_toArray, List.set_cons_zero, List.set_cons_succ, i64_w, i32_w]
                    rfl
                  refine pure_ (i := 5) (N := some 32) (v := ?_) (a' := ?_) #[true, true, true, true, true, true, false, false, false, false, false, false, false, false, false, false, false] rfl rfl (any_of HT_.out (by kernel_rfl)) (fun _ _ _ h => h) (Or.inl ⟨by rfl, ?_⟩) ?_ ?_
                  rotate_left
                  · intro w'
                    go_simp
                    with_reducible rfl
                  rotate_left
                  · simp only [Act.put, List.setIfInBounds_toArray, List.set_cons_zero, List.set_cons_succ, i64_w, i32_w]
                    rfl
                  refine pure_ (i := 8) (N := some 35) (v := ?_) (a' := ?_) #[true, true, true, true, true, true, false, false, true, false, false, false, false, false, false, false, false] rfl rfl (any_of HT_.out (by kernel_rfl)) (fun _ _ _ h => h) (Or.inl ⟨by rfl, ?_⟩) ?_ ?_
                  rotate_left
                  · intro w'
                    go_simp
                    with_reducible rfl
                  rotate_left
                  · simp only [Act.put, List.setIfInBounds_toArray, List.set_cons_zero, List.set_cons_succ, i64_w, i32_w]
                    rfl
                  refine pure_ (i := 9) (N := some 36) (v := ?_) (a' := ?_) #[true, true, true, true, true, true, false, false, true, true, false, false, false, false, false, false, false] rfl rfl (any_of HT_.out (by kernel_rfl)) (fun _ _ _ h => h) (Or.inl ⟨by rfl, ?_⟩) ?_ ?_
                  rotate_left
                  · intro w'
                    go_simp
                    with_reducible rfl
                  rotate_left
                  · simp only [Act.put, List.setIfInBounds_toArray, List.set_cons_zero, List.set_cons_succ, i64_w, i32_w]
                    rfl
                  refine pure_ (i := 10) (N := some 37) (v := ?_) (a' := ?_) #[true, true, true, true, true, true, false, false, true, true, true, false, false, false, false, false, false] rfl rfl (any_of HT_.out (by kernel_rfl)) (fun _ _ _ h => h) (Or.inl ⟨by rfl, ?_⟩) ?_ ?_
                  rotate_left
                  · intro w'
                    go_simp
                    with_reducible rfl
                  rotate_left
                  · simp only [Act.put, List.setIfInBounds_toArray, List.set_cons_zero, List.set_cons_succ, i64_w, i32_w]
                    rfl
                  refine pure_ (i := 11) (N := some 38) (v := ?_) (a' := ?_) #[true, true, true, true, true, true, false, false, true, true, true, true, false, false, false, false, false] rfl rfl (any_of HT_.out (by kernel_rfl)) (fun _ _ _ h => h) (Or.inl ⟨by rfl, ?_⟩) ?_ ?_
                  rotate_left
                  · intro w'
                    go_simp
                    with_reducible rfl
                  rotate_left
                  · simp only [Act.put, List.setIfInBounds_toArray, List.set_cons_zero, List.set_cons_succ, i64_w, i32_w]
                    rfl
                  refine take_ (i := 6) (N := some 33) (v := ?_) (a' := ?_) #[true, true, true, true, true, true, true, false, true, true, true, true, false, false, false, false, false] rfl rfl (take_ofW HT_.out HW_.out (by kernel_rfl)) (fun _ _ _ h => h) (Or.inl ⟨by rfl, ?_⟩) hHeld ?_ ?_
                  rotate_left
                  · rintro w' ⟨s0, s1, s2, s3⟩
                    go_simp
                    with_reducible rfl
                  rotate_left
                  · simp only [Act.put, List.setIfInBounds_toArray, List.set_cons_zero, List.set_cons_succ, i64_w, i32_w]
                    rfl
                  refine pure_ (i := 7) (N := some 34) (v := ?_) (a' := ?_) #[true, true, true, true, true, true, true, true, true, true, true, true, false, false, false, false, false] rfl rfl (any_of HT_.out (by kernel_rfl)) (fun _ _ _ h => h) (Or.inl ⟨by rfl, ?_⟩) ?_ ?_
                  rotate_left
                  · intro w'
                    go_simp
                    with_reducible rfl
                  rotate_left
                  · simp only [Act.put, List.setIfInBounds_toArray, List.set_cons_zero, List.set_cons_succ, i64_w, i32_w]
                    rfl
                  refine take_ (i := 12) (N := some 39) (v := ?_) (a' := ?_) #[true, true, true, true, true, true, true, true, true, true, true, true, true, false, false, false, false] rfl rfl (take_ofW HT_.out HW_.out (by kernel_rfl)) (fun _ _ _ h => h) (Or.inl ⟨by rfl, ?_⟩) hHeld ?_ ?_
                  rotate_left
                  · rintro w' ⟨s0, s1, s2, s3⟩
                    go_simp
                    with_reducible rfl
                  rotate_left
                  · simp only [Act.put, List.setIfInBounds_toArray, List.set_cons_zero, List.set_cons_succ, i64_w, i32_w]
                    rfl
                  refine pure_ (i := 13) (N := some 40) (v := ?_) (a' := ?_) #[true, true, true, true, true, true, true, true, true, true, true, true, true, true, false, false, false] rfl rfl (any_of HT_.out (by kernel_rfl)) (fun _ _ _ h => h) (Or.inl ⟨by rfl, ?_⟩) ?_ ?_
                  rotate_left
                  · intro w'
                    go_simp
                    with_reducible rfl
                  rotate_left
                  · simp only [Act.put, List.setIfInBounds_toArray, List.set_cons_zero, List.set_cons_succ, i64_w, i32_w]
                    rfl
                  refine last_ (i := 14) (N := some 41) #[true, true, true, true, true, true, true, true, true, true, true, true, true, true, true, false, false] rfl rfl (one_of HT_.out (by kernel_rfl)) (by decide) (fun K hK => ?_)
                  refine value_ (w1 := ?_) (v := ?_) (by rfl) rfl ?_ ?_
                  rotate_left 2
                  · go_simp
                    constructor
                    · rfl
                    · rfl
                  refine hK.out _ _ ?_
                  clear hK K
                  refine norm_ (a' := ?_) ?_ ?_
                  rotate_left
                  · show Act.put _ (some 41) _ = _
                    simp only [Act.put, List.setIfInBounds_toArray, List.set_cons_zero, List.set_cons_succ, i64_w, i32_w]
                    rfl
                  refine last_ (i := 15) (N := some 42) #[true, true, true, true, true, true, true, true, true, true, true, true, true, true, true, true, false] rfl rfl (one_of HT_.out (by kernel_rfl)) (by decide) (fun K hK => ?_)
                  refine Kd.R_append_step k30 (w0 := w) w.heap.size (by rfl) (.tmp 27) (.tmp 41) 22 30 (.agg #[(.string ⟨#[]⟩), (.string ⟨#[]⟩)]) 32 rfl Try.underlying22 info30 rfl (by decide) (by omega) u5 x5_1 (⟨(a1.extract 0 ((ji3) : Int).toNat) ++ ((rd_T30 t273 x6_1).f0), (rd_T30 t273 x6_1).f1⟩ : S30) [.string ((a1.extract 0 ((ji3) : Int).toNat) ++ ((rd_T30 t273 x6_1).f0)), .string ((rd_T30 t273 x6_1).f1)] (fun k_ => some k_ ≠ (.slice (some ad279) t273.length co14 : Value).ownBlock) (fun _ => False) rfl rfl ?aP (fun _ hk => hk.elim) ?aF ?aO ?aB ?aS ?aL ?_
                  (case aP => exact k30_mkM _ _ _ (⟨(a1.extract 0 ((ji3) : Int).toNat) ++ ((rd_T30 t273 x6_1).f0), (rd_T30 t273 x6_1).f1⟩ : S30))
                  (case aB => exact (by repeat (first | (with_reducible first | exact HB.out | apply below_alloc | apply pw_below_drewN | apply below_drew1) | exact HB.out)))
                  (case aF => exact (fun k_ hk => Kd.fresh' (Kd.R_lt (by (with_reducible repeat (first | apply Kd.R_alloc | apply Kd.R_drewN | apply Kd.R_drew)); exact HO_0.out)) k_ hk))
                  (case aO => exact (by (with_reducible repeat (first | apply Kd.R_alloc | apply Kd.R_drewN | apply Kd.R_drew)); exact HO_5.out))
                  (case aS => exact (below_size (by repeat (first | (with_reducible first | exact HB.out | apply below_alloc | apply pw_below_drewN | apply below_drew1) | exact HB.out))))
                  (case aL => have := LMc13.out; omega)
                  intro v282 w16 ho hb hg hat
                  rw [← Ny281.out] at ho
                  have n0_ := Aside0.mk (Kd.R_after (ok := (fun _ => True)) (by (with_reducible repeat (first | apply Kd.R_alloc | apply Kd.R_drewN | apply Kd.R_drew)); exact Kd.R_mono HO_0.out (fun _ hk => ⟨trivial, hk⟩)) hg hat)
                  have n1_ := Aside0.mk (hb)
                  have n2_ := Aside0.mk (ho)
                  clear HO_0
                  clear HB
                  clear HO_5
                  have HO_0 := n0_
                  have HB := n1_
                  have HO283 := n2_
                  clear n0_ n1_ n2_
                  clear ho hb hg hat
                  refine hK.out _ _ ?_
                  clear hK K
                  refine norm_ (a' := ?_) ?_ ?_
                  rotate_left
                  · show Act.put _ (some 42) _ = _
                    simp only [Act.put, List.setIfInBounds_toArray, List.set_cons_zero, List.set_cons_succ, i64_w, i32_w]
                    rfl
                  refine pure_ (i := 16) (N := some 5) (v := ?_) (a' := ?_) #[true, true, true, true, true, true, true, true, true, true, true, true, true, true, true, true, true] rfl rfl (any_of HT_.out (by kernel_rfl)) (fun _ _ _ h => h) (Or.inl ⟨by rfl, ?_⟩) ?_ ?_
                  rotate_left
                  · intro w'
                    go_simp
                    with_reducible rfl
                  rotate_left
                  · simp only [Act.put, List.setIfInBounds_toArray, List.set_cons_zero, List.set_cons_succ, i64_w, i32_w]
                    rfl
                  refine done_ (done_of HT_.out (by kernel_rfl)) ?_
                  try go_wp2
                  go_roundg k1
                  case measure => have := HK1.out; omega
                  case rel => exact ⟨(y281), (wrap64 (x6_1 + 1)), (by first | rfl | (simp; done) | (simp [*]; done)), H', ⟨by have := HK1.out; omega⟩, ⟨by (with_reducible repeat (first | apply Kd.R_alloc | apply Kd.R_drewN | apply Kd.R_drew)); exact Kd.R_mono HO_0.out (fun _ hk => hk.2)⟩, ⟨by (with_reducible repeat (first | apply Kd.R_alloc | apply Kd.R_drewN | apply Kd.R_drew)); exact HO283.out⟩, ⟨by repeat (first | (with_reducible first | exact HB.out | apply below_alloc | apply pw_below_drewN | apply below_drew1) | exact HB.out)⟩⟩
                · rw [if_neg c13] at H
                  exact absurd H (by simp)
              · rw [if_neg c12] at H
                exact absurd H (by simp)
            · rw [if_neg c11] at H
              exact absurd H (by simp)
          · rw [if_neg c10] at H
            have c10b0 : decide (x6_1 < (t273.length : Int)) = false := decide_eq_false c10
            clear c10
            have HC17 := Aside0.mk H
            clear H
            obtain ⟨Ao18, co18, eo18⟩ := Kd.R_slice HO_0.out
            subst eo18
            go_upto_region 8 with (fail)
            go_cut [50] (fun v50 wc => ∃ (kq : Nat) (x50_16 : Bool), v50 = .bool x50_16 ∧ Aside0 (withylaw16_PackStem.j1 kq t273 (a1.extract 0 ((ji3) : Int).toNat) x5_1 x50_16 = some r) ∧ Aside0 (kq ≤ k1) ∧ Aside0 (Kd.R k30 30 wc w.heap.size (fun k_ => some k_ ≠ (u5 : Value).ownBlock) (.slice Ao18 t273.length co18) t273) ∧ Aside0 (Kd.R k30 30 wc w.heap.size (fun k_ => some k_ ≠ ((.slice Ao18 t273.length co18) : Value).ownBlock) u5 x5_1) ∧ Aside0 (Below w.heap.size w wc))
            case first =>
              have H := HC17.out
              clear HC17
              replace H := Option.bind_eq_some_iff.mp H
              obtain ⟨t284, A190, H⟩ := H
              replace H : (if t284 = true then ((pack_Right.f k1 x5_1 128).bind fun t285 => (withylaw16_PackStem.j1 k1 t273 (a1.extract 0 ((ji3) : Int).toNat) x5_1 (!t285))) else (withylaw16_PackStem.j1 k1 t273 (a1.extract 0 ((ji3) : Int).toNat) x5_1 true)) = some r := H
              have A19 := Aside0.mk A190
              clear A190
              by_cases c20 : t284 = true
              · subst c20
                have H1 : ((pack_Right.f k1 x5_1 128).bind fun t285 => (withylaw16_PackStem.j1 k1 t273 (a1.extract 0 ((ji3) : Int).toNat) x5_1 (!t285))) = some r := by rw [if_pos rfl] at H; exact H
                clear H
                have H := H1
                clear H1
                replace H := Option.bind_eq_some_iff.mp H
                obtain ⟨t285, A210, H⟩ := H
                replace H : (withylaw16_PackStem.j1 k1 t273 (a1.extract 0 ((ji3) : Int).toNat) x5_1 (!t285)) = some r := H
                have A21 := Aside0.mk A210
                clear A210
                have H' := Aside0.mk H
                clear H
                go_wp2_with (first | ((with_reducible refine gate_callee (f := 15) rfl ?_); refine goesL_ (some 44) rfl rfl Try.func15 (by kernel_rfl) rfl #[.slice Ao18 t273.length co18, .int .i64 128] rfl (by (try simp only [List.map_toArray, List.map_cons, List.map_nil]); first | done | rfl | (simp only [List.length_drop, List.length_take]; rfl)) ?_; (with_reducible refine (pack_Right.calls k1 _ _ t273 128 true _ ?side1 ?side2 A19.out).mono ?_); (case side1 => repeat (first | exact (Kd.R_reads' HO_0.out).2.2 | (with_reducible refine Kd.C_alloc ?_ _) | (with_reducible refine Kd.C_drewN ?_ _) | (with_reducible refine Kd.C_drew ?_))); (case side2 => exact (Kd.R_reads' HO_0.out).2.1); rintro e w22 ⟨rfl, hb⟩; refine ⟨_, rfl, ?_⟩; have n0_ := Aside0.mk (Kd.R_below (by (with_reducible repeat (first | apply Kd.R_alloc | apply Kd.R_drewN | apply Kd.R_drew)); exact HO_0.out) hb); have n1_ := Aside0.mk (Kd.R_below (by (with_reducible repeat (first | apply Kd.R_alloc | apply Kd.R_drewN | apply Kd.R_drew)); exact HO_5.out) hb); have n2_ := Aside0.mk (below_step (by repeat (first | (with_reducible first | exact HB.out | apply below_alloc | apply pw_below_drewN | apply below_drew1) | exact HB.out)) hb); clear HO_0; clear HO_5; clear HB; have HO_0 := n0_; have HO_5 := n1_; have HB := n2_; clear n0_ n1_ n2_; (try clear hb); (try clear hb2); (try clear hk); (try clear hi); obtain ⟨Ao23, co23, eo23⟩ := Kd.R_slice HO_5.out; subst eo23) | (go_at_call 15; (with_reducible refine (pack_Right.calls k1 _ _ x5_1 128 t285 _ ?side1 ?side2 A21.out).mono ?_); (case side1 => repeat (first | exact (Kd.R_reads' HO_5.out).2.2 | (with_reducible refine Kd.C_alloc ?_ _) | (with_reducible refine Kd.C_drewN ?_ _) | (with_reducible refine Kd.C_drew ?_))); (case side2 => exact (Kd.R_reads' HO_5.out).2.1); rintro e w24 ⟨rfl, hb⟩; have n0_ := Aside0.mk (Kd.R_below (by (with_reducible repeat (first | apply Kd.R_alloc | apply Kd.R_drewN | apply Kd.R_drew)); exact HO_0.out) hb); have n1_ := Aside0.mk (Kd.R_below (by (with_reducible repeat (first | apply Kd.R_alloc | apply Kd.R_drewN | apply Kd.R_drew)); exact HO_5.out) hb); have n2_ := Aside0.mk (below_step (by repeat (first | (with_reducible first | exact HB.out | apply below_alloc | apply pw_below_drewN | apply below_drew1) | exact HB.out)) hb); clear HO_0; clear HO_5; clear HB; have HO_0 := n0_; have HO_5 := n1_; have HB := n2_; clear n0_ n1_ n2_; (try clear hb); (try clear hb2); (try clear hk); (try clear hi)))
                go_meet
                case rel => exact ⟨_, (!t285), (by first | rfl | (simp; done) | (simp [*]; done)), H', ⟨by have := HK1.out; first | omega | exact Nat.le_refl _⟩, ⟨by (with_reducible repeat (first | apply Kd.R_alloc | apply Kd.R_drewN | apply Kd.R_drew)); exact HO_0.out⟩, ⟨by (with_reducible repeat (first | apply Kd.R_alloc | apply Kd.R_drewN | apply Kd.R_drew)); exact HO_5.out⟩, ⟨by repeat (first | (with_reducible first | exact HB.out | apply below_alloc | apply pw_below_drewN | apply below_drew1) | exact HB.out)⟩⟩
              · replace c20 := Bool.eq_false_iff.mpr c20
                subst c20
                have H1 : (withylaw16_PackStem.j1 k1 t273 (a1.extract 0 ((ji3) : Int).toNat) x5_1 true) = some r := by rw [if_neg (show ¬ (false = true) by decide)] at H; exact H
                clear H
                have H := H1
                clear H1
                have H' := Aside0.mk H
                clear H
                go_wp2_with (first | ((with_reducible refine gate_callee (f := 15) rfl ?_); refine goesL_ (some 44) rfl rfl Try.func15 (by kernel_rfl) rfl #[.slice Ao18 t273.length co18, .int .i64 128] rfl (by (try simp only [List.map_toArray, List.map_cons, List.map_nil]); first | done | rfl | (simp only [List.length_drop, List.length_take]; rfl)) ?_; (with_reducible refine (pack_Right.calls k1 _ _ t273 128 false _ ?side1 ?side2 A19.out).mono ?_); (case side1 => repeat (first | exact (Kd.R_reads' HO_0.out).2.2 | (with_reducible refine Kd.C_alloc ?_ _) | (with_reducible refine Kd.C_drewN ?_ _) | (with_reducible refine Kd.C_drew ?_))); (case side2 => exact (Kd.R_reads' HO_0.out).2.1); rintro e w25 ⟨rfl, hb⟩; refine ⟨_, rfl, ?_⟩; have n0_ := Aside0.mk (Kd.R_below (by (with_reducible repeat (first | apply Kd.R_alloc | apply Kd.R_drewN | apply Kd.R_drew)); exact HO_0.out) hb); have n1_ := Aside0.mk (Kd.R_below (by (with_reducible repeat (first | apply Kd.R_alloc | apply Kd.R_drewN | apply Kd.R_drew)); exact HO_5.out) hb); have n2_ := Aside0.mk (below_step (by repeat (first | (with_reducible first | exact HB.out | apply below_alloc | apply pw_below_drewN | apply below_drew1) | exact HB.out)) hb); clear HO_0; clear HO_5; clear HB; have HO_0 := n0_; have HO_5 := n1_; have HB := n2_; clear n0_ n1_ n2_; (try clear hb); (try clear hb2); (try clear hk); (try clear hi)))
                go_meet
                case rel => exact ⟨_, (true), (by first | rfl | (simp; done) | (simp [*]; done)), H', ⟨by have := HK1.out; first | omega | exact Nat.le_refl _⟩, ⟨by (with_reducible repeat (first | apply Kd.R_alloc | apply Kd.R_drewN | apply Kd.R_drew)); exact HO_0.out⟩, ⟨by (with_reducible repeat (first | apply Kd.R_alloc | apply Kd.R_drewN | apply Kd.R_drew)); exact HO_5.out⟩, ⟨by repeat (first | (with_reducible first | exact HB.out | apply below_alloc | apply pw_below_drewN | apply below_drew1) | exact HB.out)⟩⟩
            case rest =>
              clear HC17
              try clear c1
              try clear c2
              try clear p2
              try clear q2
              try clear hx2
              try clear c4
              try clear c4b0
              try clear c4b1
              try clear c5
              try clear c5b0
              try clear c5b1
              try clear p6
              try clear c8
              try clear c10
              try clear c10b0
              try clear c11
              try clear c11b0
              try clear c12
              try clear c12b0
              try clear c12b1
              try clear c12b2
              try clear c13
              try clear c15
              try clear c20
              try clear hx279_0
              try clear hx279_1
              try clear hx280_0
              try clear hx280_1
              try clear p2
              try clear p279
              try clear p280
              try clear q279
              try clear q280
              obtain ⟨kq, x50_16, rfl, HA, HJ16, HO_0, HO_5, HB⟩ := hcut
              cases kq with
              | zero => exact absurd HA.out (by simp [withylaw16_PackStem.j1])
              | succ kj16 =>
                have H := HA.out
                clear HA
                simp only [withylaw16_PackStem.j1] at H
                by_cases c26 : x50_16 = true
                · subst c26
                  have H1 : (none) = some r := by rw [if_pos rfl] at H; exact H
                  clear H
                  have H := H1
                  clear H1
                  exact absurd H (by simp)
                · replace c26 := Bool.eq_false_iff.mpr c26
                  subst c26
                  have H1 : ((pack_Items.f kj16 t273 1 128).bind fun bt286 => ((pack_Items.f kj16 x5_1 1 128).bind fun bt290 => ((pack_Group.f bt286.1 128).bind fun t294 => ((pack_Group.f bt290.1 128).bind fun t297 => (if (t294.length : Int) = 0 then (none) else (if (t297.length : Int) = 0 then (none) else (if (a1.extract 0 ((ji3) : Int).toNat).toList = ([] : List UInt8) then ((withyref01_Ints.f kj16 t294 t297).bind fun t300 => (if t300 = true then (if (t297.length : Int) ≥ (t294.length : Int) then (if 0 < (t297.length : Int) then (if 0 < (t294.length : Int) then (if (rd t297 0) ≤ (rd t294 0) then ((withylaw16_fixed.f).bind fun t303 => (some t303)) else (none)) else (none)) else (none)) else (none)) else (none))) else (if (t297.length : Int) ≥ (t294.length : Int) then (if 0 < (t297.length : Int) then (if 0 < (t294.length : Int) then (if (rd t297 0) ≤ (rd t294 0) then ((withylaw16_fixed.f).bind fun t306 => (some t306)) else (none)) else (none)) else (none)) else (none))))))))) = some r := by rw [if_neg (show ¬ (false = true) by decide)] at H; exact H
                  clear H
                  have H := H1
                  clear H1
                  replace H := Option.bind_eq_some_iff.mp H
                  obtain ⟨⟨t286, t287⟩, A270, H⟩ := H
                  replace H : ((pack_Items.f kj16 x5_1 1 128).bind fun bt290 => ((pack_Group.f t286 128).bind fun t294 => ((pack_Group.f bt290.1 128).bind fun t297 => (if (t294.length : Int) = 0 then (none) else (if (t297.length : Int) = 0 then (none) else (if (a1.extract 0 ((ji3) : Int).toNat).toList = ([] : List UInt8) then ((withyref01_Ints.f kj16 t294 t297).bind fun t300 => (if t300 = true then (if (t297.length : Int) ≥ (t294.length : Int) then (if 0 < (t297.length : Int) then (if 0 < (t294.length : Int) then (if (rd t297 0) ≤ (rd t294 0) then ((withylaw16_fixed.f).bind fun t303 => (some t303)) else (none)) else (none)) else (none)) else (none)) else (none))) else (if (t297.length : Int) ≥ (t294.length : Int) then (if 0 < (t297.length : Int) then (if 0 < (t294.length : Int) then (if (rd t297 0) ≤ (rd t294 0) then ((withylaw16_fixed.f).bind fun t306 => (some t306)) else (none)) else (none)) else (none)) else (none)))))))) = some r := H
                  have A27 := Aside0.mk A270
                  clear A270
                  replace H := Option.bind_eq_some_iff.mp H
                  obtain ⟨⟨t290, t291⟩, A280, H⟩ := H
                  replace H : ((pack_Group.f t286 128).bind fun t294 => ((pack_Group.f t290 128).bind fun t297 => (if (t294.length : Int) = 0 then (none) else (if (t297.length : Int) = 0 then (none) else (if (a1.extract 0 ((ji3) : Int).toNat).toList = ([] : List UInt8) then ((withyref01_Ints.f kj16 t294 t297).bind fun t300 => (if t300 = true then (if (t297.length : Int) ≥ (t294.length : Int) then (if 0 < (t297.length : Int) then (if 0 < (t294.length : Int) then (if (rd t297 0) ≤ (rd t294 0) then ((withylaw16_fixed.f).bind fun t303 => (some t303)) else (none)) else (none)) else (none)) else (none)) else (none))) else (if (t297.length : Int) ≥ (t294.length : Int) then (if 0 < (t297.length : Int) then (if 0 < (t294.length : Int) then (if (rd t297 0) ≤ (rd t294 0) then ((withylaw16_fixed.f).bind fun t306 => (some t306)) else (none)) else (none)) else (none)) else (none))))))) = some r := H
                  have A28 := Aside0.mk A280
                  clear A280
                  replace H := Option.bind_eq_some_iff.mp H
                  obtain ⟨t294, A290, H⟩ := H
                  replace H : ((pack_Group.f t290 128).bind fun t297 => (if (t294.length : Int) = 0 then (none) else (if (t297.length : Int) = 0 then (none) else (if (a1.extract 0 ((ji3) : Int).toNat).toList = ([] : List UInt8) then ((withyref01_Ints.f kj16 t294 t297).bind fun t300 => (if t300 = true then (if (t297.length : Int) ≥ (t294.length : Int) then (if 0 < (t297.length : Int) then (if 0 < (t294.length : Int) then (if (rd t297 0) ≤ (rd t294 0) then ((withylaw16_fixed.f).bind fun t303 => (some t303)) else (none)) else (none)) else (none)) else (none)) else (none))) else (if (t297.length : Int) ≥ (t294.length : Int) then (if 0 < (t297.length : Int) then (if 0 < (t294.length : Int) then (if (rd t297 0) ≤ (rd t294 0) then ((withylaw16_fixed.f).bind fun t306 => (some t306)) else (none)) else (none)) else (none)) else (none)))))) = some r := H
                  have A29 := Aside0.mk A290
                  clear A290
                  replace H := Option.bind_eq_some_iff.mp H
                  obtain ⟨t297, A300, H⟩ := H
                  replace H : (if (t294.length : Int) = 0 then (none) else (if (t297.length : Int) = 0 then (none) else (if (a1.extract 0 ((ji3) : Int).toNat).toList = ([] : List UInt8) then ((withyref01_Ints.f kj16 t294 t297).bind fun t300 => (if t300 = true then (if (t297.length : Int) ≥ (t294.length : Int) then (if 0 < (t297.length : Int) then (if 0 < (t294.length : Int) then (if (rd t297 0) ≤ (rd t294 0) then ((withylaw16_fixed.f).bind fun t303 => (some t303)) else (none)) else (none)) else (none)) else (none)) else (none))) else (if (t297.length : Int) ≥ (t294.length : Int) then (if 0 < (t297.length : Int) then (if 0 < (t294.length : Int) then (if (rd t297 0) ≤ (rd t294 0) then ((withylaw16_fixed.f).bind fun t306 => (some t306)) else (none)) else (none)) else (none)) else (none))))) = some r := H
                  have A30 := Aside0.mk A300
                  clear A300
                  by_cases c31 : (t294.length : Int) = 0
                  · rw [if_pos c31] at H
                    exact absurd H (by simp)
                  · rw [if_neg c31] at H
                    have c31b0 : ((t294.length : Int) == 0) = false := beq_eq_false_iff_ne.mpr c31
                    have c31b1 : ((t294.length : Int) != 0) = true := bne_iff_ne.mpr c31
                    have c31b2 : ¬ (t294 = []) := fun h_ => c31 (by rw [h_]; rfl)
                    by_cases c32 : (t297.length : Int) = 0
                    · rw [if_pos c32] at H
                      exact absurd H (by simp)
                    · rw [if_neg c32] at H
                      have c32b0 : ((t297.length : Int) == 0) = false := beq_eq_false_iff_ne.mpr c32
                      have c32b1 : ((t297.length : Int) != 0) = true := bne_iff_ne.mpr c32
                      have c32b2 : ¬ (t297 = []) := fun h_ => c32 (by rw [h_]; rfl)
                      by_cases c33 : (a1.extract 0 ((ji3) : Int).toNat).toList = ([] : List UInt8)
                      · rw [if_pos c33] at H
                        have c33b0 : ((a1.extract 0 ((ji3) : Int).toNat).toList == ([] : List UInt8)) = true := beq_iff_eq.mpr c33
                        try (have c33b0e := c33b0; simp only [show ∀ l : List UInt8, (l == []) = l.isEmpty from fun l => by cases l <;> rfl] at c33b0e)
                        have c33b1 : ((a1.extract 0 ((ji3) : Int).toNat).toList != ([] : List UInt8)) = false := bne_eq_false_iff_eq.mpr c33
                        clear c33
                        replace H := Option.bind_eq_some_iff.mp H
                        obtain ⟨t300, A340, H⟩ := H
                        replace H : (if t300 = true then (if (t297.length : Int) ≥ (t294.length : Int) then (if 0 < (t297.length : Int) then (if 0 < (t294.length : Int) then (if (rd t297 0) ≤ (rd t294 0) then ((withylaw16_fixed.f).bind fun t303 => (some t303)) else (none)) else (none)) else (none)) else (none)) else (none)) = some r := H
                        have A34 := Aside0.mk A340
                        clear A340
                        by_cases c35 : t300 = true
                        · subst c35
                          have H1 : (if (t297.length : Int) ≥ (t294.length : Int) then (if 0 < (t297.length : Int) then (if 0 < (t294.length : Int) then (if (rd t297 0) ≤ (rd t294 0) then ((withylaw16_fixed.f).bind fun t303 => (some t303)) else (none)) else (none)) else (none)) else (none)) = some r := by rw [if_pos rfl] at H; exact H
                          clear H
                          have H := H1
                          clear H1
                          by_cases c36 : (t297.length : Int) ≥ (t294.length : Int)
                          · rw [if_pos c36] at H
                            have c36b0 : decide ((t294.length : Int) ≤ (t297.length : Int)) = true := decide_eq_true c36
                            have c36b1 : decide (t294.length ≤ t297.length) = true := decide_eq_true (Int.ofNat_le.mp c36)
                            clear c36
                            by_cases c37 : 0 < (t297.length : Int)
                            · rw [if_pos c37] at H
                              have c37b0 : decide (0 < (t297.length : Int)) = true := decide_eq_true c37
                              have c37b1 : decide (0 < t297.length) = true := decide_eq_true (by omega)
                              clear c37
                              by_cases c38 : 0 < (t294.length : Int)
                              · rw [if_pos c38] at H
                                have c38b0 : decide (0 < (t294.length : Int)) = true := decide_eq_true c38
                                have c38b1 : decide (0 < t294.length) = true := decide_eq_true (by omega)
                                clear c38
                                by_cases c39 : (rd t297 0) ≤ (rd t294 0)
                                · rw [if_pos c39] at H
                                  have c39b0 : decide ((rd t297 0) ≤ (rd t294 0)) = true := decide_eq_true c39
                                  clear c39
                                  replace H := Option.bind_eq_some_iff.mp H
                                  obtain ⟨t303, A400, H⟩ := H
                                  replace H : (some t303) = some r := H
                                  have A40 := Aside0.mk A400
                                  clear A400
                                  obtain rfl := Option.some.inj H
                                  try go_wp2_with (first | ((with_reducible refine gate_callee (f := 9) rfl ?_); refine goesL_ (some 53) rfl rfl Try.func9 (by kernel_rfl) rfl #[.slice Ao18 t273.length co18, .int .i64 1, .int .i64 128] rfl (by (try simp only [List.map_toArray, List.map_cons, List.map_nil]); first | done | rfl | (simp only [List.length_drop, List.length_take]; rfl)) ?_; (with_reducible refine (pack_Items.calls kj16 _ _ t273 1 128 t286 t287 _ ?side1 ?side2 A27.out).mono ?_); (case side1 => repeat (first | exact (Kd.R_reads' HO_0.out).2.2 | (with_reducible refine Kd.C_alloc ?_ _) | (with_reducible refine Kd.C_drewN ?_ _) | (with_reducible refine Kd.C_drew ?_))); (case side2 => exact (Kd.R_reads' HO_0.out).2.1); rintro e w41 ⟨v288, rfl, ho0, hb⟩; refine ⟨_, rfl, ?_⟩; have n0_ := Aside0.mk (Kd.R_below (by (with_reducible repeat (first | apply Kd.R_alloc | apply Kd.R_drewN | apply Kd.R_drew)); exact HO_0.out) hb); have n1_ := Aside0.mk (Kd.R_below (by (with_reducible repeat (first | apply Kd.R_alloc | apply Kd.R_drewN | apply Kd.R_drew)); exact HO_5.out) hb); have n2_ := Aside0.mk (Kd.R_lower ho0 (below_size (by repeat (first | (with_reducible first | exact HB.out | apply below_alloc | apply pw_below_drewN | apply below_drew1) | exact HB.out)))); have n3_ := Aside0.mk (below_step (by repeat (first | (with_reducible first | exact HB.out | apply below_alloc | apply pw_below_drewN | apply below_drew1) | exact HB.out)) hb); clear HO_0; clear HO_5; clear HB; have HO_0 := n0_; have HO_5 := n1_; have HO289 := n2_; have HB := n3_; clear n0_ n1_ n2_ n3_; (try clear hb); (try clear hb2); (try clear hk); (try clear hi); (try clear ho0); obtain ⟨Ao42, co42, eo42⟩ := Kd.R_slice HO_5.out; subst eo42) | ((with_reducible refine gate_callee (f := 9) rfl ?_); refine goesL_ (some 58) rfl rfl Try.func9 (by kernel_rfl) rfl #[.slice Ao42 x5_1.length co42, .int .i64 1, .int .i64 128] rfl (by (try simp only [List.map_toArray, List.map_cons, List.map_nil]); first | done | rfl | (simp only [List.length_drop, List.length_take]; rfl)) ?_; (with_reducible refine (pack_Items.calls kj16 _ _ x5_1 1 128 t290 t291 _ ?side1 ?side2 A28.out).mono ?_); (case side1 => repeat (first | exact (Kd.R_reads' HO_5.out).2.2 | (with_reducible refine Kd.C_alloc ?_ _) | (with_reducible refine Kd.C_drewN ?_ _) | (with_reducible refine Kd.C_drew ?_))); (case side2 => exact (Kd.R_reads' HO_5.out).2.1); rintro e w43 ⟨v292, rfl, ho0, hb⟩; refine ⟨_, rfl, ?_⟩; have n0_ := Aside0.mk (Kd.R_below (by (with_reducible repeat (first | apply Kd.R_alloc | apply Kd.R_drewN | apply Kd.R_drew)); exact HO_0.out) hb); have n1_ := Aside0.mk (Kd.R_below (by (with_reducible repeat (first | apply Kd.R_alloc | apply Kd.R_drewN | apply Kd.R_drew)); exact HO_5.out) hb); have n2_ := Aside0.mk (Kd.R_elder' (by (with_reducible repeat (first | apply Kd.R_alloc | apply Kd.R_drewN | apply Kd.R_drew)); exact HO289.out) (Kd.R_base ho0) hb); have n3_ := Aside0.mk (Kd.R_lower (Kd.R_new' ho0 (Kd.R_lt (by (with_reducible repeat (first | apply Kd.R_alloc | apply Kd.R_drewN | apply Kd.R_drew)); exact HO289.out))) (below_size (by repeat (first | (with_reducible first | exact HB.out | apply below_alloc | apply pw_below_drewN | apply below_drew1) | exact HB.out)))); have n4_ := Aside0.mk (below_step (by repeat (first | (with_reducible first | exact HB.out | apply below_alloc | apply pw_below_drewN | apply below_drew1) | exact HB.out)) hb); clear HO_0; clear HO_5; clear HO289; clear HB; have HO_0 := n0_; have HO_5 := n1_; have HO289 := n2_; have HO293 := n3_; have HB := n4_; clear n0_ n1_ n2_ n3_ n4_; (try clear hb); (try clear hb2); (try clear hk); (try clear hi); (try clear ho0); obtain ⟨Ao44, co44, eo44⟩ := Kd.R_slice HO289.out; subst eo44) | ((with_reducible refine gate_callee (f := 13) rfl ?_); refine goesL_ (some 62) rfl rfl Try.func13 (by kernel_rfl) rfl #[.slice Ao44 t286.length co44, .int .i64 128] rfl (by (try simp only [List.map_toArray, List.map_cons, List.map_nil]); first | done | rfl | (simp only [List.length_drop, List.length_take]; rfl)) ?_; (with_reducible refine (pack_Group.calls _ _ t286 128 t294 _ ?side1 ?side2 A29.out).mono ?_); (case side1 => repeat (first | exact (Kd.R_reads' HO289.out).2.2 | (with_reducible refine Kd.C_alloc ?_ _) | (with_reducible refine Kd.C_drewN ?_ _) | (with_reducible refine Kd.C_drew ?_))); (case side2 => exact (Kd.R_reads' HO289.out).2.1); rintro e w45 ⟨v295, rfl, ho0, hb⟩; refine ⟨_, rfl, ?_⟩; have n0_ := Aside0.mk (Kd.R_below (by (with_reducible repeat (first | apply Kd.R_alloc | apply Kd.R_drewN | apply Kd.R_drew)); exact HO_0.out) hb); have n1_ := Aside0.mk (Kd.R_below (by (with_reducible repeat (first | apply Kd.R_alloc | apply Kd.R_drewN | apply Kd.R_drew)); exact HO_5.out) hb); have n2_ := Aside0.mk (Kd.R_below (by (with_reducible repeat (first | apply Kd.R_alloc | apply Kd.R_drewN | apply Kd.R_drew)); exact HO289.out) hb); have n3_ := Aside0.mk (Kd.R_below (by (with_reducible repeat (first | apply Kd.R_alloc | apply Kd.R_drewN | apply Kd.R_drew)); exact HO293.out) hb); have n4_ := Aside0.mk (Kd.R_lower ho0 (below_size (by repeat (first | (with_reducible first | exact HB.out | apply below_alloc | apply pw_below_drewN | apply below_drew1) | exact HB.out)))); have n5_ := Aside0.mk (below_step (by repeat (first | (with_reducible first | exact HB.out | apply below_alloc | apply pw_below_drewN | apply below_drew1) | exact HB.out)) hb); clear HO_0; clear HO_5; clear HO289; clear HO293; clear HB; have HO_0 := n0_; have HO_5 := n1_; have HO289 := n2_; have HO293 := n3_; have HO296 := n4_; have HB := n5_; clear n0_ n1_ n2_ n3_ n4_ n5_; (try clear hb); (try clear hb2); (try clear hk); (try clear hi); (try clear ho0); obtain ⟨Ao46, co46, eo46⟩ := Kd.R_slice HO293.out; subst eo46) | ((with_reducible refine gate_callee (f := 13) rfl ?_); refine goesL_ (some 64) rfl rfl Try.func13 (by kernel_rfl) rfl #[.slice Ao46 t290.length co46, .int .i64 128] rfl (by (try simp only [List.map_toArray, List.map_cons, List.map_nil]); first | done | rfl | (simp only [List.length_drop, List.length_take]; rfl)) ?_; (with_reducible refine (pack_Group.calls _ _ t290 128 t297 _ ?side1 ?side2 A30.out).mono ?_); (case side1 => repeat (first | exact (Kd.R_reads' HO293.out).2.2 | (with_reducible refine Kd.C_alloc ?_ _) | (with_reducible refine Kd.C_drewN ?_ _) | (with_reducible refine Kd.C_drew ?_))); (case side2 => exact (Kd.R_reads' HO293.out).2.1); rintro e w47 ⟨v298, rfl, ho0, hb⟩; refine ⟨_, rfl, ?_⟩; have n0_ := Aside0.mk (Kd.R_below (by (with_reducible repeat (first | apply Kd.R_alloc | apply Kd.R_drewN | apply Kd.R_drew)); exact HO_0.out) hb); have n1_ := Aside0.mk (Kd.R_below (by (with_reducible repeat (first | apply Kd.R_alloc | apply Kd.R_drewN | apply Kd.R_drew)); exact HO_5.out) hb); have n2_ := Aside0.mk (Kd.R_below (by (with_reducible repeat (first | apply Kd.R_alloc | apply Kd.R_drewN | apply Kd.R_drew)); exact HO289.out) hb); have n3_ := Aside0.mk (Kd.R_below (by (with_reducible repeat (first | apply Kd.R_alloc | apply Kd.R_drewN | apply Kd.R_drew)); exact HO293.out) hb); have n4_ := Aside0.mk (Kd.R_elder' (by (with_reducible repeat (first | apply Kd.R_alloc | apply Kd.R_drewN | apply Kd.R_drew)); exact HO296.out) (Kd.R_base ho0) hb); have n5_ := Aside0.mk (Kd.R_lower (Kd.R_new' ho0 (Kd.R_lt (by (with_reducible repeat (first | apply Kd.R_alloc | apply Kd.R_drewN | apply Kd.R_drew)); exact HO296.out))) (below_size (by repeat (first | (with_reducible first | exact HB.out | apply below_alloc | apply pw_below_drewN | apply below_drew1) | exact HB.out)))); have n6_ := Aside0.mk (below_step (by repeat (first | (with_reducible first | exact HB.out | apply below_alloc | apply pw_below_drewN | apply below_drew1) | exact HB.out)) hb); clear HO_0; clear HO_5; clear HO289; clear HO293; clear HO296; clear HB; have HO_0 := n0_; have HO_5 := n1_; have HO289 := n2_; have HO293 := n3_; have HO296 := n4_; have HO299 := n5_; have HB := n6_; clear n0_ n1_ n2_ n3_ n4_ n5_ n6_; (try clear hb); (try clear hb2); (try clear hk); (try clear hi); (try clear ho0); obtain ⟨Ao48, co48, eo48⟩ := Kd.R_slice HO296.out; subst eo48; obtain ⟨Ao49, co49, eo49⟩ := Kd.R_slice HO299.out; subst eo49) | (go_at_call 14; (with_reducible refine (withyref01_Ints.calls kj16 _ _ t294 _ _ t297 true _ ?side1 ?side2 ?side3 ?side4 A34.out).mono ?_); (case side1 => repeat (first | exact (Kd.R_reads' HO296.out).2.2 | (with_reducible refine Kd.C_alloc ?_ _) | (with_reducible refine Kd.C_drewN ?_ _) | (with_reducible refine Kd.C_drew ?_))); (case side2 => exact (Kd.R_reads' HO296.out).2.1); (case side3 => repeat (first | exact (Kd.R_reads' HO299.out).2.2 | (with_reducible refine Kd.C_alloc ?_ _) | (with_reducible refine Kd.C_drewN ?_ _) | (with_reducible refine Kd.C_drew ?_))); (case side4 => exact (Kd.R_reads' HO299.out).2.1); rintro e w' ⟨rfl, ⟨nd, rfl⟩⟩))
                                  (try (rw [drewN_self w47]; generalize hq_ : World.drewN w47 _ = w47; have n0_ : Aside0 (Kd.R k35 35 w47 w.heap.size (fun k_ => some k_ ≠ (.slice Ao46 t290.length co46 : Value).ownBlock) (.slice Ao44 t286.length co44) t286) := ⟨by rw [← hq_]; exact (by (with_reducible repeat (first | apply Kd.R_alloc | apply Kd.R_drewN | apply Kd.R_drew)); exact Kd.R_mono HO289.out (fun _ hk => hk.2))⟩; have n1_ : Aside0 (Kd.R k35 35 w47 w.heap.size (fun k_ => some k_ ≠ (.slice Ao44 t286.length co44 : Value).ownBlock) (.slice Ao46 t290.length co46) t290) := ⟨by rw [← hq_]; exact (by (with_reducible repeat (first | apply Kd.R_alloc | apply Kd.R_drewN | apply Kd.R_drew)); exact Kd.R_mono HO293.out (fun _ hk => hk.2))⟩; have n2_ : Aside0 (Kd.R (Kd.int .i64) 3 w47 w.heap.size (fun k_ => some k_ ≠ (.slice Ao49 t297.length co49 : Value).ownBlock) (.slice Ao48 t294.length co48) t294) := ⟨by rw [← hq_]; exact (by (with_reducible repeat (first | apply Kd.R_alloc | apply Kd.R_drewN | apply Kd.R_drew)); exact Kd.R_mono HO296.out (fun _ hk => hk.2))⟩; have n3_ : Aside0 (Kd.R (Kd.int .i64) 3 w47 w.heap.size (fun k_ => some k_ ≠ (.slice Ao48 t294.length co48 : Value).ownBlock) (.slice Ao49 t297.length co49) t297) := ⟨by rw [← hq_]; exact (by (with_reducible repeat (first | apply Kd.R_alloc | apply Kd.R_drewN | apply Kd.R_drew)); exact Kd.R_mono HO299.out (fun _ hk => hk.2))⟩; have n4_ : Aside0 (Kd.R k30 30 w47 w.heap.size (fun k_ => some k_ ≠ (.slice Ao42 x5_1.length co42 : Value).ownBlock) (.slice Ao18 t273.length co18) t273) := ⟨by rw [← hq_]; exact (by (with_reducible repeat (first | apply Kd.R_alloc | apply Kd.R_drewN | apply Kd.R_drew)); exact HO_0.out)⟩; have n5_ : Aside0 (Kd.R k30 30 w47 w.heap.size (fun k_ => some k_ ≠ (.slice Ao18 t273.length co18 : Value).ownBlock) (.slice Ao42 x5_1.length co42) x5_1) := ⟨by rw [← hq_]; exact (by (with_reducible repeat (first | apply Kd.R_alloc | apply Kd.R_drewN | apply Kd.R_drew)); exact HO_5.out)⟩; have n6_ : Aside0 (Below w.heap.size w w47) := ⟨by rw [← hq_]; exact (by repeat (first | (with_reducible first | exact HB.out | apply below_alloc | apply pw_below_drewN | apply below_drew1) | exact HB.out))⟩; clear HO289 HO293 HO296 HO299 HO_0 HO_5 HB hq_; have HO289 := n0_; have HO293 := n1_; have HO296 := n2_; have HO299 := n3_; have HO_0 := n4_; have HO_5 := n5_; have HB := n6_; clear n0_ n1_ n2_ n3_ n4_ n5_ n6_))
                                  have n0_ := Aside0.mk (Kd.R_drew HO_0.out)
                                  have n1_ := Aside0.mk (Kd.R_drew HO_5.out)
                                  have n2_ := Aside0.mk (Kd.R_drew HO289.out)
                                  have n3_ := Aside0.mk (Kd.R_drew HO293.out)
                                  have n4_ := Aside0.mk (Kd.R_drew HO296.out)
                                  have n5_ := Aside0.mk (Kd.R_drew HO299.out)
                                  have n6_ := Aside0.mk (below_drew1 HB.out)
                                  clear HO_0
                                  clear HO_5
                                  clear HO289
                                  clear HO293
                                  clear HO296
                                  clear HO299
                                  clear HB
                                  have HO_0 := n0_
                                  have HO_5 := n1_
                                  have HO289 := n2_
                                  have HO293 := n3_
                                  have HO296 := n4_
                                  have HO299 := n5_
                                  have HB := n6_
                                  clear n0_ n1_ n2_ n3_ n4_ n5_ n6_
                                  have p301 : 0 ≤ (0 : Int) := (by omega)
                                  have q301 : 0 < (t297.length : Int) := of_decide_eq_true (by first | (with_reducible assumption) | assumption)
                                  obtain ⟨ad301, e301, hx301_0⟩ := Kd.at_int (Kd.R_reads' HO299.out).2.2 0 p301 q301
                                  cases e301
                                  have qi301 : (0 < t297.length) = True := eq_true (by omega)
                                  (try rw [show ((0 : Int)).toNat = 0 from rfl] at hx301_0)
                                  (try rw [Addr.add_zero'] at hx301_0)
                                  replace p301 := eq_true p301
                                  replace q301 := eq_true q301
                                  have p302 : 0 ≤ (0 : Int) := (by omega)
                                  have q302 : 0 < (t294.length : Int) := of_decide_eq_true (by first | (with_reducible assumption) | assumption)
                                  obtain ⟨ad302, e302, hx302_0⟩ := Kd.at_int (Kd.R_reads' HO296.out).2.2 0 p302 q302
                                  cases e302
                                  have qi302 : (0 < t294.length) = True := eq_true (by omega)
                                  (try rw [show ((0 : Int)).toNat = 0 from rfl] at hx302_0)
                                  (try rw [Addr.add_zero'] at hx302_0)
                                  replace p302 := eq_true p302
                                  replace q302 := eq_true q302
                                  refine start_ (n := 18) (S := fun w' => w'.cell? ad301 = some (.int .i64 (rd t297 0)) ∧ w'.cell? ad302 = some (.int .i64 (rd t294 0))) (ds := []) #[false, false, false, false, false, false, false, false, false, false, false, false, false, false, false, false, false, false] (by kernel_rfl) rfl rfl ⟨hx301_0, hx302_0⟩ (fun hHeld => ?_); refine with_tabW withylaw16_PackStem.tab15 withylaw16_PackStem.bits15 (fun HT_ HW_ => ?_)
                                  generalize w47.drew = w50 at HO_0 HO_5 HO289 HO293 HO296 HO299 HB hx301_0 hx302_0 hHeld ⊢
                                  refine pure_ (i := 0) (N := some 83) (v := ?_) (a' := ?_) #[true, false, false, false, false, false, false, false, false, false, false, false, false, false, false, false, false, false] rfl rfl (any_of HT_.out (by kernel_rfl)) (fun _ _ _ h => h) (Or.inl ⟨by rfl, ?_⟩) ?_ ?_
                                  rotate_left
                                  · intro w'
                                    go_simp
                                    with_reducible rfl
                                  rotate_left
                                  · simp only [Act.put, List.setIfInBounds_toArray, List.set_cons_zero, List.set_cons_succ, i64_w, i32_w]
                                    rfl
                                  refine pure_ (i := 1) (N := some 84) (v := ?_) (a' := ?_) #[true, true, false, false, false, false, false, false, false, false, false, false, false, false, false, false, false, false] rfl rfl (any_of HT_.out (by kernel_rfl)) (fun _ _ _ h => h) (Or.inl ⟨by rfl, ?_⟩) ?_ ?_
                                  rotate_left
                                  · intro w'
                                    go_simp
                                    with_reducible rfl
                                  rotate_left
                                  · simp only [Act.put, List.setIfInBounds_toArray, List.set_cons_zero, List.set_cons_succ, i64_w, i32_w]
                                    rfl
                                  refine pure_ (i := 2) (N := some 85) (v := ?_) (a' := ?_) #[true, true, true, false, false, false, false, false, false, false, false, false, false, false, false, false, false, false] rfl rfl (any_of HT_.out (by kernel_rfl)) (fun _ _ _ h => h) (Or.inl ⟨by rfl, ?_⟩) ?_ ?_
                                  rotate_left
                                  · intro w'
                                    go_simp
                                    with_reducible rfl
                                  rotate_left
                                  · simp only [Act.put, List.setIfInBounds_toArray, List.set_cons_zero, List.set_cons_succ, i64_w, i32_w]
                                    rfl
                                  refine pure_ (i := 3) (N := some 86) (v := ?_) (a' := ?_) #[true, true, true, true, false, false, false, false, false, false, false, false, false, false, false, false, false, false] rfl rfl (any_of HT_.out (by kernel_rfl)) (fun _ _ _ h => h) (Or.inl ⟨by rfl, ?_⟩) ?_ ?_
                                  rotate_left
                                  · intro w'
                                    go_simp
                                    with_reducible rfl
                                  rotate_left
                                  · simp only [Act.put, List.setIfInBounds_toArray, List.set_cons_zero, List.set_cons_succ, i64_w, i32_w]
                                    rfl
                                  refine pure_ (i := 4) (N := some 87) (v := ?_) (a' := ?_) #[true, true, true, true, true, false, false, false, false, false, false, false, false, false, false, false, false, false] rfl rfl (any_of HT_.out (by kernel_rfl)) (fun _ _ _ h => h) (Or.inl ⟨by rfl, ?_⟩) ?_ ?_
                                  rotate_left
                                  · intro w'
                                    go_simp
                                    with_reducible rfl
                                  rotate_left
                                  · simp only [Act.put, List.setIfInBounds_toArray, List.set_cons_zero, List.set_cons_succ, i64_w, i32_w]
                                    rfl
                                  refine pure_ (i := 5) (N := some 88) (v := ?_) (a' := ?_) #[true, true, true, true, true, true, false, false, false, false, false, false, false, false, false, false, false, false] rfl rfl (any_of HT_.out (by kernel_rfl)) (fun _ _ _ h => h) (Or.inl ⟨by rfl, ?_⟩) ?_ ?_
                                  rotate_left
                                  · intro w'
                                    go_simp
                                    with_reducible rfl
                                  rotate_left
                                  · simp only [Act.put, List.setIfInBounds_toArray, List.set_cons_zero, List.set_cons_succ, i64_w, i32_w]
                                    rfl
                                  refine pure_ (i := 6) (N := some 89) (v := ?_) (a' := ?_) #[true, true, true, true, true, true, true, false, false, false, false, false, false, false, false, false, false, false] rfl rfl (any_of HT_.out (by kernel_rfl)) (fun _ _ _ h => h) (Or.inl ⟨by rfl, ?_⟩) ?_ ?_
                                  rotate_left
                                  · intro w'
                                    go_simp
                                    with_reducible rfl
                                  rotate_left
                                  · simp only [Act.put, List.setIfInBounds_toArray, List.set_cons_zero, List.set_cons_succ, i64_w, i32_w]
                                    rfl
                                  refine pure_ (i := 7) (N := some 90) (v := ?_) (a' := ?_) #[true, true, true, true, true, true, true, true, false, false, false, false, false, false, false, false, false, false] rfl rfl (any_of HT_.out (by kernel_rfl)) (fun _ _ _ h => h) (Or.inl ⟨by rfl, ?_⟩) ?_ ?_
                                  rotate_left
                                  · intro w'
                                    go_simp
                                    with_reducible rfl
                                  rotate_left
                                  · simp only [Act.put, List.setIfInBounds_toArray, List.set_cons_zero, List.set_cons_succ, i64_w, i32_w]
                                    rfl
                                  refine pure_ (i := 9) (N := some 92) (v := ?_) (a' := ?_) #[true, true, true, true, true, true, true, true, false, true, false, false, false, false, false, false, false, false] rfl rfl (any_of HT_.out (by kernel_rfl)) (fun _ _ _ h => h) (Or.inl ⟨by rfl, ?_⟩) ?_ ?_
                                  rotate_left
                                  · intro w'
                                    go_simp
                                    with_reducible rfl
                                  rotate_left
                                  · simp only [Act.put, List.setIfInBounds_toArray, List.set_cons_zero, List.set_cons_succ, i64_w, i32_w]
                                    rfl
                                  refine pure_ (i := 10) (N := some 93) (v := ?_) (a' := ?_) #[true, true, true, true, true, true, true, true, false, true, true, false, false, false, false, false, false, false] rfl rfl (any_of HT_.out (by kernel_rfl)) (fun _ _ _ h => h) (Or.inl ⟨by rfl, ?_⟩) ?_ ?_
                                  rotate_left
                                  · intro w'
                                    go_simp
                                    with_reducible rfl
                                  rotate_left
                                  · simp only [Act.put, List.setIfInBounds_toArray, List.set_cons_zero, List.set_cons_succ, i64_w, i32_w]
                                    rfl
                                  refine take_ (i := 8) (N := some 91) (v := ?_) (a' := ?_) #[true, true, true, true, true, true, true, true, true, true, true, false, false, false, false, false, false, false] rfl rfl (take_ofW HT_.out HW_.out (by kernel_rfl)) (fun _ _ _ h => h) (Or.inl ⟨by rfl, ?_⟩) hHeld ?_ ?_
                                  rotate_left
                                  · rintro w' ⟨s0, s1⟩
                                    go_simp
                                    with_reducible rfl
                                  rotate_left
                                  · simp only [Act.put, List.setIfInBounds_toArray, List.set_cons_zero, List.set_cons_succ, i64_w, i32_w]
                                    rfl
                                  refine take_ (i := 11) (N := some 94) (v := ?_) (a' := ?_) #[true, true, true, true, true, true, true, true, true, true, true, true, false, false, false, false, false, false] rfl rfl (take_ofW HT_.out HW_.out (by kernel_rfl)) (fun _ _ _ h => h) (Or.inl ⟨by rfl, ?_⟩) hHeld ?_ ?_
                                  rotate_left
                                  · rintro w' ⟨s0, s1⟩
                                    go_simp
                                    with_reducible rfl
                                  rotate_left
                                  · simp only [Act.put, List.setIfInBounds_toArray, List.set_cons_zero, List.set_cons_succ, i64_w, i32_w]
                                    rfl
                                  refine pure_ (i := 12) (N := some 95) (v := ?_) (a' := ?_) #[true, true, true, true, true, true, true, true, true, true, true, true, true, false, false, false, false, false] rfl rfl (any_of HT_.out (by kernel_rfl)) (fun _ _ _ h => h) (Or.inl ⟨by rfl, ?_⟩) ?_ ?_
                                  rotate_left
                                  · intro w'
                                    go_simp
                                    with_reducible rfl
                                  rotate_left
                                  · simp only [Act.put, List.setIfInBounds_toArray, List.set_cons_zero, List.set_cons_succ, i64_w, i32_w]
                                    rfl
                                  refine pure_ (i := 13) (N := some 96) (v := ?_) (a' := ?_) #[true, true, true, true, true, true, true, true, true, true, true, true, true, true, false, false, false, false] rfl rfl (any_of HT_.out (by kernel_rfl)) (fun _ _ _ h => h) (Or.inl ⟨by rfl, ?_⟩) ?_ ?_
                                  rotate_left
                                  · intro w'
                                    go_simp
                                    with_reducible rfl
                                  rotate_left
                                  · simp only [Act.put, List.setIfInBounds_toArray, List.set_cons_zero, List.set_cons_succ, i64_w, i32_w]
                                    rfl
                                  refine pure_ (i := 14) (N := some 97) (v := ?_) (a' := ?_) #[true, true, true, true, true, true, true, true, true, true, true, true, true, true, true, false, false, false] rfl rfl (any_of HT_.out (by kernel_rfl)) (fun _ _ _ h => h) (Or.inl ⟨by rfl, ?_⟩) ?_ ?_
                                  rotate_left
                                  · intro w'
                                    go_simp
                                    with_reducible rfl
                                  rotate_left
                                  · simp only [Act.put, List.setIfInBounds_toArray, List.set_cons_zero, List.set_cons_succ, i64_w, i32_w]
                                    rfl
                                  refine one_ (i := 15) (N := some 98) #[true, true, true, true, true, true, true, true, true, true, true, true, true, true, true, true, false, false] rfl rfl (one_of HT_.out (by kernel_rfl)) (by decide) (fun K hK => ?_)
                                  refine goes_ Try.func12 (by kernel_rfl) rfl #[] (by rfl) rfl rfl (by (try simp only [List.map_toArray, List.map_cons, List.map_nil]); first | done | rfl | (simp only [List.length_drop, List.length_take]; rfl)) ?_
                                  with_reducible refine (withylaw16_fixed.calls  t303 _ A40.out).mono ?_
                                  rintro e w51 ⟨rfl, hb⟩
                                  have HS0_ := (hb.cell (World.block_lt_of_cell? _ _ (hHeld.1))).trans (hHeld.1)
                                  have HS1_ := (hb.cell (World.block_lt_of_cell? _ _ (hHeld.2))).trans (hHeld.2)
                                  refine ⟨_, rfl, ?_⟩
                                  have n0_ := Aside0.mk (Kd.R_below (by (with_reducible repeat (first | apply Kd.R_alloc | apply Kd.R_drewN | apply Kd.R_drew)); exact HO_0.out) hb)
                                  have n1_ := Aside0.mk (Kd.R_below (by (with_reducible repeat (first | apply Kd.R_alloc | apply Kd.R_drewN | apply Kd.R_drew)); exact HO_5.out) hb)
                                  have n2_ := Aside0.mk (Kd.R_below (by (with_reducible repeat (first | apply Kd.R_alloc | apply Kd.R_drewN | apply Kd.R_drew)); exact HO289.out) hb)
                                  have n3_ := Aside0.mk (Kd.R_below (by (with_reducible repeat (first | apply Kd.R_alloc | apply Kd.R_drewN | apply Kd.R_drew)); exact HO293.out) hb)
                                  have n4_ := Aside0.mk (Kd.R_below (by (with_reducible repeat (first | apply Kd.R_alloc | apply Kd.R_drewN | apply Kd.R_drew)); exact HO296.out) hb)
                                  have n5_ := Aside0.mk (Kd.R_below (by (with_reducible repeat (first | apply Kd.R_alloc | apply Kd.R_drewN | apply Kd.R_drew)); exact HO299.out) hb)
                                  have n6_ := Aside0.mk (below_step (by repeat (first | (with_reducible first | exact HB.out | apply below_alloc | apply pw_below_drewN | apply below_drew1) | exact HB.out)) hb)
                                  clear HO_0
                                  clear HO_5
                                  clear HO289
                                  clear HO293
                                  clear HO296
                                  clear HO299
                                  clear HB
                                  have HO_0 := n0_
                                  have HO_5 := n1_
                                  have HO289 := n2_
                                  have HO293 := n3_
                                  have HO296 := n4_
                                  have HO299 := n5_
                                  have HB := n6_
                                  clear n0_ n1_ n2_ n3_ n4_ n5_ n6_
                                  (try clear hb)
                                  (try clear hb2)
                                  (try clear hk)
                                  (try clear hi)
                                  refine hK.out _ _ ⟨HS0_, HS1_⟩ (fun hHeld => ?_)
                                  clear hK K
                                  refine norm_ (a' := ?_) ?_ ?_
                                  rotate_left
                                  · show Act.put _ (some 98) _ = _
                                    simp only [Act.put, List.setIfInBounds_toArray, List.set_cons_zero, List.set_cons_succ, i64_w, i32_w]
                                    rfl
                                  refine pure_ (i := 16) (N := some 99) (v := ?_) (a' := ?_) #[true, true, true, true, true, true, true, true, true, true, true, true, true, true, true, true, true, false] rfl rfl (any_of HT_.out (by kernel_rfl)) (fun _ _ _ h => h) (Or.inl ⟨by rfl, ?_⟩) ?_ ?_
                                  rotate_left
                                  · intro w'
                                    go_simp
                                    with_reducible rfl
                                  rotate_left
                                  · simp only [Act.put, List.setIfInBounds_toArray, List.set_cons_zero, List.set_cons_succ, i64_w, i32_w]
                                    rfl
                                  refine pure_ (i := 17) (N := some 4) (v := ?_) (a' := ?_) #[true, true, true, true, true, true, true, true, true, true, true, true, true, true, true, true, true, true] rfl rfl (any_of HT_.out (by kernel_rfl)) (fun _ _ _ h => h) (Or.inl ⟨by rfl, ?_⟩) ?_ ?_
                                  rotate_left
                                  · intro w'
                                    go_simp
                                    with_reducible rfl
                                  rotate_left
                                  · simp only [Act.put, List.setIfInBounds_toArray, List.set_cons_zero, List.set_cons_succ, i64_w, i32_w]
                                    rfl
                                  refine done_ (done_of HT_.out (by kernel_rfl)) ?_
                                  try go_wp2
                                  go_ret
                                  exact ⟨by first | rfl | (simp [errW_none, errW_some] <;> rfl) | (simp only [← hji3]; first | rfl | (simp [errW_none, errW_some] <;> rfl)) | (simp [*, errW_none, errW_some] <;> rfl), by repeat (first | (with_reducible first | exact HB.out | apply below_alloc | apply pw_below_drewN | apply below_drew1) | exact HB.out)⟩
                                · rw [if_neg c39] at H
                                  have c39b0 : decide ((rd t297 0) ≤ (rd t294 0)) = false := decide_eq_false c39
                                  clear c39
                                  exact absurd H (by simp)
                              · rw [if_neg c38] at H
                                exact absurd H (by simp)
                            · rw [if_neg c37] at H
                              exact absurd H (by simp)
                          · rw [if_neg c36] at H
                            have c36b0 : decide ((t294.length : Int) ≤ (t297.length : Int)) = false := decide_eq_false c36
                            have c36b1 : decide (t294.length ≤ t297.length) = false := decide_eq_false (fun h => c36 (Int.ofNat_le.mpr h))
                            clear c36
                            exact absurd H (by simp)
                        · replace c35 := Bool.eq_false_iff.mpr c35
                          subst c35
                          have H1 : (none) = some r := by rw [if_neg (show ¬ (false = true) by decide)] at H; exact H
                          clear H
                          have H := H1
                          clear H1
                          exact absurd H (by simp)
                      · rw [if_neg c33] at H
                        have c33b0 : ((a1.extract 0 ((ji3) : Int).toNat).toList == ([] : List UInt8)) = false := beq_eq_false_iff_ne.mpr c33
                        try (have c33b0e := c33b0; simp only [show ∀ l : List UInt8, (l == []) = l.isEmpty from fun l => by cases l <;> rfl] at c33b0e)
                        have c33b1 : ((a1.extract 0 ((ji3) : Int).toNat).toList != ([] : List UInt8)) = true := bne_iff_ne.mpr c33
                        by_cases c52 : (t297.length : Int) ≥ (t294.length : Int)
                        · rw [if_pos c52] at H
                          have c52b0 : decide ((t294.length : Int) ≤ (t297.length : Int)) = true := decide_eq_true c52
                          have c52b1 : decide (t294.length ≤ t297.length) = true := decide_eq_true (Int.ofNat_le.mp c52)
                          clear c52
                          by_cases c53 : 0 < (t297.length : Int)
                          · rw [if_pos c53] at H
                            have c53b0 : decide (0 < (t297.length : Int)) = true := decide_eq_true c53
                            have c53b1 : decide (0 < t297.length) = true := decide_eq_true (by omega)
                            clear c53
                            by_cases c54 : 0 < (t294.length : Int)
                            · rw [if_pos c54] at H
                              have c54b0 : decide (0 < (t294.length : Int)) = true := decide_eq_true c54
                              have c54b1 : decide (0 < t294.length) = true := decide_eq_true (by omega)
                              clear c54
                              by_cases c55 : (rd t297 0) ≤ (rd t294 0)
                              · rw [if_pos c55] at H
                                have c55b0 : decide ((rd t297 0) ≤ (rd t294 0)) = true := decide_eq_true c55
                                clear c55
                                replace H := Option.bind_eq_some_iff.mp H
                                obtain ⟨t306, A560, H⟩ := H
                                replace H : (some t306) = some r := H
                                have A56 := Aside0.mk A560
                                clear A560
                                obtain rfl := Option.some.inj H
                                try go_wp2_with (first | ((with_reducible refine gate_callee (f := 9) rfl ?_); refine goesL_ (some 53) rfl rfl Try.func9 (by kernel_rfl) rfl #[.slice Ao18 t273.length co18, .int .i64 1, .int .i64 128] rfl (by (try simp only [List.map_toArray, List.map_cons, List.map_nil]); first | done | rfl | (simp only [List.length_drop, List.length_take]; rfl)) ?_; (with_reducible refine (pack_Items.calls kj16 _ _ t273 1 128 t286 t287 _ ?side1 ?side2 A27.out).mono ?_); (case side1 => repeat (first | exact (Kd.R_reads' HO_0.out).2.2 | (with_reducible refine Kd.C_alloc ?_ _) | (with_reducible refine Kd.C_drewN ?_ _) | (with_reducible refine Kd.C_drew ?_))); (case side2 => exact (Kd.R_reads' HO_0.out).2.1); rintro e w57 ⟨v288, rfl, ho0, hb⟩; refine ⟨_, rfl, ?_⟩; have n0_ := Aside0.mk (Kd.R_below (by (with_reducible repeat (first | apply Kd.R_alloc | apply Kd.R_drewN | apply Kd.R_drew)); exact HO_0.out) hb); have n1_ := Aside0.mk (Kd.R_below (by (with_reducible repeat (first | apply Kd.R_alloc | apply Kd.R_drewN | apply Kd.R_drew)); exact HO_5.out) hb); have n2_ := Aside0.mk (Kd.R_lower ho0 (below_size (by repeat (first | (with_reducible first | exact HB.out | apply below_alloc | apply pw_below_drewN | apply below_drew1) | exact HB.out)))); have n3_ := Aside0.mk (below_step (by repeat (first | (with_reducible first | exact HB.out | apply below_alloc | apply pw_below_drewN | apply below_drew1) | exact HB.out)) hb); clear HO_0; clear HO_5; clear HB; have HO_0 := n0_; have HO_5 := n1_; have HO289 := n2_; have HB := n3_; clear n0_ n1_ n2_ n3_; (try clear hb); (try clear hb2); (try clear hk); (try clear hi); (try clear ho0); obtain ⟨Ao58, co58, eo58⟩ := Kd.R_slice HO_5.out; subst eo58) | ((with_reducible refine gate_callee (f := 9) rfl ?_); refine goesL_ (some 58) rfl rfl Try.func9 (by kernel_rfl) rfl #[.slice Ao58 x5_1.length co58, .int .i64 1, .int .i64 128] rfl (by (try simp only [List.map_toArray, List.map_cons, List.map_nil]); first | done | rfl | (simp only [List.length_drop, List.length_take]; rfl)) ?_; (with_reducible refine (pack_Items.calls kj16 _ _ x5_1 1 128 t290 t291 _ ?side1 ?side2 A28.out).mono ?_); (case side1 => repeat (first | exact (Kd.R_reads' HO_5.out).2.2 | (with_reducible refine Kd.C_alloc ?_ _) | (with_reducible refine Kd.C_drewN ?_ _) | (with_reducible refine Kd.C_drew ?_))); (case side2 => exact (Kd.R_reads' HO_5.out).2.1); rintro e w59 ⟨v292, rfl, ho0, hb⟩; refine ⟨_, rfl, ?_⟩; have n0_ := Aside0.mk (Kd.R_below (by (with_reducible repeat (first | apply Kd.R_alloc | apply Kd.R_drewN | apply Kd.R_drew)); exact HO_0.out) hb); have n1_ := Aside0.mk (Kd.R_below (by (with_reducible repeat (first | apply Kd.R_alloc | apply Kd.R_drewN | apply Kd.R_drew)); exact HO_5.out) hb); have n2_ := Aside0.mk (Kd.R_elder' (by (with_reducible repeat (first | apply Kd.R_alloc | apply Kd.R_drewN | apply Kd.R_drew)); exact HO289.out) (Kd.R_base ho0) hb); have n3_ := Aside0.mk (Kd.R_lower (Kd.R_new' ho0 (Kd.R_lt (by (with_reducible repeat (first | apply Kd.R_alloc | apply Kd.R_drewN | apply Kd.R_drew)); exact HO289.out))) (below_size (by repeat (first | (with_reducible first | exact HB.out | apply below_alloc | apply pw_below_drewN | apply below_drew1) | exact HB.out)))); have n4_ := Aside0.mk (below_step (by repeat (first | (with_reducible first | exact HB.out | apply below_alloc | apply pw_below_drewN | apply below_drew1) | exact HB.out)) hb); clear HO_0; clear HO_5; clear HO289; clear HB; have HO_0 := n0_; have HO_5 := n1_; have HO289 := n2_; have HO293 := n3_; have HB := n4_; clear n0_ n1_ n2_ n3_ n4_; (try clear hb); (try clear hb2); (try clear hk); (try clear hi); (try clear ho0); obtain ⟨Ao60, co60, eo60⟩ := Kd.R_slice HO289.out; subst eo60) | ((with_reducible refine gate_callee (f := 13) rfl ?_); refine goesL_ (some 62) rfl rfl Try.func13 (by kernel_rfl) rfl #[.slice Ao60 t286.length co60, .int .i64 128] rfl (by (try simp only [List.map_toArray, List.map_cons, List.map_nil]); first | done | rfl | (simp only [List.length_drop, List.length_take]; rfl)) ?_; (with_reducible refine (pack_Group.calls _ _ t286 128 t294 _ ?side1 ?side2 A29.out).mono ?_); (case side1 => repeat (first | exact (Kd.R_reads' HO289.out).2.2 | (with_reducible refine Kd.C_alloc ?_ _) | (with_reducible refine Kd.C_drewN ?_ _) | (with_reducible refine Kd.C_drew ?_))); (case side2 => exact (Kd.R_reads' HO289.out).2.1); rintro e w61 ⟨v295, rfl, ho0, hb⟩; refine ⟨_, rfl, ?_⟩; have n0_ := Aside0.mk (Kd.R_below (by (with_reducible repeat (first | apply Kd.R_alloc | apply Kd.R_drewN | apply Kd.R_drew)); exact HO_0.out) hb); have n1_ := Aside0.mk (Kd.R_below (by (with_reducible repeat (first | apply Kd.R_alloc | apply Kd.R_drewN | apply Kd.R_drew)); exact HO_5.out) hb); have n2_ := Aside0.mk (Kd.R_below (by (with_reducible repeat (first | apply Kd.R_alloc | apply Kd.R_drewN | apply Kd.R_drew)); exact HO289.out) hb); have n3_ := Aside0.mk (Kd.R_below (by (with_reducible repeat (first | apply Kd.R_alloc | apply Kd.R_drewN | apply Kd.R_drew)); exact HO293.out) hb); have n4_ := Aside0.mk (Kd.R_lower ho0 (below_size (by repeat (first | (with_reducible first | exact HB.out | apply below_alloc | apply pw_below_drewN | apply below_drew1) | exact HB.out)))); have n5_ := Aside0.mk (below_step (by repeat (first | (with_reducible first | exact HB.out | apply below_alloc | apply pw_below_drewN | apply below_drew1) | exact HB.out)) hb); clear HO_0; clear HO_5; clear HO289; clear HO293; clear HB; have HO_0 := n0_; have HO_5 := n1_; have HO289 := n2_; have HO293 := n3_; have HO296 := n4_; have HB := n5_; clear n0_ n1_ n2_ n3_ n4_ n5_; (try clear hb); (try clear hb2); (try clear hk); (try clear hi); (try clear ho0); obtain ⟨Ao62, co62, eo62⟩ := Kd.R_slice HO293.out; subst eo62) | ((with_reducible refine gate_callee (f := 13) rfl ?_); refine goesL_ (some 64) rfl rfl Try.func13 (by kernel_rfl) rfl #[.slice Ao62 t290.length co62, .int .i64 128] rfl (by (try simp only [List.map_toArray, List.map_cons, List.map_nil]); first | done | rfl | (simp only [List.length_drop, List.length_take]; rfl)) ?_; (with_reducible refine (pack_Group.calls _ _ t290 128 t297 _ ?side1 ?side2 A30.out).mono ?_); (case side1 => repeat (first | exact (Kd.R_reads' HO293.out).2.2 | (with_reducible refine Kd.C_alloc ?_ _) | (with_reducible refine Kd.C_drewN ?_ _) | (with_reducible refine Kd.C_drew ?_))); (case side2 => exact (Kd.R_reads' HO293.out).2.1); rintro e w63 ⟨v298, rfl, ho0, hb⟩; refine ⟨_, rfl, ?_⟩; have n0_ := Aside0.mk (Kd.R_below (by (with_reducible repeat (first | apply Kd.R_alloc | apply Kd.R_drewN | apply Kd.R_drew)); exact HO_0.out) hb); have n1_ := Aside0.mk (Kd.R_below (by (with_reducible repeat (first | apply Kd.R_alloc | apply Kd.R_drewN | apply Kd.R_drew)); exact HO_5.out) hb); have n2_ := Aside0.mk (Kd.R_below (by (with_reducible repeat (first | apply Kd.R_alloc | apply Kd.R_drewN | apply Kd.R_drew)); exact HO289.out) hb); have n3_ := Aside0.mk (Kd.R_below (by (with_reducible repeat (first | apply Kd.R_alloc | apply Kd.R_drewN | apply Kd.R_drew)); exact HO293.out) hb); have n4_ := Aside0.mk (Kd.R_elder' (by (with_reducible repeat (first | apply Kd.R_alloc | apply Kd.R_drewN | apply Kd.R_drew)); exact HO296.out) (Kd.R_base ho0) hb); have n5_ := Aside0.mk (Kd.R_lower (Kd.R_new' ho0 (Kd.R_lt (by (with_reducible repeat (first | apply Kd.R_alloc | apply Kd.R_drewN | apply Kd.R_drew)); exact HO296.out))) (below_size (by repeat (first | (with_reducible first | exact HB.out | apply below_alloc | apply pw_below_drewN | apply below_drew1) | exact HB.out)))); have n6_ := Aside0.mk (below_step (by repeat (first | (with_reducible first | exact HB.out | apply below_alloc | apply pw_below_drewN | apply below_drew1) | exact HB.out)) hb); clear HO_0; clear HO_5; clear HO289; clear HO293; clear HO296; clear HB; have HO_0 := n0_; have HO_5 := n1_; have HO289 := n2_; have HO293 := n3_; have HO296 := n4_; have HO299 := n5_; have HB := n6_; clear n0_ n1_ n2_ n3_ n4_ n5_ n6_; (try clear hb); (try clear hb2); (try clear hk); (try clear hi); (try clear ho0); obtain ⟨Ao64, co64, eo64⟩ := Kd.R_slice HO296.out; subst eo64; obtain ⟨Ao65, co65, eo65⟩ := Kd.R_slice HO299.out; subst eo65))
                                have n0_ := Aside0.mk (Kd.R_drew HO_0.out)
                                have n1_ := Aside0.mk (Kd.R_drew HO_5.out)
                                have n2_ := Aside0.mk (Kd.R_drew HO289.out)
                                have n3_ := Aside0.mk (Kd.R_drew HO293.out)
                                have n4_ := Aside0.mk (Kd.R_drew HO296.out)
                                have n5_ := Aside0.mk (Kd.R_drew HO299.out)
                                have n6_ := Aside0.mk (below_drew1 HB.out)
                                clear HO_0
                                clear HO_5
                                clear HO289
                                clear HO293
                                clear HO296
                                clear HO299
                                clear HB
                                have HO_0 := n0_
                                have HO_5 := n1_
                                have HO289 := n2_
                                have HO293 := n3_
                                have HO296 := n4_
                                have HO299 := n5_
                                have HB := n6_
                                clear n0_ n1_ n2_ n3_ n4_ n5_ n6_
                                have p304 : 0 ≤ (0 : Int) := (by omega)
                                have q304 : 0 < (t297.length : Int) := of_decide_eq_true (by first | (with_reducible assumption) | assumption)
                                obtain ⟨ad304, e304, hx304_0⟩ := Kd.at_int (Kd.R_reads' HO299.out).2.2 0 p304 q304
                                cases e304
                                have qi304 : (0 < t297.length) = True := eq_true (by omega)
                                (try rw [show ((0 : Int)).toNat = 0 from rfl] at hx304_0)
                                (try rw [Addr.add_zero'] at hx304_0)
                                replace p304 := eq_true p304
                                replace q304 := eq_true q304
                                have p305 : 0 ≤ (0 : Int) := (by omega)
                                have q305 : 0 < (t294.length : Int) := of_decide_eq_true (by first | (with_reducible assumption) | assumption)
                                obtain ⟨ad305, e305, hx305_0⟩ := Kd.at_int (Kd.R_reads' HO296.out).2.2 0 p305 q305
                                cases e305
                                have qi305 : (0 < t294.length) = True := eq_true (by omega)
                                (try rw [show ((0 : Int)).toNat = 0 from rfl] at hx305_0)
                                (try rw [Addr.add_zero'] at hx305_0)
                                replace p305 := eq_true p305
                                replace q305 := eq_true q305
                                refine start_ (n := 18) (S := fun w' => w'.cell? ad304 = some (.int .i64 (rd t297 0)) ∧ w'.cell? ad305 = some (.int .i64 (rd t294 0))) (ds := []) #[false, false, false, false, false, false, false, false, false, false, false, false, false, false, false, false, false, false] (by kernel_rfl) rfl rfl ⟨hx304_0, hx305_0⟩ (fun hHeld => ?_); refine with_tabW withylaw16_PackStem.tab15 withylaw16_PackStem.bits15 (fun HT_ HW_ => ?_)
                                generalize w63.drew = w66 at HO_0 HO_5 HO289 HO293 HO296 HO299 HB hx304_0 hx305_0 hHeld ⊢
                                refine pure_ (i := 0) (N := some 83) (v := ?_) (a' := ?_) #[true, false, false, false, false, false, false, false, false, false, false, false, false, false, false, false, false, false] rfl rfl (any_of HT_.out (by kernel_rfl)) (fun _ _ _ h => h) (Or.inl ⟨by rfl, ?_⟩) ?_ ?_
                                rotate_left
                                · intro w'
                                  go_simp
                                  with_reducible rfl
                                rotate_left
                                · simp only [Act.put, List.setIfInBounds_toArray, List.set_cons_zero, List.set_cons_succ, i64_w, i32_w]
                                  rfl
                                refine pure_ (i := 1) (N := some 84) (v := ?_) (a' := ?_) #[true, true, false, false, false, false, false, false, false, false, false, false, false, false, false, false, false, false] rfl rfl (any_of HT_.out (by kernel_rfl)) (fun _ _ _ h => h) (Or.inl ⟨by rfl, ?_⟩) ?_ ?_
                                rotate_left
                                · intro w'
                                  go_simp
                                  with_reducible rfl
                                rotate_left
                                · simp only [Act.put, List.setIfInBounds_toArray, List.set_cons_zero, List.set_cons_succ, i64_w, i32_w]
                                  rfl
                                refine pure_ (i := 2) (N := some 85) (v := ?_) (a' := ?_) #[true, true, true, false, false, false, false, false, false, false, false, false, false, false, false, false, false, false] rfl rfl (any_of HT_.out (by kernel_rfl)) (fun _ _ _ h => h) (Or.inl ⟨by rfl, ?_⟩) ?_ ?_
                                rotate_left
                                · intro w'
                                  go_simp
                                  with_reducible rfl
                                rotate_left
                                · simp only [Act.put, List.setIfInBounds_toArray, List.set_cons_zero, List.set_cons_succ, i64_w, i32_w]
                                  rfl
                                refine pure_ (i := 3) (N := some 86) (v := ?_) (a' := ?_) #[true, true, true, true, false, false, false, false, false, false, false, false, false, false, false, false, false, false] rfl rfl (any_of HT_.out (by kernel_rfl)) (fun _ _ _ h => h) (Or.inl ⟨by rfl, ?_⟩) ?_ ?_
                                rotate_left
                                · intro w'
                                  go_simp
                                  with_reducible rfl
                                rotate_left
                                · simp only [Act.put, List.setIfInBounds_toArray, List.set_cons_zero, List.set_cons_succ, i64_w, i32_w]
                                  rfl
                                refine pure_ (i := 4) (N := some 87) (v := ?_) (a' := ?_) #[true, true, true, true, true, false, false, false, false, false, false, false, false, false, false, false, false, false] rfl rfl (any_of HT_.out (by kernel_rfl)) (fun _ _ _ h => h) (Or.inl ⟨by rfl, ?_⟩) ?_ ?_
                                rotate_left
                                · intro w'
                                  go_simp
                                  with_reducible rfl
                                rotate_left
                                · simp only [Act.put, List.setIfInBounds_toArray, List.set_cons_zero, List.set_cons_succ, i64_w, i32_w]
                                  rfl
                                refine pure_ (i := 5) (N := some 88) (v := ?_) (a' := ?_) #[true, true, true, true, true, true, false, false, false, false, false, false, false, false, false, false, false, false] rfl rfl (any_of HT_.out (by kernel_rfl)) (fun _ _ _ h => h) (Or.inl ⟨by rfl, ?_⟩) ?_ ?_
                                rotate_left
                                · intro w'
                                  go_simp
                                  with_reducible rfl
                                rotate_left
                                · simp only [Act.put, List.setIfInBounds_toArray, List.set_cons_zero, List.set_cons_succ, i64_w, i32_w]
                                  rfl
                                refine pure_ (i := 6) (N := some 89) (v := ?_) (a' := ?_) #[true, true, true, true, true, true, true, false, false, false, false, false, false, false, false, false, false, false] rfl rfl (any_of HT_.out (by kernel_rfl)) (fun _ _ _ h => h) (Or.inl ⟨by rfl, ?_⟩) ?_ ?_
                                rotate_left
                                · intro w'
                                  go_simp
                                  with_reducible rfl
                                rotate_left
                                · simp only [Act.put, List.setIfInBounds_toArray, List.set_cons_zero, List.set_cons_succ, i64_w, i32_w]
                                  rfl
                                refine pure_ (i := 7) (N := some 90) (v := ?_) (a' := ?_) #[true, true, true, true, true, true, true, true, false, false, false, false, false, false, false, false, false, false] rfl rfl (any_of HT_.out (by kernel_rfl)) (fun _ _ _ h => h) (Or.inl ⟨by rfl, ?_⟩) ?_ ?_
                                rotate_left
                                · intro w'
                                  go_simp
                                  with_reducible rfl
                                rotate_left
                                · simp only [Act.put, List.setIfInBounds_toArray, List.set_cons_zero, List.set_cons_succ, i64_w, i32_w]
                                  rfl
                                refine pure_ (i := 9) (N := some 92) (v := ?_) (a' := ?_) #[true, true, true, true, true, true, true, true, false, true, false, false, false, false, false, false, false, false] rfl rfl (any_of HT_.out (by kernel_rfl)) (fun _ _ _ h => h) (Or.inl ⟨by rfl, ?_⟩) ?_ ?_
                                rotate_left
                                · intro w'
                                  go_simp
                                  with_reducible rfl
                                rotate_left
                                · simp only [Act.put, List.setIfInBounds_toArray, List.set_cons_zero, List.set_cons_succ, i64_w, i32_w]
                                  rfl
                                refine pure_ (i := 10) (N := some 93) (v := ?_) (a' := ?_) #[true, true, true, true, true, true, true, true, false, true, true, false, false, false, false, false, false, false] rfl rfl (any_of HT_.out (by kernel_rfl)) (fun _ _ _ h => h) (Or.inl ⟨by rfl, ?_⟩) ?_ ?_
                                rotate_left
                                · intro w'
                                  go_simp
                                  with_reducible rfl
                                rotate_left
                                · simp only [Act.put, List.setIfInBounds_toArray, List.set_cons_zero, List.set_cons_succ, i64_w, i32_w]
                                  rfl
                                refine take_ (i := 8) (N := some 91) (v := ?_) (a' := ?_) #[true, true, true, true, true, true, true, true, true, true, true, false, false, false, false, false, false, false] rfl rfl (take_ofW HT_.out HW_.out (by kernel_rfl)) (fun _ _ _ h => h) (Or.inl ⟨by rfl, ?_⟩) hHeld ?_ ?_
                                rotate_left
                                · rintro w' ⟨s0, s1⟩
                                  go_simp
                                  with_reducible rfl
                                rotate_left
                                · simp only [Act.put, List.setIfInBounds_toArray, List.set_cons_zero, List.set_cons_succ, i64_w, i32_w]
                                  rfl
                                refine take_ (i := 11) (N := some 94) (v := ?_) (a' := ?_) #[true, true, true, true, true, true, true, true, true, true, true, true, false, false, false, false, false, false] rfl rfl (take_ofW HT_.out HW_.out (by kernel_rfl)) (fun _ _ _ h => h) (Or.inl ⟨by rfl, ?_⟩) hHeld ?_ ?_
                                rotate_left
                                · rintro w' ⟨s0, s1⟩
                                  go_simp
                                  with_reducible rfl
                                rotate_left
                                · simp only [Act.put, List.setIfInBounds_toArray, List.set_cons_zero, List.set_cons_succ, i64_w, i32_w]
                                  rfl
                                refine pure_ (i := 12) (N := some 95) (v := ?_) (a' := ?_) #[true, true, true, true, true, true, true, true, true, true, true, true, true, false, false, false, false, false] rfl rfl (any_of HT_.out (by kernel_rfl)) (fun _ _ _ h => h) (Or.inl ⟨by rfl, ?_⟩) ?_ ?_
                                rotate_left
                                · intro w'
                                  go_simp
                                  with_reducible rfl
                                rotate_left
                                · simp only [Act.put, List.setIfInBounds_toArray, List.set_cons_zero, List.set_cons_succ, i64_w, i32_w]
                                  rfl
                                refine pure_ (i := 13) (N := some 96) (v := ?_) (a' := ?_) #[true, true, true, true, true, true, true, true, true, true, true, true, true, true, false, false, false, false] rfl rfl (any_of HT_.out (by kernel_rfl)) (fun _ _ _ h => h) (Or.inl ⟨by rfl, ?_⟩) ?_ ?_
                                rotate_left
                                · intro w'
                                  go_simp
                                  with_reducible rfl
                                rotate_left
                                · simp only [Act.put, List.setIfInBounds_toArray, List.set_cons_zero, List.set_cons_succ, i64_w, i32_w]
                                  rfl
                                refine pure_ (i := 14) (N := some 97) (v := ?_) (a' := ?_) #[true, true, true, true, true, true, true, true, true, true, true, true, true, true, true, false, false, false] rfl rfl (any_of HT_.out (by kernel_rfl)) (fun _ _ _ h => h) (Or.inl ⟨by rfl, ?_⟩) ?_ ?_
                                rotate_left
                                · intro w'
                                  go_simp
                                  with_reducible rfl
                                rotate_left
                                · simp only [Act.put, List.setIfInBounds_toArray, List.set_cons_zero, List.set_cons_succ, i64_w, i32_w]
                                  rfl
                                refine one_ (i := 15) (N := some 98) #[true, true, true, true, true, true, true, true, true, true, true, true, true, true, true, true, false, false] rfl rfl (one_of HT_.out (by kernel_rfl)) (by decide) (fun K hK => ?_)
                                refine goes_ Try.func12 (by kernel_rfl) rfl #[] (by rfl) rfl rfl (by (try simp only [List.map_toArray, List.map_cons, List.map_nil]); first | done | rfl | (simp only [List.length_drop, List.length_take]; rfl)) ?_
                                with_reducible refine (withylaw16_fixed.calls  t306 _ A56.out).mono ?_
                                rintro e w67 ⟨rfl, hb⟩
                                have HS0_ := (hb.cell (World.block_lt_of_cell? _ _ (hHeld.1))).trans (hHeld.1)
                                have HS1_ := (hb.cell (World.block_lt_of_cell? _ _ (hHeld.2))).trans (hHeld.2)
                                refine ⟨_, rfl, ?_⟩
                                have n0_ := Aside0.mk (Kd.R_below (by (with_reducible repeat (first | apply Kd.R_alloc | apply Kd.R_drewN | apply Kd.R_drew)); exact HO_0.out) hb)
                                have n1_ := Aside0.mk (Kd.R_below (by (with_reducible repeat (first | apply Kd.R_alloc | apply Kd.R_drewN | apply Kd.R_drew)); exact HO_5.out) hb)
                                have n2_ := Aside0.mk (Kd.R_below (by (with_reducible repeat (first | apply Kd.R_alloc | apply Kd.R_drewN | apply Kd.R_drew)); exact HO289.out) hb)
                                have n3_ := Aside0.mk (Kd.R_below (by (with_reducible repeat (first | apply Kd.R_alloc | apply Kd.R_drewN | apply Kd.R_drew)); exact HO293.out) hb)
                                have n4_ := Aside0.mk (Kd.R_below (by (with_reducible repeat (first | apply Kd.R_alloc | apply Kd.R_drewN | apply Kd.R_drew)); exact HO296.out) hb)
                                have n5_ := Aside0.mk (Kd.R_below (by (with_reducible repeat (first | apply Kd.R_alloc | apply Kd.R_drewN | apply Kd.R_drew)); exact HO299.out) hb)
                                have n6_ := Aside0.mk (below_step (by repeat (first | (with_reducible first | exact HB.out | apply below_alloc | apply pw_below_drewN | apply below_drew1) | exact HB.out)) hb)
                                clear HO_0
                                clear HO_5
                                clear HO289
                                clear HO293
                                clear HO296
                                clear HO299
                                clear HB
                                have HO_0 := n0_
                                have HO_5 := n1_
                                have HO289 := n2_
                                have HO293 := n3_
                                have HO296 := n4_
                                have HO299 := n5_
                                have HB := n6_
                                clear n0_ n1_ n2_ n3_ n4_ n5_ n6_
                                (try clear hb)
                                (try clear hb2)
                                (try clear hk)
                                (try clear hi)
                                refine hK.out _ _ ⟨HS0_, HS1_⟩ (fun hHeld => ?_)
                                clear hK K
                                refine norm_ (a' := ?_) ?_ ?_
                                rotate_left
                                · show Act.put _ (some 98) _ = _
                                  simp only [Act.put, List.setIfInBounds_toArray, List.set_cons_zero, List.set_cons_succ, i64_w, i32_w]
                                  rfl
                                refine pure_ (i := 16) (N := some 99) (v := ?_) (a' := ?_) #[true, true, true, true, true, true, true, true, true, true, true, true, true, true, true, true, true, false] rfl rfl (any_of HT_.out (by kernel_rfl)) (fun _ _ _ h => h) (Or.inl ⟨by rfl, ?_⟩) ?_ ?_
                                rotate_left
                                · intro w'
                                  go_simp
                                  with_reducible rfl
                                rotate_left
                                · simp only [Act.put, List.setIfInBounds_toArray, List.set_cons_zero, List.set_cons_succ, i64_w, i32_w]
                                  rfl
                                refine pure_ (i := 17) (N := some 4) (v := ?_) (a' := ?_) #[true, true, true, true, true, true, true, true, true, true, true, true, true, true, true, true, true, true] rfl rfl (any_of HT_.out (by kernel_rfl)) (fun _ _ _ h => h) (Or.inl ⟨by rfl, ?_⟩) ?_ ?_
                                rotate_left
                                · intro w'
                                  go_simp
                                  with_reducible rfl
                                rotate_left
                                · simp only [Act.put, List.setIfInBounds_toArray, List.set_cons_zero, List.set_cons_succ, i64_w, i32_w]
                                  rfl
                                refine done_ (done_of HT_.out (by kernel_rfl)) ?_
                                try go_wp2
                                go_ret
                                exact ⟨by first | rfl | (simp [errW_none, errW_some] <;> rfl) | (simp only [← hji3]; first | rfl | (simp [errW_none, errW_some] <;> rfl)) | (simp [*, errW_none, errW_some] <;> rfl), by repeat (first | (with_reducible first | exact HB.out | apply below_alloc | apply pw_below_drewN | apply below_drew1) | exact HB.out)⟩
                              · rw [if_neg c55] at H
                                have c55b0 : decide ((rd t297 0) ≤ (rd t294 0)) = false := decide_eq_false c55
                                clear c55
                                exact absurd H (by simp)
                            · rw [if_neg c54] at H
                              exact absurd H (by simp)
                          · rw [if_neg c53] at H
                            exact absurd H (by simp)
                        · rw [if_neg c52] at H
                          have c52b0 : decide ((t294.length : Int) ≤ (t297.length : Int)) = false := decide_eq_false c52
                          have c52b1 : decide (t294.length ≤ t297.length) = false := decide_eq_false (fun h => c52 (Int.ofNat_le.mpr h))
                          clear c52
                          exact absurd H (by simp)
    · rw [if_neg c5] at H
      exact absurd H (by simp)
  · rw [if_neg c4] at H
    exact absurd H (by simp)

end Go.Proofs.Ytmheajenlhlbhaa.X

-- Plain law of PackStem: true of every input.
namespace Go.Proofs.Ytmheajenlhlbhaa.X
open Go.RowKit Go.Proofs.YtmheajenlhlbhaaW.PrintWords Go.Proofs.YtmheajenlhlbhaaW.PrintLast Go.Proofs.YtmheajenlhlbhaaW.PrintMore

/-! ### what parts two leaves -/
theorem leastB_le (a b : ByteArray) : (leastB a b).size ≤ b.size := by
  unfold leastB
  split
  · rw [ByteArray.size_extract]; omega
  · exact Nat.zero_le _
theorem leastB_stem (t a b : ByteArray) : (leastB a b).size ≤ (leastB (t ++ a) (t ++ b)).size := by
  unfold leastB
  rw [less_app]
  split
  · rw [ByteArray.size_extract, ByteArray.size_extract, ByteArray.size_append, bl_append, bl_append, common_app, bl_length]
    omega
  · exact Nat.le_refl _
theorem highB_small (l : List S35) (m : Nat) (hg : ∀ x ∈ l, x.f0.size ≤ 16) (hm : m ≤ l.length) : (highB l m).size ≤ 240 := by
  unfold highB
  by_cases h : m = 0 ∨ m = l.length
  · rw [if_pos h]; exact Nat.zero_le _
  · rw [if_neg h, rd35 (show m < l.length by omega)]
    have h1 := leastB_le (rd_T35 l ((m - 1 : Nat) : Int)).f0 l[m].f0
    have h2 := hg l[m] (List.getElem_mem _)
    omega
theorem highB_stem (t : ByteArray) (l : List S35) (m : Nat) (hm : m ≤ l.length) : (highB l m).size ≤ (highB (l.map (stemI t)) m).size := by
  unfold highB
  rw [List.length_map]
  by_cases h : m = 0 ∨ m = l.length
  · rw [if_pos h, if_pos h]; exact Nat.le_refl _
  · rw [if_neg h, if_neg h, rd35 (show m < l.length by omega), rd35 (show m - 1 < l.length by omega), rd35 (show m < (l.map (stemI t)).length by rw [List.length_map]; omega), rd35 (show m - 1 < (l.map (stemI t)).length by rw [List.length_map]; omega),
      List.getElem_map, List.getElem_map]
    exact leastB_stem _ _ _
theorem highB_cons (x : S35) (l : List S35) (m : Nat) (h1 : 1 ≤ m) (hm : m ≤ l.length) : highB (x :: l) (m + 1) = highB l m := by
  unfold highB
  rw [List.length_cons]
  by_cases h : m = l.length
  · rw [if_pos (by omega), if_pos (by omega)]
  · rw [if_neg (by omega), if_neg (by omega), rd35 (show m < l.length by omega), rd35 (show m - 1 < l.length by omega), rd35 (show m + 1 < (x :: l).length by simp; omega), rd35 (show m + 1 - 1 < (x :: l).length by simp; omega)]
    obtain ⟨n, rfl⟩ : ∃ n, m = n + 1 := ⟨m - 1, by omega⟩
    rfl

/-! ### what fits -/
def GoodL (l : List S35) : Prop := ∀ x ∈ l, Good x
theorem fits_stem (t : ByteArray) (l : List S35) (p : Int) (m : Nat) (h1 : 1 ≤ m) (hm : m ≤ l.length) (hg : GoodL l) (hg' : GoodL (l.map (stemI t))) (h : fitsN (l.map (stemI t)) p m = true) : fitsN l p m = true := by
  unfold fitsN at h ⊢
  have h := of_decide_eq_true h
  refine decide_eq_true ?_
  rw [← List.map_take] at h
  have hne : l.take m ≠ [] := by
    intro e
    have := congrArg List.length e
    rw [List.length_take, List.length_nil] at this
    omega
  have := need_stem t (highB l m) (highB (l.map (stemI t)) m) (l.take m) hne (fun y hy => hg y (List.mem_of_mem_take hy)) (fun y hy => hg' _ (List.mem_map.mpr ⟨y, List.mem_of_mem_take hy, rfl⟩))
    (highB_small l m (fun x hx => (hg x hx).1) hm) (highB_small _ m (fun x hx => (hg' x hx).1) (by rw [List.length_map]; exact hm)) (highB_stem t l m hm)
  exact Int.le_trans (Int.ofNat_le.mpr this) h
theorem mem_shorter {x y z : S35} {r : List S35} {n : Nat} (hz : z ∈ x :: y :: r.take n) : z ∈ x :: y :: r := by
  rcases List.mem_cons.mp hz with rfl | hz
  · exact List.mem_cons_self ..
  · rcases List.mem_cons.mp hz with rfl | hz
    · exact List.mem_cons_of_mem _ (List.mem_cons_self ..)
    · exact List.mem_cons_of_mem _ (List.mem_cons_of_mem _ (List.mem_of_mem_take hz))
theorem fits_cons' (x y : S35) (r : List S35) (p : Int) (n : Nat) (hm : n + 1 ≤ (y :: r).length) (hg : GoodL (x :: y :: r)) (h : fitsN (x :: y :: r) p (n + 1 + 1) = true) : fitsN (y :: r) p (n + 1) = true := by
  unfold fitsN at h ⊢
  have h := of_decide_eq_true h
  rw [highB_cons x (y :: r) (n + 1) (by omega) hm, List.take_succ_cons, List.take_succ_cons] at h
  rw [List.take_succ_cons]
  refine decide_eq_true ?_
  have hh := highB_small (y :: r) (n + 1) (fun z hz => (hg z (List.mem_cons_of_mem _ hz)).1) hm
  generalize highB (y :: r) (n + 1) = hi at h hh ⊢
  have := need_drop hi x y (r.take n) (fun z hz => hg z (mem_shorter hz)) hh
  exact Int.le_trans (Int.ofNat_le.mpr this) h
theorem fits_cons (x : S35) (l : List S35) (p : Int) (m : Nat) (h1 : 1 ≤ m) (hm : m ≤ l.length) (hg : GoodL (x :: l)) (h : fitsN (x :: l) p (m + 1) = true) : fitsN l p m = true := by
  obtain ⟨n, rfl⟩ : ∃ n, m = n + 1 := ⟨m - 1, by omega⟩
  cases l with
  | nil => simp at hm
  | cons y r => exact fits_cons' x y r p n hm hg h
theorem fits_drop (p : Int) (m : Nat) (h1 : 1 ≤ m) (d : Nat) : ∀ (l : List S35), m + d ≤ l.length → GoodL l → fitsN l p (m + d) = true → fitsN (l.drop d) p m = true := by
  induction d with
  | zero =>
    intro l _ _ h
    rw [Nat.add_zero] at h
    rw [List.drop_zero]
    exact h
  | succ d ih =>
    intro l hm hg h
    cases l with
    | nil => simp at hm
    | cons x l =>
      rw [List.drop_succ_cons]
      rw [List.length_cons] at hm
      rw [← Nat.add_assoc] at h
      exact ih l (by omega) (fun z hz => hg z (List.mem_cons_of_mem _ hz)) (fits_cons x l p (m + d) (by omega) (by omega) hg h)
theorem growN_fits (l : List S35) (p : Int) : ∀ (d n j : Nat), n < j → j ≤ growN l p d n → fitsN l p j = true
  | 0, n, j, h, h' => by rw [growN] at h'; omega
  | d + 1, n, j, h, h' => by
    rw [growN] at h'
    by_cases c : n < l.length
    · rw [if_pos c] at h'
      by_cases e : fitsN l p (n + 1) = true
      · rw [if_pos e] at h'
        by_cases q : j = n + 1
        · rw [q]; exact e
        · exact growN_fits l p d (n + 1) j (by omega) h'
      · rw [if_neg e] at h'; omega
    · rw [if_neg c] at h'; omega
theorem growN_ge (l : List S35) (p : Int) : ∀ (d n e : Nat), e ≤ l.length → e ≤ n + d → (∀ j, n < j → j ≤ e → fitsN l p j = true) → e ≤ growN l p d n ∨ e ≤ n
  | 0, n, e, _, h, _ => Or.inr (by omega)
  | d + 1, n, e, hl, h, hf => by
    by_cases q : e ≤ n
    · exact Or.inr q
    · rw [growN, if_pos (by omega), if_pos (hf (n + 1) (by omega) (by omega))]
      have hb := growN_ge l p d (n + 1) e hl (by omega) (fun j h1 h2 => hf j (by omega) h2)
      have hg := growN_bounds l p d (n + 1) (by omega)
      omega
theorem first_fits (l : List S35) (p : Int) (j : Nat) (h : 2 ≤ j) (h' : j ≤ firstN l p) : fitsN l p j = true := growN_fits l p _ _ j (by omega) h'
theorem first_ge (l : List S35) (p : Int) (e : Nat) (he : e ≤ l.length) (hf : ∀ j, 2 ≤ j → j ≤ e → fitsN l p j = true) : e ≤ firstN l p := by
  have hb := firstN_bounds l p
  have := growN_ge l p l.length (min l.length 1) e he (by omega) (fun j h1 h2 => by
    by_cases q : 2 ≤ j
    · exact hf j q h2
    · omega)
  unfold firstN at hb ⊢
  omega
theorem first_stem (t : ByteArray) (l : List S35) (p : Int) (hg : GoodL l) (hg' : GoodL (l.map (stemI t))) : firstN (l.map (stemI t)) p ≤ firstN l p := by
  have hb := firstN_bounds (l.map (stemI t)) p
  rw [List.length_map] at hb
  exact first_ge l p _ hb.2 fun j h1 h2 => fits_stem t l p j (by omega) (by omega) hg hg' (first_fits _ p j h1 h2)
theorem first_drop (l : List S35) (p : Int) (d : Nat) (hd : d ≤ l.length) (hg : GoodL l) : firstN l p ≤ d + firstN (l.drop d) p := by
  have hb := firstN_bounds l p
  by_cases q : firstN l p ≤ d
  · omega
  · have := first_ge (l.drop d) p (firstN l p - d) (by rw [List.length_drop]; omega) (fun j h1 h2 => fits_drop p j (by omega) d l (by omega) hg (first_fits l p (j + d) (by omega) (by omega)))
    omega
theorem groupN_pos (p : Int) (l : List S35) : 1 ≤ (groupN p l).length := by
  rw [groupN_eq]
  split <;> simp
theorem group_le (t : ByteArray) (p : Int) (a : List S35) (hg : GoodL a) (hg' : GoodL (a.map (stemI t))) : ∀ (n sb sa : Nat), a.length ≤ n + sb → sb ≤ sa → sa ≤ a.length →
    (groupN p (a.drop sa)).length ≤ (groupN p ((a.map (stemI t)).drop sb)).length
  | n, sb, sa, hn, h1, h2 => by
    have fa := firstN_bounds (a.drop sa) p
    rw [List.length_drop] at fa
    by_cases c : firstN (a.drop sa) p = (a.drop sa).length
    · rw [groupN_eq p (a.drop sa), if_pos c]
      exact groupN_pos p _
    · have c' := c
      rw [List.length_drop] at c'
      have hgs : GoodL (a.drop sb) := fun x hx => hg x (List.mem_of_mem_drop hx)
      have hgs' : GoodL ((a.drop sb).map (stemI t)) := fun x hx => hg' x (by rw [List.map_drop] at hx; exact List.mem_of_mem_drop hx)
      have k1 := first_stem t (a.drop sb) p hgs hgs'
      have k2 := first_drop (a.drop sb) p (sa - sb) (by rw [List.length_drop]; omega) hgs
      rw [List.drop_drop, show sb + (sa - sb) = sa by omega] at k2
      have fb := firstN_bounds ((a.drop sb).map (stemI t)) p
      rw [List.length_map, List.length_drop] at fb
      rw [groupN_eq p (a.drop sa), if_neg c, ← List.map_drop, groupN_eq p ((a.drop sb).map (stemI t)), if_neg (by rw [List.length_map, List.length_drop]; omega)]
      rw [List.length_cons, List.length_cons, List.drop_drop, ← List.map_drop, List.drop_drop]
      match n, hn with
      | 0, hn => omega
      | n + 1, hn =>
        have ih := group_le t p a hg hg' n (sb + firstN ((a.drop sb).map (stemI t)) p) (sa + firstN (a.drop sa) p) (by omega) (by omega) (by omega)
        rw [← List.map_drop] at ih
        omega

/-! ### pairs that rise -/
def Rising (l : List S30) : Prop := ∀ i (h : i + 1 < l.length), Op.bytesLess (l[i]'(by omega)).f0.toList l[i + 1].f0.toList = true
theorem Rising_snoc (acc : List S30) (x : S30) (h : Rising acc) (hx : ∀ (c : 0 < acc.length), Op.bytesLess (acc[acc.length - 1]'(by omega)).f0.toList x.f0.toList = true) : Rising (acc ++ [x]) := by
  intro i hi
  rw [List.length_append, List.length_singleton] at hi
  by_cases c : i + 1 < acc.length
  · rw [List.getElem_append_left (by omega), List.getElem_append_left c]
    exact h i c
  · have e : i = acc.length - 1 := by omega
    subst e
    rw [List.getElem_append_left (by omega)]
    have : (acc ++ [x])[acc.length - 1 + 1]'(by rw [List.length_append, List.length_singleton]; omega) = x := by
      rw [List.getElem_append_right (by omega)]
      simp
    rw [this]
    exact hx (by omega)
theorem Rise_rising (l : List S30) (p : Int) (hp : 0 ≤ p ∧ p ≤ 100000) (hl : Cutted l) : ∀ (k a : Nat) (acc : List S30), l.length + 1 ≤ a + k → a ≤ l.length → acc.length ≤ a → Rising acc →
    ∃ r, withylaw16_Rise.l0 k l p acc (a : Int) = some r ∧ Rising r
  | 0, a, acc, h, h1, _, _ => by omega
  | k + 1, a, acc, h, h1, h2, h3 => by
    have hl40 := hl.1
    have hw : wrap64 (Int.tdiv p 8) = Int.tdiv p 8 := w64i _ (by rw [Int.tdiv_eq_ediv_of_nonneg hp.1]; omega)
    unfold withylaw16_Rise.l0
    by_cases c : a < l.length
    · rw [if_pos (by omega), if_pos (by omega), rd30 c, hw]
      have keep := Rise_rising l p hp hl k (a + 1) acc (by omega) (by omega) (by omega) h3
      have more : (∀ (c : 0 < acc.length), Op.bytesLess (acc[acc.length - 1]'(by omega)).f0.toList l[a].f0.toList = true) → ∃ r, withylaw16_Rise.l0 k l p (acc ++ [(⟨l[a].f0, l[a].f1⟩ : S30)]) ((a + 1 : Nat) : Int) = some r ∧ Rising r := fun hs =>
        Rise_rising l p hp hl k (a + 1) _ (by omega) (by omega) (by simp; omega) (Rising_snoc acc _ h3 hs)
      have hw1 := w64n a (by omega)
      by_cases d : (l[a].f0.size : Int) ≤ Int.tdiv p 8
      · rw [if_pos d]
        by_cases e : acc.length = 0
        · rw [if_pos (by omega), if_pos (by omega), hw1]
          exact more (fun c => by omega)
        · rw [if_neg (by omega), w64i ((acc.length : Int) - 1) (by omega), if_pos (by omega), if_pos (by omega), show (acc.length : Int) - 1 = ((acc.length - 1 : Nat) : Int) by omega, rd30 (show acc.length - 1 < acc.length by omega)]
          split
          · rename_i hq
            rw [if_pos (by omega), hw1]
            exact more (fun _ => hq)
          · rw [hw1]
            exact keep
      · rw [if_neg d, hw1]
        exact keep
    · rw [if_neg (by omega)]
      exact ⟨acc, rfl, h3⟩
theorem Rise_full (k : Nat) (l : List S30) (p : Int) (hp : 0 ≤ p ∧ p ≤ 100000) (hk : 41 ≤ k) : ∃ r, withylaw16_Rise.f k l p = some r ∧ Cutted r ∧ (∀ x ∈ r, (x.f0.size : Int) ≤ Int.tdiv p 8) ∧ Rising r := by
  obtain ⟨r, h1, h2, h3⟩ := Rise_ok k l p hp hk
  have hc := Cut_cutted l
  obtain ⟨r', h4, h5⟩ := Rise_rising ((l.take 40).map cutP) p hp hc k 0 [] (by have := hc.1; omega) (by omega) (by simp) (fun i hi => by simp at hi)
  have : withylaw16_Rise.f k l p = some r' := by
    unfold withylaw16_Rise.f
    rw [Cut_ok k l hk]
    exact h4
  rw [h1] at this
  obtain rfl := Option.some.inj this
  exact ⟨r, h1, h2, h3, h5⟩
theorem Right_l (l : List S30) (hn : l.length ≤ 40) (hk : ∀ x ∈ l, x.f0.size ≤ 16 ∧ x.f1.size ≤ 4096) (hr : Rising l) : ∀ (k a : Nat), l.length + 1 ≤ a + k → a ≤ l.length → pack_Right.l0 k l 128 l (l.length : Int) (a : Int) = some true
  | 0, a, h, h1 => by omega
  | k + 1, a, h, h1 => by
    unfold pack_Right.l0
    by_cases c : a < l.length
    · have hx := hk l[a] (List.getElem_mem c)
      have ih := Right_l l hn hk hr k (a + 1) (by omega) (by omega)
      rw [if_pos (by omega), if_pos (by omega), if_pos (by omega), rd30 c, show wrap64 (Int.tdiv 128 8) = 16 from w64i 16 (by omega), if_neg (by omega), if_neg (by omega), w64n a (by omega)]
      by_cases d : a = 0
      · rw [if_neg (by omega)]
        exact ih
      · rw [if_pos (by omega), w64i ((a : Int) - 1) (by omega), if_pos (by omega), if_pos (by omega), show (a : Int) - 1 = ((a - 1 : Nat) : Int) by omega, rd30 (show a - 1 < l.length by omega)]
        obtain ⟨b, rfl⟩ : ∃ b, a = b + 1 := ⟨a - 1, by omega⟩
        rw [if_pos (by simpa using hr b c)]
        exact ih
    · rw [if_neg (by omega)]
theorem Right_ok (k : Nat) (l : List S30) (hn : l.length ≤ 40) (hk : ∀ x ∈ l, x.f0.size ≤ 16 ∧ x.f1.size ≤ 4096) (hr : Rising l) (h : 41 ≤ k) : pack_Right.f k l 128 = some true := by
  unfold pack_Right.f
  rw [show disk_Size.f 128 = some true by decide, Option.bind_some, if_pos rfl]
  exact Right_l l hn hk hr k 0 (by omega) (by omega)

/-! ### a stem ahead -/
def stemP (t : ByteArray) (x : S30) : S30 := ⟨t ++ x.f0, x.f1⟩
theorem Rising_stem (t : ByteArray) (l : List S30) (h : Rising l) : Rising (l.map (stemP t)) := by
  intro i hi
  rw [List.length_map] at hi
  rw [List.getElem_map, List.getElem_map]
  simp only [stemP]
  rw [less_app]
  exact h i hi
theorem itemsN_stem (t : ByteArray) (p : Int) : ∀ (l : List S30) (a : Int), itemsN p a (l.map (stemP t)) = (itemsN p a l).map (stemI t)
  | [], _ => rfl
  | x :: r, a => by
    have h1 : stepAt p a (stemP t x) = stepAt p a x := rfl
    have h2 : itemOf p a (stemP t x) = stemI t (itemOf p a x) := by
      unfold itemOf stemP stemI
      simp only
      split <;> rfl
    rw [List.map_cons, itemsN, itemsN, List.map_cons, h1, h2, itemsN_stem t p r]
theorem pagesI_7 (n : Int) (hn : 0 ≤ n ∧ n ≤ 700) : 0 ≤ pagesI n 128 ∧ pagesI n 128 ≤ 7 := by
  unfold pagesI
  rw [show mx n 0 = n by unfold mx; split <;> omega]
  unfold mn
  split <;> omega
theorem items_good : ∀ (l : List S30) (a : Int), 1 ≤ a → a + 7 * (l.length : Int) < 4096 → (∀ x ∈ l, x.f0.size ≤ 16 ∧ x.f1.size ≤ 700) → GoodL (itemsN 128 a l)
  | [], _, _, _, _ => fun x hx => by simp [itemsN] at hx
  | y :: r, a, h1, h2, hk => fun x hx => by
    have hy := hk y (List.mem_cons_self ..)
    rw [List.length_cons] at h2
    have hst : 1 ≤ stepAt 128 a y ∧ stepAt 128 a y ≤ a + 7 := by
      unfold stepAt
      have := pagesI_7 (y.f1.size : Int) (by omega)
      split <;> omega
    rcases List.mem_cons.mp hx with rfl | hx
    · refine ⟨by rw [itemOf_key]; exact hy.1, ?_⟩
      unfold itemOf
      split
      · rename_i hb
        have : 32 < (y.f1.size : Int) := hb
        unfold valOk
        rw [if_pos rfl]
        have e : ((⟨#[]⟩ : ByteArray).toList == []) = true := by decide +kernel
        simp only [e, Bool.true_and, Bool.and_eq_true, decide_eq_true_eq]
        have := hy.2
        refine ⟨⟨⟨?_, ?_⟩, ?_⟩, ?_⟩ <;> (try dsimp only) <;> omega
      · rename_i hb
        have : ¬ 32 < (y.f1.size : Int) := hb
        unfold valOk
        rw [if_neg (by simp)]
        simp only [Bool.and_eq_true, decide_eq_true_eq]
        refine ⟨⟨trivial, trivial⟩, ?_⟩
        (try dsimp only)
        omega
    · exact items_good r _ hst.1 (by omega) (fun z hz => hk z (List.mem_cons_of_mem _ hz)) x hx
theorem rd_group (p : Int) (l : List S35) : rd (groupN p l) 0 = (firstN l p : Int) := by
  rw [groupN_eq]
  split <;> rfl
theorem PackStem_j (t : ByteArray) (L : List S30) (ht : t.size ≤ 8) (hc : Cutted L) (h8 : ∀ x ∈ L, x.f0.size ≤ 8) (k : Nat) (hk : 60 ≤ k) :
    withylaw16_PackStem.j1 k L t (L.map (stemP t)) false = some true := by
  obtain ⟨k, rfl⟩ : ∃ j, k = j + 1 := ⟨k - 1, by omega⟩
  have hL := hc.1
  have hc' : Cutted (L.map (stemP t)) := ⟨by rw [List.length_map]; exact hL, fun x hx => by
    obtain ⟨y, hy, rfl⟩ := List.mem_map.mp hx
    have := h8 y hy
    have h2 := (hc.2 y hy).2
    simp only [stemP, ByteArray.size_append]
    omega⟩
  have hg : GoodL (itemsN 128 1 L) := items_good L 1 (by omega) (by omega) (fun x hx => ⟨by have := h8 x hx; omega, (hc.2 x hx).2⟩)
  have hg' : GoodL ((itemsN 128 1 L).map (stemI t)) := by
    rw [← itemsN_stem]
    refine items_good _ 1 (by omega) (by rw [List.length_map]; omega) fun x hx => ?_
    obtain ⟨y, hy, rfl⟩ := List.mem_map.mp hx
    have := h8 y hy
    have h2 := (hc.2 y hy).2
    simp only [stemP, ByteArray.size_append]
    omega
  have hG := Group_ok 128 1 L (by omega) hc 0
  have hG' := Group_ok 128 1 (L.map (stemP t)) (by omega) hc' 0
  rw [List.drop_zero] at hG hG'
  have hlen := itemsN_length 128 L 1
  have hlen1 := groupN_length 128 _ (itemsN 128 1 L) (Nat.le_refl _)
  have hlen2 := groupN_length 128 _ (itemsN 128 1 (L.map (stemP t))) (Nat.le_refl _)
  rw [itemsN_length, List.length_map] at hlen2
  have hp1 := groupN_pos 128 (itemsN 128 1 L)
  have hp2 := groupN_pos 128 (itemsN 128 1 (L.map (stemP t)))
  have hge : (groupN 128 (itemsN 128 1 L)).length ≤ (groupN 128 (itemsN 128 1 (L.map (stemP t)))).length := by
    have := group_le t 128 (itemsN 128 1 L) hg hg' (itemsN 128 1 L).length 0 0 (by omega) (by omega) (by omega)
    rw [List.drop_zero, List.drop_zero] at this
    rw [itemsN_stem]
    exact this
  have hfirst : rd (groupN 128 (itemsN 128 1 (L.map (stemP t)))) 0 ≤ rd (groupN 128 (itemsN 128 1 L)) 0 := by
    rw [rd_group, rd_group, itemsN_stem]
    have := first_stem t (itemsN 128 1 L) 128 hg hg'
    omega
  rw [withylaw16_PackStem.j1, if_neg (by simp), Items_ok k L 1 128 (by omega) hc (by omega) (by omega), Option.bind_some, Items_ok k _ 1 128 (by omega) hc' (by omega) (by omega), Option.bind_some]
  dsimp only
  rw [hG, Option.bind_some, hG', Option.bind_some, if_neg (by omega), if_neg (by omega)]
  by_cases c : t.toList = ([] : List UInt8)
  · have e : t = ⟨#[]⟩ := by
      rw [ByteArray.toList_eq] at c
      apply ByteArray.ext
      simpa using c
    have he : L.map (stemP t) = L := by
      subst e
      have : ∀ x : S30, stemP ⟨#[]⟩ x = x := by
        intro x
        have : (⟨#[]⟩ : ByteArray) ++ x.f0 = x.f0 := by
          apply ByteArray.ext
          rw [ByteArray.data_append]
          simp
        unfold stemP
        rw [this]
      rw [List.map_congr_left (fun x _ => this x)]
      simp
    rw [if_pos c, he, Ints_ok k _ (by omega) (by omega), Option.bind_some, if_pos rfl, if_pos (by omega), if_pos (by omega), if_pos (by omega), if_pos (Int.le_refl _)]
    rfl
  · rw [if_neg c, if_pos (by omega), if_pos (by omega), if_pos (by omega), if_pos hfirst]
    rfl
theorem PackStem_l (t : ByteArray) (L : List S30) (ht : t.size ≤ 8) (hc : Cutted L) (h8 : ∀ x ∈ L, x.f0.size ≤ 8) (hr : Rising L) : ∀ (k a : Nat), L.length + 100 ≤ a + k → a ≤ L.length →
    withylaw16_PackStem.l0 k L t ((L.take a).map (stemP t)) (a : Int) = some true
  | 0, a, h, h1 => by have := hc.1; omega
  | k + 1, a, h, h1 => by
    have hL := hc.1
    rw [withylaw16_PackStem.l0]
    by_cases c : a < L.length
    · have h8a := h8 _ (List.getElem_mem c)
      have ih := PackStem_l t L ht hc h8 hr k (a + 1) (by omega) (by omega)
      rw [if_pos (by omega), if_pos (by omega), rd30 c, if_pos (by omega), if_pos (by rw [List.length_map, List.length_take]; omega), w64n a (by omega)]
      rw [List.take_succ_eq_append_getElem c, List.map_append] at ih
      exact ih
    · have : a = L.length := by omega
      subst this
      rw [if_neg (by omega), List.take_length]
      rw [Right_ok k L hL (fun x hx => ⟨by have := h8 x hx; omega, by have := (hc.2 x hx).2; omega⟩) hr (by omega), Option.bind_some, if_pos rfl]
      rw [Right_ok k (L.map (stemP t)) (by rw [List.length_map]; exact hL) (fun x hx => by
        obtain ⟨y, hy, rfl⟩ := List.mem_map.mp hx
        have := h8 y hy
        have h2 := (hc.2 y hy).2
        simp only [stemP, ByteArray.size_append]
        omega) (Rising_stem t L hr) (by omega), Option.bind_some]
      exact PackStem_j t L ht hc h8 k (by omega)
theorem PackStem_true (l : List S30) (s : ByteArray) : withylaw16_PackStem.f 200 l s = some true := by
  obtain ⟨L, h1, h2, h3, h4⟩ := Rise_full 200 l 64 (by omega) (by omega)
  unfold withylaw16_PackStem.f
  rw [if_pos (mn_nn _ _ (by omega)), if_pos (mn_le _ _), h1, Option.bind_some]
  have := PackStem_l (s.extract 0 (mn (s.size : Int) 8).toNat) L (by
    rw [ByteArray.size_extract]
    have := mn_le_r (s.size : Int) 8
    omega) h2 (fun x hx => by
    have := h3 x hx
    rw [show Int.tdiv 64 8 = 8 by decide] at this
    omega) h4 200 0 (by have := h2.1; omega) (by omega)
  simpa using this
end Go.Proofs.Ytmheajenlhlbhaa.X

-- The row of PackStem: its statement out of the walk and the plain law.
namespace Go.Proofs.Ytmheajenlhlbhaa.packStem
open Go.ChangeShapes Go.WideShapes Go.ChangeAt Go.RowKit
open Go.ChangeMaps (open_string shut_string)
theorem own : ownKnob Try.prog.godebug = none := by kernel_rfl
theorem laidOut : laidOutB Try.prog = true := by kernel_rfl
set_option maxRecDepth 100000 in
theorem lifted (os : Os) (started : os.Started) (H : Type) (enc : TypeId × Value → H) :
    ReturnsInHanded {} Try.checked os 5 .any (Rows.packStemSpec.pre6 enc Try.prog Try.f5 Rows.packStemRow.domain false) (Rows.packStemSpec.post enc Try.prog Try.f5 false true false false) := by
  refine returnsInHanded_of_change_sized (C := Try.checked) own started (by kernel_rfl) Try.func5
    (ChangeSpec.witness6 (enc := enc) (C := Try.checked) false ⟨#[], #[.slice none 0 0, .string ByteArray.empty], []⟩ 8 (by kernel_rfl) (by kernel_rfl) (by kernel_rfl) (by kernel_rfl)) ?_
  intro W base args ds gs before hval0 hW hcnd hsz0 _
  have hsz : (DataW.weightsEach Try.prog (Try.f5.params.toList ++ Rows.packStemSpec.plain.varTypes Try.prog) (ds ++ gs)).all (· ≤ reachBytes) = true := hsz0
  have hval : ∀ (j : Nat) t v, Try.f5.params[j]? = some t → args[j]? = some v → Value.okWide Try.prog W .any base t v := hval0
  have hW' := hW
  obtain ⟨p, q, hA0, hV, rfl, hfz, hnd⟩ := hW
  have hA : DataW.TrodAll enc Try.prog W 0 (fun _ => true) true Try.f5.params.toList args.toList ds p := hA0
  rw [Try.params5] at hA hval hsz
  obtain ⟨v0, vs0, d0, ds0, p0, q0, hargs, rfl, rfl, h0, r0⟩ := trodAll_cons hA
  obtain ⟨v1, vs1, d1, ds1, p1, q1, rfl, rfl, rfl, h1, r1⟩ := trodAll_cons r0
  obtain ⟨rfl, rfl, rfl⟩ := trodAll_nil r1
  obtain rfl : args = #[v0, v1] := by cases args; simp_all
  obtain ⟨rfl, rfl⟩ := trodVars_none hV
  have k0 := h0
  have lt0 : ∀ x ∈ p0, x.block < W.heap.size := by obtain ⟨m, hm⟩ := k0; exact DataW.trod_lt m _ _ _ hm
  obtain ⟨A0, c0, l0, rfl, hC0, hc0⟩ := X.open_pairs (t := 22) hsz (j := 0) rfl rfl Try.underlying22 (okWide_slice Try.underlying22 (hval 0 22 v0 rfl rfl)) h0
  obtain ⟨a1, rfl, rfl, rfl, y1⟩ := open_string Try.underlying9 (hval 1 9 v1 rfl rfl) h1
  clear hA0 hval0 hsz0 hsz
  refine (X.withylaw16_PackStem.calls 200 A0 c0 l0 a1 true W hC0 hc0 (X.PackStem_true l0 a1)).mono fun e W' ⟨he, bel⟩ => ?_
  subst he
  exact ⟨_, rfl, _, _, _, [], _, [], hW', trodAll_mk1 (shut_bool Try.underlying4 _), (trodAll_cons_mk (Below.trod laidOut (by kernel_rfl) (of_decide_eq_true (by kernel_rfl)) k0 bel lt0) (trodAll_cons_mk (shut_string Try.underlying9 y1) trodAll_mk0)), rfl, bel.frame _, fun h => by cases h⟩
theorem over : Rows.packStemRow.holds Try.pinned (OpenSpec.ofChange Rows.packStemSpec) :=
  OpenClaim.holds_of_wide 5 Try.f5 rfl rfl rfl rfl rfl rfl rfl ⟨rfl, rfl, rfl, rfl, rfl⟩ rfl rfl rfl rfl rfl (by kernel_rfl) Try.func5 (by kernel_rfl)
    (of_decide_eq_true (by kernel_rfl)) (by unfold Func.isWrapper; first | (rw [if_pos (by decide +kernel)]; kernel_rfl) | (rw [if_neg (by decide +kernel)]; exact ⟨rfl, rfl⟩))
    (fun os started H enc _ => lifted os started H enc)
theorem proved : Rows.PackStemSaid := over
#print axioms proved
end Go.Proofs.Ytmheajenlhlbhaa.packStem
namespace Go.Proofs.Ytmheajenlhlbhaa
/-- The row, under a short name, for the claim. -/
theorem packStem_holds : Rows.PackStemSaid := packStem.proved
end Go.Proofs.Ytmheajenlhlbhaa
