/- The law LeafRise of the given program returns true for every input and leaves its arguments as they were. No conditions beyond the given statement's own. -/
import Derived.Test.YtmheajenlhlbhaaGreatDoorULeafRise01
import Derived.Test.YtmheajenlhlbhaaGreatDoorULeafRise05
import Derived.Test.YtmheajenlhlbhaaGreatDoorULeafRise13
import Derived.Test.YtmheajenlhlbhaaGreatDoorULeafRise16
import Derived.Deep.QuietTactic
import Derived.BigQuiet
import Derived.Test.YtmheajenlhlbhaaGreatDoorVLeafRiseWEqStruct
import Derived.Test.YtmheajenlhlbhaaGreatDoorRows
import Derived.Test.YtmheajenlhlbhaaGreatDoorCards
import Derived.Test.YtmheajenlhlbhaaGreatDoorTie
import Derived.WalkKit
import Derived.ProofKit
import Derived.OpenShut
import Derived.ShutString
import Derived.ChangeOld
import Derived.Below
import Derived.SizedLaws
import Derived.ChangeSame
import Derived.ChangeVars
import Derived.JoinedOf
import Derived.RowKit
import Derived.RowKitTokens
import Derived.LaidLaws
import Derived.LaidHandle
import Derived.Stop.Joined
import Derived.SevenTiedAt
namespace Go.Proofs.YtmheajenlhlbhaaGreatDoor.X
open Go.RowKit Go.Proofs.YtmheajenlhlbhaaGreatDoorW.PrintWords Go.Proofs.YtmheajenlhlbhaaGreatDoorW.PrintLast Go.Proofs.YtmheajenlhlbhaaGreatDoorW.PrintMore
attribute [local go_sem] max2_int min2_int max_two min_two max_three min_three max_four min_four   -- for this text's walks alone
set_option linter.unusedVariables false
set_option linter.unusedSimpArgs false

theorem eqV (d : Nat) (w : World) (x0 y0 : Bool) (x1 y1 : ByteArray) (x2 y2 : Int) (x3 y3 : Int) :
    (Op.equalIn (d + 2) 30 (.agg #[.bool x0, .string x1, .int .i64 x2, .int .i64 x3]) (.agg #[.bool y0, .string y1, .int .i64 y2, .int .i64 y3])).run Tryz.prog w = .ok (x0 == y0 && (x1.toList == y1.toList && (x2 == y2 && (x3 == y3)))) w := by
  refine eqA_of Tryz.underlying30 (by kernel_rfl) ?_
  refine eqf_cons (by rfl) (by go_simp; rfl) (by go_simp; rfl) (by go_simp) ?_
  refine eqf_cons (by rfl) (by go_simp; rfl) (by go_simp; rfl) (by go_simp) ?_
  refine eqf_cons (by rfl) (by go_simp; rfl) (by go_simp; rfl) (by go_simp) ?_
  exact eqf_last (by rfl) (by go_simp; rfl) (by go_simp; rfl) (by go_simp)
attribute [local go_sem high] eqV
theorem itemsFrom_at (right : Int) (high : ByteArray) (p : Int) (l : List S32) : ∀ (d i : Nat), itemsFrom right high p l d i = true → ∀ j, i ≤ j → j < i + d → itemAt right high p l j = true
  | 0, i, _, j, h1, h2 => by omega
  | d + 1, i, h, j, h1, h2 => by
    unfold itemsFrom at h
    rw [Bool.and_eq_true] at h
    by_cases hj : j = i
    · subst hj; exact h.1
    · exact itemsFrom_at right high p l d (i + 1) h.2 j (by omega) (by omega)
theorem rdI_at {l : List S32} {i : Nat} (h : i < l.length) : rd_T32 l (i : Int) = l[i] := by
  unfold rd_T32; rw [Int.toNat_natCast, List.getD_eq_getElem?_getD, List.getElem?_eq_getElem h]; rfl
theorem may_item {self right : Int} {high : ByteArray} {l : List S32} {p : Int} (h : mayB self right high l p = true) (i : Nat) (hi : i < l.length) :
    ((l[i].f0.size : Int) ≤ p / 8) ∧ (∀ h0 : 0 < i, Op.bytesLess (l[i - 1]'(by omega)).f0.toList l[i].f0.toList = true) ∧ (right ≠ 0 → Op.bytesLess l[i].f0.toList high.toList = true) := by
  unfold mayB at h
  rw [Bool.and_eq_true] at h
  have h1 := itemsFrom_at right high p l _ _ h.2 i (Nat.zero_le _) (by omega)
  unfold itemAt at h1
  simp only [Bool.and_eq_true, Bool.or_eq_true, decide_eq_true_eq, beq_iff_eq] at h1
  obtain ⟨⟨⟨a1, _⟩, a2⟩, a3⟩ := h1
  rw [rdI_at hi] at a1 a2 a3
  refine ⟨a1, fun h0 => ?_, fun hr => ?_⟩
  · rcases a2 with a2 | a2
    · omega
    · rw [show ((i : Int) - 1) = ((i - 1 : Nat) : Int) by omega, rdI_at (by omega)] at a2
      exact a2
  · rcases a3 with a3 | a3
    · exact absurd a3 hr
    · exact a3
theorem may_sorted {self right : Int} {high : ByteArray} {l : List S32} {p : Int} (h : mayB self right high l p = true) : SortedI l := by
  intro j hj
  induction j with
  | zero => intro i g; omega
  | succ j ih =>
    intro i g
    have h1 := (may_item h (j + 1) hj).2.1 (by omega)
    simp only [Nat.add_sub_cancel] at h1
    by_cases c : i = j
    · subst c; exact h1
    · exact bl_trans (ih (by omega) i (by omega)) h1
theorem may_head {self right : Int} {high : ByteArray} {l : List S32} {p : Int} (h : mayB self right high l p = true) : 1 ≤ self ∧ ((right == 0) = high.toList.isEmpty) := by
  unfold mayB mayHead numOk at h
  simp only [Bool.and_eq_true, decide_eq_true_eq, beq_iff_eq] at h
  exact ⟨h.1.1.1.1.1.2.1, h.1.1.2⟩
theorem find_self (l : List S32) (hs : SortedI l) (k : Nat) (hk : k < l.length) : l.find? (fun x => x.f0.toList == l[k].f0.toList) = some l[k] := by
  rw [List.find?_eq_some_iff_getElem]
  refine ⟨by simp, k, hk, rfl, fun j hj => ?_⟩
  have := hs k hk j hj
  cases hq : (l[j].f0.toList == l[k].f0.toList) with
  | false => rfl
  | true => rw [beq_iff_eq.1 hq, bl_irrefl] at this; cases this
def seenB (l : List S32) (key : ByteArray) : Bool := l.any (fun x => x.f0.toList == key.toList)
theorem seen_take (l : List S32) (key : ByteArray) (k : Nat) (hk : k < l.length) : seenB (l.take (k + 1)) key = (seenB (l.take k) key || (l[k].f0.toList == key.toList)) := by
  unfold seenB
  rw [List.take_succ_eq_append_getElem hk, List.any_append]
  simp
theorem find_seen (l : List S32) (key : ByteArray) (hs : SortedI l) (hl : l.length ≤ 1000000000) (a b : Int) (h : ByteArray) : ∃ v : S30, leaf_Find.f a b h l key = some (v.f0, v.f1, v.f2, v.f3, seenB l key) := by
  unfold leaf_Find.f
  rw [if_pos ⟨hs, hl⟩]
  cases hf : l.find? (fun x => x.f0.toList == key.toList) with
  | none =>
    have : seenB l key = false := by
      unfold seenB
      rw [List.any_eq_false]
      rw [List.find?_eq_none] at hf
      exact hf
    rw [this]
    exact ⟨⟨false, ⟨#[]⟩, 0, 0⟩, rfl⟩
  | some x =>
    have : seenB l key = true := by
      unfold seenB
      rw [List.any_eq_true]
      exact ⟨x, List.mem_of_find?_eq_some hf, List.find?_some (p := fun x : S32 => x.f0.toList == key.toList) hf⟩
    rw [this]
    exact ⟨x.f1, rfl⟩
set_option maxRecDepth 100000 in
set_option maxHeartbeats 16000000 in
theorem LeafRise_walk (s key : ByteArray) (w : World) (hs : s.size ≤ 140737488351232) (hg : GlobE w) :
    Calls Tryz.prog 3 #[.string s, .string key] w fun e w' => e = .returned (.bool true) ∧ Below w.heap.size w w' := by
  have HG := Aside0.mk hg
  clear hg
  by_cases h11 : (s.size : Int) ≤ 1100
  · have ht : s.size ≤ 65535 := by omega
    go_enter Tryz.func3, Tryz.ntmps3
    go_wp2_with fail
    obtain ⟨self, right, high, l, e0, hd, hl, hok, _⟩ := decode_total s ht
    refine (leaf_Decode.calls s self right high l e0 _ hd HG.out).mono ?_
    rintro e w1 ⟨v1, rfl, ho, hb⟩
    obtain ⟨A, c, rfl⟩ := Kd.R_slice ho
    have hB1 := below_alloc hb (.cells #[.int .i64 self, .int .i64 right, .string high, .slice A l.length c] 24)
    have HB1 := Aside0.mk hB1
    have hX1 := World.alloc_heap_new w1 (.cells #[.int .i64 self, .int .i64 right, .string high, .slice A l.length c] 24)
    have X1 : Aside0 (Block (w1.alloc (.cells #[.int .i64 self, .int .i64 right, .string high, .slice A l.length c] 24)) w1.heap.size 24 #[.int .i64 self, .int .i64 right, .string high, .slice A l.length c]) := ⟨hX1⟩
    have HC1 := Aside0.mk (Kd.C_below (Kd.R_reads' ho).2.2 (below_alloc (Below.refl _ _) (.cells #[.int .i64 self, .int .i64 right, .string high, .slice A l.length c] 24)))
    have HCc := Aside0.mk (Kd.R_reads' ho).2.1
    clear ho hb hB1 hX1 hd
    by_cases he : e0 = 0
    · have d1 : (e0 != 0) = false := by simp [he]
      obtain ⟨hsz, hmay⟩ := hok he
      have HM := Aside0.mk hmay
      have HS := Aside0.mk (may_sorted hmay)
      obtain ⟨hself, hrh⟩ := may_head hmay
      have HRH := Aside0.mk hrh
      clear hmay hok he hrh hsz
      go_wp2
      generalize w1.alloc (.cells #[.int .i64 self, .int .i64 right, .string high, .slice A l.length c] 24) = o1 at HB1 X1 HC1 ⊢
      go_loopw [7, 8] (fun sv i wr => ∃ k : Nat, k ≤ l.length ∧ i = .int .i64 k ∧ sv = .bool (seenB (l.take k) key) ∧ Aside0 (Below o1.heap.size o1 wr)) (fun _ i _ => l.length - (intOf i).toNat)
      case atStart => exact ⟨0, by omega, rfl, rfl, ⟨Below.refl _ _⟩⟩
      case round =>
        obtain ⟨k, h0, rfl, rfl, HW⟩ := hrel
        have x0 := (X1.out.below HW.out X1.out.lt).cell 0 (by simp)
        have x1 := (X1.out.below HW.out X1.out.lt).cell 1 (by simp)
        have x2 := (X1.out.below HW.out X1.out.lt).cell 2 (by simp)
        have x3 := (X1.out.below HW.out X1.out.lt).cell 3 (by simp)
        by_cases hx : k < l.length
        · obtain ⟨ad, e1, q0, q1, q2, q3, q4⟩ := at_T32 HC1.out (k : Int) (by omega) (by omega)
          cases e1
          rw [rdI_at hx, Int.toNat_natCast] at q0 q1 q2 q3 q4
          replace q0 := (HW.out.cell (World.block_lt_of_cell? o1 _ q0)).trans q0
          replace q1 := (HW.out.cell (World.block_lt_of_cell? o1 _ q1)).trans q1
          replace q2 := (HW.out.cell (World.block_lt_of_cell? o1 _ q2)).trans q2
          replace q3 := (HW.out.cell (World.block_lt_of_cell? o1 _ q3)).trans q3
          replace q4 := (HW.out.cell (World.block_lt_of_cell? o1 _ q4)).trans q4
          have hf : leaf_Find.f self right high l l[k].f0 = some (l[k].f1.f0, l[k].f1.f1, l[k].f1.f2, l[k].f1.f3, true) := by
            unfold leaf_Find.f
            rw [if_pos ⟨HS.out, by omega⟩, find_self l HS.out k hx]
          obtain ⟨m1, m2, m3⟩ := may_item HM.out k hx
          have HST := Aside0.mk (seen_take l key k hx)
          have hprev : ∀ h0 : 0 < k, ∃ (m : Nat) (y : S32), k = m + 1 ∧ o1.cell? (ad.add (m * 5)) = some (.string y.f0) ∧ Op.bytesLess y.f0.toList l[k].f0.toList = true := fun h0 => by
            obtain ⟨ad2, e2, p0, _⟩ := at_T32 HC1.out ((k - 1 : Nat) : Int) (by omega) (by omega)
            cases e2
            rw [rdI_at (by omega), Int.toNat_natCast] at p0
            exact ⟨k - 1, l[k - 1], by omega, p0, m2 h0⟩
          have HF := Aside0.mk hf
          clear hf m2
          generalize hx0 : l[k] = x at q0 q1 q2 q3 q4 HF m1 m3 hprev HST
          clear hx0
          have hlw : w1.heap.size < wr.heap.size := Nat.lt_of_lt_of_le X1.out.lt (below_size HW.out)
          go_wp2_with fail
          have HW2 := Aside0.mk (below_alloc HW.out (.cells #[.string x.f0, .bool x.f1.f0, .string x.f1.f1, .int .i64 x.f1.f2, .int .i64 x.f1.f3] 32))
          have X9 : Aside0 (Block (wr.alloc (.cells #[.string x.f0, .bool x.f1.f0, .string x.f1.f1, .int .i64 x.f1.f2, .int .i64 x.f1.f3] 32)) wr.heap.size 32 #[.string x.f0, .bool x.f1.f0, .string x.f1.f1, .int .i64 x.f1.f2, .int .i64 x.f1.f3]) := ⟨World.alloc_heap_new wr _⟩
          have HC2 := Aside0.mk (Kd.C_below HC1.out HW2.out)
          have hlt1 := below_size HW.out
          clear x0 x1 x2 x3 q0 q1 q2 q3 q4
          generalize hw2 : wr.alloc (.cells #[.string x.f0, .bool x.f1.f0, .string x.f1.f1, .int .i64 x.f1.f2, .int .i64 x.f1.f3] 32) = w2 at HW2 X9 HC2 ⊢
          have hlt2 : w2.heap.size = wr.heap.size + 1 := by rw [← hw2]; simp
          clear hw2
          refine (leaf_Find.calls self right high (some ad) c l x.f0 x.f1.f0 x.f1.f1 x.f1.f2 x.f1.f3 true _ HC2.out HCc.out HF.out).mono ?_
          rintro e w3 ⟨rfl, hb3⟩
          have HW3 := Aside0.mk (below_alloc (below_step HW2.out hb3) (.cells #[.bool x.f1.f0, .string x.f1.f1, .int .i64 x.f1.f2, .int .i64 x.f1.f3] 30))
          have X9b := Aside0.mk (X9.out.below (below_alloc hb3 (.cells #[.bool x.f1.f0, .string x.f1.f1, .int .i64 x.f1.f2, .int .i64 x.f1.f3] 30)) X9.out.lt)
          have X10 : Aside0 (Block (w3.alloc (.cells #[.bool x.f1.f0, .string x.f1.f1, .int .i64 x.f1.f2, .int .i64 x.f1.f3] 30)) w3.heap.size 30 #[.bool x.f1.f0, .string x.f1.f1, .int .i64 x.f1.f2, .int .i64 x.f1.f3]) := ⟨World.alloc_heap_new w3 _⟩
          clear hb3 HW2 X9 HC2 hlt2 hlt1 HF
          go_wp2
          generalize w3.alloc (.cells #[.bool x.f1.f0, .string x.f1.f1, .int .i64 x.f1.f2, .int .i64 x.f1.f3] 30) = o3 at HW3 X9b X10 ⊢
          have HX := Aside0.mk (X1.out.below HW3.out X1.out.lt)
          have x1 := HX.out.cell 1 (by simp)
          have x2 := HX.out.cell 2 (by simp)
          have x3 := HX.out.cell 3 (by simp)
          have y0 := X9b.out.cell 0 (by simp)
          have y1 := X9b.out.cell 1 (by simp)
          have y2 := X9b.out.cell 2 (by simp)
          have y3 := X9b.out.cell 3 (by simp)
          have y4 := X9b.out.cell 4 (by simp)
          have z0 := X10.out.cell 0 (by simp)
          have z1 := X10.out.cell 1 (by simp)
          have z2 := X10.out.cell 2 (by simp)
          have z3 := X10.out.cell 3 (by simp)
          have d5 : decide ((s.size : Int) / 8 < (x.f0.size : Int)) = false := decide_eq_false (by omega)
          have p8 : (0 : Int) ≤ (s.size : Int) := by omega
          have hcases : (k = 0 ∧ decide ((0 : Int) < (k : Int)) = false) ∨ (0 < k ∧ decide ((0 : Int) < (k : Int)) = true ∧ ∃ (m : Nat) (y : S32), k = m + 1 ∧ o3.cell? (ad.add (m * 5)) = some (.string y.f0) ∧ Op.bytesLess y.f0.toList x.f0.toList = true) := by
            by_cases c : 0 < k
            · obtain ⟨m, y, hm, p0, p1⟩ := hprev c
              exact .inr ⟨c, decide_eq_true (by omega), m, y, hm, (HW3.out.cell (World.block_lt_of_cell? o1 _ p0)).trans p0, p1⟩
            · exact .inl ⟨by omega, decide_eq_false (by omega)⟩
          have hr : ((right != 0) = false) ∨ ((right != 0) = true ∧ Op.bytesLess x.f0.toList high.toList = true) := by
            by_cases c : right = 0
            · exact .inl (by simp [c])
            · exact .inr ⟨by simpa using c, m3 c⟩
          clear hprev m3 m1
          rcases hcases with ⟨hk0, dk⟩ | ⟨hk0, dk, m, y, hm, p0, pb⟩
          · have dk2 : decide (0 < k) = false := decide_eq_false (by omega)
            clear hk0
            rcases hr with dr | ⟨dr, pr⟩
            all_goals
              go_quiet (fail)
              cases hsb : seenB (l.take k) key
              all_goals
                rw [hsb] at HST
                go_wp2
                go_roundw
                case rel => exact ⟨k + 1, by omega, by go_num, by rw [HST.out]; first | rfl | simp, ⟨pw_below_drewN HW3.out _⟩⟩
                case measure => simp [intOf]; omega
          · have dk2 : decide (0 < k) = true := decide_eq_true hk0
            have hm1 : (k : Int) - 1 = (m : Int) := by omega
            have hm2 : IntKind.i64.wrap (m : Int) = (m : Int) := IntWalk.i64_in _ (by omega)
            have hm3 : IntKind.i64.wrap ((k : Int) - 1) = (m : Int) := by rw [hm1]; exact hm2
            have hm4 : (m : Int) < (l.length : Int) := by omega
            have hm5 : (0 : Int) ≤ (m : Int) := by omega
            clear hm
            rcases hr with dr | ⟨dr, pr⟩
            all_goals
              go_quiet (fail)
              cases hsb : seenB (l.take k) key
              all_goals
                rw [hsb] at HST
                go_wp2
                go_roundw
                case rel => exact ⟨k + 1, by omega, by go_num, by rw [HST.out]; first | rfl | simp, ⟨pw_below_drewN HW3.out _⟩⟩
                case measure => simp [intOf]; omega
        · have hlw : w1.heap.size < wr.heap.size := Nat.lt_of_lt_of_le X1.out.lt (below_size HW.out)
          have hk : k = l.length := by omega
          obtain ⟨v, hf⟩ := find_seen l key HS.out (by omega) self right high
          have HF := Aside0.mk hf
          have HSE := Aside0.mk (show seenB (l.take k) key = seenB l key by rw [hk, List.take_length])
          have HC2 := Aside0.mk (Kd.C_below HC1.out HW.out)
          clear hf
          rw [HSE.out]
          go_wp2_with fail
          refine (leaf_Find.calls self right high A c l key v.f0 v.f1 v.f2 v.f3 (seenB l key) _ HC2.out HCc.out HF.out).mono ?_
          rintro e w3 ⟨rfl, hb3⟩
          have HW3 := Aside0.mk (below_step HW.out (below_alloc hb3 (.cells #[.bool v.f0, .string v.f1, .int .i64 v.f2, .int .i64 v.f3] 30)))
          have HX := Aside0.mk (X1.out.below HW3.out X1.out.lt)
          have x0b := HX.out.cell 0 (by simp)
          have x1b := HX.out.cell 1 (by simp)
          have x2b := HX.out.cell 2 (by simp)
          clear hb3 x0 x1 x2 x3 HC2
          have dself : decide ((0 : Int) < self) = true := decide_eq_true (by omega)
          have hrr : (right == 0) = true ∧ high.toList.isEmpty = true ∧ (high.toList == []) = true ∨ (right == 0) = false ∧ high.toList.isEmpty = false ∧ (high.toList == []) = false := by
            have := HRH.out
            cases hr : (right == 0) with
            | true => rw [hr] at this; exact .inl ⟨rfl, this.symm, by rw [List.isEmpty_iff.1 this.symm]; rfl⟩
            | false => rw [hr] at this; exact .inr ⟨rfl, this.symm, by cases hq : high.toList with
                | nil => rw [hq] at this; simp at this
                | cons a b => rfl⟩
          cases hsb : seenB l key
          all_goals
            rcases hrr with ⟨r1, r2, r3⟩ | ⟨r1, r2, r3⟩
            all_goals
              go_wp2_with (first | (go_at_call 12; ((with_reducible refine (withylaw10_fixed.calls true _ rfl (HG.out.below (below_step HB1.out HW3.out))).mono ?_); rintro e w4 ⟨rfl, hb4⟩; have HB4 := Aside0.mk (below_step (below_step HB1.out HW3.out) hb4); clear hb4)))
              go_ret
              exact ⟨rfl, HB4.out⟩
    · have d1 : (e0 != 0) = true := by simpa using he
      clear he hok
      go_wp2_with (first | (go_at_call 12; ((with_reducible refine (withylaw10_fixed.calls true _ rfl (HG.out.below HB1.out)).mono ?_); rintro e w2 ⟨rfl, hb2⟩; have HB2 := Aside0.mk (below_step HB1.out hb2); clear hb2)))
      go_ret
      exact ⟨rfl, HB2.out⟩
  · have h12 : (1100 : Int) ≤ (s.size : Int) := by omega
    go_enter Tryz.func3, Tryz.ntmps3
    go_wp2_with fail
    have ht0 : (s.extract 0 1100).size ≤ 65535 := by rw [ByteArray.size_extract]; omega
    generalize s.extract 0 1100 = t at ht0 ⊢
    have ht := ht0
    obtain ⟨self, right, high, l, e0, hd, hl, hok, _⟩ := decode_total t ht
    refine (leaf_Decode.calls t self right high l e0 _ hd HG.out).mono ?_
    rintro e w1 ⟨v1, rfl, ho, hb⟩
    obtain ⟨A, c, rfl⟩ := Kd.R_slice ho
    have hB1 := below_alloc hb (.cells #[.int .i64 self, .int .i64 right, .string high, .slice A l.length c] 24)
    have HB1 := Aside0.mk hB1
    have hX1 := World.alloc_heap_new w1 (.cells #[.int .i64 self, .int .i64 right, .string high, .slice A l.length c] 24)
    have X1 : Aside0 (Block (w1.alloc (.cells #[.int .i64 self, .int .i64 right, .string high, .slice A l.length c] 24)) w1.heap.size 24 #[.int .i64 self, .int .i64 right, .string high, .slice A l.length c]) := ⟨hX1⟩
    have HC1 := Aside0.mk (Kd.C_below (Kd.R_reads' ho).2.2 (below_alloc (Below.refl _ _) (.cells #[.int .i64 self, .int .i64 right, .string high, .slice A l.length c] 24)))
    have HCc := Aside0.mk (Kd.R_reads' ho).2.1
    clear ho hb hB1 hX1 hd
    by_cases he : e0 = 0
    · have d1 : (e0 != 0) = false := by simp [he]
      obtain ⟨hsz, hmay⟩ := hok he
      have HM := Aside0.mk hmay
      have HS := Aside0.mk (may_sorted hmay)
      obtain ⟨hself, hrh⟩ := may_head hmay
      have HRH := Aside0.mk hrh
      clear hmay hok he hrh hsz
      go_wp2
      generalize w1.alloc (.cells #[.int .i64 self, .int .i64 right, .string high, .slice A l.length c] 24) = o1 at HB1 X1 HC1 ⊢
      go_loopw [7, 8] (fun sv i wr => ∃ k : Nat, k ≤ l.length ∧ i = .int .i64 k ∧ sv = .bool (seenB (l.take k) key) ∧ Aside0 (Below o1.heap.size o1 wr)) (fun _ i _ => l.length - (intOf i).toNat)
      case atStart => exact ⟨0, by omega, rfl, rfl, ⟨Below.refl _ _⟩⟩
      case round =>
        obtain ⟨k, h0, rfl, rfl, HW⟩ := hrel
        have x0 := (X1.out.below HW.out X1.out.lt).cell 0 (by simp)
        have x1 := (X1.out.below HW.out X1.out.lt).cell 1 (by simp)
        have x2 := (X1.out.below HW.out X1.out.lt).cell 2 (by simp)
        have x3 := (X1.out.below HW.out X1.out.lt).cell 3 (by simp)
        by_cases hx : k < l.length
        · obtain ⟨ad, e1, q0, q1, q2, q3, q4⟩ := at_T32 HC1.out (k : Int) (by omega) (by omega)
          cases e1
          rw [rdI_at hx, Int.toNat_natCast] at q0 q1 q2 q3 q4
          replace q0 := (HW.out.cell (World.block_lt_of_cell? o1 _ q0)).trans q0
          replace q1 := (HW.out.cell (World.block_lt_of_cell? o1 _ q1)).trans q1
          replace q2 := (HW.out.cell (World.block_lt_of_cell? o1 _ q2)).trans q2
          replace q3 := (HW.out.cell (World.block_lt_of_cell? o1 _ q3)).trans q3
          replace q4 := (HW.out.cell (World.block_lt_of_cell? o1 _ q4)).trans q4
          have hf : leaf_Find.f self right high l l[k].f0 = some (l[k].f1.f0, l[k].f1.f1, l[k].f1.f2, l[k].f1.f3, true) := by
            unfold leaf_Find.f
            rw [if_pos ⟨HS.out, by omega⟩, find_self l HS.out k hx]
          obtain ⟨m1, m2, m3⟩ := may_item HM.out k hx
          have HST := Aside0.mk (seen_take l key k hx)
          have hprev : ∀ h0 : 0 < k, ∃ (m : Nat) (y : S32), k = m + 1 ∧ o1.cell? (ad.add (m * 5)) = some (.string y.f0) ∧ Op.bytesLess y.f0.toList l[k].f0.toList = true := fun h0 => by
            obtain ⟨ad2, e2, p0, _⟩ := at_T32 HC1.out ((k - 1 : Nat) : Int) (by omega) (by omega)
            cases e2
            rw [rdI_at (by omega), Int.toNat_natCast] at p0
            exact ⟨k - 1, l[k - 1], by omega, p0, m2 h0⟩
          have HF := Aside0.mk hf
          clear hf m2
          generalize hx0 : l[k] = x at q0 q1 q2 q3 q4 HF m1 m3 hprev HST
          clear hx0
          have hlw : w1.heap.size < wr.heap.size := Nat.lt_of_lt_of_le X1.out.lt (below_size HW.out)
          go_wp2_with fail
          have HW2 := Aside0.mk (below_alloc HW.out (.cells #[.string x.f0, .bool x.f1.f0, .string x.f1.f1, .int .i64 x.f1.f2, .int .i64 x.f1.f3] 32))
          have X9 : Aside0 (Block (wr.alloc (.cells #[.string x.f0, .bool x.f1.f0, .string x.f1.f1, .int .i64 x.f1.f2, .int .i64 x.f1.f3] 32)) wr.heap.size 32 #[.string x.f0, .bool x.f1.f0, .string x.f1.f1, .int .i64 x.f1.f2, .int .i64 x.f1.f3]) := ⟨World.alloc_heap_new wr _⟩
          have HC2 := Aside0.mk (Kd.C_below HC1.out HW2.out)
          have hlt1 := below_size HW.out
          clear x0 x1 x2 x3 q0 q1 q2 q3 q4
          generalize hw2 : wr.alloc (.cells #[.string x.f0, .bool x.f1.f0, .string x.f1.f1, .int .i64 x.f1.f2, .int .i64 x.f1.f3] 32) = w2 at HW2 X9 HC2 ⊢
          have hlt2 : w2.heap.size = wr.heap.size + 1 := by rw [← hw2]; simp
          clear hw2
          refine (leaf_Find.calls self right high (some ad) c l x.f0 x.f1.f0 x.f1.f1 x.f1.f2 x.f1.f3 true _ HC2.out HCc.out HF.out).mono ?_
          rintro e w3 ⟨rfl, hb3⟩
          have HW3 := Aside0.mk (below_alloc (below_step HW2.out hb3) (.cells #[.bool x.f1.f0, .string x.f1.f1, .int .i64 x.f1.f2, .int .i64 x.f1.f3] 30))
          have X9b := Aside0.mk (X9.out.below (below_alloc hb3 (.cells #[.bool x.f1.f0, .string x.f1.f1, .int .i64 x.f1.f2, .int .i64 x.f1.f3] 30)) X9.out.lt)
          have X10 : Aside0 (Block (w3.alloc (.cells #[.bool x.f1.f0, .string x.f1.f1, .int .i64 x.f1.f2, .int .i64 x.f1.f3] 30)) w3.heap.size 30 #[.bool x.f1.f0, .string x.f1.f1, .int .i64 x.f1.f2, .int .i64 x.f1.f3]) := ⟨World.alloc_heap_new w3 _⟩
          clear hb3 HW2 X9 HC2 hlt2 hlt1 HF
          go_wp2
          generalize w3.alloc (.cells #[.bool x.f1.f0, .string x.f1.f1, .int .i64 x.f1.f2, .int .i64 x.f1.f3] 30) = o3 at HW3 X9b X10 ⊢
          have HX := Aside0.mk (X1.out.below HW3.out X1.out.lt)
          have x1 := HX.out.cell 1 (by simp)
          have x2 := HX.out.cell 2 (by simp)
          have x3 := HX.out.cell 3 (by simp)
          have y0 := X9b.out.cell 0 (by simp)
          have y1 := X9b.out.cell 1 (by simp)
          have y2 := X9b.out.cell 2 (by simp)
          have y3 := X9b.out.cell 3 (by simp)
          have y4 := X9b.out.cell 4 (by simp)
          have z0 := X10.out.cell 0 (by simp)
          have z1 := X10.out.cell 1 (by simp)
          have z2 := X10.out.cell 2 (by simp)
          have z3 := X10.out.cell 3 (by simp)
          have d5 : decide ((t.size : Int) / 8 < (x.f0.size : Int)) = false := decide_eq_false (by omega)
          have p8 : (0 : Int) ≤ (t.size : Int) := by omega
          have hcases : (k = 0 ∧ decide ((0 : Int) < (k : Int)) = false) ∨ (0 < k ∧ decide ((0 : Int) < (k : Int)) = true ∧ ∃ (m : Nat) (y : S32), k = m + 1 ∧ o3.cell? (ad.add (m * 5)) = some (.string y.f0) ∧ Op.bytesLess y.f0.toList x.f0.toList = true) := by
            by_cases c : 0 < k
            · obtain ⟨m, y, hm, p0, p1⟩ := hprev c
              exact .inr ⟨c, decide_eq_true (by omega), m, y, hm, (HW3.out.cell (World.block_lt_of_cell? o1 _ p0)).trans p0, p1⟩
            · exact .inl ⟨by omega, decide_eq_false (by omega)⟩
          have hr : ((right != 0) = false) ∨ ((right != 0) = true ∧ Op.bytesLess x.f0.toList high.toList = true) := by
            by_cases c : right = 0
            · exact .inl (by simp [c])
            · exact .inr ⟨by simpa using c, m3 c⟩
          clear hprev m3 m1
          rcases hcases with ⟨hk0, dk⟩ | ⟨hk0, dk, m, y, hm, p0, pb⟩
          · have dk2 : decide (0 < k) = false := decide_eq_false (by omega)
            clear hk0
            rcases hr with dr | ⟨dr, pr⟩
            all_goals
              go_quiet (fail)
              cases hsb : seenB (l.take k) key
              all_goals
                rw [hsb] at HST
                go_wp2
                go_roundw
                case rel => exact ⟨k + 1, by omega, by go_num, by rw [HST.out]; first | rfl | simp, ⟨pw_below_drewN HW3.out _⟩⟩
                case measure => simp [intOf]; omega
          · have dk2 : decide (0 < k) = true := decide_eq_true hk0
            have hm1 : (k : Int) - 1 = (m : Int) := by omega
            have hm2 : IntKind.i64.wrap (m : Int) = (m : Int) := IntWalk.i64_in _ (by omega)
            have hm3 : IntKind.i64.wrap ((k : Int) - 1) = (m : Int) := by rw [hm1]; exact hm2
            have hm4 : (m : Int) < (l.length : Int) := by omega
            have hm5 : (0 : Int) ≤ (m : Int) := by omega
            clear hm
            rcases hr with dr | ⟨dr, pr⟩
            all_goals
              go_quiet (fail)
              cases hsb : seenB (l.take k) key
              all_goals
                rw [hsb] at HST
                go_wp2
                go_roundw
                case rel => exact ⟨k + 1, by omega, by go_num, by rw [HST.out]; first | rfl | simp, ⟨pw_below_drewN HW3.out _⟩⟩
                case measure => simp [intOf]; omega
        · have hlw : w1.heap.size < wr.heap.size := Nat.lt_of_lt_of_le X1.out.lt (below_size HW.out)
          have hk : k = l.length := by omega
          obtain ⟨v, hf⟩ := find_seen l key HS.out (by omega) self right high
          have HF := Aside0.mk hf
          have HSE := Aside0.mk (show seenB (l.take k) key = seenB l key by rw [hk, List.take_length])
          have HC2 := Aside0.mk (Kd.C_below HC1.out HW.out)
          clear hf
          rw [HSE.out]
          go_wp2_with fail
          refine (leaf_Find.calls self right high A c l key v.f0 v.f1 v.f2 v.f3 (seenB l key) _ HC2.out HCc.out HF.out).mono ?_
          rintro e w3 ⟨rfl, hb3⟩
          have HW3 := Aside0.mk (below_step HW.out (below_alloc hb3 (.cells #[.bool v.f0, .string v.f1, .int .i64 v.f2, .int .i64 v.f3] 30)))
          have HX := Aside0.mk (X1.out.below HW3.out X1.out.lt)
          have x0b := HX.out.cell 0 (by simp)
          have x1b := HX.out.cell 1 (by simp)
          have x2b := HX.out.cell 2 (by simp)
          clear hb3 x0 x1 x2 x3 HC2
          have dself : decide ((0 : Int) < self) = true := decide_eq_true (by omega)
          have hrr : (right == 0) = true ∧ high.toList.isEmpty = true ∧ (high.toList == []) = true ∨ (right == 0) = false ∧ high.toList.isEmpty = false ∧ (high.toList == []) = false := by
            have := HRH.out
            cases hr : (right == 0) with
            | true => rw [hr] at this; exact .inl ⟨rfl, this.symm, by rw [List.isEmpty_iff.1 this.symm]; rfl⟩
            | false => rw [hr] at this; exact .inr ⟨rfl, this.symm, by cases hq : high.toList with
                | nil => rw [hq] at this; simp at this
                | cons a b => rfl⟩
          cases hsb : seenB l key
          all_goals
            rcases hrr with ⟨r1, r2, r3⟩ | ⟨r1, r2, r3⟩
            all_goals
              go_wp2_with (first | (go_at_call 12; ((with_reducible refine (withylaw10_fixed.calls true _ rfl (HG.out.below (below_step HB1.out HW3.out))).mono ?_); rintro e w4 ⟨rfl, hb4⟩; have HB4 := Aside0.mk (below_step (below_step HB1.out HW3.out) hb4); clear hb4)))
              go_ret
              exact ⟨rfl, HB4.out⟩
    · have d1 : (e0 != 0) = true := by simpa using he
      clear he hok
      go_wp2_with (first | (go_at_call 12; ((with_reducible refine (withylaw10_fixed.calls true _ rfl (HG.out.below HB1.out)).mono ?_); rintro e w2 ⟨rfl, hb2⟩; have HB2 := Aside0.mk (below_step HB1.out hb2); clear hb2)))
      go_ret
      exact ⟨rfl, HB2.out⟩
theorem LeafRiseW (s key : ByteArray) (w : World) (h0 : s.size ≤ 140737488351232) (h1 : key.size ≤ 140737488351232) (hg : GlobE w) :
    Calls Tryz.prog 3 #[.string s, .string key] w fun e w' => e = .returned (.bool true) ∧ Below w.heap.size w w' := LeafRise_walk s key w h0 hg


end Go.Proofs.YtmheajenlhlbhaaGreatDoor.X


namespace Go.Proofs.YtmheajenlhlbhaaGreatDoor.leafRise
open Go.ChangeShapes Go.WideShapes Go.ChangeAt Go.RowKit
open Go.ChangeMaps (open_string shut_string)
theorem own : ownKnob Tryz.prog.godebug = none := by kernel_rfl
theorem et : Tryz.prog.globalNamed "errors.errorType" = some 0 := by kernel_rfl
theorem rt : (Tryz.prog.cutTypes.find? (·.1 == "internal/reflectlite.rtype")).map (·.2) = some 242 := by kernel_rfl
theorem oneRow : ((List.range 369).filter fun t => Tryz.prog.rowNamed t [101, 114, 114, 111, 114]) = [86] := by kernel_rfl
theorem tsize : Tryz.prog.types.size = 369 := by kernel_rfl
theorem handle_of_laid {W : World} (h : laidMetH Tryz.prog Rows.leafRiseRow.laid W) : X.GlobE W := by
  have h' : laidMet Tryz.prog [] W ∧ handlesMet Tryz.prog [("errors.errorType", Rows.laid_errors_errorType)] W := h
  obtain ⟨name, u, ty, e1, e2, e3, e4, e5⟩ := h'.2 _ (List.mem_singleton.2 rfl)
  have en : name = [101, 114, 114, 111, 114] := (Option.some.inj e1).symm
  subst en
  obtain rfl := Option.some.inj (rt.symm.trans e2)
  have hm : ty ∈ (List.range 369).filter fun t => Tryz.prog.rowNamed t [101, 114, 114, 111, 114] := List.mem_filter.2 ⟨List.mem_range.2 (by rw [← tsize]; exact e3), e4⟩
  rw [oneRow] at hm
  obtain rfl := List.mem_singleton.1 hm
  have hh : typeHandle Tryz.prog 86 = .pointer (some ⟨2, 86, none⟩) := by kernel_rfl
  rw [hh] at e5
  have := World.var?_cell et e5 0
  unfold X.GlobE
  simpa using this
noncomputable def laidWorld (os : Os) : World :=
  let w0 := World.holding Tryz.prog os ⟨#[], #[], []⟩
  { w0 with heap := w0.heap.modify 0 fun
      | .cells _ t frozen => .cells #[.iface 242 (.agg #[.pointer (some ⟨2, 86, none⟩)])] t frozen
      | o => o }
theorem laidWorld_met (os : Os) (args : Array Value) : laidMetH Tryz.prog Rows.leafRiseRow.laid ((laidWorld os).forCall (fun _ _ => 0) ⟨#[], args, []⟩).memory :=
  laidMetH_of_parts (laidMet_nil _ _) (by kernel_rfl)
set_option maxRecDepth 100000 in
theorem lifted (os : Os) (started : os.Started) (H : Type) (enc : TypeId × Value → H) :
    ReturnsInHanded {} Tryz.checked os 3 .any (fun w args => (Rows.leafRiseSpec.pre enc Tryz.prog Tryz.f3 [] false w args ∧ laidMetH Tryz.prog Rows.leafRiseRow.laid w) ∧ sizedMet enc Tryz.prog Tryz.f3 (OpenSpec.ofChange Rows.leafRiseSpec) false w args)
      (Rows.leafRiseSpec.post enc Tryz.prog Tryz.f3 false true false false) := by
  refine returnsInHanded_of_change_and (C := Tryz.checked) (X := fun w _ => laidMetH Tryz.prog Rows.leafRiseRow.laid w) (fun _ _ _ hh h => h.of_heap hh) own started (by kernel_rfl) Tryz.func3
    (ChangeSpec.witness_at (enc := enc) (C := Tryz.checked) (os := os) (X := fun w _ => laidMetH Tryz.prog Rows.leafRiseRow.laid w) false (laidWorld os) #[.string ByteArray.empty, .string ByteArray.empty] 8 rfl (by kernel_rfl) (by kernel_rfl) (by kernel_rfl) (by kernel_rfl) (by kernel_rfl) (laidWorld_met os _)) ?_
  intro W base args ds gs before hval0 hW hcnd hsz0 hL _
  have hsz : (DataW.weightsEach Tryz.prog (Tryz.f3.params.toList ++ Rows.leafRiseSpec.plain.varTypes Tryz.prog) (ds ++ gs)).all (· ≤ reachBytes) = true := hsz0
  have hval : ∀ (j : Nat) t v, Tryz.f3.params[j]? = some t → args[j]? = some v → Value.okWide Tryz.prog W .any base t v := hval0
  have hW' := hW
  obtain ⟨p, q, hA0, hV, rfl, hfz, hnd⟩ := hW
  have hA : DataW.TrodAll enc Tryz.prog W 0 (fun _ => true) true Tryz.f3.params.toList args.toList ds p := hA0
  rw [Tryz.params3] at hA hval hsz
  obtain ⟨v0, vs0, d0, ds0, p0, q0, hargs, rfl, rfl, h0, r0⟩ := trodAll_cons hA
  obtain ⟨v1, vs1, d1, ds1, p1, q1, rfl, rfl, rfl, h1, r1⟩ := trodAll_cons r0
  obtain ⟨rfl, rfl, rfl⟩ := trodAll_nil r1
  obtain rfl : args = #[v0, v1] := by cases args; simp_all
  obtain ⟨rfl, rfl⟩ := trodVars_none hV
  obtain ⟨a0, rfl, rfl, rfl, y0⟩ := open_string Tryz.underlying9 (hval 0 9 v0 rfl rfl) h0
  have w0 : a0.size ≤ 140737488351232 := by
    have z := sized_string hsz (j := 0) (t := 9) rfl rfl
    rw [Array.length_toList] at z
    exact z
  obtain ⟨a1, rfl, rfl, rfl, y1⟩ := open_string Tryz.underlying9 (hval 1 9 v1 rfl rfl) h1
  have w1 : a1.size ≤ 140737488351232 := by
    have z := sized_string hsz (j := 1) (t := 9) rfl rfl
    rw [Array.length_toList] at z
    exact z
  have hg := handle_of_laid hL
  clear hA0 hval0 hsz0 hsz
  refine (X.LeafRiseW a0 a1 W w0 w1 hg).mono fun e W' ⟨he, bel⟩ => ?_
  subst he
  exact ⟨_, rfl, _, _, _, [], _, [], hW', trodAll_mk1 (shut_bool Tryz.underlying4 _), (trodAll_cons_mk (shut_string Tryz.underlying9 y0) (trodAll_cons_mk (shut_string Tryz.underlying9 y1) trodAll_mk0)), rfl, bel.frame _, fun h => by cases h⟩
theorem over : Rows.leafRiseRow.holds Tryz.pinned (OpenSpec.ofChange Rows.leafRiseSpec) :=
  OpenClaim.holds_of_wide 3 Tryz.f3 rfl rfl rfl rfl rfl rfl rfl ⟨rfl, rfl, rfl, rfl, rfl⟩ rfl rfl rfl rfl rfl (by kernel_rfl) Tryz.func3 (by kernel_rfl)
    (of_decide_eq_true (by kernel_rfl)) (by unfold Func.isWrapper; first | (rw [if_pos (by decide +kernel)]; kernel_rfl) | (rw [if_neg (by decide +kernel)]; exact ⟨rfl, rfl⟩))
    (fun os started H enc _ => lifted os started H enc)
end Go.Proofs.YtmheajenlhlbhaaGreatDoor.leafRise
namespace Go.Proofs.YtmheajenlhlbhaaGreatDoor
open Go
theorem leafRiseCard_holds : Rows.LeafRiseCardSaid :=
  Claim7.holds_tied_plain_at .later [] [.handle] true (true, "09115c9c50980ff5bf7e396397c5a42d24365546b1409e8b8a457ca0dda4a959") true
    leafRise.over (fun _ h => by cases h) (by kernel_rfl) (fun _ h => by cases h) leafRise_row_tie rfl ⟨rfl, rfl⟩ (by kernel_rfl) rfl
    (fun f fn hf hfn => by
      obtain rfl : f = 3 := Option.some.inj ((show Tryz.prog.funcNamed "withy/withylaw10.LeafRise" = some 3 by kernel_rfl).symm.trans hf) |>.symm
      obtain rfl : fn = Tryz.f3 := (Option.some.inj (Tryz.func3.symm.trans hfn)).symm
      exact ⟨by kernel_rfl, fun j t ht => by
        rw [Tryz.params3] at ht
        have hm : t ∈ [9] := by
          have := List.mem_of_getElem? (by simpa using ht : [9, 9][j]? = some t)
          simpa using this
        revert hm
        exact (show ∀ t ∈ [9], Tryz.prog.wantsStandIn t = false by decide +kernel) t⟩)
    (by kernel_rfl)
#print axioms leafRiseCard_holds
end Go.Proofs.YtmheajenlhlbhaaGreatDoor

