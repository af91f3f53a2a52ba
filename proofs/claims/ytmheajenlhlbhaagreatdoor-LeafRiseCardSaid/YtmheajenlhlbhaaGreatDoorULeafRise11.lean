/- What functions of the given program compute, step by step: the walks that the law LeafRise leans on, part 11. No conditions. -/
import Derived.Test.YtmheajenlhlbhaaGreatDoorULeafRise01
import Derived.Test.YtmheajenlhlbhaaGreatDoorULeafRise10
import Derived.Deep.RegionWith
import Derived.Test.YtmheajenlhlbhaaGreatDoorULeafRise05
import Derived.RangeFuncBox
import Derived.RangeFuncLeaves
import Derived.Deep.QuietTactic
import Derived.BigQuiet
import Derived.Test.YtmheajenlhlbhaaGreatDoorULeafRise02
namespace Go.Proofs.YtmheajenlhlbhaaGreatDoor.X
open Go.RowKit Go.Proofs.YtmheajenlhlbhaaGreatDoorW.PrintWords Go.Proofs.YtmheajenlhlbhaaGreatDoorW.PrintLast Go.Proofs.YtmheajenlhlbhaaGreatDoorW.PrintMore
attribute [local go_sem] max2_int min2_int max_two min_two max_three min_three max_four min_four   -- for this text's walks alone
set_option linter.unusedVariables false
set_option linter.unusedSimpArgs false

abbrev CV (n : Nat) (w0 W : World) (g : Nat) (s : ByteArray) (a : Int) (bad : Bool) (ov : Bool) (S : ByteArray) (len page : Int) : Prop := RB n w0 W g 238 [.bool ov, .string S, .int .i64 len, .int .i64 page] s a bad
theorem CV.setOv {n : Nat} {w0 W : World} {g : Nat} {s : ByteArray} {a : Int} {bad ov : Bool} {S : ByteArray} {len page : Int} (h : CV n w0 W g s a bad ov S len page) (v : Bool) : CV n w0 (W.setCell ⟨g, 3, none⟩ (.bool v)) g s a bad v S len page :=
  ⟨by have := h.blk.set 3 (.bool v); simpa using this, h.low.setCell (p := ⟨g, 3, none⟩) h.at_ _, h.at_⟩
theorem CV.setS {n : Nat} {w0 W : World} {g : Nat} {s : ByteArray} {a : Int} {bad ov : Bool} {S : ByteArray} {len page : Int} (h : CV n w0 W g s a bad ov S len page) (v : ByteArray) : CV n w0 (W.setCell ⟨g, 4, none⟩ (.string v)) g s a bad ov v len page :=
  ⟨by have := h.blk.set 4 (.string v); simpa using this, h.low.setCell (p := ⟨g, 4, none⟩) h.at_ _, h.at_⟩
theorem CV.setLen {n : Nat} {w0 W : World} {g : Nat} {s : ByteArray} {a : Int} {bad ov : Bool} {S : ByteArray} {len page : Int} (h : CV n w0 W g s a bad ov S len page) (v : Int) : CV n w0 (W.setCell ⟨g, 5, none⟩ (.int .i64 v)) g s a bad ov S v page :=
  ⟨by have := h.blk.set 5 (.int .i64 v); simpa using this, h.low.setCell (p := ⟨g, 5, none⟩) h.at_ _, h.at_⟩
theorem CV.setPage {n : Nat} {w0 W : World} {g : Nat} {s : ByteArray} {a : Int} {bad ov : Bool} {S : ByteArray} {len page : Int} (h : CV n w0 W g s a bad ov S len page) (v : Int) : CV n w0 (W.setCell ⟨g, 6, none⟩ (.int .i64 v)) g s a bad ov S len v :=
  ⟨by have := h.blk.set 6 (.int .i64 v); simpa using this, h.low.setCell (p := ⟨g, 6, none⟩) h.at_ _, h.at_⟩
theorem CV.v3 {n : Nat} {w0 W : World} {g : Nat} {s : ByteArray} {a : Int} {bad ov : Bool} {S : ByteArray} {len page : Int} (h : CV n w0 W g s a bad ov S len page) : W.cell? ⟨g, 3, none⟩ = some (.bool ov) := h.blk.cell 3 (by simp)
theorem CV.v4 {n : Nat} {w0 W : World} {g : Nat} {s : ByteArray} {a : Int} {bad ov : Bool} {S : ByteArray} {len page : Int} (h : CV n w0 W g s a bad ov S len page) : W.cell? ⟨g, 4, none⟩ = some (.string S) := h.blk.cell 4 (by simp)
theorem CV.v5 {n : Nat} {w0 W : World} {g : Nat} {s : ByteArray} {a : Int} {bad ov : Bool} {S : ByteArray} {len page : Int} (h : CV n w0 W g s a bad ov S len page) : W.cell? ⟨g, 5, none⟩ = some (.int .i64 len) := h.blk.cell 5 (by simp)
theorem CV.v6 {n : Nat} {w0 W : World} {g : Nat} {s : ByteArray} {a : Int} {bad ov : Bool} {S : ByteArray} {len page : Int} (h : CV n w0 W g s a bad ov S len page) : W.cell? ⟨g, 6, none⟩ = some (.int .i64 page) := h.blk.cell 6 (by simp)
theorem CV.fr {n : Nat} {w0 W : World} {g : Nat} {s : ByteArray} {a : Int} {bad ov : Bool} {S : ByteArray} {len page : Int} (h : CV n w0 W g s a bad ov S len page) (k : Nat) : W.frozen? ⟨g, k, none⟩ = false := h.blk.frozen k
def cell_value.f (k : Nat) (s : ByteArray) (a : Int) (bad : Bool) : Option (Int × Bool × Bool × ByteArray × Int × Int) :=
  (cell_reader_take.f s a bad 1).bind fun x =>
    if x.1.toList = [1] then (cell_reader_number.f k s x.2.1 x.2.2).bind fun y => (cell_reader_four.f k s y.2.1 y.2.2).bind fun z => some (z.2.1, z.2.2, true, ⟨#[]⟩, y.1, z.1)
    else if x.1.toList = [0] then (cell_reader_number.f k s x.2.1 x.2.2).bind fun y => (cell_reader_take.f s y.2.1 y.2.2 y.1).bind fun z => some (z.2.1, z.2.2, false, z.1, 0, 0)
    else some (x.2.1, x.2.2, false, ⟨#[]⟩, 0, 0)
set_option maxRecDepth 100000 in
set_option maxHeartbeats 2000000 in
theorem cell_value.calls (k : Nat) (g : Nat) (s : ByteArray) (a : Int) (bad : Bool) (a2 : Int) (bad2 ov : Bool) (S : ByteArray) (len page : Int) (n : Nat) (w0 w : World) (hR : CV n w0 w g s a bad false ⟨#[]⟩ 0 0) (h : cell_value.f k s a bad = some (a2, bad2, ov, S, len, page)) :
    Calls Tryz.prog 142 #[.pointer (some ⟨g, 0, none⟩)] w fun e w' => e = .returned (.tuple #[]) ∧ CV n w0 w' g s a2 bad2 ov S len page := by
  unfold cell_value.f at h
  obtain ⟨⟨x, a1, bad1⟩, ht, h⟩ := Option.bind_eq_some_iff.mp h
  have HT := Aside0.mk ht
  have HR := Aside0.mk hR
  clear ht hR
  dsimp only at h
  by_cases c1 : x.toList = [1]
  · rw [if_pos c1] at h
    obtain ⟨⟨n1, a3, bad3⟩, hn, h⟩ := Option.bind_eq_some_iff.mp h
    obtain ⟨⟨n2, a4, bad4⟩, hf, h⟩ := Option.bind_eq_some_iff.mp h
    have HN := Aside0.mk hn
    have HF := Aside0.mk hf
    simp only [Option.some.injEq, Prod.mk.injEq] at h
    obtain ⟨rfl, rfl, rfl, rfl, rfl, rfl⟩ := h
    have d1 : (x.toList == [1]) = true := by rw [c1]; rfl
    clear hn hf
    go_enter Tryz.func142, Tryz.ntmps142
    go_wp2_with (first
      | (go_at_call 140; ((with_reducible refine (cell_reader_take.calls g _ _ s a bad 1 x a1 bad1 n w0 _ HR.out HT.out).mono ?_); rintro e w1 ⟨rfl, h1⟩; have H1 : Aside0 (CV n w0 w1 g s a1 bad1 false ⟨#[]⟩ 0 0) := ⟨h1⟩; clear h1; have y3 := H1.out.v3; have y3f := H1.out.fr 3; have H2 := Aside0.mk (H1.out.setOv true)))
      | (go_at_call 141; ((with_reducible refine (cell_reader_number.calls k g _ _ s a1 bad1 n1 a3 bad3 n w0 _ H2.out HN.out).mono ?_); rintro e w2 ⟨rfl, h2⟩; have H3 : Aside0 (CV n w0 w2 g s a3 bad3 true ⟨#[]⟩ 0 0) := ⟨h2⟩; clear h2; have y5 := H3.out.v5; have y5f := H3.out.fr 5; have H4 := Aside0.mk (H3.out.setLen n1)))
      | (go_at_call 183; ((with_reducible refine (cell_reader_four.calls k g _ _ s a3 bad3 n2 a4 bad4 n w0 _ H4.out HF.out).mono ?_); rintro e w3 ⟨rfl, h3⟩; have H5 : Aside0 (CV n w0 w3 g s a4 bad4 true ⟨#[]⟩ n1 0) := ⟨h3⟩; clear h3; have y6 := H5.out.v6; have y6f := H5.out.fr 6; have H6 := Aside0.mk (H5.out.setPage n2))))
    refine bodyPost_end (results_none rfl _ _ _) rfl ?_
    exact ⟨rfl, H6.out⟩
  · rw [if_neg c1] at h
    have d1 : (x.toList == [1]) = false := by simpa using c1
    by_cases c0 : x.toList = [0]
    · rw [if_pos c0] at h
      have d2 : (x.toList == [0]) = true := by rw [c0]; rfl
      obtain ⟨⟨m, a3, bad3⟩, hn, h⟩ := Option.bind_eq_some_iff.mp h
      obtain ⟨⟨y, a4, bad4⟩, hf, h⟩ := Option.bind_eq_some_iff.mp h
      have HN := Aside0.mk hn
      have HF := Aside0.mk hf
      simp only [Option.some.injEq, Prod.mk.injEq] at h
      obtain ⟨rfl, rfl, rfl, rfl, rfl, rfl⟩ := h
      clear hn hf
      go_enter Tryz.func142, Tryz.ntmps142
      go_wp2_with (first | (go_at_call 140; ((with_reducible refine (cell_reader_take.calls g _ _ s a bad 1 x a1 bad1 n w0 _ HR.out HT.out).mono ?_); rintro e w1 ⟨rfl, h1⟩; have H1 : Aside0 (CV n w0 w1 g s a1 bad1 false ⟨#[]⟩ 0 0) := ⟨h1⟩; clear h1)))
      have H1d : Aside0 (CV n w0 w1.drew g s a1 bad1 false ⟨#[]⟩ 0 0) := ⟨H1.out.drew⟩
      go_region_with (first
        | (go_at_call 141; ((with_reducible refine (cell_reader_number.calls k g _ _ s a1 bad1 m a3 bad3 n w0 _ H1d.out HN.out).mono ?_); rintro e w2 ⟨rfl, h2⟩; have H3 : Aside0 (CV n w0 w2 g s a3 bad3 false ⟨#[]⟩ 0 0) := ⟨h2⟩; clear h2))
        | (go_at_call 140; ((with_reducible refine (cell_reader_take.calls g _ _ s a3 bad3 m y a4 bad4 n w0 _ H3.out HF.out).mono ?_); rintro e w3 ⟨rfl, h3⟩; have H5 : Aside0 (CV n w0 w3 g s a4 bad4 false ⟨#[]⟩ 0 0) := ⟨h3⟩; clear h3; have y4 := H5.out.v4; have y4f := H5.out.fr 4; have H6 := Aside0.mk (H5.out.setS y); have z3 := H6.out.v3; have z3f := H6.out.fr 3; have H7 := Aside0.mk (H6.out.setOv false))))
      all_goals
        go_wp2
        refine bodyPost_end (results_none rfl _ _ _) rfl ?_
        exact ⟨rfl, H7.out⟩
    · rw [if_neg c0] at h
      have d2 : (x.toList == [0]) = false := by simpa using c0
      simp only [Option.some.injEq, Prod.mk.injEq] at h
      obtain ⟨rfl, rfl, rfl, rfl, rfl, rfl⟩ := h
      go_enter Tryz.func142, Tryz.ntmps142
      go_wp2_with (first | (go_at_call 140; ((with_reducible refine (cell_reader_take.calls g _ _ s a bad 1 x a1 bad1 n w0 _ HR.out HT.out).mono ?_); rintro e w1 ⟨rfl, h1⟩; have H1 : Aside0 (CV n w0 w1 g s a1 bad1 false ⟨#[]⟩ 0 0) := ⟨h1⟩; clear h1; have y3 := H1.out.v3; have y3f := H1.out.fr 3; have H2 := Aside0.mk (H1.out.setOv false))))
      refine bodyPost_end (results_none rfl _ _ _) rfl ?_
      exact ⟨rfl, H2.out⟩


end Go.Proofs.YtmheajenlhlbhaaGreatDoor.X


namespace Go.Proofs.YtmheajenlhlbhaaGreatDoor.X
open Go.RowKit Go.Proofs.YtmheajenlhlbhaaGreatDoorW.PrintWords Go.Proofs.YtmheajenlhlbhaaGreatDoorW.PrintLast Go.Proofs.YtmheajenlhlbhaaGreatDoorW.PrintMore
attribute [local go_sem] max2_int min2_int max_two min_two max_three min_three max_four min_four   -- for this text's walks alone
set_option linter.unusedVariables false
set_option linter.unusedSimpArgs false

def cell_GetValue.f (k : Nat) (s : ByteArray) : Option (ByteArray × S30 × Int) :=
  (cell_reader_number.f k s 0 false).bind fun x => (cell_reader_take.f s x.2.1 x.2.2 x.1).bind fun y => (cell_value.f k s y.2.1 y.2.2).bind fun z =>
    (cell_PutValue.f y.1 z.2.2.1 z.2.2.2.1 z.2.2.2.2.1 z.2.2.2.2.2).bind fun u =>
      if z.2.1 = true ∨ u.2 ≠ 0 ∨ u.1.toList ≠ s.toList then some (⟨#[]⟩, ⟨false, ⟨#[]⟩, 0, 0⟩, 3) else some (y.1, ⟨z.2.2.1, z.2.2.2.1, z.2.2.2.2.1, z.2.2.2.2.2⟩, 0)
set_option maxRecDepth 100000 in
set_option maxHeartbeats 4000000 in
theorem cell_GetValue.calls (k : Nat) (s : ByteArray) (r : ByteArray) (v : S30) (e2 : Int) (w : World) (h : cell_GetValue.f k s = some (r, v, e2)) :
    Calls Tryz.prog 90 #[.string s] w fun e w' => e = .returned (.tuple #[.string r, .agg #[.bool v.f0, .string v.f1, .int .i64 v.f2, .int .i64 v.f3], .int .i64 e2]) ∧ Below w.heap.size w w' := by
  unfold cell_GetValue.f at h
  obtain ⟨⟨m, a1, b1⟩, hn, h⟩ := Option.bind_eq_some_iff.mp h
  obtain ⟨⟨y, a2, b2⟩, ht, h⟩ := Option.bind_eq_some_iff.mp h
  obtain ⟨⟨a3, b3, ov, S, len, page⟩, hv, h⟩ := Option.bind_eq_some_iff.mp h
  obtain ⟨⟨u, ue⟩, hp, h⟩ := Option.bind_eq_some_iff.mp h
  have HN := Aside0.mk hn
  have HT := Aside0.mk ht
  have HV := Aside0.mk hv
  have HP := Aside0.mk hp
  have HH := Aside0.mk h
  clear hn ht hv hp h
  have hC0 : CV (w.heap.size + 1) (w.alloc (.cells #[.bool false, .string ⟨#[]⟩, .int .i64 0, .int .i64 0] 30)) (((w.alloc (.cells #[.bool false, .string ⟨#[]⟩, .int .i64 0, .int .i64 0] 30)).alloc (.cells #[.string s, .int .i64 0, .bool false, .bool false, .string ⟨#[]⟩, .int .i64 0, .int .i64 0] 238))) (w.heap.size + 1) s 0 false false ⟨#[]⟩ 0 0 := by
    refine ⟨?_, ?_, Nat.le_refl _⟩
    · have := World.alloc_heap_new (w.alloc (.cells #[.bool false, .string ⟨#[]⟩, .int .i64 0, .int .i64 0] 30)) (.cells #[.string s, .int .i64 0, .bool false, .bool false, .string ⟨#[]⟩, .int .i64 0, .int .i64 0] 238)
      rw [World.size_alloc] at this
      exact this
    · have := below_alloc (Below.refl (w.alloc (.cells #[.bool false, .string ⟨#[]⟩, .int .i64 0, .int .i64 0] 30)).heap.size (w.alloc (.cells #[.bool false, .string ⟨#[]⟩, .int .i64 0, .int .i64 0] 30))) (.cells #[.string s, .int .i64 0, .bool false, .bool false, .string ⟨#[]⟩, .int .i64 0, .int .i64 0] 238)
      rw [World.size_alloc] at this
      exact this
  have HC := Aside0.mk hC0
  have HCd : Aside0 (CV _ _ _ _ _ _ _ _ _ _ _) := ⟨hC0.drew⟩
  clear hC0
  have hcs : (b3 = true ∧ r = ⟨#[]⟩ ∧ v = ⟨false, ⟨#[]⟩, 0, 0⟩ ∧ e2 = 3) ∨ (b3 = false ∧ (ue != 0) = true ∧ r = ⟨#[]⟩ ∧ v = ⟨false, ⟨#[]⟩, 0, 0⟩ ∧ e2 = 3) ∨ (b3 = false ∧ (ue != 0) = false ∧ (u.toList == s.toList) = false ∧ r = ⟨#[]⟩ ∧ v = ⟨false, ⟨#[]⟩, 0, 0⟩ ∧ e2 = 3) ∨ (b3 = false ∧ (ue != 0) = false ∧ (u.toList == s.toList) = true ∧ r = y ∧ v = ⟨ov, S, len, page⟩ ∧ e2 = 0) := by
    have h := HH.out
    dsimp only at h
    cases b3 with
    | true =>
      rw [if_pos (.inl rfl)] at h
      simp only [Option.some.injEq, Prod.mk.injEq] at h
      exact .inl ⟨rfl, h.1.symm, h.2.1.symm, h.2.2.symm⟩
    | false =>
      by_cases he : ue = 0
      · by_cases hu : u.toList = s.toList
        · rw [if_neg (by simp [he, hu])] at h
          simp only [Option.some.injEq, Prod.mk.injEq] at h
          exact .inr (.inr (.inr ⟨rfl, by simp [he], by simp [hu], h.1.symm, h.2.1.symm, h.2.2.symm⟩))
        · rw [if_pos (.inr (.inr hu))] at h
          simp only [Option.some.injEq, Prod.mk.injEq] at h
          exact .inr (.inr (.inl ⟨rfl, by simp [he], by simpa using hu, h.1.symm, h.2.1.symm, h.2.2.symm⟩))
      · rw [if_pos (.inr (.inl he))] at h
        simp only [Option.some.injEq, Prod.mk.injEq] at h
        exact .inr (.inl ⟨rfl, by simpa using he, h.1.symm, h.2.1.symm, h.2.2.symm⟩)
  clear HH
  have hb0 : Block (w.alloc (.cells #[.bool false, .string ⟨#[]⟩, .int .i64 0, .int .i64 0] 30)) w.heap.size 30 #[.bool false, .string ⟨#[]⟩, .int .i64 0, .int .i64 0] := World.alloc_heap_new w _
  have HB0 := Aside0.mk hb0
  clear hb0
  rcases hcs with ⟨rfl, rfl, rfl, rfl⟩ | ⟨rfl, d2, rfl, rfl, rfl⟩ | ⟨rfl, d2, d3, rfl, rfl, rfl⟩ | ⟨rfl, d2, d3, rfl, rfl, rfl⟩
  all_goals
    go_enter Tryz.func90, Tryz.ntmps90
    go_wp2
    go_region_with (first
      | (go_at_call 141; ((with_reducible refine (cell_reader_number.calls k _ _ _ s 0 false m a1 b1 _ _ _ HCd.out HN.out).mono ?_); rintro e w2 ⟨rfl, h2⟩; have H2 : Aside0 (CV _ _ w2 _ s a1 b1 false ⟨#[]⟩ 0 0) := ⟨h2⟩; clear h2))
      | (go_at_call 140; ((with_reducible refine (cell_reader_take.calls _ _ _ s a1 b1 m _ a2 b2 _ _ _ H2.out HT.out).mono ?_); rintro e w3 ⟨rfl, h3⟩; have H3 : Aside0 (CV _ _ w3 _ s a2 b2 false ⟨#[]⟩ 0 0) := ⟨h3⟩; clear h3)))
    all_goals
      go_wp2_with (first
        | (go_at_call 142; ((with_reducible refine (cell_value.calls k _ s a2 b2 a3 _ ov S len page _ _ _ H3.out HV.out).mono ?_); rintro e w4 ⟨rfl, h4⟩; have H4 : Aside0 (CV _ _ w4 _ s a3 _ ov S len page) := ⟨h4⟩; clear h4; have y2 := H4.out.c2; have y3 := H4.out.v3; have y4 := H4.out.v4; have y5 := H4.out.v5; have y6 := H4.out.v6))
        | (go_at_call 143; ((with_reducible refine (cell_PutValue.calls _ ov S len page u ue _ HP.out).mono ?_); rintro e w5 ⟨rfl, h5⟩; have H5 := Aside0.mk (H4.out.step h5); clear h5; have z2 := RB.c2 H5.out; have z3 := CV.v3 H5.out; have z4 := CV.v4 H5.out; have z5 := CV.v5 H5.out; have z6 := CV.v6 H5.out; have HBk := Aside0.mk (HB0.out.below H5.out.low (by simp)); have q0 := HBk.out.cell 0 (by simp); have q1 := HBk.out.cell 1 (by simp); have q2 := HBk.out.cell 2 (by simp); have q3 := HBk.out.cell 3 (by simp); have f0 := HBk.out.frozen 0; have f1 := HBk.out.frozen 1; have f2 := HBk.out.frozen 2; have f3 := HBk.out.frozen 3)))
      have HL := Aside0.mk (((below_alloc (Below.refl w.heap.size w) (.cells #[.bool false, .string ⟨#[]⟩, .int .i64 0, .int .i64 0] 30)).trans (H5.out.low.mono (by omega))))
      first
        | (refine bodyPost_ret (v := .tuple #[.string ⟨#[]⟩, .agg #[.bool false, .string ⟨#[]⟩, .int .i64 0, .int .i64 0], .int .i64 3]) (by simp [results, Tryz.results90, go_sem, q0, q1, q2, q3, f0, f1, f2, f3]) rfl ⟨rfl, ?_⟩
           exact below_set (below_set (below_set (below_set HL.out (Nat.le_refl _)) (Nat.le_refl _)) (Nat.le_refl _)) (Nat.le_refl _))
        | (go_region
           all_goals
             go_wp2
             refine bodyPost_ret (v := .tuple #[.string r, .agg #[.bool ov, .string S, .int .i64 len, .int .i64 page], .int .i64 0]) (by simp [results, Tryz.results90, go_sem, q0, q1, q2, q3, f0, f1, f2, f3]) rfl ⟨rfl, ?_⟩
             exact below_drew (below_set (below_set (below_set (below_set HL.out (Nat.le_refl _)) (Nat.le_refl _)) (Nat.le_refl _)) (Nat.le_refl _)))


end Go.Proofs.YtmheajenlhlbhaaGreatDoor.X


namespace Go.Proofs.YtmheajenlhlbhaaGreatDoor.X
open Go.RowKit Go.Proofs.YtmheajenlhlbhaaGreatDoorW.PrintWords Go.Proofs.YtmheajenlhlbhaaGreatDoorW.PrintLast Go.Proofs.YtmheajenlhlbhaaGreatDoorW.PrintMore
attribute [local go_sem] max2_int min2_int max_two min_two max_three min_three max_four min_four   -- for this text's walks alone
set_option linter.unusedVariables false
set_option linter.unusedSimpArgs false

def cellErr : Value := .iface 90 (.agg #[.string ⟨#[99, 101, 108, 108]⟩])
def errV (b : Bool) : Value := if b = true then cellErr else .nilIface
def toldItems (k : Nat) (all : ByteArray) : List ByteArray → Option (List S32 × Bool)
  | [] => some ([], false)
  | c :: r => (cell_GetValue.f k c).bind fun x => if all.size ≤ 1000000000 ∧ x.1.size ≤ 1000000000 then (toldItems k all r).map fun y => (⟨all ++ x.1, x.2.1⟩ :: y.1, decide (x.2.2 ≠ 0) || y.2) else none
set_option maxRecDepth 100000 in
set_option maxHeartbeats 2000000 in
theorem leaf_items1.calls (k : Nat) (c all s : ByteArray) (v : S30) (e2 : Int) (er : Bool) (be ba : Nat) (w : World) (hne : be ≠ ba) (hE : Block w be 86 #[errV er]) (hA : w.cell? ⟨ba, 0, none⟩ = some (.string all)) (hz : all.size ≤ 1000000000 ∧ s.size ≤ 1000000000) (h : cell_GetValue.f k c = some (s, v, e2)) :
    Calls Tryz.prog 89 #[.string c, .pointer (some ⟨be, 0, none⟩), .pointer (some ⟨ba, 0, none⟩)] w fun e w' => e = .returned (.agg #[.string (all ++ s), .bool v.f0, .string v.f1, .int .i64 v.f2, .int .i64 v.f3]) ∧ Block w' be 86 #[errV (decide (e2 ≠ 0) || er)] ∧ Kept w.heap.size (· = be) w w' := by
  have hbe := hE.lt
  have hba : ba < w.heap.size := World.block_lt_of_cell? w ⟨ba, 0, none⟩ hA
  have n1 : be ≠ w.heap.size := Nat.ne_of_lt hbe
  have n2 : w.heap.size ≠ be := n1.symm
  have n3 : ba ≠ be := hne.symm
  have hR0 : Block (w.alloc (.cells #[.string ⟨#[]⟩, .bool false, .string ⟨#[]⟩, .int .i64 0, .int .i64 0] 32)) w.heap.size 32 #[.string ⟨#[]⟩, .bool false, .string ⟨#[]⟩, .int .i64 0, .int .i64 0] := World.alloc_heap_new w _
  have hs1 : (9223372036854775807 < all.size + s.size) = False := eq_false (by omega)
  have HE := Aside0.mk hE
  have HA := Aside0.mk hA
  have HR := Aside0.mk hR0
  have H := Aside0.mk h
  clear hE hA hR0 h
  by_cases he : e2 = 0
  · have d1 : (e2 != 0) = false := by simp [he]
    have hfin : (decide (e2 ≠ 0) || er) = er := by simp [he]
    rw [hfin]
    clear he hfin
    go_enter Tryz.func89, Tryz.ntmps89
    go_wp2_with (first | (go_at_call 90; ((with_reducible refine (cell_GetValue.calls k c s v e2 _ H.out).mono ?_); rintro e w1 ⟨rfl, h1⟩; have HB := Aside0.mk (below_alloc h1 (.cells #[.bool v.f0, .string v.f1, .int .i64 v.f2, .int .i64 v.f3] 30)); have HW := Aside0.mk (below_step (below_alloc (Below.refl w.heap.size w) _) (below_alloc h1 (.cells #[.bool v.f0, .string v.f1, .int .i64 v.f2, .int .i64 v.f3] 30))); have HRb := Aside0.mk (HR.out.below HB.out (by simp)); clear h1; have hA1 := (HW.out.cell (p := ⟨ba, 0, none⟩) hba).trans HA.out; have HEb := Aside0.mk (HE.out.below HW.out hbe); have hE1 := HEb.out.cell 0 (by simp); have hE1f := HEb.out.frozen 0; have q0 := HRb.out.cell 0 (by simp); have q1 := HRb.out.cell 1 (by simp); have q2 := HRb.out.cell 2 (by simp); have q3 := HRb.out.cell 3 (by simp); have q4 := HRb.out.cell 4 (by simp); have f0 := HRb.out.frozen 0; have f1 := HRb.out.frozen 1; have f2 := HRb.out.frozen 2; have f3 := HRb.out.frozen 3; have f4 := HRb.out.frozen 4)))
    refine bodyPost_ret (v := .agg #[.string (all ++ s), .bool v.f0, .string v.f1, .int .i64 v.f2, .int .i64 v.f3]) (by simp [results, Tryz.results89, go_sem, q0, q1, q2, q3, q4, f0, f1, f2, f3, f4]) rfl ⟨rfl, ?_, ?_⟩
    · exact ((((HEb.out.other 0 _ n1).other 1 _ n1).other 2 _ n1).other 3 _ n1).other 4 _ n1
    · exact ((((((Kept.of_below HW.out).set _ _ (.inr (Nat.le_refl _))).set _ _ (.inr (Nat.le_refl _))).set _ _ (.inr (Nat.le_refl _))).set _ _ (.inr (Nat.le_refl _))).set _ _ (.inr (Nat.le_refl _)))
  · have d1 : (e2 != 0) = true := by simpa using he
    have hfin : (decide (e2 ≠ 0) || er) = true := by simp [he]
    rw [hfin]
    clear he hfin
    go_enter Tryz.func89, Tryz.ntmps89
    go_wp2_with (first | (go_at_call 90; ((with_reducible refine (cell_GetValue.calls k c s v e2 _ H.out).mono ?_); rintro e w1 ⟨rfl, h1⟩; have n4 : be ≠ w1.heap.size := (by have := h1.size; rw [World.size_alloc] at this; omega); have n5 := n4.symm; have HB := Aside0.mk (below_alloc h1 (.cells #[.bool v.f0, .string v.f1, .int .i64 v.f2, .int .i64 v.f3] 30)); have HW := Aside0.mk (below_step (below_alloc (Below.refl w.heap.size w) _) (below_alloc h1 (.cells #[.bool v.f0, .string v.f1, .int .i64 v.f2, .int .i64 v.f3] 30))); have HRb := Aside0.mk (HR.out.below HB.out (by simp)); clear h1; have hA1 := (HW.out.cell (p := ⟨ba, 0, none⟩) hba).trans HA.out; have HEb := Aside0.mk (HE.out.below HW.out hbe); have hE1 := HEb.out.cell 0 (by simp); have hE1f := HEb.out.frozen 0; have q0 := HRb.out.cell 0 (by simp); have q1 := HRb.out.cell 1 (by simp); have q2 := HRb.out.cell 2 (by simp); have q3 := HRb.out.cell 3 (by simp); have q4 := HRb.out.cell 4 (by simp); have f0 := HRb.out.frozen 0; have f1 := HRb.out.frozen 1; have f2 := HRb.out.frozen 2; have f3 := HRb.out.frozen 3; have f4 := HRb.out.frozen 4)))
    refine bodyPost_ret (v := .agg #[.string (all ++ s), .bool v.f0, .string v.f1, .int .i64 v.f2, .int .i64 v.f3]) (by simp [results, Tryz.results89, go_sem, q0, q1, q2, q3, q4, f0, f1, f2, f3, f4]) rfl ⟨rfl, ?_, ?_⟩
    · exact (((((HEb.out.set 0 cellErr).other 0 _ n1).other 1 _ n1).other 2 _ n1).other 3 _ n1).other 4 _ n1
    · refine ((((((Kept.of_below HW.out).set _ _ ?_).set _ _ ?_).set _ _ ?_).set _ _ ?_).set _ _ ?_).set _ _ ?_
      all_goals first | exact .inl rfl | exact .inr (Nat.le_refl _)
set_option maxHeartbeats 2000000 in
theorem leaf_told2.calls (k : Nat) (all : ByteArray) (A0 : Option Addr) (c0 : Nat) (l0 : List ByteArray) (out : List S32) (er : Bool) (be ba : Nat) (w : World) (hne : be ≠ ba) (hE : Block w be 86 #[errV false]) (hA : w.cell? ⟨ba, 0, none⟩ = some (.string all)) (hr0 : Kd.C Kd.string w A0 l0.length l0) (hl : l0.length ≤ 1000000000) (hrow : ∀ ad, A0 = some ad → ad.block ≠ be) (h : toldItems k all l0 = some (out, er)) :
    Calls Tryz.prog 88 #[.slice A0 l0.length c0, .func (.func 89) #[] #[.pointer (some ⟨be, 0, none⟩), .pointer (some ⟨ba, 0, none⟩)]] w fun e w' => ∃ v0_ : Value, e = .returned (v0_) ∧ Kd.R k32 32 w' w.heap.size (fun _ => True) v0_ out ∧ Block w' be 86 #[errV er] ∧ Kept w.heap.size (· = be) w w' := by
  have hbe := hE.lt
  have hba : ba < w.heap.size := World.block_lt_of_cell? w ⟨ba, 0, none⟩ hA
  have HE := Aside0.mk hE
  have HA := Aside0.mk hA
  have HR0 := Aside0.mk hr0
  have HROW := Aside0.mk hrow
  have H := Aside0.mk h
  clear hE hA hr0 h hrow
  go_enter Tryz.func88, Tryz.ntmps88
  go_wp2
  go_loopw [5, 10] (fun v i wr => ∃ (j : Nat) (o : List S32) (e : Bool), j ≤ l0.length ∧ o.length = j ∧ i = .int .i64 j ∧ Aside0 (toldItems k all l0 = (toldItems k all (l0.drop j)).map fun y => (o ++ y.1, y.2 || e)) ∧ Aside0 (Kd.R k32 32 wr w.heap.size (fun _ => True) v o) ∧ Aside0 (Block wr be 86 #[errV e]) ∧ Aside0 (Kept w.heap.size (· = be) w wr)) (fun _ i _ => l0.length - (intOf i).toNat)
  case atStart => exact ⟨0, [], false, by omega, rfl, rfl, ⟨by simp⟩, ⟨Kd.R_nil _ _ _ _ _⟩, HE, ⟨Kept.refl _ _ _⟩⟩
  case round =>
    obtain ⟨j, o, e, h0, hlen, rfl, HG, HO, HEb, HK⟩ := hrel
    by_cases hx : j < l0.length
    · obtain ⟨ad0, e0, q0⟩ := Kd.at_string HR0.out (j : Int) (by omega) (by omega)
      have hnb : ¬ (ad0.add (j : Int).toNat).block = be := by
        have := HROW.out ad0 e0
        unfold Addr.add
        split <;> exact this
      replace q0 := (HK.out.cell (World.block_lt_of_cell? w _ q0) hnb).trans q0
      rw [Int.toNat_natCast] at q0
      have ec : rdOf ByteArray.empty l0 (j : Int) = l0[j] := by simp [rdOf, List.getD_eq_getElem?_getD, List.getElem?_eq_getElem hx]
      rw [ec] at q0
      cases e0
      clear hnb ec
      have hd : l0.drop j = l0[j] :: l0.drop (j + 1) := List.drop_eq_getElem_cons hx
      generalize l0[j] = c at q0 hd
      have hall := H.out
      rw [HG.out, hd] at hall
      obtain ⟨y, hy, hy2⟩ := Option.map_eq_some_iff.1 hall
      unfold toldItems at hy
      obtain ⟨⟨s, v, e2⟩, hg, hy⟩ := Option.bind_eq_some_iff.mp hy
      dsimp only at hy
      by_cases hsz : all.size ≤ 1000000000 ∧ s.size ≤ 1000000000
      · have hnew : toldItems k all l0 = (toldItems k all (l0.drop (j + 1))).map fun y => ((o ++ [(⟨all ++ s, v⟩ : S32)]) ++ y.1, y.2 || (decide (e2 ≠ 0) || e)) := by
          rw [HG.out, hd]
          conv => lhs; rw [toldItems]
          rw [hg]
          simp only [Option.bind_some]
          rw [if_pos hsz, Option.map_map]
          congr 1
          funext y
          simp [Bool.or_assoc, Bool.or_comm, Bool.or_left_comm]
        have HN := Aside0.mk hnew
        have HG1 := Aside0.mk hg
        have HA1 := Aside0.mk ((HK.out.cell (p := ⟨ba, 0, none⟩) hba hne.symm).trans HA.out)
        clear hnew hg hall hy hy2 hd HG
        go_wp2_with (first
          | (go_at_call 89; ((with_reducible refine (leaf_items1.calls k c all s v e2 e be ba _ hne HEb.out HA1.out hsz HG1.out).mono ?_); rintro e9 w1 ⟨rfl, hb1, hk1⟩; have HEc := Aside0.mk hb1; have HKc := Aside0.mk (HK.out.trans (hk1.mono HK.out.size (fun _ h => h))); have HOc := Aside0.mk (R_high HO.out (fun k' hk1' hk2' => hk1.block k' hk2' (by omega))); clear hb1 hk1 HO HK HEb))
          | (at_builtin; refine Kd.R_append k32 (w0 := w1) w.heap.size rfl (.tmp 14) (.tmp 18) 22 32 (.agg #[(.string ⟨#[]⟩), (.bool false), (.string ⟨#[]⟩), (.int .i64 0), (.int .i64 0)]) 56 rfl Tryz.underlying22 info32 rfl (by decide) (by omega) u5 o (⟨all ++ s, v⟩ : S32) [.string (all ++ s), .bool v.f0, .string v.f1, .int .i64 v.f2, .int .i64 v.f3] (fun _ => True) (fun _ => False) rfl rfl ?aP (fun _ hk => hk.elim) ?aF ?aO ?aB ?aS ?aL ?_; (case aP => exact k32_mkM _ _ _ (⟨all ++ s, v⟩ : S32)); (case aB => exact Below.refl _ _); (case aF => exact (fun _ _ => trivial)); (case aO => exact HOc.out); (case aS => exact HKc.out.size); (case aL => omega); intro v255 w10 ho hb hg hat; have HO := Aside0.mk ho; have HK := Aside0.mk (HKc.out.trans (Kept.of_below hb)); have HEb := Aside0.mk (HEc.out.below hb hbe); clear ho hb hg hat))
        go_roundw
        case rel => exact ⟨j + 1, o ++ [⟨all ++ s, v⟩], _, by omega, by simp [hlen], by go_num, HN, HO, HEb, HK⟩
        case measure => simp [intOf]; omega
      · rw [if_neg hsz] at hy
        cases hy
    · have hj : j = l0.length := by omega
      have hall := H.out
      rw [HG.out, hj, List.drop_length] at hall
      simp only [toldItems, Option.map_some, Option.some.injEq, Prod.mk.injEq, List.append_nil, Bool.false_or] at hall
      obtain ⟨rfl, rfl⟩ := hall
      clear hj
      go_wp2
      go_ret
      exact ⟨_, rfl, HO.out, HEb.out, HK.out⟩


end Go.Proofs.YtmheajenlhlbhaaGreatDoor.X


namespace Go.Proofs.YtmheajenlhlbhaaGreatDoor.X
open Go.RowKit Go.Proofs.YtmheajenlhlbhaaGreatDoorW.PrintWords Go.Proofs.YtmheajenlhlbhaaGreatDoorW.PrintLast Go.Proofs.YtmheajenlhlbhaaGreatDoorW.PrintMore
attribute [local go_sem] max2_int min2_int max_two min_two max_three min_three max_four min_four   -- for this text's walks alone
set_option linter.unusedVariables false
set_option linter.unusedSimpArgs false

inductive LeafErr (w : World) : Value → Bool → Prop
  | nil : LeafErr w .nilIface false
  | fault (s : ByteArray) : LeafErr w (.iface 90 (.agg #[.string s])) true
  | join (v : Value) (s : ByteArray) (h : JoinA w v s) : LeafErr w v true
theorem LeafErr.below {w w' : World} {v : Value} {b : Bool} (h : LeafErr w v b) (hb : Below w.heap.size w w') : LeafErr w' v b := by
  cases h with
  | nil => exact .nil
  | fault s => exact .fault s
  | join _ s h => exact .join _ s (h.below hb)
theorem leafErr_errV (w : World) (b : Bool) : LeafErr w (errV b) b := by
  cases b
  · exact .nil
  · exact .fault _
def leaf_items.f (k : Nat) (s : ByteArray) (n : Int) : Option (List S32 × ByteArray × Bool) :=
  (leaf_text.f k s 0).bind fun x => if x.2.2 = true then some ([], ⟨#[]⟩, true) else
  (leaf_text.f k s x.2.1).bind fun y => if y.2.2 = true then some ([], ⟨#[]⟩, true) else
  (slot_Unpack.f s y.2.1 n).bind fun u => if u.2 ≠ 0 then some ([], ⟨#[]⟩, true) else
  if u.1.length ≤ 1000000000 then (toldItems k x.1 u.1).map fun z => (z.1, y.1, z.2) else none
theorem leaf_text_no (k : Nat) (s : ByteArray) (a : Int) (r : ByteArray) (to_ : Int) (w : World) (h : leaf_text.f k s a = some (r, to_, true)) :
    Calls Tryz.prog 85 #[.string s, .int .i64 a] w fun e w' => e = .returned (.tuple #[.string r, .int .i64 to_, .iface 90 (.agg #[.string ⟨#[116, 101, 120, 116]⟩])]) ∧ Below w.heap.size w w' := leaf_text.calls k s a r to_ true w h
theorem leaf_text_ok (k : Nat) (s : ByteArray) (a : Int) (r : ByteArray) (to_ : Int) (w : World) (h : leaf_text.f k s a = some (r, to_, false)) :
    Calls Tryz.prog 85 #[.string s, .int .i64 a] w fun e w' => e = .returned (.tuple #[.string r, .int .i64 to_, .nilIface]) ∧ Below w.heap.size w w' := leaf_text.calls k s a r to_ false w h
theorem two_boxes (w1 w2 : World) (x : ByteArray) (h2 : Below ((w1.alloc (.cells #[.string x] 9)).alloc (.cells #[.nilIface] 86)).heap.size ((w1.alloc (.cells #[.string x] 9)).alloc (.cells #[.nilIface] 86)) w2) :
    Block w2 (w1.heap.size + 1) 86 #[.nilIface] ∧ w2.cell? ⟨w1.heap.size, 0, none⟩ = some (.string x) ∧ Below w1.heap.size w1 w2 := by
  refine ⟨?_, ?_, below_step (below_alloc (below_alloc (Below.refl _ _) _) _) h2⟩
  · have := World.alloc_heap_new (w1.alloc (.cells #[.string x] 9)) (.cells #[.nilIface] 86)
    rw [World.size_alloc] at this
    exact Block.below this h2 (by simp)
  · rw [h2.cell (p := ⟨w1.heap.size, 0, none⟩) (by simp; omega)]
    have := below_alloc (Below.refl (w1.alloc (.cells #[.string x] 9)).heap.size (w1.alloc (.cells #[.string x] 9))) (.cells #[.nilIface] 86)
    rw [this.cell (p := ⟨w1.heap.size, 0, none⟩) (by simp)]
    simp
set_option maxRecDepth 100000 in
set_option maxHeartbeats 4000000 in
theorem leaf_items.calls (k : Nat) (s : ByteArray) (n : Int) (l : List S32) (high : ByteArray) (er : Bool) (w : World) (h : leaf_items.f k s n = some (l, high, er)) :
    Calls Tryz.prog 40 #[.string s, .int .i64 n] w fun e w' => ∃ v0 ve : Value, e = .returned (.tuple #[v0, .string high, ve]) ∧ Kd.R k32 32 w' w.heap.size (fun _ => True) v0 l ∧ LeafErr w' ve er ∧ Below w.heap.size w w' := by
  unfold leaf_items.f at h
  obtain ⟨⟨all, at1, bad1⟩, hx, h⟩ := Option.bind_eq_some_iff.mp h
  dsimp only at h
  cases bad1 with
  | true =>
    rw [if_pos rfl] at h
    simp only [Option.some.injEq, Prod.mk.injEq] at h
    obtain ⟨rfl, rfl, rfl⟩ := h
    have HX := Aside0.mk hx
    clear hx
    go_enter Tryz.func40, Tryz.ntmps40
    go_wp2_with (first | (go_at_call 85; ((with_reducible refine (leaf_text_no k s 0 all at1 _ HX.out).mono ?_); rintro e w1 ⟨rfl, h1⟩; have HB := Aside0.mk h1; clear h1)))
    go_region
    all_goals
      go_wp2
      go_ret3
      exact ⟨_, _, rfl, Kd.R_nil _ _ _ _ _, .fault _, below_drew (below_alloc (below_alloc HB.out _) _)⟩
  | false =>
    rw [if_neg (by decide)] at h
    obtain ⟨⟨hi, at2, bad2⟩, hy, h⟩ := Option.bind_eq_some_iff.mp h
    dsimp only at h
    have HX := Aside0.mk hx
    have HY := Aside0.mk hy
    clear hx hy
    cases bad2 with
    | true =>
      rw [if_pos rfl] at h
      simp only [Option.some.injEq, Prod.mk.injEq] at h
      obtain ⟨rfl, rfl, rfl⟩ := h
      go_enter Tryz.func40, Tryz.ntmps40
      go_wp2_with (first
        | (go_at_call 85; ((with_reducible refine (leaf_text_ok k s 0 all at1 _ HX.out).mono ?_); rintro e w1 ⟨rfl, h1⟩; have HB := Aside0.mk h1; clear h1))
        | (go_at_call 85; ((with_reducible refine (leaf_text_no k s at1 hi at2 _ HY.out).mono ?_); rintro e w2 ⟨rfl, h2⟩; obtain ⟨e2, a2, l2⟩ := two_boxes w1 w2 all h2; have HE2 := Aside0.mk e2; have HL2 := Aside0.mk (below_step HB.out l2); clear h2 e2 l2; have y0 := HE2.out.cell 0 (by simp); have y0f := HE2.out.frozen 0; have hle := below_size HB.out)))
      go_region
      all_goals
        go_wp2
        go_ret3
        exact ⟨_, _, rfl, Kd.R_nil _ _ _ _ _, .fault _, below_drew (below_set HL2.out (by omega))⟩
    | false =>
      rw [if_neg (by decide)] at h
      obtain ⟨⟨cs, ue⟩, hu, h⟩ := Option.bind_eq_some_iff.mp h
      dsimp only at h
      have HU := Aside0.mk hu
      clear hu
      by_cases hue : ue = 0
      · rw [if_neg (by simp [hue])] at h
        by_cases hln : cs.length ≤ 1000000000
        · rw [if_pos hln] at h
          obtain ⟨⟨out, er2⟩, ht, h⟩ := Option.map_eq_some_iff.1 h
          simp only [Prod.mk.injEq] at h
          obtain ⟨rfl, rfl, rfl⟩ := h
          have HT := Aside0.mk ht
          have d1 : (ue != 0) = false := by simp [hue]
          clear hue ht
          go_enter Tryz.func40, Tryz.ntmps40
          go_wp2_with (first
            | (go_at_call 85; ((with_reducible refine (leaf_text_ok k s 0 all at1 _ HX.out).mono ?_); rintro e w1 ⟨rfl, h1⟩; have HB := Aside0.mk h1; clear h1))
            | (go_at_call 85; ((with_reducible refine (leaf_text_ok k s at1 _ at2 _ HY.out).mono ?_); rintro e w2 ⟨rfl, h2⟩; obtain ⟨e2, a2, l2⟩ := two_boxes w1 w2 all h2; have HE2 := Aside0.mk e2; have HL2 := Aside0.mk (below_step HB.out l2); have HA2 := Aside0.mk a2; clear h2 e2 l2 a2; have y0 := HE2.out.cell 0 (by simp); have y0f := HE2.out.frozen 0; have hle := below_size HB.out)))
          have hne : w1.heap.size ≠ w1.heap.size + 1 := by omega
          have hE3 : Block (w2.setCell ⟨w1.heap.size + 1, 0, none⟩ .nilIface) (w1.heap.size + 1) 86 #[errV false] := HE2.out.set 0 .nilIface
          have hA3 : (w2.setCell ⟨w1.heap.size + 1, 0, none⟩ .nilIface).cell? ⟨w1.heap.size, 0, none⟩ = some (.string all) := (World.cell?_of_block (Below.heap_setCell w2 ⟨w1.heap.size + 1, 0, none⟩ .nilIface w1.heap.size hne)).trans HA2.out
          have hL3 : Below w.heap.size w (w2.setCell ⟨w1.heap.size + 1, 0, none⟩ .nilIface) := below_set HL2.out (by omega)
          have HE3 := Aside0.mk hE3
          have HA3 := Aside0.mk hA3
          have HL3 := Aside0.mk hL3
          clear hE3 hA3 hL3 HE2 HA2 HL2 y0 y0f hne
          generalize w2.setCell ⟨w1.heap.size + 1, 0, none⟩ .nilIface = w2' at HE3 HA3 HL3 ⊢
          refine (slot_Unpack.calls s at2 n cs ue _ HU.out).mono ?_
          rintro e w3 ⟨v1, rfl, hR, hb3⟩
          obtain ⟨A1, c1, rfl⟩ := Kd.R_slice hR
          have HC1 := Aside0.mk (Kd.R_reads' hR).2.2
          have HRow : Aside0 (∀ ad, A1 = some ad → ad.block ≠ w1.heap.size + 1) := ⟨fun ad hd => by
            have := ((Kd.R_bound hR).1 ad.block (by simp [Value.ownBlock, hd])).2.1
            have := HE3.out.lt
            omega⟩
          have HE4 := Aside0.mk (HE3.out.below hb3 HE3.out.lt)
          have HA4 := Aside0.mk ((hb3.cell (p := ⟨w1.heap.size, 0, none⟩) (World.block_lt_of_cell? w2' _ HA3.out)).trans HA3.out)
          have HL4 := Aside0.mk (below_step HL3.out hb3)
          clear hR hb3
          go_wp2_with (first
            | (go_at_call 88; ((with_reducible refine (leaf_told2.calls k all A1 c1 cs out er2 (w1.heap.size + 1) w1.heap.size _ (by omega) HE4.out HA4.out HC1.out hln HRow.out HT.out).mono ?_); rintro e w4 ⟨v4, rfl, hR4, hE4, hK4⟩; have HR4 := Aside0.mk hR4; have HE5 := Aside0.mk hE4; have HL5 := Aside0.mk (HL4.out.trans ((hK4.mono (below_size HL4.out) (fun _ x => x)).below (fun q hq => (by omega)))); clear hR4 hE4 hK4; have y1 := HE5.out.cell 0 (by simp))))
          go_region
          all_goals
            go_wp2
            go_ret3
            exact ⟨_, _, rfl, Kd.R_lower (Kd.R_drew HR4.out) (below_size HL4.out), leafErr_errV _ _, below_drew HL5.out⟩
        · rw [if_neg hln] at h
          cases h
      · rw [if_pos hue] at h
        simp only [Option.some.injEq, Prod.mk.injEq] at h
        obtain ⟨rfl, rfl, rfl⟩ := h
        have d1 : (ue != 0) = true := by simpa using hue
        clear hue
        go_enter Tryz.func40, Tryz.ntmps40
        go_wp2_with (first
          | (go_at_call 85; ((with_reducible refine (leaf_text_ok k s 0 all at1 _ HX.out).mono ?_); rintro e w1 ⟨rfl, h1⟩; have HB := Aside0.mk h1; clear h1))
          | (go_at_call 85; ((with_reducible refine (leaf_text_ok k s at1 _ at2 _ HY.out).mono ?_); rintro e w2 ⟨rfl, h2⟩; obtain ⟨e2, a2, l2⟩ := two_boxes w1 w2 all h2; have HE2 := Aside0.mk e2; have HL2 := Aside0.mk (below_step HB.out l2); have HA2 := Aside0.mk a2; clear h2 e2 l2 a2; have y0 := HE2.out.cell 0 (by simp); have y0f := HE2.out.frozen 0; have hle := below_size HB.out)))
        have hne : w1.heap.size ≠ w1.heap.size + 1 := by omega
        have hE3 : Block (w2.setCell ⟨w1.heap.size + 1, 0, none⟩ .nilIface) (w1.heap.size + 1) 86 #[errV false] := HE2.out.set 0 .nilIface
        have hA3 : (w2.setCell ⟨w1.heap.size + 1, 0, none⟩ .nilIface).cell? ⟨w1.heap.size, 0, none⟩ = some (.string all) := (World.cell?_of_block (Below.heap_setCell w2 ⟨w1.heap.size + 1, 0, none⟩ .nilIface w1.heap.size hne)).trans HA2.out
        have hL3 : Below w.heap.size w (w2.setCell ⟨w1.heap.size + 1, 0, none⟩ .nilIface) := below_set HL2.out (by omega)
        have HE3 := Aside0.mk hE3
        have HA3 := Aside0.mk hA3
        have HL3 := Aside0.mk hL3
        clear hE3 hA3 hL3 HE2 HA2 HL2 y0 y0f hne
        generalize w2.setCell ⟨w1.heap.size + 1, 0, none⟩ .nilIface = w2' at HE3 HA3 HL3 ⊢
        refine (slot_Unpack.calls s at2 n cs ue _ HU.out).mono ?_
        rintro e w3 ⟨v1, rfl, hR, hb3⟩
        obtain ⟨A1, c1, rfl⟩ := Kd.R_slice hR
        have HC1 := Aside0.mk (Kd.R_reads' hR).2.2
        have HRow : Aside0 (∀ ad, A1 = some ad → ad.block ≠ w1.heap.size + 1) := ⟨fun ad hd => by
          have := ((Kd.R_bound hR).1 ad.block (by simp [Value.ownBlock, hd])).2.1
          have := HE3.out.lt
          omega⟩
        have HE4 := Aside0.mk (HE3.out.below hb3 HE3.out.lt)
        have HA4 := Aside0.mk ((hb3.cell (p := ⟨w1.heap.size, 0, none⟩) (World.block_lt_of_cell? w2' _ HA3.out)).trans HA3.out)
        have HL4 := Aside0.mk (below_step HL3.out hb3)
        clear hR hb3
        go_wp2_with (first
          | (go_at_call 87; refine (Join_any w3.heap.size 25 90 (.int .i64 ue) (.agg #[.string ⟨#[99, 101, 108, 108, 115]⟩]) _ ?c1 ?c2).mono ?_; (case c1 => simp); (case c2 => simp); rintro e w4 ⟨p, R2, c2, rfl, j1, j2, j3, j4, hb4⟩; have HJ : Aside0 (JoinA w4 (.iface 231 (.pointer (some p))) ⟨#[99, 101, 108, 108, 115]⟩) := ⟨⟨⟨p, R2, c2, .int .i64 ue, rfl, j1, j2, j3, j4⟩⟩⟩; have HL5 := Aside0.mk (below_step (below_alloc HL4.out _) hb4); clear j1 j2 j3 j4 hb4))
        go_ret3
        exact ⟨_, _, rfl, Kd.R_nil _ _ _ _ _, .join _ _ HJ.out, HL5.out⟩


end Go.Proofs.YtmheajenlhlbhaaGreatDoor.X


namespace Go.Proofs.YtmheajenlhlbhaaGreatDoor.X
open Go.RowKit Go.Proofs.YtmheajenlhlbhaaGreatDoorW.PrintWords Go.Proofs.YtmheajenlhlbhaaGreatDoorW.PrintLast Go.Proofs.YtmheajenlhlbhaaGreatDoorW.PrintMore
attribute [local go_sem] max2_int min2_int max_two min_two max_three min_three max_four min_four   -- for this text's walks alone
set_option linter.unusedVariables false
set_option linter.unusedSimpArgs false

def sep_least_raw.l0 : Nat → Int → List Int → Int → Int → Option (Int)
  | 0, _, _, _, _ => none
  | k + 1, x0, x7, x8, x9 => if x9 < x8 then (if 0 ≤ x9 then (if x9 < (x7.length : Int) then (sep_least_raw.l0 k (mn x0 (rd x7 x9)) x7 x8 (wrap64 (x9 + 1))) else (none)) else (none)) else (some x0)
def sep_least_raw.f (k : Nat) (a0 : Int) (l1 : List Int) : Option (Int) := sep_least_raw.l0 k a0 l1 (l1.length : Int) 0
set_option maxHeartbeats 8000000 in
set_option maxRecDepth 100000 in
theorem sep_least_raw.calls (k : Nat) (a0 : Int) (A1 : Option Addr) (c1 : Nat) (l1 : List Int) (r : Int) (w : World) (hr1 : Kd.C (Kd.int .i64) w A1 l1.length l1) (hc1 : l1.length ≤ c1) (h : sep_least_raw.f k a0 l1 = some r) :
    Calls Tryz.prog 220 #[.int .i64 a0, .slice A1 l1.length c1] w fun e w' => e = .returned (.int .i64 r) ∧ Below w.heap.size w w' := by
  have HR1 := Aside0.mk hr1
  have HC1 := Aside0.mk hc1
  clear hr1 hc1
  have HB := Aside0.mk (Below.refl w.heap.size w)
  have H : (sep_least_raw.l0 k a0 l1 (l1.length : Int) 0) = some r := h
  clear h
  have H' := Aside0.mk H
  clear H
  go_enter Tryz.func220, Tryz.ntmps220
  go_wp2
  go_loopg [0, 9] k (fun kq v0 v9 w' => ∃ (x0_1 : Int) (x9_1 : Int), v0 = .int .i64 x0_1 ∧ v9 = .int .i64 x9_1 ∧ Aside0 (sep_least_raw.l0 kq x0_1 l1 (l1.length : Int) x9_1 = some r) ∧ Aside0 (kq ≤ k) ∧ Aside0 (Below w.heap.size w w'))
  case atStart => exact ⟨(a0), (0), (by first | rfl | (simp; done) | (simp [*]; done)), (by first | rfl | (simp; done) | (simp [*]; done)), H', ⟨Nat.le_refl _⟩, ⟨by repeat (first | (with_reducible first | exact HB.out | apply below_alloc | apply pw_below_drewN | apply below_drew1) | exact HB.out)⟩⟩
  case round =>
    clear H'
    try clear c1
    try clear c2
    try clear p2
    obtain ⟨x0_1, x9_1, rfl, rfl, HA, HK1, HB⟩ := hrel
    cases gk with
    | zero => exact absurd HA.out (by simp [sep_least_raw.l0])
    | succ k1 =>
      have H := HA.out
      clear HA
      simp only [sep_least_raw.l0] at H
      by_cases c3 : x9_1 < (l1.length : Int)
      · rw [if_pos c3] at H
        have c3b0 : decide (x9_1 < (l1.length : Int)) = true := decide_eq_true c3
        clear c3
        by_cases c4 : 0 ≤ x9_1
        · rw [if_pos c4] at H
          have c4b0 : decide (0 ≤ x9_1) = true := decide_eq_true c4
          clear c4
          by_cases c5 : x9_1 < (l1.length : Int)
          · rw [if_pos c5] at H
            have c5b0 : decide (x9_1 < (l1.length : Int)) = true := decide_eq_true c5
            clear c5
            obtain ⟨ji6, hji6⟩ : ∃ j_ : Int, (mn x0_1 (rd l1 x9_1)) = j_ := ⟨_, rfl⟩
            replace H : (sep_least_raw.l0 k1 ji6 l1 (l1.length : Int) (wrap64 (x9_1 + 1))) = some r := by first | (rw [hji6] at H; exact H) | (simp only [hji6] at H ⊢; exact H)
            have hji6_ : (if (rd l1 x9_1) < x0_1 then (rd l1 x9_1) else x0_1) = ji6 := hji6
            have H' := Aside0.mk H
            clear H
            have p176 : 0 ≤ (x9_1 : Int) := of_decide_eq_true (by first | (with_reducible assumption) | assumption)
            have q176 : x9_1 < (l1.length : Int) := of_decide_eq_true (by first | (with_reducible assumption) | assumption)
            obtain ⟨ad176, e176, hx176_0⟩ := Kd.at_int HR1.out x9_1 p176 q176
            cases e176
            replace hx176_0 := (HB.out.cell (World.block_lt_of_cell? w _ hx176_0)).trans hx176_0
            replace p176 := eq_true p176
            replace q176 := eq_true q176
            go_wp2
            go_roundg k1
            case measure => have := HK1.out; omega
            case rel => exact ⟨(ji6), (wrap64 (x9_1 + 1)), (by first | rfl | (simp; done) | (simp only [← hji6] <;> (first | rfl | simp)) | (simp [*]; done)), (by first | rfl | (simp; done) | (simp [*]; done)), H', ⟨by have := HK1.out; omega⟩, ⟨by repeat (first | (with_reducible first | exact HB.out | apply below_alloc | apply pw_below_drewN | apply below_drew1) | exact HB.out)⟩⟩
          · rw [if_neg c5] at H
            exact absurd H (by simp)
        · rw [if_neg c4] at H
          exact absurd H (by simp)
      · rw [if_neg c3] at H
        have c3b0 : decide (x9_1 < (l1.length : Int)) = false := decide_eq_false c3
        clear c3
        obtain rfl := Option.some.inj H
        go_wp2
        go_ret
        exact ⟨by first | rfl | (simp [errW_none, errW_some] <;> rfl) | (simp [*, errW_none, errW_some] <;> rfl), by repeat (first | (with_reducible first | exact HB.out | apply below_alloc | apply pw_below_drewN | apply below_drew1) | exact HB.out)⟩

end Go.Proofs.YtmheajenlhlbhaaGreatDoor.X


namespace Go.Proofs.YtmheajenlhlbhaaGreatDoor.X
open Go.RowKit Go.Proofs.YtmheajenlhlbhaaGreatDoorW.PrintWords Go.Proofs.YtmheajenlhlbhaaGreatDoorW.PrintLast Go.Proofs.YtmheajenlhlbhaaGreatDoorW.PrintMore
attribute [local go_sem] max2_int min2_int max_two min_two max_three min_three max_four min_four   -- for this text's walks alone
set_option linter.unusedVariables false
set_option linter.unusedSimpArgs false

def leastI (a : Int) (l : List Int) : Int := l.foldl mn a
theorem least_l0 (l : List Int) (hl : l.length ≤ 140737488351232) (d : Nat) : ∀ (k : Nat) (a : Int) (i : Nat), i + d = l.length → d < k → sep_least_raw.l0 k a l l.length i = some (leastI a (l.drop i)) := by
  induction d with
  | zero =>
    intro k a i h1 hk
    obtain ⟨k, rfl⟩ : ∃ m, k = m + 1 := ⟨k - 1, by omega⟩
    simp only [sep_least_raw.l0]
    rw [if_neg (by omega), List.drop_eq_nil_of_le (by omega)]
    rfl
  | succ d ih =>
    intro k a i h1 hk
    obtain ⟨k, rfl⟩ : ∃ m, k = m + 1 := ⟨k - 1, by omega⟩
    simp only [sep_least_raw.l0]
    have hi : i < l.length := by omega
    rw [if_pos (by omega), if_pos (by omega), if_pos (by omega), wrap64_id (n := (i : Int) + 1) (by omega) (by omega), show ((i : Int) + 1) = ((i + 1 : Nat) : Int) by omega, ih k _ (i + 1) (by omega) (by omega)]
    have hr : rd l (i : Int) = l[i] := by simp [rd, List.getD_eq_getElem?_getD, List.getElem?_eq_getElem hi]
    rw [hr, List.drop_eq_getElem_cons hi]
    rfl
def sep_least.f (a : Int) (l : List Int) : Option Int := if l.length ≤ 140737488351232 then some (leastI a l) else none
theorem sep_least.calls (a0 : Int) (A1 : Option Addr) (c1 : Nat) (l1 : List Int) (r : Int) (w : World) (hr1 : Kd.C (Kd.int .i64) w A1 l1.length l1) (hc1 : l1.length ≤ c1) (h : sep_least.f a0 l1 = some r) :
    Calls Tryz.prog 220 #[.int .i64 a0, .slice A1 l1.length c1] w fun e w' => e = .returned (.int .i64 r) ∧ Below w.heap.size w w' := by
  unfold sep_least.f at h
  by_cases hs : l1.length ≤ 140737488351232
  · rw [if_pos hs] at h
    refine sep_least_raw.calls (l1.length + 1) a0 A1 c1 l1 r w hr1 hc1 ?_
    have := least_l0 l1 hs l1.length (l1.length + 1) a0 0 (by omega) (by omega)
    unfold sep_least_raw.f
    rw [← h]
    simpa using this
  · rw [if_neg hs] at h
    exact absurd h (by simp)


end Go.Proofs.YtmheajenlhlbhaaGreatDoor.X


namespace Go.Proofs.YtmheajenlhlbhaaGreatDoor.X
open Go.RowKit Go.Proofs.YtmheajenlhlbhaaGreatDoorW.PrintWords Go.Proofs.YtmheajenlhlbhaaGreatDoorW.PrintLast Go.Proofs.YtmheajenlhlbhaaGreatDoorW.PrintMore
attribute [local go_sem] max2_int min2_int max_two min_two max_three min_three max_four min_four   -- for this text's walks alone
set_option linter.unusedVariables false
set_option linter.unusedSimpArgs false

def sep_shared_byte.f (x y : List Int) : Option Int := if x.length ≤ 140737488351232 ∧ y.length ≤ 140737488351232 then some (common x y : Nat) else none

theorem rd_at (x : List Int) (k : Nat) (h : k < x.length) : rd x (k : Int) = x[k] := by simp [rd, List.getD_eq_getElem?_getD, List.getElem?_eq_getElem h]
theorem common_step (x y : List Int) (k : Nat) (hx : k < x.length) (hy : k < y.length) : common (x.drop k) (y.drop k) = if x[k] = y[k] then common (x.drop (k + 1)) (y.drop (k + 1)) + 1 else 0 := by
  rw [List.drop_eq_getElem_cons hx, List.drop_eq_getElem_cons hy]
  rfl
theorem common_end (x y : List Int) (k : Nat) (h : x.length ≤ k ∨ y.length ≤ k) : common (x.drop k) (y.drop k) = 0 := by
  rcases h with h | h
  · rw [List.drop_eq_nil_of_le h]
    cases (y.drop k) <;> rfl
  · rw [List.drop_eq_nil_of_le h]
    cases (x.drop k) <;> rfl

set_option maxHeartbeats 1000000 in
theorem sep_shared_byte.calls (A0 : Option Addr) (c0 : Nat) (l0 : List Int) (A1 : Option Addr) (c1 : Nat) (l1 : List Int) (r : Int) (w : World) (hr0 : Kd.C (Kd.int .u8) w A0 l0.length l0) (hc0 : l0.length ≤ c0) (hr1 : Kd.C (Kd.int .u8) w A1 l1.length l1) (hc1 : l1.length ≤ c1) (h : sep_shared_byte.f l0 l1 = some r) :
    Calls Tryz.prog 237 #[.slice A0 l0.length c0, .slice A1 l1.length c1] w fun e w' => e = .returned (.int .i64 r) ∧ Below w.heap.size w w' := by
  unfold sep_shared_byte.f at h
  by_cases hs : l0.length ≤ 140737488351232 ∧ l1.length ≤ 140737488351232
  · rw [if_pos hs] at h
    obtain ⟨hs0, hs1⟩ := hs
    have HR0 := Aside0.mk hr0
    have HR1 := Aside0.mk hr1
    have HH := Aside0.mk h
    clear hr0 hr1 hc0 hc1 h
    go_enter Tryz.func237, Tryz.ntmps237
    go_wp2
    go_loopw [5] (fun i wr => ∃ k : Nat, k ≤ l0.length ∧ k ≤ l1.length ∧ i = .int .i64 k ∧ Aside0 (some ((k + common (l0.drop k) (l1.drop k) : Nat) : Int) = some r) ∧ Aside0 (Below w.heap.size w wr)) (fun i _ => l0.length - (intOf i).toNat)
    case atStart => exact ⟨0, by omega, by omega, rfl, ⟨by simpa using HH.out⟩, ⟨Below.refl _ _⟩⟩
    case round =>
      obtain ⟨k, h0, h1, rfl, HK, HB⟩ := hrel
      by_cases hlt : k < l0.length ∧ k < l1.length
      · obtain ⟨hx, hy⟩ := hlt
        have hstep := common_step l0 l1 k hx hy
        obtain ⟨ad0, e0, hc0⟩ := Kd.at_int HR0.out (k : Int) (by omega) (by omega)
        cases e0
        obtain ⟨ad1, e1, hc1⟩ := Kd.at_int HR1.out (k : Int) (by omega) (by omega)
        cases e1
        replace hc0 := (HB.out.cell (World.block_lt_of_cell? w _ hc0)).trans hc0
        replace hc1 := (HB.out.cell (World.block_lt_of_cell? w _ hc1)).trans hc1
        rw [rd_at l0 k hx, Int.toNat_natCast] at hc0
        rw [rd_at l1 k hy, Int.toNat_natCast] at hc1
        have b1 : decide ((k : Int) < if l1.length < l0.length then (l1.length : Int) else (l0.length : Int)) = true := by split <;> simp <;> omega
        have p0 : (0 : Int) ≤ k := by omega
        have p1 : (k : Int) < l0.length := by omega
        have p2 : (k : Int) < l1.length := by omega
        by_cases e : l0[k] = l1[k]
        · rw [if_pos e] at hstep
          have eb : (l0[k] == l1[k]) = true := by simpa using e
          have HS := Aside0.mk hstep
          clear hstep e
          go_wp2_with fail
          go_quiet (fail)
          go_wp2
          go_roundw
          case rel => exact ⟨k + 1, by omega, by omega, by go_num, ⟨by rw [← HK.out, HS.out]; congr 2; omega⟩, ⟨pw_below_drewN HB.out _⟩⟩
          case measure => simp [intOf]; omega
        · rw [if_neg e] at hstep
          have eb : (l0[k] == l1[k]) = false := by simpa using e
          have HS := Aside0.mk (show some (k : Int) = some r by rw [← HK.out, hstep]; rfl)
          clear hstep e
          go_wp2_with fail
          go_quiet (fail)
          go_wp2
          all_goals
            go_ret
            exact ⟨by rw [← Option.some.inj HS.out]; rfl, pw_below_drewN HB.out _⟩
      · have hz := common_end l0 l1 k (by omega)
        have b1 : decide ((k : Int) < if l1.length < l0.length then (l1.length : Int) else (l0.length : Int)) = false := by split <;> simp <;> omega
        have HS := Aside0.mk (show some (k : Int) = some r by rw [← HK.out, hz]; rfl)
        clear hz hlt
        go_wp2_with fail
        go_quiet (fail)
        go_wp2
        all_goals
          go_ret
          exact ⟨by rw [← Option.some.inj HS.out]; rfl, pw_below_drewN HB.out _⟩
  · rw [if_neg hs] at h
    exact absurd h (by simp)


end Go.Proofs.YtmheajenlhlbhaaGreatDoor.X


namespace Go.Proofs.YtmheajenlhlbhaaGreatDoor.X
open Go.RowKit Go.Proofs.YtmheajenlhlbhaaGreatDoorW.PrintWords Go.Proofs.YtmheajenlhlbhaaGreatDoorW.PrintLast Go.Proofs.YtmheajenlhlbhaaGreatDoorW.PrintMore
attribute [local go_sem] max2_int min2_int max_two min_two max_three min_three max_four min_four   -- for this text's walks alone
set_option linter.unusedVariables false
set_option linter.unusedSimpArgs false

def sep_Common.f (a b : ByteArray) : Option Int := if a.size ≤ 140737488351232 ∧ b.size ≤ 140737488351232 then some (common (bl a) (bl b) : Nat) else none

set_option maxHeartbeats 1000000 in
theorem sep_Common.calls (a b : ByteArray) (r : Int) (w : World) (h : sep_Common.f a b = some r) :
    Calls Tryz.prog 219 #[.string a, .string b] w fun e w' => e = .returned (.int .i64 r) ∧ Below w.heap.size w w' := by
  unfold sep_Common.f at h
  by_cases hs : a.size ≤ 140737488351232 ∧ b.size ≤ 140737488351232
  · rw [if_pos hs] at h
    have hf : sep_shared_byte.f (bl a) (bl b) = some r := by
      rw [← h]
      unfold sep_shared_byte.f
      rw [if_pos (by rw [bl_length, bl_length]; exact hs)]
    have H1 := Aside0.mk (Kd.C_below (bl_reads w 5 a (by omega)) (bytesWorld_below (Lib.bytesWorld w 5 a) 5 b))
    have H2 := Aside0.mk (bl_reads (Lib.bytesWorld w 5 a) 5 b (by omega))
    have HF := Aside0.mk hf
    have HB := Aside0.mk (below_then (bytesWorld_below w 5 a) (bytesWorld_below w 5 a).size (bytesWorld_below (Lib.bytesWorld w 5 a) 5 b))
    have HC1 := Aside0.mk (grownCap_ge w a.size 0 5)
    have HC2 := Aside0.mk (grownCap_ge (Lib.bytesWorld w 5 a) b.size 0 5)
    clear h hs hf
    have hconv : ∀ (W : World) (s : ByteArray), (convert 9 96 (.string s)).run Tryz.prog W = .ok (.slice (some ⟨W.heap.size, 0, none⟩) s.size (grownCap W s.size 0 5)) (Lib.bytesWorld W 5 s) := fun W s => Lib.run_convert_string_bytes W 9 96 5 s Tryz.underlying9 Tryz.underlying96 Tryz.underlying5
    have hsz : ∀ (W : World) (s : ByteArray), (Lib.bytesWorld W 5 s).heap.size = W.heap.size + 1 := fun W s => Lib.bytesWorld_size W 5 s
    go_enter Tryz.func219, Tryz.ntmps219
    go_wp2_with fail
    have C := sep_shared_byte.calls _ (grownCap w a.size 0 5) (bl a) _ (grownCap (Lib.bytesWorld w 5 a) b.size 0 5) (bl b) r _ H1.out (by rw [bl_length]; exact HC1.out) H2.out (by rw [bl_length]; exact HC2.out) HF.out
    rw [bl_length, bl_length, Lib.bytesWorld_size] at C
    refine C.mono ?_
    rintro e w2 ⟨rfl, hb⟩
    have HB2 := Aside0.mk (below_then HB.out HB.out.size hb)
    clear hb C
    go_wp2
    go_ret
    exact ⟨rfl, HB2.out⟩
  · rw [if_neg hs] at h
    exact absurd h (by simp)


end Go.Proofs.YtmheajenlhlbhaaGreatDoor.X


namespace Go.Proofs.YtmheajenlhlbhaaGreatDoor.X
open Go.RowKit Go.Proofs.YtmheajenlhlbhaaGreatDoorW.PrintWords Go.Proofs.YtmheajenlhlbhaaGreatDoorW.PrintLast Go.Proofs.YtmheajenlhlbhaaGreatDoorW.PrintMore
attribute [local go_sem] max2_int min2_int max_two min_two max_three min_three max_four min_four   -- for this text's walks alone
set_option linter.unusedVariables false
set_option linter.unusedSimpArgs false

def spanN : List ByteArray → Int
  | [] => 0
  | a :: r => leastI (a.size : Int) (r.map fun b => ((common (bl a) (bl b) : Nat) : Int))
def sep_Span.f (l : List ByteArray) : Option Int := if l.length ≤ 2000000000000 ∧ ∀ s ∈ l, s.size ≤ 140737488351232 then some (spanN l) else none

set_option maxHeartbeats 2000000 in
theorem sep_Span.calls (A0 : Option Addr) (c0 : Nat) (l0 : List ByteArray) (r : Int) (w : World) (hr0 : Kd.C Kd.string w A0 l0.length l0) (hc0 : l0.length ≤ c0) (h : sep_Span.f l0 = some r) :
    Calls Tryz.prog 185 #[.slice A0 l0.length c0] w fun e w' => e = .returned (.int .i64 r) ∧ Below w.heap.size w w' := by
  unfold sep_Span.f at h
  by_cases hs : l0.length ≤ 2000000000000 ∧ ∀ s ∈ l0, s.size ≤ 140737488351232
  · rw [if_pos hs] at h
    obtain rfl := Option.some.inj h
    obtain ⟨hl, hb⟩ := hs
    have HBD := Aside0.mk hb
    clear h hb
    cases l0 with
    | nil =>
      go_enter Tryz.func185, Tryz.ntmps185
      go_wp2
      go_ret
      exact ⟨rfl, Below.refl _ _⟩
    | cons a t =>
      obtain ⟨bk, o, rfl, hbk, hcell⟩ := strs_cells hr0 (by simp)
      have hca := hcell 0 a rfl
      rw [Nat.add_zero] at hca
      obtain ⟨i0, hi, hz0, hz1, hz2⟩ := info_parts info9
      obtain ⟨A1, hcut, hrd, hcc⟩ := print_drop_of (P := Tryz.prog) Value.string (⟨#[]⟩ : ByteArray) 47 9 .i64 Tryz.underlying47 hi hz1 (some ⟨bk, o, none⟩) c0 (a :: t) 1 (by omega) (by simp; omega) hc0
      have HRd := Aside0.mk (hrd w (Kd.reads_of_C (enc := Value.string) (d := (⟨#[]⟩ : ByteArray)) (h1 := fun _ => rfl) hr0))
      simp only [Int.reduceToNat, List.drop_succ_cons, List.drop_zero] at hcut HRd hcc
      clear hcell hr0 hrd hi hz0 hz1 hz2
      simp only [List.length_cons] at hl hc0 hcut ⊢
      have hn0 : (((t.length : Int) + 1) == 0) = false := by simp; omega
      have hn1 : (1 : Int) ≤ (t.length : Int) + 1 := by omega
      have hp : (0 : Nat) < t.length + 1 := by omega
      have hpi : (0 : Int) < (t.length : Int) + 1 := by omega
      go_enter Tryz.func185, Tryz.ntmps185
      go_wp2_with fail
      clear hcut
      go_loopw [3, 12] (fun v i wr => ∃ k : Nat, k ≤ t.length ∧ i = .int .i64 k ∧ Aside0 (Kd.R (Kd.int .i64) 3 wr w.heap.size (fun _ => True) v ((t.take k).map fun b => ((common (bl a) (bl b) : Nat) : Int))) ∧ Aside0 (Below w.heap.size w wr)) (fun _ i _ => t.length - (intOf i).toNat)
      case atStart => exact ⟨0, by omega, rfl, ⟨Kd.R_nil _ _ _ _ _⟩, ⟨Below.refl _ _⟩⟩
      case round =>
        obtain ⟨k, h0, rfl, HO, HB⟩ := hrel
        have hcw := (HB.out.cell (World.block_lt_of_cell? w _ hca)).trans hca
        by_cases hx : k < t.length
        · obtain ⟨ad, e0, q0⟩ := ReadsOf.at_ HRd.out (k : Int) (by omega) (by omega)
          cases e0
          rw [Int.toNat_natCast] at q0
          replace q0 := (HB.out.cell (World.block_lt_of_cell? w _ q0)).trans q0
          have hxk : rdOf (⟨#[]⟩ : ByteArray) t (k : Int) = t[k] := by simp [rdOf, List.getD_eq_getElem?_getD, List.getElem?_eq_getElem hx]
          rw [hxk] at q0
          have HF := Aside0.mk (show sep_Common.f a t[k] = some ((common (bl a) (bl t[k]) : Nat) : Int) by
            unfold sep_Common.f
            rw [if_pos ⟨HBD.out a (by simp), HBD.out t[k] (by simp)⟩])
          have HS := Aside0.mk (show ((t.take (k + 1)).map fun b => ((common (bl a) (bl b) : Nat) : Int)) = ((t.take k).map fun b => ((common (bl a) (bl b) : Nat) : Int)) ++ [((common (bl a) (bl t[k]) : Nat) : Int)] by
            rw [List.take_succ_eq_append_getElem hx, List.map_append]
            rfl)
          clear hxk
          generalize hg : t[k] = x at q0 HF HS
          generalize ((common (bl a) (bl x) : Nat) : Int) = c at HF HS
          clear hg
          go_wp2_with (first | (go_at_call 219; refine (sep_Common.calls a x c _ HF.out).mono ?_; rintro e w1 ⟨rfl, hb1⟩; have n0_ := Aside0.mk (Kd.R_below HO.out hb1); have n1_ := Aside0.mk (below_step HB.out hb1); clear HO HB hb1; have HO := n0_; have HB := n1_; clear n0_ n1_) | (at_builtin; refine Kd.R_append (Kd.int .i64) (w0 := w) w.heap.size rfl (.tmp 16) (.tmp 22) 128 3 (.int .i64 0) 8 rfl Tryz.underlying128 info3 rfl (by decide) (by omega) u3 ((t.take k).map fun b => ((common (bl a) (bl b) : Nat) : Int)) c [.int .i64 c] (fun _ => True) (fun _ => False) rfl rfl ?aP (fun _ hk => hk.elim) ?aF ?aO ?aB ?aS ?aL ?_; (case aP => exact rfl); (case aB => exact HB.out); (case aF => exact (fun _ _ => trivial)); (case aO => exact HO.out); (case aS => exact below_size HB.out); (case aL => rw [List.length_map, List.length_take]; omega); intro v255 w10 ho hb hg hat; rw [← HS.out] at ho; have n0_ := Aside0.mk hb; have n1_ := Aside0.mk ho; clear HB HO; have HB := n0_; have HO := n1_; clear n0_ n1_; clear ho hb hg hat))
          go_roundw
          case rel => exact ⟨k + 1, by omega, by go_num, HO, HB⟩
          case measure => simp [intOf]; omega
        · have hk : k = t.length := by omega
          have HF := Aside0.mk (show sep_least.f (a.size : Int) ((t.take k).map fun b => ((common (bl a) (bl b) : Nat) : Int)) = some (spanN (a :: t)) by
            unfold sep_least.f spanN
            rw [if_pos (by rw [List.length_map, List.length_take]; omega), hk, List.take_length])
          clear hk
          obtain ⟨A2, c2, rfl, hcap, hrd2⟩ := Kd.R_reads HO.out
          generalize ((t.take k).map fun b => ((common (bl a) (bl b) : Nat) : Int)) = ys at HF HO hcap hrd2
          have HR2 := Aside0.mk hrd2
          clear hrd2 HO
          go_wp2_with (go_at_call 220; refine (sep_least.calls (a.size : Int) A2 c2 ys _ _ HR2.out hcap HF.out).mono ?_; rintro e w1 ⟨rfl, hb1⟩; have n1_ := Aside0.mk (below_step HB.out hb1); clear HB hb1; have HB := n1_; clear n1_)
          go_ret
          exact ⟨rfl, HB.out⟩
  · rw [if_neg hs] at h
    exact absurd h (by simp)


end Go.Proofs.YtmheajenlhlbhaaGreatDoor.X


namespace Go.Proofs.YtmheajenlhlbhaaGreatDoor.X
open Go.RowKit Go.Proofs.YtmheajenlhlbhaaGreatDoorW.PrintWords Go.Proofs.YtmheajenlhlbhaaGreatDoorW.PrintLast Go.Proofs.YtmheajenlhlbhaaGreatDoorW.PrintMore
attribute [local go_sem] max2_int min2_int max_two min_two max_three min_three max_four min_four   -- for this text's walks alone
set_option linter.unusedVariables false
set_option linter.unusedSimpArgs false

def sep_Strip_raw.l0 : Nat → List ByteArray → Int → List ByteArray → List ByteArray → Int → Int → Option (ByteArray × List ByteArray)
  | 0, _, _, _, _, _, _ => none
  | k + 1, x0, x4, x5, x10, x11, x12 => if x12 < x11 then (if 0 ≤ x12 then (if x12 < (x10.length : Int) then (if 0 ≤ x4 then (if x4 ≤ ((rdOf ByteArray.empty x10 x12).size : Int) then (if x5.length < 8796093022208 then (sep_Strip_raw.l0 k x0 x4 (x5 ++ [(rdOf ByteArray.empty x10 x12).extract (x4 : Int).toNat (rdOf ByteArray.empty x10 x12).size]) x10 x11 (wrap64 (x12 + 1))) else (none)) else (none)) else (none)) else (none)) else (none)) else (if (x0.length : Int) = 0 then (some ((⟨#[]⟩ : ByteArray), x5)) else (if 0 < (x0.length : Int) then (if 0 ≤ x4 then (if x4 ≤ ((rdOf ByteArray.empty x0 0).size : Int) then (some ((rdOf ByteArray.empty x0 0).extract 0 (x4 : Int).toNat, x5)) else (none)) else (none)) else (none)))
def sep_Strip_raw.f (k : Nat) (l0 : List ByteArray) : Option (ByteArray × List ByteArray) := (sep_Span.f l0).bind fun t177 => (sep_Strip_raw.l0 k l0 t177 ([] : List ByteArray) l0 (l0.length : Int) 0)
set_option maxHeartbeats 8000000 in
set_option maxRecDepth 100000 in
theorem sep_Strip_raw.calls (k : Nat) (A0 : Option Addr) (c0 : Nat) (l0 : List ByteArray) (r1 : ByteArray) (r2 : List ByteArray) (w : World) (hr0 : Kd.C Kd.string w A0 l0.length l0) (hc0 : l0.length ≤ c0) (h : sep_Strip_raw.f k l0 = some (r1, r2)) :
    Calls Tryz.prog 147 #[.slice A0 l0.length c0] w fun e w' => ∃ v1_ : Value, e = .returned (.tuple #[.string r1, v1_]) ∧ Kd.R Kd.string 9 w' w.heap.size (fun _ => True) v1_ r2 ∧ Below w.heap.size w w' := by
  have HR0 := Aside0.mk hr0
  have HC0 := Aside0.mk hc0
  clear hr0 hc0
  have HB := Aside0.mk (Below.refl w.heap.size w)
  have H : ((sep_Span.f l0).bind fun t177 => (sep_Strip_raw.l0 k l0 t177 ([] : List ByteArray) l0 (l0.length : Int) 0)) = some (r1, r2) := h
  clear h
  replace H := Option.bind_eq_some_iff.mp H
  obtain ⟨t177, A20, H⟩ := H
  replace H : (sep_Strip_raw.l0 k l0 t177 ([] : List ByteArray) l0 (l0.length : Int) 0) = some (r1, r2) := H
  have A2 := Aside0.mk A20
  clear A20
  have H' := Aside0.mk H
  clear H
  go_enter Tryz.func147, Tryz.ntmps147
  go_wp2_with (first | ((with_reducible refine gate_callee (f := 185) rfl ?_); refine goesL_ (some 9) rfl rfl Tryz.func185 (by kernel_rfl) rfl #[.slice A0 l0.length c0] rfl (by (try simp only [List.map_toArray, List.map_cons, List.map_nil]); first | done | rfl | (simp only [List.length_drop, List.length_take]; rfl)) ?_; (with_reducible refine (sep_Span.calls _ _ l0 t177 _ ?side1 ?side2 A2.out).mono ?_); (case side1 => repeat (first | exact HR0.out | (with_reducible refine Kd.C_alloc ?_ _) | (with_reducible refine Kd.C_drewN ?_ _) | (with_reducible refine Kd.C_drew ?_))); (case side2 => exact HC0.out); rintro e w3 ⟨rfl, hb⟩; refine ⟨_, rfl, ?_⟩; have n0_ := Aside0.mk (below_step (by repeat (first | (with_reducible first | exact HB.out | apply below_alloc | apply pw_below_drewN | apply below_drew1) | exact HB.out)) hb); clear HB; have HB := n0_; clear n0_; (try clear hb); (try clear hb2); (try clear hk); (try clear hi)))
  go_loopg [5, 12] k (fun kq v5 v12 w' => ∃ (x5_1 : List ByteArray) (x12_1 : Int), v12 = .int .i64 x12_1 ∧ Aside0 (sep_Strip_raw.l0 kq l0 t177 x5_1 l0 (l0.length : Int) x12_1 = some (r1, r2)) ∧ Aside0 (kq ≤ k) ∧ Aside0 (Kd.R Kd.string 9 w' w.heap.size (fun _ => True) v5 x5_1) ∧ Aside0 (Below w.heap.size w w'))
  case atStart => exact ⟨(([] : List ByteArray)), (0), (by first | rfl | (simp; done) | (simp [*]; done)), H', ⟨Nat.le_refl _⟩, ⟨by first | exact Kd.R_nil _ _ _ _ _ | exact Kd.N_nil _ _ _ _ _ | exact Kd.V_nil _ _ _ _ _ | exact Kd.Q_nil _ _ _ _ _ | exact Kd.S_nil _ _ _ _ _⟩, ⟨by repeat (first | (with_reducible first | exact HB.out | apply below_alloc | apply pw_below_drewN | apply below_drew1) | exact HB.out)⟩⟩
  case round =>
    clear H'
    try clear c1
    try clear p2
    obtain ⟨x5_1, x12_1, rfl, HA, HK1, HO_5, HB⟩ := hrel
    cases gk with
    | zero => exact absurd HA.out (by simp [sep_Strip_raw.l0])
    | succ k1 =>
      have H := HA.out
      clear HA
      simp only [sep_Strip_raw.l0] at H
      by_cases c4 : x12_1 < (l0.length : Int)
      · rw [if_pos c4] at H
        have c4b0 : decide (x12_1 < (l0.length : Int)) = true := decide_eq_true c4
        clear c4
        by_cases c5 : 0 ≤ x12_1
        · rw [if_pos c5] at H
          have c5b0 : decide (0 ≤ x12_1) = true := decide_eq_true c5
          clear c5
          by_cases c6 : x12_1 < (l0.length : Int)
          · rw [if_pos c6] at H
            have c6b0 : decide (x12_1 < (l0.length : Int)) = true := decide_eq_true c6
            clear c6
            by_cases c7 : 0 ≤ t177
            · rw [if_pos c7] at H
              have c7b0 := eq_true c7
              have c7b1 : decide (0 ≤ t177) = true := decide_eq_true c7
              clear c7
              by_cases c8 : t177 ≤ ((rdOf ByteArray.empty l0 x12_1).size : Int)
              · rw [if_pos c8] at H
                have c8b0 := eq_true c8
                have c8b1 : decide (t177 ≤ ((rdOf ByteArray.empty l0 x12_1).size : Int)) = true := decide_eq_true c8
                clear c8
                by_cases c9 : x5_1.length < 8796093022208
                · rw [if_pos c9] at H
                  have LMc9 := Aside0.mk c9
                  clear c9
                  obtain ⟨y179, hy179⟩ : ∃ y_ : List ByteArray, y_ = (x5_1 ++ [(rdOf ByteArray.empty l0 x12_1).extract (t177 : Int).toNat (rdOf ByteArray.empty l0 x12_1).size]) := ⟨_, rfl⟩
                  replace H : (sep_Strip_raw.l0 k1 l0 t177 y179 l0 (l0.length : Int) (wrap64 (x12_1 + 1))) = some (r1, r2) := by first | (rw [hy179]; with_reducible exact H) | (have H2_ := (Option.bind_some _ _).symm.trans H; rw [hy179]; with_reducible exact H2_) | (have H2_ := (Option.bind_some _ _).symm.trans H; with_reducible exact H2_) | with_reducible exact H | (rw [hy179]; exact H) | exact H
                  have Ny179 := Aside0.mk hy179
                  clear hy179
                  have H' := Aside0.mk H
                  clear H
                  have p178 : 0 ≤ (x12_1 : Int) := of_decide_eq_true (by first | (with_reducible assumption) | assumption)
                  have q178 : x12_1 < (l0.length : Int) := of_decide_eq_true (by first | (with_reducible assumption) | assumption)
                  obtain ⟨ad178, e178, hx178_0⟩ := Kd.at_string HR0.out x12_1 p178 q178
                  cases e178
                  replace hx178_0 := (HB.out.cell (World.block_lt_of_cell? w _ hx178_0)).trans hx178_0
                  replace p178 := eq_true p178
                  replace q178 := eq_true q178
                  go_wp2_with (first | ((with_reducible refine gate_builtin (b := .append) (xs := #[.tmp 16, .tmp 20]) rfl ?_); at_builtin; refine Kd.R_append Kd.string (w0 := w) w.heap.size rfl (.tmp 16) (.tmp 20) 47 9 (.string ⟨#[]⟩) 16 rfl Tryz.underlying47 info9 rfl (by decide) (by omega) u5 x5_1 ((rdOf ByteArray.empty l0 x12_1).extract (t177 : Int).toNat (rdOf ByteArray.empty l0 x12_1).size) [.string ((rdOf ByteArray.empty l0 x12_1).extract (t177 : Int).toNat (rdOf ByteArray.empty l0 x12_1).size)] (fun _ => True) (fun _ => False) rfl rfl ?aP (fun _ hk => hk.elim) ?aF ?aO ?aB ?aS ?aL ?_; (case aP => exact rfl); (case aB => exact (by repeat (first | (with_reducible first | exact HB.out | apply below_alloc | apply pw_below_drewN | apply below_drew1) | exact HB.out))); (case aF => exact (fun _ _ => trivial)); (case aO => exact (by (with_reducible repeat (first | apply Kd.R_alloc | apply Kd.R_drewN | apply Kd.R_drew)); exact HO_5.out)); (case aS => exact (below_size (by repeat (first | (with_reducible first | exact HB.out | apply below_alloc | apply pw_below_drewN | apply below_drew1) | exact HB.out)))); (case aL => have := LMc9.out; omega); intro v180 w10 ho hb hg hat; rw [← Ny179.out] at ho; have n0_ := Aside0.mk (hb); have n1_ := Aside0.mk (ho); clear HB; clear HO_5; have HB := n0_; have HO181 := n1_; clear n0_ n1_; clear ho hb hg hat))
                  go_roundg k1
                  case measure => have := HK1.out; omega
                  case rel => exact ⟨(y179), (wrap64 (x12_1 + 1)), (by first | rfl | (simp; done) | (simp [*]; done)), H', ⟨by have := HK1.out; omega⟩, ⟨by (with_reducible repeat (first | apply Kd.R_alloc | apply Kd.R_drewN | apply Kd.R_drew)); exact HO181.out⟩, ⟨by repeat (first | (with_reducible first | exact HB.out | apply below_alloc | apply pw_below_drewN | apply below_drew1) | exact HB.out)⟩⟩
                · rw [if_neg c9] at H
                  exact absurd H (by simp)
              · rw [if_neg c8] at H
                exact absurd H (by simp)
            · rw [if_neg c7] at H
              exact absurd H (by simp)
          · rw [if_neg c6] at H
            exact absurd H (by simp)
        · rw [if_neg c5] at H
          exact absurd H (by simp)
      · rw [if_neg c4] at H
        have c4b0 : decide (x12_1 < (l0.length : Int)) = false := decide_eq_false c4
        clear c4
        by_cases c11 : (l0.length : Int) = 0
        · rw [if_pos c11] at H
          have c11b0 : ((l0.length : Int) == 0) = true := beq_iff_eq.mpr c11
          have c11b1 : ((l0.length : Int) != 0) = false := bne_eq_false_iff_eq.mpr c11
          clear c11
          simp only [Option.some.injEq, Prod.mk.injEq] at H
          obtain ⟨rfl, rfl⟩ := H
          go_wp2
          go_ret2
          exact ⟨_, by first | rfl | (simp [errW_none, errW_some] <;> rfl) | (simp [*, errW_none, errW_some] <;> rfl), by (with_reducible repeat (first | apply Kd.R_alloc | apply Kd.R_drewN | apply Kd.R_drew)); exact HO_5.out, by repeat (first | (with_reducible first | exact HB.out | apply below_alloc | apply pw_below_drewN | apply below_drew1) | exact HB.out)⟩
        · rw [if_neg c11] at H
          have c11b0 : ((l0.length : Int) == 0) = false := beq_eq_false_iff_ne.mpr c11
          have c11b1 : ((l0.length : Int) != 0) = true := bne_iff_ne.mpr c11
          have c11b2 : ¬ (l0 = []) := fun h_ => c11 (by rw [h_]; rfl)
          by_cases c12 : 0 < (l0.length : Int)
          · rw [if_pos c12] at H
            have c12b0 : decide (0 < (l0.length : Int)) = true := decide_eq_true c12
            have c12b1 : decide (0 < l0.length) = true := decide_eq_true (by omega)
            clear c12
            by_cases c13 : 0 ≤ t177
            · rw [if_pos c13] at H
              have c13b0 := eq_true c13
              have c13b1 : decide (0 ≤ t177) = true := decide_eq_true c13
              clear c13
              by_cases c14 : t177 ≤ ((rdOf ByteArray.empty l0 0).size : Int)
              · rw [if_pos c14] at H
                have c14b0 := eq_true c14
                have c14b1 : decide (t177 ≤ ((rdOf ByteArray.empty l0 0).size : Int)) = true := decide_eq_true c14
                clear c14
                simp only [Option.some.injEq, Prod.mk.injEq] at H
                obtain ⟨rfl, rfl⟩ := H
                have p182 : 0 ≤ (0 : Int) := (by omega)
                have q182 : 0 < (l0.length : Int) := of_decide_eq_true (by first | (with_reducible assumption) | assumption)
                obtain ⟨ad182, e182, hx182_0⟩ := Kd.at_string HR0.out 0 p182 q182
                cases e182
                have qi182 : (0 < l0.length) = True := eq_true (by omega)
                (try rw [show ((0 : Int)).toNat = 0 from rfl] at hx182_0)
                (try rw [Addr.add_zero'] at hx182_0)
                replace hx182_0 := (HB.out.cell (World.block_lt_of_cell? w _ hx182_0)).trans hx182_0
                replace p182 := eq_true p182
                replace q182 := eq_true q182
                go_wp2
                go_ret2
                exact ⟨_, by first | rfl | (simp [errW_none, errW_some] <;> rfl) | (simp [*, errW_none, errW_some] <;> rfl), by (with_reducible repeat (first | apply Kd.R_alloc | apply Kd.R_drewN | apply Kd.R_drew)); exact HO_5.out, by repeat (first | (with_reducible first | exact HB.out | apply below_alloc | apply pw_below_drewN | apply below_drew1) | exact HB.out)⟩
              · rw [if_neg c14] at H
                exact absurd H (by simp)
            · rw [if_neg c13] at H
              exact absurd H (by simp)
          · rw [if_neg c12] at H
            exact absurd H (by simp)

end Go.Proofs.YtmheajenlhlbhaaGreatDoor.X


namespace Go.Proofs.YtmheajenlhlbhaaGreatDoor.X
open Go.RowKit Go.Proofs.YtmheajenlhlbhaaGreatDoorW.PrintWords Go.Proofs.YtmheajenlhlbhaaGreatDoorW.PrintLast Go.Proofs.YtmheajenlhlbhaaGreatDoorW.PrintMore
attribute [local go_sem] max2_int min2_int max_two min_two max_three min_three max_four min_four   -- for this text's walks alone
set_option linter.unusedVariables false
set_option linter.unusedSimpArgs false

theorem mn_le_left (a b : Int) : mn a b ≤ a := by unfold mn; split <;> omega
theorem mn_le_right (a b : Int) : mn a b ≤ b := by unfold mn; split <;> omega
theorem mn_nonneg {a b : Int} (h : 0 ≤ a) (h' : 0 ≤ b) : 0 ≤ mn a b := by unfold mn; split <;> omega
theorem leastI_le : ∀ (l : List Int) (a : Int), leastI a l ≤ a ∧ ∀ x ∈ l, leastI a l ≤ x
  | [], a => ⟨Int.le_refl _, fun _ h => by cases h⟩
  | b :: l, a => by
    have := leastI_le l (mn a b)
    refine ⟨Int.le_trans this.1 (mn_le_left a b), fun x hx => ?_⟩
    rcases List.mem_cons.1 hx with rfl | hx
    · exact Int.le_trans this.1 (mn_le_right a x)
    · exact this.2 x hx
theorem leastI_nonneg : ∀ (l : List Int) (a : Int), 0 ≤ a → (∀ x ∈ l, 0 ≤ x) → 0 ≤ leastI a l
  | [], _, h, _ => h
  | b :: l, _, h, hl => leastI_nonneg l _ (mn_nonneg h (hl b (by simp))) (fun x hx => hl x (by simp [hx]))
theorem spanN_nonneg (l : List ByteArray) : 0 ≤ spanN l := by
  cases l with
  | nil => exact Int.le_refl _
  | cons a r => exact leastI_nonneg _ _ (by omega) (fun x hx => by obtain ⟨b, _, rfl⟩ := List.mem_map.1 hx; omega)
theorem spanN_le (l : List ByteArray) : ∀ s ∈ l, spanN l ≤ (s.size : Int) := by
  intro s hs
  cases l with
  | nil => cases hs
  | cons a r =>
    have h := leastI_le (r.map fun b => ((common (bl a) (bl b) : Nat) : Int)) (a.size : Int)
    rcases List.mem_cons.1 hs with rfl | hs
    · exact h.1
    · have := h.2 _ (List.mem_map.2 ⟨s, hs, rfl⟩)
      have h2 := common_le_right (bl a) (bl s)
      rw [bl_length] at h2
      show leastI _ _ ≤ _
      omega
def stripAll : List ByteArray → ByteArray
  | [] => ⟨#[]⟩
  | a :: r => a.extract 0 (spanN (a :: r)).toNat
def stripRest (l : List ByteArray) : List ByteArray := l.map fun s => s.extract (spanN l).toNat s.size
theorem strip_l0 (l : List ByteArray) (hl : l.length ≤ 2000000000000) (d : Nat) : ∀ (k i : Nat), i + d = l.length → d < k →
    sep_Strip_raw.l0 k l (spanN l) ((l.take i).map fun s => s.extract (spanN l).toNat s.size) l l.length i = some (stripAll l, stripRest l) := by
  have h0 := spanN_nonneg l
  have hle := spanN_le l
  induction d with
  | zero =>
    intro k i h1 hk
    obtain ⟨k, rfl⟩ : ∃ m, k = m + 1 := ⟨k - 1, by omega⟩
    simp only [sep_Strip_raw.l0]
    rw [if_neg (by omega)]
    obtain rfl : i = l.length := by omega
    rw [List.take_length]
    cases l with
    | nil => rfl
    | cons a r =>
      have ha := hle a (by simp)
      have hr : rdOf ByteArray.empty (a :: r) 0 = a := rfl
      rw [if_neg (by simp <;> omega), if_pos (by simp <;> omega), if_pos h0, hr, if_pos ha]
      rfl
  | succ d ih =>
    intro k i h1 hk
    obtain ⟨k, rfl⟩ : ∃ m, k = m + 1 := ⟨k - 1, by omega⟩
    simp only [sep_Strip_raw.l0]
    have hi : i < l.length := by omega
    have hr : rdOf ByteArray.empty l (i : Int) = l[i] := by simp [rdOf, List.getD_eq_getElem?_getD, List.getElem?_eq_getElem hi]
    have ha := hle l[i] (by simp)
    rw [if_pos (by omega), if_pos (by omega), if_pos (by omega), if_pos h0, hr, if_pos ha, if_pos (by rw [List.length_map, List.length_take]; omega), wrap64_id (n := (i : Int) + 1) (by omega) (by omega), show ((i : Int) + 1) = ((i + 1 : Nat) : Int) by omega]
    have hs : ((l.take (i + 1)).map fun s => s.extract (spanN l).toNat s.size) = ((l.take i).map fun s => s.extract (spanN l).toNat s.size) ++ [l[i].extract (spanN l).toNat l[i].size] := by
      rw [List.take_succ_eq_append_getElem hi, List.map_append]
      rfl
    rw [← hs]
    exact ih k (i + 1) (by omega) (by omega)
def sep_Strip.f (l : List ByteArray) : Option (ByteArray × List ByteArray) := if l.length ≤ 2000000000000 ∧ ∀ s ∈ l, s.size ≤ 140737488351232 then some (stripAll l, stripRest l) else none
theorem sep_Strip.calls (A0 : Option Addr) (c0 : Nat) (l0 : List ByteArray) (r1 : ByteArray) (r2 : List ByteArray) (w : World) (hr0 : Kd.C Kd.string w A0 l0.length l0) (hc0 : l0.length ≤ c0) (h : sep_Strip.f l0 = some (r1, r2)) :
    Calls Tryz.prog 147 #[.slice A0 l0.length c0] w fun e w' => ∃ v1_ : Value, e = .returned (.tuple #[.string r1, v1_]) ∧ Kd.R Kd.string 9 w' w.heap.size (fun _ => True) v1_ r2 ∧ Below w.heap.size w w' := by
  unfold sep_Strip.f at h
  by_cases hs : l0.length ≤ 2000000000000 ∧ ∀ s ∈ l0, s.size ≤ 140737488351232
  · rw [if_pos hs] at h
    refine sep_Strip_raw.calls (l0.length + 1) A0 c0 l0 r1 r2 w hr0 hc0 ?_
    have := strip_l0 l0 hs.1 l0.length (l0.length + 1) 0 (by omega) (by omega)
    unfold sep_Strip_raw.f sep_Span.f
    rw [if_pos hs, ← h, ← this]
    rfl
  · rw [if_neg hs] at h
    exact absurd h (by simp)


end Go.Proofs.YtmheajenlhlbhaaGreatDoor.X


namespace Go.Proofs.YtmheajenlhlbhaaGreatDoor.X
open Go.RowKit Go.Proofs.YtmheajenlhlbhaaGreatDoorW.PrintWords Go.Proofs.YtmheajenlhlbhaaGreatDoorW.PrintLast Go.Proofs.YtmheajenlhlbhaaGreatDoorW.PrintMore
attribute [local go_sem] max2_int min2_int max_two min_two max_three min_three max_four min_four   -- for this text's walks alone
set_option linter.unusedVariables false
set_option linter.unusedSimpArgs false

def leaf_keys.f (a0 a1 : Int) (a2 : ByteArray) (l : List S32) : Option (List ByteArray) := if l.length ≤ 2000000000000 then some (l.map (·.f0)) else none

set_option maxHeartbeats 400000 in
theorem leaf_keys1.calls (x : S32) (w : World) :
    Calls Tryz.prog 187 #[.agg #[.string x.f0, .bool x.f1.f0, .string x.f1.f1, .int .i64 x.f1.f2, .int .i64 x.f1.f3]] w fun e w' => e = .returned (.string x.f0) ∧ Below w.heap.size w w' := by
  go_enter Tryz.func187, Tryz.ntmps187
  go_wp2
  go_ret
  exact ⟨rfl, (Below.refl _ _).alloc (Nat.le_refl _) _⟩

set_option maxHeartbeats 1000000 in
theorem leaf_told.calls (A0 : Option Addr) (c0 : Nat) (l0 : List S32) (w : World) (hr0 : Kd.C k32 w A0 l0.length l0) (hl : l0.length ≤ 2000000000000) :
    Calls Tryz.prog 186 #[.slice A0 l0.length c0, .func (.func 187) #[] #[]] w fun e w' => ∃ v0_ : Value, e = .returned (v0_) ∧ Kd.R Kd.string 9 w' w.heap.size (fun _ => True) v0_ (l0.map (·.f0)) ∧ Below w.heap.size w w' := by
  have HR0 := Aside0.mk hr0
  clear hr0
  go_enter Tryz.func186, Tryz.ntmps186
  go_wp2
  go_loopw [5, 10] (fun v i wr => ∃ k : Nat, k ≤ l0.length ∧ i = .int .i64 k ∧ Aside0 (Kd.R Kd.string 9 wr w.heap.size (fun _ => True) v ((l0.take k).map (·.f0))) ∧ Aside0 (Below w.heap.size w wr)) (fun _ i _ => l0.length - (intOf i).toNat)
  case atStart => exact ⟨0, by omega, rfl, ⟨Kd.R_nil _ _ _ _ _⟩, ⟨Below.refl _ _⟩⟩
  case round =>
    obtain ⟨k, h0, rfl, HO, HB⟩ := hrel
    by_cases hx : k < l0.length
    · obtain ⟨ad0, e0, q0, q1, q2, q3, q4⟩ := at_T32 HR0.out (k : Int) (by omega) (by omega)
      cases e0
      have eK : (k : Int).toNat = k := Int.toNat_natCast k
      rw [eK] at q0 q1 q2 q3 q4
      replace q0 := (HB.out.cell (World.block_lt_of_cell? w _ q0)).trans q0
      replace q1 := (HB.out.cell (World.block_lt_of_cell? w _ q1)).trans q1
      replace q2 := (HB.out.cell (World.block_lt_of_cell? w _ q2)).trans q2
      replace q3 := (HB.out.cell (World.block_lt_of_cell? w _ q3)).trans q3
      replace q4 := (HB.out.cell (World.block_lt_of_cell? w _ q4)).trans q4
      clear eK
      generalize hx0 : rd_T32 l0 (k : Int) = x at q0 q1 q2 q3 q4
      have HX := Aside0.mk hx0
      clear hx0
      have hsn : ((l0.take (k + 1)).map (·.f0)) = ((l0.take k).map (·.f0)) ++ [x.f0] := by
        rw [List.take_succ_eq_append_getElem hx, List.map_append, ← HX.out]
        simp [rd_T32, List.getD_eq_getElem?_getD, List.getElem?_eq_getElem hx]
      have HS := Aside0.mk hsn
      clear hsn
      go_wp2_with (first | (go_at_call 187; refine (leaf_keys1.calls x _).mono ?_; rintro e w1 ⟨rfl, hb1⟩; have n0_ := Aside0.mk (Kd.R_below (Kd.R_alloc HO.out _) hb1); have n1_ := Aside0.mk (below_step (below_alloc HB.out _) hb1); clear HO HB hb1; have HO := n0_; have HB := n1_; clear n0_ n1_) | (at_builtin; refine Kd.R_append Kd.string (w0 := w) w.heap.size rfl (.tmp 14) (.tmp 18) 47 9 (.string ⟨#[]⟩) 16 rfl Tryz.underlying47 info9 rfl (by decide) (by omega) u5 ((l0.take k).map (·.f0)) x.f0 [.string x.f0] (fun _ => True) (fun _ => False) rfl rfl ?aP (fun _ hk => hk.elim) ?aF ?aO ?aB ?aS ?aL ?_; (case aP => exact rfl); (case aB => exact HB.out); (case aF => exact (fun _ _ => trivial)); (case aO => exact HO.out); (case aS => exact below_size HB.out); (case aL => rw [List.length_map, List.length_take]; omega); intro v255 w10 ho hb hg hat; rw [← HS.out] at ho; have n0_ := Aside0.mk hb; have n1_ := Aside0.mk ho; clear HB HO; have HB := n0_; have HO := n1_; clear n0_ n1_; clear ho hb hg hat))
      go_roundw
      case rel => exact ⟨k + 1, by omega, by go_num, HO, HB⟩
      case measure => simp [intOf]; omega
    · have hk : k = l0.length := by omega
      have HF := Aside0.mk (show l0.take k = l0 by rw [hk, List.take_length])
      clear hk
      go_wp2
      go_ret
      exact ⟨_, rfl, by rw [← HF.out]; exact HO.out, HB.out⟩

theorem leaf_keys.calls (a0_0 : Int) (a0_1 : Int) (a0_2 : ByteArray) (A0_3 : Option Addr) (c0_3 : Nat) (l0_3 : List S32) (r : List ByteArray) (w : World) (hr0_3 : Kd.C k32 w A0_3 l0_3.length l0_3) (hc0_3 : l0_3.length ≤ c0_3) (h : leaf_keys.f a0_0 a0_1 a0_2 l0_3 = some r) :
    Calls Tryz.prog 148 #[.agg #[.int .i64 a0_0, .int .i64 a0_1, .string a0_2, .slice A0_3 l0_3.length c0_3]] w fun e w' => ∃ v0_ : Value, e = .returned (v0_) ∧ Kd.R Kd.string 9 w' w.heap.size (fun _ => True) v0_ r ∧ Below w.heap.size w w' := by
  unfold leaf_keys.f at h
  by_cases hs : l0_3.length ≤ 2000000000000
  · rw [if_pos hs] at h
    obtain rfl := Option.some.inj h
    have HR := Aside0.mk hr0_3
    clear hr0_3 hc0_3 h
    go_enter Tryz.func148, Tryz.ntmps148
    go_wp2_with (go_at_call 186; refine (leaf_told.calls A0_3 c0_3 l0_3 _ (Kd.C_below HR.out (below_alloc (Below.refl _ _) _)) hs).mono ?_; rintro e w1 ⟨v, rfl, ho, hb⟩; have HO := Aside0.mk ho; have HB := Aside0.mk hb; clear ho hb)
    go_ret
    exact ⟨_, rfl, Kd.R_lower HO.out (by simp), below_step (below_alloc (Below.refl _ _) _) HB.out⟩
  · rw [if_neg hs] at h
    exact absurd h (by simp)


end Go.Proofs.YtmheajenlhlbhaaGreatDoor.X

