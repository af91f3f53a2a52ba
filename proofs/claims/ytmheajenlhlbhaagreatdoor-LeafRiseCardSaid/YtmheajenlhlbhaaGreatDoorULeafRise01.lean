/- What functions of the given program compute, step by step: the walks that the law LeafRise leans on, part 1. No conditions. -/
import Derived.Test.YtmheajenlhlbhaaGreatDoorProg
import Derived.Below
import Derived.Deep.Draws
import Derived.Deep.AppendLies
import Derived.Maps.AppendAt
import Derived.OwnWalk
import Derived.Laws.BytesArg
import Derived.Laws.MakeOwn
import Derived.Laws.OwnMore
import Derived.Deep.OwnRows
import Derived.Tactics
import Derived.Lib.ConvBytes
import Derived.Laws.Slices
import Derived.WalkKit
import Derived.KernelRfl
import Derived.RowKit3
import Derived.Deep.LoopGhost
import Derived.Deep.QuietTactic
import Derived.BigQuiet
import Derived.WideLaws
import Derived.Deep.DeepCutAuto
import Derived.Deep.CutBlock
import Derived.Deep.RegionHeld3
import Derived.Laws.Rows
import Derived.Lib.AppendStr
import Derived.ArgAppend
import Derived.Laws.IdiomCopy
import Derived.OrdersHeld
import Derived.Laws.BitsLemmas
import Derived.RowKit
import Derived.WalkLawsBesides
import Derived.Test.YtmheajenlhlbhaaGreatDoorVLeafRiseWWords
import Derived.Test.YtmheajenlhlbhaaGreatDoorVLeafRiseWLast
import Derived.Test.YtmheajenlhlbhaaGreatDoorVLeafRiseWTab
import Derived.Test.YtmheajenlhlbhaaGreatDoorVLeafRiseWFour
import Derived.Test.YtmheajenlhlbhaaGreatDoorVLeafRiseWQPut
import Derived.Test.YtmheajenlhlbhaaGreatDoorVLeafRiseWApart
import Derived.Test.YtmheajenlhlbhaaGreatDoorVLeafRiseWArr
import Derived.Test.YtmheajenlhlbhaaGreatDoorVLeafRiseWZeros
import Derived.Test.YtmheajenlhlbhaaGreatDoorVLeafRiseWFoot
import Derived.Test.YtmheajenlhlbhaaGreatDoorVLeafRiseWKept
import Derived.Test.YtmheajenlhlbhaaGreatDoorVLeafRiseWShare
import Derived.Test.YtmheajenlhlbhaaGreatDoorVLeafRiseWN
import Derived.Test.YtmheajenlhlbhaaGreatDoorVLeafRiseWFootNe
import Derived.Test.YtmheajenlhlbhaaGreatDoorVLeafRiseWAt
import Derived.Test.YtmheajenlhlbhaaGreatDoorVLeafRiseWEqStruct
import Derived.Test.YtmheajenlhlbhaaGreatDoorVLeafRiseWRepsOne
import Derived.Test.YtmheajenlhlbhaaGreatDoorVLeafRiseWInv
import Derived.Test.YtmheajenlhlbhaaGreatDoorVLeafRiseWInvWords
import Derived.Test.YtmheajenlhlbhaaGreatDoorVLeafRiseWGuard
import Derived.Test.YtmheajenlhlbhaaGreatDoorVLeafRiseWNEv
import Derived.Test.YtmheajenlhlbhaaGreatDoorVLeafRiseWMore
import Derived.RangeFuncBox
import Derived.RangeFuncLeaves
import Derived.Deep.WholeRow
import Derived.Laws.Closers25b
import Derived.LaidEql
import Derived.Stop.Asserts
import Derived.RowKitTokens
import Derived.Lib.IfaceEq
namespace Go.Proofs.YtmheajenlhlbhaaGreatDoor.X
open Go.RowKit Go.Proofs.YtmheajenlhlbhaaGreatDoorW.PrintWords Go.Proofs.YtmheajenlhlbhaaGreatDoorW.PrintLast Go.Proofs.YtmheajenlhlbhaaGreatDoorW.PrintMore
attribute [local go_sem] max2_int min2_int max_two min_two max_three min_three max_four min_four   -- for this text's walks alone
set_option linter.unusedVariables false
set_option linter.unusedSimpArgs false



def errW : Option Int → Value
  | none => .nilIface
  | some c => .iface 0 (.int .i64 c)
theorem errW_none : errW none = .nilIface := rfl
theorem errW_some (c : Int) : errW (some c) = .iface 0 (.int .i64 c) := rfl

theorem info3 : (Tryz.prog.info? 3).map (fun i => (i.zero, i.size, i.bytes)) = some (some (.int .i64 0), 1, 8) := by kernel_rfl
theorem info5 : (Tryz.prog.info? 5).map (fun i => (i.zero, i.size, i.bytes)) = some (some (.int .u8 0), 1, 1) := by kernel_rfl
theorem info9 : (Tryz.prog.info? 9).map (fun i => (i.zero, i.size, i.bytes)) = some (some (.string ⟨#[]⟩), 1, 16) := by kernel_rfl
theorem info32 : (Tryz.prog.info? 32).map (fun i => (i.zero, i.size, i.bytes)) = some (some (.agg #[(.string ⟨#[]⟩), (.bool false), (.string ⟨#[]⟩), (.int .i64 0), (.int .i64 0)]), 5, 56) := by kernel_rfl
theorem info185 : (Tryz.prog.info? 185).map (fun i => (i.zero, i.size, i.bytes)) = some (some (.agg #[(.string ⟨#[]⟩), (.bool false), (.string ⟨#[]⟩), (.int .i64 0), (.int .i64 0)]), 5, 56) := by kernel_rfl



structure S30 where
  f0 : Bool
  f1 : ByteArray
  f2 : Int
  f3 : Int
def z30 : S30 := ⟨false, (⟨#[]⟩ : ByteArray), (0 : Int), (0 : Int)⟩
def k30 : Kd S30 := Kd.iso (Kd.pair Kd.bool (Kd.pair Kd.string (Kd.pair (Kd.int .i64) (Kd.int .i64)))) (fun x : S30 => (x.f0, x.f1, x.f2, x.f3))
theorem k30_open {w : World} {x : S30} {cs : List Value} (h : k30.K w x cs) : cs = [.bool x.f0, .string x.f1, .int .i64 x.f2, .int .i64 x.f3] := by
  obtain ⟨_, _, rfl, rfl, ⟨_, _, rfl, rfl, ⟨_, _, rfl, rfl, rfl⟩⟩⟩ := h
  exact rfl
theorem k30_mkM (w : World) (base : Nat) (ok : Nat → Prop) (x : S30)  : k30.M w base ok x [.bool x.f0, .string x.f1, .int .i64 x.f2, .int .i64 x.f3] := ⟨[.bool x.f0], [.string x.f1, .int .i64 x.f2, .int .i64 x.f3], rfl, rfl, ⟨[.string x.f1], [.int .i64 x.f2, .int .i64 x.f3], rfl, rfl, ⟨[.int .i64 x.f2], [.int .i64 x.f3], rfl, rfl, rfl⟩⟩⟩

structure S32 where
  f0 : ByteArray
  f1 : S30
def z32 : S32 := ⟨(⟨#[]⟩ : ByteArray), z30⟩
def k32 : Kd S32 := Kd.iso (Kd.pair Kd.string k30) (fun x : S32 => (x.f0, x.f1))
theorem k32_open {w : World} {x : S32} {cs : List Value} (h : k32.K w x cs) : cs = [.string x.f0, .bool x.f1.f0, .string x.f1.f1, .int .i64 x.f1.f2, .int .i64 x.f1.f3] := by
  obtain ⟨_, _, rfl, rfl, s1⟩ := h
  obtain rfl := k30_open s1
  exact rfl
theorem k32_mkM (w : World) (base : Nat) (ok : Nat → Prop) (x : S32)  : k32.M w base ok x [.string x.f0, .bool x.f1.f0, .string x.f1.f1, .int .i64 x.f1.f2, .int .i64 x.f1.f3] := ⟨[.string x.f0], [.bool x.f1.f0, .string x.f1.f1, .int .i64 x.f1.f2, .int .i64 x.f1.f3], rfl, rfl, (k30_mkM w base ok x.f1 )⟩
def rd_T32 (xs : List S32) (i : Int) : S32 := xs.getD i.toNat z32
theorem at_T32 {w : World} {A : Option Addr} {n : Nat} {xs : List S32} (h : Kd.C k32 w A n xs) (i : Int) (h0 : 0 ≤ i) (h1 : i < n) : ∃ ad , A = some ad ∧ w.cell? (ad.add (i.toNat * 5)) = some (.string (rd_T32 xs i).f0) ∧ w.cell? ⟨(ad.add (i.toNat * 5)).block, (ad.add (i.toNat * 5)).off + 1, none⟩ = some (.bool (rd_T32 xs i).f1.f0) ∧ w.cell? ⟨(ad.add (i.toNat * 5)).block, (ad.add (i.toNat * 5)).off + 2, none⟩ = some (.string (rd_T32 xs i).f1.f1) ∧ w.cell? ⟨(ad.add (i.toNat * 5)).block, (ad.add (i.toNat * 5)).off + 3, none⟩ = some (.int .i64 (rd_T32 xs i).f1.f2) ∧ w.cell? ⟨(ad.add (i.toNat * 5)).block, (ad.add (i.toNat * 5)).off + 4, none⟩ = some (.int .i64 (rd_T32 xs i).f1.f3) := by
  obtain ⟨ad, c, e, _, hK, hc0⟩ := Kd.C_get h z32 i h0 h1
  have hc : ∀ j u, c[j]? = some u → w.cell? (ad.add (i.toNat * 5 + j)) = some u := hc0
  obtain rfl := k32_open hK
  exact ⟨ad, e, hc 0 _ rfl, by rw [← add_field _ _ 1 (by omega)]; exact hc 1 _ rfl, by rw [← add_field _ _ 2 (by omega)]; exact hc 2 _ rfl, by rw [← add_field _ _ 3 (by omega)]; exact hc 3 _ rfl, by rw [← add_field _ _ 4 (by omega)]; exact hc 4 _ rfl⟩




structure S183 where
  f0 : Bool
  f1 : ByteArray
  f2 : Int
  f3 : Int
def z183 : S183 := ⟨false, (⟨#[]⟩ : ByteArray), (0 : Int), (0 : Int)⟩
def k183 : Kd S183 := Kd.iso (Kd.pair Kd.bool (Kd.pair Kd.string (Kd.pair (Kd.int .i64) (Kd.int .i64)))) (fun x : S183 => (x.f0, x.f1, x.f2, x.f3))
theorem k183_open {w : World} {x : S183} {cs : List Value} (h : k183.K w x cs) : cs = [.bool x.f0, .string x.f1, .int .i64 x.f2, .int .i64 x.f3] := by
  obtain ⟨_, _, rfl, rfl, ⟨_, _, rfl, rfl, ⟨_, _, rfl, rfl, rfl⟩⟩⟩ := h
  exact rfl
theorem k183_mkM (w : World) (base : Nat) (ok : Nat → Prop) (x : S183)  : k183.M w base ok x [.bool x.f0, .string x.f1, .int .i64 x.f2, .int .i64 x.f3] := ⟨[.bool x.f0], [.string x.f1, .int .i64 x.f2, .int .i64 x.f3], rfl, rfl, ⟨[.string x.f1], [.int .i64 x.f2, .int .i64 x.f3], rfl, rfl, ⟨[.int .i64 x.f2], [.int .i64 x.f3], rfl, rfl, rfl⟩⟩⟩

structure S185 where
  f0 : ByteArray
  f1 : S183
def z185 : S185 := ⟨(⟨#[]⟩ : ByteArray), z183⟩
def k185 : Kd S185 := Kd.iso (Kd.pair Kd.string k183) (fun x : S185 => (x.f0, x.f1))
theorem k185_open {w : World} {x : S185} {cs : List Value} (h : k185.K w x cs) : cs = [.string x.f0, .bool x.f1.f0, .string x.f1.f1, .int .i64 x.f1.f2, .int .i64 x.f1.f3] := by
  obtain ⟨_, _, rfl, rfl, s1⟩ := h
  obtain rfl := k183_open s1
  exact rfl
theorem k185_mkM (w : World) (base : Nat) (ok : Nat → Prop) (x : S185)  : k185.M w base ok x [.string x.f0, .bool x.f1.f0, .string x.f1.f1, .int .i64 x.f1.f2, .int .i64 x.f1.f3] := ⟨[.string x.f0], [.bool x.f1.f0, .string x.f1.f1, .int .i64 x.f1.f2, .int .i64 x.f1.f3], rfl, rfl, (k183_mkM w base ok x.f1 )⟩
def rd_T185 (xs : List S185) (i : Int) : S185 := xs.getD i.toNat z185
theorem at_T185 {w : World} {A : Option Addr} {n : Nat} {xs : List S185} (h : Kd.C k185 w A n xs) (i : Int) (h0 : 0 ≤ i) (h1 : i < n) : ∃ ad , A = some ad ∧ w.cell? (ad.add (i.toNat * 5)) = some (.string (rd_T185 xs i).f0) ∧ w.cell? ⟨(ad.add (i.toNat * 5)).block, (ad.add (i.toNat * 5)).off + 1, none⟩ = some (.bool (rd_T185 xs i).f1.f0) ∧ w.cell? ⟨(ad.add (i.toNat * 5)).block, (ad.add (i.toNat * 5)).off + 2, none⟩ = some (.string (rd_T185 xs i).f1.f1) ∧ w.cell? ⟨(ad.add (i.toNat * 5)).block, (ad.add (i.toNat * 5)).off + 3, none⟩ = some (.int .i64 (rd_T185 xs i).f1.f2) ∧ w.cell? ⟨(ad.add (i.toNat * 5)).block, (ad.add (i.toNat * 5)).off + 4, none⟩ = some (.int .i64 (rd_T185 xs i).f1.f3) := by
  obtain ⟨ad, c, e, _, hK, hc0⟩ := Kd.C_get h z185 i h0 h1
  have hc : ∀ j u, c[j]? = some u → w.cell? (ad.add (i.toNat * 5 + j)) = some u := hc0
  obtain rfl := k185_open hK
  exact ⟨ad, e, hc 0 _ rfl, by rw [← add_field _ _ 1 (by omega)]; exact hc 1 _ rfl, by rw [← add_field _ _ 2 (by omega)]; exact hc 2 _ rfl, by rw [← add_field _ _ 3 (by omega)]; exact hc 3 _ rfl, by rw [← add_field _ _ 4 (by omega)]; exact hc 4 _ rfl⟩




structure S76 where
  f0 : Int
  f1 : Int
def z76 : S76 := ⟨(0 : Int), (0 : Int)⟩


end Go.Proofs.YtmheajenlhlbhaaGreatDoor.X


namespace Go.Proofs.YtmheajenlhlbhaaGreatDoor.X
open Go.RowKit Go.Proofs.YtmheajenlhlbhaaGreatDoorW.PrintWords Go.Proofs.YtmheajenlhlbhaaGreatDoorW.PrintLast Go.Proofs.YtmheajenlhlbhaaGreatDoorW.PrintMore
attribute [local go_sem] max2_int min2_int max_two min_two max_three min_three max_four min_four   -- for this text's walks alone
set_option linter.unusedVariables false
set_option linter.unusedSimpArgs false

structure Kept (n : Nat) (S : Nat → Prop) (w w' : World) : Prop where
  os : w'.os = w.os
  tape : w'.tape = w.tape
  output : w'.output = w.output
  size : w.heap.size ≤ w'.heap.size
  block : ∀ k, k < n → ¬ S k → w'.heap[k]? = w.heap[k]?
namespace Kept
theorem refl (n : Nat) (S : Nat → Prop) (w : World) : Kept n S w w := ⟨rfl, rfl, rfl, Nat.le_refl _, fun _ _ _ => rfl⟩
theorem of_below {n : Nat} {S : Nat → Prop} {w w' : World} (h : Below n w w') : Kept n S w w' := ⟨h.os, h.tape, h.output, h.size, fun k hk _ => h.block k hk⟩
theorem trans {n : Nat} {S : Nat → Prop} {a b c : World} (h : Kept n S a b) (k : Kept n S b c) : Kept n S a c :=
  ⟨k.os.trans h.os, k.tape.trans h.tape, k.output.trans h.output, Nat.le_trans h.size k.size, fun j hj hs => (k.block j hj hs).trans (h.block j hj hs)⟩
theorem mono {n m : Nat} {S T : Nat → Prop} {a b : World} (h : Kept n S a b) (hn : m ≤ n) (hs : ∀ k, S k → T k) : Kept m T a b :=
  ⟨h.os, h.tape, h.output, h.size, fun j hj ht => h.block j (Nat.lt_of_lt_of_le hj hn) (fun q => ht (hs j q))⟩
theorem step {n : Nat} {S : Nat → Prop} {a b c : World} (h : Kept n S a b) (hb : Below b.heap.size b c) (hn : n ≤ a.heap.size) : Kept n S a c :=
  h.trans (of_below (hb.mono (Nat.le_trans hn h.size)))
theorem alloc {n : Nat} {S : Nat → Prop} {a b : World} (h : Kept n S a b) (hn : n ≤ a.heap.size) (o : Obj) : Kept n S a (b.alloc o) := h.step (below_alloc (Below.refl _ _) o) hn
theorem drew {n : Nat} {S : Nat → Prop} {a b : World} (h : Kept n S a b) : Kept n S a b.drew := ⟨h.os, h.tape, h.output, h.size, h.block⟩
theorem drewN {n : Nat} {S : Nat → Prop} {a b : World} (h : Kept n S a b) (m : Nat) : Kept n S a (b.drewN m) := ⟨h.os, h.tape, h.output, h.size, h.block⟩
theorem set {n : Nat} {S : Nat → Prop} {a b : World} (h : Kept n S a b) (p : Addr) (v : Value) (hp : S p.block ∨ n ≤ p.block) : Kept n S a (b.setCell p v) :=
  ⟨h.os, h.tape, h.output, by simp only [World.setCell, Array.size_modify]; exact h.size, fun k hk hs => (Below.heap_setCell b p v k (by rcases hp with hp | hp; exact fun e => hs (e ▸ hp); omega)).trans (h.block k hk hs)⟩
theorem below {n : Nat} {S : Nat → Prop} {a b : World} (h : Kept n S a b) (hs : ∀ k, S k → n ≤ k) : Below n a b := ⟨h.os, h.tape, h.output, h.size, fun k hk => h.block k hk (fun q => Nat.lt_irrefl _ (Nat.lt_of_lt_of_le hk (hs k q)))⟩
theorem cell {n : Nat} {S : Nat → Prop} {a b : World} (h : Kept n S a b) {p : Addr} (hp : p.block < n) (hs : ¬ S p.block) : b.cell? p = a.cell? p := World.cell?_of_block (h.block p.block hp hs)
theorem frozen {n : Nat} {S : Nat → Prop} {a b : World} (h : Kept n S a b) {p : Addr} (hp : p.block < n) (hs : ¬ S p.block) : b.frozen? p = a.frozen? p := World.frozen?_of_block (h.block p.block hp hs)
end Kept
theorem R_high {α : Type} {d : Kd α} {e : Nat} {w w1 : World} {base : Nat} {ok : Nat → Prop} {v : Value} {xs : List α} (h : d.R e w base ok v xs) (hm : ∀ k, base ≤ k → k < w.heap.size → w1.heap[k]? = w.heap[k]?) : d.R e w1 base ok v xs :=
  Kd.R_mono (Kd.R_move (Kd.R_bound h) (fun k hk => hm k hk.2.1 hk.2.2.1)) (fun _ hk => hk.1)


end Go.Proofs.YtmheajenlhlbhaaGreatDoor.X


namespace Go.Proofs.YtmheajenlhlbhaaGreatDoor.X
open Go.RowKit Go.Proofs.YtmheajenlhlbhaaGreatDoorW.PrintWords Go.Proofs.YtmheajenlhlbhaaGreatDoorW.PrintLast Go.Proofs.YtmheajenlhlbhaaGreatDoorW.PrintMore
attribute [local go_sem] max2_int min2_int max_two min_two max_three min_three max_four min_four   -- for this text's walks alone
set_option linter.unusedVariables false
set_option linter.unusedSimpArgs false

def bitI (r : Int) : Int := if Go.bits .and .u32 r 1 = 1 then Go.bits .xor .u32 (r / 2) 2197175160 else r / 2
def stepI : Nat → Int → Int
  | 0, r => r
  | k + 1, r => stepI k (bitI r)
def sum_step.f (r : Int) : Option Int := some (stepI 8 r)
theorem below_setc {b : Nat} {a w : World} (h : Below b a w) (u : Value) : Below b a (w.setCell ⟨b, 0, none⟩ u) := h.setCell (p := ⟨b, 0, none⟩) (Nat.le_refl _) u
set_option maxHeartbeats 1000000 in
theorem step1_calls (b : Nat) (r : Int) (w : World) (hb : Boxed w b 156 (.int .u32 r)) :
    Calls Tryz.prog 242 #[.pointer (some ⟨b, 0, none⟩)] w fun e w' => e = .returned (.tuple #[]) ∧ Boxed w' b 156 (.int .u32 (bitI r)) ∧ Below b w w' := by
  have hc : w.cell? ⟨b, 0, none⟩ = some (.int .u32 r) := hb.cell
  have hf : w.frozen? ⟨b, 0, none⟩ = false := hb.frozen
  have HB := Aside0.mk hb
  clear hb
  by_cases h : Go.bits .and .u32 r 1 = 1
  · have hq : (Go.bits .and .u32 r 1 == 1) = true := beq_iff_eq.mpr h
    have e : bitI r = Go.bits .xor .u32 (r / 2) 2197175160 := by unfold bitI; rw [if_pos h]
    rw [e]
    clear e h
    go_enter Tryz.func242, Tryz.ntmps242
    go_wp2
    refine bodyPost_end (results_none rfl _ _ _) rfl ?_
    exact ⟨rfl, (HB.out.set _).set _, below_setc (below_setc (Below.refl _ _) _) _⟩
  · have hq : (Go.bits .and .u32 r 1 == 1) = false := beq_eq_false_iff_ne.mpr h
    have e : bitI r = r / 2 := by unfold bitI; rw [if_neg h]
    rw [e]
    clear e h
    go_enter Tryz.func242, Tryz.ntmps242
    go_wp2
    refine bodyPost_end (results_none rfl _ _ _) rfl ?_
    exact ⟨rfl, HB.out.set _, below_setc (Below.refl _ _) _⟩
set_option maxHeartbeats 2000000 in
theorem sum_step.calls (a0 : Int) (r : Int) (w : World) (h : sum_step.f a0 = some r) :
    Calls Tryz.prog 236 #[.int .u32 a0] w fun e w' => e = .returned (.int .u32 r) ∧ Below w.heap.size w w' := by
  have HR := Aside0.mk (Option.some.inj h)
  clear h
  go_enter Tryz.func236, Tryz.ntmps236
  go_wp2
  go_loopw [5] (fun i wr => ∃ (k : Nat) (x : Int), k ≤ 8 ∧ i = .int .i64 k ∧ Aside0 (stepI (8 - k) x = r) ∧ Aside0 (Boxed wr w.heap.size 156 (.int .u32 x)) ∧ Aside0 (Below w.heap.size w wr)) (fun i _ => 8 - (intOf i).toNat)
  case atStart => exact ⟨0, a0, by omega, rfl, HR, ⟨Boxed.new w 156 (.int .u32 a0)⟩, ⟨below_alloc (Below.refl _ _) _⟩⟩
  case round =>
    obtain ⟨k, x, h0, rfl, HS, HX, HB⟩ := hrel
    by_cases hx : k < 8
    · have hs2 : stepI (8 - (k + 1)) (bitI x) = r := by
        rw [← HS.out, show 8 - k = (8 - (k + 1)) + 1 by omega]
        rfl
      have HS2 := Aside0.mk hs2
      clear hs2
      go_wp2_with (first | (go_at_call 242; refine (step1_calls w.heap.size x _ HX.out).mono ?_; rintro e w1 ⟨rfl, hbx, hb1⟩; have n0_ := Aside0.mk hbx; have n1_ := Aside0.mk (HB.out.trans hb1); clear HX HB hbx hb1; have HX := n0_; have HB := n1_; clear n0_ n1_))
      go_roundw
      case rel => exact ⟨k + 1, bitI x, by omega, by go_num, HS2, HX, HB⟩
      case measure => simp [intOf]; omega
    · have hk : k = 8 := by omega
      subst hk
      have e : x = r := HS.out
      subst e
      have hc := HX.out.cell
      go_wp2
      go_ret
      exact ⟨rfl, HB.out⟩


end Go.Proofs.YtmheajenlhlbhaaGreatDoor.X


namespace Go.Proofs.YtmheajenlhlbhaaGreatDoor.X
open Go.RowKit Go.Proofs.YtmheajenlhlbhaaGreatDoorW.PrintWords Go.Proofs.YtmheajenlhlbhaaGreatDoorW.PrintLast Go.Proofs.YtmheajenlhlbhaaGreatDoorW.PrintMore
attribute [local go_sem] max2_int min2_int max_two min_two max_three min_three max_four min_four   -- for this text's walks alone
set_option linter.unusedVariables false
set_option linter.unusedSimpArgs false

def tabL (k : Nat) : List Int := ((List.range k).map fun (i : Nat) => stepI 8 (i : Int)) ++ List.replicate (256 - k) 0
def tabV (l : List Int) : Array Value := (l.map fun n => Value.int .u32 n).toArray
theorem tabL_length (k : Nat) (h : k ≤ 256) : (tabL k).length = 256 := by simp [tabL]; omega
theorem tabL_set (k : Nat) (h : k < 256) : (tabL k).set k (stepI 8 (k : Int)) = tabL (k + 1) := by
  unfold tabL
  rw [List.set_append_right _ _ (by simp), List.length_map, List.length_range, Nat.sub_self, show 256 - k = (256 - (k + 1)) + 1 by omega, List.replicate_succ, List.set_cons_zero, List.range_succ, List.map_append, List.append_assoc]
  rfl
theorem tab_zero : Tryz.zeroCells324 = tabV (tabL 0) := by kernel_rfl
def Block (W : World) (B : Nat) (t : TypeId) (a : Array Value) : Prop := W.heap[B]? = some (.cells a t (0, 0))
theorem Block.cell {W : World} {B : Nat} {t : TypeId} {a : Array Value} (h : Block W B t a) (k : Nat) (hk : k < a.size) : W.cell? ⟨B, k, none⟩ = some a[k] := by
  simp [World.cell?, show W.heap[B]? = _ from h, hk]
theorem Block.frozen {W : World} {B : Nat} {t : TypeId} {a : Array Value} (h : Block W B t a) (k : Nat) : W.frozen? ⟨B, k, none⟩ = false := by simp [World.frozen?, show W.heap[B]? = _ from h]
theorem Block.below {W W' : World} {B n : Nat} {t : TypeId} {a : Array Value} (h : Block W B t a) (hb : Below n W W') (hn : B < n) : Block W' B t a := (hb.block B hn).trans h
def crcI (r b : Int) : Int := Go.bits .xor .u32 ((tabL 256).getD (Go.bits .xor .u8 (r % 256) b).toNat 0) (r / 256)
def crcAt (s : ByteArray) (c : Int) : Nat → Int
  | 0 => c
  | k + 1 => crcI (crcAt s c k) (bt s (k : Int))
def notI (c : Int) : Int := Go.bits .xor .u32 IntKind.u32.max c
def sum_More.f (c : Int) (s : ByteArray) : Option Int := if s.size ≤ 1000000000 then some (notI (crcAt s (notI c) s.size)) else none
theorem Block.lt {W : World} {B : Nat} {t : TypeId} {a : Array Value} (h : Block W B t a) : B < W.heap.size := (Array.getElem?_eq_some_iff.1 h).1
theorem Block.set {W : World} {B : Nat} {t : TypeId} {a : Array Value} (h : Block W B t a) (k : Nat) (v : Value) : Block (W.setCell ⟨B, k, none⟩ v) B t (a.setIfInBounds k v) := by
  obtain ⟨hlt, hk⟩ := Array.getElem?_eq_some_iff.1 h
  show (W.heap.modify B _)[B]? = _
  rw [Array.getElem?_eq_getElem (by rw [Array.size_modify]; exact hlt), Array.getElem_modify_self, hk]
  rfl
theorem Block.other {W : World} {B C : Nat} {t : TypeId} {a : Array Value} (h : Block W B t a) (k : Nat) (v : Value) (hn : B ≠ C) : Block (W.setCell ⟨C, k, none⟩ v) B t a := (Below.heap_setCell W ⟨C, k, none⟩ v B hn).trans h
theorem tabV_set (k : Nat) (h : k < 256) : (tabV (tabL k)).setIfInBounds k (.int .u32 (stepI 8 (k : Int))) = tabV (tabL (k + 1)) := by
  unfold tabV
  rw [List.setIfInBounds_toArray, ← tabL_set k h, List.map_set]
theorem tabV_size (k : Nat) (h : k ≤ 256) : (tabV (tabL k)).size = 256 := by simp [tabV, tabL_length k h]
theorem wp_load_of {P : Program} {o : Oper} {a : Act} {w : World} {K : Act → World → Prop} {Q : Exit → Act → World → Prop} (ty : TypeId) (x : Operand) (p v : Value) (ho : o.op = .load ty x) (hx : a.eval x = p) (hl : (Instr.loadAt ty p).run P w = .ok v w) (h : K (a.put o.dst v) w) : o.wp P a w K Q := by
  unfold Oper.wp execOp
  simp only [ho, hx, Sem.run_bind, Sem.run_pure, Result.andThen_ok, hl]
  exact h
theorem wp_store_of {P : Program} {o : Oper} {a : Act} {w w' : World} {K : Act → World → Prop} {Q : Exit → Act → World → Prop} (ty : TypeId) (x y : Operand) (p v : Value) (ho : o.op = .store ty x y) (hx : a.eval x = p) (hy : a.eval y = v) (hl : (Instr.storeAt ty p v).run P w = .ok () w') (h : K (a.put o.dst undef) w') : o.wp P a w K Q := by
  unfold Oper.wp execOp
  simp only [ho, hx, hy, Sem.run_bind, Sem.run_pure, Result.andThen_ok, hl]
  exact h
set_option maxRecDepth 100000 in
set_option maxHeartbeats 2000000 in
theorem sum_table.calls (w : World) :
    Calls Tryz.prog 218 #[] w fun e w' => e = .returned (.agg (tabV (tabL 256))) ∧ Below w.heap.size w w' := by
  go_enter Tryz.func218, Tryz.ntmps218
  go_wp2
  go_loopw [3] (fun i wr => ∃ (k : Nat), k ≤ 256 ∧ i = .int .i64 k ∧ Aside0 (Block wr (w.heap.size + 1) 324 (tabV (tabL k))) ∧ Aside0 (Block wr w.heap.size 324 (tabV (tabL 0))) ∧ Aside0 (Below w.heap.size w wr)) (fun i _ => 256 - (intOf i).toNat)
  case atStart => exact ⟨0, by omega, rfl, ⟨by rw [tab_zero]; unfold Block; rw [← World.alloc_heap_new (w.alloc (.cells (tabV (tabL 0)) 324)) (.cells (tabV (tabL 0)) 324)]; simp⟩, ⟨by rw [tab_zero]; unfold Block; refine (Below.block (below_alloc (Below.refl _ _) _) w.heap.size (by simp)).trans (World.alloc_heap_new w _)⟩, ⟨below_alloc (below_alloc (Below.refl _ _) _) _⟩⟩
  case round =>
    obtain ⟨k, h0, rfl, HX, HY, HB⟩ := hrel
    by_cases hx : k < 256
    · go_wp2_with (first | (go_at_call 236; refine (sum_step.calls (k : Int) _ _ rfl).mono ?_; rintro e w1 ⟨rfl, hb1⟩; have n0_ := Aside0.mk (HX.out.below hb1 HX.out.lt); have n1_ := Aside0.mk (HY.out.below hb1 HY.out.lt); have n2_ := Aside0.mk (below_step HB.out hb1); clear HX HY HB hb1; have HX := n0_; have HY := n1_; have HB := n2_; clear n0_ n1_ n2_; have hc := HX.out.cell k (by rw [tabV_size k h0]; exact hx); have hf := HX.out.frozen k))
      refine ⟨⟨k + 1, by omega, by go_num, ⟨?_⟩, ⟨HY.out.other _ _ (by omega)⟩, ⟨below_set HB.out (by omega)⟩⟩, by simp [intOf]; omega⟩
      rw [← tabV_set k hx]
      exact HX.out.set k _
    · have hk : k = 256 := by omega
      subst hk
      have ht := tabV_size 256 h0
      have h1 : (tabV (tabL 256)).all (·.oneCell') = true := by simp [tabV, Value.oneCell']
      obtain ⟨T, hT⟩ : ∃ T, T = tabV (tabL 256) := ⟨_, rfl⟩
      rw [← hT] at HX ht h1
      have HT := Aside0.mk hT
      clear hT
      have h0z := tabV_size 0 (by omega)
      generalize tabV (tabL 0) = Z at HY h0z
      have hl : (Instr.loadAt 324 (.pointer (some ⟨w.heap.size + 1, 0, none⟩))).run Tryz.prog wr = .ok (.agg T) wr := by
        simp only [Instr.loadAt, Instr.sureAddr, Sem.run_bind, Sem.run_pure, Result.andThen]
        exact run_loadVar_row _ _ 324 324 T (0, 0) (.array 256 156) HX.out (by kernel_rfl) rfl (by rw [ht]; kernel_rfl)
      have hs : (Instr.storeAt 324 (.pointer (some ⟨w.heap.size, 0, none⟩)) (.agg T)).run Tryz.prog wr = .ok () (wr.setRow w.heap.size T) := by
        simp only [Instr.storeAt, Instr.sureAddr, Sem.run_bind, Sem.run_pure, Result.andThen]
        rw [run_storeVar_row _ _ 324 324 Z T HY.out (by rw [ht]; kernel_rfl) (by omega) h1]
      have HL := Aside0.mk hl
      have HS := Aside0.mk hs
      clear hl hs
      go_wp2
      refine wp_load_of 324 (.tmp 1) _ _ rfl rfl HL.out ?_
      apply_assumption
      refine wpList_plain rfl fun _ hK => wp_store_of 324 (.tmp 0) (.tmp 12) _ _ rfl rfl rfl HS.out (hK _ _ ?_)
      have hy2 : (wr.setRow w.heap.size T).heap[w.heap.size]? = some (.cells T 324 (0, 0)) := by
        obtain ⟨hlt, hk⟩ := Array.getElem?_eq_some_iff.1 HY.out
        show (wr.heap.modify w.heap.size _)[w.heap.size]? = _
        rw [Array.getElem?_eq_getElem (by rw [Array.size_modify]; exact hlt), Array.getElem_modify_self, hk]
      have hl2 := run_loadVar_row (P := Tryz.prog) _ _ 324 324 T (0, 0) (.array 256 156) hy2 (by kernel_rfl) rfl (by rw [ht]; kernel_rfl)
      have hb2 : Below w.heap.size w (wr.setRow w.heap.size T) := HB.out.trans ⟨rfl, rfl, rfl, by simp [World.setRow], fun k hk => by
        show (wr.heap.modify w.heap.size _)[k]? = _
        rw [Array.getElem?_modify, if_neg (by omega)]⟩
      have HL2 := Aside0.mk hl2
      have HB2 := Aside0.mk hb2
      clear hy2 hl2 hb2
      go_wp2
      refine bodyPost_ret (v := .agg T) ?_ rfl ?_
      · simp [results, Act.put, asAddr, HL2.out]
      · exact ⟨by rw [HT.out], HB2.out⟩
set_option maxRecDepth 100000 in
set_option maxHeartbeats 2000000 in
theorem sum_More.calls (a0 : Int) (a1 : ByteArray) (r : Int) (w : World) (h : sum_More.f a0 a1 = some r) :
    Calls Tryz.prog 181 #[.int .u32 a0, .string a1] w fun e w' => e = .returned (.int .u32 r) ∧ Below w.heap.size w w' := by
  go_enter Tryz.func181, Tryz.ntmps181
  have ht := tabV_size 256 (Nat.le_refl _)
  have h1 : (tabV (tabL 256)).all (·.oneCell') = true := by simp [tabV, Value.oneCell']
  obtain ⟨T, hT⟩ : ∃ T, T = tabV (tabL 256) := ⟨_, rfl⟩
  rw [← hT] at ht h1
  have HT := Aside0.mk hT
  clear hT
  have hsz : a1.size ≤ 1000000000 := by
    unfold sum_More.f at h
    split at h
    · assumption
    · cases h
  have HH := Aside0.mk h
  clear h
  have hz : Tryz.zeroCells324.size = T.size := by rw [ht]; kernel_rfl
  have hi : (Tryz.prog.info? 324).map (·.size) = some T.size := by rw [ht]; kernel_rfl
  have H1 := Aside0.mk h1
  have HI := Aside0.mk hi
  have HZ := Aside0.mk hz
  clear h1 hi hz
  go_wp2_with (first | (go_at_call 218; refine (sum_table.calls _).mono ?_; rintro e w1 ⟨rfl, hb1⟩; have HB := Aside0.mk hb1; clear hb1; rw [← HT.out]; have hst := run_storeCells_new (P := Tryz.prog) w1 324 Tryz.zeroCells324 T HI.out HZ.out H1.out))
  go_loopw [6, 13] (fun v i wr => ∃ (k : Nat), k ≤ a1.size ∧ i = .int .i64 k ∧ v = .int .u32 (crcAt a1 (notI a0) k) ∧ Aside0 (Block wr w1.heap.size 324 T) ∧ Aside0 (Below w.heap.size w wr)) (fun _ i _ => a1.size - (intOf i).toNat)
  case atStart => exact ⟨0, by omega, rfl, rfl, ⟨World.alloc_heap_new w1 _⟩, ⟨below_alloc HB.out _⟩⟩
  case round =>
    obtain ⟨k, h0, rfl, rfl, HX, HB⟩ := hrel
    by_cases hx : k < a1.size
    · have hb : (((a1[k]'hx).toNat : Nat) : Int) = bt a1 (k : Int) := by
        have := bt_at a1 (k : Int) (by simpa using hx)
        simpa using this
      have hst : crcAt a1 (notI a0) (k + 1) = crcI (crcAt a1 (notI a0) k) (((a1[k]'hx).toNat : Nat) : Int) := by rw [hb]; rfl
      have HS := Aside0.mk hst
      clear hst hb
      have hi1 := bits_hi_u8 .xor (crcAt a1 (notI a0) k % 256) (((a1[k]'hx).toNat : Nat) : Int)
      have hi0 : 0 ≤ Go.bits .xor .u8 (crcAt a1 (notI a0) k % 256) (((a1[k]'hx).toNat : Nat) : Int) := by have := (bits_within .xor .u8 (crcAt a1 (notI a0) k % 256) (((a1[k]'hx).toNat : Nat) : Int)).1; simpa [IntKind.min, IntKind.signed] using this
      have hc : wr.cell? ⟨w1.heap.size, (Go.bits .xor .u8 (crcAt a1 (notI a0) k % 256) (((a1[k]'hx).toNat : Nat) : Int)).toNat, none⟩ = some (.int .u32 ((tabL 256).getD (Go.bits .xor .u8 (crcAt a1 (notI a0) k % 256) (((a1[k]'hx).toNat : Nat) : Int)).toNat 0)) := by
        generalize Go.bits .xor .u8 (crcAt a1 (notI a0) k % 256) (((a1[k]'hx).toNat : Nat) : Int) = z at hi1 hi0
        have hzt : z.toNat < 256 := by omega
        rw [HX.out.cell z.toNat (by rw [ht]; exact hzt)]
        have h256 := tabL_length 256 (Nat.le_refl _)
        simp only [HT.out, tabV]
        rw [List.getElem_toArray, List.getElem_map, List.getD_eq_getElem?_getD, List.getElem?_eq_getElem (by rw [h256]; exact hzt)]
        rfl
      have hw : wrap64 ((k : Int) + 1) = (k : Int) + 1 := IntWalk.wrap64_in _ (by omega)
      go_wp2
      go_roundw
      case rel => exact ⟨k + 1, by omega, by first | rfl | go_num, by rw [HS.out]; rfl, HX, HB⟩
      case measure => simp [intOf]; omega
    · have hk : k = a1.size := by omega
      subst hk
      have e : notI (crcAt a1 (notI a0) a1.size) = r := by
        have := HH.out
        unfold sum_More.f at this
        rw [if_pos hsz] at this
        exact Option.some.inj this
      subst e
      go_wp2
      go_ret
      exact ⟨rfl, HB.out⟩


end Go.Proofs.YtmheajenlhlbhaaGreatDoor.X


namespace Go.Proofs.YtmheajenlhlbhaaGreatDoor.X
open Go.RowKit Go.Proofs.YtmheajenlhlbhaaGreatDoorW.PrintWords Go.Proofs.YtmheajenlhlbhaaGreatDoorW.PrintLast Go.Proofs.YtmheajenlhlbhaaGreatDoorW.PrintMore
attribute [local go_sem] max2_int min2_int max_two min_two max_three min_three max_four min_four   -- for this text's walks alone
set_option linter.unusedVariables false
set_option linter.unusedSimpArgs false

theorem is_typeOf (v : Value) (w : World) : (Extern.ReflectliteType.typeOf #[.iface 25 v]).run Tryz.prog w = .ok (.iface 242 (.agg #[.pointer (some ⟨2, 25, none⟩)])) w := by kernel_rfl
theorem run_comparable (w : World) : (callFunc 270 #[.agg #[.pointer (some ⟨2, 25, none⟩)]]).run Tryz.prog w = .ok (.value (.bool true)) w := by kernel_rfl
theorem is_methodComparable (d : Nat) (v : Value) (w : World) : (Go.method (d + 1) 242 v "Comparable").run Tryz.prog w = .ok (270, v) w := by kernel_rfl
theorem is_methodUnwrap (d : Nat) (v : Value) (w : World) : (Go.method (d + 1) 231 v "Unwrap").run Tryz.prog w = .ok (267, v) w := by kernel_rfl
theorem is_comp : (Tryz.prog.info? 25).map (·.comparable) = some true := by kernel_rfl
theorem noIs_str (v : Value) (xT : TypeId) (w : World) : (Instr.typeAssert (.iface 259 v) xT 335 true).run Tryz.prog w = .ok (.tuple #[.nilIface, .bool false]) w := run_typeAssert_lacksB Tryz.underlying335 (by kernel_rfl) (by kernel_rfl) v xT w
theorem noIs_no (v : Value) (xT : TypeId) (w : World) : (Instr.typeAssert (.iface 25 v) xT 335 true).run Tryz.prog w = .ok (.tuple #[.nilIface, .bool false]) w := run_typeAssert_lacksB Tryz.underlying335 (by kernel_rfl) (by kernel_rfl) v xT w
theorem noIs_join (v : Value) (xT : TypeId) (w : World) : (Instr.typeAssert (.iface 231 v) xT 335 true).run Tryz.prog w = .ok (.tuple #[.nilIface, .bool false]) w := run_typeAssert_lacksB Tryz.underlying335 (by kernel_rfl) (by kernel_rfl) v xT w
theorem noUn_str (v : Value) (xT : TypeId) (w : World) : (Instr.typeAssert (.iface 259 v) xT 250 true).run Tryz.prog w = .ok (.tuple #[.nilIface, .bool false]) w := run_typeAssert_lacksB Tryz.underlying250 (by kernel_rfl) (by kernel_rfl) v xT w
theorem noUn_no (v : Value) (xT : TypeId) (w : World) : (Instr.typeAssert (.iface 25 v) xT 250 true).run Tryz.prog w = .ok (.tuple #[.nilIface, .bool false]) w := run_typeAssert_lacksB Tryz.underlying250 (by kernel_rfl) (by kernel_rfl) v xT w
theorem noUn_join (v : Value) (xT : TypeId) (w : World) : (Instr.typeAssert (.iface 231 v) xT 250 true).run Tryz.prog w = .ok (.tuple #[.nilIface, .bool false]) w := run_typeAssert_lacksB Tryz.underlying250 (by kernel_rfl) (by kernel_rfl) v xT w
theorem noUs_str (v : Value) (xT : TypeId) (w : World) : (Instr.typeAssert (.iface 259 v) xT 252 true).run Tryz.prog w = .ok (.tuple #[.nilIface, .bool false]) w := run_typeAssert_lacksB Tryz.underlying252 (by kernel_rfl) (by kernel_rfl) v xT w
theorem noUs_no (v : Value) (xT : TypeId) (w : World) : (Instr.typeAssert (.iface 25 v) xT 252 true).run Tryz.prog w = .ok (.tuple #[.nilIface, .bool false]) w := run_typeAssert_lacksB Tryz.underlying252 (by kernel_rfl) (by kernel_rfl) v xT w
theorem hasUs_join (v : Value) (xT : TypeId) (w : World) : (Instr.typeAssert (.iface 231 v) xT 252 true).run Tryz.prog w = .ok (.tuple #[.iface 231 v, .bool true]) w := run_typeAssert_hasB Tryz.underlying252 (by kernel_rfl) v xT w
theorem eql_str_no (x y : Value) (w : World) : (binOp .eql 86 (.iface 259 x) (.iface 25 y)).run Tryz.prog w = .ok (.bool false) w := run_eql_iface_types (P := Tryz.prog) _ _ x y Tryz.underlying86 (by decide) w
theorem eql_join_no (x y : Value) (w : World) : (binOp .eql 86 (.iface 231 x) (.iface 25 y)).run Tryz.prog w = .ok (.bool false) w := run_eql_iface_types (P := Tryz.prog) _ _ x y Tryz.underlying86 (by decide) w
theorem eql_no_no (a b : Int) (w : World) : (binOp .eql 86 (.iface 25 (.int .i64 a)) (.iface 25 (.int .i64 b))).run Tryz.prog w = .ok (.bool (a == b)) w := Lib.run_eql_iface_int w a b Tryz.underlying86 is_comp Tryz.underlying25
theorem is_str (v : Value) (t : Int) (w : World) :
    Calls Tryz.prog 216 #[.iface 259 v, .iface 25 (.int .i64 t), .bool true] w fun e w' => e = .returned (.bool false) ∧ w' = w := by
  have h1 := noIs_str
  have h2 := noUn_str
  have h3 := noUs_str
  have h4 := eql_str_no
  go_enter Tryz.func216, Tryz.ntmps216
  go_wp2
  refine wp_loop_rounds 1 ?_
  rw [rounds_succ]
  go_wp2
  go_ret
  exact ⟨rfl, rfl⟩
theorem is_no_same (t : Int) (w : World) :
    Calls Tryz.prog 216 #[.iface 25 (.int .i64 t), .iface 25 (.int .i64 t), .bool true] w fun e w' => e = .returned (.bool true) ∧ w' = w := by
  have h4 := eql_no_no t t
  have h5 : (t == t) = true := by simp
  rw [h5] at h4
  clear h5
  go_enter Tryz.func216, Tryz.ntmps216
  go_wp2
  refine wp_loop_rounds 1 ?_
  rw [rounds_succ]
  go_wp2
  go_ret
  exact ⟨rfl, rfl⟩
theorem is_no_other (a t : Int) (w : World) (h : a ≠ t) :
    Calls Tryz.prog 216 #[.iface 25 (.int .i64 a), .iface 25 (.int .i64 t), .bool true] w fun e w' => e = .returned (.bool false) ∧ w' = w := by
  have h4 := eql_no_no a t
  have h5 : (a == t) = false := by simpa using h
  rw [h5] at h4
  clear h5 h
  have h1 := noIs_no
  have h2 := noUn_no
  have h3 := noUs_no
  go_enter Tryz.func216, Tryz.ntmps216
  go_wp2
  refine wp_loop_rounds 1 ?_
  rw [rounds_succ]
  go_wp2
  go_ret
  exact ⟨rfl, rfl⟩
theorem is_no (a t : Int) (w : World) :
    Calls Tryz.prog 216 #[.iface 25 (.int .i64 a), .iface 25 (.int .i64 t), .bool true] w fun e w' => e = .returned (.bool (a == t)) ∧ w' = w := by
  by_cases h : a = t
  · subst h
    rw [show (a == a) = true by simp]
    exact is_no_same a w
  · rw [show (a == t) = false by simpa using h]
    exact is_no_other a t w h
theorem join_unwrap (p : Addr) (v : Value) (w : World) (h : w.cell? p = some v) :
    Calls Tryz.prog 267 #[.pointer (some p)] w fun e w' => e = .returned v ∧ w' = w := by
  obtain ⟨b, o, s⟩ := p
  go_enter Tryz.func267, Tryz.ntmps267
  go_wp2
  go_ret
  exact ⟨rfl, rfl⟩
structure JoinOf (w : World) (v : Value) (a : Int) : Prop where
  is : ∃ (p : Addr) (R : Nat) (c : Nat) (s : Value), v = .iface 231 (.pointer (some p)) ∧ 2 ≤ c ∧ w.cell? p = some (.slice (some ⟨R, 0, none⟩) 2 c) ∧ w.cell? ⟨R, 0, none⟩ = some (.iface 259 s) ∧ w.cell? ⟨R, 1, none⟩ = some (.iface 25 (.int .i64 a))
theorem JoinOf.below {w w' : World} {v : Value} {a : Int} (h : JoinOf w v a) (hb : Below w.heap.size w w') : JoinOf w' v a := by
  obtain ⟨p, R, c, s, h1, hc, h2, h3, h4⟩ := h.is
  exact ⟨p, R, c, s, h1, hc, (hb.cell (World.block_lt_of_cell? w _ h2)).trans h2, (hb.cell (World.block_lt_of_cell? w _ h3)).trans h3, (hb.cell (World.block_lt_of_cell? w _ h4)).trans h4⟩
set_option maxHeartbeats 1000000 in
theorem is_join (v : Value) (a t : Int) (w : World) (h : JoinOf w v a) :
    Calls Tryz.prog 216 #[v, .iface 25 (.int .i64 t), .bool true] w fun e w' => e = .returned (.bool (a == t)) ∧ w' = w := by
  obtain ⟨p, R, c, s, rfl, hcap, hp, h0, h1⟩ := h.is
  clear h
  have n1 := noIs_join
  have n2 := noUn_join
  have n3 := hasUs_join
  have n4 := eql_join_no
  have n5 := is_methodUnwrap
  have HP := Aside0.mk hp
  clear hp
  obtain ⟨q, hq⟩ : ∃ q, (a == t) = q := ⟨_, rfl⟩
  have HQ := Aside0.mk hq
  rw [hq]
  clear hq
  cases q
  all_goals
    go_enter Tryz.func216, Tryz.ntmps216
    go_wp2
    refine wp_loop_rounds 1 ?_
    rw [rounds_succ]
    go_wp2_with (first | (go_at_call 267; refine (join_unwrap p _ _ HP.out).mono ?_; rintro e w' ⟨rfl, rfl⟩))
    refine wp_loop_rounds 3 ?_
    rw [rounds_succ]
    go_wp2_with (first | (go_at_call 216; refine (is_str s t _).mono ?_; rintro e w' ⟨rfl, rfl⟩))
    rw [rounds_succ]
    go_wp2_with (first | (go_at_call 216; refine (is_no a t _).mono ?_; rintro e w' ⟨rfl, rfl⟩; rw [HQ.out]))
    try rw [rounds_succ]
    try go_wp2
    go_ret
    exact ⟨rfl, rfl⟩
theorem Is_nil (t : Int) (w : World) :
    Calls Tryz.prog 178 #[.nilIface, .iface 25 (.int .i64 t)] w fun e w' => e = .returned (.bool false) ∧ w' = w := by
  have hn := run_eql_iface_nil_left (P := Tryz.prog) w 25 (.int .i64 t) Tryz.underlying86
  go_enter Tryz.func178, Tryz.ntmps178
  go_wp2
  go_ret
  exact ⟨rfl, rfl⟩
set_option maxHeartbeats 1000000 in
theorem Is_join (v : Value) (a t : Int) (w : World) (h : JoinOf w v a) :
    Calls Tryz.prog 178 #[v, .iface 25 (.int .i64 t)] w fun e w' => e = .returned (.bool (a == t)) ∧ w' = w := by
  have HJ := Aside0.mk h
  obtain ⟨p, R, c, s, rfl, hcap, hp, h0, h1⟩ := h.is
  clear h hp h0 h1 hcap
  obtain ⟨q, hq⟩ : ∃ q, (a == t) = q := ⟨_, rfl⟩
  have HQ := Aside0.mk hq
  rw [hq]
  clear hq
  have h8 := @Go.run_callFunc_extern Tryz.prog 144 _ Extern.ReflectliteType.typeOf Tryz.func144 (by kernel_rfl) (by kernel_rfl) (by kernel_rfl) (by kernel_rfl)
  have h32 := run_comparable
  have tT := is_typeOf
  have mR := is_methodComparable
  go_enter Tryz.func178, Tryz.ntmps178
  go_wp2_with (first | (go_at_call 216; refine (is_join _ a t _ HJ.out).mono ?_; rintro e w' ⟨rfl, rfl⟩; rw [HQ.out]))
  go_ret
  exact ⟨rfl, rfl⟩


end Go.Proofs.YtmheajenlhlbhaaGreatDoor.X


namespace Go.Proofs.YtmheajenlhlbhaaGreatDoor.X
open Go.RowKit Go.Proofs.YtmheajenlhlbhaaGreatDoorW.PrintWords Go.Proofs.YtmheajenlhlbhaaGreatDoorW.PrintLast Go.Proofs.YtmheajenlhlbhaaGreatDoorW.PrintMore
attribute [local go_sem] max2_int min2_int max_two min_two max_three min_three max_four min_four   -- for this text's walks alone
set_option linter.unusedVariables false
set_option linter.unusedSimpArgs false

def GlobE (w : World) : Prop := w.cell? ⟨0, 0, none⟩ = some (.iface 242 (.agg #[(.pointer (some ⟨2, 86, none⟩))]))
theorem GlobE.below {w w' : World} (h : GlobE w) (hb : Below w.heap.size w w') : GlobE w' := (hb.cell (p := ⟨0, 0, none⟩) (World.block_lt_of_cell? w ⟨0, 0, none⟩ h)).trans h
theorem noAs_no (v : Value) (xT : TypeId) (w : World) : (Instr.typeAssert (.iface 25 v) xT 247 true).run Tryz.prog w = .ok (.tuple #[.nilIface, .bool false]) w := run_typeAssert_lacksB Tryz.underlying247 (by kernel_rfl) (by kernel_rfl) v xT w
theorem noAs_join (v : Value) (xT : TypeId) (w : World) : (Instr.typeAssert (.iface 231 v) xT 247 true).run Tryz.prog w = .ok (.tuple #[.nilIface, .bool false]) w := run_typeAssert_lacksB Tryz.underlying247 (by kernel_rfl) (by kernel_rfl) v xT w
theorem as_typeOf_no (v : Value) (w : World) : (Extern.ReflectliteType.typeOf #[.iface 25 v]).run Tryz.prog w = .ok (.iface 242 (.agg #[.pointer (some ⟨2, 25, none⟩)])) w := by kernel_rfl
theorem as_typeOf_join (v : Value) (w : World) : (Extern.ReflectliteType.typeOf #[.iface 231 v]).run Tryz.prog w = .ok (.iface 242 (.agg #[.pointer (some ⟨2, 231, none⟩)])) w := by kernel_rfl
theorem as_rlm (z : Sem Value) (f : TypeId → Addr → Nat → Nat → Sem Value) (v : Value) :
    Extern.ReflectliteValue.method z f #[v] = (do match ← Extern.ReflectliteValue.parts v with | none => z | some (t, a, fl) => f t a fl (fl % 32)) := rfl
theorem as_rls (v x : Value) : Extern.ReflectliteValue.set #[v, x] = (do
    let (some (dst, a, fl), some (src, b, _)) := (← Extern.ReflectliteValue.parts v, ← Extern.ReflectliteValue.parts x)
      | unsupported (.noEntry "extern/(internal/reflectlite.Value).Set.zeroValue")
    if fl / Extern.ReflectliteValue.flagAddr % 2 == 0 then unsupported (.noEntry "extern/(internal/reflectlite.Value).Set.unaddressable")
    let val ← loadVar src b
    if ← Extern.Rtype.directlyAssignable dst src then storeVar dst a val
    else if ← Extern.Rtype.implements dst src then
      if (← Extern.Rtype.kind src) == 20 then
        match val with
        | .nilIface => unsupported (.noEntry "extern/reflectlite: a nil value of one interface type handed on as a value of another")
        | _ => storeVar dst a val
      else storeVar dst a (.iface src val)
    else panicString ("reflectlite.Set: value of type " ++ (← Extern.Rtype.spelt src) ++ " is not assignable to type " ++ (← Extern.Rtype.spelt dst))
    pure (.tuple #[])) := rfl
theorem as_mKind (d : Nat) (h : Value) (w : World) : (Go.method (d + 1) 242 (.agg #[h]) "Kind").run Tryz.prog w = .ok (257, h) w := by kernel_rfl
theorem as_mElem (d : Nat) (h : Value) (w : World) : (Go.method (d + 1) 242 h "Elem").run Tryz.prog w = .ok (271, h) w := by kernel_rfl
theorem as_mImplements (d : Nat) (h : Value) (w : World) : (Go.method (d + 1) 242 h "Implements").run Tryz.prog w = .ok (272, h) w := by kernel_rfl
theorem as_mAssignableTo (d : Nat) (h : Value) (w : World) : (Go.method (d + 1) 242 h "AssignableTo").run Tryz.prog w = .ok (269, h) w := by kernel_rfl
theorem as_mUnwrap (d : Nat) (v : Value) (w : World) : (Go.method (d + 1) 231 v "Unwrap").run Tryz.prog w = .ok (267, v) w := by kernel_rfl
theorem as_valueOfP (t : Addr) (w : World) : (Extern.ReflectliteValue.unpack (.iface 92 (.pointer (some t)))).run Tryz.prog w = .ok (.agg #[.pointer (some ⟨2, 92, none⟩), .pointer (some ⟨w.heap.size, 0, none⟩), .int .u64 150]) (w.alloc (.cells #[.pointer (some t)] 92)) := by kernel_rfl
theorem as_valueOfT (s : ByteArray) (w : World) : (Extern.ReflectliteValue.unpack (.iface 90 (.agg #[.string s]))).run Tryz.prog w = .ok (.agg #[.pointer (some ⟨2, 90, none⟩), .pointer (some ⟨w.heap.size, 0, none⟩), .int .u64 153]) (w.alloc (.cells #[.string s] 90)) := by kernel_rfl
theorem as_typeP (a : Addr) (w : World) : (Extern.ReflectliteValue.methodAny (Extern.ReflectliteValue.valueError "reflectlite.Value.Type" 0) (fun t _ _ _ => Extern.ReflectliteType.toType t) #[.agg #[.pointer (some ⟨2, 92, none⟩), .pointer (some a), .int .u64 150]]).run Tryz.prog w = .ok (.iface 242 (.agg #[(.pointer (some ⟨2, 92, none⟩))])) w := by kernel_rfl
theorem as_kindP (w : World) : ((Extern.ReflectliteType.abiMethod fun t => (fun a : Nat => Value.int IntKind.u8 (a : Int)) <$> Extern.Rtype.kind t) #[(.pointer (some ⟨2, 92, none⟩))]).run Tryz.prog w = .ok (.int .u8 22) w := by kernel_rfl
theorem as_kindT (w : World) : ((Extern.ReflectliteType.abiMethod fun t => (fun a : Nat => Value.int IntKind.u8 (a : Int)) <$> Extern.Rtype.kind t) #[(.pointer (some ⟨2, 90, none⟩))]).run Tryz.prog w = .ok (.int .u8 25) w := by kernel_rfl
theorem as_partsP (a : Addr) (w : World) : (Extern.ReflectliteValue.parts (.agg #[.pointer (some ⟨2, 92, none⟩), .pointer (some a), .int .u64 150])).run Tryz.prog w = .ok (some (92, a, 150)) w := by kernel_rfl
theorem as_isNil (a q : Addr) (W : World) (ha : W.cell? a = some (.pointer (some q))) :
    (Extern.ReflectliteValue.method (Extern.ReflectliteValue.valueError "reflectlite.Value.IsNil" 0) Extern.ReflectliteValue.isNil #[.agg #[.pointer (some ⟨2, 92, none⟩), .pointer (some a), .int .u64 150]]).run Tryz.prog W = .ok (.bool false) W := by
  rw [as_rlm]
  simp only [Sem.run_bind, as_partsP, Result.andThen]
  simp [Extern.ReflectliteValue.isNil, loadVar, isAgg, underlying, Tryz.underlying92, ha, Result.andThen]
theorem as_elem (w : World) : (Extern.ReflectliteType.method Extern.ReflectliteType.elem #[.agg #[(.pointer (some ⟨2, 92, none⟩))]]).run Tryz.prog w = .ok (.iface 242 (.agg #[(.pointer (some ⟨2, 90, none⟩))])) w := by kernel_rfl
theorem as_implements (w : World) : (Extern.ReflectliteType.relation "Implements" Extern.ReflectliteType.implements_ #[.agg #[(.pointer (some ⟨2, 90, none⟩))], .iface 242 (.agg #[(.pointer (some ⟨2, 86, none⟩))])]).run Tryz.prog w = .ok (.bool true) w := by kernel_rfl
theorem as_typeOfT (v : Value) (w : World) : (Extern.ReflectliteType.typeOf #[.iface 90 v]).run Tryz.prog w = .ok (.iface 242 (.agg #[(.pointer (some ⟨2, 90, none⟩))])) w := by kernel_rfl
theorem as_assign_T (w : World) : (Extern.ReflectliteType.relation "AssignableTo" Extern.ReflectliteType.assignableTo #[.agg #[.pointer (some ⟨2, 90, none⟩)], .iface 242 (.agg #[(.pointer (some ⟨2, 90, none⟩))])]).run Tryz.prog w = .ok (.bool true) w := by kernel_rfl
theorem as_assign_no (w : World) : (Extern.ReflectliteType.relation "AssignableTo" Extern.ReflectliteType.assignableTo #[.agg #[.pointer (some ⟨2, 25, none⟩)], .iface 242 (.agg #[(.pointer (some ⟨2, 90, none⟩))])]).run Tryz.prog w = .ok (.bool false) w := by kernel_rfl
theorem as_assign_join (w : World) : (Extern.ReflectliteType.relation "AssignableTo" Extern.ReflectliteType.assignableTo #[.agg #[.pointer (some ⟨2, 231, none⟩)], .iface 242 (.agg #[(.pointer (some ⟨2, 90, none⟩))])]).run Tryz.prog w = .ok (.bool false) w := by kernel_rfl
theorem as_elemOf (w : World) : (Extern.Rtype.elem? 92).run Tryz.prog w = .ok (some 90) w := by kernel_rfl
theorem as_mk (q : Addr) (w : World) : (Extern.ReflectliteValue.mk 90 q Extern.ReflectliteValue.flagAddr).run Tryz.prog w = .ok (.agg #[.pointer (some ⟨2, 90, none⟩), .pointer (some q), .int .u64 409]) w := by kernel_rfl
theorem as_elemV (a q : Addr) (W : World) (ha : W.cell? a = some (.pointer (some q))) :
    (Extern.ReflectliteValue.method (Extern.ReflectliteValue.valueError "reflectlite.Value.Elem" 0) Extern.ReflectliteValue.elem #[.agg #[.pointer (some ⟨2, 92, none⟩), .pointer (some a), .int .u64 150]]).run Tryz.prog W = .ok (.agg #[.pointer (some ⟨2, 90, none⟩), .pointer (some q), .int .u64 409]) W := by
  rw [as_rlm]
  simp only [Sem.run_bind, as_partsP, Result.andThen]
  simp [Extern.ReflectliteValue.elem, loadVar, isAgg, underlying, Tryz.underlying92, ha, Result.andThen, as_elemOf, as_mk]
theorem as_partsTa (a : Addr) (w : World) : (Extern.ReflectliteValue.parts (.agg #[.pointer (some ⟨2, 90, none⟩), .pointer (some a), .int .u64 409])).run Tryz.prog w = .ok (some (90, a, 409)) w := by kernel_rfl
theorem as_partsT (a : Addr) (w : World) : (Extern.ReflectliteValue.parts (.agg #[.pointer (some ⟨2, 90, none⟩), .pointer (some a), .int .u64 153])).run Tryz.prog w = .ok (some (90, a, 153)) w := by kernel_rfl
theorem as_direct (w : World) : (Extern.Rtype.directlyAssignable 90 90).run Tryz.prog w = .ok true w := by kernel_rfl
theorem as_set (B C : Nat) (s : ByteArray) (x0 : Value) (W : World) (hb : Block W C 90 #[.string s]) (ht : Block W B 90 #[x0]) :
    (Extern.ReflectliteValue.set #[.agg #[.pointer (some ⟨2, 90, none⟩), .pointer (some ⟨B, 0, none⟩), .int .u64 409], .agg #[.pointer (some ⟨2, 90, none⟩), .pointer (some ⟨C, 0, none⟩), .int .u64 153]]).run Tryz.prog W = .ok (.tuple #[]) (W.setRow B #[.string s]) := by
  have hl := run_loadVar_row (P := Tryz.prog) W C 90 90 #[.string s] (0, 0) _ hb Tryz.underlying90 rfl (by kernel_rfl)
  have hs := run_storeVar_row (P := Tryz.prog) W B 90 90 #[x0] #[.string s] ht (by kernel_rfl) (by simp) (by simp [Value.oneCell'])
  rw [as_rls]
  simp only [Sem.run_bind, as_partsTa, as_partsT, Result.andThen]
  simp [Extern.ReflectliteValue.flagAddr, hl, Result.andThen, as_direct, hs]
theorem setRow_block {W : World} {B : Nat} {t : TypeId} {a : Array Value} (h : Block W B t a) (cs : Array Value) : Block (W.setRow B cs) B t cs := by
  obtain ⟨hlt, hk⟩ := Array.getElem?_eq_some_iff.1 h
  show (W.heap.modify B _)[B]? = _
  rw [Array.getElem?_eq_getElem (by rw [Array.size_modify]; exact hlt), Array.getElem_modify_self, hk]
theorem setRow_size (W : World) (B : Nat) (cs : Array Value) : (W.setRow B cs).heap.size = W.heap.size := by simp [World.setRow]
theorem setRow_other (W : World) (B : Nat) (cs : Array Value) (k : Nat) (h : k ≠ B) : (W.setRow B cs).heap[k]? = W.heap[k]? := by
  show (W.heap.modify B _)[k]? = _
  rw [Array.getElem?_modify, if_neg (fun e => h e.symm)]
set_option maxHeartbeats 1000000 in
theorem as_no (v : Value) (B a : Nat) (w : World) :
    Calls Tryz.prog 94 #[.iface 25 v, .iface 92 (.pointer (some ⟨B, 0, none⟩)), .agg #[.pointer (some ⟨2, 92, none⟩), .pointer (some ⟨a, 0, none⟩), .int .u64 150], .iface 242 (.agg #[(.pointer (some ⟨2, 90, none⟩))])] w fun e w' => e = .returned (.bool false) ∧ Below w.heap.size w w' := by
  have hto := @Go.run_callFunc_extern Tryz.prog 144 _ Extern.ReflectliteType.typeOf Tryz.func144 (by kernel_rfl) (by kernel_rfl) (by kernel_rfl) (by kernel_rfl)
  have has := @Go.run_callFunc_extern Tryz.prog 269 _ (Extern.ReflectliteType.relation "AssignableTo" Extern.ReflectliteType.assignableTo) Tryz.func269 (by kernel_rfl) (by kernel_rfl) (by kernel_rfl) (by kernel_rfl)
  have g1 := as_typeOf_no
  have g2 := as_mAssignableTo
  have g3 := as_assign_no
  have g4 := noAs_no
  have g5 := noUn_no
  have g6 := noUs_no
  go_enter Tryz.func94, Tryz.ntmps94
  go_wp2
  refine wp_loop_rounds 1 ?_
  rw [rounds_succ]
  go_wp2
  go_ret
  exact ⟨rfl, below_alloc (Below.refl _ _) _⟩
set_option maxHeartbeats 1000000 in
theorem as_hit (s : ByteArray) (x0 : Value) (B a : Nat) (w : World) (ha : w.cell? ⟨a, 0, none⟩ = some (.pointer (some ⟨B, 0, none⟩))) (hB : Block w B 90 #[x0]) :
    Calls Tryz.prog 94 #[.iface 90 (.agg #[.string s]), .iface 92 (.pointer (some ⟨B, 0, none⟩)), .agg #[.pointer (some ⟨2, 92, none⟩), .pointer (some ⟨a, 0, none⟩), .int .u64 150], .iface 242 (.agg #[(.pointer (some ⟨2, 90, none⟩))])] w fun e w' => e = .returned (.bool true) ∧ Block w' B 90 #[.string s] ∧ Kept w.heap.size (· = B) w w' := by
  have hvo := @Go.run_callFunc_extern Tryz.prog 91 _ (fun args => Extern.ReflectliteValue.unpack (args.getD 0 (.tuple #[]))) Tryz.func91 (by kernel_rfl) (by kernel_rfl) (by kernel_rfl) (by kernel_rfl)
  have hto := @Go.run_callFunc_extern Tryz.prog 144 _ Extern.ReflectliteType.typeOf Tryz.func144 (by kernel_rfl) (by kernel_rfl) (by kernel_rfl) (by kernel_rfl)
  have has := @Go.run_callFunc_extern Tryz.prog 269 _ (Extern.ReflectliteType.relation "AssignableTo" Extern.ReflectliteType.assignableTo) Tryz.func269 (by kernel_rfl) (by kernel_rfl) (by kernel_rfl) (by kernel_rfl)
  have hve := @Go.run_callFunc_extern Tryz.prog 145 _ (Extern.ReflectliteValue.method (Extern.ReflectliteValue.valueError "reflectlite.Value.Elem" 0) Extern.ReflectliteValue.elem) Tryz.func145 (by kernel_rfl) (by kernel_rfl) (by kernel_rfl) (by kernel_rfl)
  have hse := @Go.run_callFunc_extern Tryz.prog 146 _ Extern.ReflectliteValue.set Tryz.func146 (by kernel_rfl) (by kernel_rfl) (by kernel_rfl) (by kernel_rfl)
  have g1 := as_typeOfT
  have g2 := as_mAssignableTo
  have g3 := as_assign_T
  have g4 := as_valueOfT s
  have hlt := hB.lt
  have hal : a < w.heap.size := World.block_lt_of_cell? w ⟨a, 0, none⟩ ha
  have hb1 := below_alloc (Below.refl w.heap.size w) (.cells #[.pointer (some ⟨2, 92, none⟩), .pointer (some ⟨a, 0, none⟩), .int .u64 150] 171)
  have hB1 := hB.below (below_alloc hb1 (.cells #[.string s] 90)) hlt
  have g5 := as_elemV ⟨a, 0, none⟩ ⟨B, 0, none⟩ (w.alloc (.cells #[.pointer (some ⟨2, 92, none⟩), .pointer (some ⟨a, 0, none⟩), .int .u64 150] 171)) ((hb1.cell (p := ⟨a, 0, none⟩) hal).trans ha)
  have g6 := as_set B (w.heap.size + 1) s x0 _ (by have := World.alloc_heap_new (w.alloc (.cells #[.pointer (some ⟨2, 92, none⟩), .pointer (some ⟨a, 0, none⟩), .int .u64 150] 171)) (.cells #[.string s] 90); rw [World.size_alloc] at this; exact this) hB1
  have HB1 := Aside0.mk hB1
  have HK := Aside0.mk (Kept.of_below (S := (· = B)) (below_alloc hb1 (.cells #[.string s] 90)))
  clear hB1 hb1 ha hB
  go_enter Tryz.func94, Tryz.ntmps94
  go_wp2
  refine wp_loop_rounds 1 ?_
  rw [rounds_succ]
  go_wp2
  go_ret
  refine ⟨rfl, setRow_block HB1.out _, ⟨HK.out.os, HK.out.tape, HK.out.output, by have := HK.out.size; rw [setRow_size]; exact this, fun k hk hs => ?_⟩⟩
  rw [setRow_other _ _ _ _ hs]
  exact HK.out.block k hk hs
structure JoinA (w : World) (v : Value) (s : ByteArray) : Prop where
  is : ∃ (p : Addr) (R : Nat) (c : Nat) (x : Value), v = .iface 231 (.pointer (some p)) ∧ 2 ≤ c ∧ w.cell? p = some (.slice (some ⟨R, 0, none⟩) 2 c) ∧ w.cell? ⟨R, 0, none⟩ = some (.iface 25 x) ∧ w.cell? ⟨R, 1, none⟩ = some (.iface 90 (.agg #[.string s]))
theorem JoinA.below {w w' : World} {v : Value} {s : ByteArray} (h : JoinA w v s) (hb : Below w.heap.size w w') : JoinA w' v s := by
  obtain ⟨p, R, c, s, h1, hc, h2, h3, h4⟩ := h.is
  exact ⟨p, R, c, s, h1, hc, (hb.cell (World.block_lt_of_cell? w _ h2)).trans h2, (hb.cell (World.block_lt_of_cell? w _ h3)).trans h3, (hb.cell (World.block_lt_of_cell? w _ h4)).trans h4⟩
set_option maxHeartbeats 2000000 in
theorem as_join (v : Value) (s : ByteArray) (x0 : Value) (B a : Nat) (w : World) (ha : w.cell? ⟨a, 0, none⟩ = some (.pointer (some ⟨B, 0, none⟩))) (hB : Block w B 90 #[x0]) (hv : JoinA w v s) :
    Calls Tryz.prog 94 #[v, .iface 92 (.pointer (some ⟨B, 0, none⟩)), .agg #[.pointer (some ⟨2, 92, none⟩), .pointer (some ⟨a, 0, none⟩), .int .u64 150], .iface 242 (.agg #[(.pointer (some ⟨2, 90, none⟩))])] w fun e w' => e = .returned (.bool true) ∧ Block w' B 90 #[.string s] ∧ Kept w.heap.size (· = B) w w' := by
  obtain ⟨p, R, c, x, rfl, hcap, hp, h0, h1⟩ := hv.is
  have hto := @Go.run_callFunc_extern Tryz.prog 144 _ Extern.ReflectliteType.typeOf Tryz.func144 (by kernel_rfl) (by kernel_rfl) (by kernel_rfl) (by kernel_rfl)
  have has := @Go.run_callFunc_extern Tryz.prog 269 _ (Extern.ReflectliteType.relation "AssignableTo" Extern.ReflectliteType.assignableTo) Tryz.func269 (by kernel_rfl) (by kernel_rfl) (by kernel_rfl) (by kernel_rfl)
  have g1 := as_typeOf_join
  have g2 := as_mAssignableTo
  have g3 := as_assign_join
  have g4 := noAs_join
  have g5 := noUn_join
  have g6 := hasUs_join
  have g7 := as_mUnwrap
  have hlt := hB.lt
  have hal : a < w.heap.size := World.block_lt_of_cell? w ⟨a, 0, none⟩ ha
  have hpl : p.block < w.heap.size := World.block_lt_of_cell? w p hp
  have hRl : R < w.heap.size := World.block_lt_of_cell? w ⟨R, 0, none⟩ h0
  have hb1 := below_alloc (Below.refl w.heap.size w) (.cells #[.pointer (some ⟨2, 92, none⟩), .pointer (some ⟨a, 0, none⟩), .int .u64 150] 171)
  have hX := World.alloc_heap_new w (.cells #[.pointer (some ⟨2, 92, none⟩), .pointer (some ⟨a, 0, none⟩), .int .u64 150] 171)
  have hP := (hb1.cell (p := p) hpl).trans hp
  have hb1' := Aside0.mk hb1
  have HX : Aside0 (Block (w.alloc (.cells #[.pointer (some ⟨2, 92, none⟩), .pointer (some ⟨a, 0, none⟩), .int .u64 150] 171)) w.heap.size 171 #[.pointer (some ⟨2, 92, none⟩), .pointer (some ⟨a, 0, none⟩), .int .u64 150]) := ⟨hX⟩
  have HP := Aside0.mk hP
  have H0 := Aside0.mk h0
  have H1 := Aside0.mk h1
  have HA := Aside0.mk ha
  have HBk := Aside0.mk hB
  clear hb1 hX hP hp h0 h1 ha hB hv
  have c0 := (hb1'.out.cell (p := ⟨R, 0, none⟩) hRl).trans H0.out
  go_enter Tryz.func94, Tryz.ntmps94
  go_wp2
  refine wp_loop_rounds 1 ?_
  rw [rounds_succ]
  go_wp2_with (first | (go_at_call 267; refine (join_unwrap p _ _ HP.out).mono ?_; rintro e w' ⟨rfl, rfl⟩))
  refine wp_loop_rounds 2 ?_
  rw [rounds_succ]
  go_wp2_with (first | (go_at_call 94; refine (as_no x B a _).mono ?_; rintro e w2 ⟨rfl, h2⟩; have HW2 := Aside0.mk (below_step hb1'.out h2); have HX2 := Aside0.mk (HX.out.below h2 HX.out.lt); clear h2; have c1 := (HW2.out.cell (p := ⟨R, 1, none⟩) hRl).trans H1.out; have xx0 := HX2.out.cell 0 (by simp); have xx1 := HX2.out.cell 1 (by simp); have xx2 := HX2.out.cell 2 (by simp); have HA2 := Aside0.mk ((HW2.out.cell (p := ⟨a, 0, none⟩) hal).trans HA.out); have HB2 := Aside0.mk (HBk.out.below HW2.out hlt)))
  rw [rounds_succ]
  go_wp2_with (first | (go_at_call 94; refine (as_hit s x0 B a _ HA2.out HB2.out).mono ?_; rintro e w3 ⟨rfl, h3, k3⟩; have H3 := Aside0.mk h3; have K3 := Aside0.mk ((Kept.of_below HW2.out).trans (k3.mono HW2.out.size (fun _ h => h))); clear h3 k3))
  try rw [rounds_succ]
  try go_wp2
  go_ret
  exact ⟨rfl, H3.out, K3.out⟩
theorem As_nil (B : Nat) (w : World) :
    Calls Tryz.prog 41 #[.nilIface, .iface 92 (.pointer (some ⟨B, 0, none⟩))] w fun e w' => e = .returned (.bool false) ∧ w' = w := by
  go_enter Tryz.func41, Tryz.ntmps41
  go_wp2
  go_ret
  exact ⟨rfl, rfl⟩
set_option maxHeartbeats 1000000 in
theorem As_hit (s : ByteArray) (x0 : Value) (B : Nat) (w : World) (hg : GlobE w) (hB : Block w B 90 #[x0]) :
    Calls Tryz.prog 41 #[.iface 90 (.agg #[.string s]), .iface 92 (.pointer (some ⟨B, 0, none⟩))] w fun e w' => e = .returned (.bool true) ∧ Block w' B 90 #[.string s] ∧ Kept w.heap.size (· = B) w w' := by
  have hvo := @Go.run_callFunc_extern Tryz.prog 91 _ (fun args => Extern.ReflectliteValue.unpack (args.getD 0 (.tuple #[]))) Tryz.func91 (by kernel_rfl) (by kernel_rfl) (by kernel_rfl) (by kernel_rfl)
  have hty := @Go.run_callFunc_extern Tryz.prog 92 _ (Extern.ReflectliteValue.methodAny (Extern.ReflectliteValue.valueError "reflectlite.Value.Type" 0) (fun t _ _ _ => Extern.ReflectliteType.toType t)) Tryz.func92 (by kernel_rfl) (by kernel_rfl) (by kernel_rfl) (by kernel_rfl)
  have hnil := @Go.run_callFunc_extern Tryz.prog 93 _ (Extern.ReflectliteValue.method (Extern.ReflectliteValue.valueError "reflectlite.Value.IsNil" 0) Extern.ReflectliteValue.isNil) Tryz.func93 (by kernel_rfl) (by kernel_rfl) (by kernel_rfl) (by kernel_rfl)
  have hkd := @Go.run_callFunc_extern Tryz.prog 257 _ (Extern.ReflectliteType.abiMethod fun t => do pure (.int .u8 (← Extern.Rtype.kind t))) Tryz.func257 (by kernel_rfl) (by kernel_rfl) (by kernel_rfl) (by kernel_rfl)
  have hel := @Go.run_callFunc_extern Tryz.prog 271 _ (Extern.ReflectliteType.method Extern.ReflectliteType.elem) Tryz.func271 (by kernel_rfl) (by kernel_rfl) (by kernel_rfl) (by kernel_rfl)
  have him := @Go.run_callFunc_extern Tryz.prog 272 _ (Extern.ReflectliteType.relation "Implements" Extern.ReflectliteType.implements_) Tryz.func272 (by kernel_rfl) (by kernel_rfl) (by kernel_rfl) (by kernel_rfl)
  have f6 := as_valueOfP
  have f7 := as_typeP
  have mK := as_mKind
  have mE := as_mElem
  have mI := as_mImplements
  have k27 := as_kindP
  have k25 := as_kindT
  have e27 := as_elem
  have i25 := as_implements
  have hlt := hB.lt
  have h0lt : 0 < w.heap.size := World.block_lt_of_cell? w ⟨0, 0, none⟩ hg
  have hb1 := below_alloc (below_alloc (Below.refl w.heap.size w) (.cells #[.pointer (some ⟨B, 0, none⟩)] 92)) (.cells #[.pointer (some ⟨2, 92, none⟩), .pointer (some ⟨w.heap.size, 0, none⟩), .int .u64 150] 171)
  have hA : ((w.alloc (.cells #[.pointer (some ⟨B, 0, none⟩)] 92)).alloc (.cells #[.pointer (some ⟨2, 92, none⟩), .pointer (some ⟨w.heap.size, 0, none⟩), .int .u64 150] 171)).cell? ⟨w.heap.size, 0, none⟩ = some (.pointer (some ⟨B, 0, none⟩)) := by
    have := below_alloc (Below.refl (w.alloc (.cells #[.pointer (some ⟨B, 0, none⟩)] 92)).heap.size (w.alloc (.cells #[.pointer (some ⟨B, 0, none⟩)] 92))) (.cells #[.pointer (some ⟨2, 92, none⟩), .pointer (some ⟨w.heap.size, 0, none⟩), .int .u64 150] 171)
    rw [this.cell (p := ⟨w.heap.size, 0, none⟩) (by simp)]
    simp
  have n8 := as_isNil ⟨w.heap.size, 0, none⟩ ⟨B, 0, none⟩ ((w.alloc (.cells #[.pointer (some ⟨B, 0, none⟩)] 92)).alloc (.cells #[.pointer (some ⟨2, 92, none⟩), .pointer (some ⟨w.heap.size, 0, none⟩), .int .u64 150] 171)) hA
  have hg2 := (hb1.cell (p := ⟨0, 0, none⟩) h0lt).trans hg
  have HA := Aside0.mk hA
  have HBk := Aside0.mk (hB.below hb1 hlt)
  have HL := Aside0.mk hb1
  clear hA hb1 hB hg
  go_enter Tryz.func41, Tryz.ntmps41
  go_wp2_with (first | (go_at_call 94; refine (as_hit s x0 B w.heap.size _ HA.out HBk.out).mono ?_; rintro e w3 ⟨rfl, h3, k3⟩; have H3 := Aside0.mk h3; have K3 := Aside0.mk ((Kept.of_below HL.out).trans (k3.mono HL.out.size (fun _ h => h))); clear h3 k3))
  go_ret
  exact ⟨rfl, H3.out, K3.out⟩
set_option maxHeartbeats 1000000 in
theorem As_join (v : Value) (s : ByteArray) (x0 : Value) (B : Nat) (w : World) (hg : GlobE w) (hB : Block w B 90 #[x0]) (hv : JoinA w v s) :
    Calls Tryz.prog 41 #[v, .iface 92 (.pointer (some ⟨B, 0, none⟩))] w fun e w' => e = .returned (.bool true) ∧ Block w' B 90 #[.string s] ∧ Kept w.heap.size (· = B) w w' := by
  have hvo := @Go.run_callFunc_extern Tryz.prog 91 _ (fun args => Extern.ReflectliteValue.unpack (args.getD 0 (.tuple #[]))) Tryz.func91 (by kernel_rfl) (by kernel_rfl) (by kernel_rfl) (by kernel_rfl)
  have hty := @Go.run_callFunc_extern Tryz.prog 92 _ (Extern.ReflectliteValue.methodAny (Extern.ReflectliteValue.valueError "reflectlite.Value.Type" 0) (fun t _ _ _ => Extern.ReflectliteType.toType t)) Tryz.func92 (by kernel_rfl) (by kernel_rfl) (by kernel_rfl) (by kernel_rfl)
  have hnil := @Go.run_callFunc_extern Tryz.prog 93 _ (Extern.ReflectliteValue.method (Extern.ReflectliteValue.valueError "reflectlite.Value.IsNil" 0) Extern.ReflectliteValue.isNil) Tryz.func93 (by kernel_rfl) (by kernel_rfl) (by kernel_rfl) (by kernel_rfl)
  have hkd := @Go.run_callFunc_extern Tryz.prog 257 _ (Extern.ReflectliteType.abiMethod fun t => do pure (.int .u8 (← Extern.Rtype.kind t))) Tryz.func257 (by kernel_rfl) (by kernel_rfl) (by kernel_rfl) (by kernel_rfl)
  have hel := @Go.run_callFunc_extern Tryz.prog 271 _ (Extern.ReflectliteType.method Extern.ReflectliteType.elem) Tryz.func271 (by kernel_rfl) (by kernel_rfl) (by kernel_rfl) (by kernel_rfl)
  have him := @Go.run_callFunc_extern Tryz.prog 272 _ (Extern.ReflectliteType.relation "Implements" Extern.ReflectliteType.implements_) Tryz.func272 (by kernel_rfl) (by kernel_rfl) (by kernel_rfl) (by kernel_rfl)
  have f6 := as_valueOfP
  have f7 := as_typeP
  have mK := as_mKind
  have mE := as_mElem
  have mI := as_mImplements
  have k27 := as_kindP
  have k25 := as_kindT
  have e27 := as_elem
  have i25 := as_implements
  have hlt := hB.lt
  have h0lt : 0 < w.heap.size := World.block_lt_of_cell? w ⟨0, 0, none⟩ hg
  have hb1 := below_alloc (below_alloc (Below.refl w.heap.size w) (.cells #[.pointer (some ⟨B, 0, none⟩)] 92)) (.cells #[.pointer (some ⟨2, 92, none⟩), .pointer (some ⟨w.heap.size, 0, none⟩), .int .u64 150] 171)
  have hA : ((w.alloc (.cells #[.pointer (some ⟨B, 0, none⟩)] 92)).alloc (.cells #[.pointer (some ⟨2, 92, none⟩), .pointer (some ⟨w.heap.size, 0, none⟩), .int .u64 150] 171)).cell? ⟨w.heap.size, 0, none⟩ = some (.pointer (some ⟨B, 0, none⟩)) := by
    have := below_alloc (Below.refl (w.alloc (.cells #[.pointer (some ⟨B, 0, none⟩)] 92)).heap.size (w.alloc (.cells #[.pointer (some ⟨B, 0, none⟩)] 92))) (.cells #[.pointer (some ⟨2, 92, none⟩), .pointer (some ⟨w.heap.size, 0, none⟩), .int .u64 150] 171)
    rw [this.cell (p := ⟨w.heap.size, 0, none⟩) (by simp)]
    simp
  have n8 := as_isNil ⟨w.heap.size, 0, none⟩ ⟨B, 0, none⟩ ((w.alloc (.cells #[.pointer (some ⟨B, 0, none⟩)] 92)).alloc (.cells #[.pointer (some ⟨2, 92, none⟩), .pointer (some ⟨w.heap.size, 0, none⟩), .int .u64 150] 171)) hA
  have hg2 := (hb1.cell (p := ⟨0, 0, none⟩) h0lt).trans hg
  have HA := Aside0.mk hA
  have HBk := Aside0.mk (hB.below hb1 hlt)
  have HL := Aside0.mk hb1
  have HV := Aside0.mk (hv.below hb1)
  clear hv
  obtain ⟨p, R, c, x, rfl, _, _, _, _⟩ := HV.out.is
  clear hA hb1 hB hg
  go_enter Tryz.func41, Tryz.ntmps41
  go_wp2_with (first | (go_at_call 94; refine (as_join _ s x0 B w.heap.size _ HA.out HBk.out HV.out).mono ?_; rintro e w3 ⟨rfl, h3, k3⟩; have H3 := Aside0.mk h3; have K3 := Aside0.mk ((Kept.of_below HL.out).trans (k3.mono HL.out.size (fun _ h => h))); clear h3 k3))
  go_ret
  exact ⟨rfl, H3.out, K3.out⟩


end Go.Proofs.YtmheajenlhlbhaaGreatDoor.X


namespace Go.Proofs.YtmheajenlhlbhaaGreatDoor.X
open Go.RowKit Go.Proofs.YtmheajenlhlbhaaGreatDoorW.PrintWords Go.Proofs.YtmheajenlhlbhaaGreatDoorW.PrintLast Go.Proofs.YtmheajenlhlbhaaGreatDoorW.PrintMore
attribute [local go_sem] max2_int min2_int max_two min_two max_three min_three max_four min_four   -- for this text's walks alone
set_option linter.unusedVariables false
set_option linter.unusedSimpArgs false

theorem wp_region_class {P : Program} (C : World → Prop) {id : Nat} {Q : Exit → Act → World → Prop} {a : Act} {w : World} {l : List Oper} (hm : P.follows .mixedOrders = true) (hB : Region.lexB .any l.toArray = true) (hC : C w.drew)
    (h : wpQuiet P l.toArray C (fun a' => ∀ w', C w' → Q .normal a' w') l a) : (Code.region id l.toArray true).wp P Q a w :=
  wp_region_quiet (C := C) hm hB hC (by simpa using h)
structure Cls (I : World → Prop) (W : World) : Prop where out : I W


end Go.Proofs.YtmheajenlhlbhaaGreatDoor.X


namespace Go.Proofs.YtmheajenlhlbhaaGreatDoor.X
open Go.RowKit Go.Proofs.YtmheajenlhlbhaaGreatDoorW.PrintWords Go.Proofs.YtmheajenlhlbhaaGreatDoorW.PrintLast Go.Proofs.YtmheajenlhlbhaaGreatDoorW.PrintMore
attribute [local go_sem] max2_int min2_int max_two min_two max_three min_three max_four min_four   -- for this text's walks alone
set_option linter.unusedVariables false
set_option linter.unusedSimpArgs false

def disk_Size.f (a0 : Int) : Option Bool := some (a0 == 128 || a0 == 256 || a0 == 512 || a0 == 1024)

set_option maxHeartbeats 400000 in
theorem disk_sizes.calls (w : World) :
    Calls Tryz.prog 133 #[] w fun e w' => e = .returned (.agg #[.int .i64 128, .int .i64 256, .int .i64 512, .int .i64 1024]) ∧ Below w.heap.size w w' := by
  go_enter Tryz.func133, Tryz.ntmps133
  go_wp2
  exact bodyPost_ret (v := .agg #[.int .i64 128, .int .i64 256, .int .i64 512, .int .i64 1024]) (by simp [results, Tryz.results133, go_sem]) rfl ⟨rfl, (Below.refl _ _).alloc (Nat.le_refl _) _⟩

set_option maxHeartbeats 1000000 in
theorem disk_Size.calls (a0 : Int) (r : Bool) (w : World) (h : disk_Size.f a0 = some r) :
    Calls Tryz.prog 83 #[.int .i64 a0] w fun e w' => e = .returned (.bool r) ∧ Below w.heap.size w w' := by
  have i0 : ∀ w, (Instr.index 221 (.agg #[.int .i64 128, .int .i64 256, .int .i64 512, .int .i64 1024]) (.int .i64 0)).run Tryz.prog w = .ok (.int .i64 128) w := fun _ => by kernel_rfl
  have i1 : ∀ w, (Instr.index 221 (.agg #[.int .i64 128, .int .i64 256, .int .i64 512, .int .i64 1024]) (.int .i64 1)).run Tryz.prog w = .ok (.int .i64 256) w := fun _ => by kernel_rfl
  have i2 : ∀ w, (Instr.index 221 (.agg #[.int .i64 128, .int .i64 256, .int .i64 512, .int .i64 1024]) (.int .i64 2)).run Tryz.prog w = .ok (.int .i64 512) w := fun _ => by kernel_rfl
  have i3 : ∀ w, (Instr.index 221 (.agg #[.int .i64 128, .int .i64 256, .int .i64 512, .int .i64 1024]) (.int .i64 3)).run Tryz.prog w = .ok (.int .i64 1024) w := fun _ => by kernel_rfl
  have Hr : Aside0 (r = (a0 == 128 || a0 == 256 || a0 == 512 || a0 == 1024)) := ⟨by simpa [disk_Size.f] using h.symm⟩
  clear h
  go_enter Tryz.func83, Tryz.ntmps83
  go_wp2_with (go_at_call 133; refine (disk_sizes.calls _).mono ?_; rintro e w1 ⟨rfl, hb⟩)
  have HB := Aside0.mk hb
  clear hb
  go_loop [6] (fun i => ∃ k : Nat, k ≤ 4 ∧ i = .int .i64 k ∧ Aside0 ((k = 0) ∨ (k = 1 ∧ a0 ≠ 128) ∨ (k = 2 ∧ a0 ≠ 128 ∧ a0 ≠ 256) ∨ (k = 3 ∧ a0 ≠ 128 ∧ a0 ≠ 256 ∧ a0 ≠ 512) ∨ (k = 4 ∧ a0 ≠ 128 ∧ a0 ≠ 256 ∧ a0 ≠ 512 ∧ a0 ≠ 1024))) (fun i => 4 - (intOf i).toNat)
  case atStart => exact ⟨0, by omega, rfl, ⟨.inl rfl⟩⟩
  case round =>
    obtain ⟨k, hk, rfl, HK⟩ := hrel
    rcases HK.out with h | h | h | h | h
    · obtain rfl := h
      clear HK hk
      by_cases c : a0 = 128
      · subst c
        go_wp2
        go_ret
        exact ⟨by rw [Hr.out]; rfl, HB.out⟩
      · have HC := Aside0.mk c
        have c1 : (128 == a0) = false := by simpa using Ne.symm c
        clear c
        go_wp2
        go_round
        case rel => exact ⟨1, by omega, rfl, ⟨.inr (.inl ⟨rfl, HC.out⟩)⟩⟩
        case measure => simp [intOf]
    · obtain ⟨rfl, n0⟩ := h
      clear HK hk
      have N0 := Aside0.mk n0
      clear n0
      by_cases c : a0 = 256
      · subst c
        go_wp2
        go_ret
        exact ⟨by rw [Hr.out]; rfl, HB.out⟩
      · have HC := Aside0.mk c
        have c1 : (256 == a0) = false := by simpa using Ne.symm c
        clear c
        go_wp2
        go_round
        case rel => exact ⟨2, by omega, rfl, ⟨.inr (.inr (.inl ⟨rfl, N0.out, HC.out⟩))⟩⟩
        case measure => simp [intOf]
    · obtain ⟨rfl, n0, n1⟩ := h
      clear HK hk
      have N0 := Aside0.mk n0
      clear n0
      have N1 := Aside0.mk n1
      clear n1
      by_cases c : a0 = 512
      · subst c
        go_wp2
        go_ret
        exact ⟨by rw [Hr.out]; rfl, HB.out⟩
      · have HC := Aside0.mk c
        have c1 : (512 == a0) = false := by simpa using Ne.symm c
        clear c
        go_wp2
        go_round
        case rel => exact ⟨3, by omega, rfl, ⟨.inr (.inr (.inr (.inl ⟨rfl, N0.out, N1.out, HC.out⟩)))⟩⟩
        case measure => simp [intOf]
    · obtain ⟨rfl, n0, n1, n2⟩ := h
      clear HK hk
      have N0 := Aside0.mk n0
      clear n0
      have N1 := Aside0.mk n1
      clear n1
      have N2 := Aside0.mk n2
      clear n2
      by_cases c : a0 = 1024
      · subst c
        go_wp2
        go_ret
        exact ⟨by rw [Hr.out]; rfl, HB.out⟩
      · have HC := Aside0.mk c
        have c1 : (1024 == a0) = false := by simpa using Ne.symm c
        clear c
        go_wp2
        go_round
        case rel => exact ⟨4, by omega, rfl, ⟨.inr (.inr (.inr (.inr (⟨rfl, N0.out, N1.out, N2.out, HC.out⟩))))⟩⟩
        case measure => simp [intOf]
    · obtain ⟨rfl, n0, n1, n2, n3⟩ := h
      clear HK hk
      have HR2 : Aside0 (r = false) := ⟨by rw [Hr.out]; simp [n0, n1, n2, n3]⟩
      clear n0 n1 n2 n3
      go_wp2
      go_ret
      exact ⟨by rw [HR2.out]; rfl, HB.out⟩


end Go.Proofs.YtmheajenlhlbhaaGreatDoor.X


namespace Go.Proofs.YtmheajenlhlbhaaGreatDoor.X
open Go.RowKit Go.Proofs.YtmheajenlhlbhaaGreatDoorW.PrintWords Go.Proofs.YtmheajenlhlbhaaGreatDoorW.PrintLast Go.Proofs.YtmheajenlhlbhaaGreatDoorW.PrintMore
attribute [local go_sem] max2_int min2_int max_two min_two max_three min_three max_four min_four   -- for this text's walks alone
set_option linter.unusedVariables false
set_option linter.unusedSimpArgs false

theorem wpList_append_of {P : Program} {w w' : World} {ops : Array Oper} {rest : List Oper} {o : Oper} {a : Act} {Q : Exit → Act → World → Prop} (hg : o.guard = none) (s x : Operand) (t : TypeId) (hop : o.op = Op.call { callee := Callee.builtin Builtin.append, args := #[s, x], argTypes := #[t, t] })
    (vs vx v : Value) (hs : a.eval s = vs) (hx : a.eval x = vx) (hrun : (Builtin.append_ #[t, t] o.type #[vs, vx]).run P w = .ok v w') (h : wpList P ops Q rest (a.put o.dst v) w') : wpList P ops Q (o :: rest) a w := by
  refine wpList_plain hg fun K hK' => ?_
  unfold Oper.wp
  simp [execOp, hop, resolve, invoke, builtin, hs, hx, hrun, Result.andThen]
  exact hK' _ _ h
theorem append_err (ty : TypeId) (W : World) (M N k : Nat) (v v0 : Value) (hk : k < 2) (h0 : W.cell? ⟨N, 0, none⟩ = some v) (h1 : v.oneCell' = true) (h2 : W.cell? ⟨M, k, none⟩ = some v0) (h3 : W.frozen? ⟨M, k, none⟩ = false) :
    (Builtin.append_ #[230, 230] ty #[.slice (some ⟨M, 0, none⟩) k 2, .slice (some ⟨N, 0, none⟩) 1 1]).run Tryz.prog W = .ok (.slice (some ⟨M, 0, none⟩) (k + 1) 2) (W.setCell ⟨M, k, none⟩ v) := by
  have hs : (Tryz.prog.info? 86).map (·.size) = some 1 := by kernel_rfl
  obtain ⟨i, hi, hi1⟩ := Option.map_eq_some_iff.1 hs
  have := run_append_room_cells (P := Tryz.prog) W 230 ty 86 i Tryz.underlying230 hi M 0 k 2 ⟨N, 0, none⟩ 1 1 [v] (by simp [hi1])
    (by intro j u hj; cases j with | zero => (simp at hj; subst hj; simpa [Addr.add] using h0) | succ j => simp at hj) (by simpa using h1) (by omega)
    (by intro j hj; simp at hj; subst hj; simp [hi1, h2]) (by intro j hj; simp at hj; subst hj; simp [hi1, h3])
  rw [this, hi1]
  simp [World.setCells]
set_option maxHeartbeats 1000000 in
theorem Join_two (R : Nat) (s : Value) (a : Int) (w : World) (h0 : w.cell? ⟨R, 0, none⟩ = some (.iface 259 s)) (h1 : w.cell? ⟨R, 1, none⟩ = some (.iface 25 (.int .i64 a))) :
    Calls Tryz.prog 87 #[.slice (some ⟨R, 0, none⟩) 2 2] w fun e w' => ∃ v, e = .returned v ∧ JoinOf w' v a ∧ Below w.heap.size w w' := by
  have hlt : R < w.heap.size := World.block_lt_of_cell? w _ h0
  have hl1 : R < w.heap.size + 1 := by omega
  have hl2 : R < w.heap.size + 1 + 1 := by omega
  have hl3 : R < w.heap.size + 1 + 1 + 1 := by omega
  have hmk : ∀ W : World, (Instr.makeSlice 230 (.int .i64 0) (.int .i64 2)).run Tryz.prog W = .ok (.slice (some ⟨W.heap.size, 0, none⟩) 0 2) (W.alloc (.cells #[.nilIface, .nilIface] 86)) := fun _ => by kernel_rfl
  have q1 : ∀ (W : World) (k j : Nat) (v : Value), (W.setCell ⟨w.heap.size, k, none⟩ v).cell? ⟨R, j, none⟩ = W.cell? ⟨R, j, none⟩ := fun W k j v => World.cell?_setCell_other _ _ _ _ (by intro e; have := congrArg Addr.block e; simp at this; omega)
  have q2 : ∀ (W : World) (k j : Nat) (v : Value), (W.setCell ⟨w.heap.size + 1, k, none⟩ v).cell? ⟨R, j, none⟩ = W.cell? ⟨R, j, none⟩ := fun W k j v => World.cell?_setCell_other _ _ _ _ (by intro e; have := congrArg Addr.block e; simp at this; omega)
  go_enter Tryz.func87, Tryz.ntmps87
  go_wp2
  refine wp_loop_rounds 3 ?_
  rw [rounds_succ]
  go_wp2
  rw [rounds_succ]
  go_wp2
  rw [rounds_succ]
  go_wp2
  refine wp_loop_rounds 3 ?_
  rw [rounds_succ]
  go_wp2_with (at_builtin; refine wpList_append_of rfl _ _ _ rfl _ _ _ rfl rfl (append_err _ _ w.heap.size (w.heap.size + 2) 0 (.iface 259 s) .nilIface (by omega) ?c1 rfl ?c2 ?c3) ?_; (case c1 => simp); (case c2 => simp); (case c3 => simp))
  rw [rounds_succ]
  go_wp2_with (at_builtin; refine wpList_append_of rfl _ _ _ rfl _ _ _ rfl rfl (append_err _ _ w.heap.size (w.heap.size + 3) 1 (.iface 25 (.int .i64 a)) .nilIface (by omega) ?d1 rfl ?d2 ?d3) ?_; (case d1 => simp); (case d2 => simp); (case d3 => simp))
  rw [rounds_succ]
  go_wp2
  go_ret
  refine ⟨_, rfl, ⟨⟨⟨w.heap.size + 1, 0, none⟩, w.heap.size, 2, s, rfl, by omega, ?_, ?_, ?_⟩⟩, below_alloc (below_alloc (below_alloc (below_alloc (Below.refl _ _) _) _) _) _⟩
  · go_simp
  · go_simp
  · go_simp
theorem New_calls (s : ByteArray) (w : World) :
    Calls Tryz.prog 104 #[.string s] w fun e w' => e = .returned (.iface 259 (.pointer (some ⟨w.heap.size, 0, none⟩))) ∧ w' = w.alloc (.cells #[.string s] 261) := by
  go_enter Tryz.func104, Tryz.ntmps104
  go_wp2
  go_ret
  exact ⟨rfl, rfl⟩
set_option maxHeartbeats 1000000 in
theorem Join_any (R : Nat) (tx ty : TypeId) (x y : Value) (w : World) (h0 : w.cell? ⟨R, 0, none⟩ = some (.iface tx x)) (h1 : w.cell? ⟨R, 1, none⟩ = some (.iface ty y)) :
    Calls Tryz.prog 87 #[.slice (some ⟨R, 0, none⟩) 2 2] w fun e w' => ∃ (p : Addr) (R2 c : Nat), e = .returned (.iface 231 (.pointer (some p))) ∧ 2 ≤ c ∧ w'.cell? p = some (.slice (some ⟨R2, 0, none⟩) 2 c) ∧ w'.cell? ⟨R2, 0, none⟩ = some (.iface tx x) ∧ w'.cell? ⟨R2, 1, none⟩ = some (.iface ty y) ∧ Below w.heap.size w w' := by
  have hlt : R < w.heap.size := World.block_lt_of_cell? w _ h0
  have hl1 : R < w.heap.size + 1 := by omega
  have hl2 : R < w.heap.size + 1 + 1 := by omega
  have hl3 : R < w.heap.size + 1 + 1 + 1 := by omega
  have hmk : ∀ W : World, (Instr.makeSlice 230 (.int .i64 0) (.int .i64 2)).run Tryz.prog W = .ok (.slice (some ⟨W.heap.size, 0, none⟩) 0 2) (W.alloc (.cells #[.nilIface, .nilIface] 86)) := fun _ => by kernel_rfl
  have q1 : ∀ (W : World) (k j : Nat) (v : Value), (W.setCell ⟨w.heap.size, k, none⟩ v).cell? ⟨R, j, none⟩ = W.cell? ⟨R, j, none⟩ := fun W k j v => World.cell?_setCell_other _ _ _ _ (by intro e; have := congrArg Addr.block e; simp at this; omega)
  have q2 : ∀ (W : World) (k j : Nat) (v : Value), (W.setCell ⟨w.heap.size + 1, k, none⟩ v).cell? ⟨R, j, none⟩ = W.cell? ⟨R, j, none⟩ := fun W k j v => World.cell?_setCell_other _ _ _ _ (by intro e; have := congrArg Addr.block e; simp at this; omega)
  go_enter Tryz.func87, Tryz.ntmps87
  go_wp2
  refine wp_loop_rounds 3 ?_
  rw [rounds_succ]
  go_wp2
  rw [rounds_succ]
  go_wp2
  rw [rounds_succ]
  go_wp2
  refine wp_loop_rounds 3 ?_
  rw [rounds_succ]
  go_wp2_with (at_builtin; refine wpList_append_of rfl _ _ _ rfl _ _ _ rfl rfl (append_err _ _ w.heap.size (w.heap.size + 2) 0 (.iface tx x) .nilIface (by omega) ?c1 rfl ?c2 ?c3) ?_; (case c1 => simp); (case c2 => simp); (case c3 => simp))
  rw [rounds_succ]
  go_wp2_with (at_builtin; refine wpList_append_of rfl _ _ _ rfl _ _ _ rfl rfl (append_err _ _ w.heap.size (w.heap.size + 3) 1 (.iface ty y) .nilIface (by omega) ?d1 rfl ?d2 ?d3) ?_; (case d1 => simp); (case d2 => simp); (case d3 => simp))
  rw [rounds_succ]
  go_wp2
  go_ret
  refine ⟨⟨w.heap.size + 1, 0, none⟩, w.heap.size, 2, rfl, by omega, ?_, ?_, ?_, below_alloc (below_alloc (below_alloc (below_alloc (Below.refl _ _) _) _) _) _⟩
  · go_simp
  · go_simp
  · go_simp


end Go.Proofs.YtmheajenlhlbhaaGreatDoor.X


namespace Go.Proofs.YtmheajenlhlbhaaGreatDoor.X
open Go.RowKit Go.Proofs.YtmheajenlhlbhaaGreatDoorW.PrintWords Go.Proofs.YtmheajenlhlbhaaGreatDoorW.PrintLast Go.Proofs.YtmheajenlhlbhaaGreatDoorW.PrintMore
attribute [local go_sem] max2_int min2_int max_two min_two max_three min_three max_four min_four   -- for this text's walks alone
set_option linter.unusedVariables false
set_option linter.unusedSimpArgs false

theorem head_fault.calls (a : Int) (s : ByteArray) (w : World) :
    Calls Tryz.prog 179 #[.int .i64 a, .string s] w fun e w' => ∃ v, e = .returned v ∧ JoinOf w' v a ∧ Below w.heap.size w w' := by
  go_enter Tryz.func179, Tryz.ntmps179
  go_wp2_with (first | (go_at_call 104; refine (New_calls s _).mono ?_; rintro e w1 ⟨rfl, rfl⟩) | (go_at_call 87; refine (Join_two (w.heap.size + 1) (.pointer (some ⟨w.heap.size, 0, none⟩)) a _ ?c1 ?c2).mono ?_; (case c1 => simp); (case c2 => simp); rintro e w1 ⟨v, rfl, hj, hb⟩; have HJ := Aside0.mk hj; have HB := Aside0.mk hb; clear hj hb))
  go_ret
  exact ⟨_, rfl, HJ.out, below_step (below_alloc (below_alloc (Below.refl _ _) _) _) HB.out⟩


end Go.Proofs.YtmheajenlhlbhaaGreatDoor.X


namespace Go.Proofs.YtmheajenlhlbhaaGreatDoor.X
open Go.RowKit Go.Proofs.YtmheajenlhlbhaaGreatDoorW.PrintWords Go.Proofs.YtmheajenlhlbhaaGreatDoorW.PrintLast Go.Proofs.YtmheajenlhlbhaaGreatDoorW.PrintMore
attribute [local go_sem] max2_int min2_int max_two min_two max_three min_three max_four min_four   -- for this text's walks alone
set_option linter.unusedVariables false
set_option linter.unusedSimpArgs false

def head_within.l0 : Nat → Int → List Int → Int → Int → Option (Bool)
  | 0, _, _, _, _ => none
  | k + 1, x0, x7, x8, x9 => if x9 < x8 then (if 0 ≤ x9 then (if x9 < (x7.length : Int) then (if (rd x7 x9) < 0 then (some false) else (if (rd x7 x9) ≥ x0 then (some false) else (head_within.l0 k x0 x7 x8 (wrap64 (x9 + 1))))) else (none)) else (none)) else (some true)
def head_within.f (k : Nat) (a0 : Int) (l1 : List Int) : Option (Bool) := head_within.l0 k a0 l1 (l1.length : Int) 0
set_option maxHeartbeats 8000000 in
set_option maxRecDepth 100000 in
theorem head_within.calls (k : Nat) (a0 : Int) (A1 : Option Addr) (c1 : Nat) (l1 : List Int) (r : Bool) (w : World) (hr1 : Kd.C (Kd.int .i64) w A1 l1.length l1) (hc1 : l1.length ≤ c1) (h : head_within.f k a0 l1 = some r) :
    Calls Tryz.prog 217 #[.int .i64 a0, .slice A1 l1.length c1] w fun e w' => e = .returned (.bool r) ∧ Drawn0 w w' := by
  have HR1 := Aside0.mk hr1
  have HC1 := Aside0.mk hc1
  clear hr1 hc1
  have H : (head_within.l0 k a0 l1 (l1.length : Int) 0) = some r := h
  clear h
  have H' := Aside0.mk H
  clear H
  go_enter Tryz.func217, Tryz.ntmps217
  go_wp2
  go_loopg [9] k (fun kq v9 w' => ∃ (x9_1 : Int), v9 = .int .i64 x9_1 ∧ Aside0 (head_within.l0 kq a0 l1 (l1.length : Int) x9_1 = some r) ∧ Aside0 (kq ≤ k) ∧ Drawn0 w w')
  case atStart => exact ⟨(0), (by first | rfl | (simp; done) | (simp [*]; done)), H', ⟨Nat.le_refl _⟩, by repeat (first | exact Drawn0.refl _ | apply Drawn0.step)⟩
  case round =>
    clear H'
    try clear c1
    try clear c2
    try clear p2
    obtain ⟨x9_1, rfl, HA, HK1, ⟨m1, rfl⟩⟩ := hrel
    cases gk with
    | zero => exact absurd HA.out (by simp [head_within.l0])
    | succ k1 =>
      have H := HA.out
      clear HA
      simp only [head_within.l0] at H
      by_cases c3 : x9_1 < (l1.length : Int)
      · rw [if_pos c3] at H
        have c3b0 : decide (x9_1 < (l1.length : Int)) = true := decide_eq_true c3
        clear c3
        by_cases c4 : 0 ≤ x9_1
        · rw [if_pos c4] at H
          have c4b0 : decide (0 ≤ x9_1) = true := decide_eq_true c4
          clear c4
          by_cases c5 : x9_1 < (l1.length : Int)
          · rw [if_pos c5] at H
            have c5b0 : decide (x9_1 < (l1.length : Int)) = true := decide_eq_true c5
            clear c5
            by_cases c6 : (rd l1 x9_1) < 0
            · rw [if_pos c6] at H
              have c6b0 : decide ((rd l1 x9_1) < 0) = true := decide_eq_true c6
              clear c6
              obtain rfl := Option.some.inj H
              have p101 : 0 ≤ (x9_1 : Int) := of_decide_eq_true (by first | (with_reducible assumption) | assumption)
              have q101 : x9_1 < (l1.length : Int) := of_decide_eq_true (by first | (with_reducible assumption) | assumption)
              obtain ⟨ad101, e101, hx101_0⟩ := Kd.at_int HR1.out x9_1 p101 q101
              cases e101
              replace p101 := eq_true p101
              replace q101 := eq_true q101
              go_wp2
              go_ret
              exact ⟨by first | rfl | (simp; done) | (simp [*]; done), by repeat (first | exact Drawn0.refl _ | apply Drawn0.step)⟩
            · rw [if_neg c6] at H
              have c6b0 : decide ((rd l1 x9_1) < 0) = false := decide_eq_false c6
              clear c6
              by_cases c7 : (rd l1 x9_1) ≥ a0
              · rw [if_pos c7] at H
                have c7b0 : decide (a0 ≤ (rd l1 x9_1)) = true := decide_eq_true c7
                clear c7
                obtain rfl := Option.some.inj H
                have p101 : 0 ≤ (x9_1 : Int) := of_decide_eq_true (by first | (with_reducible assumption) | assumption)
                have q101 : x9_1 < (l1.length : Int) := of_decide_eq_true (by first | (with_reducible assumption) | assumption)
                obtain ⟨ad101, e101, hx101_0⟩ := Kd.at_int HR1.out x9_1 p101 q101
                cases e101
                replace p101 := eq_true p101
                replace q101 := eq_true q101
                go_wp2
                go_ret
                exact ⟨by first | rfl | (simp; done) | (simp [*]; done), by repeat (first | exact Drawn0.refl _ | apply Drawn0.step)⟩
              · rw [if_neg c7] at H
                have c7b0 : decide (a0 ≤ (rd l1 x9_1)) = false := decide_eq_false c7
                clear c7
                have H' := Aside0.mk H
                clear H
                have p101 : 0 ≤ (x9_1 : Int) := of_decide_eq_true (by first | (with_reducible assumption) | assumption)
                have q101 : x9_1 < (l1.length : Int) := of_decide_eq_true (by first | (with_reducible assumption) | assumption)
                obtain ⟨ad101, e101, hx101_0⟩ := Kd.at_int HR1.out x9_1 p101 q101
                cases e101
                replace p101 := eq_true p101
                replace q101 := eq_true q101
                go_wp2
                go_roundg k1
                case measure => have := HK1.out; omega
                case rel => exact ⟨(wrap64 (x9_1 + 1)), (by first | rfl | (simp; done) | (simp [*]; done)), H', ⟨by have := HK1.out; omega⟩, by repeat (first | exact Drawn0.refl _ | apply Drawn0.step)⟩
          · rw [if_neg c5] at H
            exact absurd H (by simp)
        · rw [if_neg c4] at H
          exact absurd H (by simp)
      · rw [if_neg c3] at H
        have c3b0 : decide (x9_1 < (l1.length : Int)) = false := decide_eq_false c3
        clear c3
        obtain rfl := Option.some.inj H
        go_wp2
        go_ret
        exact ⟨by first | rfl | (simp; done) | (simp [*]; done), by repeat (first | exact Drawn0.refl _ | apply Drawn0.step)⟩

end Go.Proofs.YtmheajenlhlbhaaGreatDoor.X

