/- What functions of the given program compute, step by step: the walks that the law PageMoves leans on, part 1. No conditions. -/
import Derived.ProofKit
import Derived.Below
import Derived.Laws.AppendOwn
import Derived.Deep.MidRow
import Derived.Deep.AppendSrc
import Derived.IntWalk
import Derived.Laws.BytesArg
import Derived.Great.BuildSlice
namespace Go.Proofs.YtlbodfkhenkcjaaGreatDoor.D
open Go Go.RowKit

inductive DV where
  | u
  | v (x : Value)
  | agg (cs : List DV)
  | tup (cs : List DV)
  | ifc (t : TypeId) (x : DV)
  | list (sz : Nat) (l : List DV)
  | own (id e sz : Nat) (l : List DV)
  | full (sz : Nat) (l : List DV)
  | lp (k off : Nat)
  | row (k sz n : Nat)
  | ep (x : DV) (off : Nat)
  | fn (f : FuncId) (cs : List DV)
  deriving Inhabited

def DV.cells : DV → List DV
  | .v (.agg cs) => cs.toList.map .v
  | .agg cs => cs
  | x => [x]

def DV.one : DV → Bool
  | .v (.agg _) | .v (.tuple _) | .agg _ | .tup _ | .u => false
  | _ => true

structure Link where
  bx : List Nat
  ow : List (Nat × Option Nat)
  fz : List Nat

def noLink : Link := ⟨[], [], []⟩

def Cur (W : World) (e sz n : Nat) (y : Value) (B : Option Nat) : Prop :=
  ((∃ a, y = .slice a 0 0) ∧ n = 0 ∧ B = none) ∨
  ∃ g cap cur, B = some g ∧ y = .slice (some ⟨g, 0, none⟩) n cap ∧ W.heap[g]? = some (.cells cur e (0, 0)) ∧ n ≤ cap ∧ cap ≤ maxLen ∧ cur.size = cap * sz

inductive Rep (S : Nat → Nat → Prop) (W : World) : Link → DV → Value → Prop where
  | u (L : Link) (y : Value) : Rep S W L .u y
  | v (L : Link) (x : Value) : Rep S W L (.v x) x
  | agg (L : Link) (cs : List DV) (ys : List Value) : cs.length = ys.length → (∀ (i : Nat) (d : DV) (y : Value), cs[i]? = some d → ys[i]? = some y → Rep S W L d y) →
      Rep S W L (.agg cs) (.agg ys.toArray)
  | tup (L : Link) (cs : List DV) (ys : List Value) : cs.length = ys.length → (∀ (i : Nat) (d : DV) (y : Value), cs[i]? = some d → ys[i]? = some y → Rep S W L d y) →
      Rep S W L (.tup cs) (.tuple ys.toArray)
  | ifc (L : Link) (t : TypeId) (x : DV) (y : Value) : Rep S W L x y → Rep S W L (.ifc t x) (.iface t y)
  | list (L : Link) (sz : Nat) (l : List DV) (ys : List Value) (a : Option Addr) (len cap b o : Nat) : len = l.length ∧ len ≤ cap → (∀ d ∈ l, d.cells.length = sz) →
      (∀ d ∈ l.flatMap DV.cells, d.one = true) → (l ≠ [] → a = some ⟨b, o, none⟩) → ys.length = (l.flatMap DV.cells).length →
      (∀ (j : Nat) (y : Value), ys[j]? = some y → S b (o + j) ∧ W.cell? ⟨b, o + j, none⟩ = some y) →
      (∀ (i : Nat) (d : DV) (y : Value), (l.flatMap DV.cells)[i]? = some d → ys[i]? = some y → Rep S W noLink d y) →
      Rep S W L (.list sz l) (.slice a len cap)
  | own (L : Link) (id e sz : Nat) (l : List DV) (y : Value) (N : Nat) (B : Option Nat) : Rep S W L (.list sz l) y → L.ow[id]? = some (N, B) → l.length * sz ≤ N →
      (l.length * sz = N → Cur W e sz l.length y B) → Rep S W L (.own id e sz l) y
  | full (L : Link) (sz : Nat) (l : List DV) (a : Option Addr) (n : Nat) : Rep S W L (.list sz l) (.slice a n n) → Rep S W L (.full sz l) (.slice a n n)
  | lp (L : Link) (k off b : Nat) : L.bx[k]? = some b → Rep S W L (.lp k off) (.pointer (some ⟨b, off, none⟩))
  | row (L : Link) (k sz n b cap : Nat) : L.bx[k]? = some b → n ≤ cap → Rep S W L (.row k sz n) (.slice (some ⟨b, 0, none⟩) n cap)
  | ep (L : Link) (x : DV) (off b o : Nat) (ys : List Value) : ys.length = x.cells.length →
      (∀ (j : Nat) (y : Value), ys[j]? = some y → S b (o + j) ∧ W.cell? ⟨b, o + j, none⟩ = some y) →
      (∀ (i : Nat) (d : DV) (y : Value), x.cells[i]? = some d → ys[i]? = some y → Rep S W noLink d y) →
      Rep S W L (.ep x off) (.pointer (some ⟨b, o + off, none⟩))
  | fn (L : Link) (f : FuncId) (cs : List DV) (ys : List Value) : cs.length = ys.length → (∀ (i : Nat) (d : DV) (y : Value), cs[i]? = some d → ys[i]? = some y → Rep S W L d y) →
      Rep S W L (.fn f cs) (.func (.func f) #[] ys.toArray)

structure Step (S : Nat → Nat → Prop) (L : Link) (W : World) (S' : Nat → Nat → Prop) (L' : Link) (W' : World) : Prop where
  cell : ∀ (b o : Nat) (y : Value), S b o → W.cell? ⟨b, o, none⟩ = some y → S' b o ∧ W'.cell? ⟨b, o, none⟩ = some y
  bx : ∀ (k b : Nat), L.bx[k]? = some b → L'.bx[k]? = some b
  ow : ∀ (id N : Nat) (B : Option Nat), L.ow[id]? = some (N, B) → ∃ N' B', L'.ow[id]? = some (N', B') ∧ N ≤ N' ∧ (N' = N → B' = B ∧ ∀ g, B = some g → W'.heap[g]? = W.heap[g]?)

theorem Step.refl (S : Nat → Nat → Prop) (L : Link) (W : World) : Step S L W S L W :=
  ⟨fun _ _ _ h k => ⟨h, k⟩, fun _ _ h => h, fun _ N B h => ⟨N, B, h, Nat.le_refl _, fun _ => ⟨rfl, fun _ _ => rfl⟩⟩⟩

theorem Step.trans {S S' S'' : Nat → Nat → Prop} {L L' L'' : Link} {W W' W'' : World} (h : Step S L W S' L' W') (k : Step S' L' W' S'' L'' W'') : Step S L W S'' L'' W'' := by
  refine ⟨fun b o y hs hc => ?_, fun i b hb => k.bx i b (h.bx i b hb), fun id N B ho => ?_⟩
  · obtain ⟨hs', hc'⟩ := h.cell b o y hs hc
    exact k.cell b o y hs' hc'
  · obtain ⟨N', B', h1, h2, h3⟩ := h.ow id N B ho
    obtain ⟨N'', B'', k1, k2, k3⟩ := k.ow id N' B' h1
    refine ⟨N'', B'', k1, Nat.le_trans h2 k2, fun e => ?_⟩
    have e' : N' = N := by omega
    obtain ⟨hb, hh⟩ := h3 e'
    obtain ⟨kb, kh⟩ := k3 (by omega)
    exact ⟨kb.trans hb, fun g hg => (kh g (hb ▸ hg)).trans (hh g hg)⟩

theorem Cur.step {W W' : World} {e sz n : Nat} {y : Value} {B : Option Nat} (h : Cur W e sz n y B) (hk : ∀ g, B = some g → W'.heap[g]? = W.heap[g]?) : Cur W' e sz n y B := by
  rcases h with h | ⟨g, cap, cur, hB, hy, hg, r⟩
  · exact .inl h
  · exact .inr ⟨g, cap, cur, hB, hy, (hk g hB).trans hg, r⟩

theorem Step.noLink {S S' : Nat → Nat → Prop} {L L' : Link} {W W' : World} (st : Step S L W S' L' W') : Step S noLink W S' noLink W' :=
  ⟨st.cell, fun k b h => by simp [Go.Proofs.YtlbodfkhenkcjaaGreatDoor.D.noLink] at h, fun id N B h => by simp [Go.Proofs.YtlbodfkhenkcjaaGreatDoor.D.noLink] at h⟩

theorem Rep.step {S S' : Nat → Nat → Prop} {L : Link} {W W' : World} {d : DV} {y : Value} (h : Rep S W L d y) : ∀ {L' : Link}, Step S L W S' L' W' → Rep S' W' L' d y := by
  induction h with
  | u L y => exact fun _ => .u _ y
  | v L x => exact fun _ => .v _ x
  | agg L cs ys hl _ ih => exact fun st => .agg _ cs ys hl fun i d y h1 h2 => ih i d y h1 h2 st
  | tup L cs ys hl _ ih => exact fun st => .tup _ cs ys hl fun i d y h1 h2 => ih i d y h1 h2 st
  | ifc L t x y _ ih => exact fun st => .ifc _ t x y (ih st)
  | list L sz l ys a len cap b o h1 h3 h4 h5 h6 h7 _ ih =>
    exact fun st => .list _ sz l ys a len cap b o h1 h3 h4 h5 h6 (fun j y hj => st.cell _ _ _ (h7 j y hj).1 (h7 j y hj).2) fun i d y h1 h2 => ih i d y h1 h2 st.noLink
  | own L id e sz l y N B _ h2 h3 h4 ih =>
    intro L' st
    obtain ⟨N', B', k1, k2, k3⟩ := st.ow id N B h2
    refine .own L' id e sz l y N' B' (ih st) k1 (Nat.le_trans h3 k2) fun e' => ?_
    obtain ⟨hb, hh⟩ := k3 (by omega)
    rw [hb]
    exact (h4 (by omega)).step hh
  | full L sz l a n _ ih => exact fun st => .full _ sz l a n (ih st)
  | lp L k off b hb => exact fun st => .lp _ k off b (st.bx k b hb)
  | row L k sz n b cap hb hc => exact fun st => .row _ k sz n b cap (st.bx k b hb) hc
  | ep L x off b o ys h1 h2 _ ih => exact fun st => .ep _ x off b o ys h1 (fun j y hj => st.cell _ _ _ (h2 j y hj).1 (h2 j y hj).2) fun i d y h1 h2 => ih i d y h1 h2 st.noLink
  | fn L f cs ys hl _ ih => exact fun st => .fn _ f cs ys hl fun i d y h1 h2 => ih i d y h1 h2 st

def RepL (S : Nat → Nat → Prop) (W : World) (L : Link) (ds : List DV) (ys : List Value) : Prop :=
  ds.length = ys.length ∧ ∀ (i : Nat) (d : DV) (y : Value), ds[i]? = some d → ys[i]? = some y → Rep S W L d y

theorem RepL.nil {S : Nat → Nat → Prop} {W : World} {L : Link} : RepL S W L [] [] := ⟨rfl, fun i d y h => by simp at h⟩
theorem RepL.cons {S : Nat → Nat → Prop} {W : World} {L : Link} {d : DV} {y : Value} {ds : List DV} {ys : List Value} (h : Rep S W L d y) (k : RepL S W L ds ys) : RepL S W L (d :: ds) (y :: ys) :=
  ⟨by simp [k.1], fun i d' y' h1 h2 => by
    cases i with
    | zero => simp at h1 h2; subst h1; subst h2; exact h
    | succ i => exact k.2 i d' y' (by simpa using h1) (by simpa using h2)⟩
theorem RepL.uncons {S : Nat → Nat → Prop} {W : World} {L : Link} {d : DV} {ds : List DV} {zs : List Value} (h : RepL S W L (d :: ds) zs) : ∃ y ys, zs = y :: ys ∧ Rep S W L d y ∧ RepL S W L ds ys := by
  cases zs with
  | nil => simp [RepL] at h
  | cons y ys => exact ⟨y, ys, rfl, h.2 0 d y rfl rfl, by simpa using h.1, fun i d' y' h1 h2 => h.2 (i + 1) d' y' (by simpa using h1) (by simpa using h2)⟩
theorem RepL.unnil {S : Nat → Nat → Prop} {W : World} {L : Link} {zs : List Value} (h : RepL S W L [] zs) : zs = [] := by
  cases zs with
  | nil => rfl
  | cons y ys => simp [RepL] at h
theorem RepL.step {S S' : Nat → Nat → Prop} {L L' : Link} {W W' : World} {ds : List DV} {ys : List Value} (h : RepL S W L ds ys) (st : Step S L W S' L' W') : RepL S' W' L' ds ys :=
  ⟨h.1, fun i d y h1 h2 => (h.2 i d y h1 h2).step st⟩
theorem RepL.append {S : Nat → Nat → Prop} {W : World} {L : Link} {ds es : List DV} {ys zs : List Value} (h : RepL S W L ds ys) (k : RepL S W L es zs) : RepL S W L (ds ++ es) (ys ++ zs) := by
  refine ⟨by simp [h.1, k.1], fun i d y h1 h2 => ?_⟩
  rw [List.getElem?_append] at h1 h2
  split at h1
  · rw [if_pos (by rw [← h.1]; assumption)] at h2; exact h.2 i d y h1 h2
  · rw [if_neg (by rw [← h.1]; assumption), ← h.1] at h2; exact k.2 _ d y h1 h2
theorem RepL.drop {S : Nat → Nat → Prop} {W : World} {L : Link} {ds : List DV} {ys : List Value} (h : RepL S W L ds ys) (n : Nat) : RepL S W L (ds.drop n) (ys.drop n) :=
  ⟨by simp [h.1], fun i d y h1 h2 => h.2 (n + i) d y (by simpa using h1) (by simpa using h2)⟩
theorem RepL.take {S : Nat → Nat → Prop} {W : World} {L : Link} {ds : List DV} {ys : List Value} (h : RepL S W L ds ys) (n : Nat) : RepL S W L (ds.take n) (ys.take n) :=
  ⟨by simp [h.1], fun i d y h1 h2 => by
    rw [List.getElem?_take] at h1 h2
    split at h1
    · rename_i hi; rw [if_pos hi] at h2; exact h.2 i d y h1 h2
    · cases h1⟩

theorem Rep.one {S : Nat → Nat → Prop} {W : World} {L : Link} {d : DV} {y : Value} (h : Rep S W L d y) (ho : d.one = true) : y.oneCell' = true := by
  cases h with
  | v _ _ => cases y <;> simp_all [DV.one, Value.oneCell']
  | own _ _ _ _ _ _ _ _ h => cases h; rfl
  | _ => simp_all [DV.one, Value.oneCell']

theorem Rep.cells {S : Nat → Nat → Prop} {W : World} {L : Link} {d : DV} {y : Value} (h : Rep S W L d y) (hu : d ≠ .u) : RepL S W L d.cells y.cells.toList := by
  cases h with
  | u _ => exact absurd rfl hu
  | v _ _ =>
    cases y <;> try exact .cons (.v _ _) .nil
    rename_i cs
    refine ⟨by simp [DV.cells, Value.cells], fun i d y h1 h2 => ?_⟩
    simp only [DV.cells, Value.cells, List.getElem?_map, Option.map_eq_some_iff] at h1 h2
    obtain ⟨x, hx, rfl⟩ := h1
    rw [hx] at h2
    obtain rfl := Option.some.inj h2
    exact .v _ _
  | agg _ cs ys hl hh => exact ⟨by simpa [DV.cells, Value.cells] using hl, fun i d y h1 h2 => hh i d y h1 (by simpa [Value.cells] using h2)⟩
  | tup _ cs ys hl hh => exact .cons (.tup _ cs ys hl hh) .nil
  | ifc _ t x y h => exact .cons (.ifc _ t x y h) .nil
  | list _ sz l ys a len cap b o h1 h3 h4 h5 h6 h7 h8 => exact .cons (.list _ sz l ys a len cap b o h1 h3 h4 h5 h6 h7 h8) .nil
  | own _ id e sz l y N B h1 h2 h3 h4 =>
    have hk : y.cells.toList = [y] := by cases h1; rfl
    rw [hk]
    exact .cons (.own _ id e sz l y N B h1 h2 h3 h4) .nil
  | full _ sz l a n h => exact .cons (.full _ sz l a n h) .nil
  | lp _ k off b h => exact .cons (.lp _ k off b h) .nil
  | row _ k sz n b cap h hc => exact .cons (.row _ k sz n b cap h hc) .nil
  | ep _ x off b o ys h1 h2 h3 => exact .cons (.ep _ x off b o ys h1 h2 h3) .nil
  | fn _ f cs ys hl hh => exact .cons (.fn _ f cs ys hl hh) .nil

end Go.Proofs.YtlbodfkhenkcjaaGreatDoor.D


namespace Go.Proofs.YtlbodfkhenkcjaaGreatDoor.D
open Go Go.RowKit

inductive Opd where
  | t (n : Nat)
  | c (x : Value)
  | f (g : FuncId)

inductive DOp where
  | mv (x : Opd)
  | pick (c a b : Opd)
  | box (x : Opd)
  | zero (z : Value)
  | ld (n : Nat) (agg : Bool) (a : Opd)
  | st (n : Nat) (a x : Opd)
  | nilc (x : Opd)
  | bin (op : BinOp) (x y : Opd)
  | beq (neg : Bool) (x y : Opd)
  | isnil (kind : Nat) (neg : Bool) (x : Opd)
  | un (op : UnOp) (x : Opd)
  | cvt (k : IntKind) (x : Opd)
  | s2b (x : Opd)
  | b2s (x : Opd)
  | mki (t : TypeId) (x : Opd)
  | mkf (f : FuncId) (cs : List Opd)
  | slS (x : Opd) (lo hi : Option Opd)
  | slL (sz : Nat) (x : Opd) (lo hi mx : Option Opd)
  | fa (off : Nat) (x : Opd)
  | fld (off n : Nat) (agg : Bool) (x : Opd)
  | ixa (sz : Nat) (x i : Opd)
  | ixp (len sz : Nat) (x i : Opd)
  | ixs (x i : Opd)
  | ixv (len n : Nat) (agg : Bool) (x i : Opd)
  | ta (t : TypeId) (ok : Bool) (zero : Value) (x : Opd)
  | ext (x : Opd) (i : Nat)
  | len (str : Bool) (x : Opd)
  | mm (mx : Bool) (x : Opd) (xs : List Opd)
  | app (e sz bytes : Nat) (s x : Opd)
  | bld (zero : List Value) (parts : List (Nat × Nat × Opd))
  | bsl (sz : Nat) (parts : List Opd)
  | call (f : FuncId) (args : List Opd)
  | calle (f : FuncId) (args : List Opd)
  | callv (x : Opd) (args : List Opd)
  | inv (m : String) (x : Opd) (args : List Opd)
  | eqs (neg : Bool) (ks : List Nat) (x y : Opd)

structure Op1 where
  dst : Option Nat
  op : DOp
  grd : Option (Nat × Bool)

inductive Sp where
  | mks (bytes : Nat) (z : Value) (l c : Opd)
  | callr (f : FuncId) (args : List Opd)
  | appr (e sz bytes : Nat) (s x : Opd)

inductive XOp where
  | op (o : Op1)
  | sp (dst : Option Nat) (s : Sp)

inductive DCode where
  | skip
  | reg (ops : List Op1)
  | xreg (ops : List XOp)
  | gh
  | seq (a b : DCode)
  | cond (c : Opd) (a b : DCode)
  | block (id : Nat) (a : DCode)
  | loop (a : DCode)
  | exit (id : Nat)
  | ret

def DV.isU : DV → Bool
  | .u => true
  | _ => false

theorem DV.isU_false {d : DV} (h : d.isU = false) : d ≠ .u := by rintro rfl; cases h

structure St where
  env : List (Nat × DV)
  loc : List (List DV)
  ow : List Nat

def look : List (Nat × DV) → Nat → DV
  | [], _ => .u
  | (k, d) :: r, n => match Nat.beq n k with
    | true => d
    | false => look r n

theorem look_cons {k n : Nat} {d : DV} {r : List (Nat × DV)} : look ((k, d) :: r) n = if n = k then d else look r n := by
  simp only [look]
  by_cases h : n = k
  · subst h; simp
  · have : Nat.beq n k = false := by
      cases hb : Nat.beq n k with
      | false => rfl
      | true => exact absurd (Nat.eq_of_beq_eq_true hb) h
    rw [this, if_neg h]

def ev (env : List (Nat × DV)) : Opd → DV
  | .t n => look env n
  | .c x => .v x
  | .f g => .fn g []

def putE (env : List (Nat × DV)) (dst : Option Nat) (d : DV) : List (Nat × DV) :=
  match dst with
  | some n => (n, d) :: env
  | none => env

def plains : List DV → Option (List Value)
  | [] => some []
  | .v x :: r => (plains r).map (x :: ·)
  | _ :: _ => none

def mkAgg (cs : List DV) : DV :=
  match plains cs with
  | some xs => .v (.agg xs.toArray)
  | none => .agg cs

def mkTup (cs : List DV) : DV :=
  match plains cs with
  | some xs => .v (.tuple xs.toArray)
  | none => .tup cs

def mkIfc (t : TypeId) : DV → DV
  | .v x => .v (.iface t x)
  | d => .ifc t d

def part (agg : Bool) (cs : List DV) : DV := if agg then mkAgg cs else cs.headD .u

def dint (op : BinOp) (k : IntKind) (a b : Int) : Option Value :=
  match op with
  | .add => some (.int k (k.wrap (a + b)))
  | .sub => some (.int k (k.wrap (a - b)))
  | .mul => some (.int k (k.wrap (a * b)))
  | .quo => if b = 0 then none else some (.int k (k.wrap (a.tdiv b)))
  | .rem => if b = 0 then none else some (.int k (a.tmod b))
  | .and => some (.int k (k.wrap (BitVec.ofInt k.bits a &&& BitVec.ofInt k.bits b).toNat))
  | .or => some (.int k (k.wrap (BitVec.ofInt k.bits a ||| BitVec.ofInt k.bits b).toNat))
  | .xor => some (.int k (k.wrap (BitVec.ofInt k.bits a ^^^ BitVec.ofInt k.bits b).toNat))
  | .andNot => some (.int k (k.wrap (BitVec.ofInt k.bits a &&& ~~~ BitVec.ofInt k.bits b).toNat))
  | .eql => some (.bool (a == b))
  | .neq => some (.bool (a != b))
  | .lss => some (.bool (decide (a < b)))
  | .leq => some (.bool (decide (a ≤ b)))
  | .gtr => some (.bool (decide (b < a)))
  | .geq => some (.bool (decide (b ≤ a)))
  | _ => none

def dshift (op : BinOp) (k : IntKind) (a y : Int) : Option Value :=
  if y < 0 then none else
  match op with
  | .shl => some (.int k (k.wrap (a * 2 ^ (min y.toNat k.bits))))
  | .shr => some (.int k (a.fdiv (2 ^ (min y.toNat k.bits))))
  | _ => none

def dstr (op : BinOp) (a b : ByteArray) : Option Value :=
  match op with
  | .add => if a.size + b.size ≤ 9223372036854775807 then some (.string (a ++ b)) else none
  | .eql => some (.bool (a.toList == b.toList))
  | .neq => some (.bool (!(a.toList == b.toList)))
  | .lss => some (.bool (Op.bytesLess a.toList b.toList))
  | .leq => some (.bool (Op.bytesLess a.toList b.toList || a.toList == b.toList))
  | .gtr => some (.bool (!(Op.bytesLess a.toList b.toList || a.toList == b.toList)))
  | .geq => some (.bool (!(Op.bytesLess a.toList b.toList)))
  | _ => none

def dbin (op : BinOp) (x y : Value) : Option Value :=
  match op, x, y with
  | .shl, .int k a, .int _ b => dshift .shl k a b
  | .shr, .int k a, .int _ b => dshift .shr k a b
  | op, .int k a, .int k' b => if k = k' then dint op k a b else none
  | op, .string a, .string b => dstr op a b
  | _, _, _ => none

def dun (op : UnOp) (x : Value) : Option Value :=
  match op, x with
  | .neg, .int k n => some (.int k (k.wrap (0 - n)))
  | .xor, .int k n => some (.int k (k.wrap (BitVec.ofInt k.bits (if k.signed then -1 else k.max) ^^^ BitVec.ofInt k.bits n).toNat))
  | .not, .bool b => some (.bool !b)
  | _, _ => none

def dmm (mx : Bool) (x y : Value) : Option Value :=
  match x, y with
  | .int k a, .int _ b => some (.int k (if mx then (if b > a then b else a) else (if b < a then b else a)))
  | _, _ => none

def asFn : DV → Option (FuncId × List DV)
  | .fn f cs => some (f, cs)
  | .v (.func (.func f) first cs) => if first.size = 0 then some (f, cs.toList.map .v) else none
  | _ => none

def cellEq (k : Nat) (x y : Value) : Option Bool :=
  match k, x, y with
  | 0, .bool a, .bool b => some (a == b)
  | 1, .int k a, .int k' b => if k = k' then some (a == b) else none
  | 2, .string a, .string b => some (a.toList == b.toList)
  | _, _, _ => none

def cellsEq : List Nat → List Value → List Value → Option Bool
  | [], [], [] => some true
  | k :: ks, x :: xs, y :: ys => match cellEq k x y, cellsEq ks xs ys with
    | some a, some b => some (a && b)
    | _, _ => none
  | _, _, _ => none

def dnil (kind : Nat) (d : DV) : Option Bool :=
  match kind, d with
  | 0, .v .nilIface => some true
  | 0, .v (.iface _ _) => some false
  | 0, .ifc _ _ => some false
  | 1, .v (.pointer none) => some true
  | 1, .v (.pointer (some _)) => some false
  | 1, .lp _ _ => some false
  | 1, .ep _ _ => some false
  | 2, .v .nilFunc => some true
  | 2, .v (.func (.func _) _ _) => some false
  | 2, .fn _ _ => some false
  | _, _ => none

def asNat (x : DV) (K : Nat → Prop) : Prop :=
  match x with
  | .v (.int _ n) => 0 ≤ n ∧ K n.toNat
  | _ => False

def optNat (env : List (Nat × DV)) (o : Option Opd) (dflt : Nat) (K : Nat → Prop) : Prop :=
  match o with
  | none => K dflt
  | some x => asNat (ev env x) K

def elems : DV → Option (List DV)
  | .list _ l => some l
  | .own _ _ _ l => some l
  | .full _ l => some l
  | .v (.slice none 0 0) => some []
  | _ => none

def fitsSz (sz : Nat) : DV → Bool
  | .list s _ => s == sz
  | .own _ _ s _ => s == sz
  | .full s _ => s == sz
  | .v (.slice none 0 0) => true
  | _ => false

def fillD (cs : List DV) : List (Nat × List DV) → Option (List DV)
  | [] => some cs
  | (off, ds) :: r => if off + ds.length ≤ cs.length then fillD (cs.take off ++ ds ++ cs.drop (off + ds.length)) r else none

def byteAt (s : ByteArray) (n : Nat) : Int := (((s.data.toList[n]?).getD 0).toNat : Int)
theorem byteAt_eq {s : ByteArray} {n : Nat} (h : n < s.size) : ((s[n]'h).toNat : Int) = byteAt s n := by
  have hi : n < s.data.toList.length := by simpa using h
  simp [byteAt, ByteArray.getElem_eq_getElem_data, List.getElem?_eq_getElem hi]

def bytesD (bs : List UInt8) : List DV := bs.map fun b => .v (.int .u8 b.toNat)

def nums : List DV → Option (List Int)
  | [] => some []
  | .v (.int .u8 n) :: r => (nums r).map (n :: ·)
  | _ :: _ => none

theorem nums_map : ∀ (ns : List Int), nums (ns.map fun n => .v (.int .u8 n)) = some ns
  | [] => rfl
  | n :: r => by simp [nums, nums_map r]

def aggCells : DV → Option (List DV)
  | .v (.agg cs) => some (cs.toList.map .v)
  | .agg cs => some cs
  | _ => none


inductive Wk : DV → DV → Prop where
  | u (d : DV) : Wk d .u
  | v (x : Value) : Wk (.v x) (.v x)
  | agg (cs ds : List DV) : cs.length = ds.length → (∀ (i : Nat) (c d : DV), cs[i]? = some c → ds[i]? = some d → Wk c d) → Wk (.agg cs) (.agg ds)
  | vagg (xs : List Value) (ds : List DV) : xs.length = ds.length → (∀ (i : Nat) (x : Value) (d : DV), xs[i]? = some x → ds[i]? = some d → Wk (.v x) d) → Wk (.v (.agg xs.toArray)) (.agg ds)
  | tup (cs ds : List DV) : cs.length = ds.length → (∀ (i : Nat) (c d : DV), cs[i]? = some c → ds[i]? = some d → Wk c d) → Wk (.tup cs) (.tup ds)
  | vtup (xs : List Value) (ds : List DV) : xs.length = ds.length → (∀ (i : Nat) (x : Value) (d : DV), xs[i]? = some x → ds[i]? = some d → Wk (.v x) d) → Wk (.v (.tuple xs.toArray)) (.tup ds)
  | ifc (t : TypeId) (x d : DV) : Wk x d → Wk (.ifc t x) (.ifc t d)
  | vifc (t : TypeId) (x : Value) (d : DV) : Wk (.v x) d → Wk (.v (.iface t x)) (.ifc t d)
  | nil (sz : Nat) (cap : Nat) (a : Option Addr) : Wk (.v (.slice a 0 cap)) (.list sz [])
  | list (sz : Nat) (l : List DV) : Wk (.list sz l) (.list sz l)
  | own (id e sz : Nat) (l : List DV) : Wk (.own id e sz l) (.list sz l)
  | full (sz : Nat) (l : List DV) : Wk (.full sz l) (.list sz l)
  | fn (f : FuncId) (cs ds : List DV) : cs.length = ds.length → (∀ (i : Nat) (c d : DV), cs[i]? = some c → ds[i]? = some d → Wk c d) → Wk (.fn f cs) (.fn f ds)
  | ep (x : DV) (off : Nat) : Wk (.ep x off) (.ep x off)

theorem Rep.wk {S : Nat → Nat → Prop} {W : World} {L : Link} {d d' : DV} (h : Wk d d') : ∀ {y : Value}, Rep S W L d y → Rep S W noLink d' y := by
  induction h with
  | u d => exact fun _ => .u _ _
  | v x => intro y h; cases h; exact .v _ _
  | agg cs ds hl _ ih =>
    intro y h
    cases h with
    | agg _ _ ys hy hh =>
      refine .agg _ _ ys (hl ▸ hy) fun i d y h1 h2 => ?_
      have hi : i < cs.length := by rw [hl]; exact (List.getElem?_eq_some_iff.1 h1).1
      exact ih i _ d (List.getElem?_eq_getElem hi) h1 (hh i _ y (List.getElem?_eq_getElem hi) h2)
  | vagg xs ds hl _ ih =>
    intro y h
    cases h
    refine .agg _ _ xs hl.symm fun i d y h1 h2 => ?_
    exact ih i y d h2 h1 (.v _ _)
  | tup cs ds hl _ ih =>
    intro y h
    cases h with
    | tup _ _ ys hy hh =>
      refine .tup _ _ ys (hl ▸ hy) fun i d y h1 h2 => ?_
      have hi : i < cs.length := by rw [hl]; exact (List.getElem?_eq_some_iff.1 h1).1
      exact ih i _ d (List.getElem?_eq_getElem hi) h1 (hh i _ y (List.getElem?_eq_getElem hi) h2)
  | vtup xs ds hl _ ih =>
    intro y h
    cases h
    refine .tup _ _ xs hl.symm fun i d y h1 h2 => ?_
    exact ih i y d h2 h1 (.v _ _)
  | ifc t x d _ ih => intro y h; cases h with | ifc _ _ _ y h => exact .ifc _ _ _ _ (ih h)
  | vifc t x d _ ih => intro y h; cases h; exact .ifc _ _ _ _ (ih (.v _ _))
  | nil sz cap a =>
    intro y h
    cases h
    exact .list _ sz [] [] a 0 cap 0 0 ⟨rfl, Nat.zero_le _⟩ (by simp) (by simp) (by simp) rfl (by simp) (by simp)
  | list sz l => intro y h; cases h with | list _ _ _ ys a len cap b o h1 h3 h4 h5 h6 h7 h8 => exact .list _ sz l ys a len cap b o h1 h3 h4 h5 h6 h7 h8
  | own id e sz l => intro y h; cases h with | own _ _ _ _ _ _ N B h _ _ _ => cases h with | list _ _ _ ys a len cap b o h1 h3 h4 h5 h6 h7 h8 => exact .list _ sz l ys a len cap b o h1 h3 h4 h5 h6 h7 h8
  | full sz l => intro y h; cases h with | full _ _ _ _ n h => cases h with | list _ _ _ ys a len cap b o h1 h3 h4 h5 h6 h7 h8 => exact .list _ sz l ys _ n n b o h1 h3 h4 h5 h6 h7 h8
  | fn f cs ds hl _ ih =>
    intro y h
    cases h with
    | fn _ _ _ ys hy hh =>
      refine .fn _ f _ ys (hl ▸ hy) fun i d y h1 h2 => ?_
      have hi : i < cs.length := by rw [hl]; exact (List.getElem?_eq_some_iff.1 h1).1
      exact ih i _ d (List.getElem?_eq_getElem hi) h1 (hh i _ y (List.getElem?_eq_getElem hi) h2)
  | ep x off => intro y h; cases h with | ep _ _ _ b o ys h1 h2 h3 => exact .ep _ x off b o ys h1 h2 h3

def WkL (ds es : List DV) : Prop := ds.length = es.length ∧ ∀ (i : Nat) (c d : DV), ds[i]? = some c → es[i]? = some d → Wk c d

theorem WkL.nil : WkL [] [] := ⟨rfl, fun i c d h => by simp at h⟩
theorem WkL.cons {c d : DV} {cs ds : List DV} (h : Wk c d) (k : WkL cs ds) : WkL (c :: cs) (d :: ds) :=
  ⟨by simp [k.1], fun i c' d' h1 h2 => by
    cases i with
    | zero => simp at h1 h2; subst h1; subst h2; exact h
    | succ i => exact k.2 i c' d' (by simpa using h1) (by simpa using h2)⟩
theorem Wk.aggL {cs ds : List DV} (h : WkL cs ds) : Wk (.agg cs) (.agg ds) := .agg _ _ h.1 h.2
theorem Wk.vaggL {xs : List Value} {ds : List DV} (h : WkL (xs.map .v) ds) : Wk (.v (.agg xs.toArray)) (.agg ds) :=
  .vagg _ _ (by simpa using h.1) fun i x d h1 h2 => h.2 i _ d (by simp [h1]) h2
theorem Wk.tupL {cs ds : List DV} (h : WkL cs ds) : Wk (.tup cs) (.tup ds) := .tup _ _ h.1 h.2
theorem Wk.vtupL {xs : List Value} {ds : List DV} (h : WkL (xs.map .v) ds) : Wk (.v (.tuple xs.toArray)) (.tup ds) :=
  .vtup _ _ (by simpa using h.1) fun i x d h1 h2 => h.2 i _ d (by simp [h1]) h2
theorem Wk.fnL {f : FuncId} {cs ds : List DV} (h : WkL cs ds) : Wk (.fn f cs) (.fn f ds) := .fn _ _ _ h.1 h.2

theorem RepL.wk {S : Nat → Nat → Prop} {W : World} {L : Link} {ds es : List DV} {ys : List Value} (h : RepL S W L ds ys) (w : WkL ds es) : RepL S W noLink es ys := by
  refine ⟨by rw [← w.1]; exact h.1, fun i d y h1 h2 => ?_⟩
  have hi : i < ds.length := by rw [w.1]; exact (List.getElem?_eq_some_iff.1 h1).1
  exact (h.2 i _ y (List.getElem?_eq_getElem hi) h2).wk (w.2 i _ d (List.getElem?_eq_getElem hi) h1)

structure Inv where
  I : World → Prop
  keep : ∀ W W', I W → Below W.heap.size W W' → I W'

def callable (P : Program) (f : FuncId) : Bool :=
  match P.funcs[f]? with
  | some fn => fn.name != "runtime.NumGoroutine" && fn.body.isSome
  | none => false

def rowOf : DV → Option (Nat × Nat × Nat)
  | .row k sz n => some (k, sz, n)
  | _ => none
def asIfc : DV → Option (TypeId × DV)
  | .ifc t d => some (t, d)
  | .v (.iface t y) => some (t, .v y)
  | _ => none
def Meth (P : Program) (t : TypeId) (m : String) (f : FuncId) : Prop := ∀ (v : Value) (W : World), (Go.method (P.types.size + Made.depth) t v m).run P W = .ok (f, v) W

def DPure (P : Program) (I : Inv) (f : FuncId) (args : List DV) (r : DV) : Prop :=
  callable P f = true ∧ ∀ (S : Nat → Nat → Prop) (W : World) (vals : List Value), I.I W → RepL S W noLink args vals →
    Calls P f vals.toArray W fun e W' => ∃ y, e = .returned y ∧ Rep (fun b o => S b o ∨ W.heap.size ≤ b) W' noLink r y ∧ Below W.heap.size W W'

structure Base where
  W0 : World
  S0 : Nat → Nat → Prop

def stab (B : Base) (L : Link) (b o : Nat) : Prop :=
  (b < B.W0.heap.size ∧ B.S0 b o) ∨ (B.W0.heap.size ≤ b ∧ (b ∉ L.bx ∨ b ∈ L.fz) ∧ ∀ (id N : Nat), L.ow[id]? = some (N, some b) → o < N)

structure Sim (I : Inv) (B : Base) (L : Link) (W : World) (loc : List (List DV)) (ow : List Nat) : Prop where
  inv : I.I B.W0
  below : Below B.W0.heap.size B.W0 W
  blen : L.bx.length = loc.length
  bge : ∀ (k b : Nat), L.bx[k]? = some b → B.W0.heap.size ≤ b ∧ b < W.heap.size
  bnd : ∀ (j k b : Nat), L.bx[j]? = some b → L.bx[k]? = some b → j = k
  box : ∀ (k : Nat) (cs : List DV), loc[k]? = some cs → ∃ (b : Nat) (ys : List Value) (T : TypeId), L.bx[k]? = some b ∧ W.heap[b]? = some (.cells ys.toArray T (0, 0)) ∧ (b ∉ L.fz → RepL (stab B L) W L cs ys)
  olen : L.ow.map (·.1) = ow
  oge : ∀ (id N g : Nat), L.ow[id]? = some (N, some g) → B.W0.heap.size ≤ g ∧ g < W.heap.size ∧ g ∉ L.bx
  ond : ∀ (i j N M g : Nat), L.ow[i]? = some (N, some g) → L.ow[j]? = some (M, some g) → i = j
  frz : ∀ (k b : Nat), L.bx[k]? = some b → b ∈ L.fz → loc[k]? = some []
  flt : ∀ b ∈ L.fz, b < W.heap.size

def DEff (P : Program) (I : Inv) (f : FuncId) (args : List DV) (loc : List (List DV)) (ow : List Nat) (r : DV) (loc' : List (List DV)) (ow' : List Nat) : Prop :=
  callable P f = true ∧ ∀ (B : Base) (W : World) (L : Link) (vals : List Value), Sim I B L W loc ow → RepL (stab B L) W L args vals →
    Calls P f vals.toArray W fun e W' => ∃ y L', e = .returned y ∧ Sim I B L' W' loc' ow' ∧ Step (stab B L) L W (stab B L') L' W' ∧ Rep (stab B L') W' L' r y

mutual
def okD (m k : Nat) : DV → Bool
  | .agg cs => okL m k cs
  | .tup cs => okL m k cs
  | .fn _ cs => okL m k cs
  | .ifc _ d => okD m k d
  | .lp j _ => Nat.blt j m
  | .row j _ _ => Nat.blt j m
  | .own id _ _ _ => Nat.blt id k
  | _ => true
def okL (m k : Nat) : List DV → Bool
  | [] => true
  | d :: r => okD m k d && okL m k r
end

inductive LtD (m k z : Nat) : DV → DV → Prop where
  | same {d : DV} : okD m k d = true → LtD m k z d d
  | wk {d d' : DV} : Wk d d' → LtD m k z d d'
  | u {d : DV} : LtD m k z d .u
  | own {id e sz : Nat} : Nat.ble k id = true → Nat.blt id (k + z) = true → LtD m k z (.v (.slice none 0 0)) (.own id e sz [])
  | ownf {id e sz : Nat} : Nat.ble k id = true → Nat.blt id (k + z) = true → LtD m k z (.full sz []) (.own id e sz [])

def lessE (m k z : Nat) (env : List (Nat × DV)) : List (Nat × DV) → Prop
  | [] => True
  | (t, d) :: r => LtD m k z (look env t) d ∧ lessE m k z env r

def okLL (m k : Nat) : List (List DV) → Bool
  | [] => true
  | l :: r => okL m k l && okLL m k r

inductive Less (m0 k0 : Nat) (σ' σ : St) : Prop where
  | mk (m k z : Nat) : Nat.ble m0 m = true → Nat.ble k0 k = true → lessE m k z σ.env σ'.env → σ'.loc = σ.loc.take m → okLL m k σ'.loc = true → σ'.ow = σ.ow.take k ++ List.replicate z 0 → Nat.ble k σ.ow.length = true → Less m0 k0 σ' σ

def plainC (cs : List DV) : Bool := cs.all fun d => match d with
  | .v (.agg _) | .v (.tuple _) => false
  | .v _ => true
  | _ => false

mutual
def noK (k : Nat) : DV → Bool
  | .agg cs => noKL k cs
  | .tup cs => noKL k cs
  | .fn _ cs => noKL k cs
  | .ifc _ d => noK k d
  | .lp j _ => !Nat.beq j k
  | .row j _ _ => !Nat.beq j k
  | .own _ _ _ _ => true
  | _ => true
def noKL (k : Nat) : List DV → Bool
  | [] => true
  | d :: r => noK k d && noKL k r
end

def frzD (k sz : Nat) (l : List DV) (d : DV) : DV :=
  match d with
  | .row j sz' n => match Nat.beq j k with
    | true => .list sz l
    | false => .row j sz' n
  | d => match noK k d with
    | true => d
    | false => .u
def frzE (k sz : Nat) (l : List DV) : List (Nat × DV) → List (Nat × DV)
  | [] => []
  | (t, d) :: r => (t, frzD k sz l d) :: frzE k sz l r
def frzS (k sz : Nat) (l : List DV) (σ : St) : St := ⟨frzE k sz l σ.env, (σ.loc.map fun cs => cs.map (frzD k sz l)).set k [], σ.ow⟩
def frzOk (k sz : Nat) (l : List DV) (σ : St) : Prop :=
  ∃ cs, σ.loc[k]? = some cs ∧ cs.isEmpty = false ∧ (∀ d ∈ l, d.cells.length = sz) ∧ plainC (l.flatMap DV.cells) = true ∧ (l.flatMap DV.cells).length ≤ cs.length ∧ cs.take (l.flatMap DV.cells).length = l.flatMap DV.cells
def rowP (k sz n : Nat) (d : DV) : Prop :=
  match d with
  | .row j sz' n' => match Nat.beq j k with
    | true => sz' = sz ∧ n' = n
    | false => True
  | _ => True
def rowsL (k sz n : Nat) : List DV → Prop
  | [] => True
  | d :: r => rowP k sz n d ∧ rowsL k sz n r
def rowsE (k sz n : Nat) : List (Nat × DV) → Prop
  | [] => True
  | (_, d) :: r => rowP k sz n d ∧ rowsE k sz n r
def rowsLL (k sz n : Nat) : List (List DV) → Prop
  | [] => True
  | l :: r => rowsL k sz n l ∧ rowsLL k sz n r
def noCap : DV → Bool
  | .v (.slice none 0 0) => true
  | .full _ [] => true
  | _ => false

inductive Fin (m0 k0 : Nat) (d : DV) (σ : St) (r : DV) (loc' : List (List DV)) (ow' : List Nat) : Prop where
  | same : d = r → σ.loc = loc' → σ.ow = ow' → Fin m0 k0 d σ r loc' ow'
  | wk : Wk d r → σ.loc = loc' → σ.ow = ow' → Fin m0 k0 d σ r loc' ow'
  | cut (m k : Nat) : m0 ≤ m → k0 ≤ k → LtD m k 0 d r → σ.loc.take m = loc' → okLL m k loc' = true → σ.ow.take k = ow' → k ≤ σ.ow.length → Fin m0 k0 d σ r loc' ow'

section
variable (P : Program) (I : Inv)

def ap (o : DOp) (σ : St) (K : DV → Prop) : Prop :=
  match o with
  | .mv x => K (ev σ.env x)
  | .pick c a b => match ev σ.env c with
    | .v (.bool t) => K (if t = true then ev σ.env a else ev σ.env b)
    | _ => False
  | .ld n agg a => match ev σ.env a with
    | .lp k off => ∃ cs, σ.loc[k]? = some cs ∧ Nat.ble (off + n) cs.length = true ∧ K (part agg ((cs.drop off).take n))
    | .ep x off => Nat.ble (off + n) x.cells.length = true ∧ K (part agg ((x.cells.drop off).take n))
    | _ => False
  | .nilc x => (dnil 0 (ev σ.env x) = some false ∨ dnil 1 (ev σ.env x) = some false ∨ dnil 2 (ev σ.env x) = some false) ∧ K (ev σ.env x)
  | .bin op x y => match ev σ.env x, ev σ.env y with
    | .v a, .v b => ∃ r, dbin op a b = some r ∧ K (.v r)
    | _, _ => False
  | .beq neg x y => match ev σ.env x, ev σ.env y with
    | .v (.bool a), .v (.bool b) => K (.v (.bool (if neg = true then !(a == b) else a == b)))
    | _, _ => False
  | .isnil kind neg x => ∃ t, dnil kind (ev σ.env x) = some t ∧ K (.v (.bool (if neg = true then !t else t)))
  | .un op x => match ev σ.env x with
    | .v a => ∃ r, dun op a = some r ∧ K (.v r)
    | _ => False
  | .cvt k x => match ev σ.env x with
    | .v (.int _ n) => ∃ m, k.wrap n = m ∧ K (.v (.int k m))
    | _ => False
  | .s2b x => match ev σ.env x with
    | .v (.string s) => K (.list 1 (bytesD s.data.toList))
    | _ => False
  | .b2s x => ∃ l ns, elems (ev σ.env x) = some l ∧ fitsSz 1 (ev σ.env x) = true ∧ nums l = some ns ∧ K (.v (.string (strOfNums ns)))
  | .mki t x => K (mkIfc t (ev σ.env x))
  | .mkf f cs => K (.fn f (cs.map (ev σ.env)))
  | .slS x lo hi => match ev σ.env x with
    | .v (.string s) => optNat σ.env lo 0 fun l => optNat σ.env hi s.size fun h => l ≤ h ∧ h ≤ s.size ∧ K (.v (.string (s.extract l h)))
    | _ => False
  | .slL sz x lo hi mx => ∃ l, elems (ev σ.env x) = some l ∧ fitsSz sz (ev σ.env x) = true ∧
      optNat σ.env mx l.length fun m => optNat σ.env hi l.length fun h => optNat σ.env lo 0 fun k => k ≤ h ∧ h ≤ m ∧ m ≤ l.length ∧ K (.list sz ((l.take h).drop k))
  | .fa off x => match ev σ.env x with
    | .lp k o => K (.lp k (o + off))
    | .ep d o => K (.ep d (o + off))
    | _ => False
  | .fld off n agg x => ∃ cs, aggCells (ev σ.env x) = some cs ∧ Nat.ble (off + n) cs.length = true ∧ K (part agg ((cs.drop off).take n))
  | .ixa sz x i => asNat (ev σ.env i) fun n => match rowOf (ev σ.env x) with
    | some (k, sz', m) => sz' = sz ∧ n < m ∧ K (.lp k (n * sz))
    | none => ∃ l d, elems (ev σ.env x) = some l ∧ fitsSz sz (ev σ.env x) = true ∧ l[n]? = some d ∧ K (.ep d 0)
  | .ixp len sz x i => asNat (ev σ.env i) fun n => n < len ∧ match ev σ.env x with
    | .lp k o => K (.lp k (o + n * sz))
    | .ep d o => K (.ep d (o + n * sz))
    | _ => False
  | .ixs x i => match ev σ.env x with
    | .v (.string s) => asNat (ev σ.env i) fun n => n < s.size ∧ K (.v (.int .u8 (byteAt s n)))
    | _ => False
  | .ixv len n agg x i => asNat (ev σ.env i) fun j => ∃ cs, aggCells (ev σ.env x) = some cs ∧ j < len ∧ j * n + n ≤ cs.length ∧ K (part agg ((cs.drop (j * n)).take n))
  | .ta t ok z x => match ev σ.env x with
    | .v .nilIface => ok = true ∧ K (.v (.tuple #[z, .bool false]))
    | .v (.iface t' y) => if t' = t then K (if ok = true then .v (.tuple #[y, .bool true]) else .v y) else ok = true ∧ K (.v (.tuple #[z, .bool false]))
    | .ifc t' d => if t' = t then K (if ok = true then .tup [d, .v (.bool true)] else d) else ok = true ∧ K (.v (.tuple #[z, .bool false]))
    | _ => False
  | .ext x i => match ev σ.env x with
    | .tup cs => ∃ d, cs[i]? = some d ∧ K d
    | .v (.tuple ys) => ∃ y, ys[i]? = some y ∧ K (.v y)
    | _ => False
  | .len str x => if str = true then (match ev σ.env x with
      | .v (.string s) => K (.v (.int .i64 s.size))
      | _ => False)
    else match rowOf (ev σ.env x) with
      | some (_, _, m) => K (.v (.int .i64 m))
      | none => ∃ l, elems (ev σ.env x) = some l ∧ K (.v (.int .i64 l.length))
  | .mm mx x xs => match ev σ.env x with
    | .v a => ∃ (bs : List Value) (r : Value), xs.map (ev σ.env) = bs.map .v ∧ bs.foldlM (dmm mx) a = some r ∧ K (.v r)
    | _ => False
  | .bld z parts => ∃ cs, fillD (z.map .v) (parts.map fun p => (p.1, (ev σ.env p.2.2).cells)) = some cs ∧
      parts.all (fun p => Nat.beq (ev σ.env p.2.2).cells.length p.2.1 && !(ev σ.env p.2.2).isU) = true ∧ K (mkAgg cs)
  | .bsl sz parts => ∃ es, WkL (parts.map (ev σ.env)) es ∧ es.all (fun d => Nat.beq d.cells.length sz && d.cells.all DV.one) = true ∧ K (.full sz es)
  | .call f args => ∃ es r, WkL (args.map (ev σ.env)) es ∧ DPure P I f es r ∧ K r
  | .inv m x args => ∃ t d f es r, asIfc (ev σ.env x) = some (t, d) ∧ Meth P t m f ∧ WkL (d :: args.map (ev σ.env)) es ∧ DPure P I f es r ∧ K r
  | .eqs neg ks x y => match ev σ.env x, ev σ.env y with
    | .v (.agg xs), .v (.agg ys) => ∃ b, cellsEq ks xs.toList ys.toList = some b ∧ K (.v (.bool (if neg = true then !b else b)))
    | _, _ => False
  | _ => False

def doCall (f : FuncId) (args : List DV) (σ : St) (K : DV → St → Prop) : Prop :=
  (∃ es r, WkL args es ∧ DPure P I f es r ∧ K r σ) ∨ ∃ r loc' ow', DEff P I f args σ.loc σ.ow r loc' ow' ∧ K r ⟨σ.env, loc', ow'⟩

def dop (o : DOp) (σ : St) (K : DV → St → Prop) : Prop :=
  match o with
  | .box x => (ev σ.env x).isU = false ∧ K (.lp σ.loc.length 0) { σ with loc := σ.loc ++ [(ev σ.env x).cells] }
  | .zero z => K (.lp σ.loc.length 0) { σ with loc := σ.loc ++ [(DV.v z).cells] }
  | .st n a x => match ev σ.env a with
    | .lp k off => ∃ cs, σ.loc[k]? = some cs ∧ (Nat.ble (off + n) cs.length && (Nat.beq (ev σ.env x).cells.length n && (ev σ.env x).cells.all DV.one)) = true ∧
        K (.v undef) { σ with loc := σ.loc.set k (cs.take off ++ (ev σ.env x).cells ++ cs.drop (off + n)) }
    | _ => False
  | .app e sz bytes s x => ∃ xs, elems (ev σ.env x) = some xs ∧ fitsSz sz (ev σ.env x) = true ∧ match ev σ.env s with
    | .own id e' sz' l => e' = e ∧ sz' = sz ∧ σ.ow[id]? = some (l.length * sz) ∧ (l.length + xs.length) * bytes ≤ 140737488355328 ∧
        K (.own id e sz (l ++ xs)) { σ with ow := σ.ow.set id ((l.length + xs.length) * sz) }
    | .full sz' l => sz' = sz ∧ ((xs.isEmpty = false ∧ (l.length + xs.length) * bytes ≤ 140737488355328 ∧ K (.own σ.ow.length e sz (l ++ xs)) { σ with ow := σ.ow ++ [(l.length + xs.length) * sz] }) ∨ (xs = [] ∧ K (.full sz l) σ))
    | .v (.slice none 0 0) => xs.length * bytes ≤ 140737488355328 ∧ K (.own σ.ow.length e sz xs) { σ with ow := σ.ow ++ [xs.length * sz] }
    | _ => False
  | .calle f args => doCall P I f (args.map (ev σ.env)) σ K
  | .callv x args => ∃ f cs, asFn (ev σ.env x) = some (f, cs) ∧ doCall P I f (args.map (ev σ.env) ++ cs) σ K
  | o => ap P I o σ fun r => K r σ

def dop1 (o : Op1) (σ : St) (K : St → Prop) : Prop :=
  let run := dop P I o.op σ fun r σ' => K { σ' with env := putE σ'.env o.dst r }
  match o.grd with
  | none => run
  | some (g, want) => match look σ.env g with
    | .v (.bool b) => if b = want then run else K { σ with env := putE σ.env o.dst (.v undef) }
    | .v (.tuple _) => K { σ with env := putE σ.env o.dst (.v undef) }
    | _ => False

def dops : List Op1 → St → (St → Prop) → Prop
  | [], σ, K => K σ
  | o :: r, σ, K => dop1 P I o σ fun σ' => dops r σ' K

inductive DExit where
  | normal
  | exit (id : Nat)
  | ret

def DOwn (P : Program) (I : Inv) (f : FuncId) (es : List DV) (sz : Nat) (l : List DV) : Prop :=
  ∃ e loc' ow', DEff P I f es [] [] (.own 0 e sz l) loc' ow' ∧ ow'[0]? = some (l.length * sz)

def spR (s : Sp) (σ : St) (K : DV → St → Prop) : Prop :=
  match s with
  | .mks bytes z l c => ∃ (k k' : IntKind) (n : Nat), ev σ.env l = .v (.int k n) ∧ ev σ.env c = .v (.int k' n) ∧ n * bytes ≤ 140737488355328 ∧
      K (.row σ.loc.length 1 n) { σ with loc := σ.loc ++ [List.replicate n (.v z)] }
  | .callr f args => dop P I (.call f args) σ K ∨ ∃ es sz l, WkL (args.map (ev σ.env)) es ∧ DOwn P I f es sz l ∧ l.isEmpty = false ∧ plainC (l.flatMap DV.cells) = true ∧
      ∀ t, K (.row σ.loc.length sz l.length) { σ with loc := σ.loc ++ [l.flatMap DV.cells ++ List.replicate t .u] }
  | .appr e sz bytes s x => dop P I (.app e sz bytes s x) σ K ∨ ∃ xs, elems (ev σ.env x) = some xs ∧ fitsSz sz (ev σ.env x) = true ∧ (elems (ev σ.env s) = some [] ∧ fitsSz sz (ev σ.env s) = true ∧ noCap (ev σ.env s) = true) ∧
      xs.isEmpty = false ∧ plainC (xs.flatMap DV.cells) = true ∧ xs.length * bytes ≤ 140737488355328 ∧
      ∀ t, K (.row σ.loc.length sz xs.length) { σ with loc := σ.loc ++ [xs.flatMap DV.cells ++ List.replicate t .u] }

def dxops : List XOp → St → (St → Prop) → Prop
  | [], σ, K => K σ
  | .op o :: r, σ, K => dop1 P I o σ fun σ' => dxops r σ' K
  | .sp dst s :: r, σ, K => spR P I s σ fun x σ' => dxops r { σ' with env := putE σ'.env dst x } K

structure DLoop (m0 k0 : Nat) (body : St → (DExit → St → Prop) → Prop) (σ : St) (Q : DExit → St → Prop) : Prop where
  out : ∀ X : St → Prop, (∀ σ, (∃ σ', Less m0 k0 σ' σ ∧ body σ' (fun e τ => match e with
    | .normal => X τ
    | e => Q e τ)) → X σ) → X σ

def dwp (m0 k0 : Nat) : DCode → St → (DExit → St → Prop) → Prop
  | .skip, σ, Q => Q .normal σ
  | .reg ops, σ, Q => dops P I ops σ (Q .normal)
  | .xreg ops, σ, Q => dxops P I ops σ (Q .normal)
  | .gh, σ, Q => Q .normal σ ∨ ∃ k sz n l, frzOk k sz l σ ∧ n = l.length ∧ rowsE k sz n σ.env ∧ rowsLL k sz n σ.loc ∧ Q .normal (frzS k sz l σ)
  | .seq a b, σ, Q => dwp m0 k0 a σ fun e σ' => match e with
    | .normal => dwp m0 k0 b σ' Q
    | e => Q e σ'
  | .cond c a b, σ, Q => match ev σ.env c with
    | .v (.bool t) => (t = true → dwp m0 k0 a σ Q) ∧ (t = false → dwp m0 k0 b σ Q)
    | _ => False
  | .block id a, σ, Q => dwp m0 k0 a σ fun e σ' => match e with
    | .exit j => if j = id then Q .normal σ' else Q (.exit j) σ'
    | e => Q e σ'
  | .loop a, σ, Q => DLoop m0 k0 (fun σ Q => dwp m0 k0 a σ Q) σ Q
  | .exit id, σ, Q => Q (.exit id) σ
  | .ret, σ, Q => Q .ret σ

inductive DRes where
  | t (n : Nat)
  | c (n m : Nat) (agg : Bool)

def res1D (r : DRes) (σ : St) (K : DV → Prop) : Prop :=
  match r with
  | .t n => K (look σ.env n)
  | .c n m g => match look σ.env n with
    | .lp k off => ∃ cs, σ.loc[k]? = some cs ∧ Nat.ble (off + m) cs.length = true ∧ K (part g ((cs.drop off).take m))
    | _ => False

def resD : List DRes → St → (List DV → Prop) → Prop
  | [], _, K => K []
  | r :: rs, σ, K => res1D r σ fun d => resD rs σ fun ds => K (d :: ds)

def pack (ds : List DV) : DV :=
  match ds with
  | [d] => d
  | ds => mkTup ds

end

end Go.Proofs.YtlbodfkhenkcjaaGreatDoor.D


namespace Go.Proofs.YtlbodfkhenkcjaaGreatDoor.D
open Go Go.RowKit

def cO : Operand → Option Opd
  | .tmp t => some (.t t)
  | .const x => some (.c x)
  | .func f => some (.f f)
  | .global _ => none

def cOs : List Operand → Option (List Opd)
  | [] => some []
  | x :: r => match cO x, cOs r with
    | some y, some s => some (y :: s)
    | _, _ => none

def cOo : Option Operand → Option (Option Opd)
  | none => some none
  | some x => (cO x).map some

def isNilC : Operand → Option Nat
  | .const .nilIface => some 0
  | .const (.pointer none) => some 1
  | .const .nilFunc => some 2
  | _ => none

def nilFits (P : Program) (T : TypeId) : Nat → Bool
  | 0 => (P.underlying T matches some (.interface _))
  | 1 => (P.underlying T matches some (.pointer _))
  | 2 => (P.underlying T matches some (.func ..))
  | _ => false

def sizeP (P : Program) (t : TypeId) : Option Nat := (P.info? t).map (·.size)
def aggP (P : Program) (t : TypeId) : Option Bool :=
  match P.underlying t with
  | some (.struct _) | some (.array _ _) => some true
  | some _ => some false
  | none => none
def formP (P : Program) (t : TypeId) : Option (Nat × Bool) :=
  match sizeP P t, aggP P t with
  | some n, some true => some (n, true)
  | some 1, some false => some (1, false)
  | _, _ => none

def sizesP (P : Program) : List Field → Option (List (Nat × Nat))
  | [] => some []
  | f :: r => match sizeP P f.type, sizesP P r with
    | some n, some l => some ((f.offset, n) :: l)
    | _, _ => none

def placed (pl : Nat → Option (Nat × Nat)) : List (Nat × Operand) → Option (List (Nat × Nat × Opd))
  | [] => some []
  | (j, x) :: r => match pl j, cO x, placed pl r with
    | some q, some y, some l => some ((q.1, q.2, y) :: l)
    | _, _, _ => none

def flatFs (P : Program) (rec : TypeId → Option (List Nat)) : List Field → Nat → Option (List Nat)
  | [], _ => some []
  | f :: r, off => if f.name ≠ "_" ∧ f.offset = off then match rec f.type, sizeP P f.type, aggP P f.type with
      | some ks, some m, some g => if ks.length = m ∧ 0 < m ∧ (g = true ∨ m = 1) then (flatFs P rec r (off + m)).map (ks ++ ·) else none
      | _, _, _ => none
    else none

def flatK (P : Program) : Nat → TypeId → Option (List Nat)
  | 0, _ => none
  | d + 1, T => match P.underlying T with
    | some .bool => some [0]
    | some (.int _) => some [1]
    | some .string => some [2]
    | some (.struct fs) => if P.stoodInHeld T = false then flatFs P (flatK P d) fs.toList 0 else none
    | _ => none

def refT (P : Program) (T : TypeId) : Bool :=
  match P.underlying T with
  | some (.pointer _) => true
  | some (.func ..) => true
  | some (.interface ms) => ms.isEmpty
  | _ => false

def cop (P : Program) (o : Oper) : Option DOp :=
  match o.op with
  | .move x => (cO x).map .mv
  | .assign x => (cO x).map .mv
  | .pick c a b => match cO c, cO a, cO b with
    | some c, some a, some b => some (.pick c a b)
    | _, _, _ => none
  | .alloc T => match P.info? T with
    | some i => i.zero.map .zero
    | none => none
  | .box _ x => (cO x).map .box
  | .load T a => match formP P T, cO a with
    | some (n, g), some a => some (.ld n g a)
    | _, _ => none
  | .store T a x => match sizeP P T, cO a, cO x with
    | some n, some a, some x => some (.st n a x)
    | _, _, _ => none
  | .nilCheck x => (cO x).map .nilc
  | .binOp op T x y _ => match isNilC y with
    | some k => if (op = .eql ∨ op = .neq) ∧ nilFits P T k = true then (cO x).map (.isnil k (op == .neq)) else none
    | none => match P.underlying T, cO x, cO y with
      | some .bool, some x, some y => if op = .eql ∨ op = .neq then some (.beq (op == .neq) x y) else none
      | some (.int _), some x, some y => some (.bin op x y)
      | some .string, some x, some y => some (.bin op x y)
      | some (.struct _), some x, some y => if (op = .eql ∨ op = .neq) ∧ P.eqGuardType P.depth T = false then (flatK P 8 T).map fun ks => .eqs (op == .neq) ks x y else none
      | _, _, _ => none
  | .unOp op _ x => (cO x).map (.un op)
  | .convert src dst x => match P.underlying src, P.underlying dst, cO x with
    | some (.int _), some (.int k), some x => some (.cvt k x)
    | some .string, some (.slice e), some x => match P.underlying e with
      | some (.int .u8) => if sizeP P e = some 1 then some (.s2b x) else none
      | _ => none
    | some (.slice e), some .string, some x => match P.underlying e with
      | some (.int .u8) => some (.b2s x)
      | _ => none
    | _, _, _ => none
  | .makeInterface T x => match P.underlying T, cO x with
    | some (.interface _), _ => none
    | some _, some x => some (.mki T x)
    | _, _ => none
  | .makeFunc (.func f) first cs => if first.size = 0 then (cOs cs.toList).map (.mkf f) else none
  | .slice T x lo hi mx => match P.underlying T, cO x, cOo lo, cOo hi, cOo mx with
    | some .string, some x, some lo, some hi, some none => some (.slS x lo hi)
    | some (.slice e), some x, some lo, some hi, some mx => if mx.isSome && hi.isNone then none else (sizeP P e).map fun n => .slL n x lo hi mx
    | _, _, _, _, _ => none
  | .fieldAddr T x i => match P.underlying T, cO x with
    | some (.struct fs), some x => match fs[i]? with
      | some f => match sizeP P f.type with
        | some (_ + 1) => some (.fa f.offset x)
        | _ => none
      | none => none
    | _, _ => none
  | .field T x i => match P.underlying T, cO x with
    | some (.struct fs), some x => match fs[i]? with
      | some f => (formP P f.type).map fun p => .fld f.offset p.1 p.2 x
      | none => none
    | _, _ => none
  | .indexAddr T x i => match P.underlying T, cO x, cO i with
    | some (.slice e), some x, some i => (sizeP P e).map fun n => .ixa n x i
    | some (.array len e), some x, some i => (sizeP P e).map fun n => .ixp len n x i
    | _, _, _ => none
  | .index T x i => match P.underlying T, cO x, cO i with
    | some .string, some x, some i => some (.ixs x i)
    | some (.array len e), some x, some i => (formP P e).map fun p => .ixv len p.1 p.2 x i
    | _, _, _ => none
  | .typeAssert x _ T ok => match P.underlying T, P.info? T, cO x with
    | some (.interface _), _, _ => none
    | some _, some i, some x => i.zero.map fun z => .ta T ok z x
    | _, _, _ => none
  | .extract x i => (cO x).map (.ext · i)
  | .call { callee := .builtin .len, args, argTypes } => match args.toList, argTypes.toList with
    | [x], [T] => match P.underlying T, cO x with
      | some .string, some x => some (.len true x)
      | some (.slice _), some x => some (.len false x)
      | _, _ => none
    | _, _ => none
  | .call { callee := .builtin .max, args, .. } => match cOs args.toList with
    | some (x :: xs) => some (.mm true x xs)
    | _ => none
  | .call { callee := .builtin .min, args, .. } => match cOs args.toList with
    | some (x :: xs) => some (.mm false x xs)
    | _ => none
  | .call { callee := .builtin .append, args, argTypes } => match args.toList, argTypes.toList with
    | [s, x], [T, U] => match P.underlying T, P.underlying U, cO s, cO x with
      | some (.slice e), some (.slice e'), some s, some x => match P.info? e with
        | some i => if T = U ∧ e = e' ∧ 0 < i.size ∧ 0 < i.bytes ∧ (i.zero.any fun z => z.cells.size == i.size) = true then some (.app e i.size i.bytes s x) else none
        | none => none
      | _, _, _, _ => none
    | _, _ => none
  | .call { callee := .value (.func f), args, .. } => match P.funcs[f]?, cOs args.toList with
    | some fn, some xs => if fn.params.toList.any (refT P) = true then some (.calle f xs) else some (.call f xs)
    | _, _ => none
  | .call { callee := .value (.tmp t), args, .. } => (cOs args.toList).map (.callv (.t t))
  | .call { callee := .invoke x m, args, .. } => match cO x, cOs args.toList with
    | some x, some xs => some (.inv m x xs)
    | _, _ => none
  | .build T parts => match P.underlying T, P.info? T with
    | some (.struct fs), some i => match i.zero, sizesP P fs.toList with
      | some z, some ps => (placed (fun j => ps[j]?) parts.toList).map fun l => .bld z.cells.toList l
      | _, _ => none
    | some (.array _ e), some i => match i.zero, sizeP P e with
      | some z, some n => (placed (fun j => some (j * n, n)) parts.toList).map fun l => .bld z.cells.toList l
      | _, _ => none
    | _, _ => none
  | .buildSlice T len parts => match P.underlying T with
    | some (.slice e) => match P.info? e, cOs (parts.toList.map (·.2)) with
      | some i, some xs => if parts.toList.map (·.1) = List.range len ∧ 0 < i.size ∧ len * i.size ≤ 4096 ∧ (i.zero.any fun z => z.cells.size == i.size) = true then some (.bsl i.size xs) else none
      | _, _ => none
    | _ => none
  | _ => none

structure Fr (I : Inv) (B : Base) (L : Link) (W : World) (n : Nat) (σ : St) (a : Act) : Prop where
  sim : Sim I B L W σ.loc σ.ow
  env : ∀ (t : Nat), Rep (stab B L) W L (look σ.env t) (a.tmps.getD t undef)
  size : a.tmps.size = n
  defers : a.defers = []

section
variable {P : Program} {I : Inv} {B : Base} {L : Link} {W W' : World} {n : Nat} {σ : St} {a : Act}

theorem cell_lt {b o : Nat} {y : Value} (h : W.cell? ⟨b, o, none⟩ = some y) : b < W.heap.size := World.block_lt_of_cell? W ⟨b, o, none⟩ h

theorem below_step {S : Nat → Nat → Prop} (h : Below W.heap.size W W') (hg : ∀ (id N g : Nat), L.ow[id]? = some (N, some g) → g < W.heap.size) : Step S L W S L W' :=
  ⟨fun b o y hs hc => ⟨hs, by rw [h.cell (p := ⟨b, o, none⟩) (cell_lt hc)]; exact hc⟩, fun _ _ h => h,
    fun id N C ho => ⟨N, C, ho, Nat.le_refl _, fun _ => ⟨rfl, fun g hgc => h.block g (hg id N g (hgc ▸ ho))⟩⟩⟩

theorem Sim.quiet {loc : List (List DV)} {ow : List Nat} (h : Sim I B L W loc ow) (hb : Below W.heap.size W W') : Sim I B L W' loc ow ∧ Step (stab B L) L W (stab B L) L W' := by
  have st : Step (stab B L) L W (stab B L) L W' := below_step hb fun id N g hg => (h.oge id N g hg).2.1
  refine ⟨⟨h.inv, h.below.trans (hb.mono h.below.size), h.blen, fun k b hk => ⟨(h.bge k b hk).1, Nat.lt_of_lt_of_le (h.bge k b hk).2 hb.size⟩, h.bnd, fun k cs hk => ?_, h.olen,
    fun id N g hg => ⟨(h.oge id N g hg).1, Nat.lt_of_lt_of_le (h.oge id N g hg).2.1 hb.size, (h.oge id N g hg).2.2⟩, h.ond, h.frz, fun b hb' => Nat.lt_of_lt_of_le (h.flt b hb') hb.size⟩, st⟩
  obtain ⟨b, ys, T, h1, h2, h3⟩ := h.box k cs hk
  exact ⟨b, ys, T, h1, (hb.block b (h.bge k b h1).2).trans h2, fun hf => (h3 hf).step st⟩

theorem Sim.cells {loc : List (List DV)} {ow : List Nat} (h : Sim I B L W loc ow) {k b : Nat} {cs : List DV} (hk : loc[k]? = some cs) (hb : L.bx[k]? = some b) : ∃ ys : List Value, RepL (stab B L) W L cs ys ∧ ∀ (j : Nat) (y : Value), ys[j]? = some y → W.cell? ⟨b, j, none⟩ = some y := by
  by_cases hf : b ∈ L.fz
  · have := h.frz k b hb hf
    rw [hk] at this
    obtain rfl := Option.some.inj this
    exact ⟨[], .nil, fun j y hj => by simp at hj⟩
  · obtain ⟨b', ys, T, h1, h2, h3⟩ := h.box k cs hk
    obtain rfl : b = b' := Option.some.inj (hb.symm.trans h1)
    exact ⟨ys, h3 hf, fun j y hj => by simpa [World.cell?, h2] using hj⟩
theorem Sim.exact {loc : List (List DV)} {ow : List Nat} (h : Sim I B L W loc ow) {k b : Nat} {c : DV} {cs : List DV} (hk : loc[k]? = some (c :: cs)) (hb : L.bx[k]? = some b) : b ∉ L.fz ∧ ∃ (ys : List Value) (T : TypeId), W.heap[b]? = some (.cells ys.toArray T (0, 0)) ∧ RepL (stab B L) W L (c :: cs) ys := by
  have hf : b ∉ L.fz := fun hf => by
    have := h.frz k b hb hf
    rw [hk] at this
    cases this
  obtain ⟨b', ys, T, h1, h2, h3⟩ := h.box k _ hk
  obtain rfl : b = b' := Option.some.inj (hb.symm.trans h1)
  exact ⟨hf, ys, T, h2, h3 hf⟩

theorem Fr.ev (h : Fr I B L W n σ a) {x : Operand} {x' : Opd} (hx : cO x = some x') : Rep (stab B L) W L (D.ev σ.env x') (a.eval x) := by
  cases x with
  | tmp t => simp only [cO, Option.some.injEq] at hx; subst hx; exact h.env t
  | const v => simp only [cO, Option.some.injEq] at hx; subst hx; exact .v _ _
  | global g => simp [cO] at hx
  | func f => simp only [cO, Option.some.injEq] at hx; subst hx; exact .fn _ f [] [] rfl (by simp)

theorem Fr.evs (h : Fr I B L W n σ a) : ∀ {xs : List Operand} {xs' : List Opd}, cOs xs = some xs' → RepL (stab B L) W L (xs'.map (D.ev σ.env)) (xs.map a.eval)
  | [], _, hx => by simp only [cOs, Option.some.injEq] at hx; subst hx; exact .nil
  | x :: r, _, hx => by
    simp only [cOs] at hx
    split at hx
    · rename_i y s h1 h2
      simp only [Option.some.injEq] at hx
      subst hx
      exact .cons (h.ev h1) (h.evs h2)
    · cases hx

theorem plains_map : ∀ {cs : List DV} {xs : List Value}, plains cs = some xs → cs = xs.map .v
  | [], _, h => by simp only [plains, Option.some.injEq] at h; subst h; rfl
  | .v x :: r, _, h => by
    simp only [plains, Option.map_eq_some_iff] at h
    obtain ⟨ys, h1, rfl⟩ := h
    rw [List.map_cons, ← plains_map h1]
  | .u :: r, _, h | .agg _ :: r, _, h | .tup _ :: r, _, h | .ifc _ _ :: r, _, h | .list _ _ :: r, _, h | .own _ _ _ _ :: r, _, h | .full _ _ :: r, _, h | .lp _ _ :: r, _, h | .ep _ _ :: r, _, h | .fn _ _ :: r, _, h => by simp [plains] at h

theorem RepL.plain {S : Nat → Nat → Prop} {xs ys : List Value} (h : RepL S W L (xs.map .v) ys) : ys = xs := by
  refine List.ext_getElem? fun i => ?_
  rcases Nat.lt_or_ge i xs.length with hi | hi
  · have hy : i < ys.length := by have := h.1; simp at this; omega
    have := h.2 i (.v xs[i]) ys[i] (by simp [List.getElem?_eq_getElem hi]) (List.getElem?_eq_getElem hy)
    rw [List.getElem?_eq_getElem hi, List.getElem?_eq_getElem hy]
    generalize ys[i] = y at this
    cases this
    rfl
  · have hy : ys.length ≤ i := by have := h.1; simp at this; omega
    rw [List.getElem?_eq_none hi, List.getElem?_eq_none hy]

theorem RepL.mkAgg {S : Nat → Nat → Prop} {cs : List DV} {ys : List Value} (h : RepL S W L cs ys) : Rep S W L (D.mkAgg cs) (.agg ys.toArray) := by
  unfold D.mkAgg
  split
  · rename_i xs hx
    have e := plains_map hx
    subst e
    rw [h.plain]
    exact .v _ _
  · exact .agg _ _ _ h.1 h.2

theorem RepL.mkTup {S : Nat → Nat → Prop} {cs : List DV} {ys : List Value} (h : RepL S W L cs ys) : Rep S W L (D.mkTup cs) (.tuple ys.toArray) := by
  unfold D.mkTup
  split
  · rename_i xs hx
    have e := plains_map hx
    subst e
    rw [h.plain]
    exact .v _ _
  · exact .tup _ _ _ h.1 h.2

theorem Rep.mkIfc {S : Nat → Nat → Prop} {d : DV} {y : Value} (t : TypeId) (h : Rep S W L d y) : Rep S W L (D.mkIfc t d) (.iface t y) := by
  cases h with
  | v _ _ => exact .v _ _
  | u _ _ => exact .ifc _ _ _ _ (.u _ _)
  | agg _ cs ys h1 h2 => exact .ifc _ _ _ _ (.agg _ cs ys h1 h2)
  | tup _ cs ys h1 h2 => exact .ifc _ _ _ _ (.tup _ cs ys h1 h2)
  | ifc _ t x y h => exact .ifc _ _ _ _ (.ifc _ t x y h)
  | list _ sz l ys a len cap b o h1 h3 h4 h5 h6 h7 h8 => exact .ifc _ _ _ _ (.list _ sz l ys a len cap b o h1 h3 h4 h5 h6 h7 h8)
  | own _ id e sz l y N B h1 h2 h3 h4 => exact .ifc _ _ _ _ (.own _ id e sz l y N B h1 h2 h3 h4)
  | full _ sz l a n h => exact .ifc _ _ _ _ (.full _ sz l a n h)
  | lp _ k off b h => exact .ifc _ _ _ _ (.lp _ k off b h)
  | row _ k sz n b cap h hc => exact .ifc _ _ _ _ (.row _ k sz n b cap h hc)
  | ep _ x off b o ys h1 h2 h3 => exact .ifc _ _ _ _ (.ep _ x off b o ys h1 h2 h3)
  | fn _ f cs ys h1 h2 => exact .ifc _ _ _ _ (.fn _ f cs ys h1 h2)

theorem Rep.lift {S : Nat → Nat → Prop} {d : DV} {y : Value} {L0 : Link} (h : Rep S W L0 d y) (h0 : L0 = noLink) : ∀ (L' : Link), Rep S W L' d y := fun L' => by
  subst h0
  exact h.step ⟨fun _ _ _ a b => ⟨a, b⟩, fun k b h => by simp [noLink] at h, fun id N B h => by simp [noLink] at h⟩

theorem RepL.lift {S : Nat → Nat → Prop} {ds : List DV} {ys : List Value} (h : RepL S W noLink ds ys) (L' : Link) : RepL S W L' ds ys := ⟨h.1, fun i d y h1 h2 => (h.2 i d y h1 h2).lift rfl L'⟩

theorem formP_size {T : TypeId} {m : Nat} {g : Bool} (h : formP P T = some (m, g)) : (P.info? T).map (·.size) = some m := by
  unfold formP sizeP at h
  split at h <;> simp_all

theorem formP_agg {T : TypeId} {m : Nat} {g : Bool} (h : formP P T = some (m, g)) : ∃ d, P.underlying T = some d ∧ d.isRow = g := by
  unfold formP aggP at h
  cases hu : P.underlying T with
  | none => simp [hu] at h
  | some d =>
    refine ⟨d, rfl, ?_⟩
    cases d <;> simp [hu] at h <;> (split at h <;> simp_all)

theorem formP_one {T : TypeId} {m : Nat} (h : formP P T = some (m, false)) : m = 1 := by
  unfold formP at h
  split at h <;> simp_all

theorem run_ld {S : Nat → Nat → Prop} {T : TypeId} {m b o : Nat} {g : Bool} (hf : formP P T = some (m, g)) {ds : List DV} {ys : List Value} (hr : RepL S W L ds ys)
    (hc : ∀ (j : Nat) (y : Value), ys[j]? = some y → W.cell? ⟨b, o + j, none⟩ = some y) (hm : m ≤ ds.length) :
    ∃ y, (Instr.loadAt T (.pointer (some ⟨b, o, none⟩))).run P W = .ok y W ∧ Rep S W L (D.part g (ds.take m)) y := by
  obtain ⟨d, hu, hd⟩ := formP_agg hf
  cases g with
  | true =>
    have hlen : (ys.take m).length = m := by rw [List.length_take, ← hr.1]; omega
    refine ⟨_, run_loadAt_mid W b o T (ys.take m) d (fun j v hv => ?_) hu hd (by rw [formP_size hf, hlen]), ?_⟩
    · rw [List.getElem?_take] at hv
      split at hv
      · exact hc j v hv
      · cases hv
    · exact (hr.take m).mkAgg
  | false =>
    have hm1 := formP_one hf
    subst hm1
    cases ds with
    | nil => simp at hm
    | cons d0 ds =>
      obtain ⟨y, ys', rfl, h1, _⟩ := hr.uncons
      have hc0 := hc 0 y rfl
      rw [Nat.add_zero] at hc0
      refine ⟨y, ?_, by simpa [D.part] using h1⟩
      have hagg : (isAgg T).run P W = .ok false W := by
        unfold isAgg
        rw [Sem.run_bind, run_underlying hu W]
        cases d <;> simp_all
      simp [Instr.loadAt, Instr.sureAddr, loadVar, hagg, hc0]

end
end Go.Proofs.YtlbodfkhenkcjaaGreatDoor.D


namespace Go.Proofs.YtlbodfkhenkcjaaGreatDoor.D
open Go Go.RowKit

section
variable {P : Program} {I : Inv} {B : Base} {L : Link} {W : World} {n : Nat} {σ : St} {a : Act} {o : Oper} {K : DV → Prop}

def Neu (P : Program) (B : Base) (L : Link) (W : World) (o : Oper) (a : Act) (r : DV) : Prop :=
  ∀ (Kw : Act → World → Prop) (Q : Exit → Act → World → Prop), (∀ y W', Rep (stab B L) W' L r y → Below W.heap.size W W' → Kw (a.put o.dst y) W') → o.wp P a W Kw Q

theorem neu_run {r : DV} {y : Value} {W' : World} (h : (execOp a.eval o).run P W = .ok (.value y) W') (hr : Rep (stab B L) W' L r y) (hb : Below W.heap.size W W') : Neu P B L W o a r := by
  intro Kw Q hk
  unfold Oper.wp
  rw [h]
  exact hk y W' hr hb

theorem neu_same {r : DV} {y : Value} (h : (execOp a.eval o).run P W = .ok (.value y) W) (hr : Rep (stab B L) W L r y) : Neu P B L W o a r := neu_run h hr (Below.refl _ _)

theorem n_mv {x : Operand} {x' : Opd} (hop : o.op = .move x ∨ o.op = .assign x) (hx : cO x = some x') (fr : Fr I B L W n σ a) (h : ap P I (.mv x') σ K) : ∃ r, K r ∧ Neu P B L W o a r :=
  ⟨_, h, neu_same (by rcases hop with hop | hop <;> simp [execOp, hop]) (fr.ev hx)⟩

theorem n_pick {c x y : Operand} {c' x' y' : Opd} (hop : o.op = .pick c x y) (hc : cO c = some c') (hx : cO x = some x') (hy : cO y = some y') (fr : Fr I B L W n σ a) (h : ap P I (.pick c' x' y') σ K) :
    ∃ r, K r ∧ Neu P B L W o a r := by
  have hcr := fr.ev hc
  simp only [ap] at h
  split at h
  · rename_i t ht
    rw [ht] at hcr
    generalize hce : a.eval c = cv at hcr
    cases hcr
    refine ⟨_, h, neu_same (y := if t = true then a.eval x else a.eval y) (by simp [execOp, hop, hce, asBool]) ?_⟩
    cases t
    · exact fr.ev hy
    · exact fr.ev hx
  · exact h.elim

theorem n_nilc {x : Operand} {x' : Opd} (hop : o.op = .nilCheck x) (hx : cO x = some x') (fr : Fr I B L W n σ a) (h : ap P I (.nilc x') σ K) :
    ∃ r, K r ∧ Neu P B L W o a r := by
  obtain ⟨hn, hk⟩ := h
  refine ⟨_, hk, neu_same (y := a.eval x) ?_ (fr.ev hx)⟩
  have hr := fr.ev hx
  generalize D.ev σ.env x' = d at hr hn
  simp only [execOp, hop]
  generalize a.eval x = v at hr
  cases hr with
  | v _ _ =>
    cases v with
    | pointer p => cases p <;> simp_all [dnil]
    | func f g h => cases f <;> simp_all [dnil]
    | _ => simp_all [dnil]
  | _ => simp_all [dnil]

section
variable {T : TypeId} (d : Nat)
theorem eqI_nn {ms : Array (String × TypeId)} (h : P.underlying T = some (.interface ms)) : (Op.equalIn (d + 1) T .nilIface .nilIface).run P W = .ok true W := by simp [Op.equalIn, run_underlying h]
theorem eqI_xn {ms : Array (String × TypeId)} (h : P.underlying T = some (.interface ms)) (t : TypeId) (x : Value) : (Op.equalIn (d + 1) T (.iface t x) .nilIface).run P W = .ok false W := by simp [Op.equalIn, run_underlying h]
theorem eqP_nn {e : TypeId} (h : P.underlying T = some (.pointer e)) : (Op.equalIn (d + 1) T (.pointer none) (.pointer none)).run P W = .ok true W := by simp [Op.equalIn, run_underlying h]
theorem eqP_xn {e : TypeId} (h : P.underlying T = some (.pointer e)) (p : Addr) : (Op.equalIn (d + 1) T (.pointer (some p)) (.pointer none)).run P W = .ok false W := by simp [Op.equalIn, run_underlying h]
theorem eqF_nn {x y : Array TypeId} {z : Bool} (h : P.underlying T = some (.func x y z)) : (Op.equalIn (d + 1) T .nilFunc .nilFunc).run P W = .ok true W := by simp [Op.equalIn, run_underlying h]
theorem eqF_xn {x y : Array TypeId} {z : Bool} (h : P.underlying T = some (.func x y z)) (f : Fn) (p q : Array Value) : (Op.equalIn (d + 1) T (.func f p q) .nilFunc).run P W = .ok false W := by simp [Op.equalIn, run_underlying h]
end

theorem nil_run {k : Nat} {T : TypeId} {x y : Operand} {d : DV} {v : Value} {t : Bool} {op : BinOp} (hy : isNilC y = some k) (ho : op = .eql ∨ op = .neq) (hT : nilFits P T k = true) (hv : Rep (stab B L) W L d v) (hn : dnil k d = some t) (α : Operand → Value)
    (hα : ∀ c, y = .const c → α y = c) : (do eqGuard op T x y v (α y); binOp op T v (α y)).run P W = .ok (.bool (if op = .neq then !t else t)) W := by
  have main : ∀ z, α y = z → (eqGuard op T x y v z).run P W = .ok () W ∧ (Op.equalIn (9999 + 1) T v z).run P W = .ok t W ∧ (binOp op T v z) = (match op with | .eql => do pure (.bool (← Op.equal T v z)) | _ => do pure (.bool (!(← Op.equal T v z)))) := by
    intro z hz
    cases y with
    | const c =>
      have e := hα c rfl
      rw [e] at hz
      subst hz
      cases c with
      | nilIface =>
        simp only [isNilC, Option.some.injEq] at hy
        subst hy
        simp only [nilFits] at hT
        cases hu : P.underlying T with
        | none => simp [hu] at hT
        | some D =>
          cases D <;> simp [hu] at hT
          cases hv with
          | v _ _ =>
            cases v with
            | iface s z =>
              obtain rfl : false = t := by simpa [dnil] using hn
              exact ⟨by rcases ho with rfl | rfl <;> simp [eqGuard], eqI_xn _ hu _ _, by rcases ho with rfl | rfl <;> rfl⟩
            | nilIface =>
              obtain rfl : true = t := by simpa [dnil] using hn
              exact ⟨by rcases ho with rfl | rfl <;> simp [eqGuard], eqI_nn _ hu, by rcases ho with rfl | rfl <;> rfl⟩
            | _ => simp [dnil] at hn
          | ifc _ s z w _ =>
            obtain rfl : false = t := by simpa [dnil] using hn
            exact ⟨by rcases ho with rfl | rfl <;> simp [eqGuard], eqI_xn _ hu _ _, by rcases ho with rfl | rfl <;> rfl⟩
          | _ => simp [dnil] at hn
      | pointer p =>
        cases p with
        | some p => simp [isNilC] at hy
        | none =>
          simp only [isNilC, Option.some.injEq] at hy
          subst hy
          simp only [nilFits] at hT
          cases hu : P.underlying T with
          | none => simp [hu] at hT
          | some D =>
            cases D <;> simp [hu] at hT
            cases hv with
            | v _ _ =>
              cases v with
              | pointer p =>
                cases p with
                | none =>
                  obtain rfl : true = t := by simpa [dnil] using hn
                  exact ⟨by rcases ho with rfl | rfl <;> simp [eqGuard], eqP_nn _ hu, by rcases ho with rfl | rfl <;> rfl⟩
                | some p =>
                  obtain rfl : false = t := by simpa [dnil] using hn
                  exact ⟨by rcases ho with rfl | rfl <;> simp [eqGuard], eqP_xn _ hu _, by rcases ho with rfl | rfl <;> rfl⟩
              | _ => simp [dnil] at hn
            | lp _ k off b _ =>
              obtain rfl : false = t := by simpa [dnil] using hn
              exact ⟨by rcases ho with rfl | rfl <;> simp [eqGuard], eqP_xn _ hu _, by rcases ho with rfl | rfl <;> rfl⟩
            | ep _ x off b o ys _ _ _ =>
              obtain rfl : false = t := by simpa [dnil] using hn
              exact ⟨by rcases ho with rfl | rfl <;> simp [eqGuard], eqP_xn _ hu _, by rcases ho with rfl | rfl <;> rfl⟩
            | _ => simp [dnil] at hn
      | nilFunc =>
        simp only [isNilC, Option.some.injEq] at hy
        subst hy
        simp only [nilFits] at hT
        cases hu : P.underlying T with
        | none => simp [hu] at hT
        | some D =>
          cases D <;> simp [hu] at hT
          cases hv with
          | v _ _ =>
            cases v with
            | func f p q =>
              cases f with
              | func f =>
                obtain rfl : false = t := by simpa [dnil] using hn
                exact ⟨by rcases ho with rfl | rfl <;> simp [eqGuard], eqF_xn _ hu _ _ _, by rcases ho with rfl | rfl <;> rfl⟩
              | _ => simp [dnil] at hn
            | nilFunc =>
              obtain rfl : true = t := by simpa [dnil] using hn
              exact ⟨by rcases ho with rfl | rfl <;> simp [eqGuard], eqF_nn _ hu, by rcases ho with rfl | rfl <;> rfl⟩
            | _ => simp [dnil] at hn
          | fn _ f cs ys _ _ =>
            obtain rfl : false = t := by simpa [dnil] using hn
            exact ⟨by rcases ho with rfl | rfl <;> simp [eqGuard], eqF_xn _ hu _ _ _, by rcases ho with rfl | rfl <;> rfl⟩
          | _ => simp [dnil] at hn
      | _ => simp [isNilC] at hy
    | _ => simp [isNilC] at hy
  obtain ⟨h1, h2, h3⟩ := main _ rfl
  have h2' : (Op.equal T v (α y)).run P W = .ok t W := h2
  rw [Sem.run_bind, h1, Result.andThen_ok, h3]
  rcases ho with rfl | rfl <;> simp [h2']

theorem n_isnil {k : Nat} {neg : Bool} {op : BinOp} {T U : TypeId} {x y : Operand} {x' : Opd} (hop : o.op = .binOp op T x y U) (hy : isNilC y = some k) (ho : op = .eql ∨ op = .neq) (hT : nilFits P T k = true)
    (hneg : neg = (op == .neq)) (hx : cO x = some x') (fr : Fr I B L W n σ a) (h : ap P I (.isnil k neg x') σ K) : ∃ r, K r ∧ Neu P B L W o a r := by
  obtain ⟨t, hn, hk⟩ := h
  refine ⟨_, hk, neu_same (y := .bool (if neg = true then !t else t)) ?_ (.v _ _)⟩
  have := nil_run (P := P) (x := x) hy ho hT (fr.ev hx) hn a.eval (fun c hc => by subst hc; rfl)
  simp only [execOp, hop]
  rw [Sem.run_bind, this]
  subst hneg
  rcases ho with rfl | rfl <;> rfl

theorem n_beq {neg : Bool} {op : BinOp} {T U : TypeId} {x y : Operand} {x' y' : Opd} (hop : o.op = .binOp op T x y U) (ho : op = .eql ∨ op = .neq) (hT : P.underlying T = some .bool)
    (hneg : neg = (op == .neq)) (hx : cO x = some x') (hy : cO y = some y') (fr : Fr I B L W n σ a) (h : ap P I (.beq neg x' y') σ K) : ∃ r, K r ∧ Neu P B L W o a r := by
  have hr := fr.ev hx
  have hs := fr.ev hy
  simp only [ap] at h
  split at h
  · rename_i b c hb hc
    rw [hb] at hr
    rw [hc] at hs
    generalize hxe : a.eval x = v at hr
    generalize hye : a.eval y = z at hs
    cases hr
    cases hs
    refine ⟨_, h, neu_same ?_ (.v _ _)⟩
    subst hneg
    rcases ho with rfl | rfl <;> simp [execOp, hop, hxe, hye, eqGuard, binOp, run_equal_bool _ _ _ _ hT]
  · exact h.elim

theorem dint_run {op : BinOp} {k : IntKind} {x y : Int} {r : Value} (h : dint op k x y = some r) (hs : op ≠ .shl) (hs' : op ≠ .shr) (T : TypeId) : (binOp op T (.int k x) (.int k y)).run P W = .ok r W := by
  cases op <;> simp [dint] at h <;> simp [binOp, Op.intArith, Op.intDiv, Op.intBits, Op.intCmp] <;> simp_all <;> (obtain ⟨h0, rfl⟩ := h; simp [h0])

theorem dshift_run {op : BinOp} {k k' : IntKind} {x y : Int} {r : Value} (h : dshift op k x y = some r) : (Op.shift op k x k' y).run P W = .ok r W := by
  unfold dshift at h
  split at h
  · cases h
  · rename_i hy
    cases op <;> simp at h <;> subst h <;> simp [Op.shift, hy]

theorem dstr_run {op : BinOp} {x y : ByteArray} {r : Value} (h : dstr op x y = some r) (hs : op ≠ .shl) (hs' : op ≠ .shr) (T : TypeId) : (binOp op T (.string x) (.string y)).run P W = .ok r W := by
  have hm : IntKind.i64.max = 9223372036854775807 := by decide
  cases op
  case add =>
    simp only [dstr] at h
    split at h
    · rename_i hle
      simp only [Option.some.injEq] at h
      subst h
      have : ¬ ((x.size + y.size : Nat) : Int) > IntKind.i64.max := by rw [hm]; omega
      simp only [binOp, Op.stringOp, if_neg this]
      simp
    · cases h
  all_goals first
    | exact absurd rfl hs
    | exact absurd rfl hs'
    | (simp only [dstr, Option.some.injEq, reduceCtorEq] at h; subst h; simp [binOp, Op.stringOp])
    | (simp [dstr] at h)

theorem dbin_run {op : BinOp} {x y r : Value} (h : dbin op x y = some r) (T : TypeId) : (binOp op T x y).run P W = .ok r W := by
  unfold dbin at h
  split at h
  · simpa [binOp] using dshift_run h
  · simpa [binOp] using dshift_run h
  · rename_i hs hs'
    split at h
    · rename_i e; subst e; exact dint_run h hs hs' T
    · cases h
  · rename_i hs hs' _
    refine dstr_run h ?_ ?_ T
    all_goals (intro e; subst e; simp [dstr] at h)
  · cases h

theorem dbin_guard {op : BinOp} {x y r : Value} (h : dbin op x y = some r) (T : TypeId) (p q : Operand) : (eqGuard op T p q x y).run P W = .ok () W := by
  unfold dbin at h
  split at h <;> first | cases h | (unfold eqGuard; split <;> rfl)

theorem n_bin {op : BinOp} {T U : TypeId} {x y : Operand} {x' y' : Opd} (hop : o.op = .binOp op T x y U) (hx : cO x = some x') (hy : cO y = some y') (fr : Fr I B L W n σ a) (h : ap P I (.bin op x' y') σ K) :
    ∃ r, K r ∧ Neu P B L W o a r := by
  have hr := fr.ev hx
  have hs := fr.ev hy
  simp only [ap] at h
  split at h
  · rename_i b c hb hc
    rw [hb] at hr
    rw [hc] at hs
    generalize hxe : a.eval x = v at hr
    generalize hye : a.eval y = z at hs
    cases hr
    cases hs
    obtain ⟨r, h1, h2⟩ := h
    refine ⟨_, h2, neu_same (y := r) ?_ (.v _ _)⟩
    simp [execOp, hop, hxe, hye, dbin_guard h1, dbin_run h1]
  · exact h.elim

theorem n_un {op : UnOp} {T : TypeId} {x : Operand} {x' : Opd} (hop : o.op = .unOp op T x) (hx : cO x = some x') (fr : Fr I B L W n σ a) (h : ap P I (.un op x') σ K) :
    ∃ r, K r ∧ Neu P B L W o a r := by
  have hr := fr.ev hx
  simp only [ap] at h
  split at h
  · rename_i b hb
    rw [hb] at hr
    generalize hxe : a.eval x = v at hr
    cases hr
    obtain ⟨r, h1, h2⟩ := h
    refine ⟨_, h2, neu_same (y := r) ?_ (.v _ _)⟩
    unfold dun at h1
    split at h1
    · simp only [Option.some.injEq] at h1; subst h1; simp only [execOp, hop, hxe]; simp [Op.unary, Op.intArith]
    · simp only [Option.some.injEq] at h1; subst h1; simp only [execOp, hop, hxe]; simp [Op.unary, Op.intBits]
    · simp only [Option.some.injEq] at h1; subst h1; simp only [execOp, hop, hxe]; simp [Op.unary]
    · cases h1
  · exact h.elim

theorem n_cvt {S D : TypeId} {k k' : IntKind} {x : Operand} {x' : Opd} (hop : o.op = .convert S D x) (hS : P.underlying S = some (.int k')) (hD : P.underlying D = some (.int k)) (hx : cO x = some x')
    (fr : Fr I B L W n σ a) (h : ap P I (.cvt k x') σ K) : ∃ r, K r ∧ Neu P B L W o a r := by
  have hr := fr.ev hx
  simp only [ap] at h
  split at h
  · rename_i j m hb
    rw [hb] at hr
    generalize hxe : a.eval x = v at hr
    cases hr
    obtain ⟨_, rfl, h⟩ := h
    refine ⟨_, h, neu_same (y := .int k (k.wrap m)) ?_ (.v _ _)⟩
    simp [execOp, hop, hxe, convert, run_underlying hS, run_underlying hD, Conv.intToInt]
  · exact h.elim

theorem n_mki {T : TypeId} {D : TypeDesc} {x : Operand} {x' : Opd} (hop : o.op = .makeInterface T x) (hT : P.underlying T = some D) (hD : ∀ m, D ≠ .interface m) (hx : cO x = some x')
    (fr : Fr I B L W n σ a) (h : ap P I (.mki T x') σ K) : ∃ r, K r ∧ Neu P B L W o a r :=
  ⟨_, h, neu_same (y := .iface T (a.eval x)) (by cases D <;> simp_all [execOp, Instr.makeInterface, run_underlying hT]) ((fr.ev hx).mkIfc T)⟩

theorem n_mkf {f : FuncId} {first cs : Array Operand} {cs' : List Opd} (hop : o.op = .makeFunc (.func f) first cs) (h0 : first.size = 0) (hx : cOs cs.toList = some cs')
    (fr : Fr I B L W n σ a) (h : ap P I (.mkf f cs') σ K) : ∃ r, K r ∧ Neu P B L W o a r := by
  have hr := fr.evs hx
  have e : first = #[] := Array.eq_empty_of_size_eq_zero h0
  subst e
  refine ⟨_, h, neu_same (y := .func (.func f) #[] (cs.toList.map a.eval).toArray) ?_ (.fn _ f _ _ hr.1 hr.2)⟩
  have : Array.map a.eval cs = (List.map a.eval cs.toList).toArray := by
    cases cs
    simp only [List.map_toArray]
  simp [execOp, hop, Instr.makeFunc, this]

end
end Go.Proofs.YtlbodfkhenkcjaaGreatDoor.D


namespace Go.Proofs.YtlbodfkhenkcjaaGreatDoor.D
open Go Go.RowKit

section
variable {P : Program} {I : Inv} {B : Base} {L : Link} {W : World} {n : Nat} {σ : St} {a : Act} {o : Oper} {K : DV → Prop}

theorem cell_row {b j : Nat} {ys : List Value} {T : TypeId} {fz : Nat × Nat} (h : W.heap[b]? = some (.cells ys.toArray T fz)) : W.cell? ⟨b, j, none⟩ = ys[j]? := by
  rw [cell_of_row W b j ys.toArray T fz h]
  simp

theorem n_ld {T : TypeId} {m : Nat} {g : Bool} {x : Operand} {x' : Opd} (hop : o.op = .load T x) (hf : formP P T = some (m, g)) (hx : cO x = some x') (fr : Fr I B L W n σ a) (h : ap P I (.ld m g x') σ K) :
    ∃ r, K r ∧ Neu P B L W o a r := by
  have hr := fr.ev hx
  simp only [ap] at h
  split at h
  · rename_i k off hk
    rw [hk] at hr
    generalize hxe : a.eval x = v at hr
    cases hr with
    | lp _ _ _ b hb =>
      obtain ⟨cs, h1, h2, h3⟩ := h
      replace h2 := Nat.le_of_ble_eq_true h2
      obtain ⟨ys, k3, k2⟩ := fr.sim.cells h1 hb
      obtain ⟨y, hy, hyr⟩ := run_ld (P := P) (b := b) (o := off) hf (k3.drop off) (fun j y hj => k2 _ y (by simpa using hj)) (by simp; omega)
      exact ⟨_, h3, neu_same (y := y) (by simp [execOp, hop, hxe, hy]) hyr⟩
  · rename_i d off hk
    rw [hk] at hr
    generalize hxe : a.eval x = v at hr
    cases hr with
    | ep _ _ _ b o0 ys h1 h2 h3 =>
      obtain ⟨k1, k2⟩ := h
      replace k1 := Nat.le_of_ble_eq_true k1
      have hl : RepL (stab B L) W noLink d.cells ys := ⟨h1.symm, h3⟩
      obtain ⟨y, hy, hyr⟩ := run_ld (P := P) (b := b) (o := o0 + off) hf ((hl.lift L).drop off) (fun j y hj => by rw [Nat.add_assoc]; exact (h2 (off + j) y (by simpa using hj)).2) (by simp; omega)
      exact ⟨_, k2, neu_same (y := y) (by simp [execOp, hop, hxe, hy]) hyr⟩
  · exact h.elim

theorem run_part {S : Nat → Nat → Prop} {T : TypeId} {m off : Nat} {g : Bool} (hf : formP P T = some (m, g)) {ds : List DV} {ys : List Value} (hr : RepL S W L ds ys) (hm : off + m ≤ ds.length) :
    ∃ y, (Go.part T ys.toArray off).run P W = .ok y W ∧ Rep S W L (D.part g ((ds.drop off).take m)) y := by
  obtain ⟨d, hu, hd⟩ := formP_agg hf
  have hs : (sizeOf T).run P W = .ok m W := by
    have := formP_size hf
    cases hq : P.info? T with
    | none => simp [hq] at this
    | some i => simp [hq] at this; simp [sizeOf, typeInfo, hq, this]
  have hagg : (isAgg T).run P W = .ok g W := by
    unfold isAgg
    rw [Sem.run_bind, run_underlying hu W]
    cases d <;> simp_all
  cases g with
  | true =>
    refine ⟨.agg (ys.toArray.extract off (off + m)), by simp [Go.part, hagg, hs], ?_⟩
    have e : ys.toArray.extract off (off + m) = ((ys.drop off).take m).toArray := by simp [List.extract_toArray]
    rw [e]
    exact ((hr.drop off).take m).mkAgg
  | false =>
    have hm1 := formP_one hf
    subst hm1
    have hlt : off < ds.length := by omega
    have hlt' : off < ys.length := by rw [← hr.1]; exact hlt
    refine ⟨ys[off], by simp [Go.part, hagg, hlt'], ?_⟩
    have := hr.2 off _ _ (List.getElem?_eq_getElem hlt) (List.getElem?_eq_getElem hlt')
    have e : D.part false ((ds.drop off).take 1) = ds[off] := by
      rw [List.drop_eq_getElem_cons hlt]
      rfl
    rw [e]
    exact this

theorem agg_rep {S : Nat → Nat → Prop} {d : DV} {y : Value} {cs : List DV} (h : Rep S W L d y) (hc : aggCells d = some cs) : ∃ ys : List Value, y = .agg ys.toArray ∧ RepL S W L cs ys := by
  cases h with
  | v _ _ =>
    cases y <;> simp [aggCells] at hc
    rename_i ys
    subst hc
    exact ⟨ys.toList, by simp, by simp, fun i d y h1 h2 => by
      simp only [List.getElem?_map, Option.map_eq_some_iff] at h1
      obtain ⟨z, hz, rfl⟩ := h1
      rw [hz] at h2
      obtain rfl := Option.some.inj h2
      exact .v _ _⟩
  | agg _ _ ys h1 h2 =>
    simp only [aggCells, Option.some.injEq] at hc
    subst hc
    exact ⟨ys, rfl, h1, h2⟩
  | _ => simp [aggCells] at hc

theorem n_fld {T : TypeId} {fs : Array Field} {f : Field} {i m : Nat} {g : Bool} {x : Operand} {x' : Opd} (hop : o.op = .field T x i) (hT : P.underlying T = some (.struct fs)) (hi : fs[i]? = some f) (hf : formP P f.type = some (m, g))
    (hx : cO x = some x') (fr : Fr I B L W n σ a) (h : ap P I (.fld f.offset m g x') σ K) : ∃ r, K r ∧ Neu P B L W o a r := by
  obtain ⟨cs, h1, h2, h3⟩ := h
  replace h2 := Nat.le_of_ble_eq_true h2
  obtain ⟨ys, hy, hl⟩ := agg_rep (fr.ev hx) h1
  obtain ⟨y, hr, hyr⟩ := run_part (P := P) hf hl h2
  exact ⟨_, h3, neu_same (y := y) (by simp [execOp, hop, hy, Instr.field, run_underlying hT, hi, asAgg, hr]) hyr⟩

theorem n_fa {T : TypeId} {fs : Array Field} {f : Field} {i m : Nat} {x : Operand} {x' : Opd} (hop : o.op = .fieldAddr T x i) (hT : P.underlying T = some (.struct fs)) (hi : fs[i]? = some f) (hf : sizeP P f.type = some (m + 1))
    (hx : cO x = some x') (fr : Fr I B L W n σ a) (h : ap P I (.fa f.offset x') σ K) : ∃ r, K r ∧ Neu P B L W o a r := by
  have hr := fr.ev hx
  have hs : (sizeOf f.type).run P W = .ok (m + 1) W := by
    unfold sizeP at hf
    cases hq : P.info? f.type with
    | none => simp [hq] at hf
    | some i => simp [hq] at hf; simp [sizeOf, typeInfo, hq, hf]
  simp only [ap] at h
  split at h
  · rename_i k off hk
    rw [hk] at hr
    generalize hxe : a.eval x = v at hr
    cases hr with
    | lp _ _ _ b hb =>
      exact ⟨_, h, neu_same (y := .pointer (some ⟨b, off + f.offset, none⟩)) (by simp [execOp, hop, hxe, Instr.fieldAt, run_underlying hT, hi, Instr.sureAddr, fieldPlace, hs, Addr.add_mid]) (.lp _ k _ b hb)⟩
  · rename_i d off hk
    rw [hk] at hr
    generalize hxe : a.eval x = v at hr
    cases hr with
    | ep _ _ _ b o0 ys h1 h2 h3 =>
      exact ⟨_, h, neu_same (y := .pointer (some ⟨b, o0 + (off + f.offset), none⟩)) (by simp [execOp, hop, hxe, Instr.fieldAt, run_underlying hT, hi, Instr.sureAddr, fieldPlace, hs, Addr.add_mid, Nat.add_assoc]) (.ep _ d _ b o0 ys h1 h2 h3)⟩
  · exact h.elim

theorem elems_rep {S : Nat → Nat → Prop} {d : DV} {y : Value} {l : List DV} {sz : Nat} (h : Rep S W L d y) (he : elems d = some l) (hf : fitsSz sz d = true) : Rep S W L (.list sz l) y := by
  cases h with
  | list _ s l' ys a len cap b o h1 h3 h4 h5 h6 h7 h8 =>
    simp only [elems, Option.some.injEq, fitsSz, beq_iff_eq] at he hf
    subst he; subst hf
    exact .list _ s l' ys a len cap b o h1 h3 h4 h5 h6 h7 h8
  | own _ id e s l' y N B h1 h2 h3 h4 =>
    simp only [elems, Option.some.injEq, fitsSz, beq_iff_eq] at he hf
    subst he; subst hf
    exact h1
  | full _ s l' a n h1 =>
    simp only [elems, Option.some.injEq, fitsSz, beq_iff_eq] at he hf
    subst he; subst hf
    exact h1
  | v _ _ =>
    unfold elems at he
    split at he <;> simp_all
    subst he
    exact .list _ sz [] [] none 0 0 0 0 ⟨rfl, Nat.le_refl _⟩ (by simp) (by simp) (by simp) rfl (by simp) (by simp)
  | _ => simp [elems] at he

theorem flat_length {sz : Nat} : ∀ {l : List DV}, (∀ d ∈ l, d.cells.length = sz) → (l.flatMap DV.cells).length = l.length * sz
  | [], _ => by simp
  | d :: l, h => by
    rw [List.flatMap_cons, List.length_append, h d (by simp), flat_length (fun d hd => h d (by simp [hd])), List.length_cons, Nat.succ_mul, Nat.add_comm]

theorem flat_drop {sz : Nat} : ∀ {l : List DV} (k : Nat), (∀ d ∈ l, d.cells.length = sz) → (l.flatMap DV.cells).drop (k * sz) = (l.drop k).flatMap DV.cells
  | [], k, _ => by simp
  | d :: l, 0, _ => by simp
  | d :: l, k + 1, h => by
    have hd := h d (by simp)
    rw [List.flatMap_cons, List.drop_succ_cons, ← flat_drop k (fun d hd => h d (by simp [hd])), Nat.succ_mul, List.drop_append, hd, Nat.add_sub_cancel, List.drop_eq_nil_of_le (by rw [hd]; omega), List.nil_append]

theorem flat_take {sz : Nat} : ∀ {l : List DV} (k : Nat), (∀ d ∈ l, d.cells.length = sz) → (l.flatMap DV.cells).take (k * sz) = (l.take k).flatMap DV.cells
  | [], k, _ => by simp
  | d :: l, 0, _ => by simp
  | d :: l, k + 1, h => by
    have hd := h d (by simp)
    rw [List.flatMap_cons, List.take_succ_cons, List.flatMap_cons, ← flat_take k (fun d hd => h d (by simp [hd])), Nat.succ_mul, List.take_append, hd, Nat.add_sub_cancel, List.take_of_length_le (by rw [hd]; omega)]

theorem list_elem {S : Nat → Nat → Prop} {l : List DV} {sz j : Nat} {d : DV} {v : Value} (h : Rep S W L (.list sz l) v) (hj : l[j]? = some d) :
    ∃ (b o cap : Nat), v = .slice (some ⟨b, o, none⟩) l.length cap ∧ Rep S W L (.ep d 0) (.pointer (some ⟨b, o + j * sz, none⟩)) := by
  cases h with
  | list _ _ _ ys a len cap b o h1 h3 h4 h5 h6 h7 h8 =>
    have hne : l ≠ [] := by intro e; subst e; simp at hj
    rw [h5 hne, h1.1]
    refine ⟨b, o, cap, rfl, ?_⟩
    have hjl : j < l.length := (List.getElem?_eq_some_iff.1 hj).1
    have hd : d ∈ l := List.mem_of_getElem? hj
    have hds : d.cells.length = sz := h3 d hd
    have hflat := flat_length h3
    have hcut : ((l.flatMap DV.cells).drop (j * sz)).take sz = d.cells := by
      rw [flat_drop j h3]
      have := flat_take (l := l.drop j) 1 (fun d hd => h3 d (List.mem_of_mem_drop hd))
      rw [Nat.one_mul] at this
      rw [this, List.drop_eq_getElem_cons hjl]
      have e : l[j] = d := by rw [List.getElem?_eq_getElem hjl] at hj; exact Option.some.inj hj
      simp [e]
    have hle : (j + 1) * sz ≤ l.length * sz := Nat.mul_le_mul_right _ hjl
    rw [Nat.succ_mul] at hle
    refine .ep _ d 0 b (o + j * sz) ((ys.drop (j * sz)).take sz) (by rw [List.length_take, List.length_drop, h6, hflat, hds]; omega) (fun i y hy => ?_) (fun i c y hc hy => ?_)
    · rw [List.getElem?_take] at hy
      split at hy
      · rw [List.getElem?_drop] at hy
        have := h7 _ _ hy
        rw [Nat.add_assoc]
        exact this
      · cases hy
    · rw [← hcut] at hc
      rw [List.getElem?_take] at hc hy
      split at hy
      · rename_i hi
        rw [if_pos hi] at hc
        rw [List.getElem?_drop] at hy hc
        exact h8 _ _ _ hc hy
      · cases hy

theorem sizeP_run {T : TypeId} {m : Nat} (hf : sizeP P T = some m) : (sizeOf T).run P W = .ok m W := by
  unfold sizeP at hf
  cases hq : P.info? T with
  | none => simp [hq] at hf
  | some i => simp [hq] at hf; simp [sizeOf, typeInfo, hq, hf]

theorem rowOf_rep {S : Nat → Nat → Prop} {d : DV} {v : Value} {k sz q : Nat} (hr : Rep S W L d v) (hq : rowOf d = some (k, sz, q)) : ∃ b cap, v = .slice (some ⟨b, 0, none⟩) q cap ∧ L.bx[k]? = some b := by
  cases hr with
  | row _ k' sz' n' b cap hb hc =>
    simp only [rowOf, Option.some.injEq, Prod.mk.injEq] at hq
    obtain ⟨rfl, rfl, rfl⟩ := hq
    exact ⟨b, cap, rfl, hb⟩
  | _ => simp [rowOf] at hq

theorem n_ixa {T e : TypeId} {m : Nat} {x i : Operand} {x' i' : Opd} (hop : o.op = .indexAddr T x i) (hT : P.underlying T = some (.slice e)) (hs : sizeP P e = some m) (hx : cO x = some x') (hi : cO i = some i')
    (fr : Fr I B L W n σ a) (h : ap P I (.ixa m x' i') σ K) : ∃ r, K r ∧ Neu P B L W o a r := by
  have hr := fr.ev hx
  have hj := fr.ev hi
  simp only [ap, asNat] at h
  split at h
  · rename_i k j hk
    rw [hk] at hj
    generalize hie : a.eval i = iv at hj
    cases hj
    obtain ⟨h0, h⟩ := h
    split at h
    · rename_i k sz' q hq
      obtain ⟨rfl, h1, h2⟩ := h
      obtain ⟨b, cap, hv, hb⟩ := rowOf_rep hr hq
      have hc : 0 ≤ j ∧ j < (q : Int) := ⟨h0, by omega⟩
      exact ⟨_, h2, neu_same (y := .pointer (some ⟨b, j.toNat * sz', none⟩)) (by simp [execOp, hop, hv, hie, Instr.indexAt, asIntOf, run_underlying hT, hc, sizeP_run hs, Addr.add_mid]) (.lp _ k _ b hb)⟩
    obtain ⟨l, d, h1, h2, h3, h4⟩ := h
    obtain ⟨b, o', cap, hv, hep⟩ := list_elem (elems_rep hr h1 h2) h3
    have hlt : j.toNat < l.length := (List.getElem?_eq_some_iff.1 h3).1
    refine ⟨_, h4, neu_same (y := .pointer (some ⟨b, o' + j.toNat * m, none⟩)) ?_ hep⟩
    have hc : 0 ≤ j ∧ j < (l.length : Int) := ⟨h0, by omega⟩
    simp [execOp, hop, hv, hie, Instr.indexAt, asIntOf, run_underlying hT, hc, sizeP_run hs, Addr.add_mid]
  · exact h.elim

theorem n_ixp {T e : TypeId} {m len : Nat} {x i : Operand} {x' i' : Opd} (hop : o.op = .indexAddr T x i) (hT : P.underlying T = some (.array len e)) (hs : sizeP P e = some m) (hx : cO x = some x') (hi : cO i = some i')
    (fr : Fr I B L W n σ a) (h : ap P I (.ixp len m x' i') σ K) : ∃ r, K r ∧ Neu P B L W o a r := by
  have hr := fr.ev hx
  have hj := fr.ev hi
  simp only [ap, asNat] at h
  split at h
  · rename_i k j hk
    rw [hk] at hj
    generalize hie : a.eval i = iv at hj
    cases hj
    obtain ⟨h0, h1, h⟩ := h
    have hc : 0 ≤ j ∧ j < (len : Int) := ⟨h0, by omega⟩
    split at h
    · rename_i q off hq
      rw [hq] at hr
      generalize hxe : a.eval x = v at hr
      cases hr with
      | lp _ _ _ b hb =>
        exact ⟨_, h, neu_same (y := .pointer (some ⟨b, off + j.toNat * m, none⟩)) (by simp [execOp, hop, hxe, hie, Instr.indexAt, asIntOf, run_underlying hT, hc, sizeP_run hs, Instr.sureAddr, Addr.add_mid]) (.lp _ q _ b hb)⟩
    · rename_i d off hq
      rw [hq] at hr
      generalize hxe : a.eval x = v at hr
      cases hr with
      | ep _ _ _ b o0 ys h1 h2 h3 =>
        exact ⟨_, h, neu_same (y := .pointer (some ⟨b, o0 + (off + j.toNat * m), none⟩)) (by simp [execOp, hop, hxe, hie, Instr.indexAt, asIntOf, run_underlying hT, hc, sizeP_run hs, Instr.sureAddr, Addr.add_mid, Nat.add_assoc]) (.ep _ d _ b o0 ys h1 h2 h3)⟩
    · exact h.elim
  · exact h.elim

theorem n_ixs {T : TypeId} {x i : Operand} {x' i' : Opd} (hop : o.op = .index T x i) (hT : P.underlying T = some .string) (hx : cO x = some x') (hi : cO i = some i')
    (fr : Fr I B L W n σ a) (h : ap P I (.ixs x' i') σ K) : ∃ r, K r ∧ Neu P B L W o a r := by
  have hr := fr.ev hx
  have hj := fr.ev hi
  simp only [ap] at h
  split at h
  · rename_i s hs
    rw [hs] at hr
    generalize hxe : a.eval x = v at hr
    cases hr
    simp only [asNat] at h
    split at h
    · rename_i k j hk
      rw [hk] at hj
      generalize hie : a.eval i = iv at hj
      cases hj
      obtain ⟨h0, h1, h2⟩ := h
      rw [← byteAt_eq h1] at h2
      refine ⟨_, h2, neu_same (y := .int .u8 (s[j.toNat]'h1).toNat) ?_ (.v _ _)⟩
      have e : s[j.toNat]? = some (s[j.toNat]'h1) := getElem?_pos s j.toNat h1
      simp [execOp, hop, hxe, hie, Instr.index, asIntOf, run_underlying hT, h0, e]
    · exact h.elim
  · exact h.elim

theorem n_ixv {T e : TypeId} {m len : Nat} {g : Bool} {x i : Operand} {x' i' : Opd} (hop : o.op = .index T x i) (hT : P.underlying T = some (.array len e)) (hf : formP P e = some (m, g)) (hx : cO x = some x') (hi : cO i = some i')
    (fr : Fr I B L W n σ a) (h : ap P I (.ixv len m g x' i') σ K) : ∃ r, K r ∧ Neu P B L W o a r := by
  have hj := fr.ev hi
  simp only [ap, asNat] at h
  split at h
  · rename_i k j hk
    rw [hk] at hj
    generalize hie : a.eval i = iv at hj
    cases hj
    obtain ⟨h0, cs, h1, h2, h3, h4⟩ := h
    obtain ⟨ys, hy, hl⟩ := agg_rep (fr.ev hx) h1
    obtain ⟨y, hr, hyr⟩ := run_part (P := P) hf hl h3
    have hc : 0 ≤ j ∧ j < (len : Int) := ⟨h0, by omega⟩
    have hs : (sizeOf e).run P W = .ok m W := sizeP_run (formP_size hf)
    exact ⟨_, h4, neu_same (y := y) (by simp [execOp, hop, hy, hie, Instr.index, asIntOf, run_underlying hT, hc, hs, hr]) hyr⟩
  · exact h.elim

theorem n_ext {x : Operand} {x' : Opd} {i : Nat} (hop : o.op = .extract x i) (hx : cO x = some x') (fr : Fr I B L W n σ a) (h : ap P I (.ext x' i) σ K) : ∃ r, K r ∧ Neu P B L W o a r := by
  have hr := fr.ev hx
  simp only [ap] at h
  split at h
  · rename_i cs hk
    rw [hk] at hr
    generalize hxe : a.eval x = v at hr
    obtain ⟨d, h1, h2⟩ := h
    cases hr with
    | tup _ _ ys k1 k2 =>
      have hlt : i < ys.length := by rw [← k1]; exact (List.getElem?_eq_some_iff.1 h1).1
      exact ⟨_, h2, neu_same (y := ys[i]) (by simp [execOp, hop, hxe, Instr.extract, hlt]) (k2 i d _ h1 (List.getElem?_eq_getElem hlt))⟩
  · rename_i ys hk
    rw [hk] at hr
    generalize hxe : a.eval x = v at hr
    obtain ⟨y, h1, h2⟩ := h
    cases hr
    exact ⟨_, h2, neu_same (y := y) (by simp [execOp, hop, hxe, Instr.extract, h1]) (.v _ _)⟩
  · exact h.elim

theorem n_ta {S T : TypeId} {D : TypeDesc} {i : TypeInfo} {ok : Bool} {z : Value} {x : Operand} {x' : Opd} (hop : o.op = .typeAssert x S T ok) (hT : P.underlying T = some D) (hD : ∀ m, D ≠ .interface m) (hi : P.info? T = some i) (hz : i.zero = some z)
    (hx : cO x = some x') (fr : Fr I B L W n σ a) (h : ap P I (.ta T ok z x') σ K) : ∃ r, K r ∧ Neu P B L W o a r := by
  have hr := fr.ev hx
  have hzero : (zeroValue T).run P W = .ok z W := by simp [zeroValue, typeInfo, hi, hz]
  simp only [ap] at h
  split at h
  · rename_i hk
    rw [hk] at hr
    generalize hxe : a.eval x = v at hr
    cases hr
    obtain ⟨rfl, h1⟩ := h
    refine ⟨_, h1, neu_same (y := .tuple #[z, .bool false]) ?_ (.v _ _)⟩
    cases D <;> first | exact absurd rfl (hD _) | simp [execOp, hop, hxe, Instr.typeAssert, run_underlying hT, hzero]
  · rename_i t' y hk
    rw [hk] at hr
    generalize hxe : a.eval x = v at hr
    cases hr
    split at h
    · rename_i e
      subst e
      refine ⟨_, h, neu_same (y := if ok = true then .tuple #[y, .bool true] else y) ?_ (by cases ok <;> exact .v _ _)⟩
      cases D <;> first | exact absurd rfl (hD _) | simp [execOp, hop, hxe, Instr.typeAssert, run_underlying hT]
    · rename_i e
      obtain ⟨rfl, h1⟩ := h
      refine ⟨_, h1, neu_same (y := .tuple #[z, .bool false]) ?_ (.v _ _)⟩
      cases D <;> first | exact absurd rfl (hD _) | simp [execOp, hop, hxe, Instr.typeAssert, run_underlying hT, e, hzero]
  · rename_i t' d hk
    rw [hk] at hr
    generalize hxe : a.eval x = v at hr
    cases hr with
    | ifc _ _ _ y hy =>
      split at h
      · rename_i e
        subst e
        refine ⟨_, h, neu_same (y := if ok = true then .tuple #[y, .bool true] else y) ?_ ?_⟩
        · cases D <;> first | exact absurd rfl (hD _) | simp [execOp, hop, hxe, Instr.typeAssert, run_underlying hT]
        · cases ok
          · exact hy
          · exact .tup _ [d, .v (.bool true)] [y, .bool true] rfl (RepL.cons hy (.cons (.v _ _) .nil)).2
      · rename_i e
        obtain ⟨rfl, h1⟩ := h
        refine ⟨_, h1, neu_same (y := .tuple #[z, .bool false]) ?_ (.v _ _)⟩
        cases D <;> first | exact absurd rfl (hD _) | simp [execOp, hop, hxe, Instr.typeAssert, run_underlying hT, e, hzero]
  · exact h.elim

end
end Go.Proofs.YtlbodfkhenkcjaaGreatDoor.D


namespace Go.Proofs.YtlbodfkhenkcjaaGreatDoor.D
open Go Go.RowKit

section
variable {P : Program} {I : Inv} {B : Base} {L : Link} {W : World} {n : Nat} {σ : St} {a : Act} {o : Oper} {K : DV → Prop}

theorem n_lenS {T : TypeId} {x : Operand} {x' : Opd} {args : Array Operand} {ats : Array TypeId} (hop : o.op = .call { callee := .builtin .len, args, argTypes := ats }) (ha : args.toList = [x]) (hat : ats.toList = [T])
    (hT : P.underlying T = some .string) (hx : cO x = some x') (fr : Fr I B L W n σ a) (h : ap P I (.len true x') σ K) : ∃ r, K r ∧ Neu P B L W o a r := by
  have hr := fr.ev hx
  have e1 : args = #[x] := by cases args; simp_all
  have e2 : ats = #[T] := by cases ats; simp_all
  subst e1; subst e2
  simp only [ap, if_true] at h
  split at h
  · rename_i s hs
    rw [hs] at hr
    generalize hxe : a.eval x = v at hr
    cases hr
    exact ⟨_, h, neu_same (y := .int .i64 s.size) (by simp [execOp, hop, resolve, invoke, builtin, hxe, Builtin.len_, run_underlying hT, goInt]) (.v _ _)⟩
  · exact h.elim

theorem n_lenL {T e : TypeId} {x : Operand} {x' : Opd} {args : Array Operand} {ats : Array TypeId} (hop : o.op = .call { callee := .builtin .len, args, argTypes := ats }) (ha : args.toList = [x]) (hat : ats.toList = [T])
    (hT : P.underlying T = some (.slice e)) (hx : cO x = some x') (fr : Fr I B L W n σ a) (h : ap P I (.len false x') σ K) : ∃ r, K r ∧ Neu P B L W o a r := by
  have hr := fr.ev hx
  have e1 : args = #[x] := by cases args; simp_all
  have e2 : ats = #[T] := by cases ats; simp_all
  subst e1; subst e2
  simp only [ap, Bool.false_eq_true, if_false] at h
  split at h
  · rename_i k sz' q hq
    obtain ⟨b, cap, hv, hb⟩ := rowOf_rep hr hq
    refine ⟨_, h, neu_same (y := .int .i64 q) ?_ (.v _ _)⟩
    simp [execOp, hop, resolve, invoke, builtin, hv, Builtin.len_, run_underlying hT, goInt]
  obtain ⟨l, h1, h2⟩ := h
  have hsz : ∃ sz, fitsSz sz (D.ev σ.env x') = true := by
    generalize D.ev σ.env x' = d at h1
    unfold elems at h1
    split at h1 <;> first | exact ⟨_, beq_self_eq_true _⟩ | exact ⟨0, rfl⟩ | cases h1
  obtain ⟨sz, hsz⟩ := hsz
  have hl := elems_rep hr h1 hsz
  generalize hxe : a.eval x = v at hl
  cases hl with
  | list _ _ _ ys ad len cap b o' k1 k3 k4 k5 k6 k7 k8 =>
    refine ⟨_, h2, neu_same (y := .int .i64 l.length) ?_ (.v _ _)⟩
    simp [execOp, hop, resolve, invoke, builtin, hxe, Builtin.len_, run_underlying hT, goInt, k1.1]

theorem dmm_run {mx : Bool} {x y r : Value} (h : dmm mx x y = some r) : (if mx = true then Builtin.max2 x y else Builtin.min2 x y).run P W = .ok r W := by
  unfold dmm at h
  split at h
  · simp only [Option.some.injEq] at h
    subst h
    cases mx <;> simp [Builtin.max2, Builtin.min2]
  · cases h

theorem dmms_run {mx : Bool} : ∀ (xs : List Value) (x r : Value), xs.foldlM (dmm mx) x = some r → (xs.foldlM (if mx = true then Builtin.max2 else Builtin.min2) x).run P W = .ok r W
  | [], x, r, h => by simp at h; subst h; simp
  | y :: xs, x, r, h => by
    simp only [List.foldlM_cons, Option.bind_eq_bind, Option.bind_eq_some_iff] at h
    obtain ⟨z, h1, h2⟩ := h
    have := dmm_run (P := P) (W := W) h1
    have ih := dmms_run xs z r h2
    cases mx
    · simp only [Bool.false_eq_true, if_false] at this ih ⊢
      simp only [List.foldlM_cons, Sem.run_bind, this, Result.andThen_ok, ih]
    · simp only [if_true] at this ih ⊢
      simp only [List.foldlM_cons, Sem.run_bind, this, Result.andThen_ok, ih]

theorem n_mm {mx : Bool} {x' : Opd} {xs' : List Opd} {args : Array Operand} {ats : Array TypeId} (hop : o.op = .call { callee := .builtin (if mx = true then .max else .min), args, argTypes := ats }) (ha : cOs args.toList = some (x' :: xs'))
    (fr : Fr I B L W n σ a) (h : ap P I (.mm mx x' xs') σ K) : ∃ r, K r ∧ Neu P B L W o a r := by
  have hr := fr.evs ha
  simp only [ap] at h
  split at h
  · rename_i z hz
    obtain ⟨bs, r, h1, h2, h3⟩ := h
    have hb : (x' :: xs').map (D.ev σ.env) = (z :: bs).map .v := by simp [hz, h1]
    rw [hb] at hr
    have he := hr.plain
    have hrun := dmms_run (P := P) (W := W) bs z r h2
    refine ⟨_, h3, neu_same (y := r) ?_ (.v _ _)⟩
    have he' : (args.map a.eval).toList = z :: bs := by simpa using he
    have he2 : args.map a.eval = (z :: bs).toArray := by rw [← he']
    cases mx
    · simp only [Bool.false_eq_true, if_false] at hop hrun
      simp only [execOp, hop, resolve, he2, Sem.run_bind, Sem.run_pure, Result.andThen_ok, invoke, builtin, Builtin.min_, hrun]
    · simp only [if_true] at hop hrun
      simp only [execOp, hop, resolve, he2, Sem.run_bind, Sem.run_pure, Result.andThen_ok, invoke, builtin, Builtin.max_, hrun]
  · exact h.elim

theorem opt_bound {x : Option Operand} {x' : Option Opd} (hx : cOo x = some x') (fr : Fr I B L W n σ a) {dflt : Nat} {K : Nat → Prop} (h : optNat σ.env x' dflt K) :
    ∃ k, K k ∧ (x = none ∧ k = dflt ∨ ∃ (kk : IntKind) (i : Int), x.map a.eval = some (.int kk i) ∧ 0 ≤ i ∧ k = i.toNat) := by
  cases x with
  | none =>
    simp only [cOo, Option.some.injEq] at hx
    subst hx
    exact ⟨dflt, h, .inl ⟨rfl, rfl⟩⟩
  | some y =>
    simp only [cOo, Option.map_eq_some_iff] at hx
    obtain ⟨y', hy, rfl⟩ := hx
    have hr := fr.ev hy
    simp only [optNat, asNat] at h
    split at h
    · rename_i k i hk
      rw [hk] at hr
      generalize hye : a.eval y = v at hr
      cases hr
      exact ⟨_, h.2, .inr ⟨k, i, by simp [hye], h.1, rfl⟩⟩
    · exact h.elim

theorem run_bound {v : Value} {y k : Nat} {code : BoundsCode} {kk : IntKind} {i : Int} (hv : v = .int kk i) (h0 : 0 ≤ i) (hk : k = i.toNat) (hle : k ≤ y) : (Instr.sliceBound v y code).run P W = .ok k W := by
  subst hv; subst hk
  have : 0 ≤ i ∧ i ≤ (y : Int) := ⟨h0, by omega⟩
  simp [Instr.sliceBound, asIntOf, this]

theorem run_bounds {isS : Bool} {len cap l h m : Nat} {lo hi mx : Option Value}
    (hlo : lo = none ∧ l = 0 ∨ ∃ (kk : IntKind) (i : Int), lo = some (.int kk i) ∧ 0 ≤ i ∧ l = i.toNat)
    (hhi : hi = none ∧ mx = none ∧ h = len ∨ ∃ (kk : IntKind) (i : Int), hi = some (.int kk i) ∧ 0 ≤ i ∧ h = i.toNat)
    (hmx : mx = none ∧ m = cap ∨ ∃ (kk : IntKind) (i : Int), mx = some (.int kk i) ∧ 0 ≤ i ∧ m = i.toNat) (h1 : l ≤ h) (h2 : h ≤ m) (h3 : m ≤ cap) :
    (Instr.sliceBounds isS len cap lo hi mx).run P W = .ok (l, h, m) W := by
  unfold Instr.sliceBounds
  rcases hmx with ⟨rfl, rfl⟩ | ⟨k1, i1, rfl, a1, b1⟩
  · rcases hhi with ⟨rfl, _, rfl⟩ | ⟨k2, i2, rfl, a2, b2⟩
    · rcases hlo with ⟨rfl, rfl⟩ | ⟨k3, i3, rfl, a3, b3⟩
      · simp
      · simp [run_bound (P := P) (W := W) rfl a3 b3 h1]
    · rcases hlo with ⟨rfl, rfl⟩ | ⟨k3, i3, rfl, a3, b3⟩
      · simp [run_bound (P := P) (W := W) rfl a2 b2 h2]
      · simp [run_bound (P := P) (W := W) rfl a2 b2 h2, run_bound (P := P) (W := W) rfl a3 b3 h1]
  · rcases hhi with ⟨_, h, _⟩ | ⟨k2, i2, rfl, a2, b2⟩
    · cases h
    · rcases hlo with ⟨rfl, rfl⟩ | ⟨k3, i3, rfl, a3, b3⟩
      · simp [run_bound (P := P) (W := W) rfl a1 b1 h3, run_bound (P := P) (W := W) rfl a2 b2 h2]
      · simp [run_bound (P := P) (W := W) rfl a1 b1 h3, run_bound (P := P) (W := W) rfl a2 b2 h2, run_bound (P := P) (W := W) rfl a3 b3 h1]

theorem opt_lo {x : Option Operand} {k dflt : Nat} (h : x = none ∧ k = dflt ∨ ∃ (kk : IntKind) (i : Int), x.map a.eval = some (.int kk i) ∧ 0 ≤ i ∧ k = i.toNat) :
    x.map a.eval = none ∧ k = dflt ∨ ∃ (kk : IntKind) (i : Int), x.map a.eval = some (.int kk i) ∧ 0 ≤ i ∧ k = i.toNat := by
  rcases h with ⟨rfl, e⟩ | h
  · exact .inl ⟨rfl, e⟩
  · exact .inr h

theorem n_slS {T : TypeId} {x : Operand} {lo hi : Option Operand} {x' : Opd} {lo' hi' : Option Opd} (hop : o.op = .slice T x lo hi none) (hT : P.underlying T = some .string) (hx : cO x = some x') (hlo : cOo lo = some lo') (hhi : cOo hi = some hi')
    (fr : Fr I B L W n σ a) (h : ap P I (.slS x' lo' hi') σ K) : ∃ r, K r ∧ Neu P B L W o a r := by
  have hr := fr.ev hx
  simp only [ap] at h
  split at h
  · rename_i s hs
    rw [hs] at hr
    generalize hxe : a.eval x = v at hr
    cases hr
    obtain ⟨l, h, hl⟩ := opt_bound hlo fr h
    obtain ⟨k, ⟨h1, h2, h3⟩, hk⟩ := opt_bound hhi fr h
    have hb := run_bounds (P := P) (W := W) (isS := false) (len := s.size) (cap := s.size) (m := s.size) (mx := none) (opt_lo hl)
      (by
        rcases opt_lo hk with ⟨e, e'⟩ | e
        · exact .inl ⟨e, rfl, e'⟩
        · exact .inr e) (.inl ⟨rfl, rfl⟩) h1 h2 (Nat.le_refl _)
    exact ⟨_, h3, neu_same (y := .string (s.extract l k)) (by simp [execOp, hop, hxe, Instr.sliceAt, Instr.slice, run_underlying hT, hb]) (.v _ _)⟩
  · exact h.elim

theorem list_cut {S : Nat → Nat → Prop} {sz k h m : Nat} {l : List DV} {ad : Option Addr} {len cap : Nat} (hr : Rep S W L (.list sz l) (.slice ad len cap)) (h1 : k ≤ h) (h2 : h ≤ m) (h3 : h ≤ l.length) :
    Rep S W L (.list sz ((l.take h).drop k)) (.slice (if m = k then ad else ad.map (·.add (k * sz))) (h - k) (m - k)) := by
  cases hr with
  | list _ _ _ ys a len cap b o k1 k3 k4 k5 k6 k7 k8 =>
    have hflat := flat_length k3
    have hcut : (((l.take h).drop k).flatMap DV.cells) = ((l.flatMap DV.cells).take (h * sz)).drop (k * sz) := by
      rw [flat_take h k3, flat_drop k (fun d hd => k3 d (List.mem_of_mem_take hd))]
    refine .list _ sz _ ((ys.take (h * sz)).drop (k * sz)) _ _ _ b (o + k * sz) ⟨by simp; omega, by omega⟩ (fun d hd => k3 d (List.mem_of_mem_take (List.mem_of_mem_drop hd)))
      (fun d hd => ?_) (fun hne => ?_) ?_ (fun j y hy => ?_) (fun i d y hd hy => ?_)
    · rw [hcut] at hd
      exact k4 d (List.mem_of_mem_take (List.mem_of_mem_drop hd))
    · have hl : l ≠ [] := by intro e; subst e; simp at hne
      have hkh : k < h := by
        rcases Nat.lt_or_ge k h with h | h
        · exact h
        · exfalso; apply hne; apply List.drop_eq_nil_of_le; simp; omega
      rw [k5 hl, if_neg (by omega)]
      simp [Addr.add_mid]
    · rw [hcut]
      simp only [List.length_drop, List.length_take, k6]
    · rw [List.getElem?_drop, List.getElem?_take] at hy
      split at hy
      · have := k7 _ _ hy
        rw [Nat.add_assoc]
        exact this
      · cases hy
    · rw [hcut, List.getElem?_drop, List.getElem?_take] at hd
      rw [List.getElem?_drop, List.getElem?_take] at hy
      split at hy
      · rename_i hi
        rw [if_pos hi] at hd
        exact k8 _ _ _ hd hy
      · cases hy

theorem n_slL {T e : TypeId} {sz : Nat} {x : Operand} {lo hi mx : Option Operand} {x' : Opd} {lo' hi' mx' : Option Opd} (hop : o.op = .slice T x lo hi mx) (hT : P.underlying T = some (.slice e)) (hs : sizeP P e = some sz) (hm : mx' = none ∨ hi' ≠ none)
    (hx : cO x = some x') (hlo : cOo lo = some lo') (hhi : cOo hi = some hi') (hmx : cOo mx = some mx')
    (fr : Fr I B L W n σ a) (h : ap P I (.slL sz x' lo' hi' mx') σ K) : ∃ r, K r ∧ Neu P B L W o a r := by
  have hr := fr.ev hx
  obtain ⟨l, h1, h2, h⟩ := h
  have hl := elems_rep hr h1 h2
  obtain ⟨m, h, hm1⟩ := opt_bound hmx fr h
  obtain ⟨k, h, hk⟩ := opt_bound hhi fr h
  obtain ⟨q, ⟨a1, a2, a3, a4⟩, hq⟩ := opt_bound hlo fr h
  generalize hxe : a.eval x = v at hl
  have hmore : ∃ ad cap, v = .slice ad l.length cap ∧ l.length ≤ cap := by
    cases hl with
    | list _ _ _ ys ad len cap b o' k1 k3 k4 k5 k6 k7 k8 => exact ⟨ad, cap, by rw [k1.1], by rw [← k1.1]; exact k1.2⟩
  obtain ⟨ad, cap, rfl, hcap⟩ := hmore
  have hM : ∃ M, (mx.map a.eval = none ∧ M = cap ∨ ∃ (kk : IntKind) (i : Int), mx.map a.eval = some (.int kk i) ∧ 0 ≤ i ∧ M = i.toNat) ∧ k ≤ M ∧ M ≤ cap := by
    rcases opt_lo hm1 with ⟨e1, e2⟩ | e1
    · exact ⟨cap, .inl ⟨e1, rfl⟩, by omega, Nat.le_refl _⟩
    · exact ⟨m, .inr e1, a2, by omega⟩
  obtain ⟨M, hM1, hM2, hM3⟩ := hM
  have hb := run_bounds (P := P) (W := W) (isS := true) (len := l.length) (cap := cap) (m := M) (h := k) (opt_lo hq)
      (by
        rcases opt_lo hk with ⟨e, e'⟩ | e
        · refine .inl ⟨e, ?_, e'⟩
          rcases hm with rfl | hm
          · cases mx with
            | none => rfl
            | some z => simp [cOo] at hmx
          · exfalso
            cases hi with
            | none => simp [cOo] at hhi; exact hm hhi.symm
            | some z => simp at e
        · exact .inr e) hM1 a1 hM2 hM3
  refine ⟨_, a4, neu_same (y := .slice (if M = q then ad else ad.map (·.add (q * sz))) (k - q) (M - q)) ?_ (list_cut hl a1 hM2 (by omega))⟩
  simp [execOp, hop, hxe, Instr.sliceAt, Instr.slice, run_underlying hT, hb, sizeP_run hs]

end
end Go.Proofs.YtlbodfkhenkcjaaGreatDoor.D


namespace Go.Proofs.YtlbodfkhenkcjaaGreatDoor.D
open Go Go.RowKit

section
variable {P : Program} {I : Inv} {B : Base} {L : Link} {W : World} {n : Nat} {σ : St} {a : Act} {o : Oper} {K : DV → Prop}

theorem foldl_put (off : Nat) : ∀ (vs : List Value) (k : Nat) (cells : Array Value), off + k + vs.length ≤ cells.size →
    ((vs.zipIdx k).foldl (fun (cs : Array Value) p => cs.setIfInBounds (off + p.2) p.1) cells).toList = cells.toList.take (off + k) ++ vs ++ cells.toList.drop (off + k + vs.length)
  | [], k, cells, _ => by simp
  | v :: vs, k, cells, h => by
    simp only [List.length_cons] at h
    rw [List.zipIdx_cons, List.foldl_cons, foldl_put off vs (k + 1) _ (by simp; omega)]
    have hlt : off + k < cells.toList.length := by simp; omega
    simp only [Array.toList_setIfInBounds, List.length_cons]
    have e1 : off + (k + 1) = off + k + 1 := by omega
    rw [e1, List.take_set, List.drop_set_of_lt (by omega)]
    have e2 : (cells.toList.take (off + k + 1)).set (off + k) v = cells.toList.take (off + k) ++ [v] := by
      have hm : (cells.toList.take (off + k)).length = off + k := by rw [List.length_take]; omega
      rw [List.take_succ_eq_append_getElem hlt, List.set_append_right _ _ (by omega), hm, Nat.sub_self]
      rfl
    rw [e2]
    have e3 : off + k + 1 + vs.length = off + k + (vs.length + 1) := by omega
    simp [e3]

theorem fill_rep {S : Nat → Nat → Prop} {pl : Nat → Option (Nat × Nat)} {env : List (Nat × DV)} {ρ : Operand → Value} (hev : ∀ (x : Operand) (x' : Opd), cO x = some x' → Rep S W L (D.ev env x') (ρ x)) :
    ∀ (parts : List (Nat × Operand)) (l : List (Nat × Nat × Opd)) (ds cs : List DV) (cells : Array Value), placed pl parts = some l → RepL S W L ds cells.toList →
      fillD ds (l.map fun p => (p.1, (D.ev env p.2.2).cells)) = some cs → (∀ p ∈ l, (D.ev env p.2.2).cells.length = p.2.1 ∧ D.ev env p.2.2 ≠ .u) →
      ∃ cells' : Array Value, Instr.fill pl cells (parts.map fun (i, x) => (i, ρ x)) = some cells' ∧ RepL S W L cs cells'.toList
  | [], l, ds, cs, cells, hp, hr, hf, _ => by
    simp only [placed, Option.some.injEq] at hp
    subst hp
    simp only [List.map_nil, fillD, Option.some.injEq] at hf
    subst hf
    exact ⟨cells, rfl, hr⟩
  | (j, x) :: parts, l, ds, cs, cells, hp, hr, hf, hok => by
    simp only [placed] at hp
    split at hp
    · rename_i q y l' h1 h2 h3
      simp only [Option.some.injEq] at hp
      subst hp
      have hxr := hev x y h2
      have hq := hok (q.1, q.2, y) (by simp)
      have hsz : (D.ev env y).cells.length = q.2 := hq.1
      have hu : D.ev env y ≠ .u := hq.2
      have hcr := hxr.cells hu
      have hlen : (ρ x).cells.size = q.2 := by rw [← hsz, hcr.1]; simp
      simp only [List.map_cons, fillD] at hf
      split at hf
      · rename_i hle
        have hcs : ds.length = cells.size := by rw [hr.1]; simp
        rw [hsz] at hle
        have hstep : RepL S W L (ds.take q.1 ++ (D.ev env y).cells ++ ds.drop (q.1 + (D.ev env y).cells.length))
            (((ρ x).cells.zipIdx.foldl (fun cs (c, j) => cs.setIfInBounds (q.1 + j) c) cells).toList) := by
          have := foldl_put q.1 (ρ x).cells.toList 0 cells (by simp; omega)
          have e : ((ρ x).cells.zipIdx.foldl (fun cs (c, j) => cs.setIfInBounds (q.1 + j) c) cells) = (((ρ x).cells.toList.zipIdx 0).foldl (fun (cs : Array Value) p => cs.setIfInBounds (q.1 + p.2) p.1) cells) := by
            rw [← Array.foldl_toList]
            simp
          rw [e, this, hsz]
          simp only [Nat.add_zero]
          have e3 : (ρ x).cells.toList.length = q.2 := by simpa using hlen
          rw [e3]
          exact ((hr.take q.1).append hcr).append (hr.drop _)
        obtain ⟨cells', k1, k2⟩ := fill_rep hev parts l' _ cs _ h3 hstep hf (fun p hp => hok p (by simp [hp]))
        refine ⟨cells', ?_, k2⟩
        have hc : ¬ ((ρ x).cells.size ≠ q.2 ∨ q.1 + (ρ x).cells.size > cells.size) := by rw [hlen]; omega
        have hc' : ¬ (decide ((ρ x).cells.size ≠ q.2) || decide (q.1 + (ρ x).cells.size > cells.size)) = true := by simpa using hc
        simp only [List.map_cons, Instr.fill, h1]
        rw [if_neg hc']
        exact k1
      · cases hf
    · cases hp

theorem sizesP_mapM : ∀ (fs : List Field) (l : List (Nat × Nat)), sizesP P fs = some l → fs.mapM (fun f => (P.info? f.type).map fun i => (f.offset, i.size)) = some l
  | [], l, h => by simp only [sizesP, Option.some.injEq] at h; subst h; rfl
  | f :: fs, l, h => by
    simp only [sizesP, sizeP] at h
    split at h
    · rename_i m l' h1 h2
      simp only [Option.some.injEq] at h
      subst h
      cases hi : P.info? f.type with
      | none => simp [hi] at h1
      | some i => simp [hi] at h1; simp [hi, sizesP_mapM fs l' h2, h1]
    · cases h

theorem repl_plain {S : Nat → Nat → Prop} (xs : List Value) : RepL S W L (xs.map .v) xs :=
  ⟨by simp, fun i d y h1 h2 => by
    simp only [List.getElem?_map, Option.map_eq_some_iff] at h1
    obtain ⟨z, hz, rfl⟩ := h1
    rw [hz] at h2
    obtain rfl := Option.some.inj h2
    exact .v _ _⟩

theorem bld_ok {env : List (Nat × DV)} {l : List (Nat × Nat × Opd)} (h : l.all (fun p => Nat.beq (D.ev env p.2.2).cells.length p.2.1 && !(D.ev env p.2.2).isU) = true) : ∀ p ∈ l, (D.ev env p.2.2).cells.length = p.2.1 ∧ D.ev env p.2.2 ≠ .u := by
  intro p hp
  have := List.all_eq_true.1 h p hp
  simp only [Bool.and_eq_true, Bool.not_eq_true'] at this
  exact ⟨Nat.eq_of_beq_eq_true this.1, DV.isU_false this.2⟩

theorem bsl_ok {sz : Nat} {es : List DV} (h : es.all (fun d => Nat.beq d.cells.length sz && d.cells.all DV.one) = true) : ∀ d ∈ es, d.cells.length = sz ∧ ∀ c ∈ d.cells, c.one = true := by
  intro d hd
  have := List.all_eq_true.1 h d hd
  simp only [Bool.and_eq_true] at this
  exact ⟨Nat.eq_of_beq_eq_true this.1, fun c hc => List.all_eq_true.1 this.2 c hc⟩

theorem n_bldS {T : TypeId} {fs : Array Field} {it : TypeInfo} {z : Value} {ps : List (Nat × Nat)} {parts : Array (Nat × Operand)} {l : List (Nat × Nat × Opd)} (hop : o.op = .build T parts) (hT : P.underlying T = some (.struct fs)) (hi : P.info? T = some it)
    (hz : it.zero = some z) (hps : sizesP P fs.toList = some ps) (hp : placed (fun j => ps[j]?) parts.toList = some l) (fr : Fr I B L W n σ a) (h : ap P I (.bld z.cells.toList l) σ K) : ∃ r, K r ∧ Neu P B L W o a r := by
  obtain ⟨cs, h1, h2, h3⟩ := h
  replace h2 := bld_ok h2
  obtain ⟨cells', k1, k2⟩ := fill_rep (S := stab B L) (fun x x' hx => fr.ev hx) parts.toList l _ cs z.cells hp (repl_plain _) h1 h2
  have hb : P.built T (parts.map fun (i, x) => (i, a.eval x)).toList = some cells' := by
    unfold Program.built
    simp only [hi, hT, hz, sizesP_mapM _ _ hps]
    rw [← k1]
    congr 1
    · funext j; simp
    · simp
  refine ⟨_, h3, neu_same (y := .agg cells') (by simp only [execOp, hop, Sem.run_bind, run_build W T _ cells' hb]; rfl) ?_⟩
  have := k2.mkAgg
  simpa using this

theorem n_bldA {T e : TypeId} {len : Nat} {it : TypeInfo} {z : Value} {m : Nat} {parts : Array (Nat × Operand)} {l : List (Nat × Nat × Opd)} (hop : o.op = .build T parts) (hT : P.underlying T = some (.array len e)) (hi : P.info? T = some it)
    (hz : it.zero = some z) (hm : sizeP P e = some m) (hp : placed (fun j => some (j * m, m)) parts.toList = some l) (fr : Fr I B L W n σ a) (h : ap P I (.bld z.cells.toList l) σ K) : ∃ r, K r ∧ Neu P B L W o a r := by
  obtain ⟨cs, h1, h2, h3⟩ := h
  replace h2 := bld_ok h2
  obtain ⟨cells', k1, k2⟩ := fill_rep (S := stab B L) (fun x x' hx => fr.ev hx) parts.toList l _ cs z.cells hp (repl_plain _) h1 h2
  have hb : P.built T (parts.map fun (i, x) => (i, a.eval x)).toList = some cells' := by
    unfold Program.built
    unfold sizeP at hm
    cases hie : P.info? e with
    | none => simp [hie] at hm
    | some ie =>
      simp [hie] at hm
      simp only [hi, hT, hz, hie, hm]
      rw [← k1]
      congr 1
      simp
  refine ⟨_, h3, neu_same (y := .agg cells') (by simp only [execOp, hop, Sem.run_bind, run_build W T _ cells' hb]; rfl) ?_⟩
  have := k2.mkAgg
  simpa using this

theorem fill_row (sz : Nat) : ∀ (vs : List Value) (k : Nat) (cells : Array Value), (∀ v ∈ vs, v.cells.size = sz) → (k + vs.length) * sz ≤ cells.size →
    ∃ cells' : Array Value, Instr.fill (fun i => some (i * sz, sz)) cells ((List.range' k vs.length).zip vs) = some cells' ∧
      cells'.toList = cells.toList.take (k * sz) ++ vs.flatMap (·.cells.toList) ++ cells.toList.drop ((k + vs.length) * sz)
  | [], k, cells, _, _ => ⟨cells, rfl, by simp⟩
  | v :: vs, k, cells, hv, hle => by
    have hvs := hv v (by simp)
    have hc : ¬ (decide (v.cells.size ≠ sz) || decide (k * sz + v.cells.size > cells.size)) = true := by
      simp only [Bool.or_eq_true, decide_eq_true_eq]
      rw [hvs]
      have : (k + 1) * sz ≤ (k + (v :: vs).length) * sz := Nat.mul_le_mul_right _ (by simp)
      rw [Nat.succ_mul] at this
      omega
    have hput := foldl_put (k * sz) v.cells.toList 0 cells (by
      have : (k + 1) * sz ≤ (k + (v :: vs).length) * sz := Nat.mul_le_mul_right _ (by simp)
      rw [Nat.succ_mul] at this
      simp [hvs]; omega)
    have e : (v.cells.zipIdx.foldl (fun cs (c, j) => cs.setIfInBounds (k * sz + j) c) cells) = ((v.cells.toList.zipIdx 0).foldl (fun (cs : Array Value) p => cs.setIfInBounds (k * sz + p.2) p.1) cells) := by
      rw [← Array.foldl_toList]
      simp
    have hlen : v.cells.toList.length = sz := by simpa using hvs
    have hsize : ((v.cells.toList.zipIdx 0).foldl (fun (cs : Array Value) p => cs.setIfInBounds (k * sz + p.2) p.1) cells).size = cells.size := by
      have h0 := congrArg List.length hput
      rw [Array.length_toList] at h0
      rw [h0]
      have : (k + 1) * sz ≤ (k + (v :: vs).length) * sz := Nat.mul_le_mul_right _ (by simp)
      rw [Nat.succ_mul] at this
      simp [hlen]; omega
    obtain ⟨cells', k1, k2⟩ := fill_row sz vs (k + 1) ((v.cells.toList.zipIdx 0).foldl (fun (cs : Array Value) p => cs.setIfInBounds (k * sz + p.2) p.1) cells) (fun w hw => hv w (by simp [hw]))
      (by rw [hsize]; simp only [List.length_cons] at hle; have : k + 1 + vs.length = k + (vs.length + 1) := by omega
          rw [this]; exact hle)
    refine ⟨cells', ?_, ?_⟩
    · simp only [List.length_cons, List.range'_succ, List.zip_cons_cons, Instr.fill]
      rw [if_neg hc, e]
      exact k1
    · rw [k2, hput]
      have hks : (k + 1) * sz = k * sz + sz := Nat.succ_mul k sz
      have hkl : k * sz + sz ≤ cells.toList.length := by
        have : (k + 1) * sz ≤ (k + (v :: vs).length) * sz := Nat.mul_le_mul_right _ (by simp)
        simp; omega
      have ht : (cells.toList.take (k * sz + 0) ++ v.cells.toList).length = (k + 1) * sz := by
        rw [List.length_append, List.length_take, hlen, hks]; omega
      have hm : (k + (v :: vs).length) * sz = (k + 1) * sz + vs.length * sz := by
        rw [← Nat.add_mul]; congr 1; simp; omega
      have hm' : (k + 1 + vs.length) * sz = (k + 1) * sz + vs.length * sz := Nat.add_mul _ _ _
      rw [List.take_append, List.take_of_length_le (by omega), ht, Nat.sub_self, List.take_zero, List.append_nil, hm, hm', List.drop_append, ht, Nat.add_sub_cancel_left,
        List.drop_eq_nil_of_le (by omega), List.nil_append, List.drop_drop, hlen]
      have e5 : k * sz + 0 + sz + vs.length * sz = (k + 1) * sz + vs.length * sz := by rw [hks]; omega
      rw [e5]
      simp [List.flatMap_cons]

theorem fresh_stab {loc : List (List DV)} {ow : List Nat} (h : Sim I B L W loc ow) {b : Nat} (hb : W.heap.size ≤ b) (o : Nat) : stab B L b o :=
  .inr ⟨Nat.le_trans h.below.size hb, .inl fun hm => by
    obtain ⟨k, hk, e⟩ := List.getElem_of_mem hm
    have := (h.bge k b (by rw [List.getElem?_eq_getElem hk, e])).2
    omega, fun id N ho => by have := (h.oge id N b ho).2.1; omega⟩

theorem cells_flat {S : Nat → Nat → Prop} {sz : Nat} : ∀ {es : List DV} {vs : List Value}, RepL S W noLink es vs → (∀ d ∈ es, d.cells.length = sz ∧ ∀ c ∈ d.cells, c.one = true) → 0 < sz →
    RepL S W noLink (es.flatMap DV.cells) (vs.flatMap (·.cells.toList)) ∧ ∀ v ∈ vs, v.cells.size = sz
  | [], vs, h, _, _ => by
    have e := h.unnil
    subst e
    exact ⟨by simpa using RepL.nil, by simp⟩
  | d :: es, vs, h, hs, h0 => by
    obtain ⟨v, vs, rfl, h1, h2⟩ := h.uncons
    obtain ⟨k1, k2⟩ := cells_flat h2 (fun d hd => hs d (by simp [hd])) h0
    have hd := hs d (by simp)
    have hu : d ≠ .u := by
      intro e
      subst e
      have := hd.2 .u (by simp [DV.cells])
      simp [DV.one] at this
    have hc := h1.cells hu
    refine ⟨by simp only [List.flatMap_cons]; exact hc.append k1, fun w hw => ?_⟩
    rcases List.mem_cons.1 hw with rfl | hw
    · have := hc.1; simp at this; rw [← hd.1]; exact this.symm
    · exact k2 w hw

theorem range_zip {α : Type} (f : Operand → α) : ∀ (parts : List (Nat × Operand)) (k : Nat), parts.map (·.1) = List.range' k parts.length → (parts.map fun (i, x) => (i, f x)) = (List.range' k parts.length).zip (parts.map fun p => f p.2)
  | [], _, _ => rfl
  | (i, x) :: r, k, h => by
    simp only [List.map_cons, List.length_cons, List.range'_succ, List.cons.injEq] at h ⊢
    obtain ⟨rfl, h⟩ := h
    simp only [List.zip_cons_cons]
    rw [range_zip f r (i + 1) h]

theorem n_bsl {T e : TypeId} {len : Nat} {it : TypeInfo} {z : Value} {parts : Array (Nat × Operand)} {xs : List Opd} (hop : o.op = .buildSlice T len parts) (hT : P.underlying T = some (.slice e)) (hi : P.info? e = some it) (hz : it.zero = some z)
    (hx : cOs (parts.toList.map (·.2)) = some xs) (hpos : parts.toList.map (·.1) = List.range len) (h0 : 0 < it.size) (hsm : len * it.size ≤ 4096) (fr : Fr I B L W n σ a) (h : ap P I (.bsl it.size xs) σ K) : ∃ r, K r ∧ Neu P B L W o a r := by
  obtain ⟨es, hw, hes, hk⟩ := h
  replace hes := bsl_ok hes
  have hr := (fr.evs hx).wk hw
  obtain ⟨hflat, hsz⟩ := cells_flat hr hes h0
  have hlen : parts.toList.length = len := by have := congrArg List.length hpos; simpa using this
  have hvl : ((parts.toList.map (·.2)).map a.eval).length = len := by simp; simpa using hlen
  have hpl : parts.toList.map (·.1) = List.range' 0 parts.toList.length := by rw [hpos, hlen, List.range_eq_range']
  have hzip := range_zip a.eval parts.toList 0 hpl
  have hmm : (parts.toList.map fun p => a.eval p.2) = (parts.toList.map (·.2)).map a.eval := by simp
  rw [hmm] at hzip
  have hrun : ∃ cells : Array Value, (Instr.buildSlice T len (parts.map fun (i, x) => (i, a.eval x))).run P W = .ok (.slice (some ⟨W.heap.size, 0, none⟩) len len) (W.alloc (.cells cells e)) ∧
      cells.toList = ((parts.toList.map (·.2)).map a.eval).flatMap (·.cells.toList) := by
    have hfr := fill_row it.size ((parts.toList.map (·.2)).map a.eval) 0 ((Array.range (len * it.size)).map (z.cells[· % z.cells.size]!)) hsz (by simp only [Array.size_map, Array.size_range, Nat.zero_add]; rw [hvl]; exact Nat.le_refl _)
    obtain ⟨cells, k1, k2⟩ := hfr
    rw [hvl] at k2
    have hcells : cells.toList = ((parts.toList.map (·.2)).map a.eval).flatMap (·.cells.toList) := by rw [k2]; simp
    have hzip' : (parts.map fun (i, x) => (i, a.eval x)).toList = (List.range' 0 parts.toList.length).zip ((parts.toList.map (·.2)).map a.eval) := by rw [← hzip]; simp
    have k1' : Instr.fill (fun i => some (i * it.size, it.size)) ((Array.range (len * it.size)).map (z.cells[· % z.cells.size]!)) (parts.map fun (i, x) => (i, a.eval x)).toList = some cells := by
      rw [hzip', hlen]
      rw [hvl] at k1
      exact k1
    by_cases hp : len * it.size = 0
    · have hl0 : len = 0 := by rcases Nat.mul_eq_zero.1 hp with h | h <;> omega
      subst hl0
      have hpe : parts = #[] := by have : parts.toList = [] := List.eq_nil_of_length_eq_zero hlen; cases parts; simpa using this
      subst hpe
      refine ⟨#[], ?_, by simp⟩
      have hr0 : Array.range 0 = (#[] : Array Nat) := by decide
      simp [Instr.buildSlice, run_underlying hT, sizeOf, typeInfo, hi, Instr.fill, newRow, hr0]
    · exact ⟨cells, run_buildSlice W T e len _ cells it z hT hi hz (by omega) hp k1', hcells⟩
  obtain ⟨cells, k1, k2⟩ := hrun
  have hb : Below W.heap.size W (W.alloc (.cells cells e)) := (Below.refl _ _).alloc (Nat.le_refl _) _
  refine ⟨_, hk, neu_run (y := .slice (some ⟨W.heap.size, 0, none⟩) len len) (by simp only [execOp, hop, Sem.run_bind, k1]; rfl) ?_ hb⟩
  have hel : es.length = len := by rw [hr.1]; exact hvl
  have hst : Step (stab B L) noLink W (stab B L) noLink (W.alloc (.cells cells e)) := (fr.sim.quiet hb).2.noLink
  have hflat' := hflat.step hst
  refine .full _ it.size es _ _ ?_
  refine .list _ it.size es (((parts.toList.map (·.2)).map a.eval).flatMap (·.cells.toList)) _ _ _ W.heap.size 0 ⟨hel.symm, Nat.le_refl _⟩ (fun d hd => (hes d hd).1) (fun d hd => ?_) (fun _ => rfl) hflat.1.symm (fun j y hj => ?_) hflat'.2
  · obtain ⟨c, hc, hd⟩ := List.mem_flatMap.1 hd
    exact (hes c hc).2 d hd
  · refine ⟨fresh_stab fr.sim (Nat.le_refl _) _, ?_⟩
    have hheap : (W.alloc (.cells cells e)).heap[W.heap.size]? = some (.cells (((parts.toList.map (·.2)).map a.eval).flatMap (·.cells.toList)).toArray e (0, 0)) := by
      rw [← k2]; simpa using heap_alloc_new W _
    rw [cell_row hheap]
    simpa using hj

theorem below_freeze {B W' : World} {g : Nat} (h : Below B.heap.size B W') (hg : B.heap.size ≤ g) (o k : Nat) : Below B.heap.size B (W'.freeze ⟨g, o, none⟩ k) := by
  unfold World.freeze
  split
  · exact h
  · exact ⟨h.os, h.tape, h.output, by simpa using h.size, fun j hj => by
      rw [← h.block j hj]
      simp only [Array.getElem?_modify]
      rw [if_neg (by omega)]⟩

theorem bytes_flat : ∀ (l : List UInt8), (bytesD l).flatMap DV.cells = (l.map fun b => Value.int .u8 b.toNat).map .v
  | [] => rfl
  | b :: l => by
    have ih := bytes_flat l
    unfold bytesD at ih ⊢
    simp only [List.map_cons, List.flatMap_cons, ih]
    rfl

theorem n_s2b {S D e : TypeId} {x : Operand} {x' : Opd} (hop : o.op = .convert S D x) (hS : P.underlying S = some .string) (hD : P.underlying D = some (.slice e)) (he : P.underlying e = some (.int .u8)) (hx : cO x = some x')
    (fr : Fr I B L W n σ a) (h : ap P I (.s2b x') σ K) : ∃ r, K r ∧ Neu P B L W o a r := by
  have hr := fr.ev hx
  simp only [ap] at h
  split at h
  · rename_i s hs
    rw [hs] at hr
    generalize hxe : a.eval x = v at hr
    cases hr
    let cap := (Question.appendCap s.size 0 e).cut (W.tape W.drawn (.appendCap s.size 0 e))
    have hcap : s.size ≤ cap := Nat.le_add_right _ _
    let els : Array Value := s.data.map (fun b => Value.int .u8 b.toNat) ++ Array.replicate (cap - s.size) (.int .u8 0)
    let W1 := W.drew.alloc (.cells els e)
    let W' := W1.freeze ⟨W.heap.size, els.size, none⟩ 1
    have hb1 : Below W.heap.size W W1 := ((Below.refl _ _).drew).alloc (Nat.le_refl _) _
    have hb : Below W.heap.size W W' := below_freeze hb1 (Nat.le_refl _) _ _
    have hh1 : W1.heap[W.heap.size]? = some (.cells els e (0, 0)) := heap_alloc_new W.drew _
    have hh : W'.heap[W.heap.size]? = some (.cells els e (els.size, els.size + 1)) := by
      show (W1.freeze ⟨W.heap.size, els.size, none⟩ 1).heap[W.heap.size]? = _
      unfold World.freeze
      rw [if_neg (by decide)]
      simp only [Array.getElem?_modify, if_true, hh1, Option.map_some]
      rfl
    have hrun : (convert S D (.string s)).run P W = .ok (.slice (some ⟨W.heap.size, 0, none⟩) s.size cap) W' := by
      have hsh : W1.shape? W.heap.size = some (e, els.size) := by simp [World.shape?, hh1]
      have hsz : W1.heap = W.heap.push (.cells els e) := rfl
      have hcv : (convert S D (.string s)).run P W = (Conv.stringToBytes e s).run P W := by simp [convert, run_underlying hS, run_underlying hD, run_underlying he]
      rw [hcv]
      have hch : (choose (.appendCap s.size 0 e)).run P W = .ok cap W.drew := by simp [Question.forced]; rfl
      have hnew : (newRow e els).run P W.drew = .ok ⟨W.heap.size, 0, none⟩ W1 := by simp [newRow]; rfl
      have hms : (markStringish ⟨W.heap.size, 0, none⟩).run P W1 = .ok () W' := by
        simp only [markStringish, Sem.run_bind, run_shape, Result.andThen_ok, hsh, run_freeze]
        rfl
      unfold Conv.stringToBytes
      simp only [Sem.run_bind, hch, Result.andThen_ok]
      show ((newRow e els).run P W.drew).andThen _ = _
      rw [hnew]
      simp only [Result.andThen_ok, hms, Sem.run_pure]
    refine ⟨_, h, neu_run (by simp only [execOp, hop, hxe, Sem.run_bind, hrun]; rfl) ?_ hb⟩
    have hlen : (bytesD s.data.toList).length = s.size := by simp [bytesD]
    have hflat : (bytesD s.data.toList).flatMap DV.cells = (s.data.toList.map fun b => Value.int .u8 b.toNat).map .v := by
      exact bytes_flat _
    refine .list _ 1 (bytesD s.data.toList) (s.data.toList.map fun b => Value.int .u8 b.toNat) _ _ _ W.heap.size 0 ⟨hlen.symm, hcap⟩ (fun d hd => ?_) (fun d hd => ?_) (fun _ => rfl) ?_ (fun j y hj => ?_) ?_
    · unfold bytesD at hd
      obtain ⟨b, _, rfl⟩ := List.mem_map.1 hd
      rfl
    · rw [hflat] at hd
      obtain ⟨y, hy, rfl⟩ := List.mem_map.1 hd
      obtain ⟨b, _, rfl⟩ := List.mem_map.1 hy
      rfl
    · rw [hflat]; simp
    · refine ⟨fresh_stab fr.sim (Nat.le_refl _) _, ?_⟩
      rw [Nat.zero_add, cell_of_row W' W.heap.size j els e _ hh]
      have hj' : j < s.data.size := by have := (List.getElem?_eq_some_iff.1 hj).1; simpa using this
      rw [Array.getElem?_append_left (by simpa using hj')]
      simpa using hj
    · rw [hflat]
      exact (repl_plain _).2
  · exact h.elim

theorem nums_eq : ∀ {l : List DV} {ns : List Int}, nums l = some ns → l = ns.map fun n => .v (.int .u8 n)
  | [], ns, h => by simp only [nums, Option.some.injEq] at h; subst h; rfl
  | d :: r, ns, h => by
    unfold nums at h
    split at h
    · rename_i e; cases e
    · rename_i n r' e
      simp only [Option.map_eq_some_iff] at h
      obtain ⟨ms, h1, rfl⟩ := h
      rw [List.cons.injEq] at e
      obtain ⟨rfl, rfl⟩ := e
      rw [nums_eq h1]
      rfl
    · cases h

theorem n_b2s {S D e : TypeId} {x : Operand} {x' : Opd} (hop : o.op = .convert S D x) (hS : P.underlying S = some (.slice e)) (hD : P.underlying D = some .string) (he : P.underlying e = some (.int .u8)) (hx : cO x = some x')
    (fr : Fr I B L W n σ a) (h : ap P I (.b2s x') σ K) : ∃ r, K r ∧ Neu P B L W o a r := by
  have hr := fr.ev hx
  obtain ⟨l, ns, h1, h2, h3, h4⟩ := h
  have hl := elems_rep hr h1 h2
  have hns := nums_eq h3
  subst hns
  generalize hxe : a.eval x = v at hl
  have hflat : ((ns.map fun n => DV.v (.int .u8 n)).flatMap DV.cells) = (ns.map (Value.int .u8)).map .v := by
    clear hl h1 h3 h4
    induction ns with
    | nil => rfl
    | cons n ns ih => simp only [List.map_cons, List.flatMap_cons, ih]; rfl
  refine ⟨_, h4, neu_same (y := .string (strOfNums ns)) ?_ (.v _ _)⟩
  cases hl with
  | list _ _ _ ys ad len cap b o' k1 k3 k4 k5 k6 k7 k8 =>
    have hyr : RepL (stab B L) W noLink ((ns.map (Value.int .u8)).map .v) ys := by rw [← hflat]; exact ⟨k6.symm, k8⟩
    have hye := hyr.plain
    simp only [execOp, hop, hxe, Sem.run_bind]
    by_cases hn : ns = []
    · subst hn
      have hlen : len = 0 := by simpa using k1.1
      subst hlen
      have : (convert S D (.slice ad 0 cap)).run P W = .ok (.string (strOfNums [])) W := by
        cases ad with
        | none => rw [run_convert_bytes_nil W S e hS he 0 cap D hD]; rfl
        | some p =>
          rw [run_convert_bytes_string W S D e _ 0 cap hS he hD, run_bytesToString W p 0 cap [] (by simp [loadCells, loadCellsFrom])]
          rfl
      rw [this]
      rfl
    · have hne : (ns.map fun n => DV.v (.int .u8 n)) ≠ [] := by simpa using hn
      rw [k5 hne]
      have := run_convert_bytes_arg (P := P) W S e hS he b o' len cap ns (by rw [k1.1]; simp) (fun i hi => by
        have hi' : i < ns.length := by rw [k1.1] at hi; simpa using hi
        have : ys[i]? = some (.int .u8 ns[i]) := by rw [hye]; simp [hi']
        rw [(k7 i _ this).2]
        simp [hi']) D hD
      rw [this]
      rfl

theorem run_callFunc {f : FuncId} (h : callable P f = true) (args : Array Value) : (callFunc f args).run P W = .ok (.enter f args) W := by
  unfold callable at h
  split at h
  · rename_i fn hf
    simp only [Bool.and_eq_true, bne_iff_ne, ne_eq] at h
    obtain ⟨body, hb'⟩ := Option.isSome_iff_exists.1 h.2
    simp [callFunc, hf, h.1, hb']
  · cases h

theorem neu_call {f : FuncId} {es : List DV} {r : DV} {vals : List Value} (hp : DPure P I f es r) (hr : RepL (stab B L) W noLink es vals) (hs : Sim I B L W σ.loc σ.ow) (hrun : (execOp a.eval o).run P W = (callFunc f vals.toArray).run P W) : Neu P B L W o a r := by
  intro Kw Q hKw
  have hI : I.I W := I.keep _ _ hs.inv hs.below
  have hc := hp.2 (stab B L) W vals hI hr
  unfold Oper.wp
  rw [hrun, run_callFunc hp.1]
  refine Calls.mono hc fun e W' ⟨y, he, hy, hbel⟩ => ?_
  subst he
  refine hKw y W' ((hy.lift rfl L).step ⟨fun b o z hs' hcell => ⟨?_, hcell⟩, fun _ _ h => h, fun id N C ho => ⟨N, C, ho, Nat.le_refl _, fun _ => ⟨rfl, fun _ _ => rfl⟩⟩⟩) hbel
  rcases hs' with hs' | hs'
  · exact hs'
  · exact fresh_stab hs hs' o

theorem n_call {f : FuncId} {args : Array Operand} {ats : Array TypeId} {xs : List Opd} (hop : o.op = .call { callee := .value (.func f), args, argTypes := ats })
    (hx : cOs args.toList = some xs) (fr : Fr I B L W n σ a) (h : ap P I (.call f xs) σ K) : ∃ r, K r ∧ Neu P B L W o a r := by
  obtain ⟨es, r, hw, hp, hk⟩ := h
  refine ⟨r, hk, neu_call hp ((fr.evs hx).wk hw) fr.sim ?_⟩
  have hargs : args.map a.eval = (args.toList.map a.eval).toArray := by cases args; simp only [List.map_toArray]
  have hev : a.eval (.func f) = .func (.func f) #[] #[] := rfl
  simp [execOp, hop, resolve, hev, Deferred.ofValue, invoke, hargs]

theorem asFn_rep {d : DV} {v : Value} {f : FuncId} {cs : List DV} {S : Nat → Nat → Prop} (hr : Rep S W L d v) (hf : asFn d = some (f, cs)) : ∃ ys : List Value, v = .func (.func f) #[] ys.toArray ∧ RepL S W L cs ys := by
  unfold asFn at hf
  split at hf
  · simp only [Option.some.injEq, Prod.mk.injEq] at hf
    obtain ⟨rfl, rfl⟩ := hf
    cases hr with
    | fn _ _ _ ys h1 h2 => exact ⟨ys, rfl, h1, h2⟩
  · split at hf
    · rename_i h0
      simp only [Option.some.injEq, Prod.mk.injEq] at hf
      obtain ⟨rfl, rfl⟩ := hf
      cases hr
      rw [Array.eq_empty_of_size_eq_zero h0]
      exact ⟨_, rfl, repl_plain _⟩
    · cases hf
  · cases hf

theorem run_call {f : FuncId} {args : Array Operand} {ats : Array TypeId} (hop : o.op = .call { callee := .value (.func f), args, argTypes := ats }) : (execOp a.eval o).run P W = (callFunc f (args.toList.map a.eval).toArray).run P W := by
  have hargs : args.map a.eval = (args.toList.map a.eval).toArray := by cases args; simp only [List.map_toArray]
  have hev : a.eval (.func f) = .func (.func f) #[] #[] := rfl
  simp [execOp, hop, resolve, hev, Deferred.ofValue, invoke, hargs]

theorem asIfc_rep {d e : DV} {v : Value} {t : TypeId} {S : Nat → Nat → Prop} (hr : Rep S W L d v) (hf : asIfc d = some (t, e)) : ∃ y, v = .iface t y ∧ Rep S W L e y := by
  unfold asIfc at hf
  split at hf
  · simp only [Option.some.injEq, Prod.mk.injEq] at hf
    obtain ⟨rfl, rfl⟩ := hf
    cases hr with
    | ifc _ _ _ y h => exact ⟨y, rfl, h⟩
  · simp only [Option.some.injEq, Prod.mk.injEq] at hf
    obtain ⟨rfl, rfl⟩ := hf
    cases hr
    exact ⟨_, rfl, .v _ _⟩
  · cases hf

theorem run_inv {x : Operand} {m : String} {t : TypeId} {y : Value} {f : FuncId} {args : Array Operand} {ats : Array TypeId} (hop : o.op = .call { callee := .invoke x m, args, argTypes := ats }) (hv : a.eval x = .iface t y) (hm : Meth P t m f) :
    (execOp a.eval o).run P W = (callFunc f (y :: args.toList.map a.eval).toArray).run P W := by
  have hargs : args.map a.eval = (args.toList.map a.eval).toArray := by cases args; simp only [List.map_toArray]
  have hm' := hm y W
  have hlen : List.take args.size (List.map a.eval args.toList) = List.map a.eval args.toList := List.take_of_length_le (by simp)
  cases x with
  | tmp x =>
    have hv' := hv
    simp [go_sem] at hv'
    simp [execOp, hop, resolve, hv', invoke, callMethod, hargs, go_sem, hm', hlen]
  | const c =>
    have e : c = .iface t y := hv
    subst e
    simp [execOp, hop, resolve, invoke, callMethod, hargs, go_sem, hm', hlen]
  | global g => cases hv
  | func g => cases hv

theorem n_inv {m : String} {x : Operand} {x' : Opd} {args : Array Operand} {ats : Array TypeId} {xs : List Opd} (hop : o.op = .call { callee := .invoke x m, args, argTypes := ats })
    (hx' : cO x = some x') (hx : cOs args.toList = some xs) (fr : Fr I B L W n σ a) (h : ap P I (.inv m x' xs) σ K) : ∃ r, K r ∧ Neu P B L W o a r := by
  obtain ⟨t, d, f, es, r, hi, hm, hw, hp, hk⟩ := h
  obtain ⟨y, hv, hy⟩ := asIfc_rep (fr.ev hx') hi
  exact ⟨r, hk, neu_call hp ((RepL.cons hy (fr.evs hx)).wk hw) fr.sim (run_inv hop hv hm)⟩

theorem run_callv {x : Nat} {f : FuncId} {ys : List Value} {args : Array Operand} {ats : Array TypeId} (hop : o.op = .call { callee := .value (.tmp x), args, argTypes := ats }) (hv : a.eval (.tmp x) = .func (.func f) #[] ys.toArray) :
    (execOp a.eval o).run P W = (callFunc f (args.toList.map a.eval ++ ys).toArray).run P W := by
  have hargs : args.map a.eval = (args.toList.map a.eval).toArray := by cases args; simp only [List.map_toArray]
  simp [execOp, hop, resolve, hv, Deferred.ofValue, invoke, hargs]

theorem cellsEq_append : ∀ {ks : List Nat} {ks' : List Nat} {xs ys : List Value} {b : Bool}, cellsEq (ks ++ ks') xs ys = some b →
    ∃ b1 b2, cellsEq ks (xs.take ks.length) (ys.take ks.length) = some b1 ∧ cellsEq ks' (xs.drop ks.length) (ys.drop ks.length) = some b2 ∧ b = (b1 && b2)
  | [], ks', xs, ys, b, h => ⟨true, b, by simp [cellsEq], by simpa using h, by simp⟩
  | k :: ks, ks', x :: xs, y :: ys, b, h => by
    simp only [List.cons_append, cellsEq] at h
    split at h
    · rename_i c d h1 h2
      simp only [Option.some.injEq] at h
      obtain ⟨b1, b2, k1, k2, k3⟩ := cellsEq_append h2
      exact ⟨c && b1, b2, by simp [cellsEq, h1, k1], by simpa using k2, by rw [← h, k3, Bool.and_assoc]⟩
    · cases h
  | k :: ks, ks', [], ys, b, h => by simp [cellsEq] at h
  | k :: ks, ks', x :: xs, [], b, h => by simp [cellsEq] at h

theorem cellsEq_length : ∀ {ks : List Nat} {xs ys : List Value} {b : Bool}, cellsEq ks xs ys = some b → xs.length = ks.length ∧ ys.length = ks.length
  | [], [], [], _, _ => ⟨rfl, rfl⟩
  | k :: ks, x :: xs, y :: ys, b, h => by
    simp only [cellsEq] at h
    split at h
    · rename_i c d h1 h2
      have := cellsEq_length h2
      exact ⟨by simp [this.1], by simp [this.2]⟩
    · cases h
  | [], _ :: _, _, _, h => by simp [cellsEq] at h
  | [], [], _ :: _, _, h => by simp [cellsEq] at h
  | _ :: _, [], _, _, h => by simp [cellsEq] at h
  | _ :: _, _ :: _, [], _, h => by simp [cellsEq] at h

def ofCells (g : Bool) (cs : List Value) : Value := if g = true then .agg cs.toArray else cs.headD undef

theorem part_cells {T : TypeId} {m off : Nat} {g : Bool} (hs : sizeP P T = some m) (hg : aggP P T = some g) (h1 : g = true ∨ m = 1) (ys : Array Value) (hm : off + m ≤ ys.size) : (Go.part T ys off).run P W = .ok (ofCells g ((ys.toList.drop off).take m)) W := by
  have hf : formP P T = some (m, g) := by
    unfold formP
    cases g with
    | true => simp [hs, hg]
    | false => rcases h1 with h1 | rfl; · cases h1
               · simp [hs, hg]
  obtain ⟨d, hu, hd⟩ := formP_agg hf
  have hagg : (isAgg T).run P W = .ok g W := by
    unfold isAgg
    rw [Sem.run_bind, run_underlying hu W]
    cases d <;> simp_all
  have hsz : (sizeOf T).run P W = .ok m W := sizeP_run (formP_size hf)
  cases g with
  | true =>
    simp only [Go.part, Sem.run_bind, hagg, Result.andThen_ok, if_true, hsz, ofCells]
    have e : ys.extract off (off + m) = (List.take m (List.drop off ys.toList)).toArray := by
      cases ys
      simp [List.extract_toArray]
    rw [← e]
    rfl
  | false =>
    have := formP_one hf
    subst this
    have hlt : off < ys.size := by omega
    simp only [Go.part, Sem.run_bind, hagg, Result.andThen_ok, ofCells]
    rw [List.drop_eq_getElem_cons (by simpa using hlt)]
    simp [hlt]

theorem flat_sound (W : World) : ∀ (d : Nat) (T : TypeId) (ks : List Nat), flatK P d T = some ks → ∀ (D : Nat), d ≤ D → ∀ (g : Bool), aggP P T = some g → ∀ (xs ys : List Value) (b : Bool), cellsEq ks xs ys = some b → (Op.equalIn D T (ofCells g xs) (ofCells g ys)).run P W = .ok b W
  | 0, T, ks, h, _, _ => by simp [flatK] at h
  | d + 1, T, ks, h, 0, hD => by omega
  | d + 1, T, ks, h, D + 1, hD => by
    intro g hg xs ys b hc
    simp only [flatK] at h
    cases hu : P.underlying T with
    | none => simp [hu] at h
    | some U =>
      rw [hu] at h
      have basic : ∀ k, ks = [k] → g = false → (∀ x y, cellEq k x y = some b → (Op.equalIn (D + 1) T x y).run P W = .ok b W) → (Op.equalIn (D + 1) T (ofCells g xs) (ofCells g ys)).run P W = .ok b W := by
        intro k hk hg' hall
        subst hk; subst hg'
        obtain ⟨l1, l2⟩ := cellsEq_length hc
        match xs, ys, l1, l2 with
        | [x], [y], _, _ =>
          simp only [cellsEq] at hc
          cases hq : cellEq k x y with
          | none => simp [hq] at hc
          | some c =>
            simp only [hq, Bool.and_true, Option.some.injEq] at hc
            subst hc
            exact hall x y hq
      cases U with
      | bool =>
        simp only [Option.some.injEq] at h
        simp [aggP, hu] at hg
        refine basic 0 h.symm hg fun x y hq => ?_
        unfold cellEq at hq
        split at hq <;> first | (simp only [Option.some.injEq] at hq; subst hq; exact run_equalIn_bool W D T _ _ hu) | simp_all
      | int k =>
        simp only [Option.some.injEq] at h
        simp [aggP, hu] at hg
        refine basic 1 h.symm hg fun x y hq => ?_
        unfold cellEq at hq
        split at hq
        · rename_i e; cases e
        · split at hq
          · rename_i e
            subst e
            simp only [Option.some.injEq] at hq
            subst hq
            exact run_equalIn_int W D T _ _ _ _ hu
          · cases hq
        · rename_i e; cases e
        · cases hq
      | string =>
        simp only [Option.some.injEq] at h
        simp [aggP, hu] at hg
        refine basic 2 h.symm hg fun x y hq => ?_
        unfold cellEq at hq
        split at hq <;> first | (simp only [Option.some.injEq] at hq; subst hq; exact run_equalIn_string W D T _ _ hu) | simp_all
      | struct fs =>
        simp [aggP, hu] at hg
        subst hg
        simp only at h
        split at h
        · rename_i hst
          have hfo : P.fieldsOf T = fs := by simp [Program.fieldsOf, hu]
          show (Op.equalIn (D + 1) T (.agg xs.toArray) (.agg ys.toArray)).run P W = .ok b W
          rw [run_equalIn_struct W D T xs.toArray ys.toArray (by rw [hfo]; exact hu) hst, hfo]
          have main : ∀ (l : List Field) (off : Nat) (ks : List Nat), flatFs P (flatK P d) l off = some ks → ∀ b, cellsEq ks (xs.drop off) (ys.drop off) = some b → (Op.eqFields D xs.toArray ys.toArray l).run P W = .ok b W := by
            intro l
            induction l with
            | nil =>
              intro off ks h b hc
              simp only [flatFs, Option.some.injEq] at h
              subst h
              have hl := cellsEq_length hc
              have e1 : xs.drop off = [] := List.eq_nil_of_length_eq_zero hl.1
              have e2 : ys.drop off = [] := List.eq_nil_of_length_eq_zero hl.2
              rw [e1, e2] at hc
              simp only [cellsEq, Option.some.injEq] at hc
              subst hc
              simp [Op.eqFields]
            | cons f l ih =>
              intro off ks h b hc
              simp only [flatFs] at h
              split at h
              · rename_i hn
                split at h
                · rename_i ks1 m g e1 e2 e3
                  split at h
                  · rename_i hmm
                    obtain ⟨hmm, hm0, hg1⟩ := hmm
                    simp only [Option.map_eq_some_iff] at h
                    obtain ⟨ks2, h2, rfl⟩ := h
                    obtain ⟨b1, b2, c1, c2, rfl⟩ := cellsEq_append hc
                    obtain ⟨l1, l2⟩ := cellsEq_length hc
                    rw [hmm] at c1 c2
                    rw [List.drop_drop] at c2
                    rw [List.drop_drop] at c2
                    simp only [List.length_append, List.length_drop] at l1 l2
                    have p1 := part_cells (P := P) (W := W) e2 e3 hg1 xs.toArray (off := off) (by simp; omega)
                    have p2 := part_cells (P := P) (W := W) e2 e3 hg1 ys.toArray (off := off) (by simp; omega)
                    have ihf := flat_sound W d f.type ks1 e1 D (by omega) g e3 _ _ b1 c1
                    have ihr := ih (off + m) ks2 h2 b2 c2
                    simp only [Op.eqFields, hn.1, ne_eq, not_false_eq_true, if_true, hn.2, Sem.run_bind, p1, p2, Result.andThen_ok]
                    rw [ihf]
                    cases b1
                    · simp
                    · simpa using ihr
                  · cases h
                · cases h
              · cases h
          exact main fs.toList 0 ks h b (by simpa using hc)
        · cases h
      | _ => simp at h


theorem n_eqs {neg : Bool} {op : BinOp} {T U : TypeId} {fs : Array Field} {ks : List Nat} {x y : Operand} {x' y' : Opd} (hop : o.op = .binOp op T x y U) (ho : op = .eql ∨ op = .neq) (hT : P.underlying T = some (.struct fs)) (hgd : P.eqGuardType P.depth T = false)
    (hneg : neg = (op == .neq)) (hks : flatK P 8 T = some ks) (hx : cO x = some x') (hy : cO y = some y') (fr : Fr I B L W n σ a) (h : ap P I (.eqs neg ks x' y') σ K) : ∃ r, K r ∧ Neu P B L W o a r := by
  have hr := fr.ev hx
  have hs := fr.ev hy
  simp only [ap] at h
  split at h
  · rename_i xs ys hb hc
    rw [hb] at hr
    rw [hc] at hs
    generalize hxe : a.eval x = v at hr
    generalize hye : a.eval y = z at hs
    cases hr
    cases hs
    obtain ⟨b, hbq, hk⟩ := h
    refine ⟨_, hk, neu_same ?_ (.v _ _)⟩
    have hrun := flat_sound (P := P) W 8 T ks hks 10000 (by omega) true (by simp [aggP, hT]) xs.toList ys.toList b hbq
    simp only [ofCells, if_true, Array.toArray_toList] at hrun
    subst hneg
    simp only [execOp, hop, hxe, hye, Sem.run_bind, run_eqGuard_agg W op T x y xs ys hgd, Result.andThen_ok]
    rcases ho with rfl | rfl
    · rw [run_eql_struct, hrun]; rfl
    · rw [run_neq_struct, hrun]; rfl
  · exact h.elim


end
end Go.Proofs.YtlbodfkhenkcjaaGreatDoor.D


namespace Go.Proofs.YtlbodfkhenkcjaaGreatDoor.D
open Go Go.RowKit

section
variable {P : Program} {I : Inv} {B : Base} {L : Link} {W : World} {n : Nat} {σ : St} {a : Act} {o : Oper} {K : DV → Prop} {d : DOp}

theorem ap_sound (hc : cop P o = some d) (h : ap P I d σ K) (fr : Fr I B L W n σ a) : ∃ r, K r ∧ Neu P B L W o a r := by
  cases hop : o.op with
  | move x =>
    simp only [cop, hop, Option.map_eq_some_iff] at hc
    obtain ⟨x', hx, rfl⟩ := hc
    exact n_mv (.inl hop) hx fr h
  | assign x =>
    simp only [cop, hop, Option.map_eq_some_iff] at hc
    obtain ⟨x', hx, rfl⟩ := hc
    exact n_mv (.inr hop) hx fr h
  | pick c x y =>
    simp only [cop, hop] at hc
    split at hc
    · rename_i h1 h2 h3
      simp only [Option.some.injEq] at hc
      subst hc
      exact n_pick hop h1 h2 h3 fr h
    · cases hc
  | load T x =>
    simp only [cop, hop] at hc
    split at hc
    · rename_i h1 h2
      simp only [Option.some.injEq] at hc
      subst hc
      exact n_ld hop h1 h2 fr h
    · cases hc
  | nilCheck x =>
    simp only [cop, hop, Option.map_eq_some_iff] at hc
    obtain ⟨x', hx, rfl⟩ := hc
    exact n_nilc hop hx fr h
  | binOp op T x y U =>
    simp only [cop, hop] at hc
    split at hc
    · rename_i k hk
      split at hc
      · rename_i hh
        simp only [Option.map_eq_some_iff] at hc
        obtain ⟨x', hx, rfl⟩ := hc
        exact n_isnil hop hk hh.1 hh.2 rfl hx fr h
      · cases hc
    · split at hc
      · rename_i h1 h2 h3
        split at hc
        · rename_i ho
          simp only [Option.some.injEq] at hc
          subst hc
          exact n_beq hop ho h1 rfl h2 h3 fr h
        · cases hc
      · rename_i h1 h2 h3
        simp only [Option.some.injEq] at hc
        subst hc
        exact n_bin hop h2 h3 fr h
      · rename_i h1 h2 h3
        simp only [Option.some.injEq] at hc
        subst hc
        exact n_bin hop h2 h3 fr h
      · rename_i h1 h2 h3
        split at hc
        · rename_i ho
          simp only [Option.map_eq_some_iff] at hc
          obtain ⟨ks, hks, rfl⟩ := hc
          exact n_eqs hop ho.1 h1 ho.2 rfl hks h2 h3 fr h
        · cases hc
      · cases hc
  | unOp op T x =>
    simp only [cop, hop, Option.map_eq_some_iff] at hc
    obtain ⟨x', hx, rfl⟩ := hc
    exact n_un hop hx fr h
  | convert S D x =>
    simp only [cop, hop] at hc
    split at hc
    · rename_i h1 h2 h3
      simp only [Option.some.injEq] at hc
      subst hc
      exact n_cvt hop h1 h2 h3 fr h
    · rename_i h1 h2 h3
      split at hc
      · rename_i h4
        split at hc
        · simp only [Option.some.injEq] at hc
          subst hc
          exact n_s2b hop h1 h2 h4 h3 fr h
        · cases hc
      · cases hc
    · rename_i h1 h2 h3
      split at hc
      · rename_i h4
        simp only [Option.some.injEq] at hc
        subst hc
        exact n_b2s hop h1 h2 h4 h3 fr h
      · cases hc
    · cases hc
  | makeInterface T x =>
    simp only [cop, hop] at hc
    split at hc
    · cases hc
    · rename_i D _ hD h1 h2
      simp only [Option.some.injEq] at hc
      subst hc
      exact n_mki hop h1 (fun m e => by subst e; exact hD _ rfl) h2 fr h
    · cases hc
  | makeFunc fn first cs =>
    cases fn with
    | func f =>
      simp only [cop, hop] at hc
      split at hc
      · rename_i h0
        simp only [Option.map_eq_some_iff] at hc
        obtain ⟨cs', hx, rfl⟩ := hc
        exact n_mkf hop h0 hx fr h
      · cases hc
    | _ => simp [cop, hop] at hc
  | slice T x lo hi mx =>
    simp only [cop, hop] at hc
    split at hc
    · rename_i h1 h2 h3 h4 h5
      simp only [Option.some.injEq] at hc
      subst hc
      have : mx = none := by
        cases mx with
        | none => rfl
        | some z => simp [cOo] at h5
      subst this
      exact n_slS hop h1 h2 h3 h4 fr h
    · rename_i h1 h2 h3 h4 h5
      split at hc
      · cases hc
      · rename_i hm
        simp only [Option.map_eq_some_iff] at hc
        obtain ⟨sz, hs, rfl⟩ := hc
        refine n_slL hop h1 hs ?_ h2 h3 h4 h5 fr h
        simp only [Bool.and_eq_true, Option.isNone_iff_eq_none, not_and] at hm
        exact (Classical.em (_ = none)).imp id fun e => hm (Option.isSome_iff_ne_none.2 e)
    · cases hc
  | fieldAddr T x i =>
    simp only [cop, hop] at hc
    split at hc
    · rename_i h1 h2
      split at hc
      · rename_i h3
        split at hc
        · rename_i h4
          simp only [Option.some.injEq] at hc
          subst hc
          exact n_fa hop h1 h3 h4 h2 fr h
        · cases hc
      · cases hc
    · cases hc
  | field T x i =>
    simp only [cop, hop] at hc
    split at hc
    · rename_i h1 h2
      split at hc
      · rename_i h3
        simp only [Option.map_eq_some_iff] at hc
        obtain ⟨⟨m, g⟩, h4, rfl⟩ := hc
        exact n_fld hop h1 h3 h4 h2 fr h
      · cases hc
    · cases hc
  | indexAddr T x i =>
    simp only [cop, hop] at hc
    split at hc
    · rename_i h1 h2 h3
      simp only [Option.map_eq_some_iff] at hc
      obtain ⟨m, h4, rfl⟩ := hc
      exact n_ixa hop h1 h4 h2 h3 fr h
    · rename_i h1 h2 h3
      simp only [Option.map_eq_some_iff] at hc
      obtain ⟨m, h4, rfl⟩ := hc
      exact n_ixp hop h1 h4 h2 h3 fr h
    · cases hc
  | index T x i =>
    simp only [cop, hop] at hc
    split at hc
    · rename_i h1 h2 h3
      simp only [Option.some.injEq] at hc
      subst hc
      exact n_ixs hop h1 h2 h3 fr h
    · rename_i h1 h2 h3
      simp only [Option.map_eq_some_iff] at hc
      obtain ⟨⟨m, g⟩, h4, rfl⟩ := hc
      exact n_ixv hop h1 h4 h2 h3 fr h
    · cases hc
  | typeAssert x S T ok =>
    simp only [cop, hop] at hc
    split at hc
    · cases hc
    · rename_i D _ _ hD h1 h2 h3
      simp only [Option.map_eq_some_iff] at hc
      obtain ⟨z, hz, rfl⟩ := hc
      exact n_ta hop h1 (fun m e => by subst e; exact hD _ rfl) h2 hz h3 fr h
    · cases hc
  | extract x i =>
    simp only [cop, hop, Option.map_eq_some_iff] at hc
    obtain ⟨x', hx, rfl⟩ := hc
    exact n_ext hop hx fr h
  | build T parts =>
    simp only [cop, hop] at hc
    split at hc
    · rename_i h1 h2
      split at hc
      · rename_i h3 h4
        simp only [Option.map_eq_some_iff] at hc
        obtain ⟨l, h5, rfl⟩ := hc
        exact n_bldS hop h1 h2 h3 h4 h5 fr h
      · cases hc
    · rename_i h1 h2
      split at hc
      · rename_i h3 h4
        simp only [Option.map_eq_some_iff] at hc
        obtain ⟨l, h5, rfl⟩ := hc
        exact n_bldA hop h1 h2 h3 h4 h5 fr h
      · cases hc
    · cases hc
  | buildSlice T len parts =>
    simp only [cop, hop] at hc
    split at hc
    · rename_i h1
      split at hc
      · rename_i h2 h3
        split at hc
        · rename_i h4
          simp only [Option.some.injEq] at hc
          subst hc
          have hz0 := h4.2.2.2
          rw [Option.any_eq_true] at hz0
          obtain ⟨z, hz, _⟩ := hz0
          exact n_bsl hop h1 h2 hz h3 h4.1 h4.2.1 h4.2.2.1 fr h
        · cases hc
      · cases hc
    · cases hc
  | call c =>
    obtain ⟨callee, args, ats⟩ := c
    cases callee with
    | value f =>
      cases f with
      | func f =>
        simp only [cop, hop] at hc
        split at hc
        · rename_i h1 h2
          split at hc
          · simp only [Option.some.injEq] at hc
            subst hc
            exact absurd h (by simp [ap])
          · simp only [Option.some.injEq] at hc
            subst hc
            exact n_call hop h2 fr h
        · cases hc
      | tmp t =>
        simp only [cop, hop, Option.map_eq_some_iff] at hc
        obtain ⟨xs, hx, rfl⟩ := hc
        exact absurd h (by simp [ap])
      | _ => simp [cop, hop] at hc
    | builtin b =>
      cases b with
      | len =>
        simp only [cop, hop] at hc
        split at hc
        · rename_i h1 h2
          split at hc
          · rename_i h3 h4
            simp only [Option.some.injEq] at hc
            subst hc
            exact n_lenS hop h1 h2 h3 h4 fr h
          · rename_i h3 h4
            simp only [Option.some.injEq] at hc
            subst hc
            exact n_lenL hop h1 h2 h3 h4 fr h
          · cases hc
        · cases hc
      | max =>
        simp only [cop, hop] at hc
        split at hc
        · rename_i h1
          simp only [Option.some.injEq] at hc
          subst hc
          exact n_mm (mx := true) hop h1 fr h
        · cases hc
      | min =>
        simp only [cop, hop] at hc
        split at hc
        · rename_i h1
          simp only [Option.some.injEq] at hc
          subst hc
          exact n_mm (mx := false) hop h1 fr h
        · cases hc
      | append =>
        simp only [cop, hop] at hc
        split at hc
        · split at hc
          · split at hc
            · split at hc
              · simp only [Option.some.injEq] at hc
                subst hc
                exact absurd h (by simp [ap])
              · cases hc
            · cases hc
          · cases hc
        · cases hc
      | _ => simp [cop, hop] at hc
    | invoke x m =>
      simp only [cop, hop] at hc
      split at hc
      · rename_i h1 h2
        simp only [Option.some.injEq] at hc
        subst hc
        exact n_inv hop h1 h2 fr h
      · cases hc
  | alloc T =>
    simp only [cop, hop] at hc
    split at hc
    · simp only [Option.map_eq_some_iff] at hc
      obtain ⟨z, _, rfl⟩ := hc
      exact absurd h (by simp [ap])
    · cases hc
  | box T x =>
    simp only [cop, hop, Option.map_eq_some_iff] at hc
    obtain ⟨z, _, rfl⟩ := hc
    exact absurd h (by simp [ap])
  | store T x y =>
    simp only [cop, hop] at hc
    split at hc
    · simp only [Option.some.injEq] at hc
      subst hc
      exact absurd h (by simp [ap])
    · cases hc
  | _ => simp [cop, hop] at hc

end
end Go.Proofs.YtlbodfkhenkcjaaGreatDoor.D


namespace Go.Proofs.YtlbodfkhenkcjaaGreatDoor.D
open Go Go.RowKit

section
variable {P : Program} {I : Inv} {B : Base} {L : Link} {W : World} {n : Nat} {σ : St} {a : Act} {o : Oper} {d : DOp} {loc : List (List DV)} {ow : List Nat}

def Op2 (P : Program) (I : Inv) (B : Base) (L : Link) (W : World) (o : Oper) (a : Act) (r : DV) (loc : List (List DV)) (ow : List Nat) : Prop :=
  ∀ (Kw : Act → World → Prop) (Q : Exit → Act → World → Prop), (∀ y L' W', Rep (stab B L') W' L' r y → Sim I B L' W' loc ow → Step (stab B L) L W (stab B L') L' W' → Kw (a.put o.dst y) W') → o.wp P a W Kw Q

theorem Neu.op2 {r : DV} (h : Neu P B L W o a r) (hs : Sim I B L W loc ow) : Op2 P I B L W o a r loc ow := by
  intro Kw Q hk
  refine h Kw Q fun y W' hr hb => ?_
  obtain ⟨h1, h2⟩ := hs.quiet hb
  exact hk y L W' hr h1 h2

theorem bx_lt {k b : Nat} (h : L.bx[k]? = some b) : b ∈ L.bx := List.mem_of_getElem? h

theorem sim_box (hs : Sim I B L W loc ow) {T : TypeId} {cs : List DV} {ys : List Value} (hr : RepL (stab B L) W L cs ys) :
    Sim I B ⟨L.bx ++ [W.heap.size], L.ow, L.fz⟩ (W.alloc (.cells ys.toArray T)) (loc ++ [cs]) ow ∧
    Step (stab B L) L W (stab B ⟨L.bx ++ [W.heap.size], L.ow, L.fz⟩) ⟨L.bx ++ [W.heap.size], L.ow, L.fz⟩ (W.alloc (.cells ys.toArray T)) := by
  have hb : Below W.heap.size W (W.alloc (.cells ys.toArray T)) := (Below.refl _ _).alloc (Nat.le_refl _) _
  have st : Step (stab B L) L W (stab B ⟨L.bx ++ [W.heap.size], L.ow, L.fz⟩) ⟨L.bx ++ [W.heap.size], L.ow, L.fz⟩ (W.alloc (.cells ys.toArray T)) := by
    refine ⟨fun b o y h1 h2 => ⟨?_, by rw [hb.cell (p := ⟨b, o, none⟩) (cell_lt h2)]; exact h2⟩, fun k b h => ?_, fun id N C h => ⟨N, C, h, Nat.le_refl _, fun _ => ⟨rfl, fun g hg => hb.block g (hs.oge id N g (hg ▸ h)).2.1⟩⟩⟩
    · rcases h1 with h1 | ⟨h1, h3, h4⟩
      · exact .inl h1
      · refine .inr ⟨h1, ?_, h4⟩
        have := cell_lt h2
        refine h3.imp (fun h3 => ?_) id
        simp only [List.mem_append, List.mem_singleton, not_or]
        exact ⟨h3, by omega⟩
    · have : k < L.bx.length := (List.getElem?_eq_some_iff.1 h).1
      show (L.bx ++ [W.heap.size])[k]? = some b
      rw [List.getElem?_append_left this]
      exact h
  refine ⟨⟨hs.inv, hs.below.trans (hb.mono hs.below.size), by simp [hs.blen], fun k b h => ?_, fun j k b h1 h2 => ?_, fun k cs' h => ?_, hs.olen, fun id N g h => ?_, hs.ond, fun k b h hf => ?_, fun b hf => Nat.lt_of_lt_of_le (hs.flt b hf) hb.size⟩, st⟩
  · replace h : (L.bx ++ [W.heap.size])[k]? = some b := h
    rw [List.getElem?_append] at h
    split at h
    · have := hs.bge k b h
      exact ⟨this.1, by have := this.2; have := hb.size; omega⟩
    · have : b = W.heap.size := by
        cases hq : k - L.bx.length with
        | zero => rw [hq] at h; simpa using h.symm
        | succ m => rw [hq] at h; simp at h
      subst this
      exact ⟨hs.below.size, by simp⟩
  · replace h1 : (L.bx ++ [W.heap.size])[j]? = some b := h1
    replace h2 : (L.bx ++ [W.heap.size])[k]? = some b := h2
    rw [List.getElem?_append] at h1 h2
    have hlast : ∀ m, [W.heap.size][m]? = some b → m = 0 ∧ b = W.heap.size := by
      intro m hm
      cases m with
      | zero => exact ⟨rfl, by simpa using hm.symm⟩
      | succ m => simp at hm
    split at h1 <;> split at h2
    · exact hs.bnd j k b h1 h2
    · have := (hs.bge j b h1).2; have := (hlast _ h2).2; omega
    · have := (hs.bge k b h2).2; have := (hlast _ h1).2; omega
    · have := (hlast _ h1).1; have := (hlast _ h2).1; omega
  · rw [List.getElem?_append] at h
    split at h
    · rename_i hk
      obtain ⟨b, us, T', k1, k2, k3⟩ := hs.box k cs' h
      exact ⟨b, us, T', st.bx k b k1, (hb.block b (hs.bge k b k1).2).trans k2, fun hf => (k3 hf).step st⟩
    · rename_i hk
      have hcs : cs' = cs ∧ k = loc.length := by
        cases hq : k - loc.length with
        | zero => rw [hq] at h; exact ⟨by simpa using h.symm, by omega⟩
        | succ m => rw [hq] at h; simp at h
      obtain ⟨rfl, rfl⟩ := hcs
      refine ⟨W.heap.size, ys, T, ?_, heap_alloc_new W _, fun _ => hr.step st⟩
      show (L.bx ++ [W.heap.size])[loc.length]? = some W.heap.size
      rw [← hs.blen]
      simp
  · obtain ⟨h1, h2, h3⟩ := hs.oge id N g h
    refine ⟨h1, by have := hb.size; omega, ?_⟩
    simp only [List.mem_append, List.mem_singleton, not_or]
    exact ⟨h3, by omega⟩
  · replace h : (L.bx ++ [W.heap.size])[k]? = some b := h
    rw [List.getElem?_append] at h
    split at h
    · have h1 := hs.frz k b h hf
      rw [List.getElem?_append_left (List.getElem?_eq_some_iff.1 h1).1]
      exact h1
    · have : b = W.heap.size := by
        cases hq : k - L.bx.length with
        | zero => rw [hq] at h; simpa using h.symm
        | succ m => rw [hq] at h; simp at h
      have := hs.flt b hf
      omega

theorem o_box {T : TypeId} {x : Operand} {x' : Opd} (hop : o.op = .box T x) (hx : cO x = some x') (hu : D.ev σ.env x' ≠ .u) (fr : Fr I B L W n σ a) :
    Op2 P I B L W o a (.lp σ.loc.length 0) (σ.loc ++ [(D.ev σ.env x').cells]) σ.ow := by
  intro Kw Q hk
  have hr := (fr.ev hx).cells hu
  obtain ⟨h1, h2⟩ := sim_box (T := T) fr.sim hr
  have hrun : (execOp a.eval o).run P W = .ok (.value (.pointer (some ⟨W.heap.size, 0, none⟩))) (W.alloc (.cells (a.eval x).cells.toList.toArray T)) := by
    simp [execOp, hop, Instr.box, newVar, newRow]
  unfold Oper.wp
  rw [hrun]
  exact hk _ _ _ (.lp _ _ 0 W.heap.size (by rw [← fr.sim.blen]; simp)) h1 h2

theorem o_zero {T : TypeId} {i : TypeInfo} {z : Value} (hop : o.op = .alloc T) (hi : P.info? T = some i) (hz : i.zero = some z) (fr : Fr I B L W n σ a) :
    Op2 P I B L W o a (.lp σ.loc.length 0) (σ.loc ++ [(DV.v z).cells]) σ.ow := by
  intro Kw Q hk
  have hr : RepL (stab B L) W L (DV.v z).cells z.cells.toList := (Rep.v L z).cells (by simp)
  obtain ⟨h1, h2⟩ := sim_box (T := T) fr.sim hr
  have hrun : (execOp a.eval o).run P W = .ok (.value (.pointer (some ⟨W.heap.size, 0, none⟩))) (W.alloc (.cells z.cells.toList.toArray T)) := by
    simp [execOp, hop, Instr.alloc, zeroValue, typeInfo, hi, hz, newVar, newRow]
  unfold Oper.wp
  rw [hrun]
  exact hk _ _ _ (.lp _ _ 0 W.heap.size (by rw [← fr.sim.blen]; simp)) h1 h2

theorem o_st0 {T : TypeId} {m k off b : Nat} {x y : Operand} {x' y' : Opd} {cs : List DV} (hop : o.op = .store T x y) (hm : sizeP P T = some m) (_hx : cO x = some x') (hy : cO y = some y') (fr : Fr I B L W n σ a)
    (_hk : D.ev σ.env x' = .lp k off) (hcs : σ.loc[k]? = some cs) (hle : off + m ≤ cs.length) (hlen : (D.ev σ.env y').cells.length = m) (hxe : a.eval x = .pointer (some ⟨b, off, none⟩)) (hb : L.bx[k]? = some b) (hfz : b ∈ L.fz) :
    Op2 P I B L W o a (.v undef) (σ.loc.set k (cs.take off ++ (D.ev σ.env y').cells ++ cs.drop (off + m))) σ.ow := by
  intro Kw Q hKw
  have hcs0 := fr.sim.frz k b hb hfz
  rw [hcs] at hcs0
  obtain rfl := Option.some.inj hcs0
  simp only [List.length_nil] at hle
  have hm0 : m = 0 := by omega
  have ho0 : off = 0 := by omega
  subst hm0; subst ho0
  have hc0 : (D.ev σ.env y').cells = [] := List.eq_nil_of_length_eq_zero hlen
  have hu : D.ev σ.env y' ≠ .u := by intro e; rw [e] at hc0; cases hc0
  have hyr := (fr.ev hy).cells hu
  have hv0 : (a.eval y).cells.toList = [] := List.eq_nil_of_length_eq_zero (by rw [← hyr.1, hc0]; rfl)
  have hvs : (a.eval y).cells.size = 0 := by rw [← Array.length_toList, hv0]; rfl
  have hrun : (execOp a.eval o).run P W = .ok .skip W := by
    simp only [execOp, hop, hxe, Instr.storeAt, Instr.sureAddr, storeVar, Sem.run_bind, Sem.run_pure, Result.andThen_ok, sizeP_run hm, hvs]
    simp [hv0, storeCells]
  have hloc : σ.loc.set k ([].take 0 ++ (D.ev σ.env y').cells ++ [].drop (0 + 0)) = σ.loc := by
    rw [hc0]
    refine List.ext_getElem? fun j => ?_
    rw [List.getElem?_set]
    split
    · rename_i e
      subst e
      rw [hcs, if_pos (List.getElem?_eq_some_iff.1 hcs).1]
      rfl
    · rfl
  rw [hloc] at hKw
  unfold Oper.wp
  rw [hrun]
  exact hKw undef L W (.v _ _) fr.sim (Step.refl _ _ _)

theorem o_st {T : TypeId} {m k off : Nat} {x y : Operand} {x' y' : Opd} {cs : List DV} (hop : o.op = .store T x y) (hm : sizeP P T = some m) (hx : cO x = some x') (hy : cO y = some y') (fr : Fr I B L W n σ a)
    (hk : D.ev σ.env x' = .lp k off) (hcs : σ.loc[k]? = some cs) (hle : off + m ≤ cs.length) (hlen : (D.ev σ.env y').cells.length = m) (hone : ∀ c ∈ (D.ev σ.env y').cells, c.one = true) :
    Op2 P I B L W o a (.v undef) (σ.loc.set k (cs.take off ++ (D.ev σ.env y').cells ++ cs.drop (off + m))) σ.ow := by
  intro Kw Q hKw
  have hr := fr.ev hx
  rw [hk] at hr
  generalize hxe : a.eval x = v at hr
  cases hr with
  | lp _ _ _ b hb =>
    obtain ⟨b', ys, T', k1, k2, k3⟩ := fr.sim.box k cs hcs
    obtain rfl : b = b' := Option.some.inj (hb.symm.trans k1)
    have hu : D.ev σ.env y' ≠ .u := by
      intro e
      rw [e] at hone
      have := hone .u (by simp [DV.cells])
      simp [DV.one] at this
    have hyr := (fr.ev hy).cells hu
    have hvl : (a.eval y).cells.toList.length = m := by rw [← hyr.1]; exact hlen
    by_cases hfz : b ∈ L.fz
    · exact o_st0 hop hm hx hy fr hk hcs hle hlen hxe hb hfz Kw Q hKw
    replace k3 := k3 hfz
    have hysl : ys.length = cs.length := k3.1.symm
    have hone' : ∀ u ∈ (a.eval y).cells.toList, u.oneCell' = true := by
      intro u hu'
      obtain ⟨i, hi, rfl⟩ := List.getElem_of_mem hu'
      have hi' : i < (D.ev σ.env y').cells.length := by rw [hyr.1]; exact hi
      exact (hyr.2 i _ _ (List.getElem?_eq_getElem hi') (List.getElem?_eq_getElem hi)).one (hone _ (List.getElem_mem hi'))
    have hst := run_storeCells_at P b off T' (a.eval y).cells.toList 0 ys.toArray W k2 (by simp; simp at hvl; omega) hone'
    simp only [Nat.add_zero] at hst
    have hvs : (a.eval y).cells.size = m := by simpa using hvl
    have hrun : (execOp a.eval o).run P W = .ok .skip (W.setRow b (ys.take off ++ (a.eval y).cells.toList ++ ys.drop (off + m)).toArray) := by
      have e0 : (⟨b, off, none⟩ : Addr) = ⟨b, 0 + off, none⟩ := by simp
      simp only [execOp, hop, hxe, Instr.storeAt, Instr.sureAddr, storeVar, Sem.run_bind, Sem.run_pure, Result.andThen_ok, sizeP_run hm, hvs]
      simp [hst, hvs]
    have hnew := setRow_heap W b ys.toArray (ys.take off ++ (a.eval y).cells.toList ++ ys.drop (off + m)).toArray T' (0, 0) k2
    have st : Step (stab B L) L W (stab B L) L (W.setRow b (ys.take off ++ (a.eval y).cells.toList ++ ys.drop (off + m)).toArray) := by
      refine ⟨fun b' o' z h1 h2 => ⟨h1, ?_⟩, fun _ _ h => h, fun id N C h => ⟨N, C, h, Nat.le_refl _, fun _ => ⟨rfl, fun g hg => setRow_other W b g _ ?_⟩⟩⟩
      · have hne : b' ≠ b := by
          rintro rfl
          rcases h1 with ⟨h1, _⟩ | ⟨_, h1, _⟩
          · have := (fr.sim.bge k b' hb).1; omega
          · exact h1.elim (fun h => h (bx_lt hb)) hfz
        rw [World.cell?_of_block (w := W) (a := ⟨b', o', none⟩) (setRow_other W b b' _ hne)]
        exact h2
      · rintro rfl
        exact (fr.sim.oge id N g (hg ▸ h)).2.2 (bx_lt hb)
    have hsize : (W.setRow b (ys.take off ++ (a.eval y).cells.toList ++ ys.drop (off + m)).toArray).heap.size = W.heap.size := by simp [World.setRow]
    unfold Oper.wp
    rw [hrun]
    refine hKw undef L _ (.v _ _) ⟨fr.sim.inv, fr.sim.below.trans ⟨rfl, rfl, rfl, by rw [hsize]; exact Nat.le_refl _, fun j hj => setRow_other W b j _ (by have := (fr.sim.bge k b hb).1; omega)⟩,
      by simp [fr.sim.blen], fun j c h => by rw [hsize]; exact fr.sim.bge j c h, fr.sim.bnd, fun j cs' h => ?_, fr.sim.olen, fun id N g h => by rw [hsize]; exact fr.sim.oge id N g h, fr.sim.ond, fun j c h hf => ?_, fun c hf => by rw [hsize]; exact fr.sim.flt c hf⟩ st
    rotate_left
    · have hl := fr.sim.frz j c h hf
      rw [List.getElem?_set]
      split
      · rename_i e
        subst e
        exact absurd (Option.some.inj (hb.symm.trans h) ▸ hf) hfz
      · exact hl
    rw [List.getElem?_set] at h
    split at h
    · rename_i e
      subst e
      split at h
      · simp only [Option.some.injEq] at h
        subst h
        exact ⟨b, _, T', hb, hnew, fun _ => (((k3.take off).append hyr).append (k3.drop (off + m))).step st⟩
      · cases h
    · rename_i hne
      obtain ⟨c, zs, T2, q1, q2, q3⟩ := fr.sim.box j cs' h
      have hcb : c ≠ b := by
        rintro rfl
        exact hne (fr.sim.bnd k j c hb q1)
      exact ⟨c, zs, T2, q1, (setRow_other W b c _ hcb).trans q2, fun hf => (q3 hf).step st⟩

theorem o_calle {f : FuncId} {ds : List DV} {vals : List Value} {K : DV → St → Prop} (hrun : (execOp a.eval o).run P W = (callFunc f vals.toArray).run P W) (hr : RepL (stab B L) W L ds vals) (hs : Sim I B L W σ.loc σ.ow) (h : doCall P I f ds σ K) :
    ∃ r σ', K r σ' ∧ σ'.env = σ.env ∧ Op2 P I B L W o a r σ'.loc σ'.ow := by
  rcases h with ⟨es, r, hw, hp, hk⟩ | ⟨r, loc', ow', hp, hk⟩
  · exact ⟨r, σ, hk, rfl, (neu_call hp (hr.wk hw) hs hrun).op2 hs⟩
  · refine ⟨r, _, hk, rfl, fun Kw Q hKw => ?_⟩
    have hc := hp.2 B W L vals hs hr
    unfold Oper.wp
    rw [hrun, run_callFunc hp.1]
    refine Calls.mono hc fun e W' ⟨y, L', he, h1, h2, h3⟩ => ?_
    subst he
    exact hKw y L' W' h3 h1 h2


end
end Go.Proofs.YtlbodfkhenkcjaaGreatDoor.D

