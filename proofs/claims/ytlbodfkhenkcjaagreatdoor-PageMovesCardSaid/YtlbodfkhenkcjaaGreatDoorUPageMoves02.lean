/- What functions of the given program compute, step by step: the walks that the law PageMoves leans on, part 2. No conditions. -/
import Derived.Test.YtlbodfkhenkcjaaGreatDoorUPageMoves01
import Derived.Scope
import Derived.Orders
import Derived.Laws.MakeOwn
namespace Go.Proofs.YtlbodfkhenkcjaaGreatDoor.D
open Go Go.RowKit

section
variable {P : Program} {I : Inv} {B : Base} {L : Link} {W : World} {n : Nat} {σ : St} {a : Act} {o : Oper} {d : DOp} {loc : List (List DV)} {ow : List Nat}

theorem cur_cells {S : Nat → Nat → Prop} {id e sz N : Nat} {l : List DV} {y : Value} {C : Option Nat} (h : Rep S W L (.own id e sz l) y) (ho : L.ow[id]? = some (N, C)) (hN : l.length * sz = N) :
    ∃ ys : List Value, RepL S W noLink (l.flatMap DV.cells) ys ∧ ys.length = l.length * sz ∧ (∀ c ∈ l, c.cells.length = sz) ∧ (∀ c ∈ l.flatMap DV.cells, c.one = true) ∧
      (((∃ a, y = .slice a 0 0) ∧ l = [] ∧ C = none) ∨
       ∃ g cap cur, C = some g ∧ y = .slice (some ⟨g, 0, none⟩) l.length cap ∧ W.heap[g]? = some (.cells cur e (0, 0)) ∧ l.length ≤ cap ∧ cap ≤ maxLen ∧ cur.size = cap * sz ∧ cur.toList.take (l.length * sz) = ys) := by
  cases h with
  | own _ _ _ _ _ _ N' C' h1 h2 h3 h4 =>
    rw [ho] at h2
    obtain ⟨rfl, rfl⟩ : N = N' ∧ C = C' := by simpa using h2
    have hcur := h4 hN
    cases h1 with
    | list _ _ _ ys ad len cap b o' k1 k3 k4 k5 k6 k7 k8 =>
      refine ⟨ys, ⟨k6.symm, k8⟩, by rw [k6, flat_length k3], k3, k4, ?_⟩
      rcases hcur with ⟨e1, e2, e3⟩ | ⟨g, cap', cur, e1, e2, e3, e4, e5, e6⟩
      · exact .inl ⟨e1, List.eq_nil_of_length_eq_zero e2, e3⟩
      · refine .inr ⟨g, cap', cur, e1, e2, e3, e4, e5, e6, ?_⟩
        have hyl : ys.length = l.length * sz := by rw [k6, flat_length k3]
        by_cases hl : l = []
        · subst hl
          have : ys = [] := List.eq_nil_of_length_eq_zero (by simpa using hyl)
          subst this
          simp
        · have hb := k5 hl
          simp only [Value.slice.injEq] at e2
          rw [hb] at e2
          obtain ⟨e2, _⟩ := e2
          simp only [Option.some.injEq, Addr.mk.injEq] at e2
          obtain ⟨rfl, rfl, _⟩ := e2
          refine List.ext_getElem? fun j => ?_
          rw [List.getElem?_take]
          split
          · rename_i hj
            have hj' : j < ys.length := by omega
            have := (k7 j _ (List.getElem?_eq_getElem hj')).2
            rw [List.getElem?_eq_getElem hj', ← this, Nat.zero_add]
            simp [World.cell?, e3]
          · rw [List.getElem?_eq_none (by omega)]

theorem src_cells {S : Nat → Nat → Prop} {sz : Nat} {l : List DV} {y : Value} (h : Rep S W L (.list sz l) y) :
    ∃ (ad : Option Addr) (cap : Nat) (ys : List Value), y = .slice ad l.length cap ∧ RepL S W noLink (l.flatMap DV.cells) ys ∧ ys.length = l.length * sz ∧ (∀ c ∈ l, c.cells.length = sz) ∧ (∀ c ∈ l.flatMap DV.cells, c.one = true) ∧
      (l ≠ [] → ∃ p, ad = some p ∧ ∀ (j : Nat) (v : Value), ys[j]? = some v → W.cell? (p.add j) = some v) := by
  cases h with
  | list _ _ _ ys ad len cap b o' k1 k3 k4 k5 k6 k7 k8 =>
    refine ⟨ad, cap, ys, by rw [k1.1], ⟨k6.symm, k8⟩, by rw [k6, flat_length k3], k3, k4, fun hl => ⟨_, k5 hl, fun j v hv => ?_⟩⟩
    rw [Addr.add_mid]
    exact (k7 j v hv).2

theorem set_get {α : Type} {l : List α} {i j : Nat} {x y : α} (h : (l.set i x)[j]? = some y) : (j = i ∧ y = x ∧ i < l.length) ∨ (j ≠ i ∧ l[j]? = some y) := by
  rw [List.getElem?_set] at h
  split at h
  · rename_i e
    subst e
    split at h
    · rename_i hi; exact .inl ⟨rfl, by simpa using h.symm, hi⟩
    · cases h
  · rename_i e
    exact .inr ⟨fun e' => e e'.symm, h⟩

theorem sim_fresh (hs : Sim I B L W loc ow) {id N N' : Nat} {C : Option Nat} (ho : L.ow[id]? = some (N, C)) (hN : N < N') {T : TypeId} {cur : Array Value} {W' : World} (hW : W' = W.drew.alloc (.cells cur T)) :
    Sim I B ⟨L.bx, L.ow.set id (N', some W.heap.size), L.fz⟩ W' loc (ow.set id N') ∧ Step (stab B L) L W (stab B ⟨L.bx, L.ow.set id (N', some W.heap.size), L.fz⟩) ⟨L.bx, L.ow.set id (N', some W.heap.size), L.fz⟩ W' := by
  subst hW
  have hb : Below W.heap.size W (W.drew.alloc (.cells cur T)) := ((Below.refl _ _).drew).alloc (Nat.le_refl _) _
  have hsz : (W.drew.alloc (.cells cur T)).heap.size = W.heap.size + 1 := by simp
  have hid : id < L.ow.length := (List.getElem?_eq_some_iff.1 ho).1
  have st : Step (stab B L) L W (stab B ⟨L.bx, L.ow.set id (N', some W.heap.size), L.fz⟩) ⟨L.bx, L.ow.set id (N', some W.heap.size), L.fz⟩ (W.drew.alloc (.cells cur T)) := by
    refine ⟨fun b o y h1 h2 => ⟨?_, by rw [hb.cell (p := ⟨b, o, none⟩) (cell_lt h2)]; exact h2⟩, fun _ _ h => h, fun j M D h => ?_⟩
    · have hlt := cell_lt h2
      rcases h1 with h1 | ⟨h1, h3, h4⟩
      · exact .inl h1
      · refine .inr ⟨h1, h3, fun j M hj => ?_⟩
        rcases set_get hj with ⟨_, e, _⟩ | ⟨_, hj⟩
        · simp only [Prod.mk.injEq, Option.some.injEq] at e; omega
        · exact h4 j M hj
    · by_cases e : j = id
      · subst e
        rw [ho] at h
        obtain ⟨rfl, rfl⟩ : N = M ∧ C = D := by simpa using h
        exact ⟨N', some W.heap.size, by simp [hid], by omega, fun e => by omega⟩
      · refine ⟨M, D, by rw [List.getElem?_set_ne (fun e' => e e'.symm)]; exact h, Nat.le_refl _, fun _ => ⟨rfl, fun g hg => hb.block g (hs.oge j M g (hg ▸ h)).2.1⟩⟩
  refine ⟨⟨hs.inv, hs.below.trans (hb.mono hs.below.size), hs.blen, fun k b h => ⟨(hs.bge k b h).1, by have := (hs.bge k b h).2; omega⟩, hs.bnd, fun k cs h => ?_, by rw [List.map_set, hs.olen], fun j M g h => ?_, fun i j M M' g h1 h2 => ?_, hs.frz, fun b hf => by have := hs.flt b hf; omega⟩, st⟩
  · obtain ⟨b, ys, T', k1, k2, k3⟩ := hs.box k cs h
    exact ⟨b, ys, T', k1, (hb.block b (hs.bge k b k1).2).trans k2, fun hf => (k3 hf).step st⟩
  · rcases set_get h with ⟨_, e, _⟩ | ⟨_, h⟩
    · simp only [Prod.mk.injEq, Option.some.injEq] at e
      obtain ⟨_, rfl⟩ := e
      refine ⟨hs.below.size, by omega, fun hm => ?_⟩
      obtain ⟨k, hk, e⟩ := List.getElem_of_mem hm
      have := (hs.bge k _ (by rw [List.getElem?_eq_getElem hk, e])).2
      omega
    · have := hs.oge j M g h
      exact ⟨this.1, by omega, this.2.2⟩
  · rcases set_get h1 with ⟨e1, e, _⟩ | ⟨e1, h1⟩ <;> rcases set_get h2 with ⟨e2, e', _⟩ | ⟨e2, h2⟩
    · omega
    · simp only [Prod.mk.injEq, Option.some.injEq] at e
      have := (hs.oge j M' g h2).2.1; omega
    · simp only [Prod.mk.injEq, Option.some.injEq] at e'
      have := (hs.oge i M g h1).2.1; omega
    · exact hs.ond i j M M' g h1 h2

theorem sim_room (hs : Sim I B L W loc ow) {id N N' g : Nat} (ho : L.ow[id]? = some (N, some g)) (hN : N < N') {T : TypeId} {cur new : Array Value} {W' : World} (hg : W.heap[g]? = some (.cells cur T (0, 0)))
    (hpre : ∀ j, j < N → new[j]? = cur[j]?) (hW : W' = W.setRow g new) :
    Sim I B ⟨L.bx, L.ow.set id (N', some g), L.fz⟩ W' loc (ow.set id N') ∧ Step (stab B L) L W (stab B ⟨L.bx, L.ow.set id (N', some g), L.fz⟩) ⟨L.bx, L.ow.set id (N', some g), L.fz⟩ W' := by
  subst hW
  have hid : id < L.ow.length := (List.getElem?_eq_some_iff.1 ho).1
  have hsz : (W.setRow g new).heap.size = W.heap.size := by simp [World.setRow]
  have hgb := hs.oge id N g ho
  have hnew := setRow_heap W g cur new T (0, 0) hg
  have st : Step (stab B L) L W (stab B ⟨L.bx, L.ow.set id (N', some g), L.fz⟩) ⟨L.bx, L.ow.set id (N', some g), L.fz⟩ (W.setRow g new) := by
    refine ⟨fun b o y h1 h2 => ?_, fun _ _ h => h, fun j M D h => ?_⟩
    · rcases h1 with h1 | ⟨h1, h3, h4⟩
      · refine ⟨.inl h1, ?_⟩
        rw [World.cell?_of_block (w := W) (a := ⟨b, o, none⟩) (setRow_other W g b _ (by omega))]
        exact h2
      · refine ⟨.inr ⟨h1, h3, fun j M hj => ?_⟩, ?_⟩
        · rcases set_get hj with ⟨_, e, _⟩ | ⟨_, hj⟩
          · simp only [Prod.mk.injEq, Option.some.injEq] at e
            obtain ⟨rfl, rfl⟩ := e
            have := h4 id N ho
            omega
          · exact h4 j M hj
        · by_cases e : b = g
          · subst e
            have hlt := h4 id N ho
            have e1 : W.cell? ⟨b, o, none⟩ = cur[o]? := by simp [World.cell?, hg]
            have e2 : (W.setRow b new).cell? ⟨b, o, none⟩ = new[o]? := by simp [World.cell?, hnew]
            rw [e2, hpre o hlt, ← e1]
            exact h2
          · rw [World.cell?_of_block (w := W) (a := ⟨b, o, none⟩) (setRow_other W g b _ e)]
            exact h2
    · by_cases e : j = id
      · subst e
        rw [ho] at h
        obtain ⟨rfl, rfl⟩ : N = M ∧ some g = D := by simpa using h
        exact ⟨N', some g, by simp [hid], by omega, fun e => by omega⟩
      · refine ⟨M, D, by rw [List.getElem?_set_ne (fun e' => e e'.symm)]; exact h, Nat.le_refl _, fun _ => ⟨rfl, fun k hk => setRow_other W g k _ ?_⟩⟩
        rintro rfl
        exact e (hs.ond j id M N k (hk ▸ h) ho)
  refine ⟨⟨hs.inv, hs.below.trans ⟨rfl, rfl, rfl, by rw [hsz]; exact Nat.le_refl _, fun j hj => setRow_other W g j _ (by omega)⟩, hs.blen, fun k b h => by rw [hsz]; exact hs.bge k b h, hs.bnd, fun k cs h => ?_, by rw [List.map_set, hs.olen], fun j M k h => ?_, fun i j M M' k h1 h2 => ?_, hs.frz, fun b hf => by rw [hsz]; exact hs.flt b hf⟩, st⟩
  · obtain ⟨b, ys, T', k1, k2, k3⟩ := hs.box k cs h
    exact ⟨b, ys, T', k1, (setRow_other W g b _ (fun e => hgb.2.2 (e ▸ bx_lt k1))).trans k2, fun hf => (k3 hf).step st⟩
  · rw [hsz]
    rcases set_get h with ⟨_, e, _⟩ | ⟨_, h⟩
    · simp only [Prod.mk.injEq, Option.some.injEq] at e
      obtain ⟨_, rfl⟩ := e
      exact hgb
    · exact hs.oge j M k h
  · rcases set_get h1 with ⟨e1, e, _⟩ | ⟨e1, q1⟩ <;> rcases set_get h2 with ⟨e2, e', _⟩ | ⟨e2, q2⟩
    · omega
    · simp only [Prod.mk.injEq, Option.some.injEq] at e
      obtain ⟨_, rfl⟩ := e
      exact (e2 (hs.ond j id M' N k q2 ho)).elim
    · simp only [Prod.mk.injEq, Option.some.injEq] at e'
      obtain ⟨_, rfl⟩ := e'
      exact (e1 (hs.ond i id M N k q1 ho)).elim
    · exact hs.ond i j M M' k q1 q2


theorem app_run {T U : TypeId} {s x : Operand} {v w : Value} {y : Value} {W' : World} {args : Array Operand} {ats : Array TypeId} (hop : o.op = .call { callee := .builtin .append, args, argTypes := ats }) (ha : args.toList = [s, x]) (hat : ats.toList = [T, U]) (hTU : T = U)
    (hs : a.eval s = v) (hx : a.eval x = w) (h : (Builtin.append_ #[T, T] o.type #[v, w]).run P W = .ok y W') : (execOp a.eval o).run P W = .ok (.value y) W' := by
  have e1 : args = #[s, x] := by cases args; simp_all
  have e2 : ats = #[T, U] := by cases ats; simp_all
  subst e1; subst e2; subst hTU
  simp [execOp, hop, resolve, invoke, builtin, hs, hx, h]

theorem run_append_zero {T ty e : TypeId} {i : TypeInfo} (hT : P.underlying T = some (.slice e)) (hi : P.info? e = some i) (base ad : Option Addr) (len cap c : Nat) (hle : len ≤ cap) :
    (Builtin.append_ #[T, T] ty #[.slice base len cap, .slice ad 0 c]).run P W = .ok (.slice base len cap) W := by
  cases base <;> cases ad <;> simp [Builtin.append_, run_underlying hT, sizeOf, typeInfo, hi, Builtin.lenOf, Builtin.firstCells, loadCells, loadCellsFrom, storeCells, hle]

theorem list_of_cells {S : Nat → Nat → Prop} {sz b o : Nat} {l : List DV} {ys : List Value} {cap : Nat} (hr : RepL S W noLink (l.flatMap DV.cells) ys) (h1 : ∀ c ∈ l, c.cells.length = sz) (h2 : ∀ c ∈ l.flatMap DV.cells, c.one = true) (hc : l.length ≤ cap)
    (hcell : ∀ (j : Nat) (y : Value), ys[j]? = some y → S b (o + j) ∧ W.cell? ⟨b, o + j, none⟩ = some y) : Rep S W L (.list sz l) (.slice (some ⟨b, o, none⟩) l.length cap) :=
  .list _ sz l ys _ _ _ b o ⟨rfl, hc⟩ h1 h2 (fun _ => rfl) hr.1.symm hcell hr.2

theorem own_rep {S : Nat → Nat → Prop} {id e sz N g cap len : Nat} {l : List DV} {ys : List Value} {cur : Array Value} (hlen : len = l.length) (ho : L.ow[id]? = some (N, some g)) (hN : N = len * sz) (hg : W.heap[g]? = some (.cells cur e (0, 0))) (hcap : len ≤ cap) (hmax : cap ≤ maxLen)
    (hcs : cur.size = cap * sz) (ht : cur.toList.take N = ys) (hr : RepL S W noLink (l.flatMap DV.cells) ys) (h1 : ∀ c ∈ l, c.cells.length = sz) (h2 : ∀ c ∈ l.flatMap DV.cells, c.one = true) (hS : ∀ j, j < N → S g j) :
    Rep S W L (.own id e sz l) (.slice (some ⟨g, 0, none⟩) len cap) := by
  subst hlen
  refine .own _ id e sz l _ N (some g) (list_of_cells hr h1 h2 hcap fun j y hj => ?_) ho (by omega) fun _ => .inr ⟨g, cap, cur, rfl, rfl, hg, hcap, hmax, hcs⟩
  have hjl : j < ys.length := (List.getElem?_eq_some_iff.1 hj).1
  have hyl : ys.length = N := by rw [← hr.1, flat_length h1, hN]
  refine ⟨hS _ (by omega), ?_⟩
  rw [← ht, List.getElem?_take] at hj
  split at hj
  · simpa [World.cell?, hg] using hj
  · cases hj

theorem o_app {T U e : TypeId} {i : TypeInfo} {id : Nat} {s x : Operand} {l xs : List DV} {args : Array Operand} {ats : Array TypeId} (hop : o.op = .call { callee := .builtin .append, args, argTypes := ats }) (ha : args.toList = [s, x]) (hat : ats.toList = [T, U])
    (hT : P.underlying T = some (.slice e)) (hTU : T = U) (hi : P.info? e = some i) (hz : (i.zero.any fun z => z.cells.size == i.size) = true) (h0 : 0 < i.size) (hsim : Sim I B L W loc ow) (hr : Rep (stab B L) W L (.own id e i.size l) (a.eval s)) (hxr : Rep (stab B L) W L (.list i.size xs) (a.eval x))
    (hcur : ow[id]? = some (l.length * i.size)) (hby : (l.length + xs.length) * i.bytes ≤ 140737488355328) (h63 : l.length + xs.length ≤ maxLen) :
    Op2 P I B L W o a (.own id e i.size (l ++ xs)) loc (ow.set id ((l.length + xs.length) * i.size)) := by
  intro Kw Q hKw
  rw [Option.any_eq_true] at hz
  obtain ⟨z, hz, hzs⟩ := hz
  have hzs' : z.cells.size = i.size := by simpa using hzs
  have how : ∃ C, L.ow[id]? = some (l.length * i.size, C) := by
    have := hsim.olen
    rw [← this, List.getElem?_map, Option.map_eq_some_iff] at hcur
    obtain ⟨⟨N, C⟩, h1, h2⟩ := hcur
    simp only at h2
    exact ⟨C, by rw [h1, h2]⟩
  obtain ⟨C, how⟩ := how
  obtain ⟨ys, hys, hyl, hy1, hy2, hy3⟩ := cur_cells hr how rfl
  obtain ⟨ad, c, zs, hxe, hzr, hzl, hz1, hz2, hz3⟩ := src_cells hxr
  have hsmall : l.length + xs.length ≤ 9223372036854775807 := by simp only [maxLen] at h63; omega
  unfold Oper.wp
  by_cases hne : xs = []
  · subst hne
    have hle : ∃ base len cap, a.eval s = .slice base len cap ∧ len ≤ cap := by
      rcases hy3 with ⟨⟨a0, e1⟩, _, _⟩ | ⟨g, cap, cur, _, e2, _, e4, _⟩
      · exact ⟨a0, 0, 0, e1, Nat.le_refl _⟩
      · exact ⟨_, _, cap, e2, e4⟩
    obtain ⟨base, len, cap, hse, hle⟩ := hle
    have hrun := app_run hop ha hat hTU hse (by rw [hxe]; rfl) (run_append_zero (P := P) (W := W) (ty := o.type) hT hi base ad len cap c hle)
    rw [hrun]
    refine hKw _ L W ?_ ?_ (Step.refl _ _ _)
    · rw [hse] at hr
      simpa using hr
    · have e1 : ow.set id ((l.length + ([] : List DV).length) * i.size) = ow := by
        simp only [List.length_nil, Nat.add_zero]
        refine List.ext_getElem? fun j => ?_
        rw [List.getElem?_set]
        split
        · rename_i e; subst e; rw [hcur]; simp [(List.getElem?_eq_some_iff.1 hcur).1]
        · rfl
      rw [e1]
      exact hsim
  obtain ⟨p, rfl, hpc⟩ := hz3 hne
  have hm : 0 < xs.length := List.length_pos_iff.2 hne
  have hms : 0 < xs.length * i.size := Nat.mul_pos hm h0
  have hzone : ∀ u ∈ zs, u.oneCell' = true := by
    intro u hu
    obtain ⟨j, hj, rfl⟩ := List.getElem_of_mem hu
    have hj' : j < (xs.flatMap DV.cells).length := by rw [hzr.1]; exact hj
    exact (hzr.2 j _ _ (List.getElem?_eq_getElem hj') (List.getElem?_eq_getElem hj)).one (hz2 _ (List.getElem_mem hj'))
  have hflat : (l ++ xs).flatMap DV.cells = l.flatMap DV.cells ++ xs.flatMap DV.cells := by simp
  have hone' : ∀ c ∈ (l ++ xs).flatMap DV.cells, c.one = true := by rw [hflat]; intro c hc; exact (List.mem_append.1 hc).elim (hy2 c) (hz2 c)
  have hsz' : ∀ c ∈ l ++ xs, c.cells.length = i.size := by intro c hc; exact (List.mem_append.1 hc).elim (hy1 c) (hz1 c)
  have hlen : (l ++ xs).length = l.length + xs.length := List.length_append
  have hnn : (l.length + xs.length) * i.size = l.length * i.size + xs.length * i.size := Nat.add_mul _ _ _
  have hid : id < L.ow.length := (List.getElem?_eq_some_iff.1 how).1
  have hyzl : (ys ++ zs).length = (l.length + xs.length) * i.size := by rw [List.length_append, hyl, hzl, hnn]
  have fresh : ∀ (old : Nat), (execOp a.eval o).run P W = .ok (.value (.slice (some ⟨W.heap.size, 0, none⟩) (l.length + xs.length) (grownCap W (l.length + xs.length) old e)))
      (W.drew.alloc (.cells (ys.toArray ++ zs.toArray ++ Builtin.zeroCells z.cells (grownCap W (l.length + xs.length) old e - (l.length + xs.length))) e)) →
      o.upon P a Kw Q ((execOp a.eval o).run P W) := by
    intro old hrun
    rw [hrun]
    obtain ⟨h1, h2⟩ := sim_fresh (T := e) (cur := ys.toArray ++ zs.toArray ++ Builtin.zeroCells z.cells (grownCap W (l.length + xs.length) old e - (l.length + xs.length))) (N' := (l.length + xs.length) * i.size) hsim how (by omega) rfl
    have hge := grownCap_ge W (l.length + xs.length) old e
    refine hKw _ _ _ ?_ h1 h2
    refine own_rep (ys := ys ++ zs) (N := (l.length + xs.length) * i.size) hlen.symm (by simp [hid]) rfl (heap_alloc_new W.drew _) hge (grownCap_le_maxLen W _ old e h63) ?_ ?_ ?_ hsz' hone' ?_
    · simp only [Array.size_append, List.size_toArray, size_zeroCells, hzs', hyl, hzl, ← Nat.add_mul]
      congr 1
      omega
    · have : (l.length + xs.length) * i.size = (ys ++ zs).length := hyzl.symm
      rw [this]
      simp only [Array.toList_append, List.append_assoc]
      rw [← List.append_assoc]
      exact List.take_left
    · rw [hflat]
      exact (hys.append hzr).step h2.noLink
    · intro j hj
      refine .inr ⟨hsim.below.size, .inl fun hm => ?_, fun k M hk => ?_⟩
      · obtain ⟨q, hq, e⟩ := List.getElem_of_mem hm
        have := (hsim.bge q _ (by rw [List.getElem?_eq_getElem hq, e])).2
        omega
      · rcases set_get hk with ⟨_, e, _⟩ | ⟨_, hk⟩
        · simp only [Prod.mk.injEq] at e; omega
        · have := (hsim.oge k M _ hk).2.1; omega
  rcases hy3 with ⟨⟨a0, e1⟩, e2, e3⟩ | ⟨g, cap, cur, e1, e2, e3, e4, e5, e6, e7⟩
  · subst e2
    have hys0 : ys = [] := List.eq_nil_of_length_eq_zero (by simpa using hyl)
    subst hys0
    cases a0 with
    | some ap =>
      have hr0 := run_append_grow (P := P) W T o.type e i z hT hi hz ap 0 0 [] (by simp) (fun j v hj => by simp at hj) p xs.length c zs hzl hpc (by omega) (by simp at hsmall; omega) (growslice_fits (by omega) (by simpa using hby))
      refine fresh 0 ?_
      have := app_run hop ha hat hTU e1 hxe hr0
      simpa using this
    | none =>
    have hr0 := run_append_nil (P := P) W T o.type e i z hT hi hz p xs.length c zs hzl hpc hm (by simp at hsmall; omega) (by simp at hby; omega)
    refine fresh 0 ?_
    have := app_run hop ha hat hTU e1 hxe hr0
    simpa using this
  · by_cases hroom : l.length + xs.length ≤ cap
    · have hfit : l.length * i.size + zs.length ≤ cur.size := by rw [hzl, e6, ← hnn]; exact Nat.mul_le_mul_right _ hroom
      have hr0 := run_append_room (P := P) W T o.type e i hT hi g l.length cap cur e3 p xs.length c zs hzl hpc hzone hroom hfit
      have hrun := app_run hop ha hat hTU e2 hxe hr0
      rw [hrun]
      subst e1
      have hnewtake : (cur.toList.take (l.length * i.size) ++ zs ++ cur.toList.drop (l.length * i.size + zs.length)).take ((l.length + xs.length) * i.size) = ys ++ zs := by
        rw [e7]
        have : (l.length + xs.length) * i.size = (ys ++ zs).length := hyzl.symm
        rw [this]
        exact List.take_left
      obtain ⟨h1, h2⟩ := sim_room (cur := cur) (N' := (l.length + xs.length) * i.size) (new := (cur.toList.take (l.length * i.size) ++ zs ++ cur.toList.drop (l.length * i.size + zs.length)).toArray) hsim how (by omega) e3 (fun j hj => by
        have hl1 : (cur.toList.take (l.length * i.size)).length = l.length * i.size := by rw [e7, hyl]
        rw [List.getElem?_toArray, List.append_assoc, List.getElem?_append_left (by omega), List.getElem?_take, if_pos hj]
        simp) rfl
      refine hKw _ _ _ ?_ h1 h2
      refine own_rep (ys := ys ++ zs) (N := (l.length + xs.length) * i.size) hlen.symm (by simp [hid]) rfl (setRow_heap W g cur _ e _ e3) hroom e5 ?_ (by simpa using hnewtake) ?_ hsz' hone' ?_
      · simp only [List.size_toArray, List.length_append, List.length_take, List.length_drop, Array.length_toList]
        omega
      · rw [hflat]
        exact (hys.append hzr).step h2.noLink
      · intro j hj
        have hgb := hsim.oge id _ g how
        refine .inr ⟨hgb.1, .inl hgb.2.2, fun k M hk => ?_⟩
        rcases set_get hk with ⟨_, e, _⟩ | ⟨hne, hk⟩
        · simp only [Prod.mk.injEq] at e; omega
        · exact (hne (hsim.ond k id M _ g hk how)).elim
    · have holds : ∀ (j : Nat) (v : Value), ys[j]? = some v → W.cell? ((⟨g, 0, none⟩ : Addr).add j) = some v := by
        intro j v hj
        rw [Addr.add_mid, Nat.zero_add]
        rw [← e7, List.getElem?_take] at hj
        split at hj
        · simpa [World.cell?, e3] using hj
        · cases hj
      have hr0 := run_append_grow (P := P) W T o.type e i z hT hi hz ⟨g, 0, none⟩ l.length cap ys hyl holds p xs.length c zs hzl hpc (by omega) (by omega) (growslice_fits (by omega) hby)
      exact fresh cap (app_run hop ha hat hTU e2 hxe hr0)

theorem sim_own (hs : Sim I B L W loc ow) : Sim I B ⟨L.bx, L.ow ++ [(0, none)], L.fz⟩ W loc (ow ++ [0]) ∧ Step (stab B L) L W (stab B ⟨L.bx, L.ow ++ [(0, none)], L.fz⟩) ⟨L.bx, L.ow ++ [(0, none)], L.fz⟩ W := by
  have get : ∀ (j N g : Nat), (L.ow ++ [(0, none)])[j]? = some (N, some g) → L.ow[j]? = some (N, some g) := by
    intro j N g h
    rw [List.getElem?_append] at h
    split at h
    · exact h
    · cases hq : j - L.ow.length with
      | zero => rw [hq] at h; simp at h
      | succ m => rw [hq] at h; simp at h
  have st : Step (stab B L) L W (stab B ⟨L.bx, L.ow ++ [(0, none)], L.fz⟩) ⟨L.bx, L.ow ++ [(0, none)], L.fz⟩ W :=
    ⟨fun b o y h1 h2 => ⟨h1.imp id fun ⟨a, b, c⟩ => ⟨a, b, fun j N hj => c j N (get j N _ hj)⟩, h2⟩, fun _ _ h => h, fun j N C h => ⟨N, C, by
      show (L.ow ++ [(0, none)])[j]? = some (N, C)
      rw [List.getElem?_append_left (List.getElem?_eq_some_iff.1 h).1]; exact h, Nat.le_refl _, fun _ => ⟨rfl, fun _ _ => rfl⟩⟩⟩
  exact ⟨⟨hs.inv, hs.below, hs.blen, hs.bge, hs.bnd, fun k cs h => by
    obtain ⟨b, ys, T, k1, k2, k3⟩ := hs.box k cs h
    exact ⟨b, ys, T, k1, k2, fun hf => (k3 hf).step st⟩, by simp [hs.olen], fun j N g h => hs.oge j N g (get j N g h), fun i j N M g h1 h2 => hs.ond i j N M g (get _ _ _ h1) (get _ _ _ h2), hs.frz, hs.flt⟩, st⟩

theorem own_nil {S : Nat → Nat → Prop} (e sz : Nat) (M : List (Nat × Option Nat)) : Rep S W ⟨L.bx, M ++ [(0, none)], L.fz⟩ (.own M.length e sz []) (.slice none 0 0) :=
  .own _ _ e sz [] _ 0 none (.list _ sz [] [] none 0 0 0 0 ⟨rfl, Nat.le_refl _⟩ (by simp) (by simp) (by simp) rfl (by simp) (by simp)) (by simp) (by simp) (fun _ => .inl ⟨⟨_, rfl⟩, rfl, rfl⟩)

theorem o_appN {T U e : TypeId} {i : TypeInfo} {s x : Operand} {xs : List DV} {args : Array Operand} {ats : Array TypeId} (hop : o.op = .call { callee := .builtin .append, args, argTypes := ats }) (ha : args.toList = [s, x]) (hat : ats.toList = [T, U])
    (hT : P.underlying T = some (.slice e)) (hTU : T = U) (hi : P.info? e = some i) (hz : (i.zero.any fun z => z.cells.size == i.size) = true) (h0 : 0 < i.size) (hsim : Sim I B L W loc ow) (hs : a.eval s = .slice none 0 0) (hxr : Rep (stab B L) W L (.list i.size xs) (a.eval x))
    (hby : xs.length * i.bytes ≤ 140737488355328) (h63 : xs.length ≤ maxLen) :
    Op2 P I B L W o a (.own ow.length e i.size xs) loc (ow ++ [xs.length * i.size]) := by
  intro Kw Q hKw
  obtain ⟨h1, h2⟩ := sim_own hsim
  have hlen : L.ow.length = ow.length := by rw [← hsim.olen]; simp
  have hr : Rep (stab B ⟨L.bx, L.ow ++ [(0, none)], L.fz⟩) W ⟨L.bx, L.ow ++ [(0, none)], L.fz⟩ (.own ow.length e i.size []) (a.eval s) := by
    rw [hs, ← hlen]
    exact own_nil e i.size L.ow
  have := o_app (l := []) hop ha hat hT hTU hi hz h0 h1 hr (hxr.step h2) (by simp) (by simpa using hby) (by simpa using h63)
  refine this Kw Q fun y L' W' k1 k2 k3 => hKw y L' W' (by simpa using k1) (by simpa using k2) (h2.trans k3)

theorem o_app0 {T U e : TypeId} {i : TypeInfo} {s x : Operand} {l : List DV} {args : Array Operand} {ats : Array TypeId} (hop : o.op = .call { callee := .builtin .append, args, argTypes := ats }) (ha : args.toList = [s, x]) (hat : ats.toList = [T, U])
    (hT : P.underlying T = some (.slice e)) (hTU : T = U) (hi : P.info? e = some i) (hsim : Sim I B L W loc ow) (hr : Rep (stab B L) W L (.full i.size l) (a.eval s)) (hxr : Rep (stab B L) W L (.list i.size []) (a.eval x)) :
    Op2 P I B L W o a (.full i.size l) loc ow := by
  intro Kw Q hKw
  obtain ⟨ad', n', hse⟩ : ∃ ad' n', a.eval s = .slice ad' n' n' := by
    generalize a.eval s = v at hr
    cases hr with
    | full _ _ _ b n h => exact ⟨b, n, rfl⟩
  obtain ⟨ad, c, zs, hxe, hzr, hzl, hz1, hz2, hz3⟩ := src_cells hxr
  unfold Oper.wp
  have hrun := app_run hop ha hat hTU hse (by rw [hxe]; rfl) (run_append_zero (P := P) (W := W) (ty := o.type) hT hi ad' ad n' n' c (Nat.le_refl _))
  rw [hrun]
  refine hKw _ L W ?_ hsim (Step.refl _ _ _)
  rw [hse] at hr
  exact hr

theorem o_appF {T U e : TypeId} {i : TypeInfo} {s x : Operand} {l xs : List DV} {args : Array Operand} {ats : Array TypeId} (hop : o.op = .call { callee := .builtin .append, args, argTypes := ats }) (ha : args.toList = [s, x]) (hat : ats.toList = [T, U])
    (hT : P.underlying T = some (.slice e)) (hTU : T = U) (hi : P.info? e = some i) (hz : (i.zero.any fun z => z.cells.size == i.size) = true) (h0 : 0 < i.size) (hsim : Sim I B L W loc ow) (hr : Rep (stab B L) W L (.full i.size l) (a.eval s)) (hxr : Rep (stab B L) W L (.list i.size xs) (a.eval x))
    (hne : xs ≠ []) (hby : (l.length + xs.length) * i.bytes ≤ 140737488355328) (h63 : l.length + xs.length ≤ maxLen) :
    Op2 P I B L W o a (.own ow.length e i.size (l ++ xs)) loc (ow ++ [(l.length + xs.length) * i.size]) := by
  intro Kw Q hKw
  rw [Option.any_eq_true] at hz
  obtain ⟨z, hz, hzs⟩ := hz
  have hzs' : z.cells.size = i.size := by simpa using hzs
  obtain ⟨ad', n', hse, hr⟩ : ∃ ad' n', a.eval s = .slice ad' n' n' ∧ Rep (stab B L) W L (.list i.size l) (a.eval s) := by
    generalize a.eval s = v at hr
    cases hr with
    | full _ _ _ b n h => exact ⟨b, n, rfl, h⟩
  obtain ⟨ao, co, ys, hye, hys, hyl, hy1, hy2, hy3⟩ := src_cells hr
  obtain ⟨ad, c, zs, hxe, hzr, hzl, hz1, hz2, hz3⟩ := src_cells hxr
  obtain ⟨rfl, rfl, hco⟩ : ao = ad' ∧ l.length = n' ∧ co = n' := by rw [hse] at hye; cases hye; exact ⟨rfl, rfl, rfl⟩
  subst hco
  have hsmall : l.length + xs.length ≤ 9223372036854775807 := by simp only [maxLen] at h63; omega
  unfold Oper.wp
  obtain ⟨p, rfl, hpc⟩ := hz3 hne
  have hm : 0 < xs.length := List.length_pos_iff.2 hne
  have hms : 0 < xs.length * i.size := Nat.mul_pos hm h0
  have hflat : (l ++ xs).flatMap DV.cells = l.flatMap DV.cells ++ xs.flatMap DV.cells := by simp
  have hone' : ∀ c ∈ (l ++ xs).flatMap DV.cells, c.one = true := by rw [hflat]; intro c hc; exact (List.mem_append.1 hc).elim (hy2 c) (hz2 c)
  have hsz' : ∀ c ∈ l ++ xs, c.cells.length = i.size := by intro c hc; exact (List.mem_append.1 hc).elim (hy1 c) (hz1 c)
  have hlen : (l ++ xs).length = l.length + xs.length := List.length_append
  have hnn : (l.length + xs.length) * i.size = l.length * i.size + xs.length * i.size := Nat.add_mul _ _ _
  have hyzl : (ys ++ zs).length = (l.length + xs.length) * i.size := by rw [List.length_append, hyl, hzl, hnn]
  obtain ⟨g1, g2⟩ := sim_own hsim
  have hLl : L.ow.length = ow.length := by rw [← hsim.olen]; simp
  have how : (L.ow ++ [(0, none)])[ow.length]? = some (0, (none : Option Nat)) := by rw [← hLl]; simp
  have hrun : ∃ old, (execOp a.eval o).run P W = .ok (.value (.slice (some ⟨W.heap.size, 0, none⟩) (l.length + xs.length) (grownCap W (l.length + xs.length) old e)))
      (W.drew.alloc (.cells (ys.toArray ++ zs.toArray ++ Builtin.zeroCells z.cells (grownCap W (l.length + xs.length) old e - (l.length + xs.length))) e)) := by
    cases ao with
    | none =>
      have hl0 : l = [] := by
        by_cases hl : l = []
        · exact hl
        · obtain ⟨q, hq, _⟩ := hy3 hl; cases hq
      subst hl0
      have hys0 : ys = [] := List.eq_nil_of_length_eq_zero (by simpa using hyl)
      subst hys0
      have hr0 := run_append_nil (P := P) W T o.type e i z hT hi hz p xs.length c zs hzl hpc hm (by simp at hsmall; omega) (by simp at hby; omega)
      exact ⟨0, by simpa using app_run hop ha hat hTU hye hxe hr0⟩
    | some q =>
      have holds : ∀ (j : Nat) (v : Value), ys[j]? = some v → W.cell? (q.add j) = some v := by
        intro j v hj
        by_cases hl : l = []
        · subst hl
          have hys0 : ys = [] := List.eq_nil_of_length_eq_zero (by simpa using hyl)
          subst hys0
          simp at hj
        · obtain ⟨q', hq, hc⟩ := hy3 hl
          cases hq
          exact hc j v hj
      have hr0 := run_append_grow (P := P) W T o.type e i z hT hi hz q l.length l.length ys hyl holds p xs.length c zs hzl hpc (by omega) (by omega) (growslice_fits (by omega) hby)
      exact ⟨l.length, app_run hop ha hat hTU hye hxe hr0⟩
  obtain ⟨old, hrun⟩ := hrun
  rw [hrun]
  obtain ⟨h1, h2⟩ := sim_fresh (T := e) (cur := ys.toArray ++ zs.toArray ++ Builtin.zeroCells z.cells (grownCap W (l.length + xs.length) old e - (l.length + xs.length))) (N' := (l.length + xs.length) * i.size) g1 how (by omega) rfl
  have hge := grownCap_ge W (l.length + xs.length) old e
  have hset : (ow ++ [0]).set ow.length ((l.length + xs.length) * i.size) = ow ++ [(l.length + xs.length) * i.size] := by simp
  rw [hset] at h1
  refine hKw _ _ _ ?_ h1 (g2.trans h2)
  refine own_rep (ys := ys ++ zs) (N := (l.length + xs.length) * i.size) hlen.symm (by simp [← hLl]) rfl (heap_alloc_new W.drew _) hge (grownCap_le_maxLen W _ old e h63) ?_ ?_ ?_ hsz' hone' ?_
  · simp only [Array.size_append, List.size_toArray, size_zeroCells, hzs', hyl, hzl, ← Nat.add_mul]
    congr 1
    omega
  · have : (l.length + xs.length) * i.size = (ys ++ zs).length := hyzl.symm
    rw [this]
    simp only [Array.toList_append, List.append_assoc]
    rw [← List.append_assoc]
    exact List.take_left
  · rw [hflat]
    exact (hys.append hzr).step (g2.trans h2).noLink
  · intro j hj
    refine .inr ⟨g1.below.size, .inl fun hm => ?_, fun k M hk => ?_⟩
    · obtain ⟨q, hq, e⟩ := List.getElem_of_mem hm
      have := (g1.bge q _ (by rw [List.getElem?_eq_getElem hq, e])).2
      omega
    · rcases set_get hk with ⟨_, e, _⟩ | ⟨_, hk⟩
      · simp only [Prod.mk.injEq] at e; omega
      · have := (g1.oge k M _ hk).2.1; omega

end
end Go.Proofs.YtlbodfkhenkcjaaGreatDoor.D


namespace Go.Proofs.YtlbodfkhenkcjaaGreatDoor.D
open Go Go.RowKit

section
variable {P : Program} {I : Inv} {B : Base} {L : Link} {W : World} {n : Nat} {σ : St} {a : Act} {o : Oper} {d : DOp}

theorem inv_box {x : Opd} (hc : cop P o = some (.box x)) : ∃ T y, o.op = .box T y ∧ cO y = some x := by
  cases hop : o.op with
  | box T y =>
    simp only [cop, hop, Option.map_eq_some_iff] at hc
    obtain ⟨x', hx, e⟩ := hc
    simp only [DOp.box.injEq] at e
    subst e
    exact ⟨T, y, rfl, hx⟩
  | call c =>
    obtain ⟨callee, args, ats⟩ := c
    exfalso
    cases callee with
    | value f => cases f <;> simp [cop, hop] at hc <;> (repeat' split at hc) <;> simp_all
    | builtin b => cases b <;> simp [cop, hop] at hc <;> (repeat' split at hc) <;> simp_all
    | invoke r m => simp [cop, hop] at hc <;> (repeat' split at hc) <;> simp_all
  | _ => exfalso; simp [cop, hop] at hc <;> (repeat' split at hc) <;> simp_all

theorem inv_zero {z : Value} (hc : cop P o = some (.zero z)) : ∃ T i, o.op = .alloc T ∧ P.info? T = some i ∧ i.zero = some z := by
  cases hop : o.op with
  | alloc T =>
    simp only [cop, hop] at hc
    split at hc
    · rename_i i hi
      simp only [Option.map_eq_some_iff] at hc
      obtain ⟨z', hz, e⟩ := hc
      simp only [DOp.zero.injEq] at e
      subst e
      exact ⟨T, i, rfl, hi, hz⟩
    · cases hc
  | call c =>
    obtain ⟨callee, args, ats⟩ := c
    exfalso
    cases callee with
    | value f => cases f <;> simp [cop, hop] at hc <;> (repeat' split at hc) <;> simp_all
    | builtin b => cases b <;> simp [cop, hop] at hc <;> (repeat' split at hc) <;> simp_all
    | invoke r m => simp [cop, hop] at hc <;> (repeat' split at hc) <;> simp_all
  | _ => exfalso; simp [cop, hop] at hc <;> (repeat' split at hc) <;> simp_all

theorem inv_st {m : Nat} {x y : Opd} (hc : cop P o = some (.st m x y)) : ∃ T p q, o.op = .store T p q ∧ sizeP P T = some m ∧ cO p = some x ∧ cO q = some y := by
  cases hop : o.op with
  | store T p q =>
    simp only [cop, hop] at hc
    split at hc
    · rename_i h1 h2 h3
      simp only [Option.some.injEq, DOp.st.injEq] at hc
      obtain ⟨rfl, rfl, rfl⟩ := hc
      exact ⟨T, p, q, rfl, h1, h2, h3⟩
    · cases hc
  | call c =>
    obtain ⟨callee, args, ats⟩ := c
    exfalso
    cases callee with
    | value f => cases f <;> simp [cop, hop] at hc <;> (repeat' split at hc) <;> simp_all
    | builtin b => cases b <;> simp [cop, hop] at hc <;> (repeat' split at hc) <;> simp_all
    | invoke r m => simp [cop, hop] at hc <;> (repeat' split at hc) <;> simp_all
  | _ => exfalso; simp [cop, hop] at hc <;> (repeat' split at hc) <;> simp_all

theorem inv_app {e sz bytes : Nat} {s x : Opd} (hc : cop P o = some (.app e sz bytes s x)) : ∃ T U i p q args ats, o.op = .call { callee := .builtin .append, args, argTypes := ats } ∧ args.toList = [p, q] ∧ ats.toList = [T, U] ∧
    P.underlying T = some (.slice e) ∧ T = U ∧ P.info? e = some i ∧ (i.zero.any fun z => z.cells.size == i.size) = true ∧ 0 < i.size ∧ 0 < i.bytes ∧ i.size = sz ∧ i.bytes = bytes ∧ cO p = some s ∧ cO q = some x := by
  cases hop : o.op with
  | call c =>
    obtain ⟨callee, args, ats⟩ := c
    cases callee with
    | value f => exfalso; cases f <;> simp [cop, hop] at hc <;> (repeat' split at hc) <;> simp_all
    | invoke r m => exfalso; simp [cop, hop] at hc <;> (repeat' split at hc) <;> simp_all
    | builtin b =>
      cases b with
      | append =>
        simp only [cop, hop] at hc
        split at hc
        · rename_i p q T U h1 h2
          split at hc
          · rename_i h3 h4 h5 h6
            split at hc
            · rename_i i hi
              split at hc
              · rename_i hh
                simp only [Option.some.injEq, DOp.app.injEq] at hc
                obtain ⟨rfl, rfl, rfl, rfl, rfl⟩ := hc
                exact ⟨T, U, i, p, q, args, ats, rfl, h1, h2, h3, hh.1, hi, hh.2.2.2.2, hh.2.2.1, hh.2.2.2.1, rfl, rfl, h5, h6⟩
              · cases hc
            · cases hc
          · cases hc
        · cases hc
      | _ => exfalso; simp [cop, hop] at hc <;> (repeat' split at hc) <;> simp_all
  | _ => exfalso; simp [cop, hop] at hc <;> (repeat' split at hc) <;> simp_all

theorem inv_calle {f : FuncId} {xs : List Opd} (hc : cop P o = some (.calle f xs)) : ∃ args ats, o.op = .call { callee := .value (.func f), args, argTypes := ats } ∧ cOs args.toList = some xs := by
  cases hop : o.op with
  | call c =>
    obtain ⟨callee, args, ats⟩ := c
    cases callee with
    | value g =>
      cases g with
      | func g =>
        simp only [cop, hop] at hc
        split at hc
        · rename_i h1 h2
          split at hc
          · simp only [Option.some.injEq, DOp.calle.injEq] at hc
            obtain ⟨rfl, rfl⟩ := hc
            exact ⟨args, ats, rfl, h2⟩
          · cases hc
        · cases hc
      | _ => exfalso; simp [cop, hop] at hc <;> (repeat' split at hc) <;> simp_all
    | invoke r m => exfalso; simp [cop, hop] at hc <;> (repeat' split at hc) <;> simp_all
    | builtin b => exfalso; cases b <;> simp [cop, hop] at hc <;> (repeat' split at hc) <;> simp_all
  | _ => exfalso; simp [cop, hop] at hc <;> (repeat' split at hc) <;> simp_all

theorem inv_callv {x : Opd} {xs : List Opd} (hc : cop P o = some (.callv x xs)) : ∃ t args ats, x = .t t ∧ o.op = .call { callee := .value (.tmp t), args, argTypes := ats } ∧ cOs args.toList = some xs := by
  cases hop : o.op with
  | call c =>
    obtain ⟨callee, args, ats⟩ := c
    cases callee with
    | value g =>
      cases g with
      | tmp t =>
        simp only [cop, hop, Option.map_eq_some_iff] at hc
        obtain ⟨ys, hx, e⟩ := hc
        simp only [DOp.callv.injEq] at e
        obtain ⟨rfl, rfl⟩ := e
        exact ⟨t, args, ats, rfl, rfl, hx⟩
      | _ => exfalso; simp [cop, hop] at hc <;> (repeat' split at hc) <;> simp_all
    | invoke r m => exfalso; simp [cop, hop] at hc <;> (repeat' split at hc) <;> simp_all
    | builtin b => exfalso; cases b <;> simp [cop, hop] at hc <;> (repeat' split at hc) <;> simp_all
  | _ => exfalso; simp [cop, hop] at hc <;> (repeat' split at hc) <;> simp_all

theorem st_ok {a b n : Nat} {l : List DV} (h : (Nat.ble a b && (Nat.beq l.length n && l.all DV.one)) = true) : a ≤ b ∧ l.length = n ∧ ∀ c ∈ l, c.one = true := by
  simp only [Bool.and_eq_true] at h
  exact ⟨Nat.le_of_ble_eq_true h.1, Nat.eq_of_beq_eq_true h.2.1, fun c hc => List.all_eq_true.1 h.2.2 c hc⟩

theorem dop_sound {K : DV → St → Prop} (hc : cop P o = some d) (h : dop P I d σ K) (fr : Fr I B L W n σ a) : ∃ r σ', K r σ' ∧ σ'.env = σ.env ∧ Op2 P I B L W o a r σ'.loc σ'.ow := by
  have plain : ap P I d σ (fun r => K r σ) → ∃ r σ', K r σ' ∧ σ'.env = σ.env ∧ Op2 P I B L W o a r σ'.loc σ'.ow := by
    intro h
    obtain ⟨r, hk, hn⟩ := ap_sound hc h fr
    exact ⟨r, σ, hk, rfl, hn.op2 fr.sim⟩
  cases d with
  | box x =>
    obtain ⟨hu, hk⟩ := h
    obtain ⟨T, y, hop, hx⟩ := inv_box hc
    exact ⟨_, _, hk, rfl, o_box hop hx (DV.isU_false hu) fr⟩
  | zero z =>
    obtain ⟨T, i, hop, hi, hz⟩ := inv_zero hc
    exact ⟨_, _, h, rfl, o_zero hop hi hz fr⟩
  | st m x y =>
    obtain ⟨T, p, q, hop, hm, hp, hq⟩ := inv_st hc
    simp only [dop] at h
    split at h
    · rename_i k off hk
      obtain ⟨cs, h1, h2, h5⟩ := h
      obtain ⟨h2, h3, h4⟩ := st_ok h2
      exact ⟨_, _, h5, rfl, o_st hop hm hp hq fr hk h1 h2 h3 h4⟩
    · exact h.elim
  | calle f xs =>
    obtain ⟨args, ats, hop, hx⟩ := inv_calle hc
    exact o_calle (run_call hop) (fr.evs hx) fr.sim h
  | callv x xs =>
    obtain ⟨t, args, ats, rfl, hop, hx⟩ := inv_callv hc
    obtain ⟨f, cs, hf, h⟩ := h
    have hr : Rep (stab B L) W L (D.ev σ.env (.t t)) (a.eval (.tmp t)) := fr.ev rfl
    obtain ⟨ys, hv, hys⟩ := asFn_rep hr hf
    exact o_calle (run_callv hop hv) ((fr.evs hx).append hys) fr.sim h
  | app e sz bytes s x =>
    obtain ⟨T, U, i, p, q, args, ats, hop, h1, h2, h3, h4, h5, h6, h7, h8, rfl, rfl, h9, h10⟩ := inv_app hc
    obtain ⟨xs, k1, k2, h⟩ := h
    have hxr := elems_rep (fr.ev h10) k1 k2
    have hsr := fr.ev h9
    split at h
    · rename_i id e' sz' l hl
      obtain ⟨rfl, rfl, q1, q2, q3⟩ := h
      rw [hl] at hsr
      refine ⟨_, _, q3, rfl, o_app hop h1 h2 h3 h4 h5 h6 h7 fr.sim hsr hxr q1 q2 ?_⟩
      have : l.length + xs.length ≤ (l.length + xs.length) * i.bytes := Nat.le_mul_of_pos_right _ h8
      simp only [maxLen]
      omega
    · rename_i sz' l hl
      obtain ⟨rfl, ⟨q1, q2, q3⟩ | ⟨q1, q3⟩⟩ := h
      · rw [hl] at hsr
        refine ⟨_, _, q3, rfl, o_appF hop h1 h2 h3 h4 h5 h6 h7 fr.sim hsr hxr (by intro e; subst e; cases q1) q2 ?_⟩
        have : l.length + xs.length ≤ (l.length + xs.length) * i.bytes := Nat.le_mul_of_pos_right _ h8
        simp only [maxLen]
        omega
      · rw [hl] at hsr
        rw [q1] at hxr
        exact ⟨_, _, q3, rfl, o_app0 hop h1 h2 h3 h4 h5 fr.sim hsr hxr⟩
    · rename_i hl
      obtain ⟨q2, q3⟩ := h
      rw [hl] at hsr
      have hse : a.eval p = .slice none 0 0 := by
        generalize a.eval p = v at hsr
        cases hsr
        rfl
      refine ⟨_, _, q3, rfl, o_appN hop h1 h2 h3 h4 h5 h6 h7 fr.sim hse hxr q2 ?_⟩
      have : xs.length ≤ xs.length * i.bytes := Nat.le_mul_of_pos_right _ h8
      simp only [maxLen]
      omega
    · exact h.elim
  | _ => exact plain h

theorem Fr.put {L' : Link} {W' : World} {loc : List (List DV)} {ow : List Nat} (fr : Fr I B L W n σ a) (st : Step (stab B L) L W (stab B L') L' W') (hs : Sim I B L' W' loc ow) {dst : Option Nat} {r : DV} {y : Value}
    (hr : Rep (stab B L') W' L' r y) (hd : ∀ t, dst = some t → t < n) : Fr I B L' W' n ⟨putE σ.env dst r, loc, ow⟩ (a.put dst y) := by
  cases dst with
  | none => exact ⟨hs, fun t => (fr.env t).step st, fr.size, fr.defers⟩
  | some k =>
    refine ⟨hs, fun t => ?_, by simp [Act.put, fr.size], by simpa [Act.put] using fr.defers⟩
    have hk : k < a.tmps.size := by rw [fr.size]; exact hd k rfl
    simp only [putE, look_cons, Act.put]
    split
    · rename_i e
      subst e
      simpa [Array.getD, hk] using hr
    · rename_i e
      have := (fr.env t).step st
      have e2 : (a.tmps.setIfInBounds k y).getD t undef = a.tmps.getD t undef := by
        rw [Array.getD_eq_getD_getElem?, Array.getD_eq_getD_getElem?, Array.getElem?_setIfInBounds_ne (fun e' => e e'.symm)]
      rw [e2]
      exact this

def c1 (P : Program) (n : Nat) (ops : Array Oper) (o : Oper) : Option Op1 :=
  if (o.dst.all fun t => decide (t < n)) = true then
    match cop P o, o.guard with
    | some d, none => some ⟨o.dst, d, none⟩
    | some d, some (j, w) => match (ops[j]?).bind (·.dst) with
      | some t => if t < n then some ⟨o.dst, d, some (t, w)⟩ else none
      | none => none
    | none, _ => none
  else none

def cops (P : Program) (n : Nat) (ops : Array Oper) : List Oper → Option (List Op1)
  | [] => some []
  | o :: r => match c1 P n ops o, cops P n ops r with
    | some x, some l => some (x :: l)
    | _, _ => none


theorem c1_wanted {ops : Array Oper} {o1 : Op1} (hc : c1 P n ops o = some o1) (fr : Fr I B L W n σ a) {K : St → Prop} (h : dop1 P I o1 σ K) :
    (Region.wanted o (yielded ops a.tmps) = true ∧ ∃ d, cop P o = some d ∧ o1.dst = o.dst ∧ dop P I d σ (fun r σ' => K { σ' with env := putE σ'.env o.dst r })) ∨
    (Region.wanted o (yielded ops a.tmps) = false ∧ K { σ with env := putE σ.env o.dst (.v undef) }) := by
  unfold c1 at hc
  split at hc
  · split at hc
    · rename_i d hd hg
      simp only [Option.some.injEq] at hc
      subst hc
      exact .inl ⟨by simp [Region.wanted, hg], d, hd, rfl, h⟩
    · rename_i d j w hd hg
      split at hc
      · rename_i t ht
        split at hc
        · rename_i htn
          simp only [Option.some.injEq] at hc
          subst hc
          have hsz : t < a.tmps.size := by rw [fr.size]; exact htn
          have hr := fr.env t
          have hy : ∀ v, a.tmps.getD t undef = v → a.tmps[t]? = some v := by
            intro v hv
            rw [Array.getElem?_eq_getElem hsz]
            rw [← hv]
            simp [Array.getD, hsz]
          simp only [dop1] at h
          split at h
          · rename_i b hb
            rw [hb] at hr
            generalize hv : a.tmps.getD t undef = v at hr
            cases hr
            have hyl : yielded ops a.tmps j = some b := by simp [yielded, ht, hy _ hv]
            split at h
            · rename_i e
              exact .inl ⟨by simp [Region.wanted, hg, hyl, e], d, hd, rfl, h⟩
            · rename_i e
              exact .inr ⟨by simp [Region.wanted, hg, hyl, e], h⟩
          · rename_i hb
            rw [hb] at hr
            generalize hv : a.tmps.getD t undef = v at hr
            cases hr
            have hyl : yielded ops a.tmps j = none := by simp [yielded, ht, hy _ hv]
            exact .inr ⟨by simp [Region.wanted, hg, hyl], h⟩
          · exact h.elim
        · cases hc
      · cases hc
    · cases hc
  · cases hc

theorem c1_dst {ops : Array Oper} {o1 : Op1} (hc : c1 P n ops o = some o1) : ∀ t, o.dst = some t → t < n := by
  unfold c1 at hc
  split at hc
  · rename_i h
    intro t ht
    rw [ht] at h
    simpa using h
  · cases hc

end
end Go.Proofs.YtlbodfkhenkcjaaGreatDoor.D


namespace Go.Proofs.YtlbodfkhenkcjaaGreatDoor.D
open Go Go.RowKit

def Opd.uses : Opd → List Nat
  | .t n => [n]
  | _ => []

def usesO : Option Opd → List Nat
  | some x => x.uses
  | none => []

def DOp.uses : DOp → List Nat
  | .mv x | .box x | .ld _ _ x | .nilc x | .isnil _ _ x | .un _ x | .cvt _ x | .s2b x | .b2s x | .mki _ x | .fa _ x | .fld _ _ _ x | .ta _ _ _ x | .ext x _ | .len _ x => x.uses
  | .pick c a b => c.uses ++ a.uses ++ b.uses
  | .zero _ => []
  | .st _ a x | .bin _ a x | .beq _ a x | .eqs _ _ a x | .ixa _ a x | .ixp _ _ a x | .ixs a x | .ixv _ _ _ a x | .app _ _ _ a x => a.uses ++ x.uses
  | .mkf _ cs | .bsl _ cs | .call _ cs | .calle _ cs => cs.flatMap Opd.uses
  | .slS x lo hi => x.uses ++ usesO lo ++ usesO hi
  | .slL _ x lo hi mx => x.uses ++ usesO lo ++ usesO hi ++ usesO mx
  | .mm _ x xs | .callv x xs | .inv _ x xs => x.uses ++ xs.flatMap Opd.uses
  | .bld _ ps => ps.flatMap fun p => p.2.2.uses

def DOp.neutral : DOp → Bool
  | .box _ | .zero _ | .st _ _ _ | .app _ _ _ _ _ | .calle _ _ | .callv _ _ => false
  | _ => true

section
variable {P : Program} {I : Inv}

theorem ev_congr {env env' : List (Nat × DV)} {x : Opd} (h : ∀ t ∈ x.uses, look env t = look env' t) : ev env x = ev env' x := by
  cases x with
  | t n => exact h n (by simp [Opd.uses])
  | c v => rfl
  | f g => rfl

theorem evs_congr {env env' : List (Nat × DV)} {xs : List Opd} (h : ∀ t ∈ xs.flatMap Opd.uses, look env t = look env' t) : xs.map (ev env) = xs.map (ev env') :=
  List.map_congr_left fun x hx => ev_congr fun t ht => h t (List.mem_flatMap.2 ⟨x, hx, ht⟩)

theorem opt_congr {env env' : List (Nat × DV)} {x : Option Opd} (h : ∀ t ∈ usesO x, look env t = look env' t) (m : Nat) (K : Nat → Prop) : optNat env x m K = optNat env' x m K := by
  cases x with
  | none => rfl
  | some x => simp only [optNat]; rw [ev_congr h]

theorem ap_congr {d : DOp} {σ σ' : St} {K : DV → Prop} (hl : σ.loc = σ'.loc) (h : ∀ t ∈ d.uses, look σ.env t = look σ'.env t) : ap P I d σ K = ap P I d σ' K := by
  cases d with
  | mv x | nilc x | isnil _ _ x | un _ x | cvt _ x | s2b x | b2s x | mki _ x | fa _ x | fld _ _ _ x | ta _ _ _ x | ext x _ | len _ x =>
    simp only [ap, ev_congr (x := x) h]
  | ld m g x => simp only [ap, ev_congr (x := x) h, hl]
  | pick c a b =>
    simp only [DOp.uses, List.mem_append] at h
    simp only [ap, ev_congr (x := c) fun t ht => h t (.inl (.inl ht)), ev_congr (x := a) fun t ht => h t (.inl (.inr ht)), ev_congr (x := b) fun t ht => h t (.inr ht)]
  | bin _ a b | beq _ a b | eqs _ _ a b | ixa _ a b | ixp _ _ a b | ixs a b | ixv _ _ _ a b =>
    simp only [DOp.uses, List.mem_append] at h
    simp only [ap, ev_congr (x := a) fun t ht => h t (.inl ht), ev_congr (x := b) fun t ht => h t (.inr ht)]
  | mkf f cs => simp only [ap, evs_congr (xs := cs) h]
  | bsl sz cs => simp only [ap, evs_congr (xs := cs) h]
  | call f cs => simp only [ap, evs_congr (xs := cs) h]
  | slS x lo hi =>
    simp only [DOp.uses, List.mem_append] at h
    simp only [ap, ev_congr (x := x) fun t ht => h t (.inl (.inl ht)), opt_congr (x := lo) fun t ht => h t (.inl (.inr ht)), opt_congr (x := hi) fun t ht => h t (.inr ht)]
  | slL sz x lo hi mx =>
    simp only [DOp.uses, List.mem_append] at h
    simp only [ap, ev_congr (x := x) fun t ht => h t (.inl (.inl (.inl ht))), opt_congr (x := lo) fun t ht => h t (.inl (.inl (.inr ht))), opt_congr (x := hi) fun t ht => h t (.inl (.inr ht)), opt_congr (x := mx) fun t ht => h t (.inr ht)]
  | mm mx x xs =>
    simp only [DOp.uses, List.mem_append] at h
    simp only [ap, ev_congr (x := x) fun t ht => h t (.inl ht), evs_congr (xs := xs) fun t ht => h t (.inr ht)]
  | inv m x xs =>
    simp only [DOp.uses, List.mem_append] at h
    simp only [ap, ev_congr (x := x) fun t ht => h t (.inl ht), evs_congr (xs := xs) fun t ht => h t (.inr ht)]
  | bld z ps =>
    have e : ∀ p ∈ ps, ev σ.env p.2.2 = ev σ'.env p.2.2 := fun p hp => ev_congr fun t ht => h t (by simp only [DOp.uses]; exact List.mem_flatMap.2 ⟨p, hp, ht⟩)
    have e1 : (ps.map fun p => (p.1, (ev σ.env p.2.2).cells)) = ps.map fun p => (p.1, (ev σ'.env p.2.2).cells) := List.map_congr_left fun p hp => by rw [e p hp]
    have e2 : ps.all (fun p => Nat.beq (ev σ.env p.2.2).cells.length p.2.1 && !(ev σ.env p.2.2).isU) = ps.all (fun p => Nat.beq (ev σ'.env p.2.2).cells.length p.2.1 && !(ev σ'.env p.2.2).isU) := by
      rw [Bool.eq_iff_iff, List.all_eq_true, List.all_eq_true]
      refine ⟨fun h p hp => ?_, fun h p hp => ?_⟩
      · rw [← e p hp]; exact h p hp
      · rw [e p hp]; exact h p hp
    simp only [ap, e1, e2]
  | _ => simp only [ap]

theorem opt_ex {env : List (Nat × DV)} {x : Option Opd} {m : Nat} {K : Nat → Prop} (h : optNat env x m K) : ∃ k, K k ∧ ∀ K' : Nat → Prop, K' k → optNat env x m K' := by
  cases x with
  | none => exact ⟨m, h, fun K' h => h⟩
  | some x =>
    simp only [optNat, asNat] at h ⊢
    split at h
    · exact ⟨_, h.2, fun K' h' => ⟨h.1, h'⟩⟩
    · exact h.elim

theorem ap_ex {d : DOp} {σ : St} {K : DV → Prop} (h : ap P I d σ K) : ∃ r, K r ∧ ap P I d σ (fun s => s = r) := by
  cases d with
  | mv x => exact ⟨_, h, rfl⟩
  | pick c a b =>
    simp only [ap] at h ⊢
    split at h
    · exact ⟨_, h, rfl⟩
    · exact h.elim
  | ld m g x =>
    simp only [ap] at h ⊢
    split at h
    · obtain ⟨cs, h1, h2, h3⟩ := h; exact ⟨_, h3, cs, h1, h2, rfl⟩
    · exact ⟨_, h.2, h.1, rfl⟩
    · exact h.elim
  | nilc x => exact ⟨_, h.2, h.1, rfl⟩
  | bin op x y =>
    simp only [ap] at h ⊢
    split at h
    · obtain ⟨r, h1, h2⟩ := h; exact ⟨_, h2, r, h1, rfl⟩
    · exact h.elim
  | beq n x y =>
    simp only [ap] at h ⊢
    split at h
    · exact ⟨_, h, rfl⟩
    · exact h.elim
  | isnil k n x => obtain ⟨t, h1, h2⟩ := h; exact ⟨_, h2, t, h1, rfl⟩
  | un op x =>
    simp only [ap] at h ⊢
    split at h
    · obtain ⟨r, h1, h2⟩ := h; exact ⟨_, h2, r, h1, rfl⟩
    · exact h.elim
  | cvt k x =>
    simp only [ap] at h ⊢
    split at h
    · obtain ⟨m, h1, h2⟩ := h; exact ⟨_, h2, m, h1, rfl⟩
    · exact h.elim
  | s2b x =>
    simp only [ap] at h ⊢
    split at h
    · exact ⟨_, h, rfl⟩
    · exact h.elim
  | b2s x => obtain ⟨l, ns, h1, h2, h3, h4⟩ := h; exact ⟨_, h4, l, ns, h1, h2, h3, rfl⟩
  | mki t x => exact ⟨_, h, rfl⟩
  | mkf f cs => exact ⟨_, h, rfl⟩
  | slS x lo hi =>
    simp only [ap] at h ⊢
    split at h
    · obtain ⟨l, h, hl⟩ := opt_ex h
      obtain ⟨k, h, hk⟩ := opt_ex h
      exact ⟨_, h.2.2, hl _ (hk _ ⟨h.1, h.2.1, rfl⟩)⟩
    · exact h.elim
  | slL sz x lo hi mx =>
    obtain ⟨l, h1, h2, h⟩ := h
    obtain ⟨m, h, hm⟩ := opt_ex h
    obtain ⟨k, h, hk⟩ := opt_ex h
    obtain ⟨q, h, hq⟩ := opt_ex h
    exact ⟨_, h.2.2.2, l, h1, h2, hm _ (hk _ (hq _ ⟨h.1, h.2.1, h.2.2.1, rfl⟩))⟩
  | fa off x =>
    simp only [ap] at h ⊢
    split at h
    · exact ⟨_, h, rfl⟩
    · exact ⟨_, h, rfl⟩
    · exact h.elim
  | fld off n g x => obtain ⟨cs, h1, h2, h3⟩ := h; exact ⟨_, h3, cs, h1, h2, rfl⟩
  | ixa sz x i =>
    simp only [ap, asNat] at h ⊢
    split at h
    · obtain ⟨h0, h⟩ := h
      split at h
      · obtain ⟨h1, h2, h3⟩ := h; exact ⟨_, h3, h0, h1, h2, rfl⟩
      · obtain ⟨l, d, h1, h2, h3, h4⟩ := h; exact ⟨_, h4, h0, l, d, h1, h2, h3, rfl⟩
    · exact h.elim
  | ixp len sz x i =>
    simp only [ap, asNat] at h ⊢
    split at h
    · obtain ⟨h0, h1, h⟩ := h
      split at h
      · exact ⟨_, h, h0, h1, rfl⟩
      · exact ⟨_, h, h0, h1, rfl⟩
      · exact h.elim
    · exact h.elim
  | ixs x i =>
    simp only [ap, asNat] at h ⊢
    split at h
    · split at h
      · obtain ⟨h0, h1, h2⟩ := h; exact ⟨_, h2, h0, h1, rfl⟩
      · exact h.elim
    · exact h.elim
  | ixv len n g x i =>
    simp only [ap, asNat] at h ⊢
    split at h
    · obtain ⟨h0, cs, h1, h2, h3, h4⟩ := h; exact ⟨_, h4, h0, cs, h1, h2, h3, rfl⟩
    · exact h.elim
  | ta t ok z x =>
    simp only [ap] at h ⊢
    split at h
    · exact ⟨_, h.2, h.1, rfl⟩
    · split at h
      · rename_i e; exact ⟨_, h, by rw [if_pos e]⟩
      · rename_i e; exact ⟨_, h.2, by rw [if_neg e]; exact ⟨h.1, rfl⟩⟩
    · split at h
      · rename_i e; exact ⟨_, h, by rw [if_pos e]⟩
      · rename_i e; exact ⟨_, h.2, by rw [if_neg e]; exact ⟨h.1, rfl⟩⟩
    · exact h.elim
  | ext x i =>
    simp only [ap] at h ⊢
    split at h
    · obtain ⟨d, h1, h2⟩ := h; exact ⟨_, h2, d, h1, rfl⟩
    · obtain ⟨d, h1, h2⟩ := h; exact ⟨_, h2, d, h1, rfl⟩
    · exact h.elim
  | len s x =>
    cases s
    · simp only [ap, Bool.false_eq_true, if_false] at h ⊢
      split at h
      · exact ⟨_, h, rfl⟩
      · obtain ⟨l, h1, h2⟩ := h; exact ⟨_, h2, l, h1, rfl⟩
    · simp only [ap, if_true] at h ⊢
      split at h
      · exact ⟨_, h, rfl⟩
      · exact h.elim
  | mm mx x xs =>
    simp only [ap] at h ⊢
    split at h
    · obtain ⟨bs, r, h1, h2, h3⟩ := h; exact ⟨_, h3, bs, r, h1, h2, rfl⟩
    · exact h.elim
  | bld z ps => obtain ⟨cs, h1, h2, h3⟩ := h; exact ⟨_, h3, cs, h1, h2, rfl⟩
  | bsl sz ps => obtain ⟨es, h1, h2, h3⟩ := h; exact ⟨_, h3, es, h1, h2, rfl⟩
  | call f xs => obtain ⟨es, r, h1, h2, h3⟩ := h; exact ⟨_, h3, es, r, h1, h2, rfl⟩
  | inv m x xs => obtain ⟨t, d, f, es, r, h1, h2, h3, h4, h5⟩ := h; exact ⟨_, h5, t, d, f, es, r, h1, h2, h3, h4, rfl⟩
  | eqs n ks x y =>
    simp only [ap] at h ⊢
    split at h
    · obtain ⟨b, h1, h2⟩ := h; exact ⟨_, h2, b, h1, rfl⟩
    · exact h.elim
  | _ => exact absurd h (by simp [ap])

variable {B : Base} {n : Nat}

def QS (I : Inv) (B : Base) (n : Nat) (L : Link) (W : World) (K : St → Prop) (a' : Act) (W' : World) : Prop :=
  ∃ L' σ', K σ' ∧ Fr I B L' W' n σ' a' ∧ Step (stab B L) L W (stab B L') L' W'

theorem dops_sound {ops : Array Oper} {L0 : Link} {W0 : World} {K : St → Prop} : ∀ (m k : Nat) (os : List Op1) (σ : St) (a : Act) (W : World) (L : Link), ops.size - k = m → cops P n ops (ops.toList.drop k) = some os → dops P I os σ K →
    Fr I B L W n σ a → Step (stab B L0) L0 W0 (stab B L) L W → wpOps P ops (fun e a' W' => e = .normal ∧ QS I B n L0 W0 K a' W') (List.range' k m) a W
  | 0, k, os, σ, a, W, L, hm, hc, h, fr, st => by
    have : ops.toList.drop k = [] := List.drop_eq_nil_of_le (by simp; omega)
    rw [this] at hc
    simp only [cops, Option.some.injEq] at hc
    subst hc
    exact ⟨rfl, L, σ, h, fr, st⟩
  | m + 1, k, os, σ, a, W, L, hm, hc, h, fr, st => by
    have hk : k < ops.size := by omega
    have hdrop : ops.toList.drop k = ops[k] :: ops.toList.drop (k + 1) := by rw [List.drop_eq_getElem_cons (by simpa using hk)]; simp
    rw [hdrop] at hc
    simp only [cops] at hc
    split at hc
    · rename_i o1 os' h1 h2
      simp only [Option.some.injEq] at hc
      subst hc
      simp only [List.range'_succ, wpOps, Array.getElem?_eq_getElem hk]
      rcases c1_wanted h1 fr h with ⟨hw, d, hd, _, hdop⟩ | ⟨hw, hK⟩
      · rw [if_pos hw]
        refine .inl ?_
        obtain ⟨r, σ', hk', he, ho⟩ := dop_sound hd hdop fr
        refine ho _ _ fun y L' W' k1 k2 k3 => ?_
        have fr' := fr.put k3 k2 k1 (c1_dst h1)
        rw [← he] at fr'
        exact dops_sound m (k + 1) os' _ _ W' L' (by omega) h2 hk' fr' (st.trans k3)
      · rw [if_neg (by rw [hw]; simp)]
        exact dops_sound m (k + 1) os' _ _ W L (by omega) h2 hK (fr.put (Step.refl _ _ _) fr.sim (.v _ _) (c1_dst h1)) st
    · cases hc

theorem reg_sound {ops : Array Oper} {os : List Op1} {id : Nat} {σ : St} {a : Act} {W : World} {L : Link} {K : St → Prop} (hc : cops P n ops ops.toList = some os) (h : dops P I os σ K) (fr : Fr I B L W n σ a) :
    (Code.region id ops false).wp P (fun e a' W' => e = .normal ∧ QS I B n L W K a' W') a W := by
  refine wp_region ?_
  rw [List.range_eq_range']
  exact dops_sound ops.size 0 os σ a W L (by omega) (by simpa using hc) h fr (Step.refl _ _ _)

end
end Go.Proofs.YtlbodfkhenkcjaaGreatDoor.D


namespace Go.Proofs.YtlbodfkhenkcjaaGreatDoor.D
open Go Go.RowKit

def deps (o : Oper) : List Nat := (o.after.toList.filter (Region.binds .any)).map (·.on)

def dedup : List Nat → List Nat → List Nat
  | [], acc => acc
  | x :: r, acc => if acc.contains x then dedup r acc else dedup r (x :: acc)

theorem dedup_mem : ∀ (l acc : List Nat) (x : Nat), x ∈ dedup l acc → x ∈ l ∨ x ∈ acc
  | [], _, _, h => .inr h
  | y :: r, acc, x, h => by
    simp only [dedup] at h
    split at h
    · rcases dedup_mem r acc x h with h | h
      · exact .inl (by simp [h])
      · exact .inr h
    · rcases dedup_mem r (y :: acc) x h with h | h
      · exact .inl (by simp [h])
      · rcases List.mem_cons.1 h with rfl | h
        · exact .inl (by simp)
        · exact .inr h

def ancs : List Oper → List (List Nat) → List (List Nat)
  | [], acc => acc
  | o :: r, acc => ancs r (acc ++ [dedup (deps o ++ (deps o).flatMap fun j => acc.getD j []) []])

def Closed (ops : List Oper) (S : Nat → Bool) : Prop := ∀ (i : Nat) (o : Oper), ops[i]? = some o → S i = true → ∀ j ∈ deps o, S j = true

theorem ancs_sound {all : List Oper} {S : Nat → Bool} (hS : Closed all S) : ∀ (r : List Oper) (acc : List (List Nat)), all.drop acc.length = r → (∀ (k : Nat) (o : Oper) (l : List Nat), all[k]? = some o → acc[k]? = some l → (∀ j ∈ deps o, S j = true) → ∀ j ∈ l, S j = true) →
    ∀ (k : Nat) (o : Oper) (l : List Nat), all[k]? = some o → (ancs r acc)[k]? = some l → (∀ j ∈ deps o, S j = true) → ∀ j ∈ l, S j = true
  | [], acc, _, h => by simpa only [ancs] using h
  | o :: r, acc, hd, h => by
    simp only [ancs]
    refine ancs_sound hS r _ ?_ ?_
    · have := congrArg List.tail hd
      simpa [List.tail_drop] using this
    · intro k o' l hk hl hj j hjl
      rw [List.getElem?_append] at hl
      split at hl
      · exact h k o' l hk hl hj j hjl
      · rename_i hge
        have hk' : k = acc.length ∧ l = dedup (deps o ++ (deps o).flatMap fun j => acc.getD j []) [] := by
          cases hq : k - acc.length with
          | zero => rw [hq] at hl; exact ⟨by omega, by simpa using hl.symm⟩
          | succ m => rw [hq] at hl; simp at hl
        obtain ⟨rfl, rfl⟩ := hk'
        have ho : o' = o := by
          have := congrArg List.head? hd
          rw [List.head?_drop, hk] at this
          simpa using this
        subst ho
        rcases dedup_mem _ _ _ hjl with hm | hm
        · rcases List.mem_append.1 hm with hm | hm
          · exact hj j hm
          · obtain ⟨i, hi, him⟩ := List.mem_flatMap.1 hm
            have hSi := hj i hi
            rcases Nat.lt_or_ge i acc.length with hlt | hge
            · have hai : acc[i]? = some (acc.getD i []) := by simp [hlt]
              have hlen : i < all.length := by
                rcases Nat.lt_or_ge i all.length with h' | h'
                · exact h'
                · have : acc.length < all.length := (List.getElem?_eq_some_iff.1 hk).1
                  omega
              exact h i _ _ (List.getElem?_eq_getElem hlen) hai (hS i _ (List.getElem?_eq_getElem hlen) hSi) j him
            · simp [List.getD, List.getElem?_eq_none hge] at him
        · simp at hm


inductive Eff where
  | none
  | new (cs : List DV)
  | set (k : Nat) (cs : List DV)
  | ow (id N : Nat)
  | own (N : Nat)
  | all (l : List (List DV)) (o : List Nat)

def Eff.loc (e : Eff) (l : List (List DV)) : List (List DV) :=
  match e with
  | .new cs => l ++ [cs]
  | .set k cs => l.set k cs
  | .all l' _ => l'
  | _ => l

def Eff.lens (e : Eff) (l : List Nat) : List Nat :=
  match e with
  | .ow id N => l.set id N
  | .own N => l ++ [N]
  | .all _ o => o
  | _ => l

def Op1.reads (o : Op1) : List Nat := o.op.uses ++ (match o.grd with | some (g, _) => [g] | none => [])

theorem look_put {env : List (Nat × DV)} {dst : Option Nat} {r : DV} {t : Nat} : look (putE env dst r) t = if dst = some t then r else look env t := by
  cases dst with
  | none => simp [putE]
  | some k =>
    simp only [putE, look_cons, Option.some.injEq]
    by_cases h : t = k
    · subst h; simp
    · rw [if_neg h, if_neg (fun e => h e.symm)]

section
variable {P : Program} {I : Inv}

def resCall (P : Program) (I : Inv) (f : FuncId) (args : List DV) (σ : St) (r : DV) (e : Eff) : Prop :=
  (e = .none ∧ ∃ es, WkL args es ∧ DPure P I f es r) ∨ ∃ loc' ow', DEff P I f args σ.loc σ.ow r loc' ow' ∧ e = .all loc' ow'

theorem resCall_of {f : FuncId} {args : List DV} {σ : St} {K : DV → St → Prop} (h : doCall P I f args σ K) : ∃ r e, resCall P I f args σ r e ∧ K r ⟨σ.env, e.loc σ.loc, e.lens σ.ow⟩ := by
  rcases h with ⟨es, r, h1, h2, h3⟩ | ⟨r, l, w, h1, h2⟩
  · exact ⟨r, .none, .inl ⟨rfl, es, h1, h2⟩, h3⟩
  · exact ⟨r, .all l w, .inr ⟨l, w, h1, rfl⟩, h2⟩

theorem doCall_of {f : FuncId} {args : List DV} {σ : St} {r : DV} {e : Eff} {K : DV → St → Prop} (h : resCall P I f args σ r e) (hk : K r ⟨σ.env, e.loc σ.loc, e.lens σ.ow⟩) : doCall P I f args σ K := by
  rcases h with ⟨rfl, es, h1, h2⟩ | ⟨l, w, h1, rfl⟩
  · exact .inl ⟨es, r, h1, h2, hk⟩
  · exact .inr ⟨r, l, w, h1, hk⟩

def res0 (P : Program) (I : Inv) (d : DOp) (σ : St) (r : DV) (e : Eff) : Prop :=
  match d with
  | .box x => (ev σ.env x).isU = false ∧ r = .lp σ.loc.length 0 ∧ e = .new (ev σ.env x).cells
  | .zero z => r = .lp σ.loc.length 0 ∧ e = .new (DV.v z).cells
  | .st n a x => ∃ k off cs, ev σ.env a = .lp k off ∧ σ.loc[k]? = some cs ∧ (Nat.ble (off + n) cs.length && (Nat.beq (ev σ.env x).cells.length n && (ev σ.env x).cells.all DV.one)) = true ∧
      r = .v undef ∧ e = .set k (cs.take off ++ (ev σ.env x).cells ++ cs.drop (off + n))
  | .app t sz bytes s x => ∃ xs, elems (ev σ.env x) = some xs ∧ fitsSz sz (ev σ.env x) = true ∧
      ((∃ id l, ev σ.env s = .own id t sz l ∧ σ.ow[id]? = some (l.length * sz) ∧ (l.length + xs.length) * bytes ≤ 140737488355328 ∧ r = .own id t sz (l ++ xs) ∧ e = .ow id ((l.length + xs.length) * sz)) ∨
       (∃ l, ev σ.env s = .full sz l ∧ xs.isEmpty = false ∧ (l.length + xs.length) * bytes ≤ 140737488355328 ∧ r = .own σ.ow.length t sz (l ++ xs) ∧ e = .own ((l.length + xs.length) * sz)) ∨
       (ev σ.env s = .v (.slice none 0 0) ∧ xs.length * bytes ≤ 140737488355328 ∧ r = .own σ.ow.length t sz xs ∧ e = .own (xs.length * sz)) ∨
       (∃ l, ev σ.env s = .full sz l ∧ xs = [] ∧ r = .full sz l ∧ e = .none))
  | .calle f args => resCall P I f (args.map (ev σ.env)) σ r e
  | .callv x args => ∃ f cs, asFn (ev σ.env x) = some (f, cs) ∧ resCall P I f (args.map (ev σ.env) ++ cs) σ r e
  | d => ap P I d σ (fun s => s = r) ∧ e = .none

def res1 (P : Program) (I : Inv) (o : Op1) (σ : St) (r : DV) (e : Eff) : Prop :=
  match o.grd with
  | none => res0 P I o.op σ r e
  | some (g, want) => match look σ.env g with
    | .v (.bool b) => if b = want then res0 P I o.op σ r e else r = .v undef ∧ e = .none
    | .v (.tuple _) => r = .v undef ∧ e = .none
    | _ => False

def after (o : Op1) (σ : St) (r : DV) (e : Eff) : St := ⟨putE σ.env o.dst r, e.loc σ.loc, e.lens σ.ow⟩

theorem res0_of {d : DOp} {σ : St} {K : DV → St → Prop} (h : dop P I d σ K) : ∃ r e, res0 P I d σ r e ∧ K r ⟨σ.env, e.loc σ.loc, e.lens σ.ow⟩ := by
  have plain : (∀ r e, res0 P I d σ r e = (ap P I d σ (fun s => s = r) ∧ e = .none)) → ap P I d σ (fun r => K r σ) → ∃ r e, res0 P I d σ r e ∧ K r ⟨σ.env, e.loc σ.loc, e.lens σ.ow⟩ := by
    intro he h
    obtain ⟨r, h1, h2⟩ := ap_ex h
    exact ⟨r, .none, by rw [he]; exact ⟨h2, rfl⟩, h1⟩
  cases d with
  | box x => exact ⟨_, _, ⟨h.1, rfl, rfl⟩, h.2⟩
  | zero z => exact ⟨_, _, ⟨rfl, rfl⟩, h⟩
  | st n a x =>
    simp only [dop] at h
    split at h
    · rename_i k off hk
      obtain ⟨cs, h1, h2, h5⟩ := h
      exact ⟨_, _, ⟨k, off, cs, hk, h1, h2, rfl, rfl⟩, h5⟩
    · exact h.elim
  | app t sz bytes s x =>
    obtain ⟨xs, h1, h2, h⟩ := h
    split at h
    · rename_i id e' sz' l hl
      obtain ⟨rfl, rfl, q1, q2, q3⟩ := h
      exact ⟨_, .ow id ((l.length + xs.length) * sz'), ⟨xs, h1, h2, .inl ⟨id, l, hl, q1, q2, rfl, rfl⟩⟩, q3⟩
    · rename_i sz' l hl
      obtain ⟨rfl, ⟨q1, q2, q3⟩ | ⟨q1, q3⟩⟩ := h
      · exact ⟨_, .own ((l.length + xs.length) * sz'), ⟨xs, h1, h2, .inr (.inl ⟨l, hl, q1, q2, rfl, rfl⟩)⟩, q3⟩
      · exact ⟨_, .none, ⟨xs, h1, h2, .inr (.inr (.inr ⟨l, hl, q1, rfl, rfl⟩))⟩, q3⟩
    · rename_i hl
      exact ⟨_, .own (xs.length * sz), ⟨xs, h1, h2, .inr (.inr (.inl ⟨hl, h.1, rfl, rfl⟩))⟩, h.2⟩
    · exact h.elim
  | calle f args =>
    obtain ⟨r, e, h1, h2⟩ := resCall_of h
    exact ⟨r, e, h1, h2⟩
  | callv x args =>
    obtain ⟨f, cs, hf, h⟩ := h
    obtain ⟨r, e, h1, h2⟩ := resCall_of h
    exact ⟨r, e, ⟨f, cs, hf, h1⟩, h2⟩
  | _ => exact plain (fun _ _ => rfl) h

theorem opt_mono {env : List (Nat × DV)} {x : Option Opd} {m : Nat} {K K' : Nat → Prop} (h : optNat env x m K) (hk : ∀ k, K k → K' k) : optNat env x m K' := by
  cases x with
  | none => exact hk _ h
  | some x =>
    simp only [optNat, asNat] at h ⊢
    split at h
    · exact ⟨h.1, hk _ h.2⟩
    · exact h.elim

theorem ap_mono {d : DOp} {σ : St} {K K' : DV → Prop} (h : ap P I d σ K) (hk : ∀ r, K r → K' r) : ap P I d σ K' := by
  cases d with
  | mv x => exact hk _ h
  | pick c a b | beq c a b | fa off x =>
    simp only [ap] at h ⊢
    split at h <;> first | exact hk _ h | exact h.elim
  | ld m g x =>
    simp only [ap] at h ⊢
    split at h
    · obtain ⟨cs, h1, h2, h3⟩ := h; exact ⟨cs, h1, h2, hk _ h3⟩
    · exact ⟨h.1, hk _ h.2⟩
    · exact h.elim
  | nilc x => exact ⟨h.1, hk _ h.2⟩
  | cvt k x =>
    simp only [ap] at h ⊢
    split at h
    · obtain ⟨m, h1, h2⟩ := h; exact ⟨m, h1, hk _ h2⟩
    · exact h.elim
  | bin op x y | un op x =>
    simp only [ap] at h ⊢
    split at h
    · obtain ⟨r, h1, h2⟩ := h; exact ⟨r, h1, hk _ h2⟩
    · exact h.elim
  | isnil k n x => obtain ⟨t, h1, h2⟩ := h; exact ⟨t, h1, hk _ h2⟩
  | s2b x =>
    simp only [ap] at h ⊢
    split at h
    · exact hk _ h
    · exact h.elim
  | b2s x => obtain ⟨l, ns, h1, h2, h3, h4⟩ := h; exact ⟨l, ns, h1, h2, h3, hk _ h4⟩
  | mki t x => exact hk _ h
  | mkf f cs => exact hk _ h
  | slS x lo hi =>
    simp only [ap] at h ⊢
    split at h
    · exact opt_mono h fun l h => opt_mono h fun k h => ⟨h.1, h.2.1, hk _ h.2.2⟩
    · exact h.elim
  | slL sz x lo hi mx =>
    obtain ⟨l, h1, h2, h⟩ := h
    exact ⟨l, h1, h2, opt_mono h fun m h => opt_mono h fun k h => opt_mono h fun q h => ⟨h.1, h.2.1, h.2.2.1, hk _ h.2.2.2⟩⟩
  | fld off n g x => obtain ⟨cs, h1, h2, h3⟩ := h; exact ⟨cs, h1, h2, hk _ h3⟩
  | ixa sz x i =>
    simp only [ap, asNat] at h ⊢
    split at h
    · obtain ⟨h0, h⟩ := h
      refine ⟨h0, ?_⟩
      split at h
      · obtain ⟨h1, h2, h3⟩ := h; exact ⟨h1, h2, hk _ h3⟩
      · obtain ⟨l, d, h1, h2, h3, h4⟩ := h; exact ⟨l, d, h1, h2, h3, hk _ h4⟩
    · exact h.elim
  | ixp len sz x i =>
    simp only [ap, asNat] at h ⊢
    split at h
    · obtain ⟨h0, h1, h⟩ := h
      refine ⟨h0, h1, ?_⟩
      split at h <;> first | exact hk _ h | exact h.elim
    · exact h.elim
  | ixs x i =>
    simp only [ap, asNat] at h ⊢
    split at h
    · split at h
      · obtain ⟨h0, h1, h2⟩ := h; exact ⟨h0, h1, hk _ h2⟩
      · exact h.elim
    · exact h.elim
  | ixv len n g x i =>
    simp only [ap, asNat] at h ⊢
    split at h
    · obtain ⟨h0, cs, h1, h2, h3, h4⟩ := h; exact ⟨h0, cs, h1, h2, h3, hk _ h4⟩
    · exact h.elim
  | ta t ok z x =>
    simp only [ap] at h ⊢
    split at h
    · exact ⟨h.1, hk _ h.2⟩
    · split at h
      · rename_i e; rw [if_pos e]; exact hk _ h
      · rename_i e; rw [if_neg e]; exact ⟨h.1, hk _ h.2⟩
    · split at h
      · rename_i e; rw [if_pos e]; exact hk _ h
      · rename_i e; rw [if_neg e]; exact ⟨h.1, hk _ h.2⟩
    · exact h.elim
  | ext x i =>
    simp only [ap] at h ⊢
    split at h
    · obtain ⟨d, h1, h2⟩ := h; exact ⟨d, h1, hk _ h2⟩
    · obtain ⟨d, h1, h2⟩ := h; exact ⟨d, h1, hk _ h2⟩
    · exact h.elim
  | len s x =>
    cases s
    · simp only [ap, Bool.false_eq_true, if_false] at h ⊢
      split at h
      · exact hk _ h
      · obtain ⟨l, h1, h2⟩ := h; exact ⟨l, h1, hk _ h2⟩
    · simp only [ap, if_true] at h ⊢
      split at h
      · exact hk _ h
      · exact h.elim
  | mm mx x xs =>
    simp only [ap] at h ⊢
    split at h
    · obtain ⟨bs, r, h1, h2, h3⟩ := h; exact ⟨bs, r, h1, h2, hk _ h3⟩
    · exact h.elim
  | bld z ps => obtain ⟨cs, h1, h2, h3⟩ := h; exact ⟨cs, h1, h2, hk _ h3⟩
  | bsl sz ps => obtain ⟨es, h1, h2, h3⟩ := h; exact ⟨es, h1, h2, hk _ h3⟩
  | call f xs => obtain ⟨es, r, h1, h2, h3⟩ := h; exact ⟨es, r, h1, h2, hk _ h3⟩
  | inv m x xs => obtain ⟨t, d, f, es, r, h1, h2, h3, h4, h5⟩ := h; exact ⟨t, d, f, es, r, h1, h2, h3, h4, hk _ h5⟩
  | eqs n ks x y =>
    simp only [ap] at h ⊢
    split at h
    · obtain ⟨b, h1, h2⟩ := h; exact ⟨b, h1, hk _ h2⟩
    · exact h.elim
  | _ => exact absurd h (by simp [ap])

theorem dop_of {d : DOp} {σ : St} {r : DV} {e : Eff} {K : DV → St → Prop} (h : res0 P I d σ r e) (hk : K r ⟨σ.env, e.loc σ.loc, e.lens σ.ow⟩) : dop P I d σ K := by
  have plain : (ap P I d σ (fun s => s = r) ∧ e = .none) → ap P I d σ (fun r => K r σ) := by
    rintro ⟨h', e'⟩
    subst e'
    exact ap_mono h' fun s hs => by subst hs; exact hk
  cases d with
  | box x =>
    obtain ⟨h1, rfl, rfl⟩ := h
    exact ⟨h1, hk⟩
  | zero z =>
    obtain ⟨rfl, rfl⟩ := h
    exact hk
  | st n a x =>
    obtain ⟨k, off, cs, h1, h2, h3, rfl, rfl⟩ := h
    simp only [dop, h1]
    exact ⟨cs, h2, h3, hk⟩
  | app t sz bytes s x =>
    obtain ⟨xs, h1, h2, h⟩ := h
    refine ⟨xs, h1, h2, ?_⟩
    rcases h with ⟨id, l, q1, q2, q3, rfl, rfl⟩ | ⟨l, q1, q2, q3, rfl, rfl⟩ | ⟨q1, q2, rfl, rfl⟩ | ⟨l, q1, q2, rfl, rfl⟩
    · rw [q1]; exact ⟨rfl, rfl, q2, q3, hk⟩
    · rw [q1]; exact ⟨rfl, .inl ⟨q2, q3, hk⟩⟩
    · rw [q1]; exact ⟨q2, hk⟩
    · rw [q1]; exact ⟨rfl, .inr ⟨q2, hk⟩⟩
  | calle f args => exact doCall_of h hk
  | callv x args =>
    obtain ⟨f, cs, hf, h⟩ := h
    exact ⟨f, cs, hf, doCall_of h hk⟩
  | _ => exact plain h

theorem dop1_iff {o : Op1} {σ : St} {K : St → Prop} : dop1 P I o σ K ↔ ∃ r e, res1 P I o σ r e ∧ K (after o σ r e) := by
  constructor
  · intro h
    simp only [dop1] at h
    split at h
    · rename_i hg
      obtain ⟨r, e, h1, h2⟩ := res0_of h
      exact ⟨r, e, by simp only [res1, hg]; exact h1, h2⟩
    · rename_i g w hg
      split at h
      · rename_i b hb
        split at h
        · rename_i hbw
          obtain ⟨r, e, h1, h2⟩ := res0_of h
          exact ⟨r, e, by simp only [res1, hg, hb]; rw [if_pos hbw]; exact h1, h2⟩
        · rename_i hbw
          exact ⟨.v undef, .none, by simp [res1, hg, hb, hbw], h⟩
      · rename_i hb
        exact ⟨.v undef, .none, by simp [res1, hg, hb], h⟩
      · exact h.elim
  · rintro ⟨r, e, h, hk⟩
    simp only [dop1]
    unfold res1 at h
    split at h
    · rename_i hg
      rw [hg]
      exact dop_of h hk
    · rename_i g w hg
      rw [hg]
      split at h
      · rename_i b hb
        simp only [hb]
        split at h
        · rename_i hbw
          rw [if_pos hbw]
          exact dop_of h hk
        · rename_i hbw
          obtain ⟨rfl, rfl⟩ := h
          rw [if_neg hbw]
          exact hk
      · rename_i hb
        obtain ⟨rfl, rfl⟩ := h
        simp only [hb]
        exact hk
      · exact h.elim

def Alike (σ σ' : St) : Prop := (∀ t, look σ.env t = look σ'.env t) ∧ σ.loc = σ'.loc ∧ σ.ow = σ'.ow

theorem Alike.symm {σ σ' : St} (h : Alike σ σ') : Alike σ' σ := ⟨fun t => (h.1 t).symm, h.2.1.symm, h.2.2.symm⟩
theorem Alike.trans {σ σ' σ'' : St} (h : Alike σ σ') (k : Alike σ' σ'') : Alike σ σ'' := ⟨fun t => (h.1 t).trans (k.1 t), h.2.1.trans k.2.1, h.2.2.trans k.2.2⟩

def Sees (d : DOp) (σ σ' : St) : Prop :=
  match d with
  | .ld _ _ a | .st _ a _ => ∀ k off, ev σ.env a = .lp k off → σ.loc[k]? = σ'.loc[k]?
  | .box _ | .zero _ => σ.loc.length = σ'.loc.length
  | .app _ _ _ _ _ => σ.ow = σ'.ow
  | .calle _ _ | .callv _ _ => σ.loc = σ'.loc ∧ σ.ow = σ'.ow
  | _ => True

theorem res0_congr {d : DOp} {σ σ' : St} {r : DV} {e : Eff} (h : ∀ t ∈ d.uses, look σ.env t = look σ'.env t) (hs : Sees d σ σ') (hr : res0 P I d σ r e) : res0 P I d σ' r e := by
  have plain : d.neutral = true → (∀ m g x, d ≠ .ld m g x) → ap P I d σ (fun s => s = r) → ap P I d σ' (fun s => s = r) := by
    intro hn hl ha
    have e1 : ap P I d σ (fun s => s = r) = ap P I d ⟨σ.env, σ'.loc, σ'.ow⟩ (fun s => s = r) := by
      cases d <;> first | rfl | (exact absurd rfl (hl _ _ _)) | (simp [DOp.neutral] at hn)
    rw [e1] at ha
    rw [← ap_congr (σ := ⟨σ.env, σ'.loc, σ'.ow⟩) (σ' := σ') rfl h]
    exact ha
  cases d with
  | ld m g x =>
    obtain ⟨ha, he⟩ := hr
    refine ⟨?_, he⟩
    have hx : ev σ.env x = ev σ'.env x := ev_congr h
    simp only [ap, ← hx] at ha ⊢
    split at ha
    · rename_i k off hk
      obtain ⟨cs, h1, h2⟩ := ha
      exact ⟨cs, by rw [← hs k off hk]; exact h1, h2⟩
    · exact ha
    · exact ha.elim
  | st m x y =>
    simp only [DOp.uses, List.mem_append] at h
    have hx : ev σ.env x = ev σ'.env x := ev_congr fun t ht => h t (.inl ht)
    have hy : ev σ.env y = ev σ'.env y := ev_congr fun t ht => h t (.inr ht)
    obtain ⟨k, off, cs, h1, h2, h3, h4, h5⟩ := hr
    have := hs k off h1
    simp only [res0, ← hx, ← hy]
    exact ⟨k, off, cs, h1, by rw [← this]; exact h2, h3, h4, h5⟩
  | box x =>
    have hx : ev σ.env x = ev σ'.env x := ev_congr h
    obtain ⟨h1, h2, h3⟩ := hr
    simp only [Sees] at hs
    simp only [res0, ← hx, ← hs]
    exact ⟨h1, h2, h3⟩
  | zero z =>
    obtain ⟨h1, h2⟩ := hr
    simp only [Sees] at hs
    simp only [res0, ← hs]
    exact ⟨h1, h2⟩
  | app t sz bytes s x =>
    simp only [DOp.uses, List.mem_append] at h
    have hs' : ev σ.env s = ev σ'.env s := ev_congr fun t ht => h t (.inl ht)
    have hx : ev σ.env x = ev σ'.env x := ev_congr fun t ht => h t (.inr ht)
    simp only [Sees] at hs
    simp only [res0, ← hx, ← hs', ← hs]
    exact hr
  | calle f args =>
    have e1 : args.map (ev σ.env) = args.map (ev σ'.env) := evs_congr h
    obtain ⟨q1, q2⟩ := hs
    simp only [res0, resCall, ← e1, ← q1, ← q2]
    exact hr
  | callv x args =>
    simp only [DOp.uses, List.mem_append] at h
    have hx : ev σ.env x = ev σ'.env x := ev_congr fun t ht => h t (.inl ht)
    have e1 : args.map (ev σ.env) = args.map (ev σ'.env) := evs_congr fun t ht => h t (.inr ht)
    obtain ⟨q1, q2⟩ := hs
    simp only [res0, resCall, ← hx, ← e1, ← q1, ← q2]
    exact hr
  | _ => exact ⟨plain rfl (by intros; simp) hr.1, hr.2⟩

theorem sees_symm {d : DOp} {σ σ' : St} (h : ∀ t ∈ d.uses, look σ'.env t = look σ.env t) (hs : Sees d σ' σ) : Sees d σ σ' := by
  cases d with
  | ld m g x =>
    intro k off hk
    exact (hs k off (by rw [ev_congr (x := x) h]; exact hk)).symm
  | st m x y =>
    intro k off hk
    exact (hs k off (by rw [ev_congr (x := x) fun t ht => h t (by simp [DOp.uses, ht])]; exact hk)).symm
  | box x => exact hs.symm
  | zero z => exact hs.symm
  | app t sz bytes s x => exact hs.symm
  | calle f xs => exact ⟨hs.1.symm, hs.2.symm⟩
  | callv x xs => exact ⟨hs.1.symm, hs.2.symm⟩
  | _ => trivial

theorem res1_congr {o : Op1} {σ σ' : St} {r : DV} {e : Eff} (h : ∀ t ∈ o.reads, look σ.env t = look σ'.env t) (hs : res0 P I o.op σ r e → Sees o.op σ σ') (hr : res1 P I o σ r e) : res1 P I o σ' r e := by
  have h0 : res0 P I o.op σ r e → res0 P I o.op σ' r e := fun hr => res0_congr (fun t ht => h t (by simp [Op1.reads, ht])) (hs hr) hr
  unfold res1 at hr ⊢
  split at hr
  · exact h0 hr
  · rename_i g w hg
    have : look σ.env g = look σ'.env g := h g (by simp [Op1.reads, hg])
    rw [← this]
    split at hr
    · split at hr
      · rename_i e1; rw [if_pos e1]; exact h0 hr
      · rename_i e1; rw [if_neg e1]; exact hr
    · exact hr
    · exact hr.elim

theorem Alike.sees {σ σ' : St} (h : Alike σ σ') (d : DOp) : Sees d σ σ' := by
  cases d <;> simp [Sees, h.2.1, h.2.2]

theorem Alike.after {σ σ' : St} (h : Alike σ σ') (o : Op1) (r : DV) (e : Eff) : Alike (after o σ r e) (after o σ' r e) :=
  ⟨fun t => by simp only [D.after, look_put, h.1 t], by simp [D.after, h.2.1], by simp [D.after, h.2.2]⟩

def Up (K : St → Prop) (σ : St) : Prop := ∃ σ', Alike σ σ' ∧ K σ'

theorem dops_alike {K : St → Prop} : ∀ {os : List Op1} {σ σ' : St}, dops P I os σ (Up K) → Alike σ σ' → dops P I os σ' (Up K)
  | [], σ, σ', h, ha => by
    obtain ⟨τ, h1, h2⟩ := h
    exact ⟨τ, ha.symm.trans h1, h2⟩
  | o :: os, σ, σ', h, ha => by
    simp only [dops] at h ⊢
    rw [dop1_iff] at h ⊢
    obtain ⟨r, e, h1, h2⟩ := h
    exact ⟨r, e, res1_congr (fun t _ => ha.1 t) (fun _ => ha.sees _) h1, dops_alike h2 (ha.after o r e)⟩

def DOp.isNew : DOp → Bool
  | .box _ | .zero _ => true
  | _ => false
def DOp.isSt : DOp → Bool
  | .st _ _ _ => true
  | _ => false
def DOp.isLd : DOp → Bool
  | .ld _ _ _ => true
  | _ => false
def DOp.isApp : DOp → Bool
  | .app _ _ _ _ _ => true
  | _ => false

def DOp.isAny : DOp → Bool
  | .calle _ _ | .callv _ _ => true
  | _ => false
def DOp.touches (d : DOp) : Bool := d.isNew || d.isSt || d.isLd || d.isApp || d.isAny

def apart (a b : Op1) : Bool :=
  (match a.dst with | some t => !b.reads.contains t && !(b.dst == some t) | none => true) && (match b.dst with | some t => !a.reads.contains t | none => true) &&
  !(a.op.isNew && b.op.isNew) && !(a.op.isSt && (b.op.isSt || b.op.isLd)) && !(b.op.isSt && (a.op.isSt || a.op.isLd)) && !(a.op.isApp && b.op.isApp) && (!(a.op.isAny && b.op.touches) && !(b.op.isAny && a.op.touches))

def Sound (o : Op1) (σ : St) : Prop := ∀ a, (∃ m g, o.op = .ld m g a) ∨ (∃ m x, o.op = .st m a x) → ∀ k off, ev σ.env a = .lp k off → k < σ.loc.length

theorem eff_kind {o : Op1} {σ : St} {r : DV} {e : Eff} (h : res1 P I o σ r e) : (∀ cs, e = .new cs → o.op.isNew = true) ∧ (∀ k cs, e = .set k cs → o.op.isSt = true ∧ k < σ.loc.length) ∧ (∀ id N, e = .ow id N → o.op.isApp = true) ∧ (∀ N, e = .own N → o.op.isApp = true) ∧ (∀ l w, e = .all l w → o.op.isAny = true) := by
  have h0 : res0 P I o.op σ r e → (∀ cs, e = .new cs → o.op.isNew = true) ∧ (∀ k cs, e = .set k cs → o.op.isSt = true ∧ k < σ.loc.length) ∧ (∀ id N, e = .ow id N → o.op.isApp = true) ∧ (∀ N, e = .own N → o.op.isApp = true) ∧ (∀ l w, e = .all l w → o.op.isAny = true) := by
    intro h
    cases hq : o.op with
    | box x => rw [hq] at h; obtain ⟨_, _, rfl⟩ := h; simp [DOp.isNew]
    | zero z => rw [hq] at h; obtain ⟨_, rfl⟩ := h; simp [DOp.isNew]
    | st n a x =>
      rw [hq] at h
      obtain ⟨k, off, cs, _, h2, _, _, rfl⟩ := h
      simp [DOp.isSt]
      exact (List.getElem?_eq_some_iff.1 h2).1
    | app t sz bytes s x =>
      rw [hq] at h
      obtain ⟨xs, _, _, ⟨id, l, _, _, _, _, rfl⟩ | ⟨l, _, _, _, _, rfl⟩ | ⟨_, _, _, rfl⟩ | ⟨l, _, _, _, rfl⟩⟩ := h <;> simp [DOp.isApp]
    | calle f args =>
      rw [hq] at h
      rcases h with ⟨rfl, _⟩ | ⟨l, w, _, rfl⟩ <;> simp [DOp.isAny]
    | callv x args =>
      rw [hq] at h
      obtain ⟨f, cs, _, h⟩ := h
      rcases h with ⟨rfl, _⟩ | ⟨l, w, _, rfl⟩ <;> simp [DOp.isAny]
    | _ => rw [hq] at h; obtain ⟨_, rfl⟩ := h; simp
  unfold res1 at h
  split at h
  · exact h0 h
  · split at h
    · split at h
      · exact h0 h
      · obtain ⟨_, rfl⟩ := h; simp
    · obtain ⟨_, rfl⟩ := h; simp
    · exact h.elim

theorem sees_after {a b : Op1} {σ : St} {r : DV} {e : Eff} (h : apart a b = true) (ha : res1 P I a σ r e) (hb : Sound b σ) (d : List (Nat × DV)) (hd : ∀ t ∈ b.reads, look d t = look σ.env t) : Sees b.op ⟨d, e.loc σ.loc, e.lens σ.ow⟩ σ := by
  simp only [apart, Bool.and_eq_true, Bool.not_eq_true', Bool.and_eq_false_iff, Bool.or_eq_false_iff] at h
  obtain ⟨⟨⟨⟨⟨⟨_, _⟩, h3⟩, h4⟩, h5⟩, h6⟩, h7, h8⟩ := h
  obtain ⟨k1, k2, k3, k4, k5⟩ := eff_kind ha
  have hall : ∀ l w, e = .all l w → b.op.touches = true → False := by
    intro l w he ht
    have := k5 l w he
    rw [this, ht] at h7
    simp at h7
  have hany : b.op.isAny = true → e ≠ .none → False := by
    intro hb he
    rw [hb] at h8
    have : a.op.touches = true := by
      cases e with
      | none => exact absurd rfl he
      | new cs => simp [DOp.touches, k1 cs rfl]
      | set k cs => simp [DOp.touches, (k2 k cs rfl).1]
      | ow id N => simp [DOp.touches, k3 id N rfl]
      | own N => simp [DOp.touches, k4 N rfl]
      | all l w => simp [DOp.touches, k5 l w rfl]
    rw [this] at h8
    simp at h8
  cases hq : b.op with
  | ld m g x =>
    intro k off hk
    have hx : ev d x = ev σ.env x := ev_congr fun t ht => hd t (by simp [Op1.reads, hq, DOp.uses, ht])
    have hkk := hb x (.inl ⟨m, g, hq⟩) k off (by rw [← hx]; exact hk)
    have e1 : b.op.isLd = true := by rw [hq]; rfl
    cases e with
    | new cs => simp only [Eff.loc]; rw [List.getElem?_append_left hkk]
    | set j cs => have := (k2 j cs rfl).1; simp [e1, this] at h4
    | all l w => exact (hall l w rfl (by simp [DOp.touches, e1])).elim
    | _ => rfl
  | st m x y =>
    intro k off hk
    have hx : ev d x = ev σ.env x := ev_congr fun t ht => hd t (by simp [Op1.reads, hq, DOp.uses, ht])
    have hkk := hb x (.inr ⟨m, y, hq⟩) k off (by rw [← hx]; exact hk)
    have e1 : b.op.isSt = true := by rw [hq]; rfl
    cases e with
    | new cs => simp only [Eff.loc]; rw [List.getElem?_append_left hkk]
    | set j cs => have := (k2 j cs rfl).1; simp [e1, this] at h4
    | all l w => exact (hall l w rfl (by simp [DOp.touches, e1])).elim
    | _ => rfl
  | box x =>
    have e1 : b.op.isNew = true := by rw [hq]; rfl
    cases e with
    | new cs => have := k1 cs rfl; simp [e1, this] at h3
    | set j cs => simp [Sees, Eff.loc]
    | all l w => exact (hall l w rfl (by simp [DOp.touches, e1])).elim
    | _ => rfl
  | zero z =>
    have e1 : b.op.isNew = true := by rw [hq]; rfl
    cases e with
    | new cs => have := k1 cs rfl; simp [e1, this] at h3
    | set j cs => simp [Sees, Eff.loc]
    | all l w => exact (hall l w rfl (by simp [DOp.touches, e1])).elim
    | _ => rfl
  | app t sz bytes s x =>
    have e1 : b.op.isApp = true := by rw [hq]; rfl
    cases e with
    | ow id N => have := k3 id N rfl; simp [e1, this] at h6
    | own N => have := k4 N rfl; simp [e1, this] at h6
    | all l w => exact (hall l w rfl (by simp [DOp.touches, e1])).elim
    | _ => rfl
  | calle f xs =>
    have e1 : b.op.isAny = true := by rw [hq]; rfl
    cases e with
    | none => exact ⟨rfl, rfl⟩
    | _ => exact (hany e1 (by simp)).elim
  | callv x xs =>
    have e1 : b.op.isAny = true := by rw [hq]; rfl
    cases e with
    | none => exact ⟨rfl, rfl⟩
    | _ => exact (hany e1 (by simp)).elim
  | _ => trivial

theorem apart_symm {a b : Op1} (h : apart a b = true) : apart b a = true := by
  simp only [apart, Bool.and_eq_true, Bool.not_eq_true', Bool.and_eq_false_iff, Bool.or_eq_false_iff] at h ⊢
  obtain ⟨⟨⟨⟨⟨⟨h1, h2⟩, h3⟩, h4⟩, h5⟩, h6⟩, h7, h8⟩ := h
  refine ⟨⟨⟨⟨⟨⟨?_, ?_⟩, h3.symm⟩, h5⟩, h4⟩, h6.symm⟩, h8, h7⟩
  · cases hb : b.dst with
    | none => rfl
    | some t =>
      rw [hb] at h2
      simp only [Bool.and_eq_true, Bool.not_eq_true'] at h2 ⊢
      refine ⟨h2, ?_⟩
      cases ha : a.dst with
      | none => rfl
      | some s =>
        rw [ha, hb] at h1
        simp only [Bool.and_eq_true, Bool.not_eq_true', beq_eq_false_iff_ne, ne_eq, Option.some.injEq] at h1 ⊢
        exact fun e => h1.2 e.symm
  · cases ha : a.dst with
    | none => rfl
    | some t =>
      rw [ha] at h1
      simp only [Bool.and_eq_true, Bool.not_eq_true'] at h1 ⊢
      exact h1.1

theorem eff_comm {a b : Op1} {σ : St} {ra rb : DV} {ea eb : Eff} (h : apart a b = true) (ha : res1 P I a σ ra ea) (hb : res1 P I b σ rb eb) :
    eb.loc (ea.loc σ.loc) = ea.loc (eb.loc σ.loc) ∧ eb.lens (ea.lens σ.ow) = ea.lens (eb.lens σ.ow) := by
  simp only [apart, Bool.and_eq_true, Bool.not_eq_true', Bool.and_eq_false_iff, Bool.or_eq_false_iff] at h
  obtain ⟨⟨⟨⟨⟨⟨_, _⟩, h3⟩, h4⟩, h5⟩, h6⟩, h7, h8⟩ := h
  obtain ⟨k1, k2, k3, k4, k5⟩ := eff_kind ha
  obtain ⟨q1, q2, q3, q4, q5⟩ := eff_kind hb
  have ta : ea ≠ .none → a.op.touches = true := by
    intro he
    cases ea with
    | none => exact absurd rfl he
    | new cs => simp [DOp.touches, k1 cs rfl]
    | set k cs => simp [DOp.touches, (k2 k cs rfl).1]
    | ow id N => simp [DOp.touches, k3 id N rfl]
    | own N => simp [DOp.touches, k4 N rfl]
    | all l w => simp [DOp.touches, k5 l w rfl]
  have tb : eb ≠ .none → b.op.touches = true := by
    intro he
    cases eb with
    | none => exact absurd rfl he
    | new cs => simp [DOp.touches, q1 cs rfl]
    | set k cs => simp [DOp.touches, (q2 k cs rfl).1]
    | ow id N => simp [DOp.touches, q3 id N rfl]
    | own N => simp [DOp.touches, q4 N rfl]
    | all l w => simp [DOp.touches, q5 l w rfl]
  by_cases hea : ea = .none
  · subst hea; exact ⟨rfl, rfl⟩
  by_cases heb : eb = .none
  · subst heb; exact ⟨rfl, rfl⟩
  have ta := ta hea
  have tb := tb heb
  rw [tb] at h7
  rw [ta] at h8
  simp only [Bool.true_eq_false, or_false] at h7 h8
  cases ea with
  | none => exact absurd rfl hea
  | all l w => rw [k5 l w rfl] at h7; cases h7
  | new cs =>
    cases eb with
    | none => exact absurd rfl heb
    | all l w => rw [q5 l w rfl] at h8; cases h8
    | new ds => have := k1 cs rfl; have := q1 ds rfl; simp_all
    | set k ds => have := (q2 k ds rfl).2; exact ⟨by simp [Eff.loc, List.set_append_left _ _ this], rfl⟩
    | _ => exact ⟨rfl, rfl⟩
  | set j cs =>
    cases eb with
    | none => exact absurd rfl heb
    | all l w => rw [q5 l w rfl] at h8; cases h8
    | new ds => have := (k2 j cs rfl).2; exact ⟨by simp [Eff.loc, List.set_append_left _ _ this], rfl⟩
    | set k ds => have := (k2 j cs rfl).1; have := (q2 k ds rfl).1; simp_all
    | _ => exact ⟨rfl, rfl⟩
  | ow id N =>
    cases eb with
    | none => exact absurd rfl heb
    | all l w => rw [q5 l w rfl] at h8; cases h8
    | ow id' N' => have := k3 id N rfl; have := q3 id' N' rfl; simp_all
    | own N' => have := k3 id N rfl; have := q4 N' rfl; simp_all
    | _ => exact ⟨rfl, rfl⟩
  | own N =>
    cases eb with
    | none => exact absurd rfl heb
    | all l w => rw [q5 l w rfl] at h8; cases h8
    | ow id' N' => have := k4 N rfl; have := q3 id' N' rfl; simp_all
    | own N' => have := k4 N rfl; have := q4 N' rfl; simp_all
    | _ => exact ⟨rfl, rfl⟩

theorem apart_dst {a b : Op1} (h : apart a b = true) : (∀ t, a.dst = some t → t ∉ b.reads ∧ b.dst ≠ some t) ∧ (∀ t, b.dst = some t → t ∉ a.reads) := by
  simp only [apart, Bool.and_eq_true] at h
  obtain ⟨⟨⟨⟨⟨⟨h1, h2⟩, _⟩, _⟩, _⟩, _⟩, _⟩ := h
  refine ⟨fun t ht => ?_, fun t ht => ?_⟩
  · rw [ht] at h1
    simpa using h1
  · rw [ht] at h2
    simpa using h2

theorem swap {a b : Op1} {σ : St} {K : St → Prop} (h : apart a b = true) (hb : Sound b σ) (hs : dop1 P I a σ fun σ' => dop1 P I b σ' (Up K)) : dop1 P I b σ fun σ' => dop1 P I a σ' (Up K) := by
  rw [dop1_iff] at hs ⊢
  obtain ⟨ra, ea, h1, hs⟩ := hs
  rw [dop1_iff] at hs
  obtain ⟨rb, eb, h2, h3⟩ := hs
  obtain ⟨hd1, hd2⟩ := apart_dst h
  have hread : ∀ t ∈ b.reads, look (putE σ.env a.dst ra) t = look σ.env t := by
    intro t ht
    rw [look_put]
    split
    · rename_i e; exact absurd ht (hd1 t e).1
    · rfl
  have h2' : res1 P I b σ rb eb := res1_congr hread (fun _ => sees_after h h1 hb _ hread) h2
  have hread2 : ∀ t ∈ a.reads, look σ.env t = look (putE σ.env b.dst rb) t := by
    intro t ht
    rw [look_put]
    split
    · rename_i e; exact absurd ht (hd2 t e)
    · rfl
  have hsee : res0 P I a.op σ ra ea → Sees a.op σ ⟨putE σ.env b.dst rb, eb.loc σ.loc, eb.lens σ.ow⟩ := by
    intro hra
    have hsa : Sound a σ := by
      intro x hx k off hk
      rcases hx with ⟨m, g, hx⟩ | ⟨m, y, hx⟩
      · rw [hx] at hra
        obtain ⟨hra, _⟩ := hra
        simp only [ap, hk] at hra
        obtain ⟨cs, hcs, _⟩ := hra
        exact (List.getElem?_eq_some_iff.1 hcs).1
      · rw [hx] at hra
        obtain ⟨k', off', cs, e1, hcs, _⟩ := hra
        rw [hk] at e1
        obtain ⟨rfl, rfl⟩ : k = k' ∧ off = off' := by simpa using e1
        exact (List.getElem?_eq_some_iff.1 hcs).1
    have := sees_after (apart_symm h) h2' hsa (putE σ.env b.dst rb) (fun t ht => (hread2 t ht).symm)
    exact sees_symm (fun t ht => (hread2 t (by simp [Op1.reads, ht])).symm) this
  refine ⟨rb, eb, h2', ?_⟩
  rw [dop1_iff]
  refine ⟨ra, ea, res1_congr hread2 hsee h1, ?_⟩
  obtain ⟨τ, k1, k2⟩ := h3
  refine ⟨τ, Alike.trans ⟨fun t => ?_, ?_, ?_⟩ k1, k2⟩
  · simp only [after, look_put]
    by_cases e1 : a.dst = some t
    · have := (hd1 t e1).2
      simp [e1, this]
    · simp [e1]
  · exact (eff_comm h h1 h2').1.symm
  · exact (eff_comm h h1 h2').2.symm

theorem dop1_mono {o : Op1} {σ : St} {K K' : St → Prop} (h : dop1 P I o σ K) (hk : ∀ σ', K σ' → K' σ') : dop1 P I o σ K' := by
  rw [dop1_iff] at h ⊢
  obtain ⟨r, e, h1, h2⟩ := h
  exact ⟨r, e, h1, hk _ h2⟩

theorem front {i : Op1} {R2 : List Op1} {K : St → Prop} : ∀ (R1 : List Op1) {σ : St}, (∀ r ∈ R1, apart r i = true) → Sound i σ → dops P I (R1 ++ i :: R2) σ (Up K) → dops P I (i :: (R1 ++ R2)) σ (Up K)
  | [], σ, _, _, h => h
  | r :: R1, σ, ha, hi, h => by
    simp only [List.cons_append, dops] at h ⊢
    have hri := ha r (by simp)
    have step : dop1 P I r σ fun σ' => dop1 P I i σ' (Up fun σ'' => dops P I (R1 ++ R2) σ'' (Up K)) := by
      rw [dop1_iff] at h ⊢
      obtain ⟨rr, e, h1, h2⟩ := h
      refine ⟨rr, e, h1, ?_⟩
      have hi' : Sound i (after r σ rr e) := by
        intro a hx k off hk
        obtain ⟨hd1, _⟩ := apart_dst hri
        have hev : ev (putE σ.env r.dst rr) a = ev σ.env a := ev_congr fun t ht => by
          rw [look_put]
          split
          · rename_i e'
            refine absurd ?_ (hd1 t e').1
            rcases hx with ⟨m, g, hx⟩ | ⟨m, y, hx⟩ <;> simp [Op1.reads, hx, DOp.uses, ht]
          · rfl
        have hlt := hi a hx k off (by rw [← hev]; exact hk)
        have hnall : ∀ l w, e ≠ .all l w := by
          rintro l w rfl
          have hany := (eff_kind h1).2.2.2.2 l w rfl
          simp only [apart, Bool.and_eq_true, Bool.not_eq_true', Bool.and_eq_false_iff, Bool.or_eq_false_iff] at hri
          have h7 := hri.2.1
          rw [hany] at h7
          rcases hx with ⟨m, g, hx⟩ | ⟨m, y, hx⟩ <;> simp [DOp.touches, hx, DOp.isLd, DOp.isSt] at h7
        simp only [after]
        cases e with
        | all l w => exact absurd rfl (hnall l w)
        | _ => simp [Eff.loc] <;> omega
      have := front R1 (fun q hq => ha q (by simp [hq])) hi' h2
      simp only [dops] at this
      exact dop1_mono this fun σ' h => ⟨σ', ⟨fun _ => rfl, rfl, rfl⟩, h⟩
    have := swap hri hi step
    refine dop1_mono this fun σ' h => dop1_mono h fun σ'' h => ?_
    obtain ⟨τ, h1, h2⟩ := h
    exact dops_alike h2 h1.symm

end

def drawOk (ops : List Oper) (os : List Op1) : Bool :=
  (List.range os.length).all fun i => match os[i]?, ops[i]?, (ancs ops [])[i]? with
    | some o, some p, some an => (deps p).all (fun j => decide (j < i)) &&
      (List.range i).all fun j => match os[j]? with
        | some q => an.contains j || apart q o
        | none => false
    | _, _, _ => false

section
variable {P : Program} {I : Inv} {B : Base} {n : Nat}

theorem cops_get {ops : Array Oper} : ∀ {l : List Oper} {os : List Op1}, cops P n ops l = some os → os.length = l.length ∧ ∀ (i : Nat) (o : Oper), l[i]? = some o → ∃ o1, os[i]? = some o1 ∧ c1 P n ops o = some o1
  | [], os, h => by simp only [cops, Option.some.injEq] at h; subst h; exact ⟨rfl, fun i o h => by simp at h⟩
  | p :: l, os, h => by
    simp only [cops] at h
    split at h
    · rename_i o1 os' h1 h2
      simp only [Option.some.injEq] at h
      subst h
      obtain ⟨k1, k2⟩ := cops_get h2
      refine ⟨by simp [k1], fun i o hi => ?_⟩
      cases i with
      | zero => simp only [List.getElem?_cons_zero, Option.some.injEq] at hi; subst hi; exact ⟨o1, rfl, h1⟩
      | succ i => exact k2 i o (by simpa using hi)
    · cases h



theorem Fr.alike {L : Link} {W : World} {σ σ' : St} {a : Act} (fr : Fr I B L W n σ a) (h : Alike σ σ') : Fr I B L W n σ' a :=
  ⟨by rw [← h.2.1, ← h.2.2]; exact fr.sim, fun t => by rw [← h.1 t]; exact fr.env t, fr.size, fr.defers⟩

theorem Fr.sound {L : Link} {W : World} {σ : St} {a : Act} (fr : Fr I B L W n σ a) (o : Op1) : Sound o σ := by
  intro x _ k off hk
  cases x with
  | t m =>
    have := fr.env m
    simp only [D.ev] at hk
    rw [hk] at this
    generalize a.tmps.getD m undef = v at this
    cases this with
    | lp _ _ _ b hb =>
      rw [← fr.sim.blen]
      exact (List.getElem?_eq_some_iff.1 hb).1
  | c v => simp [D.ev] at hk
  | f g => simp [D.ev] at hk

theorem any_sound {ops : Array Oper} {os : List Op1} {L0 : Link} {W0 : World} {K : St → Prop} (hc : cops P n ops ops.toList = some os) (hchk : drawOk ops.toList os = true) :
    ∀ (fuel : Nat) (listed : Array Bool) (σ : St) (a : Act) (W : World) (L : Link), listed.size = ops.size → ((List.range ops.size).filter fun i => !listed.getD i true).length ≤ fuel → Closed ops.toList (fun j => listed.getD j false) →
      dops P I (((List.range ops.size).filter fun i => !listed.getD i true).map fun i => os.getD i ⟨none, .mv (.t 0), none⟩) σ (Up K) → Fr I B L W n σ a → Step (stab B L0) L0 W0 (stab B L) L W →
      wpAny P .any ops (fun e a' W' => e = .normal ∧ QS I B n L0 W0 K a' W') fuel listed a W := by
  obtain ⟨hol, hog⟩ := cops_get hc
  have hm : os.length = ops.size := by simpa using hol
  simp only [drawOk, List.all_eq_true, List.mem_range] at hchk
  have hone : ∀ i, i < ops.size → ∃ o1 an, os[i]? = some o1 ∧ ops.toList[i]? = some (ops.getD i default) ∧ (ancs ops.toList [])[i]? = some an ∧ c1 P n ops (ops.getD i default) = some o1 ∧ (∀ j ∈ deps (ops.getD i default), j < i) ∧
      ∀ (j : Nat) (q : Op1), os[j]? = some q → j < i → j ∈ an ∨ apart q o1 = true := by
    intro i hi
    have hp : ops.toList[i]? = some (ops.getD i default) := by simp [Array.getD, hi]
    obtain ⟨o1, h1, h2⟩ := hog i _ hp
    have := hchk i (by rw [hm]; exact hi)
    rw [h1, hp] at this
    split at this
    · rename_i o p an e1 e2 e3
      simp only [Option.some.injEq] at e1 e2
      subst e1; subst e2
      simp only [Bool.and_eq_true, List.all_eq_true, decide_eq_true_eq, List.mem_range] at this
      obtain ⟨g1, g2⟩ := this
      refine ⟨o1, an, h1, hp, e3, h2, g1, fun j q hq hji => ?_⟩
      have g := g2 j hji
      rw [hq] at g
      simpa using g
    · cases this
  have hrem : ∀ (listed : Array Bool), listed.size = ops.size → Region.ready .any ops listed = [] → ((List.range ops.size).filter fun i => !listed.getD i true) = [] := by
    intro listed hsz hready
    have hall : ∀ i, i < ops.size → listed.getD i false = true := by
      intro i
      induction i using Nat.strongRecOn with
      | _ i ih =>
        intro hi
        obtain ⟨o1, an, h1, h2, h3, h4, h5, h6⟩ := hone i hi
        cases hq : listed.getD i false with
        | true => rfl
        | false =>
          exfalso
          have hmem : i ∈ Region.ready .any ops listed := by
            unfold Region.ready
            rw [List.mem_filter]
            refine ⟨List.mem_range.2 hi, ?_⟩
            have hil : i < listed.size := by omega
            have hqt : listed.getD i true = false := by simpa [Array.getD, hil] using hq
            have hoi : ops[i]? = some (ops.getD i default) := by simpa using h2
            rw [hqt, hoi]
            simp only [Bool.not_false, Option.map_some, Option.getD_some, Bool.true_and, Array.all_eq_true_iff_forall_mem, Bool.or_eq_true, Bool.not_eq_true']
            intro e he
            cases hb : Region.binds .any e with
            | false => exact .inl rfl
            | true =>
              have hd : e.on ∈ deps (ops.getD i default) := by
                unfold deps
                exact List.mem_map.2 ⟨e, List.mem_filter.2 ⟨by simpa using he, hb⟩, rfl⟩
              exact .inr (ih e.on (h5 _ hd) (by have := h5 _ hd; omega))
          rw [hready] at hmem
          cases hmem
    rw [List.filter_eq_nil_iff]
    intro i hi h
    have hil := List.mem_range.1 hi
    have hil' : i < listed.size := by omega
    have := hall i hil
    have e : listed.getD i true = listed.getD i false := by simp [Array.getD, hil']
    rw [e, this] at h
    cases h
  have done : ∀ (listed : Array Bool) (σ : St) (a : Act) (W : World) (L : Link), listed.size = ops.size → Region.ready .any ops listed = [] →
      dops P I (((List.range ops.size).filter fun i => !listed.getD i true).map fun i => os.getD i ⟨none, .mv (.t 0), none⟩) σ (Up K) → Fr I B L W n σ a → Step (stab B L0) L0 W0 (stab B L) L W → QS I B n L0 W0 K a W := by
    intro listed σ a W L hsz hready hd fr st
    rw [hrem listed hsz hready] at hd
    obtain ⟨τ, h1, h2⟩ := hd
    exact ⟨L, τ, h2, fr.alike h1, st⟩
  intro fuel
  induction fuel with
  | zero =>
    intro listed σ a W L hsz hcnt hcl hd fr st
    have hready : Region.ready .any ops listed = [] := by
      have h0 : ((List.range ops.size).filter fun i => !listed.getD i true) = [] := List.eq_nil_of_length_eq_zero (by omega)
      rw [List.filter_eq_nil_iff] at h0
      unfold Region.ready
      rw [List.filter_eq_nil_iff]
      intro i hi h
      simp only [Bool.and_eq_true] at h
      exact h0 i hi h.1
    exact ⟨hready, rfl, done listed σ a W L hsz hready hd fr st⟩
  | succ fuel ih =>
    intro listed σ a W L hsz hcnt hcl hd fr st
    refine ⟨fun hready => ⟨rfl, done listed σ a W L hsz hready hd fr st⟩, fun i hi => ?_⟩
    unfold Region.ready at hi
    rw [List.mem_filter] at hi
    obtain ⟨hir, hi⟩ := hi
    have hil : i < ops.size := List.mem_range.1 hir
    obtain ⟨o1, an, h1, h2, h3, h4, h5, h6⟩ := hone i hil
    have hoi : ops[i]? = some (ops.getD i default) := by simpa using h2
    rw [hoi] at hi
    simp only [Bool.and_eq_true, Bool.not_eq_true', Option.map_some, Option.getD_some] at hi
    obtain ⟨hun, hdep⟩ := hi
    have hdeps : ∀ j ∈ deps (ops.getD i default), listed.getD j false = true := by
      intro j hj
      obtain ⟨e, he, rfl⟩ := List.mem_map.1 hj
      obtain ⟨he1, he2⟩ := List.mem_filter.1 he
      rw [Array.all_eq_true_iff_forall_mem] at hdep
      have := hdep e (by simpa using he1)
      simpa [he2] using this
    have hil' : i < listed.size := by omega
    have hanc : ∀ j ∈ an, listed.getD j false = true := ancs_sound (S := fun j => listed.getD j false) hcl ops.toList [] (by simp) (by simp) i _ an h2 h3 hdeps
    have hmem : i ∈ (List.range ops.size).filter fun i => !listed.getD i true := List.mem_filter.2 ⟨hir, by simpa using hun⟩
    obtain ⟨R1, R2, hR⟩ := List.append_of_mem hmem
    have hsorted : ((List.range ops.size).filter fun i => !listed.getD i true).Pairwise (· < ·) := List.Pairwise.filter _ List.pairwise_lt_range
    rw [hR] at hsorted
    have hlt1 : ∀ r ∈ R1, r < i := by
      rw [List.pairwise_append] at hsorted
      exact fun r hr => hsorted.2.2 r hr i (by simp)
    have hlt2 : ∀ r ∈ R2, i < r := by
      rw [List.pairwise_append, List.pairwise_cons] at hsorted
      exact hsorted.2.1.1
    have hunl : ∀ r ∈ R1, listed.getD r false = false ∧ r < ops.size := by
      intro r hr
      have : r ∈ (List.range ops.size).filter fun i => !listed.getD i true := by rw [hR]; simp [hr]
      obtain ⟨h1, h2⟩ := List.mem_filter.1 this
      have hrl := List.mem_range.1 h1
      have hrl' : r < listed.size := by omega
      refine ⟨?_, hrl⟩
      simpa [Array.getD, hrl'] using h2
    have hget : ∀ (j : Nat) (q : Op1), os[j]? = some q → os.getD j ⟨none, .mv (.t 0), none⟩ = q := fun j q hq => by simp [List.getD, hq]
    rw [hR, List.map_append, List.map_cons, hget i o1 h1] at hd
    have hfront := front (R1.map fun i => os.getD i ⟨none, .mv (.t 0), none⟩) (i := o1) (R2 := R2.map fun i => os.getD i ⟨none, .mv (.t 0), none⟩) (fun q hq => by
      obtain ⟨r, hr, rfl⟩ := List.mem_map.1 hq
      obtain ⟨hr1, hr2⟩ := hunl r hr
      obtain ⟨q, hq'⟩ : ∃ q, os[r]? = some q := ⟨_, List.getElem?_eq_getElem (by rw [hm]; exact hr2)⟩
      rw [hget r q hq']
      rcases h6 r q hq' (hlt1 r hr) with h | h
      · rw [hanc r h] at hr1; cases hr1
      · exact h) (fr.sound o1) hd
    simp only [dops] at hfront
    have hrem' : ((List.range ops.size).filter fun j => !(listed.setIfInBounds i true).getD j true) = R1 ++ R2 := by
      have hsub : ((List.range ops.size).filter fun j => !(listed.setIfInBounds i true).getD j true) = (((List.range ops.size).filter fun j => !listed.getD j true).filter fun j => decide (j ≠ i)) := by
        rw [List.filter_filter]
        refine List.filter_congr fun j _ => ?_
        by_cases hj : j = i
        · subst hj; simp [Array.getD, hil']
        · have : (listed.setIfInBounds i true).getD j true = listed.getD j true := by
            rw [Array.getD_eq_getD_getElem?, Array.getD_eq_getD_getElem?, Array.getElem?_setIfInBounds_ne (fun e => hj e.symm)]
          rw [this]; simp [hj]
      rw [hsub, hR, List.filter_append, List.filter_cons_of_neg (by simp), List.filter_eq_self.2, List.filter_eq_self.2]
      · intro r hr; have := hlt2 r hr; simp; omega
      · intro r hr; have := hlt1 r hr; simp; omega
    have hcl' : Closed ops.toList (fun j => (listed.setIfInBounds i true).getD j false) := by
      have hset : ∀ j, j ≠ i → (listed.setIfInBounds i true).getD j false = listed.getD j false := by
        intro j hj
        rw [Array.getD_eq_getD_getElem?, Array.getD_eq_getD_getElem?, Array.getElem?_setIfInBounds_ne (fun e => hj e.symm)]
      have hseti : (listed.setIfInBounds i true).getD i false = true := by simp [Array.getD, hil']
      intro k o hk hSk j hj
      by_cases hji : j = i
      · subst hji; exact hseti
      · show (listed.setIfInBounds i true).getD j false = true
        rw [hset j hji]
        by_cases hki : k = i
        · subst hki
          rw [h2] at hk
          obtain rfl := Option.some.inj hk
          exact hdeps j hj
        · simp only [hset k hki] at hSk
          exact hcl k o hk hSk j hj
    have hcnt' : ((List.range ops.size).filter fun j => !(listed.setIfInBounds i true).getD j true).length ≤ fuel := by
      rw [hrem']
      rw [hR] at hcnt
      simp at hcnt ⊢
      omega
    have next : ∀ (σ' : St) (a' : Act) (W' : World) (L' : Link), dops P I (R1.map (fun i => os.getD i ⟨none, .mv (.t 0), none⟩) ++ R2.map fun i => os.getD i ⟨none, .mv (.t 0), none⟩) σ' (Up K) → Fr I B L' W' n σ' a' → Step (stab B L) L W (stab B L') L' W' →
        wpAny P .any ops (fun e a' W' => e = .normal ∧ QS I B n L0 W0 K a' W') fuel (listed.setIfInBounds i true) a' W' := by
      intro σ' a' W' L' hd' fr' st'
      exact ih (listed.setIfInBounds i true) σ' a' W' L' (by simp [hsz]) hcnt' hcl' (by rw [hrem', List.map_append]; exact hd') fr' (st.trans st')
    unfold wpOp
    rw [hoi]
    rcases c1_wanted h4 fr hfront with ⟨hw, d, hdop, _, hk⟩ | ⟨hw, hk⟩
    · simp only [hw, if_true]
      refine .inl ?_
      obtain ⟨r, σ', hk', he, ho⟩ := dop_sound hdop hk fr
      refine ho _ _ fun y L' W' k1 k2 k3 => ?_
      have fr' := fr.put k3 k2 k1 (c1_dst h4)
      rw [← he] at fr'
      exact next _ _ W' L' hk' fr' k3
    · simp only [hw, Bool.false_eq_true, if_false]
      exact next _ _ W L hk (fr.put (Step.refl _ _ _) fr.sim (.v _ _) (c1_dst h4)) (Step.refl _ _ _)

theorem dops_up {K : St → Prop} : ∀ {os : List Op1} {σ : St}, dops P I os σ K → dops P I os σ (Up K)
  | [], σ, h => ⟨σ, ⟨fun _ => rfl, rfl, rfl⟩, h⟩
  | o :: os, σ, h => by
    simp only [dops] at h ⊢
    exact dop1_mono h fun σ' h => dops_up h

theorem draw_sound {ops : Array Oper} {os : List Op1} {id : Nat} {σ : St} {a : Act} {W : World} {L : Link} {K : St → Prop} (hmix : P.follows .mixedOrders = true) (hc : cops P n ops ops.toList = some os) (hchk : drawOk ops.toList os = true) (h : dops P I os σ K) (fr : Fr I B L W n σ a) :
    (Code.region id ops true).wp P (fun e a' W' => e = .normal ∧ QS I B n L W K a' W') a W := by
  have hb : Below W.heap.size W { W with drawn := W.drawn + 1 } := (Below.refl _ _).drew
  obtain ⟨hs, hst⟩ := fr.sim.quiet hb
  have hm : os.length = ops.size := by simpa using (cops_get hc).1
  refine wp_region_any hmix ?_
  refine any_sound hc hchk ops.size (Array.replicate ops.size false) σ a _ L (by simp) ?_ ?_ ?_ ⟨hs, fun t => (fr.env t).step hst, fr.size, fr.defers⟩ hst
  · exact Nat.le_trans (List.length_filter_le _ _) (by simp)
  · intro i o _ h
    simp [Array.getD] at h
  · have e : ((List.range ops.size).filter fun i => !(Array.replicate ops.size false).getD i true) = List.range ops.size := by
      rw [List.filter_eq_self]
      intro i hi
      have := List.mem_range.1 hi
      simp [Array.getD, this]
    have e2 : ((List.range ops.size).map fun i => os.getD i ⟨none, .mv (.t 0), none⟩) = os := by
      refine List.ext_getElem? fun i => ?_
      rw [List.getElem?_map, ← hm]
      by_cases hi : i < os.length
      · simp [hi, List.getD]
      · simp [hi]
    rw [e, e2]
    exact dops_up h

end
end Go.Proofs.YtlbodfkhenkcjaaGreatDoor.D


namespace Go.Proofs.YtlbodfkhenkcjaaGreatDoor.D
open Go Go.RowKit

section
variable {P : Program} {I : Inv} {B : Base} {L : Link} {W W' : World} {n : Nat} {σ : St} {a : Act} {o : Oper} {loc : List (List DV)} {ow : List Nat}

theorem sim_boxB (hs : Sim I B L W loc ow) (hb : Below W.heap.size W W') {g : Nat} (hg : W.heap.size ≤ g) {T : TypeId} {cs : List DV} {ys : List Value} (hh : W'.heap[g]? = some (.cells ys.toArray T (0, 0))) (hr : RepL (stab B L) W L cs ys) :
    Sim I B ⟨L.bx ++ [g], L.ow, L.fz⟩ W' (loc ++ [cs]) ow ∧ Step (stab B L) L W (stab B ⟨L.bx ++ [g], L.ow, L.fz⟩) ⟨L.bx ++ [g], L.ow, L.fz⟩ W' := by
  have hg' : g < W'.heap.size := by
    rcases Nat.lt_or_ge g W'.heap.size with h | h
    · exact h
    · rw [Array.getElem?_eq_none h] at hh; cases hh
  have st : Step (stab B L) L W (stab B ⟨L.bx ++ [g], L.ow, L.fz⟩) ⟨L.bx ++ [g], L.ow, L.fz⟩ W' := by
    refine ⟨fun b o y h1 h2 => ⟨?_, by rw [hb.cell (p := ⟨b, o, none⟩) (cell_lt h2)]; exact h2⟩, fun k b h => ?_, fun id N C h => ⟨N, C, h, Nat.le_refl _, fun _ => ⟨rfl, fun q hq => hb.block q (hs.oge id N q (hq ▸ h)).2.1⟩⟩⟩
    · rcases h1 with h1 | ⟨h1, h3, h4⟩
      · exact .inl h1
      · refine .inr ⟨h1, ?_, h4⟩
        have := cell_lt h2
        refine h3.imp (fun h3 => ?_) id
        simp only [List.mem_append, List.mem_singleton, not_or]
        exact ⟨h3, by omega⟩
    · have : k < L.bx.length := (List.getElem?_eq_some_iff.1 h).1
      show (L.bx ++ [g])[k]? = some b
      rw [List.getElem?_append_left this]
      exact h
  have hlast : ∀ m b, [g][m]? = some b → m = 0 ∧ b = g := by
    intro m b hm
    cases m with
    | zero => exact ⟨rfl, by simpa using hm.symm⟩
    | succ m => simp at hm
  have hsz := hs.below.size
  refine ⟨⟨hs.inv, hs.below.trans (hb.mono hs.below.size), by simp [hs.blen], fun k b h => ?_, fun j k b h1 h2 => ?_, fun k cs' h => ?_, hs.olen, fun id N q h => ?_, hs.ond, fun k b h hf => ?_, fun b hf => Nat.lt_of_lt_of_le (hs.flt b hf) hb.size⟩, st⟩
  · replace h : (L.bx ++ [g])[k]? = some b := h
    rw [List.getElem?_append] at h
    split at h
    · have := hs.bge k b h
      exact ⟨this.1, by have := this.2; have := hb.size; omega⟩
    · obtain ⟨_, rfl⟩ := hlast _ _ h
      exact ⟨by omega, hg'⟩
  · replace h1 : (L.bx ++ [g])[j]? = some b := h1
    replace h2 : (L.bx ++ [g])[k]? = some b := h2
    rw [List.getElem?_append] at h1 h2
    split at h1 <;> split at h2
    · exact hs.bnd j k b h1 h2
    · have := (hs.bge j b h1).2; have := (hlast _ _ h2).2; omega
    · have := (hs.bge k b h2).2; have := (hlast _ _ h1).2; omega
    · have := (hlast _ _ h1).1; have := (hlast _ _ h2).1; omega
  · rw [List.getElem?_append] at h
    split at h
    · obtain ⟨b, us, T', k1, k2, k3⟩ := hs.box k cs' h
      exact ⟨b, us, T', st.bx k b k1, (hb.block b (hs.bge k b k1).2).trans k2, fun hf => (k3 hf).step st⟩
    · have hcs : cs' = cs ∧ k = loc.length := by
        cases hq : k - loc.length with
        | zero => rw [hq] at h; exact ⟨by simpa using h.symm, by omega⟩
        | succ m => rw [hq] at h; simp at h
      obtain ⟨rfl, rfl⟩ := hcs
      refine ⟨g, ys, T, ?_, hh, fun _ => hr.step st⟩
      show (L.bx ++ [g])[loc.length]? = some g
      rw [← hs.blen]
      simp
  · obtain ⟨h1, h2, h3⟩ := hs.oge id N q h
    refine ⟨h1, by have := hb.size; omega, ?_⟩
    simp only [List.mem_append, List.mem_singleton, not_or]
    exact ⟨h3, by omega⟩
  · replace h : (L.bx ++ [g])[k]? = some b := h
    rw [List.getElem?_append] at h
    split at h
    · have h1 := hs.frz k b h hf
      rw [List.getElem?_append_left (List.getElem?_eq_some_iff.1 h1).1]
      exact h1
    · obtain ⟨_, rfl⟩ := hlast _ _ h
      have := hs.flt b hf
      omega

theorem plainC_map : ∀ {cs : List DV}, plainC cs = true → ∃ vs : List Value, cs = vs.map DV.v
  | [], _ => ⟨[], rfl⟩
  | d :: r, h => by
    simp only [plainC, List.all_cons, Bool.and_eq_true] at h
    obtain ⟨vs, hvs⟩ := plainC_map (cs := r) h.2
    cases d with
    | v x => exact ⟨x :: vs, by rw [hvs]; rfl⟩
    | _ => exact absurd h.1 (by simp)
theorem plainC_one {cs : List DV} (h : plainC cs = true) : ∀ d ∈ cs, d.one = true := by
  intro d hd
  have := List.all_eq_true.1 h d hd
  cases d with
  | v x => cases x <;> simp_all [DV.one]
  | _ => simp at this
theorem repl_vs {S : Nat → Nat → Prop} (vs : List Value) : RepL S W L (vs.map DV.v) vs := by
  induction vs with
  | nil => exact .nil
  | cons x vs ih => exact .cons (.v _ _) ih
theorem plain_rep {S : Nat → Nat → Prop} {cs : List DV} {ys : List Value} (hp : plainC cs = true) (hr : RepL S W L cs ys) {S' : Nat → Nat → Prop} {W2 : World} {L2 : Link} : RepL S' W2 L2 cs ys := by
  obtain ⟨vs, rfl⟩ := plainC_map hp
  rw [hr.plain]
  exact repl_vs vs

theorem made_one {z : Value} {cs : Array Value} (hz : cs = #[z]) (m : Nat) : madeCells cs (m * 1) = (List.replicate m z).toArray := by
  subst hz
  rw [Nat.mul_one]
  apply Array.ext
  · simp [madeCells]
  · intro i h1 h2
    simp [madeCells, Nat.mod_one]

theorem o_mks {T e : TypeId} {i : TypeInfo} {z : Value} {l c : Operand} {l' c' : Opd} {k k' : IntKind} {m : Nat} (hop : o.op = .makeSlice T l c) (hT : P.underlying T = some (.slice e)) (hi : P.info? e = some i) (hz : i.zero = some z) {z0 : Value} (hzs : z.cells = #[z0]) (h1s : i.size = 1)
    (hl : cO l = some l') (hc : cO c = some c') (fr : Fr I B L W n σ a) (h1 : D.ev σ.env l' = .v (.int k m)) (h2 : D.ev σ.env c' = .v (.int k' m)) (hb : m * i.bytes ≤ 140737488355328) (hpos : 0 < i.bytes) :
    Op2 P I B L W o a (.row σ.loc.length 1 m) (σ.loc ++ [List.replicate m (.v z0)]) σ.ow := by
  intro Kw Q hk
  have e1 := fr.ev hl
  have e2 := fr.ev hc
  rw [h1] at e1
  rw [h2] at e2
  generalize hv1 : a.eval l = v1 at e1
  generalize hv2 : a.eval c = v2 at e2
  cases e1
  cases e2
  have hm : m ≤ m * i.bytes := Nat.le_mul_of_pos_right _ hpos
  have hbi : (i.bytes : Int) * (m : Int) ≤ 281474976710656 := by
    have h : ((i.bytes * m : Nat) : Int) ≤ 281474976710656 := by rw [Nat.mul_comm]; omega
    rwa [Int.natCast_mul] at h
  have hr0 := run_make (P := P) W T e i z hT hi hz k k' m m (by omega) (by omega) hbi (by omega)
  simp only [Int.toNat_natCast] at hr0
  rw [h1s, made_one hzs] at hr0
  have hr : RepL (stab B L) W L (List.replicate m (.v z0)) (List.replicate m z0) := by
    have : List.replicate m (DV.v z0) = (List.replicate m z0).map DV.v := by simp
    rw [this]
    exact repl_vs _
  have hbel : Below W.heap.size W (W.alloc (.cells (List.replicate m z0).toArray e)) := (Below.refl _ _).alloc (Nat.le_refl _) _
  obtain ⟨q1, q2⟩ := sim_boxB fr.sim hbel (Nat.le_refl _) (heap_alloc_new W _) hr
  have hrun : (execOp a.eval o).run P W = .ok (.value (.slice (some ⟨W.heap.size, 0, none⟩) m m)) (W.alloc (.cells (List.replicate m z0).toArray e)) := by
    simp only [execOp, hop, hv1, hv2]
    simp only [hr0, Sem.run_bind, Sem.run_pure, Result.andThen_ok]
  unfold Oper.wp
  rw [hrun]
  exact hk _ _ _ (.row _ _ _ _ W.heap.size _ (by rw [← fr.sim.blen]; simp) (Nat.le_refl _)) q1 q2

def Op3 (P : Program) (I : Inv) (B : Base) (L : Link) (W : World) (o : Oper) (a : Act) (r : DV) (loc : List (List DV)) (cs : List DV) (ow : List Nat) : Prop :=
  ∀ (Kw : Act → World → Prop) (Q : Exit → Act → World → Prop), (∀ t y L' W', Rep (stab B L') W' L' r y → Sim I B L' W' (loc ++ [cs ++ List.replicate t .u]) ow → Step (stab B L) L W (stab B L') L' W' → Kw (a.put o.dst y) W') → o.wp P a W Kw Q
theorem repl_us {S : Nat → Nat → Prop} (vs : List Value) : RepL S W L (List.replicate vs.length .u) vs := by
  induction vs with
  | nil => exact .nil
  | cons x vs ih => exact .cons (.u _ _) ih

theorem neu_own {f : FuncId} {es : List DV} {sz : Nat} {l : List DV} {vals : List Value} (hp : DOwn P I f es sz l) (hne : l.isEmpty = false) (hpl : plainC (l.flatMap DV.cells) = true) (hr : RepL (stab B L) W noLink es vals) (hs : Sim I B L W loc ow) (hrun : (execOp a.eval o).run P W = (callFunc f vals.toArray).run P W) :
    Op3 P I B L W o a (.row loc.length sz l.length) loc (l.flatMap DV.cells) ow := by
  obtain ⟨e0, loc', ow', hp, how⟩ := hp
  intro Kw Q hk
  have hI : I.I W := I.keep _ _ hs.inv hs.below
  have hs1 : Sim I ⟨W, stab B L⟩ noLink W [] [] := ⟨hI, Below.refl _ _, rfl, fun k b h => by simp [noLink] at h, fun j k b h => by simp [noLink] at h, fun k cs h => by simp at h, rfl, fun id N g h => by simp [noLink] at h, fun i j N M g h => by simp [noLink] at h, fun k b h => by simp [noLink] at h, fun b h => by simp [noLink] at h⟩
  have hr1 : RepL (stab ⟨W, stab B L⟩ noLink) W noLink es vals := hr.step ⟨fun b o y h1 h2 => ⟨.inl ⟨cell_lt h2, h1⟩, h2⟩, fun _ _ h => h, fun id N C h => by simp [noLink] at h⟩
  have hc := hp.2 ⟨W, stab B L⟩ W noLink vals hs1 hr1
  unfold Oper.wp
  rw [hrun, run_callFunc hp.1]
  refine Calls.mono hc fun e W' ⟨y, L1, he, h1, h2, h3⟩ => ?_
  subst he
  have hbel : Below W.heap.size W W' := h1.below
  cases h3 with
  | own _ _ _ _ _ _ N C k1 k2 k3 k4 =>
    have hN : l.length * sz = N := by
      have := h1.olen
      have h5 : (L1.ow.map (·.1))[0]? = ow'[0]? := by rw [this]
      rw [List.getElem?_map, k2, how] at h5
      simpa using h5.symm
    rcases k4 hN with ⟨_, e2, _⟩ | ⟨g, cap, cur, e1, e2, e3, e4, e5, e6⟩
    · rw [List.eq_nil_of_length_eq_zero e2] at hne; cases hne
    · subst e2; subst e1
      have hge := h1.oge 0 N g k2
      cases k1 with
      | list _ _ _ ys _ _ _ b o' q1 q2 q3 q4 q5 q6 q7 =>
        have hb : (some ⟨g, 0, none⟩ : Option Addr) = some ⟨b, o', none⟩ := q4 (by rintro rfl; cases hne)
        simp only [Option.some.injEq, Addr.mk.injEq] at hb
        obtain ⟨rfl, rfl, _⟩ := hb
        have hysl : ys.length = l.length * sz := by rw [q5, flat_length q2]
        have htk : cur.toList.take (l.length * sz) = ys := by
          refine List.ext_getElem? fun j => ?_
          rw [List.getElem?_take]
          split
          · rename_i hj
            have hj' : j < ys.length := by omega
            have := (q6 j _ (List.getElem?_eq_getElem hj')).2
            rw [List.getElem?_eq_getElem hj', ← this, Nat.zero_add]
            simp [World.cell?, e3]
          · rw [List.getElem?_eq_none (by omega)]
        have hcur : W'.heap[g]? = some (.cells (ys ++ cur.toList.drop (l.length * sz)).toArray e0 (0, 0)) := by
          rw [e3, ← htk, List.take_append_drop]
        have hrr : RepL (stab B L) W L (l.flatMap DV.cells ++ List.replicate (cur.toList.drop (l.length * sz)).length .u) (ys ++ cur.toList.drop (l.length * sz)) :=
          (plain_rep (S := stab ⟨W, stab B L⟩ L1) (W := W') (L := noLink) hpl ⟨q5.symm, q7⟩).append (repl_us _)
        obtain ⟨r1, r2⟩ := sim_boxB hs hbel hge.1 hcur hrr
        exact hk _ _ _ _ (.row _ _ _ _ g _ (by rw [← hs.blen]; simp) e4) r1 r2

theorem o_appr {T U e : TypeId} {i : TypeInfo} {s x : Operand} {xs : List DV} {args : Array Operand} {ats : Array TypeId} (hop : o.op = .call { callee := .builtin .append, args, argTypes := ats }) (ha : args.toList = [s, x]) (hat : ats.toList = [T, U])
    (hT : P.underlying T = some (.slice e)) (hTU : T = U) (hi : P.info? e = some i) (hz : (i.zero.any fun z => z.cells.size == i.size) = true) (hsim : Sim I B L W loc ow) {ad0 : Option Addr} (hs : a.eval s = .slice ad0 0 0) (hxr : Rep (stab B L) W L (.list i.size xs) (a.eval x))
    (hne : xs.isEmpty = false) (hpl : plainC (xs.flatMap DV.cells) = true) (hby : xs.length * i.bytes ≤ 140737488355328) (h63 : xs.length ≤ maxLen) :
    Op3 P I B L W o a (.row loc.length i.size xs.length) loc (xs.flatMap DV.cells) ow := by
  intro Kw Q hKw
  rw [Option.any_eq_true] at hz
  obtain ⟨z, hz, hzs⟩ := hz
  obtain ⟨ad, c, zs, hxe, hzr, hzl, hz1, hz2, hz3⟩ := src_cells hxr
  have hne' : xs ≠ [] := by rintro rfl; cases hne
  obtain ⟨p, rfl, hpc⟩ := hz3 hne'
  have hm : 0 < xs.length := List.length_pos_iff.2 hne'
  have hsmall : xs.length ≤ 9223372036854775807 := by simp only [maxLen] at h63; omega
  have key : ∃ Z : List Value, (execOp a.eval o).run P W = .ok (.value (.slice (some ⟨W.heap.size, 0, none⟩) xs.length (grownCap W xs.length 0 e))) (W.drew.alloc (.cells (zs ++ Z).toArray e)) := by
    cases ad0 with
    | none =>
      have hr0 := run_append_nil (P := P) W T o.type e i z hT hi hz p xs.length c zs hzl hpc hm (by omega) (by omega)
      refine ⟨(Builtin.zeroCells z.cells (grownCap W xs.length 0 e - xs.length)).toList, ?_⟩
      have := app_run hop ha hat hTU hs hxe hr0
      rw [this]
      exact congrArg (fun A => Result.ok _ (W.drew.alloc (.cells A e))) (by simp)
    | some q =>
      have hr0 := run_append_grow (P := P) W T o.type e i z hT hi hz q 0 0 [] (by simp) (fun j v hj => by simp at hj) p xs.length c zs hzl hpc (by omega) (by omega) (growslice_fits (by omega) (by simpa using hby))
      refine ⟨(Builtin.zeroCells z.cells (grownCap W (0 + xs.length) 0 e - (0 + xs.length))).toList, ?_⟩
      have := app_run hop ha hat hTU hs hxe hr0
      rw [this]
      rw [Nat.zero_add]
      exact congrArg (fun A => Result.ok _ (W.drew.alloc (.cells A e))) (by simp)
  obtain ⟨Z, hrun⟩ := key
  have hbel : Below W.heap.size W (W.drew.alloc (.cells (zs ++ Z).toArray e)) := ((Below.refl _ _).drew).alloc (Nat.le_refl _) _
  have hrr : RepL (stab B L) W L (xs.flatMap DV.cells ++ List.replicate Z.length .u) (zs ++ Z) := (plain_rep hpl hzr).append (repl_us _)
  obtain ⟨q1, q2⟩ := sim_boxB hsim hbel (Nat.le_refl _) (heap_alloc_new W.drew _) hrr
  unfold Oper.wp
  rw [hrun]
  exact hKw _ _ _ _ (.row _ _ _ _ W.heap.size _ (by rw [← hsim.blen]; simp) (grownCap_ge W _ _ e)) q1 q2

theorem look_frz {k sz : Nat} {l : List DV} : ∀ {env : List (Nat × DV)} {t : Nat}, look (frzE k sz l env) t = frzD k sz l (look env t)
  | [], t => rfl
  | (u, d) :: r, t => by
    simp only [frzE, look_cons]
    split
    · rfl
    · exact look_frz

theorem rowsE_look {k sz m : Nat} : ∀ {env : List (Nat × DV)} {t : Nat}, rowsE k sz m env → rowP k sz m (look env t)
  | [], _, _ => trivial
  | (u, d) :: r, t, h => by
    rw [look_cons]
    split
    · exact h.1
    · exact rowsE_look h.2
theorem rowsL_get {k sz m : Nat} : ∀ {l : List DV} {i : Nat} {d : DV}, rowsL k sz m l → l[i]? = some d → rowP k sz m d
  | [], _, _, _, hi => by simp at hi
  | c :: r, 0, d, h, hi => by simp at hi; subst hi; exact h.1
  | c :: r, i + 1, d, h, hi => rowsL_get h.2 (by simpa using hi)
theorem rowsLL_get {k sz m : Nat} : ∀ {l : List (List DV)} {i : Nat} {cs : List DV}, rowsLL k sz m l → l[i]? = some cs → rowsL k sz m cs
  | [], _, _, _, hi => by simp at hi
  | c :: r, 0, d, h, hi => by simp at hi; subst hi; exact h.1
  | c :: r, i + 1, d, h, hi => rowsLL_get h.2 (by simpa using hi)

theorem Rep.frz {S S' : Nat → Nat → Prop} {k b : Nat} {d : DV} {y : Value} {L' : Link} (h : Rep S W L d y) (st : Step S L W S' L' W) {sz m : Nat} {l : List DV} (hb : L.bx[k]? = some b) (hm : m = l.length) (hp : rowP k sz m d)
    (hl : ∀ cap, l.length ≤ cap → Rep S' W L' (.list sz l) (.slice (some ⟨b, 0, none⟩) l.length cap)) :
    Rep S' W L' (frzD k sz l d) y := by
  unfold frzD
  split
  · rename_i j sz' q
    cases h with
    | row _ _ _ _ b' cap k1 k2 =>
      unfold rowP at hp
      split
      · rename_i ej
        simp only [ej] at hp
        have ej := Nat.eq_of_beq_eq_true ej
        subst ej
        obtain rfl : b = b' := Option.some.inj (hb.symm.trans k1)
        obtain ⟨rfl, rfl⟩ := hp
        subst hm
        exact hl cap k2
      · exact .row _ j sz' q b' cap (st.bx j b' k1) k2
  · split
    · exact h.step st
    · exact .u _ _

theorem Fr.frz {k sz m : Nat} {l : List DV} (fr : Fr I B L W n σ a) (h1 : frzOk k sz l σ) (hm : m = l.length) (hre : rowsE k sz m σ.env) (hrl : rowsLL k sz m σ.loc) :
    ∃ L', Fr I B L' W n (frzS k sz l σ) a ∧ Step (stab B L) L W (stab B L') L' W := by
  obtain ⟨cs, hcs, h5, h1, h3, h4, heq⟩ := h1
  have hs := fr.sim
  obtain ⟨b, ys, T, hb, hh, hr⟩ := hs.box k cs hcs
  by_cases hfz : b ∈ L.fz
  · have := hs.frz k b hb hfz
    rw [hcs] at this
    obtain rfl := Option.some.inj this
    cases h5
  replace hr := hr hfz
  have hbg := hs.bge k b hb
  let L' : Link := ⟨L.bx, L.ow, b :: L.fz⟩
  have hstab : ∀ b' o, stab B L b' o → stab B L' b' o := by
    intro b' o h
    rcases h with h | ⟨q1, q2, q3⟩
    · exact .inl h
    · exact .inr ⟨q1, q2.imp id (fun h => List.mem_cons_of_mem _ h), q3⟩
  have st : Step (stab B L) L W (stab B L') L' W := ⟨fun b' o y q1 q2 => ⟨hstab _ _ q1, q2⟩, fun _ _ h => h, fun id N C h => ⟨N, C, h, Nat.le_refl _, fun _ => ⟨rfl, fun _ _ => rfl⟩⟩⟩
  have hl : ∀ cap, l.length ≤ cap → Rep (stab B L') W L' (.list sz l) (.slice (some ⟨b, 0, none⟩) l.length cap) := by
    intro cap hcap
    obtain ⟨vs, hvs⟩ := plainC_map h3
    have hyl : (l.flatMap DV.cells).length ≤ ys.length := by rw [← hr.1]; exact h4
    refine .list _ sz l (ys.take (l.flatMap DV.cells).length) _ _ _ b 0 ⟨rfl, hcap⟩ h1 (plainC_one h3) (fun _ => rfl) (by rw [List.length_take]; omega) (fun j y hj => ⟨?_, ?_⟩) (fun i d y q1 q2 => ?_)
    · refine .inr ⟨hbg.1, .inr (by simp [L']), fun id N ho => absurd (bx_lt hb) (hs.oge id N b ho).2.2⟩
    · rw [List.getElem?_take] at hj
      split at hj
      · rw [Nat.zero_add, cell_row hh]
        exact hj
      · cases hj
    · have hrt : RepL (stab B L) W L (l.flatMap DV.cells) (ys.take (l.flatMap DV.cells).length) := by
        have := hr.take (l.flatMap DV.cells).length
        rwa [heq] at this
      exact (plain_rep (S' := stab B L') (W2 := W) (L2 := noLink) h3 hrt).2 i d y q1 q2
  refine ⟨L', ⟨⟨hs.inv, hs.below, ?_, hs.bge, hs.bnd, fun j cs' hj => ?_, hs.olen, hs.oge, hs.ond, fun j c hj hf => ?_, fun c hf => ?_⟩, fun t => ?_, fr.size, fr.defers⟩, st⟩
  · show L.bx.length = _
    simp [frzS, hs.blen]
  · replace hj : ((σ.loc.map fun cs => cs.map (frzD k sz l)).set k [])[j]? = some cs' := hj
    rw [List.getElem?_set] at hj
    split at hj
    · rename_i e
      subst e
      split at hj
      · simp only [Option.some.injEq] at hj
        subst hj
        exact ⟨b, ys, T, hb, hh, fun hf => absurd (List.mem_cons_self ..) hf⟩
      · cases hj
    · rw [List.getElem?_map, Option.map_eq_some_iff] at hj
      obtain ⟨c0, hc0, rfl⟩ := hj
      obtain ⟨b', ys', T', k1, k2, k3⟩ := hs.box j c0 hc0
      refine ⟨b', ys', T', k1, k2, fun hf => ?_⟩
      have k3 := k3 fun h => hf (List.mem_cons_of_mem _ h)
      refine ⟨by rw [List.length_map]; exact k3.1, fun i d y q1 q2 => ?_⟩
      rw [List.getElem?_map, Option.map_eq_some_iff] at q1
      obtain ⟨d0, hd0, rfl⟩ := q1
      exact (k3.2 i d0 y hd0 q2).frz st hb hm (rowsL_get (rowsLL_get hrl hc0) hd0) hl
  · show ((σ.loc.map fun cs => cs.map (frzD k sz l)).set k [])[j]? = some []
    rw [List.getElem?_set]
    split
    · rename_i e
      subst e
      rw [if_pos (by simpa using (List.getElem?_eq_some_iff.1 hcs).1)]
    · rename_i hne
      rcases List.mem_cons.1 hf with rfl | hf
      · exact absurd (hs.bnd k j c hb hj) hne
      · rw [List.getElem?_map, hs.frz j c hj hf]
        rfl
  · rcases List.mem_cons.1 hf with rfl | hf
    · exact hbg.2
    · exact hs.flt c hf
  · show Rep (stab B L') W L' (look (frzE k sz l σ.env) t) _
    rw [look_frz]
    exact (fr.env t).frz st hb hm (rowsE_look hre) hl

def ownNames : List String := ["withy/withylaw14.Cut"]

def emptyLit (ops : Array Oper) : Opd → Bool
  | .c (.slice none 0 0) => true
  | .t t => ops.any fun q => match q.dst, q.op with
    | some u, .buildSlice _ 0 _ => Nat.beq u t
    | _, _ => false
  | _ => false

def csp (P : Program) (ops : Array Oper) (o : Oper) : Option Sp :=
  match cop P o with
  | some (.call f xs) => match P.funcs[f]? with
    | some fn => if ownNames.contains fn.name = true then some (.callr f xs) else none
    | none => none
  | some (.app e sz b s x) => if emptyLit ops s = true then some (.appr e sz b s x) else none
  | some _ => none
  | none => match o.op with
    | .makeSlice T l c => match P.underlying T, cO l, cO c with
      | some (.slice e), some l, some c => match P.info? e with
        | some i => match i.zero with
          | some z => match z.cells.toList with
            | [z0] => if i.size = 1 ∧ 0 < i.bytes then some (.mks i.bytes z0 l c) else none
            | _ => none
          | none => none
        | none => none
      | _, _, _ => none
    | _ => none

theorem inv_call {f : FuncId} {xs : List Opd} (hc : cop P o = some (.call f xs)) : ∃ args ats, o.op = .call { callee := .value (.func f), args, argTypes := ats } ∧ cOs args.toList = some xs := by
  cases hop : o.op with
  | call c =>
    obtain ⟨callee, args, ats⟩ := c
    cases callee with
    | value g =>
      cases g with
      | func g =>
        simp only [cop, hop] at hc
        split at hc
        · rename_i h1 h2
          split at hc
          · cases hc
          · simp only [Option.some.injEq, DOp.call.injEq] at hc
            obtain ⟨rfl, rfl⟩ := hc
            exact ⟨args, ats, rfl, h2⟩
        · cases hc
      | _ => exfalso; simp [cop, hop] at hc <;> (repeat' split at hc) <;> simp_all
    | invoke r m => exfalso; simp [cop, hop] at hc <;> (repeat' split at hc) <;> simp_all
    | builtin b => exfalso; cases b <;> simp [cop, hop] at hc <;> (repeat' split at hc) <;> simp_all
  | _ => exfalso; simp [cop, hop] at hc <;> (repeat' split at hc) <;> simp_all

theorem sp_sound {ops : Array Oper} {s : Sp} {K : DV → St → Prop} (hc : csp P ops o = some s) (h : spR P I s σ K) (fr : Fr I B L W n σ a) (Kw : Act → World → Prop) (Q : Exit → Act → World → Prop)
    (hK : ∀ r σ' y L' W', K r σ' → σ'.env = σ.env → Rep (stab B L') W' L' r y → Sim I B L' W' σ'.loc σ'.ow → Step (stab B L) L W (stab B L') L' W' → Kw (a.put o.dst y) W') : o.wp P a W Kw Q := by
  have plain : ∀ {d : DOp}, cop P o = some d → dop P I d σ K → o.wp P a W Kw Q := fun hc h => by
    obtain ⟨r, σ', hk, he, ho⟩ := dop_sound hc h fr
    exact ho Kw Q fun y L' W' k1 k2 k3 => hK r σ' y L' W' hk he k1 k2 k3
  unfold csp at hc
  split at hc
  · rename_i f xs hcop
    split at hc
    · split at hc
      · simp only [Option.some.injEq] at hc
        subst hc
        rcases h with h | ⟨es, sz, l, h1, h2, h3, h4, h5⟩
        · exact plain hcop h
        · obtain ⟨args, ats, hop, hx⟩ := inv_call hcop
          exact neu_own h2 h3 h4 ((fr.evs hx).wk h1) fr.sim (run_call hop) Kw Q fun t y L' W' k1 k2 k3 => hK _ _ y L' W' (h5 t) rfl k1 k2 k3
      · cases hc
    · cases hc
  · rename_i e sz b s x hcop
    split at hc
    · simp only [Option.some.injEq] at hc
      subst hc
      rcases h with h | ⟨xs, k1, k2, ⟨k3, k4, k5⟩, k6, k7, k8, k9⟩
      · exact plain hcop h
      · obtain ⟨T, U, i, p, q, args, ats, hop, h1, h2, h3, h4, h5, h6, h7, h8, rfl, rfl, h9, h10⟩ := inv_app hcop
        have hxr := elems_rep (fr.ev h10) k1 k2
        have hsr := fr.ev h9
        have hse : ∃ ad0, a.eval p = .slice ad0 0 0 := by
          generalize D.ev σ.env s = d at hsr k5
          generalize a.eval p = v at hsr
          cases hsr with
          | v _ _ =>
            unfold noCap at k5
            split at k5
            · rename_i e; cases e; exact ⟨none, rfl⟩
            · rename_i e; cases e
            · cases k5
          | full _ sz' l' ad n' h =>
            have hl : l' = [] := by
              unfold noCap at k5
              split at k5
              · rename_i e; cases e
              · rename_i e; cases e; rfl
              · cases k5
            subst hl
            cases h with
            | list _ _ _ ys _ _ _ b o' q1 =>
              obtain rfl : n' = 0 := by simpa using q1.1
              exact ⟨ad, rfl⟩
          | _ => simp [noCap] at k5
        obtain ⟨ad0, hse⟩ := hse
        refine o_appr hop h1 h2 h3 h4 h5 h6 fr.sim hse hxr k6 k7 k8 ?_ Kw Q fun t y L' W' r1 r2 r3 => hK _ _ y L' W' (k9 t) rfl r1 r2 r3
        have : xs.length ≤ xs.length * i.bytes := Nat.le_mul_of_pos_right _ h8
        simp only [maxLen]
        omega
    · cases hc
  · cases hc
  · split at hc
    · rename_i hcop _ T l c hop
      split at hc
      · rename_i e l' c' hT hl hcc
        split at hc
        · rename_i i hi
          split at hc
          · rename_i z hz
            split at hc
            · rename_i z0 hz0
              split at hc
              · rename_i hh
                simp only [Option.some.injEq] at hc
                subst hc
                obtain ⟨k, k', m, h1, h2, h3, h4⟩ := h
                exact o_mks hop hT hi hz (z0 := z0) (by cases hzc : z.cells; rw [hzc] at hz0; simp only at hz0; rw [hz0]) hh.1 hl hcc fr h1 h2 h3 hh.2 Kw Q fun y L' W' r1 r2 r3 => hK _ _ y L' W' h4 rfl r1 r2 r3
              · cases hc
            · cases hc
          · cases hc
        · cases hc
      · cases hc
    · cases hc

def cx (P : Program) (n : Nat) (ops : Array Oper) (o : Oper) : Option XOp :=
  match csp P ops o with
  | some s => if (o.dst.all fun t => decide (t < n)) = true ∧ o.guard.isNone = true then some (.sp o.dst s) else none
  | none => (c1 P n ops o).map .op

def cxs (P : Program) (n : Nat) (ops : Array Oper) : List Oper → Option (List XOp)
  | [] => some []
  | o :: r => match cx P n ops o, cxs P n ops r with
    | some x, some l => some (x :: l)
    | _, _ => none

end
end Go.Proofs.YtlbodfkhenkcjaaGreatDoor.D


namespace Go.Proofs.YtlbodfkhenkcjaaGreatDoor.D
open Go Go.RowKit

def putsIn (os : List Op1) : Bool :=
  os.any fun p => match p.op with
    | .st _ (.t a) _ => os.any fun q => match q.dst, q.op with
      | some b, .ixa _ _ _ => Nat.beq a b
      | _, _ => false
    | _ => false
def putGh (b : Bool) (d : DCode) : DCode := match b with
  | true => .seq d .gh
  | false => d
def hasGh : DCode → Bool
  | .gh => true
  | .seq a b => hasGh a || hasGh b
  | .cond _ a b => hasGh a || hasGh b
  | .block _ a => hasGh a
  | .loop a => hasGh a
  | _ => false

def ccode (P : Program) (n : Nat) : Code → Option DCode
  | .skip => some .skip
  | .region _ ops draw => match !draw && ops.toList.any fun o => (csp P ops o).isSome with
    | true => (cxs P n ops ops.toList).map .xreg
    | false => match cops P n ops ops.toList with
      | some os => if draw = false ∨ drawOk ops.toList os = true then some (putGh (putsIn os) (.reg os)) else none
      | none => none
  | .seq a b => match ccode P n a, ccode P n b with
    | some x, some y => some (.seq x y)
    | _, _ => none
  | .cond c a b => match cO c, ccode P n a, ccode P n b with
    | some c, some x, some y => some (.cond c x y)
    | _, _, _ => none
  | .block id a => (ccode P n a).map fun d => putGh (hasGh d) (.block id d)
  | .loop a => (ccode P n a).map .loop
  | .scope a => ccode P n a
  | .exit id => some (.exit id)
  | .label _ => some .skip
  | .ret => some .ret
  | _ => none

section
variable {P : Program} {I : Inv} {B : Base} {n : Nat}

def conv : DExit → Exit
  | .normal => .normal
  | .exit id => .exit id
  | .ret => .ret

def QW (I : Inv) (B : Base) (n : Nat) (S0 : Nat → Nat → Prop) (L0 : Link) (W0 : World) (Q : DExit → St → Prop) (e : Exit) (a' : Act) (W' : World) : Prop :=
  ∃ de, e = conv de ∧ ∃ L' σ', Q de σ' ∧ Fr I B L' W' n σ' a' ∧ Step S0 L0 W0 (stab B L') L' W'

def LP (P : Program) (c : Code) (Q : Exit → Act → World → Prop) (a : Act) (w : World) : Prop :=
  ∀ (b : Frame) (k : List Item) (cs : List Frame), ∃ e a' w', Q e a' w' ∧ Arrives P (lone (b.at a (.code c :: .inLoop c :: k)) cs w) b k cs e a' w'

theorem wp_of_lp {c : Code} {Q : Exit → Act → World → Prop} {a : Act} {w : World} (h : LP P c Q a w) : (Code.loop c).wp P Q a w := by
  intro b k cs
  obtain ⟨e, a', w', hq, harr⟩ := h b k cs
  exact ⟨e, a', w', hq, .of_steps (.one step_loop) harr⟩

theorem lp_of_wp {c : Code} {Q : Exit → Act → World → Prop} {a : Act} {w : World} (h : c.wp P (Exit.then (LP P c Q) Q) a w) : LP P c Q a w := by
  intro b k cs
  obtain ⟨e, a₁, w₁, hq, harr⟩ := h b (.inLoop c :: k) cs
  cases e with
  | normal =>
    obtain ⟨e₂, a₂, w₂, hq₂, harr₂⟩ := hq b k cs
    exact ⟨e₂, a₂, w₂, hq₂, .of_steps (Steps.trans harr (.one step_inLoop)) harr₂⟩
  | exit id => exact ⟨_, a₁, w₁, hq, .pass (x := .inLoop c) rfl (fun _ _ => .inl (by simp)) harr⟩
  | goto l => exact ⟨_, a₁, w₁, hq, .pass (x := .inLoop c) rfl (fun _ _ => .inl (by simp)) harr⟩
  | ret => exact ⟨_, a₁, w₁, hq, .pass (x := .inLoop c) rfl (fun _ _ => .inl (by simp)) harr⟩
  | panic ch => exact ⟨_, a₁, w₁, hq, .pass (x := .inLoop c) rfl (fun _ _ => .inl (by simp)) harr⟩
  | outgrown => exact ⟨_, a₁, w₁, hq, .pass (x := .inLoop c) rfl (fun _ _ => .inl (by simp)) harr⟩

theorem Rep.keep {S S' : Nat → Nat → Prop} {W : World} {L : Link} {d : DV} {y : Value} (h : Rep S W L d y) : ∀ {L' : Link} {m k : Nat}, okD m k d = true → (∀ b o z, S b o → W.cell? ⟨b, o, none⟩ = some z → S' b o) → (∀ (j b : Nat), j < m → L.bx[j]? = some b → L'.bx[j]? = some b) →
    (∀ (id N : Nat) (C : Option Nat), id < k → L.ow[id]? = some (N, C) → L'.ow[id]? = some (N, C)) → Rep S' W L' d y := by
  have each : ∀ {m k : Nat} (cs : List DV), okL m k cs = true → ∀ (i : Nat) (d : DV), cs[i]? = some d → okD m k d = true := by
    intro m k cs
    induction cs with
    | nil => intro _ i d h; simp at h
    | cons c cs ih =>
      intro h i d hi
      simp only [okL, Bool.and_eq_true] at h
      cases i with
      | zero => simp at hi; subst hi; exact h.1
      | succ i => exact ih h.2 i d (by simpa using hi)
  induction h with
  | u L y => exact fun _ _ _ _ => .u _ y
  | v L x => exact fun _ _ _ _ => .v _ x
  | agg L cs ys hl _ ih => exact fun hk hS hb ho => .agg _ cs ys hl fun i d y h1 h2 => ih i d y h1 h2 (each cs (by simpa [okD] using hk) i d h1) hS hb ho
  | tup L cs ys hl _ ih => exact fun hk hS hb ho => .tup _ cs ys hl fun i d y h1 h2 => ih i d y h1 h2 (each cs (by simpa [okD] using hk) i d h1) hS hb ho
  | ifc L t x y _ ih => exact fun hk hS hb ho => .ifc _ t x y (ih (by simpa [okD] using hk) hS hb ho)
  | list L sz l ys a len cap b o h1 h3 h4 h5 h6 h7 h8 _ =>
    exact fun _ hS _ _ => .list _ sz l ys a len cap b o h1 h3 h4 h5 h6 (fun j y hj => ⟨hS _ _ y (h7 j y hj).1 (h7 j y hj).2, (h7 j y hj).2⟩) fun i d y q1 q2 =>
      (h8 i d y q1 q2).step ⟨fun b o z a c => ⟨hS b o z a c, c⟩, fun k b h => by simp [noLink] at h, fun id N B h => by simp [noLink] at h⟩
  | own L id e sz l y N B _ h2 h3 h4 ih =>
    intro L' m k hk hS hb ho
    have hid : id < k := by simpa [okD] using hk
    exact .own _ id e sz l y N B (ih (m := m) (k := k) rfl hS hb ho) (ho id N B hid h2) h3 h4
  | full L sz l a n _ ih => exact fun _ hS hb ho => .full _ sz l a n (ih rfl hS hb ho)
  | lp L k off b h => exact fun hk hS hb ho => .lp _ k off b (hb k b (by simpa [okD] using hk) h)
  | row L k sz n b cap h hc => exact fun hk hS hb ho => .row _ k sz n b cap (hb k b (by simpa [okD] using hk) h) hc
  | ep L x off b o ys h1 h2 h3 _ =>
    exact fun _ hS _ _ => .ep _ x off b o ys h1 (fun j y hj => ⟨hS _ _ y (h2 j y hj).1 (h2 j y hj).2, (h2 j y hj).2⟩) fun i d y q1 q2 =>
      (h3 i d y q1 q2).step ⟨fun b o z a c => ⟨hS b o z a c, c⟩, fun k b h => by simp [noLink] at h, fun id N B h => by simp [noLink] at h⟩
  | fn L f cs ys hl _ ih => exact fun hk hS hb ho => .fn _ f cs ys hl fun i d y h1 h2 => ih i d y h1 h2 (each cs (by simpa [okD] using hk) i d h1) hS hb ho

theorem lessE_look {m k z : Nat} {env : List (Nat × DV)} : ∀ {l : List (Nat × DV)}, lessE m k z env l → ∀ t, LtD m k z (look env t) (look l t)
  | [], _, t => .u
  | (n, d) :: r, h, t => by
    obtain ⟨h1, h2⟩ := h
    rw [look_cons]
    split
    · rename_i e; subst e; exact h1
    · exact lessE_look h2 t

theorem Sim.cut {L : Link} {W : World} {loc : List (List DV)} {ow : List Nat} (hs : Sim I B L W loc ow) {m k z : Nat} (h3 : okLL m k (loc.take m) = true) (h5 : k ≤ ow.length) :
    ∃ L', Sim I B L' W (loc.take m) (ow.take k ++ List.replicate z 0) ∧ (∀ (d d' : DV) (y : Value), Rep (stab B L) W L d y → LtD m k z d d' → Rep (stab B L') W L' d' y) ∧
      ∀ (S0 : Nat → Nat → Prop) (L0 : Link) (W0 : World), L0.bx.length ≤ m → L0.ow.length ≤ k → Step S0 L0 W0 (stab B L) L W → Step S0 L0 W0 (stab B L') L' W := by
  let L' : Link := ⟨L.bx.take m, L.ow.take k ++ List.replicate z (0, none), L.fz⟩
  have howl : L.ow.length = ow.length := by rw [← hs.olen]; simp
  have hbx : ∀ (j b : Nat), L'.bx[j]? = some b → j < m ∧ L.bx[j]? = some b := by
    intro j b hj
    have hj : (L.bx.take m)[j]? = some b := hj
    rw [List.getElem?_take] at hj
    split at hj
    · rename_i hlt; exact ⟨hlt, hj⟩
    · cases hj
  have how : ∀ (id N g : Nat), L'.ow[id]? = some (N, some g) → L.ow[id]? = some (N, some g) := by
    intro id N g hj
    have hj : (L.ow.take k ++ List.replicate z (0, none))[id]? = some (N, some g) := hj
    rw [List.getElem?_append] at hj
    split at hj
    · rw [List.getElem?_take] at hj
      split at hj
      · exact hj
      · cases hj
    · rw [List.getElem?_replicate] at hj
      split at hj
      · simp at hj
      · cases hj
  have hbx' : ∀ (j b : Nat), j < m → L.bx[j]? = some b → L'.bx[j]? = some b := by
    intro j b hj hb
    show (L.bx.take m)[j]? = some b
    rw [List.getElem?_take, if_pos hj]
    exact hb
  have how' : ∀ (id N : Nat) (C : Option Nat), id < k → L.ow[id]? = some (N, C) → L'.ow[id]? = some (N, C) := by
    intro id N C hid ho
    show (L.ow.take k ++ List.replicate z (0, none))[id]? = some (N, C)
    rw [List.getElem?_append_left (by simp; omega), List.getElem?_take, if_pos hid]
    exact ho
  have hstab : ∀ (b o : Nat) (y : Value), stab B L b o → W.cell? ⟨b, o, none⟩ = some y → stab B L' b o := by
    intro b o y hst _
    rcases hst with hst | ⟨q1, q2, q3⟩
    · exact .inl hst
    · refine .inr ⟨q1, q2.imp (fun q2 hm => q2 (List.mem_of_mem_take hm)) id, fun id N ho => q3 id N (how id N b ho)⟩
  refine ⟨L', ⟨hs.inv, hs.below, ?_, fun j b hj => hs.bge j b (hbx j b hj).2, fun i j b hi hj => hs.bnd i j b (hbx i b hi).2 (hbx j b hj).2, fun j cs hj => ?_, ?_, fun id N g ho => ?_, fun i j N M g hi hj => hs.ond i j N M g (how i N g hi) (how j M g hj), fun j b hj hf => by rw [List.getElem?_take, if_pos (hbx j b hj).1]; exact hs.frz j b (hbx j b hj).2 hf, hs.flt⟩, fun d d' y hr hl => ?_, fun S0 L0 W0 hm0 hk0 st => ?_⟩
  · show (L.bx.take m).length = _
    simp [hs.blen]
  · have hok : ∀ (l : List (List DV)), okLL m k l = true → ∀ (j : Nat) (cs : List DV), l[j]? = some cs → okL m k cs = true := by
      intro l
      induction l with
      | nil => intro _ j cs h; simp at h
      | cons c l ih =>
        intro h j cs hj
        simp only [okLL, Bool.and_eq_true] at h
        cases j with
        | zero => simp at hj; subst hj; exact h.1
        | succ j => exact ih h.2 j cs (by simpa using hj)
    have hcs := hok _ h3 j cs hj
    rw [List.getElem?_take] at hj
    split at hj
    · rename_i hlt
      obtain ⟨b, ys, T, q1, q2, q3⟩ := hs.box j cs hj
      refine ⟨b, ys, T, hbx' j b hlt q1, q2, fun hf => ⟨(q3 hf).1, fun i d y hi hy => ?_⟩⟩
      have hd : ∀ (cs : List DV), okL m k cs = true → ∀ (i : Nat) (d : DV), cs[i]? = some d → okD m k d = true := by
        intro cs
        induction cs with
        | nil => intro _ i d h; simp at h
        | cons c cs ih =>
          intro h i d hi
          simp only [okL, Bool.and_eq_true] at h
          cases i with
          | zero => simp at hi; subst hi; exact h.1
          | succ i => exact ih h.2 i d (by simpa using hi)
      exact ((q3 hf).2 i d y hi hy).keep (hd cs hcs i d hi) hstab hbx' how'
    · cases hj
  · rw [← hs.olen]
    show (L.ow.take k ++ List.replicate z ((0, none) : Nat × Option Nat)).map (fun p => p.1) = _
    simp [List.map_take]
  · have := hs.oge id N g (how id N g ho)
    exact ⟨this.1, this.2.1, fun hm => this.2.2 (List.mem_of_mem_take hm)⟩
  · cases hl with
    | same hok => exact hr.keep hok hstab hbx' how'
    | wk hw =>
      exact ((hr.wk hw).step ⟨fun b o z a c => ⟨hstab b o z a c, c⟩, fun k b h => by simp [noLink] at h, fun id N B h => by simp [noLink] at h⟩).lift rfl L'
    | u => exact .u _ _
    | own q1 q2 =>
      rename_i id e sz
      cases hr
      have i1 : k ≤ id := Nat.le_of_ble_eq_true q1
      have i2 : id < k + z := by simpa using q2
      refine .own _ id e sz [] _ 0 none (.list _ sz [] [] none 0 0 0 0 ⟨rfl, Nat.le_refl _⟩ (by simp) (by simp) (by simp) rfl (by simp) (by simp)) ?_ (by simp) (fun _ => .inl ⟨⟨_, rfl⟩, rfl, rfl⟩)
      show (L.ow.take k ++ List.replicate z (0, none))[id]? = some (0, none)
      rw [List.getElem?_append_right (by simp; omega), List.length_take, Nat.min_eq_left (by omega), List.getElem?_replicate, if_pos (by omega)]
    | ownf q1 q2 =>
      rename_i id e sz
      cases hr with
      | full _ _ _ ad n0 hr =>
        have i1 : k ≤ id := Nat.le_of_ble_eq_true q1
        have i2 : id < k + z := by simpa using q2
        obtain rfl : n0 = 0 := by cases hr with | list _ _ _ ys _ _ _ b o h1 => simpa using h1.1
        refine .own _ id e sz [] _ 0 none (.list _ sz [] [] ad 0 0 0 0 ⟨rfl, Nat.le_refl _⟩ (by simp) (by simp) (by simp) rfl (by simp) (by simp)) ?_ (by simp) (fun _ => .inl ⟨⟨_, rfl⟩, rfl, rfl⟩)
        show (L.ow.take k ++ List.replicate z (0, none))[id]? = some (0, none)
        rw [List.getElem?_append_right (by simp; omega), List.length_take, Nat.min_eq_left (by omega), List.getElem?_replicate, if_pos (by omega)]
  · refine ⟨fun b o y q1 q2 => ?_, fun j b hj => ?_, fun id N C ho => ?_⟩
    · obtain ⟨w1, w2⟩ := st.cell b o y q1 q2
      exact ⟨hstab b o y w1 w2, w2⟩
    · have : j < L0.bx.length := (List.getElem?_eq_some_iff.1 hj).1
      exact hbx' j b (by omega) (st.bx j b hj)
    · have : id < L0.ow.length := (List.getElem?_eq_some_iff.1 ho).1
      obtain ⟨N', C', w1, w2, w3⟩ := st.ow id N C ho
      exact ⟨N', C', how' id N' C' (by omega) w1, w2, w3⟩

theorem Fr.less {L : Link} {W : World} {σ σ' : St} {a : Act} {m0 k0 : Nat} (fr : Fr I B L W n σ a) (h : Less m0 k0 σ' σ) : ∃ L', Fr I B L' W n σ' a ∧
    ∀ (S0 : Nat → Nat → Prop) (L0 : Link) (W0 : World), L0.bx.length ≤ m0 → L0.ow.length ≤ k0 → Step S0 L0 W0 (stab B L) L W → Step S0 L0 W0 (stab B L') L' W := by
  obtain ⟨m, k, z, g1, g2, h1, h2, h3, h4, h5⟩ := h
  replace g1 := Nat.le_of_ble_eq_true g1
  replace g2 := Nat.le_of_ble_eq_true g2
  rw [h2] at h3
  obtain ⟨L', q1, q2, q3⟩ := fr.sim.cut (z := z) h3 (Nat.le_of_ble_eq_true h5)
  refine ⟨L', ⟨by rw [h2, h4]; exact q1, fun t => q2 _ _ _ (fr.env t) (lessE_look h1 t), fr.size, fr.defers⟩, fun S0 L0 W0 hm hk st => q3 S0 L0 W0 (by omega) (by omega) st⟩

theorem dxops_sound {ops : Array Oper} {L0 : Link} {W0 : World} {K : St → Prop} : ∀ (m k : Nat) (os : List XOp) (σ : St) (a : Act) (W : World) (L : Link), ops.size - k = m → cxs P n ops (ops.toList.drop k) = some os → dxops P I os σ K →
    Fr I B L W n σ a → Step (stab B L0) L0 W0 (stab B L) L W → wpOps P ops (fun e a' W' => e = .normal ∧ QS I B n L0 W0 K a' W') (List.range' k m) a W
  | 0, k, os, σ, a, W, L, hm, hc, h, fr, st => by
    have : ops.toList.drop k = [] := List.drop_eq_nil_of_le (by simp; omega)
    rw [this] at hc
    simp only [cxs, Option.some.injEq] at hc
    subst hc
    exact ⟨rfl, L, σ, h, fr, st⟩
  | m + 1, k, os, σ, a, W, L, hm, hc, h, fr, st => by
    have hk : k < ops.size := by omega
    have hdrop : ops.toList.drop k = ops[k] :: ops.toList.drop (k + 1) := by rw [List.drop_eq_getElem_cons (by simpa using hk)]; simp
    rw [hdrop] at hc
    simp only [cxs] at hc
    split at hc
    · rename_i o1 os' h1 h2
      simp only [Option.some.injEq] at hc
      subst hc
      simp only [List.range'_succ, wpOps, Array.getElem?_eq_getElem hk]
      unfold cx at h1
      split at h1
      · rename_i s hs
        split at h1
        · rename_i hh
          simp only [Option.some.injEq] at h1
          subst h1
          have hw : Region.wanted ops[k] (yielded ops a.tmps) = true := by
            have := Option.isNone_iff_eq_none.1 hh.2
            simp [Region.wanted, this]
          rw [if_pos hw]
          refine .inl ?_
          refine sp_sound hs h fr _ _ fun r σ' y L' W' hk' he k1 k2 k3 => ?_
          have fr' := fr.put k3 k2 k1 (dst := ops[k].dst) (fun t ht => by have := hh.1; rw [ht] at this; simpa using this)
          rw [← he] at fr'
          exact dxops_sound m (k + 1) os' _ _ W' L' (by omega) h2 hk' fr' (st.trans k3)
        · cases h1
      · simp only [Option.map_eq_some_iff] at h1
        obtain ⟨o2, h1, rfl⟩ := h1
        rcases c1_wanted h1 fr h with ⟨hw, d, hd, _, hdop⟩ | ⟨hw, hK⟩
        · rw [if_pos hw]
          refine .inl ?_
          obtain ⟨r, σ', hk', he, ho⟩ := dop_sound hd hdop fr
          refine ho _ _ fun y L' W' k1 k2 k3 => ?_
          have fr' := fr.put k3 k2 k1 (c1_dst h1)
          rw [← he] at fr'
          exact dxops_sound m (k + 1) os' _ _ W' L' (by omega) h2 hk' fr' (st.trans k3)
        · rw [if_neg (by rw [hw]; simp)]
          exact dxops_sound m (k + 1) os' _ _ W L (by omega) h2 hK (fr.put (Step.refl _ _ _) fr.sim (.v _ _) (c1_dst h1)) st
    · cases hc
theorem xreg_sound {ops : Array Oper} {os : List XOp} {id : Nat} {σ : St} {a : Act} {W : World} {L : Link} {K : St → Prop} (hc : cxs P n ops ops.toList = some os) (h : dxops P I os σ K) (fr : Fr I B L W n σ a) :
    (Code.region id ops false).wp P (fun e a' W' => e = .normal ∧ QS I B n L W K a' W') a W := by
  refine wp_region ?_
  rw [List.range_eq_range']
  exact dxops_sound ops.size 0 os σ a W L (by omega) (by simpa using hc) h fr (Step.refl _ _ _)
theorem gh_fin {m0 k0 : Nat} {S0 : Nat → Nat → Prop} {L0 : Link} {W0 : World} {Q : DExit → St → Prop} {L : Link} {W' : World} {σ : St} {a' : Act} (h : dwp P I m0 k0 .gh σ Q) (fr : Fr I B L W' n σ a') (st : Step S0 L0 W0 (stab B L) L W') : QW I B n S0 L0 W0 Q .normal a' W' := by
  rcases h with h | ⟨k, sz, m, l, h1, h2, h3, h4, h5⟩
  · exact ⟨.normal, rfl, L, σ, h, fr, st⟩
  · obtain ⟨L', q1, q2⟩ := fr.frz h1 h2 h3 h4
    exact ⟨.normal, rfl, L', _, h5, q1, st.trans q2⟩

theorem dwp_sound (hmix : P.follows .mixedOrders = true) {m0 k0 : Nat} {S0 : Nat → Nat → Prop} {L0 : Link} {W0 : World} (hm0 : L0.bx.length ≤ m0) (hk0 : L0.ow.length ≤ k0) : ∀ (c : Code) (d : DCode), ccode P n c = some d → ∀ (σ : St) (Q : DExit → St → Prop) (a : Act) (W : World) (L : Link), dwp P I m0 k0 d σ Q → Fr I B L W n σ a → Step S0 L0 W0 (stab B L) L W → c.wp P (QW I B n S0 L0 W0 Q) a W := by
  intro c
  induction c with
  | skip =>
    intro d hc σ Q a W L h fr st
    simp only [ccode, Option.some.injEq] at hc
    subst hc
    exact wp_skip ⟨.normal, rfl, L, σ, h, fr, st⟩
  | region id ops draw =>
    intro d hc σ Q a W L h fr st
    simp only [ccode] at hc
    split at hc
    · rename_i hx
      simp only [Option.map_eq_some_iff] at hc
      obtain ⟨xs, hxs, rfl⟩ := hc
      simp only [Bool.and_eq_true, Bool.not_eq_true'] at hx
      obtain ⟨rfl, _⟩ := hx
      exact wp_mono (xreg_sound hxs h fr) fun e a' W' ⟨he, L', σ', h1, h2, h3⟩ => ⟨.normal, he, L', σ', h1, h2, st.trans h3⟩
    split at hc
    · rename_i os hos
      split at hc
      · rename_i hd
        simp only [Option.some.injEq] at hc
        subst hc
        unfold putGh at h
        split at h
        · have fin : ∀ e a' W', (e = Exit.normal ∧ QS I B n L W (fun σ' => dwp P I m0 k0 .gh σ' Q) a' W') → QW I B n S0 L0 W0 Q e a' W' := fun e a' W' ⟨he, L', σ', h1, h2, h3⟩ => by subst he; exact gh_fin h1 h2 (st.trans h3)
          cases draw with
          | false => exact wp_mono (reg_sound hos h fr) fin
          | true => exact wp_mono (draw_sound hmix hos (hd.resolve_left (by simp)) h fr) fin
        · have fin : ∀ e a' W', (e = Exit.normal ∧ QS I B n L W (Q .normal) a' W') → QW I B n S0 L0 W0 Q e a' W' := fun e a' W' ⟨he, L', σ', h1, h2, h3⟩ => ⟨.normal, he, L', σ', h1, h2, st.trans h3⟩
          cases draw with
          | false => exact wp_mono (reg_sound hos h fr) fin
          | true => exact wp_mono (draw_sound hmix hos (hd.resolve_left (by simp)) h fr) fin
      · cases hc
    · cases hc
  | seq x y ihx ihy =>
    intro d hc σ Q a W L h fr st
    simp only [ccode] at hc
    split at hc
    · rename_i dx dy hx hy
      simp only [Option.some.injEq] at hc
      subst hc
      refine wp_seq (wp_mono (ihx dx hx σ _ a W L h fr st) fun e a' W' hq => ?_)
      obtain ⟨de, he, L', σ', hk, fr', st'⟩ := hq
      subst he
      cases de with
      | normal => exact ihy dy hy σ' Q a' W' L' hk fr' st'
      | exit id => exact ⟨.exit id, rfl, L', σ', hk, fr', st'⟩
      | ret => exact ⟨.ret, rfl, L', σ', hk, fr', st'⟩
    · cases hc
  | cond x y z ihy ihz =>
    intro d hc σ Q a W L h fr st
    simp only [ccode] at hc
    split at hc
    · rename_i cx dy dz hx hy hz
      simp only [Option.some.injEq] at hc
      subst hc
      simp only [dwp] at h
      have hr := fr.ev hx
      split at h
      · rename_i t ht
        rw [ht] at hr
        generalize hv : a.eval x = v at hr
        cases hr
        refine wp_cond hv ?_
        cases t
        · exact ihz dz hz σ Q a W L (h.2 rfl) fr st
        · exact ihy dy hy σ Q a W L (h.1 rfl) fr st
      · exact h.elim
    · cases hc
  | block id x ih =>
    intro d hc σ Q a W L h fr st
    simp only [ccode, Option.map_eq_some_iff] at hc
    obtain ⟨dx, hx, rfl⟩ := hc
    have hblk : ∀ Q', dwp P I m0 k0 (.block id dx) σ Q' → (Code.block id x).wp P (QW I B n S0 L0 W0 Q') a W := by
      intro Q h
      refine wp_block (wp_mono (ih dx hx σ _ a W L h fr st) fun e a' W' hq => ?_)
      obtain ⟨de, he, L', σ', hk, fr', st'⟩ := hq
      subst he
      cases de with
      | normal => exact ⟨.normal, rfl, L', σ', hk, fr', st'⟩
      | exit j =>
        simp only [conv, Exit.inBlock] at hk ⊢
        split at hk
        · rename_i e
          rw [if_pos e]
          exact ⟨.normal, rfl, L', σ', hk, fr', st'⟩
        · rename_i e
          rw [if_neg e]
          exact ⟨.exit j, rfl, L', σ', hk, fr', st'⟩
      | ret => exact ⟨.ret, rfl, L', σ', hk, fr', st'⟩
    unfold putGh at h
    split at h
    rotate_left
    · exact hblk Q h
    have h' : dwp P I m0 k0 (.block id dx) σ (fun e σ' => match e with
      | .normal => dwp P I m0 k0 .gh σ' Q
      | e => Q e σ') := h
    refine wp_mono (hblk _ h') fun e a' W' hq => ?_
    obtain ⟨de, he, L', σ', hk, fr', st'⟩ := hq
    subst he
    cases de with
    | normal => exact gh_fin hk fr' st'
    | exit j => exact ⟨.exit j, rfl, L', σ', hk, fr', st'⟩
    | ret => exact ⟨.ret, rfl, L', σ', hk, fr', st'⟩
  | loop x ih =>
    intro d hc σ Q a W L h fr st
    simp only [ccode, Option.map_eq_some_iff] at hc
    obtain ⟨dx, hx, rfl⟩ := hc
    refine wp_of_lp ?_
    have key := h.out (fun σ1 => ∀ (a1 : Act) (W1 : World) (L1 : Link), Fr I B L1 W1 n σ1 a1 → Step S0 L0 W0 (stab B L1) L1 W1 → LP P x (QW I B n S0 L0 W0 Q) a1 W1) ?_
    · exact key a W L fr st
    · intro σ1 h1 a1 W1 L1 fr1 st1
      obtain ⟨σ1', hless, h1⟩ := h1
      obtain ⟨L1', fr1', hst1⟩ := fr1.less hless
      refine lp_of_wp (wp_mono (ih dx hx σ1' _ a1 W1 L1' h1 fr1' (hst1 S0 L0 W0 hm0 hk0 st1)) fun e a2 W2 hq => ?_)
      obtain ⟨de, he, L2, σ2, hk, fr2, st2⟩ := hq
      subst he
      cases de with
      | normal => exact hk a2 W2 L2 fr2 st2
      | exit j => exact ⟨.exit j, rfl, L2, σ2, hk, fr2, st2⟩
      | ret => exact ⟨.ret, rfl, L2, σ2, hk, fr2, st2⟩
  | scope x ih =>
    intro d hc σ Q a W L h fr st
    simp only [ccode] at hc
    refine wp_scope_straight (wp_mono (ih d hc σ Q a W L h fr st) fun e a' W' hq => ?_)
    obtain ⟨de, he, hq⟩ := hq
    subst he
    cases de with
    | normal => exact ⟨.normal, rfl, hq⟩
    | exit j => exact ⟨.exit j, rfl, hq⟩
    | ret => exact ⟨.ret, rfl, hq⟩
  | label l =>
    intro d hc σ Q a W L h fr st
    simp only [ccode, Option.some.injEq] at hc
    subst hc
    exact wp_label ⟨.normal, rfl, L, σ, h, fr, st⟩
  | exit id =>
    intro d hc σ Q a W L h fr st
    simp only [ccode, Option.some.injEq] at hc
    subst hc
    exact wp_exit ⟨.exit id, rfl, L, σ, h, fr, st⟩
  | ret =>
    intro d hc σ Q a W L h fr st
    simp only [ccode, Option.some.injEq] at hc
    subst hc
    exact wp_ret ⟨.ret, rfl, L, σ, h, fr, st⟩
  | _ => intro d hc; simp [ccode] at hc

theorem dops_mono {K K' : St → Prop} (hk : ∀ σ, K σ → K' σ) : ∀ {os : List Op1} {σ : St}, dops P I os σ K → dops P I os σ K'
  | [], _, h => hk _ h
  | o :: os, σ, h => by
    simp only [dops] at h ⊢
    exact dop1_mono h fun σ' h => dops_mono hk h

theorem DLoop.mono {m0 k0 : Nat} {body : St → (DExit → St → Prop) → Prop} (hb : ∀ (σ : St) (Q Q' : DExit → St → Prop), body σ Q → (∀ e τ, Q e τ → Q' e τ) → body σ Q') {σ : St} {Q Q' : DExit → St → Prop} (h : DLoop m0 k0 body σ Q) (hq : ∀ e τ, Q e τ → Q' e τ) : DLoop m0 k0 body σ Q' := by
  refine ⟨fun X hX => h.out X fun σ ⟨σ', h1, h2⟩ => hX σ ⟨σ', h1, hb _ _ _ h2 fun e τ hh => ?_⟩⟩
  cases e with
  | normal => exact hh
  | exit id => exact hq _ _ hh
  | ret => exact hq _ _ hh

theorem dop_mono {d : DOp} {σ : St} {K K' : DV → St → Prop} (h : dop P I d σ K) (hk : ∀ r σ', K r σ' → K' r σ') : dop P I d σ K' := by
  obtain ⟨r, e, h1, h2⟩ := res0_of h
  exact dop_of h1 (hk _ _ h2)
theorem spR_mono {s : Sp} {σ : St} {K K' : DV → St → Prop} (h : spR P I s σ K) (hk : ∀ r σ', K r σ' → K' r σ') : spR P I s σ K' := by
  cases s with
  | mks b z l c => obtain ⟨k, k', n, h1, h2, h3, h4⟩ := h; exact ⟨k, k', n, h1, h2, h3, hk _ _ h4⟩
  | callr f xs =>
    rcases h with h | ⟨es, sz, l, h1, h2, h3, h4, h5⟩
    · exact .inl (dop_mono h hk)
    · exact .inr ⟨es, sz, l, h1, h2, h3, h4, fun t => hk _ _ (h5 t)⟩
  | appr e sz b s x =>
    rcases h with h | ⟨xs, h1, h2, h3, h4, h5, h6, h7⟩
    · exact .inl (dop_mono h hk)
    · exact .inr ⟨xs, h1, h2, h3, h4, h5, h6, fun t => hk _ _ (h7 t)⟩
theorem dxops_mono {K K' : St → Prop} (hk : ∀ σ, K σ → K' σ) : ∀ {os : List XOp} {σ : St}, dxops P I os σ K → dxops P I os σ K'
  | [], _, h => hk _ h
  | .op _ :: _, _, h => dop1_mono h fun _ h => dxops_mono hk h
  | .sp _ _ :: _, _, h => spR_mono h fun _ _ h => dxops_mono hk h

theorem dwp_mono {m0 k0 : Nat} : ∀ {d : DCode} {σ : St} {Q Q' : DExit → St → Prop}, dwp P I m0 k0 d σ Q → (∀ e τ, Q e τ → Q' e τ) → dwp P I m0 k0 d σ Q' := by
  intro d
  induction d with
  | skip => intro σ Q Q' h hq; exact hq _ _ h
  | reg ops => intro σ Q Q' h hq; exact dops_mono (fun σ h => hq _ _ h) h
  | xreg ops => intro σ Q Q' h hq; exact dxops_mono (fun σ h => hq _ _ h) h
  | gh =>
    intro σ Q Q' h hq
    rcases h with h | ⟨k, sz, m, l, h1, h2, h3, h4, h5⟩
    · exact .inl (hq _ _ h)
    · exact .inr ⟨k, sz, m, l, h1, h2, h3, h4, hq _ _ h5⟩
  | seq a b iha ihb =>
    intro σ Q Q' h hq
    refine iha h fun e τ hh => ?_
    cases e with
    | normal => exact ihb hh hq
    | exit id => exact hq _ _ hh
    | ret => exact hq _ _ hh
  | cond c a b iha ihb =>
    intro σ Q Q' h hq
    simp only [dwp] at h ⊢
    split at h
    · exact ⟨fun t => iha (h.1 t) hq, fun t => ihb (h.2 t) hq⟩
    · exact h.elim
  | block id a ih =>
    intro σ Q Q' h hq
    refine ih h fun e τ hh => ?_
    cases e with
    | normal => exact hq _ _ hh
    | exit j =>
      simp only at hh ⊢
      split at hh
      · rename_i e; rw [if_pos e]; exact hq _ _ hh
      · rename_i e; rw [if_neg e]; exact hq _ _ hh
    | ret => exact hq _ _ hh
  | loop a ih =>
    intro σ Q Q' h hq
    exact DLoop.mono (body := fun σ Q => dwp P I m0 k0 a σ Q) (fun σ Q Q' h hq => ih h hq) h hq
  | exit id => intro σ Q Q' h hq; exact hq _ _ h
  | ret => intro σ Q Q' h hq; exact hq _ _ h

theorem DLoop.ind {m0 k0 : Nat} {α : Type} {body : St → (DExit → St → Prop) → Prop} (hb : ∀ (σ : St) (Q Q' : DExit → St → Prop), body σ Q → (∀ e τ, Q e τ → Q' e τ) → body σ Q') {σ : St} {Q : DExit → St → Prop}
    (R : α → St) (Pv : α → Prop) (μ : α → Nat) (v0 : α) (h0 : Less m0 k0 (R v0) σ) (hP : Pv v0)
    (step : ∀ v, Pv v → body (R v) (fun e τ => match e with
      | .normal => ∃ v', Less m0 k0 (R v') τ ∧ Pv v' ∧ μ v' < μ v
      | e => Q e τ)) : DLoop m0 k0 body σ Q := by
  refine ⟨fun X hX => ?_⟩
  have main : ∀ k v, μ v = k → Pv v → ∀ τ, Less m0 k0 (R v) τ → X τ := by
    intro k
    induction k using Nat.strongRecOn with
    | _ k ih =>
      intro v hk hv τ hl
      refine hX τ ⟨R v, hl, hb _ _ _ (step v hv) fun e τ' hh => ?_⟩
      cases e with
      | normal =>
        obtain ⟨v', h1, h2, h3⟩ := hh
        exact ih (μ v') (by omega) v' rfl h2 τ' h1
      | exit id => exact hh
      | ret => exact hh
  exact main (μ v0) v0 rfl hP σ h0

theorem loop_ind {m0 k0 : Nat} {α : Type} {a : DCode} {σ : St} {Q : DExit → St → Prop} (R : α → St) (Pv : α → Prop) (μ : α → Nat) (v0 : α) (h0 : Less m0 k0 (R v0) σ) (hP : Pv v0)
    (step : ∀ v, Pv v → dwp P I m0 k0 a (R v) (fun e τ => match e with
      | .normal => ∃ v', Less m0 k0 (R v') τ ∧ Pv v' ∧ μ v' < μ v
      | e => Q e τ)) : DLoop m0 k0 (fun σ Q => dwp P I m0 k0 a σ Q) σ Q :=
  DLoop.ind (body := fun σ Q => dwp P I m0 k0 a σ Q) (fun _ _ _ h hq => dwp_mono h hq) R Pv μ v0 h0 hP step

structure DFun where
  n : Nat
  res : List DRes
  code : DCode

def resC (P : Program) : List ResultVar → Option (List DRes)
  | [] => some []
  | .tmp t :: r => (resC P r).map (.t t :: ·)
  | .cell t T :: r => match formP P T, resC P r with
    | some (m, g), some l => some (.c t m g :: l)
    | _, _ => none

def cfun (P : Program) (f : FuncId) : Option DFun :=
  match P.funcs[f]? with
  | some fn => match fn.body, resC P fn.results.toList with
    | some c, some res => if callable P f = true then (ccode P fn.ntmps c).map fun d => ⟨fn.ntmps, res, d⟩ else none
    | _, _ => none
  | none => none

def env0 (k : Nat) : List DV → List (Nat × DV)
  | [] => []
  | d :: r => (k, d) :: env0 (k + 1) r

theorem look_env0 : ∀ (k : Nat) (ds : List DV) (t : Nat), look (env0 k ds) t = if k ≤ t then (ds[t - k]?).getD .u else .u
  | k, [], t => by simp [env0, look]
  | k, d :: r, t => by
    simp only [env0, look_cons]
    by_cases h : t = k
    · subst h; simp
    · rw [if_neg h, look_env0 (k + 1) r t]
      by_cases h1 : k + 1 ≤ t
      · rw [if_pos h1, if_pos (by omega)]
        have : t - k = (t - (k + 1)) + 1 := by omega
        rw [this]
        simp
      · rw [if_neg h1]
        by_cases h2 : k ≤ t
        · omega
        · rw [if_neg h2]

theorem res_sound {L : Link} {W : World} {σ : St} {a : Act} (fr : Fr I B L W n σ a) (g : ResultVar → Sem Value) (hg : ∀ t, g (.tmp t) = pure (a.tmps.getD t undef)) (hg' : ∀ t T, g (.cell t T) = (do loadVar T (← asAddr (a.tmps.getD t undef)))) :
    ∀ (l : List ResultVar) (rs : List DRes) (K : List DV → Prop), resC P l = some rs → resD rs σ K → ∃ ds ys, K ds ∧ RepL (stab B L) W L ds ys ∧ (l.mapM g).run P W = Result.ok ys W
  | [], rs, K, h, hk => by
    simp only [resC, Option.some.injEq] at h
    subst h
    exact ⟨[], [], hk, .nil, by simp⟩
  | .tmp t :: l, rs, K, h, hk => by
    simp only [resC, Option.map_eq_some_iff] at h
    obtain ⟨rs', h1, rfl⟩ := h
    obtain ⟨ds, ys, k1, k2, k3⟩ := res_sound fr g hg hg' l rs' _ h1 hk
    refine ⟨_, _, k1, .cons (fr.env t) k2, ?_⟩
    rw [List.mapM_cons, hg]
    simp [k3]
  | .cell t T :: l, rs, K, h, hk => by
    simp only [resC] at h
    split at h
    · rename_i m g' rs' h1 h2
      simp only [Option.some.injEq] at h
      subst h
      simp only [resD, res1D] at hk
      have hr := fr.env t
      split at hk
      · rename_i k off hkk
        rw [hkk] at hr
        obtain ⟨cs, q1, q2, q3⟩ := hk
        replace q2 := Nat.le_of_ble_eq_true q2
        generalize hv : a.tmps.getD t undef = v at hr
        cases hr with
        | lp _ _ _ b hb =>
          obtain ⟨zs, w3, w2⟩ := fr.sim.cells q1 hb
          obtain ⟨y, hy, hyr⟩ := run_ld (P := P) (b := b) (o := off) h1 (w3.drop off) (fun j y hj => w2 _ y (by simpa using hj)) (by simp; omega)
          obtain ⟨ds, ys, k1, k2, k3⟩ := res_sound fr g hg hg' l rs' _ h2 q3
          refine ⟨_, _, k1, .cons hyr k2, ?_⟩
          have hy' : (loadVar T ⟨b, off, none⟩).run P W = .ok y W := by simpa [Instr.loadAt, Instr.sureAddr] using hy
          rw [List.mapM_cons, hg', hv]
          simp [asAddr, hy', k3]
      · exact hk.elim
    · cases h

def resV (ys : List Value) : Value :=
  match ys with
  | [y] => y
  | ys => .tuple ys.toArray

theorem results_run {L : Link} {W : World} {fn : Func} {σ : St} {a : Act} {rs : List DRes} {K : List DV → Prop} (fr : Fr I B L W n σ a) (h : resC P fn.results.toList = some rs) (hk : resD rs σ K) :
    ∃ ds y, K ds ∧ Rep (stab B L) W L (pack ds) y ∧ (Go.results fn a.tmps).run P W = .ok y W := by
  let g : ResultVar → Sem Value := fun
    | .tmp t => pure (a.tmps.getD t undef)
    | .cell b t => do loadVar t (← asAddr (a.tmps.getD b undef))
  have e : Go.results fn a.tmps = (do let vs ← fn.results.mapM g; pure (if h : vs.size = 1 then vs[0] else .tuple vs)) := rfl
  rw [e, Sem.run_bind, Array.mapM_eq_mapM_toList, Sem.run_map]
  obtain ⟨ds, ys, k1, k2, k3⟩ := res_sound fr g (fun t => rfl) (fun t T => rfl) _ rs K h hk
  rw [k3]
  refine ⟨ds, resV ys, k1, ?_, ?_⟩
  · match ds, ys, k2 with
    | [], ys, k2 => rw [k2.unnil]; exact RepL.nil.mkTup
    | [d], ys, k2 =>
      obtain ⟨y, ys', rfl, h1, h2⟩ := k2.uncons
      rw [h2.unnil]
      exact h1
    | d :: d' :: r, ys, k2 =>
      obtain ⟨y, ys', rfl, h1, h2⟩ := k2.uncons
      obtain ⟨y', ys'', rfl, h3, h4⟩ := h2.uncons
      exact (RepL.cons h1 (.cons h3 h4)).mkTup
  · simp only [Result.andThen_ok]
    match ys with
    | [] => rfl
    | [y] => rfl
    | y :: y' :: r => rfl

theorem pure_of {f : FuncId} {D : DFun} {args : List DV} {r : DV} (hmix : P.follows .mixedOrders = true) (hc : cfun P f = some D) (hlen : args.length ≤ D.n)
    (h : dwp P I 0 0 D.code ⟨env0 0 args, [], []⟩ (fun e σ => (e = .normal ∨ e = .ret) ∧ resD D.res σ fun ds => Wk (pack ds) r)) : DPure P I f args r := by
  unfold cfun at hc
  split at hc
  · rename_i fn hfn
    split at hc
    · rename_i c res hb hres
      split at hc
      · rename_i hcall
        simp only [Option.map_eq_some_iff] at hc
        obtain ⟨d, hd, rfl⟩ := hc
        refine ⟨hcall, fun S W vals hI hr => ?_⟩
        simp only at h hlen
        refine calls_of_wp hfn hb ?_
        have hvl : vals.length = args.length := hr.1.symm
        let B : Base := ⟨W, S⟩
        have hstab : ∀ b o, stab B noLink b o ↔ (b < W.heap.size ∧ S b o) ∨ W.heap.size ≤ b := by
          intro b o
          unfold stab
          simp [noLink, B]
        have hs : Sim I B noLink W [] [] := ⟨hI, Below.refl _ _, rfl, fun k b h => by simp [noLink] at h, fun j k b h => by simp [noLink] at h, fun k cs h => by simp at h, rfl, fun id N g h => by simp [noLink] at h, fun i j N M g h => by simp [noLink] at h, fun k b h => by simp [noLink] at h, fun b h => by simp [noLink] at h⟩
        have hst : Step S noLink W (stab B noLink) noLink W := ⟨fun b o y h1 h2 => ⟨(hstab b o).2 (.inl ⟨cell_lt h2, h1⟩), h2⟩, fun _ _ h => h, fun id N C h => by simp [noLink] at h⟩
        have fr : Fr I B noLink W fn.ntmps ⟨env0 0 args, [], []⟩ { tmps := vals.toArray ++ Array.replicate (fn.ntmps - vals.toArray.size) undef, defers := [] } := by
          refine ⟨hs, fun t => ?_, by simp; omega, rfl⟩
          rw [look_env0]
          simp only [Nat.zero_le, if_true, Nat.sub_zero]
          rcases Nat.lt_or_ge t args.length with ht | ht
          · have htv : t < vals.length := by omega
            have e1 : (vals.toArray ++ Array.replicate (fn.ntmps - vals.toArray.size) undef).getD t undef = vals[t] := by
              rw [Array.getD_eq_getD_getElem?, Array.getElem?_append_left (by simpa using htv)]
              simp [htv]
            rw [e1, List.getElem?_eq_getElem ht]
            exact (hr.2 t _ _ (List.getElem?_eq_getElem ht) (List.getElem?_eq_getElem htv)).step hst
          · rw [List.getElem?_eq_none ht]
            exact .u _ _
        have hw := dwp_sound hmix (m0 := 0) (k0 := 0) (S0 := stab B noLink) (L0 := noLink) (W0 := W) (by simp [noLink]) (by simp [noLink]) c d hd _ _ _ W noLink h fr (Step.refl _ _ _)
        refine wp_mono hw fun e a' W' hq => ?_
        obtain ⟨de, he, L', σ', ⟨hde, hres'⟩, fr', _⟩ := hq
        obtain ⟨ds, y, hwk, hrep, hrun⟩ := results_run fr' hres hres'
        have hfin : Rep (fun b o => S b o ∨ W.heap.size ≤ b) W' noLink r y := by
          refine (hrep.wk hwk).step ⟨fun b o z h1 h2 => ⟨?_, h2⟩, fun _ _ h => h, fun id N C h => by simp [noLink] at h⟩
          rcases h1 with ⟨_, h1⟩ | ⟨h1, _⟩
          · exact .inl h1
          · exact .inr h1
        subst he
        have hout : a'.defers = [] ∧ ∃ v, (Go.results fn a'.tmps).run P W' = .ok v W' ∧ ∃ y, Ending.returned v = .returned y ∧ Rep (fun b o => S b o ∨ W.heap.size ≤ b) W' noLink r y ∧ Below W.heap.size W W' :=
          ⟨fr'.defers, _, hrun, _, rfl, hfin, fr'.sim.below⟩
        rcases hde with rfl | rfl
        · exact hout
        · exact hout
      · cases hc
    · cases hc
  · cases hc

theorem eff_of {f : FuncId} {D : DFun} {args : List DV} {loc loc' : List (List DV)} {ow ow' : List Nat} {r : DV} (hmix : P.follows .mixedOrders = true) (hc : cfun P f = some D) (hlen : args.length ≤ D.n)
    (h : dwp P I loc.length ow.length D.code ⟨env0 0 args, loc, ow⟩ (fun e σ => (e = .normal ∨ e = .ret) ∧ resD D.res σ fun ds => Fin loc.length ow.length (pack ds) σ r loc' ow')) : DEff P I f args loc ow r loc' ow' := by
  unfold cfun at hc
  split at hc
  · rename_i fn hfn
    split at hc
    · rename_i c res hb hres
      split at hc
      · rename_i hcall
        simp only [Option.map_eq_some_iff] at hc
        obtain ⟨d, hd, rfl⟩ := hc
        refine ⟨hcall, fun B W L vals hs hr => ?_⟩
        simp only at h hlen
        refine calls_of_wp hfn hb ?_
        have hvl : vals.length = args.length := hr.1.symm
        have fr : Fr I B L W fn.ntmps ⟨env0 0 args, loc, ow⟩ { tmps := vals.toArray ++ Array.replicate (fn.ntmps - vals.toArray.size) undef, defers := [] } := by
          refine ⟨hs, fun t => ?_, by simp; omega, rfl⟩
          rw [look_env0]
          simp only [Nat.zero_le, if_true, Nat.sub_zero]
          rcases Nat.lt_or_ge t args.length with ht | ht
          · have htv : t < vals.length := by omega
            have e1 : (vals.toArray ++ Array.replicate (fn.ntmps - vals.toArray.size) undef).getD t undef = vals[t] := by
              rw [Array.getD_eq_getD_getElem?, Array.getElem?_append_left (by simpa using htv)]
              simp [htv]
            rw [e1, List.getElem?_eq_getElem ht]
            exact hr.2 t _ _ (List.getElem?_eq_getElem ht) (List.getElem?_eq_getElem htv)
          · rw [List.getElem?_eq_none ht]
            exact .u _ _
        have hbl : L.bx.length ≤ loc.length := by rw [hs.blen]; exact Nat.le_refl _
        have hol : L.ow.length ≤ ow.length := by rw [← hs.olen]; simp
        have hw := dwp_sound hmix (S0 := stab B L) (W0 := W) hbl hol c d hd _ _ _ W L h fr (Step.refl _ _ _)
        refine wp_mono hw fun e a' W' hq => ?_
        obtain ⟨de, he, L', σ', ⟨hde, hres'⟩, fr', st⟩ := hq
        obtain ⟨ds, y, hfin, hrep, hrun⟩ := results_run fr' hres hres'
        have hend : ∃ L'', Sim I B L'' W' loc' ow' ∧ Step (stab B L) L W (stab B L'') L'' W' ∧ Rep (stab B L'') W' L'' r y := by
          cases hfin with
          | same e1 e2 e3 => subst e1; subst e2; subst e3; exact ⟨L', fr'.sim, st, hrep⟩
          | wk e1 e2 e3 => subst e2; subst e3; exact ⟨L', fr'.sim, st, (hrep.wk e1).lift rfl L'⟩
          | cut m k g1 g2 hl e2 ho e3 hkl =>
            subst e2; subst e3
            obtain ⟨L'', q1, q2, q3⟩ := fr'.sim.cut (z := 0) ho hkl
            exact ⟨L'', by simpa using q1, q3 _ L W (by omega) (by omega) st, q2 _ _ _ hrep hl⟩
        obtain ⟨L'', w1, w2, w3⟩ := hend
        subst he
        have hout : a'.defers = [] ∧ ∃ v, (Go.results fn a'.tmps).run P W' = .ok v W' ∧ ∃ y L', Ending.returned v = .returned y ∧ Sim I B L' W' loc' ow' ∧ Step (stab B L) L W (stab B L') L' W' ∧ Rep (stab B L') W' L' r y :=
          ⟨fr'.defers, _, hrun, _, L'', rfl, w1, w2, w3⟩
        rcases hde with rfl | rfl
        · exact hout
        · exact hout
      · cases hc
    · cases hc
  · cases hc

end
end Go.Proofs.YtlbodfkhenkcjaaGreatDoor.D


namespace Go.Proofs.YtlbodfkhenkcjaaGreatDoor.D
open Go Go.RowKit

section
variable {P : Program} {I : Inv}


theorem cmp_split {op : BinOp} {a b : Value} {c : Bool} {K : Value → Prop} (h : dbin op a b = some (.bool c)) (h1 : c = true → K (.bool true)) (h2 : c = false → K (.bool false)) : ∃ r, dbin op a b = some r ∧ K r := by
  refine ⟨_, h, ?_⟩
  cases c
  · exact h2 rfl
  · exact h1 rfl
theorem cond_t {A B : Prop} (h : A) : (true = true → A) ∧ (true = false → B) := ⟨fun _ => h, fun h => nomatch h⟩
theorem cond_f {A B : Prop} (h : B) : (false = true → A) ∧ (false = false → B) := ⟨(fun h => by cases h), fun _ => h⟩
theorem wk_v {d : DV} {x y : Value} (h : d = .v x) (e : x = y) : Wk d (.v y) := by subst h; subst e; exact .v _
theorem call_e {f : FuncId} {args : List DV} {r : DV} {σ : St} {loc' : List (List DV)} {ow' : List Nat} {K : DV → St → Prop} (h : DEff P I f args σ.loc σ.ow r loc' ow') (hk : K r ⟨σ.env, loc', ow'⟩) : doCall P I f args σ K := .inr ⟨r, loc', ow', h, hk⟩

theorem of_walk {f : FuncId} {xs : List Value} {y : Value} (hc : callable P f = true) (h : ∀ W, I.I W → Calls P f xs.toArray W fun e W' => e = .returned y ∧ Below W.heap.size W W') : DPure P I f (xs.map .v) (.v y) := by
  refine ⟨hc, fun S W vals hI hr => ?_⟩
  rw [hr.plain]
  exact (h W hI).mono fun e W' ⟨he, hb⟩ => ⟨y, he, .v _ _, hb⟩

end
end Go.Proofs.YtlbodfkhenkcjaaGreatDoor.D


namespace Go.Proofs.YtlbodfkhenkcjaaGreatDoor.D
open Go Go.RowKit

mutual
def wkn : DV → Option DV
  | .u => some .u
  | .v x => some (.v x)
  | .agg cs => (wknL cs).map .agg
  | .tup cs => (wknL cs).map .tup
  | .ifc t d => (wkn d).map (.ifc t)
  | .list sz l => some (.list sz l)
  | .own _ _ sz l => some (.list sz l)
  | .full sz l => some (.list sz l)
  | .fn f cs => (wknL cs).map (.fn f)
  | .ep x off => some (.ep x off)
  | .lp _ _ | .row _ _ _ => none
def wknL : List DV → Option (List DV)
  | [] => some []
  | d :: r => match wkn d, wknL r with
    | some d', some r' => some (d' :: r')
    | _, _ => none
end

mutual
theorem wkn_ok : ∀ {d d' : DV}, wkn d = some d' → Wk d d'
  | .u, _, h => by simp only [wkn, Option.some.injEq] at h; subst h; exact .u _
  | .v x, _, h => by simp only [wkn, Option.some.injEq] at h; subst h; exact .v _
  | .agg cs, _, h => by
    simp only [wkn, Option.map_eq_some_iff] at h
    obtain ⟨ds, h1, rfl⟩ := h
    exact .aggL (wknL_ok h1)
  | .tup cs, _, h => by
    simp only [wkn, Option.map_eq_some_iff] at h
    obtain ⟨ds, h1, rfl⟩ := h
    exact .tupL (wknL_ok h1)
  | .ifc t d, _, h => by
    simp only [wkn, Option.map_eq_some_iff] at h
    obtain ⟨d', h1, rfl⟩ := h
    exact .ifc t _ _ (wkn_ok h1)
  | .list sz l, _, h => by simp only [wkn, Option.some.injEq] at h; subst h; exact .list _ _
  | .own _ _ sz l, _, h => by simp only [wkn, Option.some.injEq] at h; subst h; exact .own _ _ _ _
  | .full sz l, _, h => by simp only [wkn, Option.some.injEq] at h; subst h; exact .full _ _
  | .fn f cs, _, h => by
    simp only [wkn, Option.map_eq_some_iff] at h
    obtain ⟨ds, h1, rfl⟩ := h
    exact .fnL (wknL_ok h1)
  | .ep x off, _, h => by simp only [wkn, Option.some.injEq] at h; subst h; exact .ep _ _
  | .lp _ _, _, h => by simp only [wkn] at h; cases h
  | .row _ _ _, _, h => by simp only [wkn] at h; cases h
theorem wknL_ok : ∀ {l l' : List DV}, wknL l = some l' → WkL l l'
  | [], _, h => by simp only [wknL, Option.some.injEq] at h; subst h; exact .nil
  | d :: r, _, h => by
    simp only [wknL] at h
    split at h
    · rename_i d' r' h1 h2
      simp only [Option.some.injEq] at h
      subst h
      exact .cons (wkn_ok h1) (wknL_ok h2)
    · cases h
end

def guardD {α : Type} (c : Bool) (x : Option α) : Option α := match c with
  | true => x
  | false => none

theorem guardD_ok {α : Type} {c : Bool} {x : Option α} {r : α} (h : guardD c x = some r) : c = true ∧ x = some r := by
  cases c
  · cases h
  · exact ⟨rfl, h⟩

def evRes1 (r : DRes) (σ : St) : Option DV :=
  match r with
  | .t n => some (look σ.env n)
  | .c n m g => match look σ.env n with
    | .lp k off => (σ.loc[k]?).bind fun cs => guardD (Nat.ble (off + m) cs.length) (some (part g ((cs.drop off).take m)))
    | _ => none

def evRes : List DRes → St → Option (List DV)
  | [], _ => some []
  | r :: rs, σ => match evRes1 r σ, evRes rs σ with
    | some d, some ds => some (d :: ds)
    | _, _ => none

theorem evRes_ok : ∀ {rs : List DRes} {σ : St} {ds : List DV} {K : List DV → Prop}, evRes rs σ = some ds → K ds → resD rs σ K
  | [], _, _, _, h, hk => by cases h; exact hk
  | r :: rs, σ, ds, K, h, hk => by
    simp only [evRes] at h
    split at h
    · rename_i d ds' h1 h2
      cases h
      have ih := evRes_ok (K := fun ds => K (d :: ds)) h2 hk
      cases r with
      | t n => cases h1; exact ih
      | c n m g =>
        simp only [evRes1] at h1
        split at h1
        · rename_i k off hl
          obtain ⟨cs, h3, h4⟩ := Option.bind_eq_some_iff.1 h1
          obtain ⟨h5, h6⟩ := guardD_ok h4
          cases h6
          simp only [resD, res1D, hl]
          exact ⟨cs, h3, h5, ih⟩
        · cases h1
    · cases h

def goes : DExit → Bool
  | .exit _ => false
  | _ => true

theorem goes_ok {e : DExit} (h : goes e = true) : e = .normal ∨ e = .ret := by
  cases e with
  | normal => exact .inl rfl
  | exit id => cases h
  | ret => exact .inr rfl

theorem ltd_eq {m k z t : Nat} {env : List (Nat × DV)} {d : DV} (h : okD m k d = true) (e : look env t = d) : LtD m k z (look env t) d := by rw [e]; exact .same h

theorem lessE_cons {m k z t : Nat} {env r : List (Nat × DV)} {d : DV} (h : LtD m k z (look env t) d) (hr : lessE m k z env r) : lessE m k z env ((t, d) :: r) := ⟨h, hr⟩

theorem lessE_nil {m k z : Nat} {env : List (Nat × DV)} : lessE m k z env [] := trivial

theorem less_of {m0 k0 : Nat} {τ : St} (m k z : Nat) {env : List (Nat × DV)} {loc : List (List DV)} {ow : List Nat} (h1 : Nat.ble m0 m = true) (h2 : Nat.ble k0 k = true) (h3 : lessE m k z τ.env env) (h4 : τ.loc.take m = loc) (h5 : okLL m k loc = true) (h6 : τ.ow.take k ++ List.replicate z 0 = ow) (h7 : Nat.ble k τ.ow.length = true) : Less m0 k0 ⟨env, loc, ow⟩ τ :=
  .mk m k z h1 h2 h3 h4.symm h5 h6.symm h7
end Go.Proofs.YtlbodfkhenkcjaaGreatDoor.D

