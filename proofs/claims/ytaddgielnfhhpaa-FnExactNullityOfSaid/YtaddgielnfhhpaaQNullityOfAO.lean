import Derived.Test.YtaddgielnfhhpaaQNullityOf0
import Derived.WalkKit
import Derived.ProofKit
import Derived.OpenShut
import Derived.ShutString
import Derived.ChangeOld
import Derived.Below
import Derived.SizedLaws
import Derived.Deep.Slices
import Derived.Lib.SmallJoins
namespace Go.Proofs.Ytaddgielnfhhpaa.QNullityOf
open Go.ChangeShapes Go.WideShapes Go.ChangeAt Go.RowKit Go.ChangeMaps Go.Proofs.YtaddgielnfhhpaaW.PrintWords Go.Proofs.YtaddgielnfhhpaaW.PrintLast Go.Proofs.YtaddgielnfhhpaaW.PrintMore
attribute [local go_sem] max2_int min2_int max_two min_two max_three min_three max_four min_four   -- for this text's walks alone
set_option linter.unusedVariables false
set_option linter.unusedSimpArgs false
set_option maxRecDepth 100000
--# openEdges
theorem open_edges {H : Type} {enc : TypeId × Value → H} {w : World} {base : Nat} {spare : Nat → Bool} {held : Bool} {fuel : Nat} {cs : List Value} {x : DataW H × List MemPlace}
    (h : DataW.trod enc Try.prog w base spare held fuel 22 cs = some x) :
    ∃ (A : Option Addr) (cap : Nat) (es : List S80), cs = [.slice A es.length cap] ∧ es.length ≤ cap ∧ Kd.C k80 w A es.length es ∧ ∀ e ∈ es, (Lit.int .i64 e.f0).wf = true ∧ (Lit.int .i64 e.f1).wf = true := by
  rcases Go.Deep.open_slice Try.underlying22 h with ⟨rfl, _⟩ | ⟨a, len, cap, m, n, D, Pl, rfl, hb, hl, hm, hmm, rfl, hx⟩
  · exact ⟨none, 0, [], rfl, Nat.le_refl _, Kd.C_nil _ _, fun e he => by cases he⟩
  · have hc : Try.prog.cellsOf 80 = 2 := by kernel_rfl
    have hc1 : Try.prog.cellsOf 3 = 1 := by kernel_rfl
    rw [hc] at hx
    have hlm : len ≤ m := by rw [hmm]; split <;> omega
    have hall : ∀ i : Nat, ∃ e : S80, i < len → w.cell? (a.add (i * 2)) = some (.int .i64 e.f0) ∧ w.cell? ((a.add (i * 2)).add 1) = some (.int .i64 e.f1) ∧ (Lit.int .i64 e.f0).wf = true ∧ (Lit.int .i64 e.f1).wf = true := by
      intro i
      by_cases hi : i < len
      · obtain ⟨cs', h1, h2⟩ := hx i (by omega)
        obtain ⟨_, hlen, hcell⟩ := World.cells?_some h1
        obtain ⟨xs, m', _, _, _, hxl, hxs⟩ := DataW.trod_array Try.underlying80 h2
        rw [hc1] at hxs
        match cs', hlen with
        | [u, v], _ =>
          have e0 := hxs 0 (by omega)
          have e1 := hxs 1 (by omega)
          rw [List.getElem?_eq_getElem (by omega)] at e0 e1
          obtain ⟨n0, k0, _, w0⟩ := DataW.trod_int Try.underlying3 e0
          obtain ⟨n1, k1, _, w1⟩ := DataW.trod_int Try.underlying3 e1
          simp at k0 k1
          subst k0 k1
          have c0 := hcell 0 (by omega)
          have c1 := hcell 1 (by omega)
          refine ⟨⟨n0, n1⟩, fun _ => ⟨?_, ?_, w0, w1⟩⟩
          · simpa [Addr.add] using c0
          · simpa using c1
      · exact ⟨z80, fun h => absurd h hi⟩
    obtain ⟨V, hV⟩ := Classical.axiomOfChoice hall
    have hlen : ((List.range len).map V).length = len := by simp
    refine ⟨some a, cap, (List.range len).map V, by rw [hlen], by rw [hlen]; exact hl, ?_, ?_⟩
    · refine ⟨rfl, by rw [hlen]; unfold maxLen at hm; omega, fun _ => ⟨a, rfl, ?_⟩⟩
      intro j p hj
      have hjl : j < len := by have := (List.getElem?_eq_some_iff.1 hj).1; simpa using this
      have hp : p = V j := by
        rw [List.getElem?_map, List.getElem?_range hjl] at hj
        exact (Option.some.inj hj).symm
      subst hp
      obtain ⟨c0, c1, _, _⟩ := hV j hjl
      refine ⟨[.int .i64 (V j).f0, .int .i64 (V j).f1], rfl, k80_mk w _, fun i u hu => ?_⟩
      match i, hu with
      | 0, hu => simp at hu; subst hu; exact c0
      | 1, hu =>
        simp at hu; subst hu
        show w.cell? (a.add (j * 2 + 1)) = _
        rw [add_field _ _ 1 (by omega)]; exact c1
    · intro e he
      obtain ⟨j, hj, rfl⟩ := List.mem_map.1 he
      obtain ⟨_, _, h2, h3⟩ := hV j (List.mem_range.1 hj)
      exact ⟨h2, h3⟩

--# openGraph
theorem open_graph {H : Type} {enc : TypeId × Value → H} {w : World} {base b0 : Nat} {spare : Nat → Bool} {held : Bool} {v : Value} {d : DataW H} {p : List MemPlace} {r : Reach}
    (hv : Value.okWide Try.prog w r b0 24 v) (h : DataW.Trod enc Try.prog w base spare held 24 v d p) :
    ∃ (n : Int) (A : Option Addr) (cap : Nat) (es : List S80), v = .agg #[.int .i64 n, .slice A es.length cap] ∧ (Lit.int .i64 n).wf = true ∧ es.length ≤ cap ∧ Kd.C k80 w A es.length es ∧ ∀ e ∈ es, (Lit.int .i64 e.f0).wf = true ∧ (Lit.int .i64 e.f1).wf = true := by
  obtain ⟨v0, v1, y0, y1, m, rfl, _, _, h0, h1⟩ := Go.Joins.open_agg2 Try.underlying24 (by kernel_rfl) (by kernel_rfl) hv h
  obtain ⟨n, k0, _, w0⟩ := DataW.trod_int Try.underlying3 h0
  obtain ⟨A, cap, es, k1, hl, hC, hw⟩ := open_edges h1
  simp at k0 k1
  subst k0 k1
  exact ⟨n, A, cap, es, rfl, w0, hl, hC, hw⟩

--# openList
theorem open_list {H : Type} {enc : TypeId × Value → H} {w : World} {base b0 : Nat} {spare : Nat → Bool} {held : Bool} {v : Value} {d : DataW H} {p : List MemPlace} {r : Reach}
    (hv : Value.okWide Try.prog w r b0 25 v) (h : DataW.Trod enc Try.prog w base spare held 25 v d p) :
    ∃ (A : Option Addr) (cap : Nat) (l : List Int), v = .slice A l.length cap ∧ l.length ≤ cap ∧ Kd.C (Kd.int .i64) w A l.length l ∧ ∀ n ∈ l, (Lit.int .i64 n).wf = true := by
  obtain ⟨a0, len0, cap0, rfl⟩ := okWide_slice Try.underlying25 hv
  obtain ⟨fuel, hf⟩ := h
  have hI : (a0 = none ∧ len0 = 0 ∧ cap0 = 0) ∨ ∃ (x : Addr) (zs : List Int), a0 = some x ∧ len0 ≤ cap0 ∧ cap0 ≤ maxLen ∧ zs.length = (if spare x.block then cap0 else len0) ∧ (∀ i, i < zs.length → w.cell? (x.add i) = some (.int .i64 (zs.getD i 0))) ∧ ∀ n ∈ zs, (Lit.int .i64 n).wf = true := by
    rcases open_ints Try.underlying25 Try.underlying3 (by kernel_rfl) hf with ⟨hcs, _⟩ | ⟨x, l, c, zs, hcs, _, hl, hm, hz, _, hcell, hwz⟩
    · simp [Value.cells] at hcs
      exact .inl hcs
    · simp [Value.cells] at hcs
      obtain ⟨rfl, rfl, rfl⟩ := hcs
      exact .inr ⟨x, zs, rfl, hl, hm, hz, hcell, hwz⟩
  rcases hI with ⟨rfl, rfl, rfl⟩ | ⟨x, zs, rfl, hl, hm, hz, hcell, hwz⟩
  · exact ⟨none, 0, [], rfl, Nat.le_refl _, Kd.C_nil _ _, fun e he => by cases he⟩
  · have hzl : len0 ≤ zs.length := by rw [hz]; split <;> omega
    have hlen : (zs.take len0).length = len0 := by rw [List.length_take]; omega
    refine ⟨some x, cap0, zs.take len0, by rw [hlen], by rw [hlen]; exact hl, ⟨rfl, by rw [hlen]; unfold maxLen at hm; omega, fun _ => ⟨x, rfl, ?_⟩⟩, fun n hn => hwz n (List.mem_of_mem_take hn)⟩
    intro j p hj
    have hjl : j < len0 := by have := (List.getElem?_eq_some_iff.1 hj).1; omega
    have hp : zs.getD j 0 = p := by
      rw [List.getElem?_take, if_pos hjl] at hj
      simp [hj]
    refine ⟨[.int .i64 p], rfl, rfl, fun i u hu => ?_⟩
    match i, hu with
    | 0, hu =>
      simp at hu; subst hu
      have := hcell j (by omega)
      rw [hp] at this
      show w.cell? (x.add (j * 1 + 0)) = _
      simpa using this

--# lenLt
theorem len_le {α : Type} {d : Kd α} {w : World} {A : Option Addr} {l : List α} (h : Kd.C d w A l.length l) : l.length ≤ 9223372036854775807 := h.2.1

--# openLists
theorem open_list0 {H : Type} {enc : TypeId × Value → H} {w : World} {base : Nat} {spare : Nat → Bool} {held : Bool} {fuel : Nat} {cs : List Value} {x : DataW H × List MemPlace}
    (hf : DataW.trod enc Try.prog w base spare held fuel 25 cs = some x) :
    ∃ (A : Option Addr) (cap : Nat) (l : List Int), cs = [.slice A l.length cap] ∧ l.length ≤ cap ∧ Kd.C (Kd.int .i64) w A l.length l ∧ ∀ n ∈ l, (Lit.int .i64 n).wf = true := by
  rcases open_ints Try.underlying25 Try.underlying3 (by kernel_rfl) hf with ⟨hcs, _⟩ | ⟨x, len0, c, zs, hcs, _, hl, hm, hz, _, hcell, hwz⟩
  · exact ⟨none, 0, [], hcs, Nat.le_refl _, Kd.C_nil _ _, fun e he => by cases he⟩
  · have hzl : len0 ≤ zs.length := by rw [hz]; split <;> omega
    have hlen : (zs.take len0).length = len0 := by rw [List.length_take]; omega
    refine ⟨some x, c, zs.take len0, by rw [hlen]; exact hcs, by rw [hlen]; exact hl, ⟨rfl, by rw [hlen]; unfold maxLen at hm; omega, fun _ => ⟨x, rfl, ?_⟩⟩, fun n hn => hwz n (List.mem_of_mem_take hn)⟩
    intro j p hj
    have hjl : j < len0 := by have := (List.getElem?_eq_some_iff.1 hj).1; omega
    have hp : zs.getD j 0 = p := by
      rw [List.getElem?_take, if_pos hjl] at hj
      simp [hj]
    refine ⟨[.int .i64 p], rfl, rfl, fun i u hu => ?_⟩
    match i, hu with
    | 0, hu =>
      simp at hu; subst hu
      have := hcell j (by omega)
      rw [hp] at this
      show w.cell? (x.add (j * 1 + 0)) = _
      simpa using this
theorem open_lists {H : Type} {enc : TypeId × Value → H} {w : World} {base b0 : Nat} {spare : Nat → Bool} {held : Bool} {v : Value} {d : DataW H} {p : List MemPlace} {r : Reach}
    (hv : Value.okWide Try.prog w r b0 37 v) (h : DataW.Trod enc Try.prog w base spare held 37 v d p) :
    ∃ (A : Option Addr) (cap : Nat) (L : List (List Int)), v = .slice A L.length cap ∧ L.length ≤ cap ∧ Kd.C (Kd.slice 3 (Kd.int .i64)) w A L.length L ∧ ∀ l ∈ L, l.length ≤ 9223372036854775807 := by
  obtain ⟨a0, len0, cap0, rfl⟩ := okWide_slice Try.underlying37 hv
  obtain ⟨fuel, hf⟩ := h
  have hI : (a0 = none ∧ len0 = 0 ∧ cap0 = 0) ∨ ∃ (x : Addr) (m n : Nat) (V : Nat → Value) (D : Nat → DataW H) (Pl : Nat → List MemPlace), a0 = some x ∧ len0 ≤ cap0 ∧ cap0 ≤ maxLen ∧ len0 ≤ m ∧ ∀ i, i < m → w.cell? (x.add i) = some (V i) ∧ DataW.trod enc Try.prog w base spare held n 25 [V i] = some (D i, Pl i) := by
    rcases Go.Deep.open_slice1 Try.underlying37 (by kernel_rfl) hf with ⟨hcs, _⟩ | ⟨x, len, cap, m, n, V, D, Pl, hcs, _, hl, hm, hmm, _, hx⟩
    · simp [Value.cells] at hcs
      exact .inl hcs
    · simp [Value.cells] at hcs
      obtain ⟨rfl, rfl, rfl⟩ := hcs
      exact .inr ⟨x, m, n, V, D, Pl, rfl, hl, hm, by rw [hmm]; split <;> omega, hx⟩
  rcases hI with ⟨rfl, rfl, rfl⟩ | ⟨x, m, n, V, D, Pl, rfl, hl, hm, hlm, hx⟩
  · exact ⟨none, 0, [], rfl, Nat.le_refl _, Kd.C_nil _ _, fun e he => by cases he⟩
  · have hall : ∀ i : Nat, ∃ l : List Int, i < len0 → l.length ≤ 9223372036854775807 ∧ ∃ A c, w.cell? (x.add i) = some (.slice A l.length c) ∧ l.length ≤ c ∧ Kd.C (Kd.int .i64) w A l.length l := by
      intro i
      by_cases hi : i < len0
      · obtain ⟨h1, h2⟩ := hx i (by omega)
        obtain ⟨A, c, l, e, hc, hC, _⟩ := open_list0 h2
        have e2 : V i = .slice A l.length c := by simpa using e
        rw [e2] at h1
        exact ⟨l, fun _ => ⟨hC.2.1, A, c, h1, hc, hC⟩⟩
      · exact ⟨[], fun h => absurd h hi⟩
    obtain ⟨F, hF⟩ := Classical.axiomOfChoice hall
    have hlen : ((List.range len0).map F).length = len0 := by simp
    refine ⟨some x, cap0, (List.range len0).map F, by rw [hlen], by rw [hlen]; exact hl, ⟨rfl, by rw [hlen]; unfold maxLen at hm; omega, fun _ => ⟨x, rfl, ?_⟩⟩, ?_⟩
    · intro j p hj
      have hjl : j < len0 := by have := (List.getElem?_eq_some_iff.1 hj).1; simpa using this
      have hp : p = F j := by
        rw [List.getElem?_map, List.getElem?_range hjl] at hj
        exact (Option.some.inj hj).symm
      subst hp
      obtain ⟨_, A, c, h1, hc, hC⟩ := hF j hjl
      refine ⟨[.slice A (F j).length c], rfl, ⟨A, c, rfl, hc, hC⟩, fun i u hu => ?_⟩
      match i, hu with
      | 0, hu =>
        simp at hu; subst hu
        show w.cell? (x.add (j * 1 + 0)) = _
        simpa using h1
    · intro l hl
      obtain ⟨j, hj, rfl⟩ := List.mem_map.1 hl
      exact (hF j (List.mem_range.1 hj)).1

end Go.Proofs.Ytaddgielnfhhpaa.QNullityOf
