import Derived.Shelf.Abstract
import Derived.Laws.CopyOwn
import Derived.Test.YtgahlimikndecaaDoorProg
import Derived.Below
import Derived.Deep.Draws
import Derived.Deep.AppendLies
import Derived.Maps.AppendAt
import Derived.OwnWalk
import Derived.Laws.BytesArg
import Derived.Laws.MakeOwn
import Derived.Laws.OwnMore
import Derived.Deep.OwnRows
import Derived.Tactics
import Derived.Lib.ConvBytes
import Derived.Laws.Slices
import Derived.WalkKit
import Derived.KernelRfl
import Derived.RowKit3
import Derived.Deep.LoopGhost
import Derived.Deep.QuietTactic
import Derived.BigQuiet
import Derived.WideLaws
import Derived.Deep.DeepCutAuto
import Derived.Deep.CutBlock
import Derived.Deep.RegionHeld3
import Derived.Laws.Rows
import Derived.Lib.AppendStr
import Derived.ArgAppend
import Derived.Laws.IdiomCopy
import Derived.OrdersHeld
import Derived.Laws.BitsLemmas
import Derived.RowKit
import Derived.StillTailTactics
import Derived.Test.YtgahlimikndecaaDoorQWorstAttackW
namespace Go.Proofs.YtgahlimikndecaaDoor.QWorstAttack
open Go.RowKit Go.Proofs.YtgahlimikndecaaDoorW.PrintWords Go.Proofs.YtgahlimikndecaaDoorW.PrintLast Go.Proofs.YtgahlimikndecaaDoorW.PrintMore
attribute [local go_sem] max2_int min2_int max_two min_two max_three min_three max_four min_four   -- for this text's walks alone
set_option linter.unusedVariables false
set_option linter.unusedSimpArgs false
set_option maxRecDepth 100000
set_option maxHeartbeats 8000000



def errW : Option Int → Value
  | none => .nilIface
  | some c => .iface 0 (.int .i64 c)
theorem errW_none : errW none = .nilIface := rfl
theorem errW_some (c : Int) : errW (some c) = .iface 0 (.int .i64 c) := rfl

theorem info3 : (Tryd.prog.info? 3).map (fun i => (i.zero, i.size, i.bytes)) = some (some (.int .i64 0), 1, 8) := by kernel_rfl
theorem info26 : (Tryd.prog.info? 26).map (fun i => (i.zero, i.size, i.bytes)) = some (some (.slice none 0 0), 1, 24) := by kernel_rfl
theorem info36 : (Tryd.prog.info? 36).map (fun i => (i.zero, i.size, i.bytes)) = some (some (.slice none 0 0), 1, 24) := by kernel_rfl
theorem info78 : (Tryd.prog.info? 78).map (fun i => (i.zero, i.size, i.bytes)) = some (some (.agg #[(.int .i64 0), (.int .i64 0)]), 2, 16) := by kernel_rfl
-- the values' own types
/-! #### struct type 78 -/
structure S78 where
  f0 : Int
  f1 : Int
def z78 : S78 := ⟨(0 : Int), (0 : Int)⟩
def k78 : Kd S78 := Kd.iso (Kd.pair (Kd.int .i64) (Kd.int .i64)) (fun x : S78 => (x.f0, x.f1))
theorem k78_open {w : World} {x : S78} {cs : List Value} (h : k78.K w x cs) : cs = [.int .i64 x.f0, .int .i64 x.f1] := by
  obtain ⟨_, _, rfl, rfl, rfl⟩ := h
  exact rfl
theorem k78_openM {w : World} {base : Nat} {ok : Nat → Prop} {x : S78} {cs : List Value} (h : k78.M w base ok x cs) : cs = [.int .i64 x.f0, .int .i64 x.f1] := by
  obtain ⟨_, _, rfl, rfl, rfl⟩ := h
  exact rfl
theorem k78_mk (w : World) (x : S78)  : k78.K w x [.int .i64 x.f0, .int .i64 x.f1] := ⟨[.int .i64 x.f0], [.int .i64 x.f1], rfl, rfl, rfl⟩
theorem k78_mkM (w : World) (base : Nat) (ok : Nat → Prop) (x : S78)  : k78.M w base ok x [.int .i64 x.f0, .int .i64 x.f1] := ⟨[.int .i64 x.f0], [.int .i64 x.f1], rfl, rfl, rfl⟩
theorem k78_mkF (W : World) (ok : Nat → Prop) (x : S78) : Kd.FK k78 W ok x [.int .i64 x.f0, .int .i64 x.f1] := fun W2 _ => k78_mk W2 x
def rd_T78 (xs : List S78) (i : Int) : S78 := xs.getD i.toNat z78
theorem at_T78 {w : World} {A : Option Addr} {n : Nat} {xs : List S78} (h : Kd.C k78 w A n xs) (i : Int) (h0 : 0 ≤ i) (h1 : i < n) : ∃ ad , A = some ad ∧ w.cell? (ad.add (i.toNat * 2)) = some (.int .i64 (rd_T78 xs i).f0) ∧ w.cell? ⟨(ad.add (i.toNat * 2)).block, (ad.add (i.toNat * 2)).off + 1, none⟩ = some (.int .i64 (rd_T78 xs i).f1) := by
  obtain ⟨ad, c, e, _, hK, hc0⟩ := Kd.C_get h z78 i h0 h1
  have hc : ∀ j u, c[j]? = some u → w.cell? (ad.add (i.toNat * 2 + j)) = some u := hc0
  obtain rfl := k78_open hK
  exact ⟨ad, e, hc 0 _ rfl, by rw [← add_field _ _ 1 (by omega)]; exact hc 1 _ rfl⟩

def rd_L2 (xs : List (List Int)) (i : Int) : (List Int) := xs.getD i.toNat ([] : List Int)
theorem at_L2 {w : World} {A : Option Addr} {n : Nat} {xs : List (List Int)} (h : Kd.C (Kd.slice 3 (Kd.int .i64)) w A n xs) (i : Int) (h0 : 0 ≤ i) (h1 : i < n) : ∃ ad A0 c0, A = some ad ∧ w.cell? (ad.add i.toNat) = some (.slice A0 (rd_L2 xs i).length c0) ∧ (rd_L2 xs i).length ≤ c0 ∧ (Kd.int .i64).C w A0 (rd_L2 xs i).length (rd_L2 xs i) := by
  obtain ⟨ad, c, e, _, hK, hc0⟩ := Kd.C_get h ([] : List Int) i h0 h1
  have hc : ∀ j u, c[j]? = some u → w.cell? (ad.add (i.toNat * 1 + j)) = some u := hc0
  obtain ⟨A0, c0, rfl, l0, g0⟩ := hK
  exact ⟨ad, A0, c0, e, by have hq := hc 0 _ rfl; rwa [Nat.mul_one, Nat.add_zero] at hq, l0, g0⟩

def rd_L3 (xs : List (List (List Int))) (i : Int) : (List (List Int)) := xs.getD i.toNat ([] : List (List Int))
theorem at_L3 {w : World} {A : Option Addr} {n : Nat} {xs : List (List (List Int))} (h : Kd.C (Kd.slice 36 (Kd.slice 3 (Kd.int .i64))) w A n xs) (i : Int) (h0 : 0 ≤ i) (h1 : i < n) : ∃ ad A0 c0, A = some ad ∧ w.cell? (ad.add i.toNat) = some (.slice A0 (rd_L3 xs i).length c0) ∧ (rd_L3 xs i).length ≤ c0 ∧ (Kd.slice 3 (Kd.int .i64)).C w A0 (rd_L3 xs i).length (rd_L3 xs i) := by
  obtain ⟨ad, c, e, _, hK, hc0⟩ := Kd.C_get h ([] : List (List Int)) i h0 h1
  have hc : ∀ j u, c[j]? = some u → w.cell? (ad.add (i.toNat * 1 + j)) = some u := hc0
  obtain ⟨A0, c0, rfl, l0, g0⟩ := hK
  exact ⟨ad, A0, c0, e, by have hq := hc 0 _ rfl; rwa [Nat.mul_one, Nat.add_zero] at hq, l0, g0⟩



/-! The ways of peeling a world, by name. -/
structure Up (w1 : World) (w : outParam World) : Prop where mk :: (out : Below w.heap.size w w1)
attribute [class] Up
instance (priority := low) upR (w : World) : Up w w := ⟨Below.refl _ _⟩
instance upA (w w1 : World) (o : Obj) [h : Up w1 w] : Up (w1.alloc o) w := ⟨below_alloc h.out o⟩
instance upN (w w1 : World) (n : Nat) [h : Up w1 w] : Up (w1.drewN n) w := ⟨pw_below_drewN h.out n⟩
instance upD (w w1 : World) [h : Up w1 w] : Up w1.drew w := ⟨below_drew1 h.out⟩
theorem kP {w w1 : World} {g : Nat} {o : Obj} [u : Up w1 w] (h : w.heap[g]? = some o) : w1.heap[g]? = some o := blk_below h u.out
theorem rP {α : Type} {d : Kd α} {e : Nat} {base : Nat} {ok : Nat → Prop} {v : Value} {xs : List α} {w w1 : World} [u : Up w1 w] (h : d.R e w base ok v xs) : d.R e w1 base ok v xs := Kd.R_below h u.out
theorem cP {α : Type} {d : Kd α} {w w1 : World} {a : Option Addr} {n : Nat} {xs : List α} [u : Up w1 w] (h : d.C w a n xs) : d.C w1 a n xs := Kd.C_below h u.out
theorem bB_ {b : Nat} {w W0 W : World} (h : Below b w W0) (f : Below b w W0 → Below b w W) : Below b w W := f h
theorem bB {p : Prop} (h : p := by refine bB_ HB.out (fun h_ => ?_); repeat (first | (with_reducible first | exact h_ | apply below_alloc | apply pw_below_drewN | apply below_drew1 | refine below_set ?_ (Aside0.out (by assumption))) | exact h_)) : p := h
theorem kK_ {w W0 W : World} {g : Nat} {row : Option Nat} (h : KeepBut w W0 g row) (f : KeepBut w W0 g row → KeepBut w W g row) : KeepBut w W g row := f h
theorem kK {p : Prop} (h : p := by refine kK_ HK.out (fun h_ => ?_); repeat (first | (with_reducible first | exact h_ | apply KeepBut.set_ | apply keep_drewN | apply keep_drew | apply keep_alloc | refine keep_far ?_ (Aside0.out (by assumption)) _) | exact h_)) : p := h
theorem kE {p : Prop} (h : p := by repeat (first | (with_reducible first | exact HK.out | apply Kept.alloc | apply Kept.drewN | apply Kept.drew | refine Kept.setCell ?_ (.inl (.inr rfl)) _ | refine Kept.setCell ?_ (.inr (Aside0.out (by assumption))) _) | exact HK.out)) : p := h
theorem mM {p : Prop} (h : p := by (try simp only [List.map_toArray, List.map_cons, List.map_nil]); first | done | rfl | (simp only [List.length_drop, List.length_take]; rfl)) : p := h
theorem oA {p : Prop} [Decidable p] (h : decide p = true := by first | (with_reducible assumption) | assumption) : p := of_decide_eq_true h
theorem aP {α : Sort _} {a b : α} (h : a = b := by simp only [Act.put, List.setIfInBounds_toArray, List.set_cons_zero, List.set_cons_succ, i64_w, i32_w]; rfl) : a = b := h
theorem bC0 {w : World} {g t : Nat} {v0 : Value} {l : List Value} (h : w.heap[g]? = some (.cells (List.toArray (v0 :: l)) t (0, 0))) : w.cell? ⟨g, 0, none⟩ = some v0 := (blk_cell h 0).trans rfl
theorem bC1 {w : World} {g t : Nat} {v0 v1 : Value} {l : List Value} (h : w.heap[g]? = some (.cells (List.toArray (v0 :: v1 :: l)) t (0, 0))) : w.cell? ⟨g, 1, none⟩ = some v1 := (blk_cell h 1).trans rfl
theorem bC2 {w : World} {g t : Nat} {v0 v1 v2 : Value} {l : List Value} (h : w.heap[g]? = some (.cells (List.toArray (v0 :: v1 :: v2 :: l)) t (0, 0))) : w.cell? ⟨g, 2, none⟩ = some v2 := (blk_cell h 2).trans rfl
theorem bC3 {w : World} {g t : Nat} {v0 v1 v2 v3 : Value} {l : List Value} (h : w.heap[g]? = some (.cells (List.toArray (v0 :: v1 :: v2 :: v3 :: l)) t (0, 0))) : w.cell? ⟨g, 3, none⟩ = some v3 := (blk_cell h 3).trans rfl
theorem nL {g g1 : Nat} {W : World} {o : Obj} (hg : g1 = W.heap.size) (h : W.heap[g]? = some o) : g ≠ g1 := by rw [hg]; exact Nat.ne_of_lt (blk_lt h)
theorem nG {g g1 : Nat} {W : World} {o : Obj} (hg : g1 = W.heap.size) (h : W.heap[g]? = some o) : g1 ≠ g := by rw [hg]; exact Nat.ne_of_gt (blk_lt h)
theorem sW {w W : World} {g : Nat} (hg : g = W.heap.size) (h : Below w.heap.size w W := by exact bB) : w.heap.size ≤ g := by rw [hg]; exact below_size h
theorem kB {W W2 w : World} {g : Nat} {o : Obj} (hb : Below W.heap.size W W2) [u : Up W w] (h : w.heap[g]? = some o) : W2.heap[g]? = some o := blk_below (blk_below h u.out) hb
theorem aM {p : Prop} (h : p) : Aside0 p := ⟨h⟩
def pT (k n : Nat) : Array Bool := (List.replicate k true ++ List.replicate n false).toArray
theorem eF {p : Prop} (h : p := by first | rfl | (simp; done) | (simp [*]; done)) : p := h
theorem dR {w w1 : World} (h : Drawn0 w w1 := by repeat (first | exact Drawn0.refl _ | apply Drawn0.step)) : Drawn0 w w1 := h
theorem eW {p : Prop} (h : p := by first | rfl | (simp [errW_none, errW_some] <;> rfl) | (simp [*, errW_none, errW_some] <;> rfl)) : p := h
theorem gS {p : Prop} (h : p := by first | (go_simp; done) | (go_simp; rfl)) : p := h
theorem tP {α : Type} {d : Kd α} {e : Nat} {base : Nat} {ok : Nat → Prop} {v : Value} {xs : List α} {w w1 : World} [u : Up w1 w] (h : d.S e w base ok v xs) : d.S e w1 base ok v xs := Kd.S_below h u.out
theorem uP {α : Type} {d : Kd α} {e : Nat} {base : Nat} {ok : Nat → Prop} {v : Value} {xs : List α} {w w1 : World} [u : Up w1 w] (h : d.N e w base ok v xs) : d.N e w1 base ok v xs := Kd.N_below h u.out
/-! ### common: by hand -/
theorem w64 {x : Int} (h0 : -9223372036854775808 ≤ x) (h1 : x ≤ 9223372036854775807) : wrap64 x = x := by unfold wrap64; omega
theorem still_tail_drew {P : Program} {id : Nat} {Q : Exit → Act → World → Prop} {a : Act} {w : World} {l : List Oper} (n : Nat) (hm : P.follows .mixedOrders = true) (hB : Region.lexTailB .any l.toArray n = true)
    (h : wpStill P l.toArray w.drew (fun a' => wpList P l.toArray Q (l.drop n) a' w.drew) (l.take n) a) : (Code.region id l.toArray true).wp P Q a w := wp_region_still_tail n hm hB h
def edgeOk (n : Int) (e : S78) : Bool := decide (0 ≤ e.f0 ∧ e.f0 < e.f1 ∧ e.f1 < n)
def edgeLt (a b : S78) : Bool := decide (a.f0 < b.f0 ∨ a.f0 = b.f0 ∧ a.f1 < b.f1)
def goodL (n : Int) : Option S78 → List S78 → Bool
  | _, [] => true
  | p, e :: es => edgeOk n e && p.all (fun q => edgeLt q e) && goodL n (some e) es
def prevAt (es : List S78) (i : Nat) : Option S78 := if i = 0 then none else some (rd_T78 es ((i : Int) - 1))
theorem blk_new (w : World) (o : Obj) : (w.alloc o).heap[w.heap.size]? = some o := by show (w.heap.push o)[w.heap.size]? = some o; exact Array.getElem?_push_size
theorem step_lt {n x : Int} {es : List S78} (h0 : 0 ≤ x) (h1 : x < es.length) :
    goodL n (prevAt es x.toNat) (es.drop x.toNat) = (edgeOk n (rd_T78 es x) && (prevAt es x.toNat).all (fun q => edgeLt q (rd_T78 es x)) && goodL n (prevAt es (x + 1).toNat) (es.drop (x + 1).toNat)) := by
  obtain ⟨i, rfl⟩ : ∃ i : Nat, x = i := ⟨x.toNat, by omega⟩
  have hi : i < es.length := by omega
  have e1 : ((i : Int) + 1).toNat = i + 1 := by omega
  rw [e1, Int.toNat_natCast]
  have e2 : prevAt es (i + 1) = some (rd_T78 es i) := by
    unfold prevAt; rw [if_neg (by omega)]; congr 2; omega
  rw [e2, List.drop_eq_getElem_cons hi, goodL]
  have e3 : rd_T78 es i = es[i] := by simp [rd_T78, hi]
  rw [e3]
theorem goodL_all {n : Int} {es : List S78} : ∀ {p}, goodL n p es = true → ∀ e ∈ es, edgeOk n e = true := by
  induction es with
  | nil => intro p _ e he; cases he
  | cons a es ih =>
    intro p h e he
    simp only [goodL, Bool.and_eq_true] at h
    rcases List.mem_cons.1 he with rfl | he
    · exact h.1.1
    · exact ih h.2 e he
theorem rd_mem {es : List S78} {x : Int} (h0 : 0 ≤ x) (h1 : x < (es.length : Int)) : rd_T78 es x ∈ es := by
  obtain ⟨i, rfl⟩ : ∃ i : Nat, x = i := ⟨x.toNat, by omega⟩
  have hi : i < es.length := by omega
  have : rd_T78 es i = es[i] := by simp [rd_T78, hi]
  rw [this]; exact List.getElem_mem hi
theorem foldl_at {α : Type} {es : List S78} {x : Int} (h0 : 0 ≤ x) (h1 : x < (es.length : Int)) (f : α → S78 → α) (a : α) : (es.drop x.toNat).foldl f a = (es.drop (x + 1).toNat).foldl f (f a (rd_T78 es x)) := by
  obtain ⟨i, rfl⟩ : ∃ i : Nat, x = i := ⟨x.toNat, by omega⟩
  have hi : i < es.length := by omega
  have e1 : ((i : Int) + 1).toNat = i + 1 := by omega
  have e3 : rd_T78 es i = es[i] := by simp [rd_T78, hi]
  rw [e1, Int.toNat_natCast, List.drop_eq_getElem_cons hi, List.foldl_cons, e3]
theorem infoInt : (Tryd.prog.info? 3).map (fun i => (i.zero, i.size, i.bytes)) = some (some (.int .i64 0), 1, 8) := by kernel_rfl
/-! ### laws_szIntA2S: function 26 -/
def laws_szIntA2S.f (l0 : List (S78)) (a1 : Int) : Option (Int) := if (wrap64 (a1 - (l0.length : Int))) < 0 then (some (-1)) else (some (wrap64 (a1 - (l0.length : Int))))
theorem laws_szIntA2S.calls (A0 : Option Addr) (c0 : Nat) (l0 : List (S78)) (a1 : Int) (r : Int) (w : World) (hr0 : Kd.C k78 w A0 l0.length l0) (hc0 : l0.length ≤ c0) (h : laws_szIntA2S.f l0 a1 = some r) :
  Calls Tryd.prog 26 #[.slice A0 l0.length c0, .int .i64 a1] w fun e w' => e = .returned (.int .i64 r) ∧ Drawn0 w w' := by
 have HR0 := Aside0.mk hr0
 have HC0 := Aside0.mk hc0
 clear hr0 hc0
 have H : (if (wrap64 (a1 - (l0.length : Int))) < 0 then (some (-1)) else (some (wrap64 (a1 - (l0.length : Int))))) = some r := h
 clear h
 by_cases c3 : (wrap64 (a1 - (l0.length : Int))) < 0
 rotate_left
 ·rw [if_neg c3] at H
  have c3b0 : decide ((wrap64 (a1 - (l0.length : Int))) < 0) = false := decide_eq_false c3
  clear c3
  obtain rfl := Option.some.inj H
  go_enter Tryd.func26, Tryd.ntmps26
  go_wp2
  go_ret
  exact ⟨eF, dR⟩
 rw [if_pos c3] at H
 have c3b0 : decide ((wrap64 (a1 - (l0.length : Int))) < 0) = true := decide_eq_true c3
 clear c3
 obtain rfl := Option.some.inj H
 go_enter Tryd.func26, Tryd.ntmps26
 go_wp2
 go_ret
 exact ⟨eF, dR⟩


/-! ### laws_szGraph: function 7 -/
def laws_szGraph.f (a0_0 : Int) (l0_1 : List (S78)) (a1 : Int) : Option (Int) := (laws_szIntA2S.f l0_1 a1).bind fun t102 => (if t102 < 0 then (some (-1)) else (some t102))
theorem laws_szGraph.calls (a0_0 : Int) (A0_1 : Option Addr) (c0_1 : Nat) (l0_1 : List (S78)) (a1 : Int) (r : Int) (w : World) (hr0_1 : Kd.C k78 w A0_1 l0_1.length l0_1) (hc0_1 : l0_1.length ≤ c0_1) (h : laws_szGraph.f a0_0 l0_1 a1 = some r) :
  Calls Tryd.prog 7 #[.agg #[.int .i64 a0_0, .slice A0_1 l0_1.length c0_1], .int .i64 a1] w fun e w' => e = .returned (.int .i64 r) ∧ Below w.heap.size w w' := by
 have hu24 := Tryd.underlying24
 have HR0_1 := Aside0.mk hr0_1
 have HC0_1 := Aside0.mk hc0_1
 clear hr0_1 hc0_1
 have HB := aM (Below.refl w.heap.size w)
 have H : ((laws_szIntA2S.f l0_1 a1).bind fun t102 => (if t102 < 0 then (some (-1)) else (some t102))) = some r := h
 clear h
 replace H := Option.bind_eq_some_iff.mp H
 obtain ⟨t102, A30, H⟩ := H
 replace H : (if t102 < 0 then (some (-1)) else (some t102)) = some r := H
 have A3 := Aside0.mk A30
 clear A30
 by_cases c4 : t102 < 0
 rotate_left
 ·rw [if_neg c4] at H
  have c4b0 : decide (t102 < 0) = false := decide_eq_false c4
  clear c4
  obtain rfl := Option.some.inj H
  go_enter Tryd.func7, Tryd.ntmps7
  go_wp2_with (first | ((with_reducible refine gate_dst (N := 2) rfl ?_);refine box_event ?hg (N := 2) ?hd (cs := #[.int .i64 a0_0, .slice A0_1 l0_1.length c0_1]) (t := 24) ?hr ?_;(case hd => rfl);(case hg => rfl);(case hr => exact gS);intro gb101 hg w7 hbox hb;have n0_ := aM (below_step (by exact bB) hb);have n1_ := aM (hbox);have n2_ := aM (sW hg : w.heap.size ≤ gb101);have n3_ := aM (sW hg : w.heap.size ≤ gb101);clear HB;have HB := n0_;have BK101 := n1_;have GW101 := n2_;have GE101 := n3_;clear n0_ n1_ n2_ n3_;clear hb hbox hg;have hcz8_0 := bC0 BK101.out;have hcz8_1 := bC1 BK101.out;have hfz8_0 := blk_frozen BK101.out 0;have hfz8_1 := blk_frozen BK101.out 1) | ((with_reducible refine gate_callee (f := 26) rfl ?_);refine goesL_ (some 8) rfl rfl Tryd.func26 (by kernel_rfl) rfl #[.slice A0_1 l0_1.length c0_1, .int .i64 a1] rfl mM ?_;(with_reducible refine (laws_szIntA2S.calls _ _ l0_1 a1 t102 _ ?side1 ?side2 A3.out).mono ?_);(case side1 => exact cP (Kd.C_below HR0_1.out HB.out));(case side2 => exact HC0_1.out);rintro e w' ⟨rfl, ⟨nd, rfl⟩⟩;refine ⟨_, rfl, ?_⟩))
  go_ret
  exact ⟨eW, by exact bB⟩
 rw [if_pos c4] at H
 have c4b0 : decide (t102 < 0) = true := decide_eq_true c4
 clear c4
 obtain rfl := Option.some.inj H
 go_enter Tryd.func7, Tryd.ntmps7
 go_wp2_with (first | ((with_reducible refine gate_dst (N := 2) rfl ?_);refine box_event ?hg (N := 2) ?hd (cs := #[.int .i64 a0_0, .slice A0_1 l0_1.length c0_1]) (t := 24) ?hr ?_;(case hd => rfl);(case hg => rfl);(case hr => exact gS);intro gb101 hg w5 hbox hb;have n0_ := aM (below_step (by exact bB) hb);have n1_ := aM (hbox);have n2_ := aM (sW hg : w.heap.size ≤ gb101);have n3_ := aM (sW hg : w.heap.size ≤ gb101);clear HB;have HB := n0_;have BK101 := n1_;have GW101 := n2_;have GE101 := n3_;clear n0_ n1_ n2_ n3_;clear hb hbox hg;have hcz6_0 := bC0 BK101.out;have hcz6_1 := bC1 BK101.out;have hfz6_0 := blk_frozen BK101.out 0;have hfz6_1 := blk_frozen BK101.out 1) | ((with_reducible refine gate_callee (f := 26) rfl ?_);refine goesL_ (some 8) rfl rfl Tryd.func26 (by kernel_rfl) rfl #[.slice A0_1 l0_1.length c0_1, .int .i64 a1] rfl mM ?_;(with_reducible refine (laws_szIntA2S.calls _ _ l0_1 a1 t102 _ ?side1 ?side2 A3.out).mono ?_);(case side1 => exact cP (Kd.C_below HR0_1.out HB.out));(case side2 => exact HC0_1.out);rintro e w' ⟨rfl, ⟨nd, rfl⟩⟩;refine ⟨_, rfl, ?_⟩))
 go_ret
 exact ⟨eW, by exact bB⟩


/-! ### laws_toIntA2: by hand -/
def laws_toIntA2.f (a0_0 : Int) (a0_1 : Int) : Option (Int × Int) := some (a0_0, a0_1)
theorem laws_toIntA2.calls (a0_0 : Int) (a0_1 : Int) (r1 : Int) (r2 : Int) (w : World) (h : laws_toIntA2.f a0_0 a0_1 = some (r1, r2)) :
  Calls Tryd.prog 58 #[.agg #[.int .i64 a0_0, .int .i64 a0_1]] w fun e w' => e = .returned (.agg #[.int .i64 r1, .int .i64 r2]) ∧ Below w.heap.size w w' := by
 obtain ⟨rfl, rfl⟩ : a0_0 = r1 ∧ a0_1 = r2 := by simpa [laws_toIntA2.f] using h
 clear h
 go_enter Tryd.func58, Tryd.ntmps58
 go_wp2
 refine wp_loop_rounds 3 ?_
 rw [rounds_succ]
 go_wp2
 rw [rounds_succ]
 go_wp2
 rw [rounds_succ]
 go_wp2
 refine bodyPost_ret (v := .agg #[.int .i64 a0_0, .int .i64 a0_1]) (by simp [results, Tryd.results58, go_sem]) rfl ⟨rfl, ?_⟩
 repeat (first | exact Below.refl _ _ | apply below_alloc | refine below_set ?_ (by simp))

/-! ### laws_toIntA2S: function 29 -/
def laws_toIntA2S.l0 : Nat → List (S78) → List (S78) → Int → Option ((List (S78)))
 | 0, _, _, _ => none
 | k + 1, x0, x3, x4 => if x4 < (x0.length : Int) then (if 0 ≤ x4 then ((laws_toIntA2.f ((rd_T78 x0 x4).f0) ((rd_T78 x0 x4).f1)).bind fun bt109 => (if x4 < (x3.length : Int) then (laws_toIntA2S.l0 k x0 (x3.set (x4 : Int).toNat (⟨bt109.1, bt109.2⟩ : S78)) (wrap64 (x4 + 1))) else (none))) else (none)) else (some x3)
def laws_toIntA2S.f (k : Nat) (l0 : List (S78)) : Option ((List (S78))) := if 0 ≤ (l0.length : Int) then (if ((l0.length : Int) : Int).toNat ≤ 17592186044416 then (laws_toIntA2S.l0 k l0 (List.replicate ((l0.length : Int) : Int).toNat z78) 0) else (none)) else (none)
theorem laws_toIntA2S.mono_l : ∀ k, (∀ y0 y1 y2, LeO (laws_toIntA2S.l0 k y0 y1 y2) (laws_toIntA2S.l0 (k + 1) y0 y1 y2))
 | 0 => fun _ _ _ r h => by simp [laws_toIntA2S.l0] at h
 | k + 1 => by
  have ih0 := laws_toIntA2S.mono_l k
  ·intro y0 y1 y2
   unfold laws_toIntA2S.l0
   repeat' first
   | (with_reducible exact ih0 _ _ _)
   | (with_reducible exact LeO.refl _)
   | (with_reducible exact LeO.none _)
   | (with_reducible refine LeO.ite ?_ ?_)
   | (with_reducible refine LeO.bind ?_ (fun _ => ?_))
   | exact LeO.none _
   | refine LeO.ite ?_ ?_
   | refine LeO.bind ?_ (fun _ => ?_)
theorem laws_toIntA2S.mono : ∀ a0 k, LeO (laws_toIntA2S.f k a0) (laws_toIntA2S.f (k + 1) a0) := by
 intro a0 k
 have ih0 := laws_toIntA2S.mono_l k
 unfold laws_toIntA2S.f
 repeat' first
   | (with_reducible exact ih0 _ _ _)
   | (with_reducible exact LeO.refl _)
   | (with_reducible exact LeO.none _)
   | (with_reducible refine LeO.ite ?_ ?_)
   | (with_reducible refine LeO.bind ?_ (fun _ => ?_))
   | exact LeO.none _
   | refine LeO.ite ?_ ?_
   | refine LeO.bind ?_ (fun _ => ?_)
theorem laws_toIntA2S.calls (k : Nat) (A0 : Option Addr) (c0 : Nat) (l0 : List (S78)) (r : List (S78)) (w : World) (hr0 : Kd.C k78 w A0 l0.length l0) (hc0 : l0.length ≤ c0) (h : laws_toIntA2S.f k l0 = some r) :
  Calls Tryd.prog 29 #[.slice A0 l0.length c0] w fun e w' => ∃ v0_ : Value, e = .returned (v0_) ∧ Kd.R k78 78 w' w.heap.size (fun _ => True) v0_ r ∧ Below w.heap.size w w' := by
 have hu78 := Tryd.underlying78
 have HR0 := Aside0.mk hr0
 have HC0 := Aside0.mk hc0
 clear hr0 hc0
 have HB := aM (Below.refl w.heap.size w)
 have H : (if 0 ≤ (l0.length : Int) then (if ((l0.length : Int) : Int).toNat ≤ 17592186044416 then (laws_toIntA2S.l0 k l0 (List.replicate ((l0.length : Int) : Int).toNat z78) 0) else (none)) else (none)) = some r := h
 clear h
 by_cases c2 : 0 ≤ (l0.length : Int)
 rotate_left
 ·rw [if_neg c2] at H
  exact absurd H (by simp)
 rw [if_pos c2] at H
 have c2b0 := eq_true c2
 have c2b1 : decide (0 ≤ (l0.length : Int)) = true := decide_eq_true c2
 clear c2
 by_cases c3 : ((l0.length : Int) : Int).toNat ≤ 17592186044416
 rotate_left
 ·rw [if_neg c3] at H
  exact absurd H (by simp)
 rw [if_pos c3] at H
 have c3b0 := eq_true c3
 have c3b1 : decide (((l0.length : Int) : Int).toNat ≤ 17592186044416) = true := decide_eq_true c3
 clear c3
 obtain ⟨y105, hy105⟩ : ∃ y_ : List (S78), y_ = (List.replicate ((l0.length : Int) : Int).toNat z78) := ⟨_, rfl⟩
 replace H : (laws_toIntA2S.l0 k l0 y105 0) = some r := by first | (rw [hy105];with_reducible exact H) | (have H2_ := (Option.bind_some _ _).symm.trans H;rw [hy105];with_reducible exact H2_) | (have H2_ := (Option.bind_some _ _).symm.trans H;with_reducible exact H2_) | with_reducible exact H | (rw [hy105];exact H) | exact H
 have Ny105 := Aside0.mk hy105
 clear hy105
 have H' := Aside0.mk H
 clear H
 go_enter Tryd.func29, Tryd.ntmps29
 go_wp2_with (first | ((with_reducible refine gate_dst (N := 7) rfl ?_);refine Kd.R_make k78 _ 78 rfl (N := 7) rfl 22 _ _ rfl (l0.length : Int) rfl rfl Tryd.underlying22 (.agg #[(.int .i64 0), (.int .i64 0)]) 16 info78 rfl (by decide) (by omega) z78 (ok := fun _ => True) (okp := fun _ => True) (k78_mkM _ _ _ z78 ) (fun _ hk => hk) trivial (oA) (Nat.le_trans (Nat.mul_le_mul_right _ (oA : (l0.length : Int).toNat ≤ 17592186044416)) (by omega)) (Below.refl _ _) (Nat.le_refl _) ?_;intro v106 w4 ho5 hb hg_ hnew_;clear hg_ hnew_;(first | rw [← Ny105.out] at ho5 | (simp only [Int.reduceToNat] at ho5;rw [← Ny105.out] at ho5));have n0_ := aM (Kd.R_lower ho5 (below_size (by exact bB)));have n1_ := aM (below_step (by exact bB) hb);clear HB;have HO107 := n0_;have HB := n1_;clear n0_ n1_;clear hb ho5))
 go_loopg [4] k (fun kq v4 w' => ∃ (x3_1 : List (S78)) (x4_1 : Int), v4 = .int .i64 x4_1 ∧ Aside0 (laws_toIntA2S.l0 kq l0 x3_1 x4_1 = some r) ∧ Aside0 (kq ≤ k) ∧ Aside0 (Kd.R k78 78 w' w.heap.size (fun _ => True) v106 x3_1) ∧ Aside0 (Below w.heap.size w w'))
 case atStart => exact ⟨(y105), (0), eF, H', ⟨Nat.le_refl _⟩, ⟨by exact rP HO107.out⟩, ⟨by exact bB⟩⟩
 case round =>
  clear H'
  try clear c2
  try clear c2b0
  try clear c2b1
  try clear p2
  try clear c3
  try clear c3b0
  try clear c3b1
  obtain ⟨x3_1, x4_1, rfl, HA, HK1, HO_3, HB⟩ := hrel
  cases gk with
  | zero => exact absurd HA.out (by simp [laws_toIntA2S.l0])
  | succ k1 =>
   have H := HA.out
   clear HA
   simp only [laws_toIntA2S.l0] at H
   by_cases c6 : x4_1 < (l0.length : Int)
   rotate_left
   ·rw [if_neg c6] at H
    have c6b0 : decide (x4_1 < (l0.length : Int)) = false := decide_eq_false c6
    clear c6
    obtain rfl := Option.some.inj H
    go_wp2
    go_ret
    exact ⟨_, eW, by exact rP HO_3.out, by exact bB⟩
   rw [if_pos c6] at H
   have c6b0 : decide (x4_1 < (l0.length : Int)) = true := decide_eq_true c6
   clear c6
   by_cases c7 : 0 ≤ x4_1
   rotate_left
   ·rw [if_neg c7] at H
    exact absurd H (by simp)
   rw [if_pos c7] at H
   have c7b0 : decide (0 ≤ x4_1) = true := decide_eq_true c7
   clear c7
   replace H := Option.bind_eq_some_iff.mp H
   obtain ⟨⟨t109, t110⟩, A80, H⟩ := H
   replace H : (if x4_1 < (x3_1.length : Int) then (laws_toIntA2S.l0 k1 l0 (x3_1.set (x4_1 : Int).toNat (⟨t109, t110⟩ : S78)) (wrap64 (x4_1 + 1))) else (none)) = some r := H
   have A8 := Aside0.mk A80
   clear A80
   by_cases c9 : x4_1 < (x3_1.length : Int)
   rotate_left
   ·rw [if_neg c9] at H
    exact absurd H (by simp)
   rw [if_pos c9] at H
   have c9b0 : decide (x4_1 < (x3_1.length : Int)) = true := decide_eq_true c9
   clear c9
   obtain ⟨y111, hy111⟩ : ∃ y_ : List (S78), y_ = (x3_1.set (x4_1 : Int).toNat (⟨t109, t110⟩ : S78)) := ⟨_, rfl⟩
   replace H : (laws_toIntA2S.l0 k1 l0 y111 (wrap64 (x4_1 + 1))) = some r := by first | (rw [hy111];with_reducible exact H) | (have H2_ := (Option.bind_some _ _).symm.trans H;rw [hy111];with_reducible exact H2_) | (have H2_ := (Option.bind_some _ _).symm.trans H;with_reducible exact H2_) | with_reducible exact H | (rw [hy111];exact H) | exact H
   have Ny111 := Aside0.mk hy111
   clear hy111
   have H' := Aside0.mk H
   clear H
   have p108 : 0 ≤ (x4_1 : Int) := oA
   have q108 : x4_1 < (l0.length : Int) := oA
   obtain ⟨ad108, e108, hx108_0, hx108_1⟩ := at_T78 HR0.out x4_1 p108 q108
   cases e108
   replace hx108_0 := (HB.out.cell (World.block_lt_of_cell? w _ hx108_0)).trans hx108_0
   replace hx108_1 := (HB.out.cell (World.block_lt_of_cell? w _ hx108_1)).trans hx108_1
   replace p108 := eq_true p108
   replace q108 := eq_true q108
   go_wp2_with (first | ((with_reducible refine gate_callee (f := 58) rfl ?_);refine goesL_ (some 20) rfl rfl Tryd.func58 (by kernel_rfl) rfl #[.agg #[.int .i64 ((rd_T78 l0 x4_1).f0), .int .i64 ((rd_T78 l0 x4_1).f1)]] rfl mM ?_;(with_reducible refine (laws_toIntA2.calls ((rd_T78 l0 x4_1).f0) ((rd_T78 l0 x4_1).f1) t109 t110 _ A8.out).mono ?_);rintro e w11 ⟨rfl, hb⟩;refine ⟨_, rfl, ?_⟩;have n0_ := aM (Kd.R_below (by exact rP HO_3.out) hb);have n1_ := aM (below_step (by exact bB) hb);clear HO_3;clear HB;have HO_3 := n0_;have HB := n1_;clear n0_ n1_;(try clear hb);have p10 : 0 ≤ (x4_1 : Int) := oA;have q10 : (x4_1 : Int) < ((x3_1.length : Int) : Int) := oA;obtain ⟨go10, co10, eo10, gb10, gl10, cl10, HG10⟩ := Kd.R_form HO_3.out (by omega);(first | cases eo10 | (injection eo10 with ea_ en_ ec_;(first | subst ea_ | (injection ea_ with ea_;subst ea_));subst ec_;clear en_));have GB10 := Aside0.mk gb10;have GG10 := Aside0.mk HG10;clear gb10 gl10 HG10;obtain ⟨ce10, hcl10, hM10, hcc10, hfr10⟩ := Kd.R_elem HO_3.out z78 (x4_1 : Int) p10 q10;obtain rfl := k78_openM hM10;have hx10_0 : w11.cell? ⟨go10, (x4_1 : Int).toNat * 2, none⟩ = some (.int .i64 ((rd_T78 x3_1 x4_1).f0)) := hcc10 0 _ rfl;have hx10_1 : w11.cell? ⟨go10, (x4_1 : Int).toNat * 2 + 1, none⟩ = some (.int .i64 ((rd_T78 x3_1 x4_1).f1)) := hcc10 1 _ rfl;have hf10_0 : w11.frozen? ⟨go10, (x4_1 : Int).toNat * 2, none⟩ = false := hfr10 0;have hf10_1 : w11.frozen? ⟨go10, (x4_1 : Int).toNat * 2 + 1, none⟩ = false := hfr10 1;clear hcl10 hcc10 hfr10;(try clear hM10);replace p10 := eq_true p10;replace q10 := eq_true q10;have HX12 := aM (show Kd.R k78 78 w11 w.heap.size (fun _ => True) (.slice (some ⟨go10, 0, none⟩) x3_1.length co10) x3_1 from (by exact rP HO_3.out));obtain ⟨ce12, hcl12, hM12, hcc12, hfr12⟩ := Kd.R_elem HX12.out z78 (x4_1 : Int) (oA) (by have h_ : (x4_1 : Int) < ((x3_1.length : Int) : Int) := oA;first | exact h_ | (have e_ := (Kd.R_reads' HO_3.out).1;omega) | simpa using h_);obtain rfl := k78_openM hM12;have HP12 := Kd.R_seg HX12.out (x4_1 : Int) (oA) (by have h_ : (x4_1 : Int) < ((x3_1.length : Int) : Int) := oA;first | exact h_ | (have e_ := (Kd.R_reads' HO_3.out).1;omega) | simpa using h_) (seg := [.int .i64 t109, .int .i64 t110]) (j := 0) hcl12 hcc12 (show 2 ≤ 2 from by decide) (x' := (⟨t109, t110⟩ : S78)) (k78_mkM _ _ _ (⟨t109, t110⟩ : S78) ) (fun _ hk => hk);have hx12_0 := hcc12 0 _ rfl;(try simp only [show (k78).sz = 2 from rfl, Nat.mul_one, Nat.add_zero] at hx12_0);have hf12_0 := hfr12 0;(try simp only [show (k78).sz = 2 from rfl, Nat.mul_one, Nat.add_zero] at hf12_0);have hx12_1 := hcc12 1 _ rfl;(try simp only [show (k78).sz = 2 from rfl, Nat.mul_one, Nat.add_zero] at hx12_1);have hf12_1 := hfr12 1;(try simp only [show (k78).sz = 2 from rfl, Nat.mul_one, Nat.add_zero] at hf12_1);clear hcl12 hcc12 hfr12;(try clear hM12)) | ((with_reducible refine gate_store (t := 78) (p := 21) rfl ?_);refine store_event (t := 78) (p := 21) (v := ?vo_w13) (w1 := ((w11.setCell ⟨go10, (x4_1 : Int).toNat * 2, none⟩ (.int .i64 t109)).setCell ⟨go10, (x4_1 : Int).toNat * 2 + 1, none⟩ (.int .i64 t110))) ?hg ?ho ?hn ?hr ?_;(case ho => rfl);(case hg => rfl);(case hn => rfl);(case hr => exact gS);intro w13 hw;have hg : w11.grownBy w13 (some go10) := (by rw [hw];exact HP12.2);have hp_ : Kd.R k78 78 w13 w.heap.size (fun _ => True) (.slice (some ⟨go10, 0, none⟩) x3_1.length co10) y111 := (by rw [hw, Ny111.out];exact HP12.1);clear HP12;have n0_ := aM (hp_);have n1_ := aM ((by rw [hw];exact below_set (below_set (HB.out) GB10.out) GB10.out : Below w.heap.size w w13));clear HO_3;clear HB;have HO_3 := n0_;have HB := n1_;clear n0_ n1_;clear hg hw hp_))
   go_roundg k1
   case measure => have := HK1.out;omega
   case rel => exact ⟨(y111), (wrap64 (x4_1 + 1)), eF, H', ⟨by have := HK1.out;omega⟩, ⟨by exact rP HO_3.out⟩, ⟨by exact bB⟩⟩


/-! ### laws_toGraph: function 9 -/
def laws_toGraph.f (k : Nat) (a0_0 : Int) (l0_1 : List (S78)) : Option (Int × (List (S78))) := (laws_toIntA2S.f k l0_1).bind fun t115 => (some (a0_0, t115))
theorem laws_toGraph.mono : ∀ a0 a1 k, LeO (laws_toGraph.f k a0 a1) (laws_toGraph.f (k + 1) a0 a1) := by
 intro a0 a1 k
 unfold laws_toGraph.f
 repeat' first
   | (with_reducible exact laws_toIntA2S.mono _ _)
   | (with_reducible exact LeO.refl _)
   | (with_reducible exact LeO.none _)
   | (with_reducible refine LeO.ite ?_ ?_)
   | (with_reducible refine LeO.bind ?_ (fun _ => ?_))
   | exact LeO.none _
   | refine LeO.ite ?_ ?_
   | refine LeO.bind ?_ (fun _ => ?_)
theorem laws_toGraph.calls (k : Nat) (a0_0 : Int) (A0_1 : Option Addr) (c0_1 : Nat) (l0_1 : List (S78)) (r1 : Int) (r2 : List (S78)) (w : World) (hr0_1 : Kd.C k78 w A0_1 l0_1.length l0_1) (hc0_1 : l0_1.length ≤ c0_1) (h : laws_toGraph.f k a0_0 l0_1 = some (r1, r2)) :
  Calls Tryd.prog 9 #[.agg #[.int .i64 a0_0, .slice A0_1 l0_1.length c0_1]] w fun e w' => ∃ v1_ : Value, e = .returned (.agg #[.int .i64 r1, v1_]) ∧ Kd.R k78 78 w' w.heap.size (fun _ => True) v1_ r2 ∧ Below w.heap.size w w' := by
 have hu24 := Tryd.underlying24
 have hu29 := Tryd.underlying29
 have HR0_1 := Aside0.mk hr0_1
 have HC0_1 := Aside0.mk hc0_1
 clear hr0_1 hc0_1
 have HB := aM (Below.refl w.heap.size w)
 have H : ((laws_toIntA2S.f k l0_1).bind fun t115 => (some (a0_0, t115))) = some (r1, r2) := h
 clear h
 replace H := Option.bind_eq_some_iff.mp H
 obtain ⟨t115, A20, H⟩ := H
 replace H : (some (a0_0, t115)) = some (r1, r2) := H
 have A2 := Aside0.mk A20
 clear A20
 simp only [Option.some.injEq, Prod.mk.injEq] at H
 obtain ⟨rfl, rfl⟩ := H
 go_enter Tryd.func9, Tryd.ntmps9
 go_wp2_with (first | ((with_reducible refine gate_dst (N := 1) rfl ?_);refine box_event ?hg (N := 1) ?hd (cs := #[.int .i64 a0_0, .slice A0_1 l0_1.length c0_1]) (t := 24) ?hr ?_;(case hd => rfl);(case hg => rfl);(case hr => exact gS);intro gb112 hg w3 hbox hb;have n0_ := aM (below_step (by exact bB) hb);have n1_ := aM (hbox);have n2_ := aM (sW hg : w.heap.size ≤ gb112);have n3_ := aM (sW hg : w.heap.size ≤ gb112);clear HB;have HB := n0_;have BK112 := n1_;have GW112 := n2_;have GE112 := n3_;clear n0_ n1_ n2_ n3_;clear hb hbox hg) | ((with_reducible refine gate_dst (N := 2) rfl ?_);refine box_event ?hg (N := 2) ?hd (cs := #[.int .i64 0, .slice none 0 0]) (t := 29) ?hr ?_;(case hd => rfl);(case hg => rfl);(case hr => exact gS);intro gb113 hg w4 hbox hb;have n0_ := aM (kB hb BK112.out);have n1_ := aM (below_step (by exact bB) hb);have n2_ := aM (hbox);have n3_ := aM (sW hg : w.heap.size ≤ gb113);have n4_ := aM (sW hg : w.heap.size ≤ gb113);have n5_ := aM (nL hg (kP BK112.out));have n6_ := aM (nG hg (kP BK112.out));clear BK112;clear HB;have BK112 := n0_;have HB := n1_;have BK113 := n2_;have GW113 := n3_;have GE113 := n4_;have NB112_113 := n5_;have NB113_112 := n6_;clear n0_ n1_ n2_ n3_ n4_ n5_ n6_;clear hb hbox hg) | ((with_reducible refine gate_dst (N := 3) rfl ?_);refine box_event ?hg (N := 3) ?hd (cs := #[.int .i64 0, .slice none 0 0]) (t := 29) ?hr ?_;(case hd => rfl);(case hg => rfl);(case hr => exact gS);intro gb114 hg w5 hbox hb;have n0_ := aM (kB hb BK112.out);have n1_ := aM (kB hb BK113.out);have n2_ := aM (below_step (by exact bB) hb);have n3_ := aM (hbox);have n4_ := aM (sW hg : w.heap.size ≤ gb114);have n5_ := aM (sW hg : w.heap.size ≤ gb114);have n6_ := aM (nL hg (kP BK112.out));have n7_ := aM (nG hg (kP BK112.out));have n8_ := aM (nL hg (kP BK113.out));have n9_ := aM (nG hg (kP BK113.out));clear BK112;clear BK113;clear HB;have BK112 := n0_;have BK113 := n1_;have HB := n2_;have BK114 := n3_;have GW114 := n4_;have GE114 := n5_;have NB112_114 := n6_;have NB114_112 := n7_;have NB113_114 := n8_;have NB114_113 := n9_;clear n0_ n1_ n2_ n3_ n4_ n5_ n6_ n7_ n8_ n9_;clear hb hbox hg;have hnb6 := NB112_113.out;have hnc6 := NB113_112.out;have hnb7 := NB112_114.out;have hnc7 := NB114_112.out;have hcz8_0 := bC0 BK112.out;have hcz8_1 := bC1 BK112.out;have hfz8_0 := blk_frozen BK112.out 0;have hfz8_1 := blk_frozen BK112.out 1;have hnb9 := NB114_113.out;have hnc9 := NB113_114.out;have hcz10_0 := bC0 BK114.out;have hcz10_1 := bC1 BK114.out;have hfz10_0 := blk_frozen BK114.out 0;have hfz10_1 := blk_frozen BK114.out 1) | ((with_reducible refine gate_callee (f := 29) rfl ?_);refine goesL_ (some 9) rfl rfl Tryd.func29 (by kernel_rfl) rfl #[.slice A0_1 l0_1.length c0_1] rfl mM ?_;(with_reducible refine (laws_toIntA2S.calls k _ _ l0_1 t115 _ ?side1 ?side2 A2.out).mono ?_);(case side1 => exact Kd.C_below HR0_1.out (by exact bB));(case side2 => exact HC0_1.out);rintro e w11 ⟨v116, rfl, ho0, hb⟩;refine ⟨_, rfl, ?_⟩;have n0_ := aM (Kd.R_lower ho0 (below_size (by exact bB)));have n1_ := aM (blk_below (g := gb112) (o := .cells #[.int .i64 a0_0, .slice A0_1 l0_1.length c0_1] 24 (0, 0)) (by refine kP ?_;refine blk_far ?_ NB112_114.out _;exact kP BK112.out) hb);have n2_ := aM (blk_below (g := gb113) (o := .cells #[.int .i64 0, .slice none 0 0] 29 (0, 0)) (by refine kP ?_;refine blk_far ?_ NB113_114.out _;exact kP BK113.out) hb);have n3_ := aM (blk_below (g := gb114) (o := .cells #[.int .i64 a0_0, .slice none 0 0] 29 (0, 0)) (by refine kP ?_;refine blk_put (cs := #[.int .i64 0, .slice none 0 0]) ?_ 0 _ rfl;exact kP BK114.out) hb);have n4_ := aM (below_step (by exact bB) hb);clear BK112;clear BK113;clear BK114;clear HB;have HO117 := n0_;have BK112 := n1_;have BK113 := n2_;have BK114 := n3_;have HB := n4_;clear n0_ n1_ n2_ n3_ n4_;(try clear hb);(try clear ho0);obtain ⟨Ao12, co12, eo12⟩ := Kd.R_slice HO117.out;subst eo12;have hcz13_0 := bC0 BK114.out;have hcz13_1 := bC1 BK114.out;have hfz13_0 := blk_frozen BK114.out 0;have hfz13_1 := blk_frozen BK114.out 1;have hcz14_0 := bC0 BK113.out;have hcz14_1 := bC1 BK113.out;have hfz14_0 := blk_frozen BK113.out 0;have hfz14_1 := blk_frozen BK113.out 1))
 refine bodyPost_ret (results_cell_row rfl _ _ gb113 29 #[.int .i64 a0_0, .slice Ao12 t115.length co12] (0, 0) _ rfl (by refine kP ?_;refine blk_put (cs := #[.int .i64 a0_0, .slice none 0 0]) ?_ 1 _ rfl;refine kP ?_;refine blk_put (cs := #[.int .i64 0, .slice none 0 0]) ?_ 0 _ rfl;refine kP ?_;refine blk_far ?_ NB113_114.out _;exact kP BK113.out) Tryd.underlying29 rfl (by kernel_rfl)) rfl ?_
 exact ⟨_, eW, by refine rP ?_;exact Kd.R_mono (Kd.R_far (p := ⟨gb113, 1, none⟩) (Kd.R_far (p := ⟨gb113, 0, none⟩) (Kd.R_far (p := ⟨gb114, 1, none⟩) (Kd.R_types (Kd.R_types HO117.out BK114.out (by decide)) BK113.out (by decide)) (fun _ hk => hk.1.2) (.slice Ao12 t115.length co12)) (fun _ hk => hk.2) (.int .i64 a0_0)) (fun _ hk => hk.2) (.slice Ao12 t115.length co12)) (fun _ hk => trivial), by exact bB⟩


/-! ### laws_eqIntA2: by hand -/
def laws_eqIntA2.f (a0_0 : Int) (a0_1 : Int) (a1_0 : Int) (a1_1 : Int) : Option Bool := some (decide (a0_0 = a1_0 ∧ a0_1 = a1_1))
theorem laws_eqIntA2.calls (a0_0 : Int) (a0_1 : Int) (a1_0 : Int) (a1_1 : Int) (r : Bool) (w : World) (h : laws_eqIntA2.f a0_0 a0_1 a1_0 a1_1 = some r) :
  Calls Tryd.prog 67 #[.agg #[.int .i64 a0_0, .int .i64 a0_1], .agg #[.int .i64 a1_0, .int .i64 a1_1]] w fun e w' => e = .returned (.bool r) ∧ Below w.heap.size w w' := by
 obtain rfl := Option.some.inj h
 clear h
 go_enter Tryd.func67, Tryd.ntmps67
 go_wp2
 refine wp_loop_rounds 3 ?_
 rw [rounds_succ]
 by_cases h0 : a0_0 = a1_0
 ·subst h0
  have e0 : (a0_0 == a0_0) = true := by simp
  have e0' : (a0_0 != a0_0) = false := by simp
  go_wp2;repeat (go_quiet (fail);try go_wp2)
  rw [rounds_succ]
  by_cases h1 : a0_1 = a1_1
  ·subst h1
   have e1 : (a0_1 == a0_1) = true := by simp
   have e1' : (a0_1 != a0_1) = false := by simp
   go_wp2;repeat (go_quiet (fail);try go_wp2)
   rw [rounds_succ]
   go_wp2;repeat (go_quiet (fail);try go_wp2)
   go_ret
   exact ⟨by simp, by repeat (first | exact Below.refl _ _ | apply below_alloc | apply pw_below_drewN | apply below_drew | refine below_set ?_ (by simp))⟩
  ·have e1 : (a0_1 == a1_1) = false := by simpa using h1
   have e1' : (a0_1 != a1_1) = true := by simpa using h1
   go_wp2;repeat (go_quiet (fail);try go_wp2)
   go_ret
   exact ⟨by simp [h1], by repeat (first | exact Below.refl _ _ | apply below_alloc | apply pw_below_drewN | apply below_drew | refine below_set ?_ (by simp))⟩
 ·have e0 : (a0_0 == a1_0) = false := by simpa using h0
  have e0' : (a0_0 != a1_0) = true := by simpa using h0
  go_wp2;repeat (go_quiet (fail);try go_wp2)
  go_ret
  exact ⟨by simp [h0], by repeat (first | exact Below.refl _ _ | apply below_alloc | apply pw_below_drewN | apply below_drew | refine below_set ?_ (by simp))⟩

/-! ### laws_eqIntA2S: function 35 -/
def laws_eqIntA2S.l0 : Nat → List (S78) → List (S78) → Int → Option (Bool)
 | 0, _, _, _ => none
 | k + 1, x0, x1, x5 => if x5 < (x0.length : Int) then (if 0 ≤ x5 then (if x5 < (x1.length : Int) then ((laws_eqIntA2.f ((rd_T78 x0 x5).f0) ((rd_T78 x0 x5).f1) ((rd_T78 x1 x5).f0) ((rd_T78 x1 x5).f1)).bind fun t122 => (if t122 = true then (laws_eqIntA2S.l0 k x0 x1 (wrap64 (x5 + 1))) else (some false))) else (none)) else (none)) else (some true)
def laws_eqIntA2S.f (k : Nat) (l0 : List (S78)) (l1 : List (S78)) : Option (Bool) := if (l0.length : Int) = (l1.length : Int) then (laws_eqIntA2S.l0 k l0 l1 0) else (some false)
theorem laws_eqIntA2S.mono_l : ∀ k, (∀ y0 y1 y2, LeO (laws_eqIntA2S.l0 k y0 y1 y2) (laws_eqIntA2S.l0 (k + 1) y0 y1 y2))
 | 0 => fun _ _ _ r h => by simp [laws_eqIntA2S.l0] at h
 | k + 1 => by
  have ih0 := laws_eqIntA2S.mono_l k
  ·intro y0 y1 y2
   unfold laws_eqIntA2S.l0
   repeat' first
   | (with_reducible exact ih0 _ _ _)
   | (with_reducible exact LeO.refl _)
   | (with_reducible exact LeO.none _)
   | (with_reducible refine LeO.ite ?_ ?_)
   | (with_reducible refine LeO.bind ?_ (fun _ => ?_))
   | exact LeO.none _
   | refine LeO.ite ?_ ?_
   | refine LeO.bind ?_ (fun _ => ?_)
theorem laws_eqIntA2S.mono : ∀ a0 a1 k, LeO (laws_eqIntA2S.f k a0 a1) (laws_eqIntA2S.f (k + 1) a0 a1) := by
 intro a0 a1 k
 have ih0 := laws_eqIntA2S.mono_l k
 unfold laws_eqIntA2S.f
 repeat' first
   | (with_reducible exact ih0 _ _ _)
   | (with_reducible exact LeO.refl _)
   | (with_reducible exact LeO.none _)
   | (with_reducible refine LeO.ite ?_ ?_)
   | (with_reducible refine LeO.bind ?_ (fun _ => ?_))
   | exact LeO.none _
   | refine LeO.ite ?_ ?_
   | refine LeO.bind ?_ (fun _ => ?_)
def laws_eqIntA2S.T6 : Bool × List (List Nat × List Nat) := (true, [([], []), ([], []), ([0, 1], [0, 1]), ([2], [2]), ([], []), ([], []), ([4, 5], [4, 5]), ([6], [6]), ([3, 7], [3, 7]), ([8], [8])])
def laws_eqIntA2S.B6 : List Nat := [0, 0, 3, 7, 0, 0, 48, 112, 255, 511]
theorem laws_eqIntA2S.tab6 : rtab .any (opsOf Tryd.f35 6) = laws_eqIntA2S.T6 := by kernel_rfl
theorem laws_eqIntA2S.bits6 : waitsOk laws_eqIntA2S.T6.2 laws_eqIntA2S.B6 = true := by kernel_rfl
theorem laws_eqIntA2S.calls (k : Nat) (A0 : Option Addr) (c0 : Nat) (l0 : List (S78)) (A1 : Option Addr) (c1 : Nat) (l1 : List (S78)) (r : Bool) (w : World) (hr0 : Kd.C k78 w A0 l0.length l0) (hc0 : l0.length ≤ c0) (hr1 : Kd.C k78 w A1 l1.length l1) (hc1 : l1.length ≤ c1) (h : laws_eqIntA2S.f k l0 l1 = some r) :
  Calls Tryd.prog 35 #[.slice A0 l0.length c0, .slice A1 l1.length c1] w fun e w' => e = .returned (.bool r) ∧ Below w.heap.size w w' := by
 have hu78 := Tryd.underlying78
 have HR0 := Aside0.mk hr0
 have HC0 := Aside0.mk hc0
 clear hr0 hc0
 have HR1 := Aside0.mk hr1
 have HC1 := Aside0.mk hc1
 clear hr1 hc1
 have HB := aM (Below.refl w.heap.size w)
 have H : (if (l0.length : Int) = (l1.length : Int) then (laws_eqIntA2S.l0 k l0 l1 0) else (some false)) = some r := h
 clear h
 by_cases c3 : (l0.length : Int) = (l1.length : Int)
 rotate_left
 ·rw [if_neg c3] at H
  have c3b0 : ((l0.length : Int) == (l1.length : Int)) = false := beq_eq_false_iff_ne.mpr c3
  have c3b1 : ((l0.length : Int) != (l1.length : Int)) = true := bne_iff_ne.mpr c3
  have c3b2 : (l0.length == l1.length) = false := by first | simpa using c3 | (simp at c3 ⊢;omega)
  obtain rfl := Option.some.inj H
  go_enter Tryd.func35, Tryd.ntmps35
  go_wp2
  go_ret
  exact ⟨eW, by exact bB⟩
 rw [if_pos c3] at H
 have c3b0 : ((l0.length : Int) == (l1.length : Int)) = true := beq_iff_eq.mpr c3
 have c3b1 : ((l0.length : Int) != (l1.length : Int)) = false := bne_eq_false_iff_eq.mpr c3
 have c3b2 : (l0.length == l1.length) = true := by first | simpa using c3 | (simp at c3 ⊢;omega)
 clear c3
 have H' := Aside0.mk H
 clear H
 go_enter Tryd.func35, Tryd.ntmps35
 go_wp2
 go_loopg [5] k (fun kq v5 w' => ∃ (x5_1 : Int), v5 = .int .i64 x5_1 ∧ Aside0 (laws_eqIntA2S.l0 kq l0 l1 x5_1 = some r) ∧ Aside0 (kq ≤ k) ∧ Aside0 (Below w.heap.size w w'))
 case atStart => exact ⟨(0), eF, H', ⟨Nat.le_refl _⟩, ⟨by exact bB⟩⟩
 case round =>
  clear H'
  try clear c1
  try clear p2
  try clear c3
  try clear c3b0
  try clear c3b1
  try clear c3b2
  obtain ⟨x5_1, rfl, HA, HK1, HB⟩ := hrel
  cases gk with
  | zero => exact absurd HA.out (by simp [laws_eqIntA2S.l0])
  | succ k1 =>
   have H := HA.out
   clear HA
   simp only [laws_eqIntA2S.l0] at H
   by_cases c4 : x5_1 < (l0.length : Int)
   rotate_left
   ·rw [if_neg c4] at H
    have c4b0 : decide (x5_1 < (l0.length : Int)) = false := decide_eq_false c4
    clear c4
    obtain rfl := Option.some.inj H
    go_wp2
    go_ret
    exact ⟨eW, by exact bB⟩
   rw [if_pos c4] at H
   have c4b0 : decide (x5_1 < (l0.length : Int)) = true := decide_eq_true c4
   clear c4
   by_cases c5 : 0 ≤ x5_1
   rotate_left
   ·rw [if_neg c5] at H
    exact absurd H (by simp)
   rw [if_pos c5] at H
   have c5b0 : decide (0 ≤ x5_1) = true := decide_eq_true c5
   clear c5
   by_cases c6 : x5_1 < (l1.length : Int)
   rotate_left
   ·rw [if_neg c6] at H
    exact absurd H (by simp)
   rw [if_pos c6] at H
   have c6b0 : decide (x5_1 < (l1.length : Int)) = true := decide_eq_true c6
   clear c6
   replace H := Option.bind_eq_some_iff.mp H
   obtain ⟨t122, A70, H⟩ := H
   replace H : (if t122 = true then (laws_eqIntA2S.l0 k1 l0 l1 (wrap64 (x5_1 + 1))) else (some false)) = some r := H
   have A7 := Aside0.mk A70
   clear A70
   by_cases c8 : t122 = true
   rotate_left
   ·replace c8 := Bool.eq_false_iff.mpr c8
    subst c8
    have H1 : (some false) = some r := by rw [if_neg (show ¬ (false = true) by decide)] at H;exact H
    clear H
    have H := H1
    clear H1
    obtain rfl := Option.some.inj H
    try go_wp2
    have n0_ := aM (below_drew1 HB.out)
    clear HB
    have HB := n0_
    clear n0_
    have p120 : 0 ≤ (x5_1 : Int) := oA
    have q120 : x5_1 < (l0.length : Int) := oA
    obtain ⟨ad120, e120, hx120_0, hx120_1⟩ := at_T78 HR0.out x5_1 p120 q120
    have hw120_1 := hx120_1
    have hw120_0 := hx120_0
    cases e120
    replace hx120_0 := (HB.out.cell (World.block_lt_of_cell? w _ hx120_0)).trans hx120_0
    replace hx120_1 := (HB.out.cell (World.block_lt_of_cell? w _ hx120_1)).trans hx120_1
    replace p120 := eq_true p120
    replace q120 := eq_true q120
    have p121 : 0 ≤ (x5_1 : Int) := oA
    have q121 : x5_1 < (l1.length : Int) := oA
    obtain ⟨ad121, e121, hx121_0, hx121_1⟩ := at_T78 HR1.out x5_1 p121 q121
    have hw121_1 := hx121_1
    have hw121_0 := hx121_0
    cases e121
    replace hx121_0 := (HB.out.cell (World.block_lt_of_cell? w _ hx121_0)).trans hx121_0
    replace hx121_1 := (HB.out.cell (World.block_lt_of_cell? w _ hx121_1)).trans hx121_1
    replace p121 := eq_true p121
    replace q121 := eq_true q121
    refine start_ (n := 10) (S := fun w' => w'.cell? (ad120.add ((x5_1).toNat * 2)) = some (.int .i64 ((rd_T78 l0 x5_1).f0)) ∧ w'.cell? ⟨(ad120.add ((x5_1).toNat * 2)).block, (ad120.add ((x5_1).toNat * 2)).off + 1, none⟩ = some (.int .i64 ((rd_T78 l0 x5_1).f1)) ∧ w'.cell? (ad121.add ((x5_1).toNat * 2)) = some (.int .i64 ((rd_T78 l1 x5_1).f0)) ∧ w'.cell? ⟨(ad121.add ((x5_1).toNat * 2)).block, (ad121.add ((x5_1).toNat * 2)).off + 1, none⟩ = some (.int .i64 ((rd_T78 l1 x5_1).f1))) (ds := []) (pT 0 10) (by kernel_rfl) rfl rfl ⟨((HB.out.cell (World.block_lt_of_cell? w _ hw120_0)).trans hw120_0), ((HB.out.cell (World.block_lt_of_cell? w _ hw120_1)).trans hw120_1), ((HB.out.cell (World.block_lt_of_cell? w _ hw121_0)).trans hw121_0), ((HB.out.cell (World.block_lt_of_cell? w _ hw121_1)).trans hw121_1)⟩ (fun hHeld => ?_);refine with_tabW laws_eqIntA2S.tab6 laws_eqIntA2S.bits6 (fun HT_ HW_ => ?_)
    generalize wr.drew = w11 at HB hx120_0 hx120_1 hx121_0 hx121_1 hHeld ⊢
    refine pure_ (i := 0) (N := some 17) (v := ?_) (a' := ?_) (pT 1 9) rfl rfl (any_of HT_.out (by kernel_rfl)) (fun _ _ _ h => h) (Or.inl ⟨by rfl, ?_⟩) ?_ ?_
    rotate_left
    ·intro w'
     go_simp
     with_reducible rfl
    rotate_left
    ·exact aP
    refine pure_ (i := 1) (N := some 18) (v := ?_) (a' := ?_) (pT 2 8) rfl rfl (any_of HT_.out (by kernel_rfl)) (fun _ _ _ h => h) (Or.inl ⟨by rfl, ?_⟩) ?_ ?_
    rotate_left
    ·intro w'
     go_simp
     with_reducible rfl
    rotate_left
    ·exact aP
    refine pure_ (i := 2) (N := some 19) (v := ?_) (a' := ?_) (pT 3 7) rfl rfl (any_of HT_.out (by kernel_rfl)) (fun _ _ _ h => h) (Or.inl ⟨by rfl, ?_⟩) ?_ ?_
    rotate_left
    ·intro w'
     go_simp
     with_reducible rfl
    rotate_left
    ·exact aP
    refine pure_ (i := 4) (N := some 21) (v := ?_) (a' := ?_) #[true,true,true,false,true,false,false,false,false,false] rfl rfl (any_of HT_.out (by kernel_rfl)) (fun _ _ _ h => h) (Or.inl ⟨by rfl, ?_⟩) ?_ ?_
    rotate_left
    ·intro w'
     go_simp
     with_reducible rfl
    rotate_left
    ·exact aP
    refine pure_ (i := 5) (N := some 22) (v := ?_) (a' := ?_) #[true,true,true,false,true,true,false,false,false,false] rfl rfl (any_of HT_.out (by kernel_rfl)) (fun _ _ _ h => h) (Or.inl ⟨by rfl, ?_⟩) ?_ ?_
    rotate_left
    ·intro w'
     go_simp
     with_reducible rfl
    rotate_left
    ·exact aP
    refine pure_ (i := 6) (N := some 23) (v := ?_) (a' := ?_) #[true,true,true,false,true,true,true,false,false,false] rfl rfl (any_of HT_.out (by kernel_rfl)) (fun _ _ _ h => h) (Or.inl ⟨by rfl, ?_⟩) ?_ ?_
    rotate_left
    ·intro w'
     go_simp
     with_reducible rfl
    rotate_left
    ·exact aP
    refine take_ (i := 3) (N := some 20) (v := ?_) (a' := ?_) (pT 7 3) rfl rfl (take_ofW HT_.out HW_.out (by kernel_rfl)) (fun _ _ _ h => h) (Or.inl ⟨by rfl, ?_⟩) hHeld ?_ ?_
    rotate_left
    ·rintro w' ⟨s0, s1, s2, s3⟩
     go_simp
     with_reducible rfl
    rotate_left
    ·exact aP
    refine take_ (i := 7) (N := some 24) (v := ?_) (a' := ?_) (pT 8 2) rfl rfl (take_ofW HT_.out HW_.out (by kernel_rfl)) (fun _ _ _ h => h) (Or.inl ⟨by rfl, ?_⟩) hHeld ?_ ?_
    rotate_left
    ·rintro w' ⟨s0, s1, s2, s3⟩
     go_simp
     with_reducible rfl
    rotate_left
    ·exact aP
    refine one_ (i := 8) (N := some 25) (pT 9 1) rfl rfl (one_of HT_.out (by kernel_rfl)) (by decide) (fun K hK => ?_)
    refine goes_ Tryd.func67 (by kernel_rfl) rfl #[.agg #[.int .i64 ((rd_T78 l0 x5_1).f0), .int .i64 ((rd_T78 l0 x5_1).f1)], .agg #[.int .i64 ((rd_T78 l1 x5_1).f0), .int .i64 ((rd_T78 l1 x5_1).f1)]] (by rfl) rfl rfl mM ?_
    with_reducible refine (laws_eqIntA2.calls ((rd_T78 l0 x5_1).f0) ((rd_T78 l0 x5_1).f1) ((rd_T78 l1 x5_1).f0) ((rd_T78 l1 x5_1).f1) false _ A7.out).mono ?_
    rintro e w12 ⟨rfl, hb⟩
    refine ⟨_, rfl, ?_⟩
    have n0_ := aM (below_step (by exact bB) hb)
    clear HB
    have HB := n0_
    clear n0_
    (try clear hb)
    (try clear hb2)
    (try clear hk)
    (try clear hi)
    refine hK.out _ _ ⟨((HB.out.cell (World.block_lt_of_cell? w _ hw120_0)).trans hw120_0), ((HB.out.cell (World.block_lt_of_cell? w _ hw120_1)).trans hw120_1), ((HB.out.cell (World.block_lt_of_cell? w _ hw121_0)).trans hw121_0), ((HB.out.cell (World.block_lt_of_cell? w _ hw121_1)).trans hw121_1)⟩ (fun hHeld => ?_)
    clear hK K
    refine norm_ (a' := ?_) ?_ ?_
    rotate_left
    ·show Act.put _ (some 25) _ = _
     simp only [Act.put, List.setIfInBounds_toArray, List.set_cons_zero, List.set_cons_succ, i64_w, i32_w]
     rfl
    refine pure_ (i := 9) (N := some 26) (v := ?_) (a' := ?_) (pT 10 0) rfl rfl (any_of HT_.out (by kernel_rfl)) (fun _ _ _ h => h) (Or.inl ⟨by rfl, ?_⟩) ?_ ?_
    rotate_left
    ·intro w'
     go_simp
     with_reducible rfl
    rotate_left
    ·exact aP
    refine done_ (done_of HT_.out (by kernel_rfl)) ?_
    try go_wp2
    go_ret
    exact ⟨eW, by exact bB⟩
   subst c8
   have H1 : (laws_eqIntA2S.l0 k1 l0 l1 (wrap64 (x5_1 + 1))) = some r := by rw [if_pos rfl] at H;exact H
   clear H
   have H := H1
   clear H1
   have H' := Aside0.mk H
   clear H
   try go_wp2
   have n0_ := aM (below_drew1 HB.out)
   clear HB
   have HB := n0_
   clear n0_
   have p120 : 0 ≤ (x5_1 : Int) := oA
   have q120 : x5_1 < (l0.length : Int) := oA
   obtain ⟨ad120, e120, hx120_0, hx120_1⟩ := at_T78 HR0.out x5_1 p120 q120
   have hw120_1 := hx120_1
   have hw120_0 := hx120_0
   cases e120
   replace hx120_0 := (HB.out.cell (World.block_lt_of_cell? w _ hx120_0)).trans hx120_0
   replace hx120_1 := (HB.out.cell (World.block_lt_of_cell? w _ hx120_1)).trans hx120_1
   replace p120 := eq_true p120
   replace q120 := eq_true q120
   have p121 : 0 ≤ (x5_1 : Int) := oA
   have q121 : x5_1 < (l1.length : Int) := oA
   obtain ⟨ad121, e121, hx121_0, hx121_1⟩ := at_T78 HR1.out x5_1 p121 q121
   have hw121_1 := hx121_1
   have hw121_0 := hx121_0
   cases e121
   replace hx121_0 := (HB.out.cell (World.block_lt_of_cell? w _ hx121_0)).trans hx121_0
   replace hx121_1 := (HB.out.cell (World.block_lt_of_cell? w _ hx121_1)).trans hx121_1
   replace p121 := eq_true p121
   replace q121 := eq_true q121
   refine start_ (n := 10) (S := fun w' => w'.cell? (ad120.add ((x5_1).toNat * 2)) = some (.int .i64 ((rd_T78 l0 x5_1).f0)) ∧ w'.cell? ⟨(ad120.add ((x5_1).toNat * 2)).block, (ad120.add ((x5_1).toNat * 2)).off + 1, none⟩ = some (.int .i64 ((rd_T78 l0 x5_1).f1)) ∧ w'.cell? (ad121.add ((x5_1).toNat * 2)) = some (.int .i64 ((rd_T78 l1 x5_1).f0)) ∧ w'.cell? ⟨(ad121.add ((x5_1).toNat * 2)).block, (ad121.add ((x5_1).toNat * 2)).off + 1, none⟩ = some (.int .i64 ((rd_T78 l1 x5_1).f1))) (ds := []) (pT 0 10) (by kernel_rfl) rfl rfl ⟨((HB.out.cell (World.block_lt_of_cell? w _ hw120_0)).trans hw120_0), ((HB.out.cell (World.block_lt_of_cell? w _ hw120_1)).trans hw120_1), ((HB.out.cell (World.block_lt_of_cell? w _ hw121_0)).trans hw121_0), ((HB.out.cell (World.block_lt_of_cell? w _ hw121_1)).trans hw121_1)⟩ (fun hHeld => ?_);refine with_tabW laws_eqIntA2S.tab6 laws_eqIntA2S.bits6 (fun HT_ HW_ => ?_)
   generalize wr.drew = w9 at HB hx120_0 hx120_1 hx121_0 hx121_1 hHeld ⊢
   refine pure_ (i := 0) (N := some 17) (v := ?_) (a' := ?_) (pT 1 9) rfl rfl (any_of HT_.out (by kernel_rfl)) (fun _ _ _ h => h) (Or.inl ⟨by rfl, ?_⟩) ?_ ?_
   rotate_left
   ·intro w'
    go_simp
    with_reducible rfl
   rotate_left
   ·exact aP
   refine pure_ (i := 1) (N := some 18) (v := ?_) (a' := ?_) (pT 2 8) rfl rfl (any_of HT_.out (by kernel_rfl)) (fun _ _ _ h => h) (Or.inl ⟨by rfl, ?_⟩) ?_ ?_
   rotate_left
   ·intro w'
    go_simp
    with_reducible rfl
   rotate_left
   ·exact aP
   refine pure_ (i := 2) (N := some 19) (v := ?_) (a' := ?_) (pT 3 7) rfl rfl (any_of HT_.out (by kernel_rfl)) (fun _ _ _ h => h) (Or.inl ⟨by rfl, ?_⟩) ?_ ?_
   rotate_left
   ·intro w'
    go_simp
    with_reducible rfl
   rotate_left
   ·exact aP
   refine pure_ (i := 4) (N := some 21) (v := ?_) (a' := ?_) #[true,true,true,false,true,false,false,false,false,false] rfl rfl (any_of HT_.out (by kernel_rfl)) (fun _ _ _ h => h) (Or.inl ⟨by rfl, ?_⟩) ?_ ?_
   rotate_left
   ·intro w'
    go_simp
    with_reducible rfl
   rotate_left
   ·exact aP
   refine pure_ (i := 5) (N := some 22) (v := ?_) (a' := ?_) #[true,true,true,false,true,true,false,false,false,false] rfl rfl (any_of HT_.out (by kernel_rfl)) (fun _ _ _ h => h) (Or.inl ⟨by rfl, ?_⟩) ?_ ?_
   rotate_left
   ·intro w'
    go_simp
    with_reducible rfl
   rotate_left
   ·exact aP
   refine pure_ (i := 6) (N := some 23) (v := ?_) (a' := ?_) #[true,true,true,false,true,true,true,false,false,false] rfl rfl (any_of HT_.out (by kernel_rfl)) (fun _ _ _ h => h) (Or.inl ⟨by rfl, ?_⟩) ?_ ?_
   rotate_left
   ·intro w'
    go_simp
    with_reducible rfl
   rotate_left
   ·exact aP
   refine take_ (i := 3) (N := some 20) (v := ?_) (a' := ?_) (pT 7 3) rfl rfl (take_ofW HT_.out HW_.out (by kernel_rfl)) (fun _ _ _ h => h) (Or.inl ⟨by rfl, ?_⟩) hHeld ?_ ?_
   rotate_left
   ·rintro w' ⟨s0, s1, s2, s3⟩
    go_simp
    with_reducible rfl
   rotate_left
   ·exact aP
   refine take_ (i := 7) (N := some 24) (v := ?_) (a' := ?_) (pT 8 2) rfl rfl (take_ofW HT_.out HW_.out (by kernel_rfl)) (fun _ _ _ h => h) (Or.inl ⟨by rfl, ?_⟩) hHeld ?_ ?_
   rotate_left
   ·rintro w' ⟨s0, s1, s2, s3⟩
    go_simp
    with_reducible rfl
   rotate_left
   ·exact aP
   refine one_ (i := 8) (N := some 25) (pT 9 1) rfl rfl (one_of HT_.out (by kernel_rfl)) (by decide) (fun K hK => ?_)
   refine goes_ Tryd.func67 (by kernel_rfl) rfl #[.agg #[.int .i64 ((rd_T78 l0 x5_1).f0), .int .i64 ((rd_T78 l0 x5_1).f1)], .agg #[.int .i64 ((rd_T78 l1 x5_1).f0), .int .i64 ((rd_T78 l1 x5_1).f1)]] (by rfl) rfl rfl mM ?_
   with_reducible refine (laws_eqIntA2.calls ((rd_T78 l0 x5_1).f0) ((rd_T78 l0 x5_1).f1) ((rd_T78 l1 x5_1).f0) ((rd_T78 l1 x5_1).f1) true _ A7.out).mono ?_
   rintro e w10 ⟨rfl, hb⟩
   refine ⟨_, rfl, ?_⟩
   have n0_ := aM (below_step (by exact bB) hb)
   clear HB
   have HB := n0_
   clear n0_
   (try clear hb)
   (try clear hb2)
   (try clear hk)
   (try clear hi)
   refine hK.out _ _ ⟨((HB.out.cell (World.block_lt_of_cell? w _ hw120_0)).trans hw120_0), ((HB.out.cell (World.block_lt_of_cell? w _ hw120_1)).trans hw120_1), ((HB.out.cell (World.block_lt_of_cell? w _ hw121_0)).trans hw121_0), ((HB.out.cell (World.block_lt_of_cell? w _ hw121_1)).trans hw121_1)⟩ (fun hHeld => ?_)
   clear hK K
   refine norm_ (a' := ?_) ?_ ?_
   rotate_left
   ·show Act.put _ (some 25) _ = _
    simp only [Act.put, List.setIfInBounds_toArray, List.set_cons_zero, List.set_cons_succ, i64_w, i32_w]
    rfl
   refine pure_ (i := 9) (N := some 26) (v := ?_) (a' := ?_) (pT 10 0) rfl rfl (any_of HT_.out (by kernel_rfl)) (fun _ _ _ h => h) (Or.inl ⟨by rfl, ?_⟩) ?_ ?_
   rotate_left
   ·intro w'
    go_simp
    with_reducible rfl
   rotate_left
   ·exact aP
   refine done_ (done_of HT_.out (by kernel_rfl)) ?_
   try go_wp2
   go_roundg k1
   case measure => have := HK1.out;omega
   case rel => exact ⟨(wrap64 (x5_1 + 1)), eF, H', ⟨by have := HK1.out;omega⟩, ⟨by exact bB⟩⟩


/-! ### laws_eqGraph: function 12 -/
def laws_eqGraph.f (k : Nat) (a0_0 : Int) (l0_1 : List (S78)) (a1_0 : Int) (l1_1 : List (S78)) : Option (Bool) := if a0_0 = a1_0 then ((laws_eqIntA2S.f k l0_1 l1_1).bind fun t125 => (if t125 = true then (some true) else (some false))) else (some false)
theorem laws_eqGraph.mono : ∀ a0 a1 a2 a3 k, LeO (laws_eqGraph.f k a0 a1 a2 a3) (laws_eqGraph.f (k + 1) a0 a1 a2 a3) := by
 intro a0 a1 a2 a3 k
 unfold laws_eqGraph.f
 repeat' first
   | (with_reducible exact laws_eqIntA2S.mono _ _ _)
   | (with_reducible exact LeO.refl _)
   | (with_reducible exact LeO.none _)
   | (with_reducible refine LeO.ite ?_ ?_)
   | (with_reducible refine LeO.bind ?_ (fun _ => ?_))
   | exact LeO.none _
   | refine LeO.ite ?_ ?_
   | refine LeO.bind ?_ (fun _ => ?_)
theorem laws_eqGraph.calls (k : Nat) (a0_0 : Int) (A0_1 : Option Addr) (c0_1 : Nat) (l0_1 : List (S78)) (a1_0 : Int) (A1_1 : Option Addr) (c1_1 : Nat) (l1_1 : List (S78)) (r : Bool) (w : World) (hr0_1 : Kd.C k78 w A0_1 l0_1.length l0_1) (hc0_1 : l0_1.length ≤ c0_1) (hr1_1 : Kd.C k78 w A1_1 l1_1.length l1_1) (hc1_1 : l1_1.length ≤ c1_1) (h : laws_eqGraph.f k a0_0 l0_1 a1_0 l1_1 = some r) :
  Calls Tryd.prog 12 #[.agg #[.int .i64 a0_0, .slice A0_1 l0_1.length c0_1], .agg #[.int .i64 a1_0, .slice A1_1 l1_1.length c1_1]] w fun e w' => e = .returned (.bool r) ∧ Below w.heap.size w w' := by
 have hu29 := Tryd.underlying29
 have HR0_1 := Aside0.mk hr0_1
 have HC0_1 := Aside0.mk hc0_1
 clear hr0_1 hc0_1
 have HR1_1 := Aside0.mk hr1_1
 have HC1_1 := Aside0.mk hc1_1
 clear hr1_1 hc1_1
 have HB := aM (Below.refl w.heap.size w)
 have H : (if a0_0 = a1_0 then ((laws_eqIntA2S.f k l0_1 l1_1).bind fun t125 => (if t125 = true then (some true) else (some false))) else (some false)) = some r := h
 clear h
 by_cases c3 : a0_0 = a1_0
 rotate_left
 ·rw [if_neg c3] at H
  have c3b0 : (a0_0 == a1_0) = false := beq_eq_false_iff_ne.mpr c3
  have c3b1 : (a0_0 != a1_0) = true := bne_iff_ne.mpr c3
  obtain rfl := Option.some.inj H
  go_enter Tryd.func12, Tryd.ntmps12
  go_wp2_with (first | ((with_reducible refine gate_dst (N := 2) rfl ?_);refine box_event ?hg (N := 2) ?hd (cs := #[.int .i64 a0_0, .slice A0_1 l0_1.length c0_1]) (t := 29) ?hr ?_;(case hd => rfl);(case hg => rfl);(case hr => exact gS);intro gb123 hg w18 hbox hb;have n0_ := aM (below_step (by exact bB) hb);have n1_ := aM (hbox);have n2_ := aM (sW hg : w.heap.size ≤ gb123);have n3_ := aM (sW hg : w.heap.size ≤ gb123);clear HB;have HB := n0_;have BK123 := n1_;have GW123 := n2_;have GE123 := n3_;clear n0_ n1_ n2_ n3_;clear hb hbox hg) | ((with_reducible refine gate_dst (N := 3) rfl ?_);refine box_event ?hg (N := 3) ?hd (cs := #[.int .i64 a1_0, .slice A1_1 l1_1.length c1_1]) (t := 29) ?hr ?_;(case hd => rfl);(case hg => rfl);(case hr => exact gS);intro gb124 hg w19 hbox hb;have n0_ := aM (kB hb BK123.out);have n1_ := aM (below_step (by exact bB) hb);have n2_ := aM (hbox);have n3_ := aM (sW hg : w.heap.size ≤ gb124);have n4_ := aM (sW hg : w.heap.size ≤ gb124);have n5_ := aM (nL hg (kP BK123.out));have n6_ := aM (nG hg (kP BK123.out));clear BK123;clear HB;have BK123 := n0_;have HB := n1_;have BK124 := n2_;have GW124 := n3_;have GE124 := n4_;have NB123_124 := n5_;have NB124_123 := n6_;clear n0_ n1_ n2_ n3_ n4_ n5_ n6_;clear hb hbox hg;have hnb20 := NB123_124.out;have hnc20 := NB124_123.out;have hcz21_0 := bC0 BK123.out;have hcz21_1 := bC1 BK123.out;have hfz21_0 := blk_frozen BK123.out 0;have hfz21_1 := blk_frozen BK123.out 1;have hcz22_0 := bC0 BK124.out;have hcz22_1 := bC1 BK124.out;have hfz22_0 := blk_frozen BK124.out 0;have hfz22_1 := blk_frozen BK124.out 1))
  go_ret
  exact ⟨eW, by exact bB⟩
 rw [if_pos c3] at H
 have c3b0 : (a0_0 == a1_0) = true := beq_iff_eq.mpr c3
 have c3b1 : (a0_0 != a1_0) = false := bne_eq_false_iff_eq.mpr c3
 clear c3
 replace H := Option.bind_eq_some_iff.mp H
 obtain ⟨t125, A40, H⟩ := H
 replace H : (if t125 = true then (some true) else (some false)) = some r := H
 have A4 := Aside0.mk A40
 clear A40
 by_cases c5 : t125 = true
 ·subst c5
  have H1 : (some true) = some r := by rw [if_pos rfl] at H;exact H
  clear H
  have H := H1
  clear H1
  obtain rfl := Option.some.inj H
  go_enter Tryd.func12, Tryd.ntmps12
  go_wp2_with (first | ((with_reducible refine gate_dst (N := 2) rfl ?_);refine box_event ?hg (N := 2) ?hd (cs := #[.int .i64 a0_0, .slice A0_1 l0_1.length c0_1]) (t := 29) ?hr ?_;(case hd => rfl);(case hg => rfl);(case hr => exact gS);intro gb123 hg w6 hbox hb;have n0_ := aM (below_step (by exact bB) hb);have n1_ := aM (hbox);have n2_ := aM (sW hg : w.heap.size ≤ gb123);have n3_ := aM (sW hg : w.heap.size ≤ gb123);clear HB;have HB := n0_;have BK123 := n1_;have GW123 := n2_;have GE123 := n3_;clear n0_ n1_ n2_ n3_;clear hb hbox hg) | ((with_reducible refine gate_dst (N := 3) rfl ?_);refine box_event ?hg (N := 3) ?hd (cs := #[.int .i64 a1_0, .slice A1_1 l1_1.length c1_1]) (t := 29) ?hr ?_;(case hd => rfl);(case hg => rfl);(case hr => exact gS);intro gb124 hg w7 hbox hb;have n0_ := aM (kB hb BK123.out);have n1_ := aM (below_step (by exact bB) hb);have n2_ := aM (hbox);have n3_ := aM (sW hg : w.heap.size ≤ gb124);have n4_ := aM (sW hg : w.heap.size ≤ gb124);have n5_ := aM (nL hg (kP BK123.out));have n6_ := aM (nG hg (kP BK123.out));clear BK123;clear HB;have BK123 := n0_;have HB := n1_;have BK124 := n2_;have GW124 := n3_;have GE124 := n4_;have NB123_124 := n5_;have NB124_123 := n6_;clear n0_ n1_ n2_ n3_ n4_ n5_ n6_;clear hb hbox hg;have hnb8 := NB123_124.out;have hnc8 := NB124_123.out;have hcz9_0 := bC0 BK123.out;have hcz9_1 := bC1 BK123.out;have hfz9_0 := blk_frozen BK123.out 0;have hfz9_1 := blk_frozen BK123.out 1;have hcz10_0 := bC0 BK124.out;have hcz10_1 := bC1 BK124.out;have hfz10_0 := blk_frozen BK124.out 0;have hfz10_1 := blk_frozen BK124.out 1) | ((with_reducible refine gate_callee (f := 35) rfl ?_);refine goesL_ (some 14) rfl rfl Tryd.func35 (by kernel_rfl) rfl #[.slice A0_1 l0_1.length c0_1, .slice A1_1 l1_1.length c1_1] rfl mM ?_;(with_reducible refine (laws_eqIntA2S.calls k _ _ l0_1 _ _ l1_1 true _ ?side1 ?side2 ?side3 ?side4 A4.out).mono ?_);(case side1 => exact cP (Kd.C_below HR0_1.out HB.out));(case side2 => exact HC0_1.out);(case side3 => exact cP (Kd.C_below HR1_1.out HB.out));(case side4 => exact HC1_1.out);rintro e w11 ⟨rfl, hb⟩;refine ⟨_, rfl, ?_⟩;have n0_ := aM (kB hb BK123.out);have n1_ := aM (kB hb BK124.out);have n2_ := aM (below_step (by exact bB) hb);clear BK123;clear BK124;clear HB;have BK123 := n0_;have BK124 := n1_;have HB := n2_;clear n0_ n1_ n2_;(try clear hb)))
  go_ret
  exact ⟨eW, by exact bB⟩
 replace c5 := Bool.eq_false_iff.mpr c5
 subst c5
 have H1 : (some false) = some r := by rw [if_neg (show ¬ (false = true) by decide)] at H;exact H
 clear H
 have H := H1
 clear H1
 obtain rfl := Option.some.inj H
 go_enter Tryd.func12, Tryd.ntmps12
 go_wp2_with (first | ((with_reducible refine gate_dst (N := 2) rfl ?_);refine box_event ?hg (N := 2) ?hd (cs := #[.int .i64 a0_0, .slice A0_1 l0_1.length c0_1]) (t := 29) ?hr ?_;(case hd => rfl);(case hg => rfl);(case hr => exact gS);intro gb123 hg w12 hbox hb;have n0_ := aM (below_step (by exact bB) hb);have n1_ := aM (hbox);have n2_ := aM (sW hg : w.heap.size ≤ gb123);have n3_ := aM (sW hg : w.heap.size ≤ gb123);clear HB;have HB := n0_;have BK123 := n1_;have GW123 := n2_;have GE123 := n3_;clear n0_ n1_ n2_ n3_;clear hb hbox hg) | ((with_reducible refine gate_dst (N := 3) rfl ?_);refine box_event ?hg (N := 3) ?hd (cs := #[.int .i64 a1_0, .slice A1_1 l1_1.length c1_1]) (t := 29) ?hr ?_;(case hd => rfl);(case hg => rfl);(case hr => exact gS);intro gb124 hg w13 hbox hb;have n0_ := aM (kB hb BK123.out);have n1_ := aM (below_step (by exact bB) hb);have n2_ := aM (hbox);have n3_ := aM (sW hg : w.heap.size ≤ gb124);have n4_ := aM (sW hg : w.heap.size ≤ gb124);have n5_ := aM (nL hg (kP BK123.out));have n6_ := aM (nG hg (kP BK123.out));clear BK123;clear HB;have BK123 := n0_;have HB := n1_;have BK124 := n2_;have GW124 := n3_;have GE124 := n4_;have NB123_124 := n5_;have NB124_123 := n6_;clear n0_ n1_ n2_ n3_ n4_ n5_ n6_;clear hb hbox hg;have hnb14 := NB123_124.out;have hnc14 := NB124_123.out;have hcz15_0 := bC0 BK123.out;have hcz15_1 := bC1 BK123.out;have hfz15_0 := blk_frozen BK123.out 0;have hfz15_1 := blk_frozen BK123.out 1;have hcz16_0 := bC0 BK124.out;have hcz16_1 := bC1 BK124.out;have hfz16_0 := blk_frozen BK124.out 0;have hfz16_1 := blk_frozen BK124.out 1) | ((with_reducible refine gate_callee (f := 35) rfl ?_);refine goesL_ (some 14) rfl rfl Tryd.func35 (by kernel_rfl) rfl #[.slice A0_1 l0_1.length c0_1, .slice A1_1 l1_1.length c1_1] rfl mM ?_;(with_reducible refine (laws_eqIntA2S.calls k _ _ l0_1 _ _ l1_1 false _ ?side1 ?side2 ?side3 ?side4 A4.out).mono ?_);(case side1 => exact cP (Kd.C_below HR0_1.out HB.out));(case side2 => exact HC0_1.out);(case side3 => exact cP (Kd.C_below HR1_1.out HB.out));(case side4 => exact HC1_1.out);rintro e w17 ⟨rfl, hb⟩;refine ⟨_, rfl, ?_⟩;have n0_ := aM (kB hb BK123.out);have n1_ := aM (kB hb BK124.out);have n2_ := aM (below_step (by exact bB) hb);clear BK123;clear BK124;clear HB;have BK123 := n0_;have BK124 := n1_;have HB := n2_;clear n0_ n1_ n2_;(try clear hb)))
 go_ret
 exact ⟨eW, by exact bB⟩


/-! ### spec_l1In: function 56 -/
def spec_l1In.f (a0 : Int) (a1 : Int) (a2 : Int) : Option (Bool) := if a0 ≥ a1 then (some (decide (a0 ≤ a2))) else (some false)
theorem spec_l1In.calls (a0 : Int) (a1 : Int) (a2 : Int) (r : Bool) (w : World) (h : spec_l1In.f a0 a1 a2 = some r) :
  Calls Tryd.prog 56 #[.int .i64 a0, .int .i64 a1, .int .i64 a2] w fun e w' => e = .returned (.bool r) ∧ Drawn0 w w' := by
 have H : (if a0 ≥ a1 then (some (decide (a0 ≤ a2))) else (some false)) = some r := h
 clear h
 by_cases c4 : a0 ≥ a1
 rotate_left
 ·rw [if_neg c4] at H
  have c4b0 : decide (a1 ≤ a0) = false := decide_eq_false c4
  clear c4
  obtain rfl := Option.some.inj H
  go_enter Tryd.func56, Tryd.ntmps56
  go_wp2
  go_ret
  exact ⟨eF, dR⟩
 rw [if_pos c4] at H
 have c4b0 : decide (a1 ≤ a0) = true := decide_eq_true c4
 clear c4
 obtain rfl := Option.some.inj H
 go_enter Tryd.func56, Tryd.ntmps56
 go_wp2
 go_ret
 exact ⟨eF, dR⟩


/-! ### spec_l2Before: function 68 -/
def spec_l2Before.f (a0_0 : Int) (a0_1 : Int) (a1_0 : Int) (a1_1 : Int) : Option (Bool) := if a0_0 < a1_0 then (some true) else (if a0_0 = a1_0 then (some (decide (a0_1 < a1_1))) else (some false))
theorem spec_l2Before.calls (a0_0 : Int) (a0_1 : Int) (a1_0 : Int) (a1_1 : Int) (r : Bool) (w : World) (h : spec_l2Before.f a0_0 a0_1 a1_0 a1_1 = some r) :
  Calls Tryd.prog 68 #[.agg #[.int .i64 a0_0, .int .i64 a0_1], .agg #[.int .i64 a1_0, .int .i64 a1_1]] w fun e w' => e = .returned (.bool r) ∧ Below w.heap.size w w' := by
 have hu78 := Tryd.underlying78
 have HB := aM (Below.refl w.heap.size w)
 have H : (if a0_0 < a1_0 then (some true) else (if a0_0 = a1_0 then (some (decide (a0_1 < a1_1))) else (some false))) = some r := h
 clear h
 by_cases c3 : a0_0 < a1_0
 ·rw [if_pos c3] at H
  have c3b0 : decide (a0_0 < a1_0) = true := decide_eq_true c3
  clear c3
  obtain rfl := Option.some.inj H
  go_enter Tryd.func68, Tryd.ntmps68
  go_wp2_with (first | ((with_reducible refine gate_dst (N := 2) rfl ?_);refine box_event ?hg (N := 2) ?hd (cs := #[.int .i64 a0_0, .int .i64 a0_1]) (t := 78) ?hr ?_;(case hd => rfl);(case hg => rfl);(case hr => exact gS);intro gb126 hg w4 hbox hb;have n0_ := aM (below_step (by exact bB) hb);have n1_ := aM (hbox);have n2_ := aM (sW hg : w.heap.size ≤ gb126);have n3_ := aM (sW hg : w.heap.size ≤ gb126);clear HB;have HB := n0_;have BK126 := n1_;have GW126 := n2_;have GE126 := n3_;clear n0_ n1_ n2_ n3_;clear hb hbox hg) | ((with_reducible refine gate_dst (N := 3) rfl ?_);refine box_event ?hg (N := 3) ?hd (cs := #[.int .i64 a1_0, .int .i64 a1_1]) (t := 78) ?hr ?_;(case hd => rfl);(case hg => rfl);(case hr => exact gS);intro gb127 hg w5 hbox hb;have n0_ := aM (kB hb BK126.out);have n1_ := aM (below_step (by exact bB) hb);have n2_ := aM (hbox);have n3_ := aM (sW hg : w.heap.size ≤ gb127);have n4_ := aM (sW hg : w.heap.size ≤ gb127);have n5_ := aM (nL hg (kP BK126.out));have n6_ := aM (nG hg (kP BK126.out));clear BK126;clear HB;have BK126 := n0_;have HB := n1_;have BK127 := n2_;have GW127 := n3_;have GE127 := n4_;have NB126_127 := n5_;have NB127_126 := n6_;clear n0_ n1_ n2_ n3_ n4_ n5_ n6_;clear hb hbox hg;have hnb6 := NB126_127.out;have hnc6 := NB127_126.out;have hcz7_0 := bC0 BK126.out;have hcz7_1 := bC1 BK126.out;have hfz7_0 := blk_frozen BK126.out 0;have hfz7_1 := blk_frozen BK126.out 1;have hcz8_0 := bC0 BK127.out;have hcz8_1 := bC1 BK127.out;have hfz8_0 := blk_frozen BK127.out 0;have hfz8_1 := blk_frozen BK127.out 1))
  go_ret
  exact ⟨eW, by exact bB⟩
 rw [if_neg c3] at H
 have c3b0 : decide (a0_0 < a1_0) = false := decide_eq_false c3
 clear c3
 by_cases c9 : a0_0 = a1_0
 rotate_left
 ·rw [if_neg c9] at H
  have c9b0 : (a0_0 == a1_0) = false := beq_eq_false_iff_ne.mpr c9
  have c9b1 : (a0_0 != a1_0) = true := bne_iff_ne.mpr c9
  obtain rfl := Option.some.inj H
  go_enter Tryd.func68, Tryd.ntmps68
  go_wp2_with (first | ((with_reducible refine gate_dst (N := 2) rfl ?_);refine box_event ?hg (N := 2) ?hd (cs := #[.int .i64 a0_0, .int .i64 a0_1]) (t := 78) ?hr ?_;(case hd => rfl);(case hg => rfl);(case hr => exact gS);intro gb126 hg w15 hbox hb;have n0_ := aM (below_step (by exact bB) hb);have n1_ := aM (hbox);have n2_ := aM (sW hg : w.heap.size ≤ gb126);have n3_ := aM (sW hg : w.heap.size ≤ gb126);clear HB;have HB := n0_;have BK126 := n1_;have GW126 := n2_;have GE126 := n3_;clear n0_ n1_ n2_ n3_;clear hb hbox hg) | ((with_reducible refine gate_dst (N := 3) rfl ?_);refine box_event ?hg (N := 3) ?hd (cs := #[.int .i64 a1_0, .int .i64 a1_1]) (t := 78) ?hr ?_;(case hd => rfl);(case hg => rfl);(case hr => exact gS);intro gb127 hg w16 hbox hb;have n0_ := aM (kB hb BK126.out);have n1_ := aM (below_step (by exact bB) hb);have n2_ := aM (hbox);have n3_ := aM (sW hg : w.heap.size ≤ gb127);have n4_ := aM (sW hg : w.heap.size ≤ gb127);have n5_ := aM (nL hg (kP BK126.out));have n6_ := aM (nG hg (kP BK126.out));clear BK126;clear HB;have BK126 := n0_;have HB := n1_;have BK127 := n2_;have GW127 := n3_;have GE127 := n4_;have NB126_127 := n5_;have NB127_126 := n6_;clear n0_ n1_ n2_ n3_ n4_ n5_ n6_;clear hb hbox hg;have hnb17 := NB126_127.out;have hnc17 := NB127_126.out;have hcz18_0 := bC0 BK126.out;have hcz18_1 := bC1 BK126.out;have hfz18_0 := blk_frozen BK126.out 0;have hfz18_1 := blk_frozen BK126.out 1;have hcz19_0 := bC0 BK127.out;have hcz19_1 := bC1 BK127.out;have hfz19_0 := blk_frozen BK127.out 0;have hfz19_1 := blk_frozen BK127.out 1))
  go_ret
  exact ⟨eW, by exact bB⟩
 rw [if_pos c9] at H
 have c9b0 : (a0_0 == a1_0) = true := beq_iff_eq.mpr c9
 have c9b1 : (a0_0 != a1_0) = false := bne_eq_false_iff_eq.mpr c9
 clear c9
 obtain rfl := Option.some.inj H
 go_enter Tryd.func68, Tryd.ntmps68
 go_wp2_with (first | ((with_reducible refine gate_dst (N := 2) rfl ?_);refine box_event ?hg (N := 2) ?hd (cs := #[.int .i64 a0_0, .int .i64 a0_1]) (t := 78) ?hr ?_;(case hd => rfl);(case hg => rfl);(case hr => exact gS);intro gb126 hg w10 hbox hb;have n0_ := aM (below_step (by exact bB) hb);have n1_ := aM (hbox);have n2_ := aM (sW hg : w.heap.size ≤ gb126);have n3_ := aM (sW hg : w.heap.size ≤ gb126);clear HB;have HB := n0_;have BK126 := n1_;have GW126 := n2_;have GE126 := n3_;clear n0_ n1_ n2_ n3_;clear hb hbox hg) | ((with_reducible refine gate_dst (N := 3) rfl ?_);refine box_event ?hg (N := 3) ?hd (cs := #[.int .i64 a1_0, .int .i64 a1_1]) (t := 78) ?hr ?_;(case hd => rfl);(case hg => rfl);(case hr => exact gS);intro gb127 hg w11 hbox hb;have n0_ := aM (kB hb BK126.out);have n1_ := aM (below_step (by exact bB) hb);have n2_ := aM (hbox);have n3_ := aM (sW hg : w.heap.size ≤ gb127);have n4_ := aM (sW hg : w.heap.size ≤ gb127);have n5_ := aM (nL hg (kP BK126.out));have n6_ := aM (nG hg (kP BK126.out));clear BK126;clear HB;have BK126 := n0_;have HB := n1_;have BK127 := n2_;have GW127 := n3_;have GE127 := n4_;have NB126_127 := n5_;have NB127_126 := n6_;clear n0_ n1_ n2_ n3_ n4_ n5_ n6_;clear hb hbox hg;have hnb12 := NB126_127.out;have hnc12 := NB127_126.out;have hcz13_0 := bC0 BK126.out;have hcz13_1 := bC1 BK126.out;have hfz13_0 := blk_frozen BK126.out 0;have hfz13_1 := blk_frozen BK126.out 1;have hcz14_0 := bC0 BK127.out;have hcz14_1 := bC1 BK127.out;have hfz14_0 := blk_frozen BK127.out 0;have hfz14_1 := blk_frozen BK127.out 1))
 go_ret
 exact ⟨eW, by exact bB⟩


/-! ### spec_l2Good: by hand -/
theorem l2Before_eq (a b c d : Int) : spec_l2Before.f a b c d = some (decide (a < c ∨ a = c ∧ b < d)) := by
 unfold spec_l2Before.f
 by_cases h : a < c
 ·simp [h]
 ·by_cases h2 : a = c
  ·simp [h2]
  ·simp [h, h2]
theorem l1In_same (a b c : Int) (r : Bool) (w : World) (h : spec_l1In.f a b c = some r) :
  Calls Tryd.prog 56 #[.int .i64 a, .int .i64 b, .int .i64 c] w fun e w' => e = .returned (.bool r) ∧ w' = w := by
 have H := Aside0.mk h
 clear h
 by_cases c4 : a ≥ b
 ·have hr : decide (a ≤ c) = r := by have := H.out;simpa [spec_l1In.f, c4] using this
  subst hr
  have c4b0 : decide (b ≤ a) = true := decide_eq_true c4
  clear c4 H
  go_enter Tryd.func56, Tryd.ntmps56
  go_wp2
  go_ret
  exact ⟨rfl, rfl⟩
 ·have hr : false = r := by have := H.out;simpa [spec_l1In.f, c4] using this
  subst hr
  have c4b0 : decide (b ≤ a) = false := decide_eq_false c4
  clear c4 H
  go_enter Tryd.func56, Tryd.ntmps56
  go_wp2
  go_ret
  exact ⟨rfl, rfl⟩
theorem l1In_eq (a b c : Int) : spec_l1In.f a b c = some (decide (b ≤ a ∧ a ≤ c)) := by
 unfold spec_l1In.f
 by_cases h : a ≥ b
 ·rw [if_pos h];simp;omega
 ·rw [if_neg h];simp;omega
theorem l1In_yes {a b c : Int} (h : b ≤ a ∧ a ≤ c) (w : World) : Calls Tryd.prog 56 #[.int .i64 a, .int .i64 b, .int .i64 c] w fun e w' => e = .returned (.bool true) ∧ w' = w := l1In_same a b c true w (by rw [l1In_eq]; simp [h])
theorem l1In_no {a b c : Int} (h : ¬ (b ≤ a ∧ a ≤ c)) (w : World) : Calls Tryd.prog 56 #[.int .i64 a, .int .i64 b, .int .i64 c] w fun e w' => e = .returned (.bool false) ∧ w' = w := l1In_same a b c false w (by rw [l1In_eq]; simp; omega)
def spec_l2Good.f (a0_0 : Int) (l0_1 : List S78) : Option Bool := some (decide (0 ≤ a0_0 ∧ a0_0 ≤ 8) && goodL a0_0 none l0_1)
theorem spec_l2Good.calls (a0_0 : Int) (A0_1 : Option Addr) (c0_1 : Nat) (l0_1 : List (S78)) (r : Bool) (w : World) (hr0_1 : Kd.C k78 w A0_1 l0_1.length l0_1) (hc0_1 : l0_1.length ≤ c0_1) (h : spec_l2Good.f a0_0 l0_1 = some r) :
  Calls Tryd.prog 37 #[.agg #[.int .i64 a0_0, .slice A0_1 l0_1.length c0_1]] w fun e w' => e = .returned (.bool r) ∧ Below w.heap.size w w' := by
 have HR := Aside0.mk hr0_1
 have HC := Aside0.mk hc0_1
 have H := aM (Option.some.inj h)
 clear hr0_1 hc0_1 h
 go_enter Tryd.func37, Tryd.ntmps37
 go_wp2
 go_loopw [3] (fun v wr => ∃ x : Int, v = .int .i64 x ∧ Aside0 (0 ≤ x ∧ x ≤ l0_1.length) ∧ Aside0 ((decide (0 ≤ a0_0 ∧ a0_0 ≤ 8) && goodL a0_0 (prevAt l0_1 x.toNat) (l0_1.drop x.toNat)) = r) ∧ Aside0 (wr.heap[w.heap.size]? = some (.cells #[.int .i64 a0_0, .slice A0_1 l0_1.length c0_1] 29 (0, 0))) ∧ Aside0 (Below w.heap.size w wr)) (fun v _ => l0_1.length - (intOf v).toNat)
 case atStart => exact ⟨0, rfl, ⟨by omega, by omega⟩, ⟨by simpa [prevAt] using H.out⟩, ⟨blk_new w _⟩, ⟨below_alloc (Below.refl _ _) _⟩⟩
 case round =>
  clear H
  obtain ⟨x, rfl, HX, HG, BK, HB⟩ := hrel
  have hcz0 : wr.cell? ⟨w.heap.size, 0, none⟩ = some (.int .i64 a0_0) := (blk_cell BK.out 0).trans rfl
  have hcz1 : wr.cell? ⟨w.heap.size, 1, none⟩ = some (.slice A0_1 l0_1.length c0_1) := (blk_cell BK.out 1).trans rfl
  by_cases hlt : x < (l0_1.length : Int)
  ·have hlt' : decide (x < (l0_1.length : Int)) = true := decide_eq_true hlt
   have p0 : 0 ≤ x := HX.out.1
   obtain ⟨ad, e, hx0, hx1⟩ := at_T78 HR.out x p0 hlt
   cases e
   replace hx0 := (HB.out.cell (World.block_lt_of_cell? w _ hx0)).trans hx0
   replace hx1 := (HB.out.cell (World.block_lt_of_cell? w _ hx1)).trans hx1
   replace p0 := eq_true p0
   have hlt'' := eq_true hlt
   have HL := Aside0.mk hlt
   have hsz : w.heap.size < wr.heap.size := blk_lt BK.out
   clear hlt
   obtain ⟨n1, hn1⟩ : ∃ n1 : Int, n1 = wrap64 (a0_0 - 1) := ⟨_, rfl⟩
   have hn1w : IntKind.i64.wrap (a0_0 - 1) = n1 := (i64_w _).trans hn1.symm
   have HN := Aside0.mk hn1
   clear hn1
   go_wp2
   by_cases t0 : 0 ≤ (rd_T78 l0_1 x).f0 ∧ (rd_T78 l0_1 x).f0 ≤ n1
   ·have K0 := aM (l1In_yes t0)
    by_cases t1 : 0 ≤ (rd_T78 l0_1 x).f1 ∧ (rd_T78 l0_1 x).f1 ≤ n1
    ·have K1 := aM (l1In_yes t1)
     by_cases t2 : (rd_T78 l0_1 x).f1 ≤ (rd_T78 l0_1 x).f0
     ·have d2 : decide ((rd_T78 l0_1 x).f1 ≤ (rd_T78 l0_1 x).f0) = true := decide_eq_true t2
      have hr : false = r := by
       rw [← HG.out, step_lt HX.out.1 HL.out]
       by_cases hn : 0 ≤ a0_0 ∧ a0_0 ≤ 8
       ·have : edgeOk a0_0 (rd_T78 l0_1 x) = false := by
         have h1 := HN.out;rw [w64 (by omega) (by omega)] at h1
         simp only [edgeOk, decide_eq_false_iff_not];omega
        simp [this]
       ·simp [hn]
      subst hr
      clear t0 t1 t2
      go_quiet (first | (go_at_call 56;with_reducible exact Calls.quiet_of_same (K0.out _)) | (go_at_call 56;with_reducible exact Calls.quiet_of_same (K1.out _)))
      go_wp2
      go_ret
      exact ⟨rfl, by repeat (first | exact HB.out | apply below_alloc | apply pw_below_drewN | apply below_drew)⟩
     have d2 : decide ((rd_T78 l0_1 x).f1 ≤ (rd_T78 l0_1 x).f0) = false := decide_eq_false t2
     have ho : a0_0 ≤ 8 → 0 ≤ a0_0 → edgeOk a0_0 (rd_T78 l0_1 x) = true := by
      intro h8 h0
      have h1 := HN.out;rw [w64 (by omega) (by omega)] at h1
      simp only [edgeOk, decide_eq_true_eq];omega
     have HO := Aside0.mk ho
     have HNX : Aside0 (x + 1 ≤ l0_1.length ∧ x + 1 ≤ 9223372036854775807) := ⟨by have := HL.out;have := HR.out.2.1;omega⟩
     have HW1 : Aside0 (wrap64 (x + 1) = x + 1) := ⟨by have := HNX.out;have := HX.out;exact w64 (by omega) (by omega)⟩
     clear ho
     by_cases t3 : 0 < x
     ·have d3 : decide (0 < x) = true := decide_eq_true t3
      have hj : wrap64 (x - 1) = x - 1 := by have h1 := HL.out;have h2 := HX.out;have h3 := HR.out.2.1;exact w64 (by omega) (by omega)
      obtain ⟨ji, hji⟩ : ∃ j : Int, j = x - 1 := ⟨_, rfl⟩
      have hjw : IntKind.i64.wrap (x - 1) = ji := ((i64_w _).trans hj).trans hji.symm
      have p1 : 0 ≤ ji := by omega
      have q1 : ji < (l0_1.length : Int) := by have := HL.out;omega
      have HJ := Aside0.mk hji
      clear hj hji
      obtain ⟨ad', e', hy0, hy1⟩ := at_T78 HR.out ji p1 q1
      cases e'
      replace hy0 := pw_cell_below (below_alloc (Below.refl _ _) (.cells #[.int .i64 (rd_T78 l0_1 x).f0, .int .i64 (rd_T78 l0_1 x).f1] 78)) ((HB.out.cell (World.block_lt_of_cell? w _ hy0)).trans hy0)
      replace hy1 := pw_cell_below (below_alloc (Below.refl _ _) (.cells #[.int .i64 (rd_T78 l0_1 x).f0, .int .i64 (rd_T78 l0_1 x).f1] 78)) ((HB.out.cell (World.block_lt_of_cell? w _ hy1)).trans hy1)
      replace p1 := eq_true p1
      replace q1 := eq_true q1
      have hp : prevAt l0_1 x.toNat = some (rd_T78 l0_1 ji) := by unfold prevAt;rw [if_neg (by omega), HJ.out];congr 2;omega
      have HP := Aside0.mk hp
      clear hp
      have hb : ∀ c, spec_l2Before.f (rd_T78 l0_1 ji).f0 (rd_T78 l0_1 ji).f1 (rd_T78 l0_1 x).f0 (rd_T78 l0_1 x).f1 = some c ↔ c = edgeLt (rd_T78 l0_1 ji) (rd_T78 l0_1 x) := by
       intro c;rw [l2Before_eq];simp [edgeLt];exact eq_comm
      have HBF := Aside0.mk hb
      clear hb
      obtain ⟨lt, hlt⟩ : ∃ b, b = edgeLt (rd_T78 l0_1 ji) (rd_T78 l0_1 x) := ⟨_, rfl⟩
      have HLT := Aside0.mk hlt
      have KB := aM ((HBF.out lt).2 hlt)
      clear hlt
      clear t0 t1 t2 t3
      refine still_tail_drew 34 (by kernel_rfl) (by kernel_rfl) ?_
      simp only [List.take_succ_cons, List.take_zero, List.drop_succ_cons, List.drop_zero]
      have hu72 := Tryd.underlying78
      repeat still_step
      still_call (K0.out _)
      repeat still_step
      still_call (K1.out _)
      repeat still_step
      refine wpStill_nil ?_
      generalize hw2 : (World.drew _) = w2
      have HB2 : Aside0 (Below w.heap.size w w2) := ⟨by rw [← hw2];repeat (first | exact HB.out | apply below_alloc | apply pw_below_drewN | apply below_drew)⟩
      have BK2 : Aside0 (w2.heap[w.heap.size]? = some (.cells #[.int .i64 a0_0, .slice (some ad) l0_1.length c0_1] 29 (0, 0))) := ⟨by rw [← hw2];refine kP ?_;exact BK.out⟩
      clear hw2
      cases lt with
      | true =>
       have hr : Aside0 ((decide (0 ≤ a0_0 ∧ a0_0 ≤ 8) && goodL a0_0 (prevAt l0_1 (x + 1).toNat) (l0_1.drop (x + 1).toNat)) = r) := ⟨by
        rw [← HG.out, step_lt HX.out.1 HL.out, HP.out]
        by_cases hn : 0 ≤ a0_0 ∧ a0_0 ≤ 8
        ·simp [HO.out hn.2 hn.1, ← HLT.out]
        ·simp [hn]⟩
       go_wp2_with (go_at_call 68;(with_reducible refine (spec_l2Before.calls _ _ _ _ _ _ KB.out).mono ?_);rintro e w' ⟨rfl, hb⟩;have HBb := Aside0.mk hb;clear hb)
       go_roundw
       case rel => exact ⟨x + 1, by rw [HW1.out], ⟨by have := HX.out;have := HNX.out;omega⟩, hr, ⟨(HBb.out.block _ (blk_lt BK2.out)).trans BK2.out⟩, ⟨below_step HB2.out HBb.out⟩⟩
       case measure => have := HL.out;have := HX.out;rw [HW1.out];simp [intOf];omega
      | false =>
       have hr : false = r := by
        rw [← HG.out, step_lt HX.out.1 HL.out, HP.out]
        simp [← HLT.out]
       subst hr
       go_wp2_with (go_at_call 68;(with_reducible refine (spec_l2Before.calls _ _ _ _ _ _ KB.out).mono ?_);rintro e w' ⟨rfl, hb⟩;have HBb := Aside0.mk hb;clear hb)
       go_ret
       exact ⟨rfl, below_step HB2.out HBb.out⟩
     ·have d3 : decide (0 < x) = false := decide_eq_false t3
      obtain rfl : x = 0 := by have := HX.out;omega
      have hr : Aside0 ((decide (0 ≤ a0_0 ∧ a0_0 ≤ 8) && goodL a0_0 (prevAt l0_1 1) (l0_1.drop 1)) = r) := ⟨by
       rw [← HG.out, step_lt HX.out.1 HL.out]
       by_cases hn : 0 ≤ a0_0 ∧ a0_0 ≤ 8
       ·simp [HO.out hn.2 hn.1, prevAt]
       ·simp [hn]⟩
      clear t0 t1 t2 t3
      go_quiet (first | (go_at_call 56;with_reducible exact Calls.quiet_of_same (K0.out _)) | (go_at_call 56;with_reducible exact Calls.quiet_of_same (K1.out _)))
      go_wp2
      go_roundw
      case rel => exact ⟨1, rfl, ⟨by omega, by have := HL.out;omega⟩, hr, ⟨by refine kP ?_;exact BK.out⟩, ⟨by repeat (first | exact HB.out | apply below_alloc | apply pw_below_drewN | apply below_drew)⟩⟩
      case measure => have := HL.out;simp [intOf];omega
    ·have K1 := aM (l1In_no t1)
     have hr : false = r := by
      rw [← HG.out, step_lt HX.out.1 HL.out]
      by_cases hn : 0 ≤ a0_0 ∧ a0_0 ≤ 8
      ·have : edgeOk a0_0 (rd_T78 l0_1 x) = false := by
        have h1 := HN.out;rw [w64 (by omega) (by omega)] at h1
        simp only [edgeOk, decide_eq_false_iff_not];omega
       simp [this]
      ·simp [hn]
     subst hr
     clear t0 t1
     go_quiet (first | (go_at_call 56;with_reducible exact Calls.quiet_of_same (K0.out _)) | (go_at_call 56;with_reducible exact Calls.quiet_of_same (K1.out _)))
     go_wp2
     go_ret
     exact ⟨rfl, by repeat (first | exact HB.out | apply below_alloc | apply pw_below_drewN | apply below_drew)⟩
   ·have K0 := aM (l1In_no t0)
    have hr : false = r := by
     rw [← HG.out, step_lt HX.out.1 HL.out]
     by_cases hn : 0 ≤ a0_0 ∧ a0_0 ≤ 8
     ·have : edgeOk a0_0 (rd_T78 l0_1 x) = false := by
       have h1 := HN.out;rw [w64 (by omega) (by omega)] at h1
       simp only [edgeOk, decide_eq_false_iff_not];omega
      simp [this]
     ·simp [hn]
    subst hr
    clear t0
    go_quiet (first | (go_at_call 56;with_reducible exact Calls.quiet_of_same (K0.out _)))
    go_wp2
    go_ret
    exact ⟨rfl, by repeat (first | exact HB.out | apply below_alloc | apply pw_below_drewN | apply below_drew)⟩
  ·have hlt' : decide (x < (l0_1.length : Int)) = false := decide_eq_false hlt
   by_cases hn : 0 ≤ a0_0 ∧ a0_0 ≤ 8
   ·obtain rfl : true = r := by have := HG.out;rw [List.drop_eq_nil_of_le (by omega)] at this;simpa [goodL, hn] using this
    have K0 := aM (l1In_yes (w := wr) hn)
    clear hlt hn
    go_wp2_with (go_at_call 56;refine (K0.out).mono ?_;rintro e w' ⟨rfl, rfl⟩)
    go_ret
    exact ⟨rfl, HB.out⟩
   ·obtain rfl : false = r := by have := HG.out;rw [List.drop_eq_nil_of_le (by omega)] at this;simpa [goodL, hn] using this
    have K0 := aM (l1In_no (w := wr) hn)
    clear hlt hn
    go_wp2_with (go_at_call 56;refine (K0.out).mono ?_;rintro e w' ⟨rfl, rfl⟩)
    go_ret
    exact ⟨rfl, HB.out⟩

/-! ### spec_l1Rising: function 69 -/
def spec_l1Rising.l0 : Nat → List Int → Int → Int → Int → Option (Bool)
 | 0, _, _, _, _ => none
 | k + 1, x0, x1, x2, x7 => if x7 < (x0.length : Int) then (if 0 ≤ x7 then ((spec_l1In.f (rd x0 x7) x1 x2).bind fun t130 => (if t130 = true then (if x7 > 0 then (if 0 ≤ (wrap64 (x7 - 1)) then (if (wrap64 (x7 - 1)) < (x0.length : Int) then (if (rd x0 (wrap64 (x7 - 1))) ≥ (rd x0 x7) then (some false) else (spec_l1Rising.l0 k x0 x1 x2 (wrap64 (x7 + 1)))) else (none)) else (none)) else (spec_l1Rising.l0 k x0 x1 x2 (wrap64 (x7 + 1)))) else (some false))) else (none)) else (some true)
def spec_l1Rising.f (k : Nat) (l0 : List Int) (a1 : Int) (a2 : Int) : Option (Bool) := spec_l1Rising.l0 k l0 a1 a2 0
theorem spec_l1Rising.mono_l : ∀ k, (∀ y0 y1 y2 y3, LeO (spec_l1Rising.l0 k y0 y1 y2 y3) (spec_l1Rising.l0 (k + 1) y0 y1 y2 y3))
 | 0 => fun _ _ _ _ r h => by simp [spec_l1Rising.l0] at h
 | k + 1 => by
  have ih0 := spec_l1Rising.mono_l k
  ·intro y0 y1 y2 y3
   unfold spec_l1Rising.l0
   repeat' first
   | (with_reducible exact ih0 _ _ _ _)
   | (with_reducible exact LeO.refl _)
   | (with_reducible exact LeO.none _)
   | (with_reducible refine LeO.ite ?_ ?_)
   | (with_reducible refine LeO.bind ?_ (fun _ => ?_))
   | exact LeO.none _
   | refine LeO.ite ?_ ?_
   | refine LeO.bind ?_ (fun _ => ?_)
theorem spec_l1Rising.mono : ∀ a0 a1 a2 k, LeO (spec_l1Rising.f k a0 a1 a2) (spec_l1Rising.f (k + 1) a0 a1 a2) := by
 intro a0 a1 a2 k
 have ih0 := spec_l1Rising.mono_l k
 unfold spec_l1Rising.f
 repeat' first
   | (with_reducible exact ih0 _ _ _ _)
   | (with_reducible exact LeO.refl _)
   | (with_reducible exact LeO.none _)
   | (with_reducible refine LeO.ite ?_ ?_)
   | (with_reducible refine LeO.bind ?_ (fun _ => ?_))
   | exact LeO.none _
   | refine LeO.ite ?_ ?_
   | refine LeO.bind ?_ (fun _ => ?_)
theorem spec_l1Rising.calls (k : Nat) (A0 : Option Addr) (c0 : Nat) (l0 : List Int) (a1 : Int) (a2 : Int) (r : Bool) (w : World) (hr0 : Kd.C (Kd.int .i64) w A0 l0.length l0) (hc0 : l0.length ≤ c0) (h : spec_l1Rising.f k l0 a1 a2 = some r) :
  Calls Tryd.prog 69 #[.slice A0 l0.length c0, .int .i64 a1, .int .i64 a2] w fun e w' => e = .returned (.bool r) ∧ Drawn0 w w' := by
 have HR0 := Aside0.mk hr0
 have HC0 := Aside0.mk hc0
 clear hr0 hc0
 have H : (spec_l1Rising.l0 k l0 a1 a2 0) = some r := h
 clear h
 have H' := Aside0.mk H
 clear H
 go_enter Tryd.func69, Tryd.ntmps69
 go_wp2
 repeat (go_quiet (fail);try go_wp2)
 go_loopg [7] k (fun kq v7 w' => ∃ (x7_1 : Int), v7 = .int .i64 x7_1 ∧ Aside0 (spec_l1Rising.l0 kq l0 a1 a2 x7_1 = some r) ∧ Aside0 (kq ≤ k) ∧ Drawn0 w w')
 case atStart => exact ⟨(0), eF, H', ⟨Nat.le_refl _⟩, dR⟩
 case round =>
  clear H'
  try clear p2
  obtain ⟨x7_1, rfl, HA, HK1, ⟨m1, rfl⟩⟩ := hrel
  cases gk with
  | zero => exact absurd HA.out (by simp [spec_l1Rising.l0])
  | succ k1 =>
   have H := HA.out
   clear HA
   simp only [spec_l1Rising.l0] at H
   by_cases c4 : x7_1 < (l0.length : Int)
   rotate_left
   ·rw [if_neg c4] at H
    have c4b0 : decide (x7_1 < (l0.length : Int)) = false := decide_eq_false c4
    clear c4
    obtain rfl := Option.some.inj H
    go_wp2
    repeat (go_quiet (fail);try go_wp2)
    go_ret
    exact ⟨eF, dR⟩
   rw [if_pos c4] at H
   have c4b0 : decide (x7_1 < (l0.length : Int)) = true := decide_eq_true c4
   clear c4
   by_cases c5 : 0 ≤ x7_1
   rotate_left
   ·rw [if_neg c5] at H
    exact absurd H (by simp)
   rw [if_pos c5] at H
   have c5b0 : decide (0 ≤ x7_1) = true := decide_eq_true c5
   clear c5
   replace H := Option.bind_eq_some_iff.mp H
   obtain ⟨t130, A60, H⟩ := H
   replace H : (if t130 = true then (if x7_1 > 0 then (if 0 ≤ (wrap64 (x7_1 - 1)) then (if (wrap64 (x7_1 - 1)) < (l0.length : Int) then (if (rd l0 (wrap64 (x7_1 - 1))) ≥ (rd l0 x7_1) then (some false) else (spec_l1Rising.l0 k1 l0 a1 a2 (wrap64 (x7_1 + 1)))) else (none)) else (none)) else (spec_l1Rising.l0 k1 l0 a1 a2 (wrap64 (x7_1 + 1)))) else (some false)) = some r := H
   have A6 := Aside0.mk A60
   clear A60
   by_cases c7 : t130 = true
   rotate_left
   ·replace c7 := Bool.eq_false_iff.mpr c7
    subst c7
    have H1 : (some false) = some r := by rw [if_neg (show ¬ (false = true) by decide)] at H;exact H
    clear H
    have H := H1
    clear H1
    obtain rfl := Option.some.inj H
    have p129 : 0 ≤ (x7_1 : Int) := oA
    have q129 : x7_1 < (l0.length : Int) := oA
    obtain ⟨ad129, e129, hx129_0⟩ := Kd.at_int HR0.out x7_1 p129 q129
    cases e129
    replace p129 := eq_true p129
    replace q129 := eq_true q129
    go_wp2_with (first | (go_at_call 56;(with_reducible refine (spec_l1In.calls (rd l0 x7_1) a1 a2 false _ A6.out).mono ?_);rintro e w' ⟨rfl, ⟨nd, rfl⟩⟩;(try first | exact ⟨rfl, _, World.drewN_drewN _ _ _⟩ | exact ⟨rfl, _, Eq.trans (World.drewN_drewN _ _ _) (congrArg (World.drewN _) (Nat.add_assoc _ _ _))⟩)))
    repeat (go_quiet (first | (go_at_call 56;(with_reducible refine (spec_l1In.calls (rd l0 x7_1) a1 a2 false _ A6.out).mono ?_);rintro e w' ⟨rfl, ⟨nd, rfl⟩⟩;(try first | exact ⟨rfl, _, World.drewN_drewN _ _ _⟩ | exact ⟨rfl, _, Eq.trans (World.drewN_drewN _ _ _) (congrArg (World.drewN _) (Nat.add_assoc _ _ _))⟩)));try go_wp2_with (first | (go_at_call 56;(with_reducible refine (spec_l1In.calls (rd l0 x7_1) a1 a2 false _ A6.out).mono ?_);rintro e w' ⟨rfl, ⟨nd, rfl⟩⟩;(try first | exact ⟨rfl, _, World.drewN_drewN _ _ _⟩ | exact ⟨rfl, _, Eq.trans (World.drewN_drewN _ _ _) (congrArg (World.drewN _) (Nat.add_assoc _ _ _))⟩))))
    go_ret
    exact ⟨eF, dR⟩
   subst c7
   have H1 : (if x7_1 > 0 then (if 0 ≤ (wrap64 (x7_1 - 1)) then (if (wrap64 (x7_1 - 1)) < (l0.length : Int) then (if (rd l0 (wrap64 (x7_1 - 1))) ≥ (rd l0 x7_1) then (some false) else (spec_l1Rising.l0 k1 l0 a1 a2 (wrap64 (x7_1 + 1)))) else (none)) else (none)) else (spec_l1Rising.l0 k1 l0 a1 a2 (wrap64 (x7_1 + 1)))) = some r := by rw [if_pos rfl] at H;exact H
   clear H
   have H := H1
   clear H1
   by_cases c8 : x7_1 > 0
   rotate_left
   ·rw [if_neg c8] at H
    have c8b0 : decide (0 < x7_1) = false := decide_eq_false c8
    clear c8
    have H' := Aside0.mk H
    clear H
    have p129 : 0 ≤ (x7_1 : Int) := oA
    have q129 : x7_1 < (l0.length : Int) := oA
    obtain ⟨ad129, e129, hx129_0⟩ := Kd.at_int HR0.out x7_1 p129 q129
    cases e129
    replace p129 := eq_true p129
    replace q129 := eq_true q129
    go_wp2_with (first | (go_at_call 56;(with_reducible refine (spec_l1In.calls (rd l0 x7_1) a1 a2 true _ A6.out).mono ?_);rintro e w' ⟨rfl, ⟨nd, rfl⟩⟩;(try first | exact ⟨rfl, _, World.drewN_drewN _ _ _⟩ | exact ⟨rfl, _, Eq.trans (World.drewN_drewN _ _ _) (congrArg (World.drewN _) (Nat.add_assoc _ _ _))⟩)))
    repeat (go_quiet (first | (go_at_call 56;(with_reducible refine (spec_l1In.calls (rd l0 x7_1) a1 a2 true _ A6.out).mono ?_);rintro e w' ⟨rfl, ⟨nd, rfl⟩⟩;(try first | exact ⟨rfl, _, World.drewN_drewN _ _ _⟩ | exact ⟨rfl, _, Eq.trans (World.drewN_drewN _ _ _) (congrArg (World.drewN _) (Nat.add_assoc _ _ _))⟩)));try go_wp2_with (first | (go_at_call 56;(with_reducible refine (spec_l1In.calls (rd l0 x7_1) a1 a2 true _ A6.out).mono ?_);rintro e w' ⟨rfl, ⟨nd, rfl⟩⟩;(try first | exact ⟨rfl, _, World.drewN_drewN _ _ _⟩ | exact ⟨rfl, _, Eq.trans (World.drewN_drewN _ _ _) (congrArg (World.drewN _) (Nat.add_assoc _ _ _))⟩))))
    go_roundg k1
    case measure => have := HK1.out;omega
    case rel => exact ⟨(wrap64 (x7_1 + 1)), eF, H', ⟨by have := HK1.out;omega⟩, dR⟩
   rw [if_pos c8] at H
   have c8b0 : decide (0 < x7_1) = true := decide_eq_true c8
   clear c8
   obtain ⟨ji9, hji9⟩ : ∃ j_ : Int, (wrap64 (x7_1 - 1)) = j_ := ⟨_, rfl⟩
   replace H : (if 0 ≤ (ji9) then (if (ji9) < (l0.length : Int) then (if (rd l0 (ji9)) ≥ (rd l0 x7_1) then (some false) else (spec_l1Rising.l0 k1 l0 a1 a2 (wrap64 (x7_1 + 1)))) else (none)) else (none)) = some r := by first | (rw [hji9] at H;exact H) | (simp only [hji9] at H ⊢;exact H)
   (try rw [hji9] at A6)
   have hji9w : (IntKind.i64.wrap (x7_1 - 1)) = ji9 := (i64_w _).trans hji9
   by_cases c10 : 0 ≤ (ji9)
   rotate_left
   ·rw [if_neg c10] at H
    exact absurd H (by simp)
   rw [if_pos c10] at H
   have c10b0 : decide (0 ≤ (ji9)) = true := decide_eq_true c10
   clear c10
   by_cases c11 : (ji9) < (l0.length : Int)
   rotate_left
   ·rw [if_neg c11] at H
    exact absurd H (by simp)
   rw [if_pos c11] at H
   have c11b0 : decide ((ji9) < (l0.length : Int)) = true := decide_eq_true c11
   clear c11
   by_cases c12 : (rd l0 (ji9)) ≥ (rd l0 x7_1)
   ·rw [if_pos c12] at H
    have c12b0 : decide ((rd l0 x7_1) ≤ (rd l0 (ji9))) = true := decide_eq_true c12
    clear c12
    obtain rfl := Option.some.inj H
    have p129 : 0 ≤ (x7_1 : Int) := oA
    have q129 : x7_1 < (l0.length : Int) := oA
    obtain ⟨ad129, e129, hx129_0⟩ := Kd.at_int HR0.out x7_1 p129 q129
    cases e129
    replace p129 := eq_true p129
    replace q129 := eq_true q129
    go_wp2_with (first | (go_at_call 56;(with_reducible refine (spec_l1In.calls (rd l0 x7_1) a1 a2 true _ A6.out).mono ?_);rintro e w' ⟨rfl, ⟨nd, rfl⟩⟩;(try first | exact ⟨rfl, _, World.drewN_drewN _ _ _⟩ | exact ⟨rfl, _, Eq.trans (World.drewN_drewN _ _ _) (congrArg (World.drewN _) (Nat.add_assoc _ _ _))⟩);have p131 : 0 ≤ ((ji9) : Int) := oA;have q131 : (ji9) < (l0.length : Int) := oA;obtain ⟨ad131, e131, hx131_0⟩ := Kd.at_int HR0.out (ji9) p131 q131;obtain rfl : ad129 = ad131 := (by injection e131);replace p131 := eq_true p131;replace q131 := eq_true q131;have p132 : 0 ≤ (x7_1 : Int) := oA;have q132 : x7_1 < (l0.length : Int) := oA;obtain ⟨ad132, e132, hx132_0⟩ := Kd.at_int HR0.out x7_1 p132 q132;obtain rfl : ad129 = ad132 := (by injection e132);replace p132 := eq_true p132;replace q132 := eq_true q132))
    repeat (go_quiet (first | (go_at_call 56;(with_reducible refine (spec_l1In.calls (rd l0 x7_1) a1 a2 true _ A6.out).mono ?_);rintro e w' ⟨rfl, ⟨nd, rfl⟩⟩;(try first | exact ⟨rfl, _, World.drewN_drewN _ _ _⟩ | exact ⟨rfl, _, Eq.trans (World.drewN_drewN _ _ _) (congrArg (World.drewN _) (Nat.add_assoc _ _ _))⟩);have p131 : 0 ≤ ((ji9) : Int) := oA;have q131 : (ji9) < (l0.length : Int) := oA;obtain ⟨ad131, e131, hx131_0⟩ := Kd.at_int HR0.out (ji9) p131 q131;obtain rfl : ad129 = ad131 := (by injection e131);replace p131 := eq_true p131;replace q131 := eq_true q131;have p132 : 0 ≤ (x7_1 : Int) := oA;have q132 : x7_1 < (l0.length : Int) := oA;obtain ⟨ad132, e132, hx132_0⟩ := Kd.at_int HR0.out x7_1 p132 q132;obtain rfl : ad129 = ad132 := (by injection e132);replace p132 := eq_true p132;replace q132 := eq_true q132));try go_wp2_with (first | (go_at_call 56;(with_reducible refine (spec_l1In.calls (rd l0 x7_1) a1 a2 true _ A6.out).mono ?_);rintro e w' ⟨rfl, ⟨nd, rfl⟩⟩;(try first | exact ⟨rfl, _, World.drewN_drewN _ _ _⟩ | exact ⟨rfl, _, Eq.trans (World.drewN_drewN _ _ _) (congrArg (World.drewN _) (Nat.add_assoc _ _ _))⟩);have p131 : 0 ≤ ((ji9) : Int) := oA;have q131 : (ji9) < (l0.length : Int) := oA;obtain ⟨ad131, e131, hx131_0⟩ := Kd.at_int HR0.out (ji9) p131 q131;obtain rfl : ad129 = ad131 := (by injection e131);replace p131 := eq_true p131;replace q131 := eq_true q131;have p132 : 0 ≤ (x7_1 : Int) := oA;have q132 : x7_1 < (l0.length : Int) := oA;obtain ⟨ad132, e132, hx132_0⟩ := Kd.at_int HR0.out x7_1 p132 q132;obtain rfl : ad129 = ad132 := (by injection e132);replace p132 := eq_true p132;replace q132 := eq_true q132)))
    go_ret
    exact ⟨by first | rfl | (simp;done) | (simp only [← hji9] <;> (first | rfl | simp)) | (simp [*];done), dR⟩
   rw [if_neg c12] at H
   have c12b0 : decide ((rd l0 x7_1) ≤ (rd l0 (ji9))) = false := decide_eq_false c12
   clear c12
   have H' := Aside0.mk H
   clear H
   have p129 : 0 ≤ (x7_1 : Int) := oA
   have q129 : x7_1 < (l0.length : Int) := oA
   obtain ⟨ad129, e129, hx129_0⟩ := Kd.at_int HR0.out x7_1 p129 q129
   cases e129
   replace p129 := eq_true p129
   replace q129 := eq_true q129
   go_wp2_with (first | (go_at_call 56;(with_reducible refine (spec_l1In.calls (rd l0 x7_1) a1 a2 true _ A6.out).mono ?_);rintro e w' ⟨rfl, ⟨nd, rfl⟩⟩;(try first | exact ⟨rfl, _, World.drewN_drewN _ _ _⟩ | exact ⟨rfl, _, Eq.trans (World.drewN_drewN _ _ _) (congrArg (World.drewN _) (Nat.add_assoc _ _ _))⟩);have p131 : 0 ≤ ((ji9) : Int) := oA;have q131 : (ji9) < (l0.length : Int) := oA;obtain ⟨ad131, e131, hx131_0⟩ := Kd.at_int HR0.out (ji9) p131 q131;obtain rfl : ad129 = ad131 := (by injection e131);replace p131 := eq_true p131;replace q131 := eq_true q131;have p132 : 0 ≤ (x7_1 : Int) := oA;have q132 : x7_1 < (l0.length : Int) := oA;obtain ⟨ad132, e132, hx132_0⟩ := Kd.at_int HR0.out x7_1 p132 q132;obtain rfl : ad129 = ad132 := (by injection e132);replace p132 := eq_true p132;replace q132 := eq_true q132))
   repeat (go_quiet (first | (go_at_call 56;(with_reducible refine (spec_l1In.calls (rd l0 x7_1) a1 a2 true _ A6.out).mono ?_);rintro e w' ⟨rfl, ⟨nd, rfl⟩⟩;(try first | exact ⟨rfl, _, World.drewN_drewN _ _ _⟩ | exact ⟨rfl, _, Eq.trans (World.drewN_drewN _ _ _) (congrArg (World.drewN _) (Nat.add_assoc _ _ _))⟩);have p131 : 0 ≤ ((ji9) : Int) := oA;have q131 : (ji9) < (l0.length : Int) := oA;obtain ⟨ad131, e131, hx131_0⟩ := Kd.at_int HR0.out (ji9) p131 q131;obtain rfl : ad129 = ad131 := (by injection e131);replace p131 := eq_true p131;replace q131 := eq_true q131;have p132 : 0 ≤ (x7_1 : Int) := oA;have q132 : x7_1 < (l0.length : Int) := oA;obtain ⟨ad132, e132, hx132_0⟩ := Kd.at_int HR0.out x7_1 p132 q132;obtain rfl : ad129 = ad132 := (by injection e132);replace p132 := eq_true p132;replace q132 := eq_true q132));try go_wp2_with (first | (go_at_call 56;(with_reducible refine (spec_l1In.calls (rd l0 x7_1) a1 a2 true _ A6.out).mono ?_);rintro e w' ⟨rfl, ⟨nd, rfl⟩⟩;(try first | exact ⟨rfl, _, World.drewN_drewN _ _ _⟩ | exact ⟨rfl, _, Eq.trans (World.drewN_drewN _ _ _) (congrArg (World.drewN _) (Nat.add_assoc _ _ _))⟩);have p131 : 0 ≤ ((ji9) : Int) := oA;have q131 : (ji9) < (l0.length : Int) := oA;obtain ⟨ad131, e131, hx131_0⟩ := Kd.at_int HR0.out (ji9) p131 q131;obtain rfl : ad129 = ad131 := (by injection e131);replace p131 := eq_true p131;replace q131 := eq_true q131;have p132 : 0 ≤ (x7_1 : Int) := oA;have q132 : x7_1 < (l0.length : Int) := oA;obtain ⟨ad132, e132, hx132_0⟩ := Kd.at_int HR0.out x7_1 p132 q132;obtain rfl : ad129 = ad132 := (by injection e132);replace p132 := eq_true p132;replace q132 := eq_true q132)))
   go_roundg k1
   case measure => have := HK1.out;omega
   case rel => exact ⟨(wrap64 (x7_1 + 1)), eF, H', ⟨by have := HK1.out;omega⟩, dR⟩


/-! ### spec_l2Set: function 38 -/
def spec_l2Set.f (k : Nat) (a0_0 : Int) (l0_1 : List (S78)) (l1 : List Int) : Option (Bool) := (spec_l1Rising.f k l1 0 (wrap64 (a0_0 - 1))).bind fun t134 => (some t134)
theorem spec_l2Set.mono : ∀ a0 a1 a2 k, LeO (spec_l2Set.f k a0 a1 a2) (spec_l2Set.f (k + 1) a0 a1 a2) := by
 intro a0 a1 a2 k
 unfold spec_l2Set.f
 repeat' first
   | (with_reducible exact spec_l1Rising.mono _ _ _ _)
   | (with_reducible exact LeO.refl _)
   | (with_reducible exact LeO.none _)
   | (with_reducible refine LeO.ite ?_ ?_)
   | (with_reducible refine LeO.bind ?_ (fun _ => ?_))
   | exact LeO.none _
   | refine LeO.ite ?_ ?_
   | refine LeO.bind ?_ (fun _ => ?_)
theorem spec_l2Set.calls (k : Nat) (a0_0 : Int) (A0_1 : Option Addr) (c0_1 : Nat) (l0_1 : List (S78)) (A1 : Option Addr) (c1 : Nat) (l1 : List Int) (r : Bool) (w : World) (hr0_1 : Kd.C k78 w A0_1 l0_1.length l0_1) (hc0_1 : l0_1.length ≤ c0_1) (hr1 : Kd.C (Kd.int .i64) w A1 l1.length l1) (hc1 : l1.length ≤ c1) (h : spec_l2Set.f k a0_0 l0_1 l1 = some r) :
  Calls Tryd.prog 38 #[.agg #[.int .i64 a0_0, .slice A0_1 l0_1.length c0_1], .slice A1 l1.length c1] w fun e w' => e = .returned (.bool r) ∧ Below w.heap.size w w' := by
 have hu29 := Tryd.underlying29
 have HR0_1 := Aside0.mk hr0_1
 have HC0_1 := Aside0.mk hc0_1
 clear hr0_1 hc0_1
 have HR1 := Aside0.mk hr1
 have HC1 := Aside0.mk hc1
 clear hr1 hc1
 have HB := aM (Below.refl w.heap.size w)
 have H : ((spec_l1Rising.f k l1 0 (wrap64 (a0_0 - 1))).bind fun t134 => (some t134)) = some r := h
 clear h
 replace H := Option.bind_eq_some_iff.mp H
 obtain ⟨t134, A30, H⟩ := H
 replace H : (some t134) = some r := H
 have A3 := Aside0.mk A30
 clear A30
 obtain rfl := Option.some.inj H
 go_enter Tryd.func38, Tryd.ntmps38
 go_wp2_with (first | ((with_reducible refine gate_dst (N := 2) rfl ?_);refine box_event ?hg (N := 2) ?hd (cs := #[.int .i64 a0_0, .slice A0_1 l0_1.length c0_1]) (t := 29) ?hr ?_;(case hd => rfl);(case hg => rfl);(case hr => exact gS);intro gb133 hg w4 hbox hb;have n0_ := aM (below_step (by exact bB) hb);have n1_ := aM (hbox);have n2_ := aM (sW hg : w.heap.size ≤ gb133);have n3_ := aM (sW hg : w.heap.size ≤ gb133);clear HB;have HB := n0_;have BK133 := n1_;have GW133 := n2_;have GE133 := n3_;clear n0_ n1_ n2_ n3_;clear hb hbox hg;have hcz5_0 := bC0 BK133.out;have hcz5_1 := bC1 BK133.out;have hfz5_0 := blk_frozen BK133.out 0;have hfz5_1 := blk_frozen BK133.out 1) | ((with_reducible refine gate_callee (f := 69) rfl ?_);refine goesL_ (some 9) rfl rfl Tryd.func69 (by kernel_rfl) rfl #[.slice A1 l1.length c1, .int .i64 0, .int .i64 (wrap64 (a0_0 - 1))] rfl mM ?_;(with_reducible refine (spec_l1Rising.calls k _ _ l1 0 (wrap64 (a0_0 - 1)) t134 _ ?side1 ?side2 A3.out).mono ?_);(case side1 => exact cP (Kd.C_below HR1.out HB.out));(case side2 => exact HC1.out);rintro e w' ⟨rfl, ⟨nd, rfl⟩⟩;refine ⟨_, rfl, ?_⟩))
 go_ret
 exact ⟨eW, by exact bB⟩


end Go.Proofs.YtgahlimikndecaaDoor.QWorstAttack
