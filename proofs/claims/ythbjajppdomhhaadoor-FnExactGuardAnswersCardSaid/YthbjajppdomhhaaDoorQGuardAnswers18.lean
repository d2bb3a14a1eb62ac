import Derived.Test.YthbjajppdomhhaaDoorQGuardAnswers0
import Derived.Test.YthbjajppdomhhaaDoorQGuardAnswers12
import Derived.Test.YthbjajppdomhhaaDoorQGuardAnswers13
import Derived.Lib.SliceRun
import Derived.Shelf.SlicesE.DeleteFunc
import Derived.Lib.RowBridge
import Derived.Ground.SlgfProg
namespace Go.Proofs.YthbjajppdomhhaaDoor.QGuardAnswers
open Go.RowKit Go.Proofs.YthbjajppdomhhaaDoorW.PrintWords Go.Proofs.YthbjajppdomhhaaDoorW.PrintLast Go.Proofs.YthbjajppdomhhaaDoorW.PrintMore
attribute [local go_sem] max2_int min2_int max_two min_two max_three min_three max_four min_four   -- for this text's walks alone
set_option linter.unusedVariables false
set_option linter.unusedSimpArgs false
/-! ### slices_Clone_int_int: function 76 -/
def slices_Clone_int_int.f (l0 : List Int) : Option (List Int) := (some (([] : List Int) : List Int)).bind fun y456 => (if y456.length + l0.length < 17592186044416 then (some (y456 ++ l0)) else (none))
set_option maxHeartbeats 8000000 in
set_option maxRecDepth 100000 in
theorem slices_Clone_int_int.calls (A0 : Option Addr) (c0 : Nat) (l0 : List Int) (r : List Int) (w : World) (hr0 : Kd.C (Kd.int .i64) w A0 l0.length l0) (hc0 : l0.length ≤ c0) (h : slices_Clone_int_int.f l0 = some r) :
  Calls Tryd.prog 76 #[.slice A0 l0.length c0] w fun e w' => ∃ v0_ : Value, e = .returned (v0_) ∧ Kd.R (Kd.int .i64) 3 w' w.heap.size (fun _ => True) v0_ r ∧ Below w.heap.size w w' := by
 have HR0 := Aside0.mk hr0
 have HC0 := Aside0.mk hc0
 clear hr0 hc0
 have HB := Aside0.mk (Below.refl w.heap.size w)
 have H : ((some (([] : List Int) : List Int)).bind fun y456 => (if y456.length + l0.length < 17592186044416 then (some (y456 ++ l0)) else (none))) = some r := h
 clear h
 obtain ⟨y456, hy456⟩ : ∃ y_ : List Int, y_ = (([] : List Int)) := ⟨_, rfl⟩
 replace H : (if y456.length + l0.length < 17592186044416 then (some (y456 ++ l0)) else (none)) = some r := by first | (rw [hy456];with_reducible exact H) | (have H2_ := (Option.bind_some _ _).symm.trans H;rw [hy456];with_reducible exact H2_) | (have H2_ := (Option.bind_some _ _).symm.trans H;with_reducible exact H2_) | with_reducible exact H | (rw [hy456];exact H) | exact H
 have Ny456 := Aside0.mk hy456
 clear hy456
 by_cases c2 : y456.length + l0.length < 17592186044416
 ·rw [if_pos c2] at H
  have LMc2 := Aside0.mk c2
  clear c2
  obtain ⟨y459, hy459⟩ : ∃ y_ : List Int, y_ = (y456 ++ l0) := ⟨_, rfl⟩
  replace H : (some y459) = some r := by first | (rw [hy459];with_reducible exact H) | (have H2_ := (Option.bind_some _ _).symm.trans H;rw [hy459];with_reducible exact H2_) | (have H2_ := (Option.bind_some _ _).symm.trans H;with_reducible exact H2_) | with_reducible exact H | (rw [hy459];exact H) | exact H
  have Ny459 := Aside0.mk hy459
  clear hy459
  obtain rfl := Option.some.inj H
  go_enter Tryd.func76, Tryd.ntmps76
  have q_ : ∀ (w : World) (a : Option Addr) (n c : Nat), (Go.binOp .eql 32 (.slice a n c) (.slice none 0 0)).run Tryd.prog w = .ok (.bool a.isNone) w := fun w a n c => Go.Lib.run_eql_slice_nil w _ _ a n c 0 0 Tryd.underlying32
  cases A0 with
  | none =>
   have hl0 : l0 = [] := by
    refine Classical.byContradiction fun hne => ?_
    obtain ⟨ad, e, _⟩ := HR0.out.2.2 (List.length_pos_iff.2 hne)
    cases e
   go_wp2
   go_ret
   rw [Ny459.out, Ny456.out, hl0]
   exact ⟨_, rfl, Kd.R_nil _ _ _ _ _, HB.out⟩
  | some ad0 =>
   go_wp2_with (first | ((with_reducible refine gate_dst (N := 5) rfl ?_);refine Kd.R_lit (Kd.int .i64) _ 3 ?hg (N := 5) ?hd (xs := ([] : List Int)) (inner := []) (ok := fun _ => True) (okp := fun _ => True) ?hr ?hp (fun _ hk => hk) trivial (Below.refl _ _) (Nat.le_refl _) (by simp) ?_;(case hd => rfl);(case hg => rfl);(case hr => first | (go_simp;done) | (go_simp;rfl));(case hp => exact (Reps.none _ _));intro v457 w3 ho4 hb hg_ hnew_;clear hg_ hnew_;(first | rw [← Ny456.out] at ho4 | (simp only [Int.reduceToNat] at ho4;rw [← Ny456.out] at ho4));have n0_ := Aside0.mk (Kd.R_lower ho4 (below_size (by exact bB)));have n1_ := Aside0.mk (below_step (by exact bB) hb);clear HB;have HO458 := n0_;have HB := n1_;clear n0_ n1_;clear hb ho4) | ((with_reducible refine gate_builtin (b := .append) (xs := #[.tmp 5, .tmp 6]) rfl ?_);at_builtin;refine Kd.R_append_rows (Kd.int .i64) (w0 := w) w.heap.size rfl (.tmp 5) (.tmp 6) 32 3 (.int .i64 0) 8 rfl Tryd.underlying32 info3 rfl (by decide) (by omega) v457 y456 l0 _ _ _ (fun _ => True) (fun _ => False) rfl rfl ?aO ?aR (fun _ _ h => h) (fun _ h => h.elim) ?aF ?aB ?aS ?aL ?_;(case aR => exact cP (Kd.C_below HR0.out HB.out));(case aB => exact (by exact bB));(case aF => exact (fun _ _ => trivial));(case aO => exact (by exact rP HO458.out));(case aS => exact (below_size (by exact bB)));(case aL => have := LMc2.out;omega);intro v460 w5 ho hb hg hat;rw [← Ny459.out] at ho;have n0_ := Aside0.mk (hb);have n1_ := Aside0.mk (ho);clear HB;clear HO458;have HB := n0_;have HO461 := n1_;clear n0_ n1_;clear ho hb hg hat))
   go_ret
   exact ⟨_, by first | rfl | (simp [errW_none, errW_some] <;> rfl) | (simp [*, errW_none, errW_some] <;> rfl), by exact rP HO461.out, by exact bB⟩
 ·rw [if_neg c2] at H
  exact absurd H (by simp)


/-- A state of type 89 at block g of W; what its slices lead to came in by w0. -/
def IsS89 (w0 W : World) (g : Nat) (f0 : Int) (f1 : List (List Int)) (f2 : List (List Int)) : Prop := ∃ A1 c1, ∃ A2 c2, W.heap[g]? = some (.cells #[.int .i64 f0, .slice A1 f1.length c1, .slice A2 f2.length c2] 89 (0, 0)) ∧ True ∧ Kd.C (Kd.slice 3 (Kd.int .i64)) w0 A1 f1.length f1 ∧ Kd.C (Kd.slice 3 (Kd.int .i64)) w0 A2 f2.length f2
theorem IsS89.grown {w0 W : World} {g : Nat} {f0 : Int} {f1 : List (List Int)} {f2 : List (List Int)} {W1 : World} {row : Option Nat} (h : IsS89 w0 W g f0 f1 f2) (hw : W.grownBy W1 row) (hne : some g ≠ row) : IsS89 w0 W1 g f0 f1 f2 := by
 obtain ⟨A1, c1, A2, c2, hb, hg, hr1, hr2⟩ := h
 exact ⟨A1, c1, A2, c2, blk_grown hb hw hne, hg, hr1, hr2⟩
theorem IsS89.own_neN {w0 W : World} {g : Nat} {f0 : Int} {f1 : List (List Int)} {f2 : List (List Int)} {α : Type} {d : Kd α} {e : Nat} {base : Nat} {ok : Nat → Prop} {v : Value} {xs : List α} (h : IsS89 w0 W g f0 f1 f2) (ho : Kd.N d e W base ok v xs) (ht : e ≠ 89) : some g ≠ v.ownBlock := by
 obtain ⟨A1, c1, A2, c2, hb, hg, hr1, hr2⟩ := h
 exact Kd.N_ne ho hb ht
theorem IsS89.fresh {w0 W : World} {g : Nat} {f0 : Int} {f1 : List (List Int)} {f2 : List (List Int)} (h : IsS89 w0 W g f0 f1 f2) : ∀ k, W.heap.size ≤ k → k ≠ g := by
 obtain ⟨A1, c1, A2, c2, hb, hg, hr1, hr2⟩ := h
 exact Kd.freshB hb
theorem IsS89.kept {w0 W : World} {g : Nat} {f0 : Int} {f1 : List (List Int)} {f2 : List (List Int)} {W1 : World} {S : Nat → Prop} (h : IsS89 w0 W g f0 f1 f2) (hk : Kept W W1 S) (hne : ¬ S g) : IsS89 w0 W1 g f0 f1 f2 := by
 obtain ⟨A1, c1, A2, c2, hb, hg, hr1, hr2⟩ := h
 exact ⟨A1, c1, A2, c2, blk_kept hb hk hne, hg, hr1, hr2⟩
theorem IsS89.below {w0 W : World} {g : Nat} {f0 : Int} {f1 : List (List Int)} {f2 : List (List Int)} {W1 : World} (h : IsS89 w0 W g f0 f1 f2) (hw : Below W.heap.size W W1) : IsS89 w0 W1 g f0 f1 f2 := h.grown (grown_of_below hw none) (by simp)
theorem IsS89.alloc {w0 W : World} {g : Nat} {f0 : Int} {f1 : List (List Int)} {f2 : List (List Int)} (h : IsS89 w0 W g f0 f1 f2) (o : Obj) : IsS89 w0 (W.alloc o) g f0 f1 f2 := h.below (below_alloc (Below.refl _ _) o)
theorem IsS89.drewN {w0 W : World} {g : Nat} {f0 : Int} {f1 : List (List Int)} {f2 : List (List Int)} (h : IsS89 w0 W g f0 f1 f2) (m : Nat) : IsS89 w0 (W.drewN m) g f0 f1 f2 := h
theorem IsS89.drew {w0 W : World} {g : Nat} {f0 : Int} {f1 : List (List Int)} {f2 : List (List Int)} (h : IsS89 w0 W g f0 f1 f2) : IsS89 w0 W.drew g f0 f1 f2 := h
theorem IsS89.at_ {w0 W : World} {g : Nat} {f0 : Int} {f1 : List (List Int)} {f2 : List (List Int)} {w' : World} {m : Nat} (hq : W.drewN m = w') (h : IsS89 w0 W g f0 f1 f2) : IsS89 w0 w' g f0 f1 f2 := by subst hq; exact IsS89.drewN h m
theorem IsS89.apart {w0 W : World} {g : Nat} {f0 : Int} {f1 : List (List Int)} {f2 : List (List Int)} {α : Type} {d : Kd α} {e : Nat} {base : Nat} {ok : Nat → Prop} {v : Value} {xs : List α} (h : IsS89 w0 W g f0 f1 f2) (ho : d.R e W base ok v xs) (ht : ∀ q, q ∈ e :: d.E → q ≠ 89) : d.R e W base (fun k => ok k ∧ k ≠ g) v xs := by
 obtain ⟨A1, c1, A2, c2, hb, hg, hr1, hr2⟩ := h
 exact Kd.R_types ho hb ht
theorem IsS89.own_ne {w0 W : World} {g : Nat} {f0 : Int} {f1 : List (List Int)} {f2 : List (List Int)} {α : Type} {d : Kd α} {e : Nat} {base : Nat} {ok : Nat → Prop} {v : Value} {xs : List α} (h : IsS89 w0 W g f0 f1 f2) (ho : d.R e W base ok v xs) (ht : e ≠ 89) : some g ≠ v.ownBlock := by
 obtain ⟨A1, c1, A2, c2, hb, hg, hr1, hr2⟩ := h
 exact Kd.R_ne ho hb ht
theorem IsS89.apartQ {w0 W : World} {g : Nat} {f0 : Int} {f1 : List (List Int)} {f2 : List (List Int)} {α : Type} {d : Kd α} {e : Nat} {base : Nat} {ok : Nat → Prop} {v : Value} {xs : List α} (h : IsS89 w0 W g f0 f1 f2) (ho : d.Q e W base ok v xs) (ht : ∀ q, q ∈ e :: d.E → q ≠ 89) : d.Q e W base (fun k => ok k ∧ k ≠ g) v xs := by
 obtain ⟨A1, c1, A2, c2, hb, hg, hr1, hr2⟩ := h
 exact Kd.Q_types ho hb ht
theorem IsS89.own_neQ {w0 W : World} {g : Nat} {f0 : Int} {f1 : List (List Int)} {f2 : List (List Int)} {α : Type} {d : Kd α} {e : Nat} {base : Nat} {ok : Nat → Prop} {v : Value} {xs : List α} (h : IsS89 w0 W g f0 f1 f2) (ho : d.Q e W base ok v xs) (ht : e ≠ 89) : some g ≠ v.ownBlock := by
 obtain ⟨A1, c1, A2, c2, hb, hg, hr1, hr2⟩ := h
 exact Kd.Q_ne ho hb ht
theorem IsS89.apartS {w0 W : World} {g : Nat} {f0 : Int} {f1 : List (List Int)} {f2 : List (List Int)} {α : Type} {d : Kd α} {e : Nat} {base : Nat} {ok : Nat → Prop} {v : Value} {xs : List α} (h : IsS89 w0 W g f0 f1 f2) (ho : d.S e W base ok v xs) (ht : ∀ q, q ∈ e :: d.E → q ≠ 89) : d.S e W base (fun k => ok k ∧ k ≠ g) v xs := by
 obtain ⟨A1, c1, A2, c2, hb, hg, hr1, hr2⟩ := h
 exact Kd.S_types ho hb ht
theorem IsS89.own_neS {w0 W : World} {g : Nat} {f0 : Int} {f1 : List (List Int)} {f2 : List (List Int)} {α : Type} {d : Kd α} {e : Nat} {base : Nat} {ok : Nat → Prop} {v : Value} {xs : List α} (h : IsS89 w0 W g f0 f1 f2) (ho : d.S e W base ok v xs) (ht : e ≠ 89) : some g ≠ v.ownBlock := by
 obtain ⟨A1, c1, A2, c2, hb, hg, hr1, hr2⟩ := h
 exact Kd.S_ne ho hb ht
theorem IsS89.lt {w0 W : World} {g : Nat} {f0 : Int} {f1 : List (List Int)} {f2 : List (List Int)} (h : IsS89 w0 W g f0 f1 f2) : g < W.heap.size := by
 obtain ⟨A1, c1, A2, c2, hb, hg, hr1, hr2⟩ := h
 exact blk_lt hb
theorem IsS89.ne_blk {w0 W : World} {g : Nat} {f0 : Int} {f1 : List (List Int)} {f2 : List (List Int)} {a : Nat} {cs : Array Value} {t : TypeId} {fr : Nat × Nat} (h : IsS89 w0 W g f0 f1 f2) (hb2 : W.heap[a]? = some (.cells cs t fr)) (ht : t ≠ 89) : g ≠ a := by
 obtain ⟨A1, c1, A2, c2, hb, hg, hr1, hr2⟩ := h
 rintro rfl
 rw [hb] at hb2
 injection hb2 with hb2
 injection hb2 with _ ht2
 exact ht ht2.symm
theorem IsS89.far {w0 W : World} {g : Nat} {f0 : Int} {f1 : List (List Int)} {f2 : List (List Int)} {p : Addr} (h : IsS89 w0 W g f0 f1 f2) (hne : g ≠ p.block) (u : Value) : IsS89 w0 (W.setCell p u) g f0 f1 f2 := by
 obtain ⟨A1, c1, A2, c2, hb, hg, hr1, hr2⟩ := h
 exact ⟨A1, c1, A2, c2, blk_far hb hne u, hg, hr1, hr2⟩
theorem cellS89_0 {W : World} {g : Nat} {A1 : Option Addr} {c1 : Nat} {A2 : Option Addr} {c2 : Nat} {f0 : Int} {f1 : List (List Int)} {f2 : List (List Int)} (h : W.heap[g]? = some (.cells #[.int .i64 f0, .slice A1 f1.length c1, .slice A2 f2.length c2] 89 (0, 0))) : W.cell? ⟨g, 0, none⟩ = some (.int .i64 f0) := (blk_cell h 0).trans rfl
theorem IsS89.set_0 {w0 W : World} {g : Nat} {f0 : Int} {f1 : List (List Int)} {f2 : List (List Int)} (h : IsS89 w0 W g f0 f1 f2) (x : Int) : IsS89 w0 (W.setCell ⟨g, 0, none⟩ (.int .i64 x)) g x f1 f2 := by
 obtain ⟨A1, c1, A2, c2, hb, hg, hr1, hr2⟩ := h
 exact ⟨A1, c1, A2, c2, by simpa using blk_set hb 0 (.int .i64 x), hg, hr1, hr2⟩
theorem cellS89_1 {W : World} {g : Nat} {A1 : Option Addr} {c1 : Nat} {A2 : Option Addr} {c2 : Nat} {f0 : Int} {f1 : List (List Int)} {f2 : List (List Int)} (h : W.heap[g]? = some (.cells #[.int .i64 f0, .slice A1 f1.length c1, .slice A2 f2.length c2] 89 (0, 0))) : W.cell? ⟨g, 1, none⟩ = some (.slice A1 f1.length c1) := (blk_cell h 1).trans rfl
theorem cellS89_2 {W : World} {g : Nat} {A1 : Option Addr} {c1 : Nat} {A2 : Option Addr} {c2 : Nat} {f0 : Int} {f1 : List (List Int)} {f2 : List (List Int)} (h : W.heap[g]? = some (.cells #[.int .i64 f0, .slice A1 f1.length c1, .slice A2 f2.length c2] 89 (0, 0))) : W.cell? ⟨g, 2, none⟩ = some (.slice A2 f2.length c2) := (blk_cell h 2).trans rfl
theorem IsS89.new (w0 W : World) (A1 : Option Addr) (c1 : Nat) (A2 : Option Addr) (c2 : Nat) (f0 : Int) (f1 : List (List Int)) (f2 : List (List Int)) (hB : Below w0.heap.size w0 W) (hr1 : Kd.C (Kd.slice 3 (Kd.int .i64)) w0 A1 f1.length f1) (hr2 : Kd.C (Kd.slice 3 (Kd.int .i64)) w0 A2 f2.length f2) : IsS89 w0 (W.alloc (.cells #[.int .i64 f0, .slice A1 f1.length c1, .slice A2 f2.length c2] 89)) W.heap.size f0 f1 f2 := ⟨A1, c1, A2, c2, by simpa using heap_alloc_new W _, trivial, hr1, hr2⟩


theorem sS {p : Prop} (h : p := by repeat (first | (with_reducible first | exact Aside0.out (by assumption) | apply IsS89.alloc | apply IsS89.drewN | apply IsS89.drew | apply IsS89.set_0 | refine IsS89.far ?_ (Aside0.out (by assumption)) _))) : p := h

/-! ### impl_guardGame_answers: by hand -/
/-! #### slices.IndexFunc at []int, a predicate that may lay blocks, told up to the first that is wanted: by hand -/
def idxD (q : Int → Option Bool) : List Int → Int → Option Int
 | [], _ => some (-1)
 | x :: l, i => (q x).bind fun b => if b = true then some i else idxD q l (i + 1)
theorem idxD_mono {q q' : Int → Option Bool} (h : ∀ x, LeO (q x) (q' x)) : ∀ (l : List Int) (i : Int), LeO (idxD q l i) (idxD q' l i)
 | [], _ => LeO.refl _
 | x :: l, i => by
  unfold idxD
  refine LeO.bind (h x) (fun b => ?_)
  refine LeO.ite (LeO.refl _) (idxD_mono h l _)
theorem idxD_use {q : Int → Option Bool} {l : List Int} {kk : Nat} {r : Int} (hi : kk < l.length) (h : idxD q (l.drop kk) (kk : Int) = some r) :
  ∃ b, q (rd l (kk : Int)) = some b ∧ ((b = true ∧ r = (kk : Int)) ∨ (b = false ∧ idxD q (l.drop (kk + 1)) ((kk + 1 : Nat) : Int) = some r)) := by
 have e : rd l (kk : Int) = l[kk] := by simp [rd, hi]
 rw [List.drop_eq_getElem_cons hi] at h
 unfold idxD at h
 obtain ⟨b, hb, h⟩ := Option.bind_eq_some_iff.1 h
 refine ⟨b, by rw [e];exact hb, ?_⟩
 cases b with
 | true => rw [if_pos rfl] at h;exact .inl ⟨rfl, (Option.some.inj h).symm⟩
 | false => rw [if_neg (by decide)] at h;exact .inr ⟨rfl, by rw [← h];rfl⟩
set_option maxHeartbeats 1600000 in
set_option maxRecDepth 100000 in
theorem indexFuncD_calls (g : Nat) (lb : Array Value) (eg : ∀ args w, (callFunc g args).run Tryd.prog w = .ok (.enter g args) w) (q : Int → Option Bool) (A : Option Addr) (c : Nat) (l : List Int) (w : World) (hr : Kd.C (Kd.int .i64) w A l.length l) (r : Int) (h : idxD q l 0 = some r)
  (hp : ∀ x b W, q x = some b → Below w.heap.size w W → Calls Tryd.prog g (#[.int .i64 x] ++ lb) W fun e w' => e = .returned (.bool b) ∧ Below W.heap.size W w') :
  Calls Tryd.prog 104 #[.slice A l.length c, .func (.func g) #[] lb] w fun e w' => e = .returned (.int .i64 r) ∧ Below w.heap.size w w' := by
 have HR := Aside0.mk hr
 have HP := Aside0.mk hp
 have hL := hr.2.1
 have HI := Aside0.mk (show idxD q (l.drop 0) ((0 : Nat) : Int) = some r from h)
 clear hr hp h
 go_enter Tryd.func104, Tryd.ntmps104
 go_wp2
 go_loopg [5, 8] l.length (fun gg _ s8 wr => ∃ kk : Nat, kk ≤ l.length ∧ l.length - kk ≤ gg ∧ s8 = .int .i64 (kk : Int) ∧ Aside0 (Below w.heap.size w wr) ∧ Aside0 (idxD q (l.drop kk) (kk : Int) = some r))
 case atStart => exact ⟨0, Nat.zero_le _, by omega, rfl, ⟨Below.refl _ _⟩, HI⟩
 case round =>
  clear HI
  obtain ⟨kk, hkk, hg, rfl, HB, NY⟩ := hrel
  by_cases hlt : kk < l.length
  ·have hltz : (kk : Int) < (l.length : Int) := by omega
   have hk0 : (0 : Int) ≤ (kk : Int) := by omega
   obtain ⟨ad, rfl, hcell⟩ := Kd.at_int (Kd.C_below HR.out HB.out) (kk : Int) hk0 hltz
   rw [Int.toNat_natCast] at hcell
   obtain ⟨b, hq, hcs⟩ := idxD_use hlt NY.out
   have hcall := HP.out (rd l (kk : Int)) b wr hq HB.out
   clear hq NY
   have HC := Aside0.mk hcs
   clear hcs
   generalize hx : rd l (kk : Int) = x at hcell hcall
   clear hx
   cases b with
   | true =>
    obtain rfl : r = (kk : Int) := by rcases HC.out with h | h;exact h.2;exact absurd h.1 (by decide)
    clear HC
    go_wp2_with (go_at_fn g;refine hcall.mono ?_;rintro e w' ⟨rfl, hb⟩)
    go_ret
    exact ⟨rfl, below_step HB.out hb⟩
   | false =>
    have NY := Aside0.mk (show idxD q (l.drop (kk + 1)) ((kk + 1 : Nat) : Int) = some r by rcases HC.out with h | h;exact absurd h.1 (by decide);exact h.2)
    clear HC
    go_wp2_with (go_at_fn g;refine hcall.mono ?_;rintro e w' ⟨rfl, hb⟩)
    go_roundg (l.length - (kk + 1))
    case measure => omega
    case rel => exact ⟨kk + 1, by omega, by omega, by first | rfl | go_num, ⟨below_step HB.out hb⟩, NY⟩
  ·have hltz : ¬ (kk : Int) < (l.length : Int) := by omega
   obtain rfl : kk = l.length := by omega
   obtain rfl : r = -1 := by have h := NY.out;rw [List.drop_length] at h;exact (Option.some.inj h).symm
   go_wp2
   go_ret
   exact ⟨rfl, HB.out⟩

/-! #### slices.DeleteFunc at this program -/
section
open Go.Shelf
def Tryd.delL_ren : Go.Shelf.Ren := ⟨fun | 10 => 114 | 6 => 104 | n => n, fun | 22 => 32 | 23 => 3 | 25 => 111 | 3 => 3 | 4 => 4 | 0 => 0 | n => n, fun | n => n⟩
theorem Tryd.delL : Go.Proofs.SlLaysH.n10 Tryd.prog Tryd.delL_ren := {
 mixed := by kernel_rfl
 f6 := ⟨Tryd.f104.name, by decide, Tryd.func104.trans (congrArg some (by kernel_rfl))⟩
 f10 := ⟨Tryd.f114.name, by decide, Tryd.func114.trans (congrArg some (by kernel_rfl))⟩
 t0 := Tryd.underlying0
 a0 := Tryd.isAgg0
 z0 := Tryd.sizeOf0
 v0 := Tryd.zeroValue0
 t3 := Tryd.underlying3
 a3 := Tryd.isAgg3
 z3 := Tryd.sizeOf3
 v3 := Tryd.zeroValue3
 t4 := Tryd.underlying4
 a4 := Tryd.isAgg4
 z4 := Tryd.sizeOf4
 v4 := Tryd.zeroValue4
 t22 := Tryd.underlying32
 a22 := Tryd.isAgg32
 z22 := Tryd.sizeOf32
 v22 := Tryd.zeroValue32
 a23 := Tryd.isAgg3
 z23 := Tryd.sizeOf3
 t25 := Tryd.underlying111
 a25 := Tryd.isAgg111
 z25 := Tryd.sizeOf111
 v25 := Tryd.zeroValue111 }

end
def clipN (N x : Int) : Int := if 0 ≤ x ∧ x < N then x else 0
theorem clipN_in {N x : Int} (h : 0 ≤ x ∧ x < N) : clipN N x = x := if_pos h
theorem clipN_ok {N : Int} (x : Int) (hN : 0 < N) : 0 ≤ clipN N x ∧ clipN N x < N := by
 unfold clipN
 split
 ·assumption
 ·exact ⟨Int.le_refl _, hN⟩
def delF (sets : List (List Int)) (attack : Int) (l : List Int) : Option (List Int) := if ∀ x ∈ l, 0 ≤ x ∧ x < (sets.length : Int) then some (l.filter fun x => (rd_L2 sets x).contains attack) else none
theorem delF_use {sets : List (List Int)} {attack : Int} {l r : List Int} (h : delF sets attack l = some r) : (∀ x ∈ l, 0 ≤ x ∧ x < (sets.length : Int)) ∧ (l.filter fun x => (rd_L2 sets x).contains attack) = r := by
 unfold delF at h
 split at h
 ·rename_i hv;exact ⟨hv, Option.some.inj h⟩
 ·cases h
theorem index_told (l : List Int) (x : Int) (hl : l.length ≤ 9223372036854775807) : ∀ (m i : Nat), l.length - i = m → i ≤ l.length → ∃ j, slices_Index_int_int.l0 (m + 1) l x (l.length : Int) (i : Int) = some j ∧ decide (j ≥ 0) = (l.drop i).contains x
 | 0, i, hm, hi => by
  have hn : ¬ ((i : Int) < (l.length : Int)) := by omega
  refine ⟨-1, ?_, ?_⟩
  ·unfold slices_Index_int_int.l0
   rw [if_neg hn]
  ·rw [List.drop_of_length_le (by omega)]
   rfl
 | m + 1, i, hm, hi => by
  have hlt : i < l.length := by omega
  have e : rd l (i : Int) = l[i] := by simp [rd, hlt]
  unfold slices_Index_int_int.l0
  rw [if_pos (by omega), if_pos (by omega), if_pos (by omega), e, List.drop_eq_getElem_cons hlt, List.contains_cons]
  by_cases hx : x = l[i]
  ·rw [if_pos hx]
   refine ⟨_, rfl, ?_⟩
   rw [show (x == l[i]) = true from beq_iff_eq.2 hx, Bool.true_or]
   exact decide_eq_true (by omega)
  ·rw [if_neg hx, show (x == l[i]) = false from beq_eq_false_iff_ne.2 hx, Bool.false_or]
   rw [show wrap64 ((i : Int) + 1) = ((i + 1 : Nat) : Int) by unfold wrap64;omega]
   exact index_told l x hl m (i + 1) (by omega) (by omega)
theorem contains_told (l : List Int) (x : Int) (hl : l.length ≤ 9223372036854775807) : ∃ k, slices_Contains_int_int.f k l x = some (l.contains x) := by
 obtain ⟨j, hj, hd⟩ := index_told l x hl l.length 0 (by omega) (Nat.zero_le _)
 refine ⟨l.length + 1, ?_⟩
 unfold slices_Contains_int_int.f slices_Index_int_int.f
 rw [show ((0 : Nat) : Int) = 0 from rfl] at hj
 rw [hj, Option.bind_some, hd, List.drop_zero]
set_option maxHeartbeats 1600000 in
theorem ans_fn (gP gA g : Nat) (A1 : Option Addr) (c1 : Nat) (sets : List (List Int)) (attack x : Int) (W : World) (hP : W.cell? ⟨gP, 0, none⟩ = some (.pointer (some ⟨g, 0, none⟩))) (hA : W.cell? ⟨gA, 0, none⟩ = some (.int .i64 attack)) (hS : W.cell? ⟨g, 1, none⟩ = some (.slice A1 sets.length c1))
  (hC : Kd.C (Kd.slice 3 (Kd.int .i64)) W A1 sets.length sets) (h0 : 0 ≤ x) (h1 : x < (sets.length : Int)) :
  Calls Tryd.prog 115 (#[.int .i64 x] ++ #[.pointer (some ⟨gP, 0, none⟩), .pointer (some ⟨gA, 0, none⟩)]) W fun e w' => e = .returned (.bool (!((rd_L2 sets x).contains attack))) ∧ ∃ q, w' = W.drewN q := by
 obtain ⟨ad, A, c, rfl, hx, hl, hi⟩ := at_L2 hC x h0 h1
 have hlen : (rd_L2 sets x).length ≤ 9223372036854775807 := hi.2.1
 obtain ⟨k, hk⟩ := contains_told (rd_L2 sets x) attack hlen
 have hcall : ∀ q, Calls Tryd.prog 65 #[.slice A (rd_L2 sets x).length c, .int .i64 attack] (W.drewN q) fun e w' => e = .returned (.bool ((rd_L2 sets x).contains attack)) ∧ Drawn0 (W.drewN q) w' := fun q => slices_Contains_int_int.calls k A c (rd_L2 sets x) attack _ _ (Kd.C_drewN hi q) hl hk
 clear hk hlen hC hi hl
 have p0 : (0 ≤ x) = True := eq_true h0
 have p1 : (x < (sets.length : Int)) = True := eq_true h1
 clear h0 h1
 generalize rd_L2 sets x = row at hx hcall ⊢
 show Calls Tryd.prog 115 #[.int .i64 x, .pointer (some ⟨gP, 0, none⟩), .pointer (some ⟨gA, 0, none⟩)] W _
 go_enter Tryd.func115, Tryd.ntmps115
 go_wp2
 go_quiet ((go_at_call 65;refine (hcall _).mono ?_;rintro e w' ⟨rfl, ⟨nd, rfl⟩⟩;exact ⟨rfl, _, World.drewN_drewN _ _ _⟩))
 go_wp2
 go_ret
 exact ⟨by first | rfl | simp, _, by first | rfl | exact World.drewN_drewN _ _ _⟩
theorem below_grow' (w : World) (os : Array Obj) : Below w.heap.size w (Go.Sort.grow w os) :=
 ⟨rfl, rfl, rfl, by show w.heap.size ≤ (w.heap ++ os).size;simp, fun k hk => by show (w.heap ++ os)[k]? = _;rw [Array.getElem?_append_left hk]⟩
theorem below_sortW {α : Type} [Inhabited α] {enc : α → Value} {w W : World} {blk off m : Nat} {dk : Array α} {os : Array Obj} (hB : Below w.heap.size w W) (hblk : w.heap.size ≤ blk) : Below w.heap.size w (Go.Proofs.sortWorld enc W blk off m dk os) := by
 refine ⟨hB.os, hB.tape, hB.output, ?_, fun k hk => ?_⟩
 ·have h1 := hB.size
  have h2 := (below_grow' (Go.Sort.putRow enc (Go.Sort.ahead W m) blk off dk) os).size
  have h3 : (Go.Sort.putRow enc (Go.Sort.ahead W m) blk off dk).heap.size = W.heap.size := Go.Sort.size_putRow enc (Go.Sort.ahead W m) blk off dk
  show w.heap.size ≤ (Go.Sort.grow (Go.Sort.putRow enc (Go.Sort.ahead W m) blk off dk) os).heap.size
  omega
 ·have h3 : (Go.Sort.putRow enc (Go.Sort.ahead W m) blk off dk).heap.size = W.heap.size := Go.Sort.size_putRow enc (Go.Sort.ahead W m) blk off dk
  have h1 := hB.size
  have h4 := (below_grow' (Go.Sort.putRow enc (Go.Sort.ahead W m) blk off dk) os).block k (by omega)
  refine h4.trans ?_
  have h5 : (Go.Sort.putRow enc (Go.Sort.ahead W m) blk off dk).heap[k]? = W.heap[k]? := by
   unfold Go.Sort.putRow Go.Sort.mapBlock
   show (W.heap.modify blk _)[k]? = W.heap[k]?
   rw [Array.getElem?_modify, if_neg (by omega)]
  rw [h5]
  exact hB.block k hk
theorem cell_sortW {α : Type} [Inhabited α] {enc : α → Value} {W : World} {blk off m : Nat} {dk : Array α} {os : Array Obj} {g : Nat} {v : Value} (hne : g ≠ blk) (h : W.cell? ⟨g, 0, none⟩ = some v) : (Go.Proofs.sortWorld enc W blk off m dk os).cell? ⟨g, 0, none⟩ = some v := by
 have hg : g < W.heap.size := World.block_lt_of_cell? _ _ h
 unfold Go.Proofs.sortWorld
 rw [Go.Sort.cell?_grow _ _ _ (by show g < (Go.Sort.putRow enc (Go.Sort.ahead W m) blk off dk).heap.size;rw [Go.Sort.size_putRow];exact hg), Go.Sort.cell?_putRow_other _ _ blk off _ _ (Or.inl hne)]
 exact h
theorem R_setCellsD {base g n cap : Nat} {ok : Nat → Prop} : ∀ (ys : List Int) (i : Nat) (W : World) (xs : List Int), Kd.R (Kd.int .i64) 3 W base ok (.slice (some ⟨g, 0, none⟩) n cap) xs → i + ys.length ≤ xs.length →
  Kd.R (Kd.int .i64) 3 (W.setCells g i (ys.map (Value.int .i64))) base ok (.slice (some ⟨g, 0, none⟩) n cap) (xs.take i ++ ys ++ xs.drop (i + ys.length))
 | [], i, W, xs, h, _ => by
  have e : xs.take i ++ [] ++ xs.drop (i + ([] : List Int).length) = xs := by simp
  rw [e];exact h
 | y :: ys, i, W, xs, h, hl => by
  have h1 := Kd.R_putn h (i : Int) y
  simp only [Int.toNat_natCast] at h1
  have h2 := R_setCellsD ys (i + 1) _ _ h1 (by simp only [List.length_set, List.length_cons] at hl ⊢;omega)
  simp only [List.length_cons] at hl
  have e : (xs.set i y).take (i + 1) ++ ys ++ (xs.set i y).drop (i + 1 + ys.length) = xs.take i ++ (y :: ys) ++ xs.drop (i + (y :: ys).length) := by
   rw [List.drop_set_of_lt (by omega), List.take_succ_eq_append_getElem (by rw [List.length_set];omega), List.take_set_of_le (by omega)]
   simp only [List.getElem_set_self, List.length_cons, List.append_assoc, List.singleton_append]
   rw [show i + 1 + ys.length = i + (ys.length + 1) by omega]
  rw [e] at h2
  exact h2
theorem below_setCellsD {w : World} {g : Nat} : ∀ (vs : List Value) (i : Nat) (W : World), Below w.heap.size w W → w.heap.size ≤ g → Below w.heap.size w (W.setCells g i vs)
 | [], _, _, h, _ => h
 | v :: vs, i, W, h, hg => below_setCellsD vs (i + 1) _ (h.setCell (p := ⟨g, i, none⟩) hg v) hg
theorem R_front {W : World} {base g cap : Nat} {ok : Nat → Prop} {xs : List Int} (ys zs : List Int) (he : xs = ys ++ zs) (h : Kd.R (Kd.int .i64) 3 W base ok (.slice (some ⟨g, 0, none⟩) xs.length cap) xs) : Kd.R (Kd.int .i64) 3 W base ok (.slice (some ⟨g, 0, none⟩) ys.length cap) ys := by
 subst he
 have hok := h.1
 have ho := Kd.own_of_R h
 refine Kd.R_of_own (enc := Value.int .i64) (h1 := fun _ => rfl) ?_ (fun k hk => hok k hk)
 obtain ⟨h0, h1 | ⟨g', cap', cur, e, hb, hg, hn, hc, hs, ht⟩⟩ := ho
 ·exact absurd h1.1 (by simp)
 ·refine ⟨by simp [encs], .inr ⟨g', cap', cur, ?_, hb, hg, ?_, hc, hs, ?_⟩⟩
  ·injection e with e1 e2 e3
   rw [e1, e3]
  ·rw [List.length_append] at hn;omega
  ·rw [Nat.mul_one] at ht ⊢
   have h2 := congrArg (List.take ys.length) ht
   rw [List.take_take, List.length_append, Nat.min_eq_left (by omega)] at h2
   rw [h2]
   simp [encs]
set_option maxHeartbeats 1600000 in
theorem deleteFunc_calls (gP gA g : Nat) (A1 : Option Addr) (c1 : Nat) (sets : List (List Int)) (attack : Int) (w W : World) (Ao : Option Addr) (co : Nat) (l r : List Int) (h : delF sets attack l = some r) (hB : Below w.heap.size w W) (hR : Kd.R (Kd.int .i64) 3 W w.heap.size (fun k => k ≠ gP ∧ k ≠ gA) (.slice Ao l.length co) l)
  (hg : g < w.heap.size) (hP : W.cell? ⟨gP, 0, none⟩ = some (.pointer (some ⟨g, 0, none⟩))) (hA : W.cell? ⟨gA, 0, none⟩ = some (.int .i64 attack)) (hS : w.cell? ⟨g, 1, none⟩ = some (.slice A1 sets.length c1)) (hC : Kd.C (Kd.slice 3 (Kd.int .i64)) w A1 sets.length sets) :
  Calls Tryd.prog 114 #[.slice Ao l.length co, .func (.func 115) #[] #[.pointer (some ⟨gP, 0, none⟩), .pointer (some ⟨gA, 0, none⟩)]] W fun e w' => ∃ v : Value, e = .returned v ∧ Kd.R (Kd.int .i64) 3 w' w.heap.size (fun _ => True) v r ∧ Below w.heap.size w w' := by
 obtain ⟨hin, rfl⟩ := delF_use h
 clear h
 have eg : ∀ args w, (callFunc 115 args).run Tryd.prog w = .ok (.enter 115 args) w := enters_of Tryd.func115 (by kernel_rfl) rfl
 cases l with
 | nil =>
  have hidx := indexFuncD_calls 115 #[.pointer (some ⟨gP, 0, none⟩), .pointer (some ⟨gA, 0, none⟩)] eg (fun _ => none) Ao co [] W (Kd.R_reads' hR).2.2 (-1) rfl (fun x b W h => by cases h)
  have HR := Aside0.mk hR
  have HB := Aside0.mk hB
  have HI := Aside0.mk hidx
  clear hR hB hidx hin hP hA hS hC
  go_enter Tryd.func114, Tryd.ntmps114
  go_wp2_with (go_at_call 104;refine HI.out.mono ?_;rintro e w' ⟨rfl, hb⟩;have n0_ := Aside0.mk (Kd.R_below HR.out hb);have n1_ := Aside0.mk (HB.out.trans ⟨hb.os, hb.tape, hb.output, hb.size, fun k hk => hb.block k (Nat.lt_of_lt_of_le hk HB.out.size)⟩);clear HR HB hb HI)
  go_ret
  exact ⟨_, rfl, Kd.R_mono n0_.out (fun _ _ => trivial), n1_.out⟩
 | cons x0 l0 =>
  generalize hl : x0 :: l0 = l at *
  have hne : 0 < l.length := by rw [← hl];simp
  have hx0 : x0 ∈ l := by rw [← hl];simp
  have hN : (0 : Int) < (sets.length : Int) := by have := hin x0 hx0;omega
  obtain ⟨gb, cap, e, hgb, hlt, _⟩ := Kd.R_form hR hne
  injection e with e1 e2 e3
  subst e1
  subst e3
  have hok := hR.1 gb rfl
  have hcap := (Kd.R_reads' hR).2.1
  have hlen := (Kd.R_reads' hR).2.2.2.1
  have hH : Go.Sort.Holds (fun x : Int => Value.int .i64 (clipN (sets.length : Int) x)) W gb 0 l.toArray := by
   intro j hj
   have hj' : j < l.length := by simpa using hj
   obtain ⟨h1, h2⟩ := Kd.R_celln 0 hR (j : Int) (by omega) (by omega)
   rw [Int.toNat_natCast] at h1 h2
   refine ⟨?_, by rw [Nat.zero_add];exact h2⟩
   rw [Nat.zero_add, h1]
   have e1 : rdOf 0 l (j : Int) = l[j] := by simp [rdOf, hj']
   have e2 : l.toArray[j]! = l[j] := by rw [getElem!_pos _ j hj];simp
   rw [e1, e2]
   show _ = some (Value.int .i64 (clipN (sets.length : Int) l[j]))
   rw [clipN_in (hin _ (List.getElem_mem hj'))]
  have hcl : ∀ (W' : World) (x : Int), Below w.heap.size w W' → W'.cell? ⟨gP, 0, none⟩ = some (.pointer (some ⟨g, 0, none⟩)) → W'.cell? ⟨gA, 0, none⟩ = some (.int .i64 attack) →
    Go.Proofs.FnGives Tryd.prog 115 #[.pointer (some ⟨gP, 0, none⟩), .pointer (some ⟨gA, 0, none⟩)] #[.int .i64 (clipN (sets.length : Int) x)] (.bool (!((rd_L2 sets (clipN (sets.length : Int) x)).contains attack))) W' :=
   fun W' x hb hp ha => ans_fn gP gA g A1 c1 sets attack (clipN (sets.length : Int) x) W' hp ha ((hb.cell hg).trans hS) (Kd.C_below hC hb) (clipN_ok x hN).1 (clipN_ok x hN).2
  have hat : Go.Proofs.PredAt Tryd.prog 115 #[.pointer (some ⟨gP, 0, none⟩), .pointer (some ⟨gA, 0, none⟩)] (fun x : Int => Value.int .i64 (clipN (sets.length : Int) x)) (fun x => !((rd_L2 sets (clipN (sets.length : Int) x)).contains attack)) W := by
   intro W' x hb
   have hb2 : Below w.heap.size w W' := hB.trans ⟨hb.os, hb.tape, hb.output, hb.size, fun k hk => hb.block k (Nat.lt_of_lt_of_le hk hB.size)⟩
   exact hcl W' x hb2 ((hb.cell (World.block_lt_of_cell? _ _ hP)).trans hP) ((hb.cell (World.block_lt_of_cell? _ _ hA)).trans hA)
  have hov : Go.Proofs.PredOver Tryd.prog 115 #[.pointer (some ⟨gP, 0, none⟩), .pointer (some ⟨gA, 0, none⟩)] (fun x : Int => Value.int .i64 (clipN (sets.length : Int) x)) (fun x => !((rd_L2 sets (clipN (sets.length : Int) x)).contains attack)) gb 0 l.toArray.size W :=
   fun n os dk x _ => hcl _ x (below_sortW hB hgb) (cell_sortW hok.1.symm hP) (cell_sortW hok.2.symm hA)
  have hcon := Go.Proofs.AnyE.slices_DeleteFunc Tryd.delL (fun x : Int => Value.int .i64 (clipN (sets.length : Int) x)) (fun _ => rfl) (fun x => !((rd_L2 sets (clipN (sets.length : Int) x)).contains attack)) 115 #[.pointer (some ⟨gP, 0, none⟩), .pointer (some ⟨gA, 0, none⟩)] eg 0
   (fun w => by rw [clipN_in ⟨Int.le_refl _, hN⟩];exact Tryd.zeroValue3 w) gb 0 co l.toArray W hat hov hH (by simpa using hlen) (by simpa using hcap)
  change Calls Tryd.prog 114 _ _ _ at hcon
  simp only [List.size_toArray, Bool.not_not] at hcon
  have hf : (l.filter fun x => (rd_L2 sets (clipN (sets.length : Int) x)).contains attack) = l.filter fun x => (rd_L2 sets x).contains attack := List.filter_congr fun x hx => by rw [clipN_in (hin x hx)]
  rw [hf] at hcon
  refine hcon.mono ?_
  have hfl : (l.filter fun x => (rd_L2 sets x).contains attack).length ≤ l.length := List.length_filter_le _ _
  have hmem : ∀ x ∈ l.filter (fun x => (rd_L2 sets x).contains attack), x ∈ l := fun x hx => (List.mem_filter.1 hx).1
  generalize (l.filter fun x => (rd_L2 sets x).contains attack) = f at hfl hmem ⊢
  rintro e w' ⟨rfl, q, rfl⟩
  have hq := Go.Lib.putRow_eq_setCells (fun x : Int => Value.int .i64 (clipN (sets.length : Int) x)) W gb 0 l.toArray (f ++ List.replicate (l.length - f.length) 0) q hH (by simp;omega)
  rw [hq]
  have hm : ((f ++ List.replicate (l.length - f.length) 0).map fun x : Int => Value.int .i64 (clipN (sets.length : Int) x)) = (f ++ List.replicate (l.length - f.length) 0).map (Value.int .i64) := by
   refine List.map_congr_left fun x hx => ?_
   rcases List.mem_append.1 hx with hx | hx
   ·rw [clipN_in (hin x (hmem x hx))]
   ·rw [(List.mem_replicate.1 hx).2, clipN_in ⟨Int.le_refl _, hN⟩]
  rw [hm]
  refine ⟨_, rfl, ?_, below_setCellsD _ 0 _ (pw_below_drewN hB q) hgb⟩
  have h1 := R_setCellsD (f ++ List.replicate (l.length - f.length) 0) 0 (W.drewN q) l (Kd.R_drewN hR q) (by simp;omega)
  have hll : (f ++ List.replicate (l.length - f.length) 0).length = l.length := by simp;omega
  simp only [List.take_zero, List.nil_append, Nat.zero_add, hll, List.drop_length, List.append_nil] at h1
  exact Kd.R_mono (R_front f (List.replicate (l.length - f.length) 0) rfl (by rw [hll];exact h1)) (fun _ _ => trivial)

def impl_guardGame_answers.f (s0_0 : Int) (s0_1 : List (List Int)) (s0_2 : List (List Int)) (a1 : Int) (a2 : Int) : Option (List Int × Int) := if 0 ≤ a1 then (if a1 < (s0_2.length : Int) then ((slices_Clone_int_int.f (rd_L2 s0_2 a1)).bind fun t1 => ((delF s0_1 a2 t1).bind fun t2 => (some (t2, s0_0)))) else (none)) else (none)
set_option maxHeartbeats 1600000 in
set_option maxRecDepth 100000 in
theorem impl_guardGame_answers.calls (g : Nat) (s0_0 : Int) (s0_1 : List (List Int)) (s0_2 : List (List Int)) (a1 : Int) (a2 : Int) (r1 : List Int) (r2 : Int) (w0 w : World) (hI : IsS89 w0 w g s0_0 s0_1 s0_2) (hB : Below w0.heap.size w0 w) (h : impl_guardGame_answers.f s0_0 s0_1 s0_2 a1 a2 = some (r1, r2)) :
    Calls Tryd.prog 74 #[.pointer (some ⟨g, 0, none⟩), .int .i64 a1, .int .i64 a2] w fun e w' => ∃ v0_ : Value, e = .returned (v0_) ∧ Kd.R (Kd.int .i64) 3 w' w.heap.size (fun _ => True) v0_ r1 ∧ IsS89 w0 w' g r2 s0_1 s0_2 ∧ Below w0.heap.size w0 w' ∧ KeepBut w w' g none := by
  unfold impl_guardGame_answers.f at h
  split at h
  case isFalse => cases h
  case isTrue p0 =>
  split at h
  case isFalse => cases h
  case isTrue p1 =>
  obtain ⟨t1, ht1, h⟩ := Option.bind_eq_some_iff.1 h
  obtain ⟨t2, ht2, h⟩ := Option.bind_eq_some_iff.1 h
  simp only [Option.some.injEq, Prod.mk.injEq] at h
  obtain ⟨rfl, rfl⟩ := h
  have hlt := hI.lt
  have hI0 := hI
  obtain ⟨A1, c1, A2, c2, hG, hg, hS1, hS2⟩ := hI
  have hz1 := cellS89_1 hG
  have hz2 := cellS89_2 hG
  obtain ⟨ad, Ar, cr, rfl, hx, hl, hi⟩ := at_L2 hS2 a1 p0 p1
  have hxw := (pw_cell_below hB hx)
  have hiw := Kd.C_below hi hB
  have hSw := Kd.C_below hS1 hB
  have HI := Aside0.mk hI0
  have HB := Aside0.mk hB
  have HW := Aside0.mk (Below.refl w.heap.size w)
  have A1_ := Aside0.mk ht1
  have A2_ := Aside0.mk ht2
  have HLT := Aside0.mk hlt
  have HZ1 := Aside0.mk hz1
  have HZ2 := Aside0.mk hz2
  have HX := Aside0.mk hxw
  have HL := Aside0.mk hl
  have HC := Aside0.mk hiw
  have HS := Aside0.mk hSw
  clear hI0 hB ht1 ht2 hlt hz1 hz2 hx hxw hl hi hiw hSw hG hg hS1 hS2
  replace p0 := eq_true p0
  replace p1 := eq_true p1
  go_enter Tryd.func74, Tryd.ntmps74
  go_wp2_with (first
    | ((with_reducible refine gate_dst (N := 3) rfl ?_); refine box_event ?hg (N := 3) ?hd (cs := #[.pointer (some ⟨g, 0, none⟩)]) (t := 79) ?hr ?_; (case hd => rfl); (case hg => rfl); (case hr => first | (go_simp; done) | (go_simp; rfl)); intro gP hgP wP hboxP hbP; have HWP := Aside0.mk hbP; have BKP := Aside0.mk hboxP; have GP := Aside0.mk (show w.heap.size ≤ gP by rw [hgP]; exact Nat.le_refl _); clear hbP hboxP hgP)
    | ((with_reducible refine gate_dst (N := 5) rfl ?_); refine box_event ?hg (N := 5) ?hd (cs := #[.int .i64 a2]) (t := 3) ?hr ?_; (case hd => rfl); (case hg => rfl); (case hr => first | (go_simp; done) | (go_simp; rfl)); intro gA hgA wA hboxA hbA; have GA := Aside0.mk (show w.heap.size ≤ gA by rw [hgA]; exact HWP.out.size); have BKQ := Aside0.mk (blk_below BKP.out hbA); have BKA := Aside0.mk hboxA; have HWA := Aside0.mk (below_step HWP.out hbA); clear hbA hboxA hgA BKP HWP;
       have hcP := (blk_cell BKQ.out 0).trans (show (#[Value.pointer (some ⟨g, 0, none⟩)] : Array Value)[0]? = some (.pointer (some ⟨g, 0, none⟩)) from rfl); have hfP := blk_frozen BKQ.out 0; have hc2 := (HWA.out.cell (p := ⟨g, 2, none⟩) HLT.out).trans HZ2.out; have hcr := pw_cell_below HWA.out HX.out)
    | ((with_reducible refine gate_callee (f := 76) rfl ?_); refine goesL_ (some 14) rfl rfl Tryd.func76 (by kernel_rfl) rfl #[.slice Ar (rd_L2 s0_2 a1).length cr] rfl (by (try simp only [List.map_toArray, List.map_cons, List.map_nil]); first | done | rfl) ?_;
       (with_reducible refine (slices_Clone_int_int.calls _ _ (rd_L2 s0_2 a1) t1 _ ?side1 ?side2 A1_.out).mono ?_); (case side1 => exact Kd.C_below HC.out HWA.out); (case side2 => exact HL.out); rintro e wC ⟨vC, rfl, hoC, hbC⟩; refine ⟨_, rfl, ?_⟩;
       obtain ⟨Ao, co, eo⟩ := Kd.R_slice hoC; subst eo; have HOC := Aside0.mk (Kd.R_lower (Kd.R_mono (ok' := fun k => k ≠ gP ∧ k ≠ gA) (Kd.R_bound hoC) (fun k hk => ⟨fun e_ => Nat.not_le.2 (blk_lt BKQ.out) (e_ ▸ hk.2.1), fun e_ => Nat.not_le.2 (blk_lt BKA.out) (e_ ▸ hk.2.1)⟩)) HWA.out.size);
       have BKP2 := Aside0.mk (blk_below BKQ.out hbC); have BKA2 := Aside0.mk (blk_below BKA.out hbC); have HWC := Aside0.mk (below_step HWA.out hbC); clear hoC hbC BKQ BKA HWA hcP hfP hc2 hcr)
    | (go_at_call 114; refine (deleteFunc_calls gP gA g A1 c1 s0_1 a2 w _ Ao co t1 t2 A2_.out HWC.out HOC.out HLT.out ((blk_cell BKP2.out 0).trans rfl) ((blk_cell BKA2.out 0).trans rfl) HZ1.out HS.out).mono ?_; rintro e wD ⟨vD, rfl, hoD, hbD⟩; have HOD := Aside0.mk hoD; have HWD := Aside0.mk hbD; clear hoD hbD HOC BKP2 BKA2 HWC))
  go_ret
  exact ⟨_, rfl, HOD.out, HI.out.below HWD.out, below_step HB.out HWD.out, KeepBut.of_below HWD.out g none⟩

/-! ### slices_BinarySearchFunc_int_int_int: function 116 -/
def slices_BinarySearchFunc_int_int_int.l0 : Nat → List (List Int) → List Int → Int → Int → Int → Option (Int × Bool)
 | 0, _, _, _, _, _ => none
 | k + 1, x0, x1, x8, x9, x10 => if x9 < x10 then (if 0 ≤ (wrap64 ((IntKind.u64.wrap (wrap64 (x9 + x10))) / 2)) then (if (wrap64 ((IntKind.u64.wrap (wrap64 (x9 + x10))) / 2)) < (x0.length : Int) then ((slices_Compare_int_int.f k (rd_L2 x0 (wrap64 ((IntKind.u64.wrap (wrap64 (x9 + x10))) / 2))) x1).bind fun t506 => (if t506 < 0 then (slices_BinarySearchFunc_int_int_int.l0 k x0 x1 x8 (wrap64 ((wrap64 ((IntKind.u64.wrap (wrap64 (x9 + x10))) / 2)) + 1)) x10) else (slices_BinarySearchFunc_int_int_int.l0 k x0 x1 x8 x9 (wrap64 ((IntKind.u64.wrap (wrap64 (x9 + x10))) / 2))))) else (none)) else (none)) else (if x9 < x8 then (if 0 ≤ x9 then (if x9 < (x0.length : Int) then ((slices_Compare_int_int.f k (rd_L2 x0 x9) x1).bind fun t508 => (some (x9, (t508 == 0)))) else (none)) else (none)) else (some (x9, false)))
def slices_BinarySearchFunc_int_int_int.f (k : Nat) (l0 : List (List Int)) (l1 : List Int) : Option (Int × Bool) := slices_BinarySearchFunc_int_int_int.l0 k l0 l1 (l0.length : Int) 0 (l0.length : Int)
theorem slices_BinarySearchFunc_int_int_int.mono_l : ∀ k, (∀ y0 y1 y2 y3 y4, LeO (slices_BinarySearchFunc_int_int_int.l0 k y0 y1 y2 y3 y4) (slices_BinarySearchFunc_int_int_int.l0 (k + 1) y0 y1 y2 y3 y4))
 | 0 => fun _ _ _ _ _ r h => by simp [slices_BinarySearchFunc_int_int_int.l0] at h
 | k + 1 => by
  have ih0 := slices_BinarySearchFunc_int_int_int.mono_l k
  ·intro y0 y1 y2 y3 y4
   unfold slices_BinarySearchFunc_int_int_int.l0
   repeat' first
   | (with_reducible exact ih0 _ _ _ _ _)
   | (with_reducible exact slices_Compare_int_int.mono _ _ _)
   | (with_reducible exact LeO.refl _)
   | (with_reducible exact LeO.none _)
   | (with_reducible refine LeO.ite ?_ ?_)
   | (with_reducible refine LeO.bind ?_ (fun _ => ?_))
   | exact ih0 _ _ _ _ _
   | exact slices_Compare_int_int.mono _ _ _
   | exact LeO.none _
   | refine LeO.ite ?_ ?_
   | refine LeO.bind ?_ (fun _ => ?_)
theorem slices_BinarySearchFunc_int_int_int.mono : ∀ a0 a1 k, LeO (slices_BinarySearchFunc_int_int_int.f k a0 a1) (slices_BinarySearchFunc_int_int_int.f (k + 1) a0 a1) := by
 intro a0 a1 k
 have ih0 := slices_BinarySearchFunc_int_int_int.mono_l k
 unfold slices_BinarySearchFunc_int_int_int.f
 repeat' first
   | (with_reducible exact ih0 _ _ _ _ _)
   | (with_reducible exact slices_Compare_int_int.mono _ _ _)
   | (with_reducible exact LeO.refl _)
   | (with_reducible exact LeO.none _)
   | (with_reducible refine LeO.ite ?_ ?_)
   | (with_reducible refine LeO.bind ?_ (fun _ => ?_))
   | exact ih0 _ _ _ _ _
   | exact slices_Compare_int_int.mono _ _ _
   | exact LeO.none _
   | refine LeO.ite ?_ ?_
   | refine LeO.bind ?_ (fun _ => ?_)
set_option maxHeartbeats 8000000 in
set_option maxRecDepth 100000 in
theorem slices_BinarySearchFunc_int_int_int.calls (k : Nat) (A0 : Option Addr) (c0 : Nat) (l0 : List (List Int)) (A1 : Option Addr) (c1 : Nat) (l1 : List Int) (r1 : Int) (r2 : Bool) (w : World) (hr0 : Kd.C (Kd.slice 3 (Kd.int .i64)) w A0 l0.length l0) (hc0 : l0.length ≤ c0) (hr1 : Kd.C (Kd.int .i64) w A1 l1.length l1) (hc1 : l1.length ≤ c1) (h : slices_BinarySearchFunc_int_int_int.f k l0 l1 = some (r1, r2)) :
  Calls Tryd.prog 116 #[.slice A0 l0.length c0, .slice A1 l1.length c1, .func (.func 85) #[] #[]] w fun e w' => e = .returned (.tuple #[.int .i64 r1, .bool r2]) ∧ Drawn0 w w' := by
 have HR0 := Aside0.mk hr0
 have HC0 := Aside0.mk hc0
 clear hr0 hc0
 have HR1 := Aside0.mk hr1
 have HC1 := Aside0.mk hc1
 clear hr1 hc1
 have H : (slices_BinarySearchFunc_int_int_int.l0 k l0 l1 (l0.length : Int) 0 (l0.length : Int)) = some (r1, r2) := h
 clear h
 have H' := Aside0.mk H
 clear H
 have eg := enters_of Tryd.func85 (by kernel_rfl) rfl
 go_enter Tryd.func116, Tryd.ntmps116
 go_wp2
 go_loopg [9, 10] k (fun kq v9 v10 w' => ∃ (x9_1 : Int) (x10_1 : Int), v9 = .int .i64 x9_1 ∧ v10 = .int .i64 x10_1 ∧ Aside0 (slices_BinarySearchFunc_int_int_int.l0 kq l0 l1 (l0.length : Int) x9_1 x10_1 = some (r1, r2)) ∧ Aside0 (kq ≤ k) ∧ Drawn0 w w')
 case atStart => exact ⟨(0), ((l0.length : Int)), (by first | rfl | (simp;done) | (simp [*];done)), (by first | rfl | (simp;done) | (simp [*];done)), H', ⟨Nat.le_refl _⟩, by repeat (first | exact Drawn0.refl _ | apply Drawn0.step)⟩
 case round =>
  clear H'
  try clear c1
  try clear p2
  obtain ⟨x9_1, x10_1, rfl, rfl, HA, HK1, ⟨m1, rfl⟩⟩ := hrel
  cases gk with
  | zero => exact absurd HA.out (by simp [slices_BinarySearchFunc_int_int_int.l0])
  | succ k1 =>
   have H := HA.out
   clear HA
   simp only [slices_BinarySearchFunc_int_int_int.l0] at H
   by_cases c3 : x9_1 < x10_1
   ·rw [if_pos c3] at H
    have c3b0 : decide (x9_1 < x10_1) = true := decide_eq_true c3
    clear c3
    obtain ⟨ji4, hji4⟩ : ∃ j_ : Int, (wrap64 ((IntKind.u64.wrap (wrap64 (x9_1 + x10_1))) / 2)) = j_ := ⟨_, rfl⟩
    replace H : (if 0 ≤ (ji4) then (if (ji4) < (l0.length : Int) then ((slices_Compare_int_int.f k1 (rd_L2 l0 (ji4)) l1).bind fun t506 => (if t506 < 0 then (slices_BinarySearchFunc_int_int_int.l0 k1 l0 l1 (l0.length : Int) (wrap64 ((ji4) + 1)) x10_1) else (slices_BinarySearchFunc_int_int_int.l0 k1 l0 l1 (l0.length : Int) x9_1 ji4))) else (none)) else (none)) = some (r1, r2) := by first | (rw [hji4] at H;exact H) | (simp only [hji4] at H ⊢;exact H)
    have hji4w : (IntKind.i64.wrap ((IntKind.u64.wrap (wrap64 (x9_1 + x10_1))) / 2)) = ji4 := (i64_w _).trans hji4
    by_cases c5 : 0 ≤ (ji4)
    ·rw [if_pos c5] at H
     have c5b0 : decide (0 ≤ (ji4)) = true := decide_eq_true c5
     clear c5
     by_cases c6 : (ji4) < (l0.length : Int)
     ·rw [if_pos c6] at H
      have c6b0 : decide ((ji4) < (l0.length : Int)) = true := decide_eq_true c6
      clear c6
      replace H := Option.bind_eq_some_iff.mp H
      obtain ⟨t506, A70, H⟩ := H
      replace H : (if t506 < 0 then (slices_BinarySearchFunc_int_int_int.l0 k1 l0 l1 (l0.length : Int) (wrap64 ((ji4) + 1)) x10_1) else (slices_BinarySearchFunc_int_int_int.l0 k1 l0 l1 (l0.length : Int) x9_1 ji4)) = some (r1, r2) := H
      have A7 := Aside0.mk A70
      clear A70
      by_cases c8 : t506 < 0
      ·rw [if_pos c8] at H
       have c8b0 : decide (t506 < 0) = true := decide_eq_true c8
       clear c8
       have H' := Aside0.mk H
       clear H
       have p505 : 0 ≤ ((ji4) : Int) := oA
       have q505 : (ji4) < (l0.length : Int) := oA
       obtain ⟨ad505, A505_0, c505_0, e505, hx505_0, hl505_0, hi505_0⟩ := at_L2 HR0.out (ji4) p505 q505
       cases e505
       have HR505_0 := Aside0.mk hi505_0
       have HC505_0 := Aside0.mk hl505_0
       clear hi505_0 hl505_0
       replace p505 := eq_true p505
       replace q505 := eq_true q505
       go_wp2_with (first | (go_at_call 85;(with_reducible refine (slices_Compare_int_int.calls k1 _ _ (rd_L2 l0 (ji4)) _ _ l1 t506 _ ?side1 ?side2 ?side3 ?side4 A7.out).mono ?_);(case side1 => exact cP HR505_0.out);(case side2 => exact HC505_0.out);(case side3 => exact cP HR1.out);(case side4 => exact HC1.out);rintro e w' ⟨rfl, ⟨nd, rfl⟩⟩))
       go_roundg k1
       case measure => have := HK1.out;omega
       case rel => exact ⟨(wrap64 ((ji4) + 1)), (x10_1), (by first | rfl | (simp;done) | (simp only [← hji4] <;> (first | rfl | simp)) | (simp [*];done)), (by first | rfl | (simp;done) | (simp [*];done)), H', ⟨by have := HK1.out;omega⟩, by repeat (first | exact Drawn0.refl _ | apply Drawn0.step)⟩
      ·rw [if_neg c8] at H
       have c8b0 : decide (t506 < 0) = false := decide_eq_false c8
       clear c8
       have H' := Aside0.mk H
       clear H
       have p505 : 0 ≤ ((ji4) : Int) := oA
       have q505 : (ji4) < (l0.length : Int) := oA
       obtain ⟨ad505, A505_0, c505_0, e505, hx505_0, hl505_0, hi505_0⟩ := at_L2 HR0.out (ji4) p505 q505
       cases e505
       have HR505_0 := Aside0.mk hi505_0
       have HC505_0 := Aside0.mk hl505_0
       clear hi505_0 hl505_0
       replace p505 := eq_true p505
       replace q505 := eq_true q505
       go_wp2_with (first | (go_at_call 85;(with_reducible refine (slices_Compare_int_int.calls k1 _ _ (rd_L2 l0 (ji4)) _ _ l1 t506 _ ?side1 ?side2 ?side3 ?side4 A7.out).mono ?_);(case side1 => exact cP HR505_0.out);(case side2 => exact HC505_0.out);(case side3 => exact cP HR1.out);(case side4 => exact HC1.out);rintro e w' ⟨rfl, ⟨nd, rfl⟩⟩))
       go_roundg k1
       case measure => have := HK1.out;omega
       case rel => exact ⟨(x9_1), (ji4), (by first | rfl | (simp;done) | (simp [*];done)), (by first | rfl | (simp;done) | (simp only [← hji4] <;> (first | rfl | simp)) | (simp [*];done)), H', ⟨by have := HK1.out;omega⟩, by repeat (first | exact Drawn0.refl _ | apply Drawn0.step)⟩
     ·rw [if_neg c6] at H
      exact absurd H (by simp)
    ·rw [if_neg c5] at H
     exact absurd H (by simp)
   ·rw [if_neg c3] at H
    have c3b0 : decide (x9_1 < x10_1) = false := decide_eq_false c3
    clear c3
    by_cases c9 : x9_1 < (l0.length : Int)
    ·rw [if_pos c9] at H
     have c9b0 : decide (x9_1 < (l0.length : Int)) = true := decide_eq_true c9
     clear c9
     by_cases c10 : 0 ≤ x9_1
     ·rw [if_pos c10] at H
      have c10b0 : decide (0 ≤ x9_1) = true := decide_eq_true c10
      clear c10
      by_cases c11 : x9_1 < (l0.length : Int)
      ·rw [if_pos c11] at H
       have c11b0 : decide (x9_1 < (l0.length : Int)) = true := decide_eq_true c11
       clear c11
       replace H := Option.bind_eq_some_iff.mp H
       obtain ⟨t508, A120, H⟩ := H
       replace H : (some (x9_1, (t508 == 0))) = some (r1, r2) := H
       have A12 := Aside0.mk A120
       clear A120
       simp only [Option.some.injEq, Prod.mk.injEq] at H
       obtain ⟨rfl, rfl⟩ := H
       have p507 : 0 ≤ (x9_1 : Int) := oA
       have q507 : x9_1 < (l0.length : Int) := oA
       obtain ⟨ad507, A507_0, c507_0, e507, hx507_0, hl507_0, hi507_0⟩ := at_L2 HR0.out x9_1 p507 q507
       cases e507
       have HR507_0 := Aside0.mk hi507_0
       have HC507_0 := Aside0.mk hl507_0
       clear hi507_0 hl507_0
       replace p507 := eq_true p507
       replace q507 := eq_true q507
       go_wp2_with (first | (go_at_call 85;(with_reducible refine (slices_Compare_int_int.calls k1 _ _ (rd_L2 l0 x9_1) _ _ l1 t508 _ ?side1 ?side2 ?side3 ?side4 A12.out).mono ?_);(case side1 => exact cP HR507_0.out);(case side2 => exact HC507_0.out);(case side3 => exact cP HR1.out);(case side4 => exact HC1.out);rintro e w' ⟨rfl, ⟨nd, rfl⟩⟩))
       go_ret2
       exact ⟨by first | rfl | (simp;done) | (simp [*];done), by repeat (first | exact Drawn0.refl _ | apply Drawn0.step)⟩
      ·rw [if_neg c11] at H
       exact absurd H (by simp)
     ·rw [if_neg c10] at H
      exact absurd H (by simp)
    ·rw [if_neg c9] at H
     have c9b0 : decide (x9_1 < (l0.length : Int)) = false := decide_eq_false c9
     clear c9
     simp only [Option.some.injEq, Prod.mk.injEq] at H
     obtain ⟨rfl, rfl⟩ := H
     go_wp2
     go_ret2
     exact ⟨by first | rfl | (simp;done) | (simp [*];done), by repeat (first | exact Drawn0.refl _ | apply Drawn0.step)⟩


/-! ### impl_valPlace: by hand -/
def impl_valPlace.f (k : Nat) (_n : Int) (s _m : List (List Int)) (l : List Int) : Option Int := (slices_BinarySearchFunc_int_int_int.f k s l).bind fun r => some r.1
theorem impl_valPlace.mono : ∀ a0 a1 a2 a3 k, LeO (impl_valPlace.f k a0 a1 a2 a3) (impl_valPlace.f (k + 1) a0 a1 a2 a3) := by
 intro a0 a1 a2 a3 k
 unfold impl_valPlace.f
 exact LeO.bind (slices_BinarySearchFunc_int_int_int.mono _ _ _) (fun r => LeO.refl _)
set_option maxHeartbeats 1600000 in
set_option maxRecDepth 100000 in
theorem impl_valPlace.calls (gb k : Nat) (n : Int) (A1 : Option Addr) (c1 : Nat) (s : List (List Int)) (A2 : Option Addr) (c2 : Nat) (m : List (List Int)) (A : Option Addr) (c : Nat) (l : List Int) (r : Int) (w : World) (hr1 : Kd.C (Kd.slice 3 (Kd.int .i64)) w A1 s.length s) (hc1 : s.length ≤ c1) (_hr2 : Kd.C (Kd.slice 3 (Kd.int .i64)) w A2 m.length m) (_hc2 : m.length ≤ c2) (hr : Kd.C (Kd.int .i64) w A l.length l) (hc : l.length ≤ c) (h : impl_valPlace.f k n s m l = some r) (hbx : w.heap[gb]? = some (.cells #[.int .i64 n, .slice A1 s.length c1, .slice A2 m.length c2] 89 (0, 0))) :
  Calls Tryd.prog 75 #[.pointer (some ⟨gb, 0, none⟩), .slice A l.length c] w fun e w' => e = .returned (.int .i64 r) ∧ Below w.heap.size w w' := by
 have hu := Tryd.underlying89
 unfold impl_valPlace.f at h
 obtain ⟨⟨r1, r2⟩, h1, h2⟩ := Option.bind_eq_some_iff.1 h
 obtain rfl := Option.some.inj h2
 have hcz : w.cell? ⟨gb, 1, none⟩ = some (.slice A1 s.length c1) := (blk_cell hbx 1).trans rfl
 have hfz := blk_frozen hbx 1
 have A5 := Aside0.mk h1
 have HR1 := Aside0.mk hr1
 have HR := Aside0.mk hr
 have HC1 := Aside0.mk hc1
 have HC := Aside0.mk hc
 clear h h1 h2 hbx hr1 hr hc1 hc
 go_enter Tryd.func75, Tryd.ntmps75
 go_wp2_with (first
  | (go_at_call 116;(with_reducible refine (slices_BinarySearchFunc_int_int_int.calls k _ _ s _ _ l r1 r2 _ ?side1 ?side2 ?side3 ?side4 A5.out).mono ?_);(case side1 => exact cP HR1.out);(case side2 => exact HC1.out);(case side3 => exact cP HR.out);(case side4 => exact HC.out);rintro e w' ⟨rfl, ⟨nd, rfl⟩⟩))
 go_ret
 exact ⟨rfl, by repeat (first | exact Below.refl _ _ | apply pw_below_drewN)⟩

/-! ### impl_valAnswers: by hand -/
def impl_valAnswers.f (n : Int) (s m : List (List Int)) (a b : Int) : Option (List Int) := (impl_guardGame_answers.f n s m a b).bind fun r => some r.1
theorem impl_valAnswers.calls (gb : Nat) (n : Int) (A1 : Option Addr) (c1 : Nat) (s : List (List Int)) (A2 : Option Addr) (c2 : Nat) (m : List (List Int)) (a b : Int) (r : List Int) (w : World) (hr1 : Kd.C (Kd.slice 3 (Kd.int .i64)) w A1 s.length s) (_hc1 : s.length ≤ c1) (hr2 : Kd.C (Kd.slice 3 (Kd.int .i64)) w A2 m.length m) (_hc2 : m.length ≤ c2) (h : impl_valAnswers.f n s m a b = some r) (hbx : w.heap[gb]? = some (.cells #[.int .i64 n, .slice A1 s.length c1, .slice A2 m.length c2] 89 (0, 0))) :
  Calls Tryd.prog 74 #[.pointer (some ⟨gb, 0, none⟩), .int .i64 a, .int .i64 b] w fun e w' => ∃ v0_ : Value, e = .returned v0_ ∧ Kd.R (Kd.int .i64) 3 w' w.heap.size (fun _ => True) v0_ r ∧ Below w.heap.size w w' := by
 unfold impl_valAnswers.f at h
 obtain ⟨⟨r1, r2⟩, h1, h2⟩ := Option.bind_eq_some_iff.1 h
 obtain rfl := Option.some.inj h2
 refine (impl_guardGame_answers.calls gb n s m a b r1 r2 w w ⟨A1, c1, A2, c2, hbx, trivial, hr1, hr2⟩ (Below.refl _ _) h1).mono ?_
 rintro e w' ⟨v, rfl, hR, _, hB, _⟩
 exact ⟨v, rfl, hR, hB⟩

end Go.Proofs.YthbjajppdomhhaaDoor.QGuardAnswers
