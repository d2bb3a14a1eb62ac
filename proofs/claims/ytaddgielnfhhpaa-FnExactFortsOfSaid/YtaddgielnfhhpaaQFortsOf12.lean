import Derived.Test.YtaddgielnfhhpaaQFortsOf0
import Derived.Test.YtaddgielnfhhpaaQFortsOf11
import Derived.RunT
import Derived.Calls
import Derived.Laws.World
import Derived.Shelf.SlSortCmp.Whole1
import Derived.Sort.LotA
import Derived.Lib.SortBridge
import Derived.Ground.SlsfProg
namespace Go.Proofs.Ytaddgielnfhhpaa.QFortsOf
open Go.RowKit Go.Proofs.YtaddgielnfhhpaaW.PrintWords Go.Proofs.YtaddgielnfhhpaaW.PrintLast Go.Proofs.YtaddgielnfhhpaaW.PrintMore
attribute [local go_sem] max2_int min2_int max_two min_two max_three min_three max_four min_four   -- for this text's walks alone
set_option linter.unusedVariables false
set_option linter.unusedSimpArgs false
/-! ### impl_net_setsInOrder: function 56 -/
/-! #### draws are never taken back -/
namespace Drawn
def Rw {α : Type} : Result α → World | .ok _ w => w | .halt _ w => w
theorem ask_le {α : Type} (a : Ask α) : ∀ w : World, w.drawn ≤ (w.ask a).2.drawn := by
 induction a with
 | done a => intro w;simp [World.ask]
 | ask what range k ih =>
  intro w
  simp only [World.ask]
  split
  ·exact ih _ _
  ·exact Nat.le_trans (Nat.le_succ _) (ih _ { w with drawn := w.drawn + 1 })
theorem sys_le (w : World) (c : Sys) : w.drawn ≤ (w.sys c).2.drawn := by
 unfold World.sys
 have h := ask_le (Kernel.perform c w.os) w
 revert h
 generalize w.ask (Kernel.perform c w.os) = r
 intro h
 split <;> first | exact Nat.le_refl _ | exact h
theorem farStore_eq (p : Program) (w w' : World) (a : Addr) (v : Value) (b : Bool) (l : List Addr) (h : w.farStore p a v b = .ok (w', l)) : w'.drawn = w.drawn := by
 unfold World.farStore at h
 split at h
 ·split at h
  ·rename_i r hr
   injection h with h
   subst h
   unfold World.viewStore at hr
   simp only [bind, Except.bind, pure, Except.pure, throw, throwThe, MonadExceptOf.throw] at hr
   repeat' first
    | (simp at hr;done)
    | (simp only [Except.ok.injEq, Prod.mk.injEq] at hr;obtain ⟨rfl, _⟩ := hr;rfl)
    | split at hr
  ·simp at h
 ·simp at h
theorem run_le {α : Type} (p : Program) (e : Sem α) : ∀ w : World, w.drawn ≤ (Rw (e.run p w)).drawn := by
 induction e with
 | pure a => intro w;exact Nat.le_refl _
 | load m a k ih =>
  intro w
  simp only [Sem.run]
  repeat' first
   | exact ih _ _
   | exact Nat.le_refl _
   | split
 | store m a v k ih =>
  intro w
  cases v <;> simp only [Sem.run] <;> (repeat' first
   | exact Nat.le_refl _
   | exact Nat.le_trans (Nat.le_of_eq (World.drawn_setCell ..).symm) (ih (w.setCell a _))
   | (rename_i hf;have := farStore_eq _ _ _ _ _ _ _ hf;have := ih;omega)
   | (rename_i w1 _ hf;have h1 := farStore_eq _ _ _ _ _ _ _ hf;have h2 := ih w1;omega)
   | split)
 | new o k ih => intro w;exact ih _ { w with heap := w.heap.push o }
 | shape r k ih => intro w;exact ih _ w
 | freeze a n k ih =>
  intro w
  have h := ih (w.freeze a n)
  have e : (w.freeze a n).drawn = w.drawn := by unfold World.freeze;split <;> rfl
  rw [e] at h
  exact h
 | frozen a k ih => intro w;exact ih _ w
 | getObj r k ih =>
  intro w
  simp only [Sem.run]
  split
  ·exact Nat.le_refl _
  ·exact ih _ _
  ·exact Nat.le_refl _
 | setObj r o k ih =>
  intro w
  simp only [Sem.run]
  split
  ·exact Nat.le_refl _
  ·exact ih { w with heap := w.heap.setIfInBounds r o }
  ·exact Nat.le_refl _
 | choose q k ih =>
  intro w
  simp only [Sem.run]
  split
  ·exact ih _ w
  ·exact Nat.le_trans (Nat.le_succ _) (ih _ { w with drawn := w.drawn + 1 })
 | sys c k ih => intro w;exact Nat.le_trans (sys_le w c) (ih _ _)
 | program k ih => intro w;exact ih _ w
 | mark m k ih => intro w;exact ih w
 | halt h => intro w;exact Nat.le_refl _
theorem ok_le {α : Type} {p : Program} {e : Sem α} {w w' : World} {a : α} (h : e.run p w = .ok a w') : w.drawn ≤ w'.drawn := by
 have := run_le p e w;rw [h] at this;exact this
theorem halt_le {α : Type} {p : Program} {e : Sem α} {w w' : World} {a : Halt} (h : e.run p w = .halt a w') : w.drawn ≤ w'.drawn := by
 have := run_le p e w;rw [h] at this;exact this
theorem ok_le' {α : Type} {p : Program} {e : Sem α} {w w' : World} {a : α} {n : Nat} (h : e.run p w = .ok a w') (hn : w'.drawn ≤ n) : w.drawn ≤ n := Nat.le_trans (ok_le h) hn
theorem halt_le' {α : Type} {p : Program} {e : Sem α} {w w' : World} {a : Halt} {n : Nat} (h : e.run p w = .halt a w') (hn : w'.drawn ≤ n) : w.drawn ≤ n := Nat.le_trans (halt_le h) hn
def gw : GStep → World
 | .go _ w _ => w
 | .comm _ _ _ _ w _ => w
 | .spawn _ _ w _ => w
 | .count _ w _ => w
 | .timer _ _ w _ => w
 | .alone _ _ w _ => w
 | .newcoro _ _ _ w _ => w
 | .coroswitch _ _ _ w _ => w
 | .collect _ w _ => w
 | .watch _ w _ => w
 | .ended _ w _ => w
theorem gw_after (es : Array Event) (g : GStep) : gw (GStep.after es g) = gw g := by cases g <;> rfl
theorem doReturn_gw (p : Program) (main : Bool) (fr : Frame) (cs : List Frame) (dy : Option Dying) (v : Value) (w : World) : gw (doReturn p main fr cs dy v w) = w := by
 unfold doReturn
 simp only []
 repeat' first
  | rfl
  | split
theorem endThrow_gw (fr : Frame) (m : String) (w : World) : gw (endThrow fr m w) = w := rfl
theorem dieOf_gw (fr : Frame) (l : List ByteArray) (m : String) (b : Bool) (w : World) : gw (dieOf fr l m b w) = w := rfl
theorem endPrinting_gw (p : Program) (fr : Frame) (v : Value) (w : World) : gw (endPrinting p fr v w) = w := by
 unfold endPrinting
 simp only []
 split <;> rfl
theorem endFatal_le (p : Program) (fr : Frame) (cs : List Frame) (dy : Option Dying) (m : String) (w : World) : w.drawn ≤ (gw (endFatal p fr cs dy m w)).drawn := by
 unfold endFatal
 simp only []
 split
 ·rename_i h;rw [dieOf_gw];exact ok_le h
 ·rename_i h;exact halt_le h
 ·rename_i h;exact halt_le h
theorem endWith_le (w : World) (fd : Nat) (t : ByteArray) (o : Outcome) : w.drawn ≤ (gw (endWith w fd t o)).drawn := by
 unfold endWith
 simp only []
 have h := sys_le w (.write fd t)
 revert h
 generalize w.sys (.write fd t) = r
 intro h
 split
 ·split <;> exact h
 ·exact h
 ·exact h
theorem writeOn_le (p : Program) (fr : Frame) (d : Dying) (f : Fatal) (w : World) : w.drawn ≤ (gw (writeOn p fr d f w)).drawn := by
 unfold writeOn
 simp only []
 split
 ·exact Nat.le_refl _
 ·split
  all_goals (rename_i h;have h := congrArg Prod.fst h;rw [Sem.runT_fst] at h;first | exact ok_le h | exact halt_le h)
theorem die_le (p : Program) (fr : Frame) (d : Dying) (w : World) : w.drawn ≤ (gw (die p fr d w)).drawn := by
 unfold die
 split
 ·exact writeOn_le _ _ _ _ _
 ·split
  ·split
   ·exact Nat.le_refl _
   ·exact endWith_le _ _ _ _
  ·simp only []
   split
   ·exact Nat.le_refl _
   ·split
    ·rename_i h;exact ok_le h
    ·rename_i h;exact halt_le h
   ·rename_i t recv name _
    have h := run_le p (invoke (.fn (.method name) #[]) #[.iface t recv]) w
    rw [← Sem.runT_fst p _ w #[]] at h
    revert h
    generalize (invoke (.fn (.method name) #[]) #[.iface t recv]).runT p w #[] = r
    obtain ⟨r, es⟩ := r
    intro h
    simp only [gw_after]
    split <;> first | exact h | exact Nat.le_refl _ | (rw [endPrinting_gw];exact h)
   ·exact Nat.le_refl _
theorem gite_le {c : Prop} [Decidable c] {a b : GStep} {n : Nat} (ha : n ≤ (gw a).drawn) (hb : n ≤ (gw b).drawn) : n ≤ (gw (if c then a else b)).drawn := by
 split
 ·exact ha
 ·exact hb
theorem callDeferred_le (p : Program) (fr : Frame) (cs : List Frame) (dy : Option Dying) (d : Deferred) (w : World) : w.drawn ≤ (gw (callDeferred p fr cs dy d w)).drawn := by
 unfold callDeferred
 refine gite_le (Nat.le_refl _) ?_
 ·have h := run_le p (invoke d.target d.args) w
  rw [← Sem.runT_fst p _ w #[]] at h
  revert h
  generalize (invoke d.target d.args).runT p w #[] = r
  obtain ⟨r, es⟩ := r
  intro h
  simp only [gw_after]
  repeat' first
   | exact h
   | (refine Nat.le_trans h ?_;exact endFatal_le _ _ _ _ _ _)
   | split
theorem unwind_le (p : Program) (main : Bool) (fr : Frame) (cs : List Frame) (dy : Option Dying) (w : World) : w.drawn ≤ (gw (unwind p main fr cs dy w)).drawn := by
 unfold unwind
 split
 ·rename_i block _ _ _
  have h := run_le p (Instr.takeDeferred block) w
  rw [← Sem.runT_fst p _ w #[]] at h
  revert h
  generalize (Instr.takeDeferred block).runT p w #[] = r
  obtain ⟨r, es⟩ := r
  intro h
  simp only [gw_after]
  split <;> exact h
 ·exact callDeferred_le _ _ _ _ _ _
 ·split
  ·exact Nat.le_refl _
  ·split
   ·exact Nat.le_refl _
   ·split
    ·exact Nat.le_refl _
    ·split
     ·split
      ·exact Nat.le_refl _
      ·split
       ·rename_i h;exact ok_le h
       ·rename_i h;exact halt_le h
       ·rename_i h;exact halt_le h
     ·split
      ·rw [endPrinting_gw];exact Nat.le_refl _
      ·exact Nat.le_refl _
  ·split
   ·rw [doReturn_gw];exact Nat.le_refl _
   ·rename_i fn _
    have h := run_le p (results fn fr.tmps) w
    rw [← Sem.runT_fst p _ w #[]] at h
    revert h
    generalize (results fn fr.tmps).runT p w #[] = r
    obtain ⟨r, es⟩ := r
    intro h
    simp only [gw_after]
    split <;> first | exact h | (rw [doReturn_gw];exact h)
theorem early_le (p : Program) (fr : Frame) (cs : List Frame) (dy : Option Dying) (g : Nat) (w : World) : w.drawn ≤ (gw (early p fr cs dy g w)).drawn := by
 unfold early
 simp only []
 repeat' first
  | exact Nat.le_refl _
  | (rename_i h;exact ok_le h)
  | (rename_i h;exact halt_le h)
  | (rename_i h _;exact ok_le h)
  | (rename_i h _ _;exact ok_le h)
  | (rename_i h _ _ _;exact ok_le h)
  | (rename_i h _ _ _ _;exact (ok_le h : w.drawn ≤ _))
  | split
theorem apply_le (p : Program) (b : Bool) (fr : Frame) (cs : List Frame) (dy : Option Dying) (s : Sem Next) (w : World) : w.drawn ≤ (gw (stepG.apply p b fr cs dy s w)).drawn := by
 unfold stepG.apply
 simp only []
 have h : w.drawn ≤ (Rw (if b = true then s.runT p w #[] else (s.run p w, #[])).1).drawn := by
  split
  ·rw [Sem.runT_fst];exact run_le p s w
  ·exact run_le p s w
 revert h
 generalize (if b = true then s.runT p w #[] else (s.run p w, #[])) = r
 obtain ⟨r, es⟩ := r
 intro h
 simp only [gw_after]
 repeat' first
  | exact h
  | (refine Nat.le_trans h ?_;exact endFatal_le _ _ _ _ _ _)
  | (refine Nat.le_trans h ?_;exact early_le _ _ _ _ _ _)
  | split
theorem oper_le (p : Program) (b : Bool) (fr : Frame) (cs : List Frame) (dy : Option Dying) (w : World) : w.drawn ≤ (gw (stepG.oper p b fr cs dy w)).drawn := by
 unfold stepG.oper
 split
 ·exact Nat.le_refl _
 ·split <;> exact apply_le _ _ _ _ _ _ _
theorem elim_le {α : Type} (o : Option α) (w : World) (a : GStep) (f : α → GStep) (h0 : w.drawn ≤ (gw a).drawn) (h : ∀ x, w.drawn ≤ (gw (f x)).drawn) : w.drawn ≤ (gw (o.elim a f)).drawn := by
 cases o
 ·exact h0
 ·exact h _
theorem rt_ok {α : Type} {p : Program} {e : Sem α} {w w' : World} {a : α} {es : Array Event} (h : (e.runT p w es).1 = .ok a w') : w.drawn ≤ w'.drawn := by
 rw [Sem.runT_fst] at h;exact ok_le h
theorem rt_halt {α : Type} {p : Program} {e : Sem α} {w w' : World} {a : Halt} {es : Array Event} (h : (e.runT p w es).1 = .halt a w') : w.drawn ≤ w'.drawn := by
 rw [Sem.runT_fst] at h;exact halt_le h
set_option maxHeartbeats 4000000 in
theorem exec_le (p : Program) (main b : Bool) (fr : Frame) (cs : List Frame) (dy : Option Dying) (w : World) : w.drawn ≤ (gw (stepG.exec p main b fr cs dy w)).drawn := by
 unfold stepG.exec
 repeat' first
  | exact Nat.le_refl _
  | exact apply_le _ _ _ _ _ _ _
  | exact oper_le _ _ _ _ _ _
  | rw [gw_after]
  | rw [doReturn_gw]
  | (rename_i h;exact ok_le h)
  | (rename_i h;exact halt_le h)
  | (rename_i h;exact rt_ok h)
  | (rename_i h;exact rt_halt h)
  | (rename_i h _ _;exact rt_halt h)
  | (rename_i h;exact Nat.le_trans (rt_ok h) (apply_le _ _ _ _ _ _ _))
  | refine elim_le _ _ _ _ ?_ fun _ => Nat.le_refl _
  | refine elim_le _ _ _ _ ?_ fun _ => apply_le _ _ _ _ _ _ _
  | split
theorem stepG_le (p : Program) (main b : Bool) (g : Goroutine) (w : World) : w.drawn ≤ (gw (stepG p main g w b)).drawn := by
 obtain ⟨fr, callers, status, dying, offers⟩ := g
 simp only [stepG]
 split
 ·exact die_le _ _ _ _
 ·exact exec_le _ _ _ _ _ _ _
 ·exact unwind_le _ _ _ _ _ _
theorem communicate_le (p : Program) (rest : Rest) (gs : Array Goroutine) (i : Nat) (g : Goroutine) (cases : Array CommCase) (blocking : Bool)
  (shape : CommShape) (w : World) (m' : Machine) (h : (communicate p rest gs i g cases blocking shape w).1 = .next m') : w.drawn ≤ m'.world.drawn := by
 unfold communicate at h
 simp only [] at h
 have hwt : ∀ w', waitingAt rest cases w = some w' → w'.drawn = w.drawn := by
  intro w' hw
  unfold waitingAt at hw
  repeat' first
   | (simp at hw;done)
   | (simp only [Option.some.injEq] at hw;subst hw;rfl)
   | split at hw
 repeat' first
  | (simp at h;done)
  | (simp only [Stepped.next.injEq] at h;subst h;exact Nat.le_refl _)
  | (simp only [Stepped.next.injEq] at h;subst h;rename_i hw;exact Nat.le_of_eq (hwt _ hw).symm)
  | split at h
 all_goals (simp only [Stepped.next.injEq] at h;subst h)
 all_goals
  refine ok_le' (by assumption) ?_
  first
  | exact Nat.le_refl _
  | (refine ok_le' (by assumption) ?_;exact Nat.le_refl _)
  | (refine halt_le' (by assumption) ?_;exact Nat.le_refl _)
theorem look_le (p : Program) (gs : Array Goroutine) (rest : Rest) (w : World) (m' : Machine) (h : look p gs rest w = .next m') : w.drawn ≤ m'.world.drawn := by
 unfold look at h
 simp only [] at h
 repeat' first
  | (simp at h;done)
  | (simp only [Stepped.next.injEq] at h;subst h;rename_i hr;exact (ok_le hr : w.drawn ≤ _))
  | split at h
theorem timerOp_eq (m : Machine) (op : TimerOp) (v : Value) (m' : Machine) (h : timerOp m op = .ok (v, m')) : m'.world.drawn = m.world.drawn := by
 have hret : ∀ (m : Machine) k t a b, (retime m k t a b).2.world.drawn = m.world.drawn := by
  intro m k t a b
  unfold retime drain
  simp only [Machine.withTimers]
  repeat' first
   | rfl
   | split
 have hnm : ∀ (m : Machine) (var : Addr) (f : Nat → Timer → Value × Machine) (v : Value) (m' : Machine), timerOp.named m var f = .ok (v, m') → (∀ k t, (f k t).2.world.drawn = m.world.drawn) → m'.world.drawn = m.world.drawn := by
  intro m var f v m' h hf
  unfold timerOp.named at h
  split at h
  ·injection h with h
   rename_i k _
   have := hf k (m.rest.timers.getD k default)
   rw [h] at this
   exact this
  ·simp at h
 unfold timerOp at h
 split at h
 ·split at h
  ·simp only [Except.ok.injEq, Prod.mk.injEq] at h;rw [← h.2];rfl
  ·repeat' first
    | (simp at h;done)
    | (simp only [Except.ok.injEq, Prod.mk.injEq] at h;rw [← h.2];done)
    | split at h
 ·exact hnm _ _ _ _ _ h fun k t => hret _ _ _ _ _
 ·split at h
  ·rename_i m1 ho
   have : m1.world.drawn = m.world.drawn := by
    unfold timerOp.opened at ho
    repeat' first
     | (simp at ho;done)
     | (simp only [Option.some.injEq] at ho;subst ho;rfl)
     | split at ho
   exact (hnm _ _ _ _ _ h fun k t => by rw [hret, this])
  ·simp at h
 ·simp only [Except.ok.injEq, Prod.mk.injEq] at h;rw [← h.2];rfl
theorem runT_le (p : Program) (m m' : Machine) (i : Nat) (b : Bool) (h : (runT p m i b).1 = .next m') : m.world.drawn ≤ m'.world.drawn := by
  simp only [runT] at h
  have hs := stepG_le p (i == 0) b (m.gs.swapAt! i { (default : Goroutine) with status := .finished }).1 m.world
  revert hs h
  generalize m.gs.swapAt! _ _ = gg
  generalize stepG p _ gg.1 m.world b = s
  intro h hs
  cases s <;> simp only [] at h
  all_goals first
    | (simp at h; done)
    | (exact Nat.le_trans hs (communicate_le _ _ _ _ _ _ _ _ _ _ h))
    | (exact Nat.le_trans hs (look_le _ _ _ _ _ h))
    | (simp only [Stepped.next.injEq] at h; subst h; exact hs)
    | (rename_i op w _; unfold endThrow dieOf at h; simp only [] at h; split at h
       · rename_i ht; simp only [Stepped.next.injEq] at h; subst h; exact Nat.le_trans hs (Nat.le_of_eq (timerOp_eq _ _ _ _ ht).symm)
       · simp only [Stepped.next.injEq] at h; subst h; exact hs
       · simp at h
       · simp at h)
    | ((try unfold endThrow dieOf at h)
       repeat' first
        | (simp at h; done)
        | (simp only [Stepped.next.injEq] at h; subst h; exact hs)
        | split at h)
theorem serve_le (p : Program) (m m' : Machine) (k : Nat) (h : serve p m k = .next m') : m.world.drawn ≤ m'.world.drawn := by
 unfold serve at h
 simp only [] at h
 repeat' first
  | (simp at h;done)
  | (simp only [Stepped.next.injEq] at h;subst h;exact Nat.le_refl _)
  | split at h
def mw : Move → World
 | .goroutine m _ => m.world
 | .machine (.next m) _ => m.world
 | .machine (.ended _ w) _ => w
theorem ok_os {α : Type} {p : Program} {e : Sem α} {w w' : World} {o : Os} {a : α} {n : Nat} (h : e.run p { w with os := o } = .ok a w') (hn : w'.drawn ≤ n) : w.drawn ≤ n := Nat.le_trans (show ({ w with os := o } : World).drawn ≤ w'.drawn from ok_le h) hn
theorem askOn_g (p : Program) (m m' : Machine) (i : Nat) (h : askOn p m = .goroutine m' i) : m.world.drawn ≤ m'.world.drawn := by
  unfold askOn at h
  simp only [Machine.advanceTo] at h
  repeat' first
    | (simp at h; done)
    | (simp only [Move.goroutine.injEq] at h; obtain ⟨hm, hi⟩ := h; rw [← hm]
       first
       | (refine ok_le' (by assumption) ?_; exact Nat.le_refl _)
       | (refine ok_le' (by assumption) ?_; refine ok_le' (by assumption) ?_; exact Nat.le_refl _)
       | (refine ok_le' (by assumption) ?_; refine ok_le' (by assumption) ?_; refine ok_le' (by assumption) ?_; exact Nat.le_refl _)
       | (refine ok_le' (by assumption) ?_; refine ok_le' (by assumption) ?_; refine ok_le' (by assumption) ?_; refine ok_le' (by assumption) ?_; exact Nat.le_refl _)
       | (refine ok_le' (by assumption) ?_; refine ok_le' (by assumption) ?_; refine ok_os (by assumption) ?_; exact Nat.le_refl _)
       | (refine ok_le' (by assumption) ?_; refine ok_le' (by assumption) ?_; refine ok_os (by assumption) ?_; refine ok_le' (by assumption) ?_; exact Nat.le_refl _))
    | split at h
theorem askOn_m (p : Program) (m m' : Machine) (ops : Array MemOp) (h : askOn p m = .machine (.next m') ops) : m.world.drawn ≤ m'.world.drawn := by
  unfold askOn at h
  simp only [Machine.advanceTo] at h
  repeat' first
    | (simp at h; done)
    | (simp only [Move.machine.injEq] at h; refine ok_le' (by assumption) ?_; exact (serve_le _ _ _ _ h.1))
    | (simp only [Move.machine.injEq, Stepped.next.injEq] at h; obtain ⟨h, _⟩ := h; rw [← h]
       first
       | (refine ok_le' (by assumption) ?_; exact Nat.le_refl _)
       | (refine ok_le' (by assumption) ?_; refine ok_le' (by assumption) ?_; exact Nat.le_refl _)
       | (refine ok_le' (by assumption) ?_; refine ok_le' (by assumption) ?_; refine ok_le' (by assumption) ?_; exact Nat.le_refl _))
    | split at h
theorem ask_cases (p : Program) (m : Machine) : (∃ m₂ : Machine, m.world.drawn ≤ m₂.world.drawn ∧ ask p m = askOn p m₂) ∨ (∃ o w, ask p m = .machine (.ended o w) #[]) := by
 unfold ask
 by_cases hw : m.rest.watch = true
 ·rw [if_pos hw]
  cases hc : (choose (.extern "collector.look" 2)).run p m.world with
  | halt h w => exact .inr ⟨_, _, rfl⟩
  | ok k world =>
   have h0 := ok_le hc
   rcases k with _ | _ | k
   ·exact .inl ⟨{ m with world }, h0, rfl⟩
   ·simp only []
    cases hl : look p m.gs m.rest world with
    | next m₂ => exact .inl ⟨m₂, Nat.le_trans h0 (look_le _ _ _ _ _ hl), by simp [hl]⟩
    | ended o w => exact .inr ⟨o, w, by simp [hl]⟩
   ·exact .inl ⟨{ m with world }, h0, rfl⟩
 ·rw [if_neg hw]
  exact .inl ⟨m, Nat.le_refl _, rfl⟩
theorem ask_g (p : Program) (m m' : Machine) (i : Nat) (h : ask p m = .goroutine m' i) : m.world.drawn ≤ m'.world.drawn := by
 rcases ask_cases p m with ⟨m₂, hs, he⟩ | ⟨o, w, he⟩
 ·rw [he] at h;exact Nat.le_trans hs (askOn_g p m₂ m' i h)
 ·rw [he] at h;cases h
theorem ask_m (p : Program) (m m' : Machine) (ops : Array MemOp) (h : ask p m = .machine (.next m') ops) : m.world.drawn ≤ m'.world.drawn := by
 rcases ask_cases p m with ⟨m₂, hs, he⟩ | ⟨o, w, he⟩
 ·rw [he] at h;exact Nat.le_trans hs (askOn_m p m₂ m' ops h)
 ·rw [he] at h;cases h
theorem move_g (p : Program) (m m' : Machine) (i : Nat) (h : move p m = .goroutine m' i) : m.world.drawn ≤ m'.world.drawn := by
 unfold move at h
 repeat' first
  | (simp at h;done)
  | exact ask_g p _ m' i h
  | exact (show m.world.drawn ≤ m'.world.drawn from ask_g p { m with rest := { m.rest with slice := none } } m' i h)
  | (simp only [Move.goroutine.injEq] at h;rw [← h.1];exact Nat.le_refl _)
  | split at h
theorem move_m (p : Program) (m m' : Machine) (ops : Array MemOp) (h : move p m = .machine (.next m') ops) : m.world.drawn ≤ m'.world.drawn := by
 unfold move at h
 repeat' first
  | (simp at h;done)
  | exact ask_m p _ m' ops h
  | exact (show m.world.drawn ≤ m'.world.drawn from ask_m p { m with rest := { m.rest with slice := none } } m' ops h)
  | split at h
theorem step_le (p : Program) (m m' : Machine) (h : step p m = .next m') : m.world.drawn ≤ m'.world.drawn := by
 unfold step stepT at h
 split at h
 ·rename_i m1 i hm
  exact Nat.le_trans (move_g p m m1 i hm) (runT_le p m1 m' i true h)
 ·rename_i s ops hm
  simp only [] at h
  subst h
  exact move_m p m m' ops hm
theorem runN_le (p : Program) (n : Nat) (m m' : Machine) (h : runN p n m = .next m') : m.world.drawn ≤ m'.world.drawn := by
 induction n generalizing m with
 | zero => simp only [runN, Stepped.next.injEq] at h;rw [h];exact Nat.le_refl _
 | succ n ih =>
  simp only [runN] at h
  split at h
  ·rename_i m1 hm
   exact Nat.le_trans (step_le p m m1 hm) (ih m1 h)
  ·rename_i hm
   exact absurd h (hm _)
/-- A call that hands back an answer never takes a draw back. -/
theorem calls_drawn {P : Program} {f : FuncId} {args : Array Value} {w : World} {R : Ending → World → Prop} {v : Value} (h : Calls P f args w R) (hr : ∀ e w', R e w' → e = .returned v) :
  Calls P f args w fun e w' => R e w' ∧ w.drawn ≤ w'.drawn := by
 intro cs
 obtain ⟨e, w', fr, hR, hc, hf, hl⟩ := h cs
 refine ⟨e, w', fr, ⟨hR, ?_⟩, hc, hf, hl⟩
 obtain rfl := hr e w' hR
 obtain ⟨n, hn⟩ := hc
 exact runN_le P n _ _ hn
end Drawn

/-! #### slices.SortFunc at this program -/
section
open Go.Shelf
def Try.sortL_ren : Go.Shelf.Ren := ⟨fun | 6 => 96 | 15 => 114 | 14 => 113 | 28 => 124 | 29 => 125 | 20 => 116 | 21 => 117 | 22 => 118 | 23 => 119 | 24 => 120 | 25 => 121 | 26 => 122 | 27 => 123 | 46 => 126 | 47 => 127 | 48 => 128 | 49 => 129 | 50 => 130 | 57 => 131 | n => n, fun | 22 => 25 | 24 => 3 | 25 => 83 | 3 => 3 | 39 => 102 | 0 => 0 | 53 => 113 | 55 => 115 | 4 => 4 | 46 => 119 | 45 => 118 | 50 => 27 | 5 => 5 | 9 => 9 | 66 => 124 | 70 => 128 | 76 => 130 | 77 => 131 | n => n, fun | n => n⟩
theorem Try.sortL : Go.Proofs.SlLaysF.n6 Try.prog Try.sortL_ren := {
 mixed := by kernel_rfl
 f6 := ⟨Try.f96.name, by decide, Try.func96.trans (congrArg some (by kernel_rfl))⟩
 f14 := ⟨Try.f113.name, by decide, Try.func113.trans (congrArg some (by kernel_rfl))⟩
 f15 := Try.func114.trans (congrArg some (by kernel_rfl))
 f20 := ⟨Try.f116.name, by decide, Try.func116.trans (congrArg some (by kernel_rfl))⟩
 f21 := ⟨Try.f117.name, by decide, Try.func117.trans (congrArg some (by kernel_rfl))⟩
 f22 := ⟨Try.f118.name, by decide, Try.func118.trans (congrArg some (by kernel_rfl))⟩
 f23 := ⟨Try.f119.name, by decide, Try.func119.trans (congrArg some (by kernel_rfl))⟩
 f24 := ⟨Try.f120.name, by decide, Try.func120.trans (congrArg some (by kernel_rfl))⟩
 f25 := ⟨Try.f121.name, by decide, Try.func121.trans (congrArg some (by kernel_rfl))⟩
 f26 := ⟨Try.f122.name, by decide, Try.func122.trans (congrArg some (by kernel_rfl))⟩
 f27 := ⟨Try.f123.name, by decide, Try.func123.trans (congrArg some (by kernel_rfl))⟩
 f28 := Try.func124.trans (congrArg some (by kernel_rfl))
 f29 := Try.func125.trans (congrArg some (by kernel_rfl))
 f46 := ⟨Try.f126.name, by decide, Try.func126.trans (congrArg some (by kernel_rfl))⟩
 f47 := Try.func127.trans (congrArg some (by kernel_rfl))
 f48 := Try.func128.trans (congrArg some (by kernel_rfl))
 f49 := ⟨Try.f129.name, by decide, Try.func129.trans (congrArg some (by kernel_rfl))⟩
 f50 := ⟨Try.f130.name, by decide, Try.func130.trans (congrArg some (by kernel_rfl))⟩
 f57 := ⟨Try.f131.name, by decide, Try.func131.trans (congrArg some (by kernel_rfl))⟩
 t0 := Try.underlying0
 a0 := Try.isAgg0
 z0 := Try.sizeOf0
 v0 := Try.zeroValue0
 t3 := Try.underlying3
 a3 := Try.isAgg3
 z3 := Try.sizeOf3
 v3 := Try.zeroValue3
 t4 := Try.underlying4
 a4 := Try.isAgg4
 z4 := Try.sizeOf4
 v4 := Try.zeroValue4
 t5 := Try.underlying5
 a5 := Try.isAgg5
 z5 := Try.sizeOf5
 v5 := Try.zeroValue5
 t9 := Try.underlying9
 a9 := Try.isAgg9
 z9 := Try.sizeOf9
 v9 := Try.zeroValue9
 t22 := Try.underlying25
 a22 := Try.isAgg25
 z22 := Try.sizeOf25
 v22 := Try.zeroValue25
 a24 := Try.isAgg3
 z24 := Try.sizeOf3
 t25 := Try.underlying83
 a25 := Try.isAgg83
 z25 := Try.sizeOf83
 v25 := Try.zeroValue83
 t39 := Try.underlying102
 a39 := Try.isAgg102
 z39 := Try.sizeOf102
 v39 := Try.zeroValue102
 t45 := Try.underlying118
 a45 := Try.isAgg118
 z45 := Try.sizeOf118
 v45 := Try.zeroValue118
 t46 := Try.underlying119
 a46 := Try.isAgg119
 z46 := Try.sizeOf119
 v46 := Try.zeroValue119
 t50 := Try.underlying27
 a50 := Try.isAgg27
 z50 := Try.sizeOf27
 v50 := Try.zeroValue27
 t53 := Try.underlying113
 a53 := Try.isAgg113
 z53 := Try.sizeOf113
 v53 := Try.zeroValue113
 t55 := Try.underlying115
 a55 := Try.isAgg115
 z55 := Try.sizeOf115
 v55 := Try.zeroValue115
 t66 := Try.underlying124
 a66 := Try.isAgg124
 z66 := Try.sizeOf124
 v66 := Try.zeroValue124
 t70 := Try.underlying128
 a70 := Try.isAgg128
 z70 := Try.sizeOf128
 v70 := Try.zeroValue128
 t76 := Try.underlying130
 a76 := Try.isAgg130
 z76 := Try.sizeOf130
 v76 := Try.zeroValue130
 t77 := Try.underlying131
 a77 := Try.isAgg131
 z77 := Try.sizeOf131
 v77 := Try.zeroValue131 }

end
/-! #### sets of nodes in order -/
theorem grown_of_drawn {W w1 : World} (hb : Below W.heap.size W w1) (hd : W.drawn ≤ w1.drawn) : ∃ q os', w1 = Go.Sort.grow (W.drewN q) os' := by
 obtain ⟨heap, tape, drawn, os, output⟩ := w1
 refine ⟨drawn - W.drawn, heap.extract W.heap.size heap.size, ?_⟩
 have h1 := hb.os;have h2 := hb.tape;have h3 := hb.output;have h4 := hb.size;have h5 := hb.block
 simp only at h1 h2 h3 h4 h5 hd
 subst h1 h2 h3
 have e : heap = W.heap ++ heap.extract W.heap.size heap.size := by
  apply Array.ext_getElem?
  intro i
  by_cases hi : i < W.heap.size
  ·rw [h5 i hi, Array.getElem?_append_left hi]
  ·rw [Array.getElem?_append_right (by omega), Array.getElem?_extract]
   split
   ·congr 1;omega
   ·exact Array.getElem?_eq_none (by omega)
 show World.mk _ _ _ _ _ = World.mk _ _ _ _ _
 congr 1
 show drawn = W.drawn + (drawn - W.drawn)
 omega
theorem below_grow (w : World) (os : Array Obj) : Below w.heap.size w (Go.Sort.grow w os) :=
 ⟨rfl, rfl, rfl, by show w.heap.size ≤ (w.heap ++ os).size;simp, fun k hk => by show (w.heap ++ os)[k]? = _;rw [Array.getElem?_append_left hk]⟩
theorem R_setCells {base g n cap : Nat} {ok : Nat → Prop} : ∀ (ys : List Int) (i : Nat) (W : World) (xs : List Int), Kd.R (Kd.int .i64) 3 W base ok (.slice (some ⟨g, 0, none⟩) n cap) xs → i + ys.length ≤ xs.length →
  Kd.R (Kd.int .i64) 3 (W.setCells g i (ys.map (Value.int .i64))) base ok (.slice (some ⟨g, 0, none⟩) n cap) (xs.take i ++ ys ++ xs.drop (i + ys.length))
 | [], i, W, xs, h, _ => by
  have e : xs.take i ++ [] ++ xs.drop (i + ([] : List Int).length) = xs := by simp
  rw [e];exact h
 | y :: ys, i, W, xs, h, hl => by
  have h1 := Kd.R_putn h (i : Int) y
  simp only [Int.toNat_natCast] at h1
  have h2 := R_setCells ys (i + 1) _ _ h1 (by simp only [List.length_set, List.length_cons] at hl ⊢;omega)
  simp only [List.length_cons] at hl
  have e : (xs.set i y).take (i + 1) ++ ys ++ (xs.set i y).drop (i + 1 + ys.length) = xs.take i ++ (y :: ys) ++ xs.drop (i + (y :: ys).length) := by
   rw [List.drop_set_of_lt (by omega), List.take_succ_eq_append_getElem (by rw [List.length_set];omega), List.take_set_of_le (by omega)]
   simp only [List.getElem_set_self, List.length_cons, List.append_assoc, List.singleton_append]
   rw [show i + 1 + ys.length = i + (ys.length + 1) by omega]
  rw [e] at h2
  exact h2
theorem below_setCells {w : World} {g : Nat} : ∀ (vs : List Value) (i : Nat) (W : World), Below w.heap.size w W → w.heap.size ≤ g → Below w.heap.size w (W.setCells g i vs)
 | [], _, _, h, _ => h
 | v :: vs, i, W, h, hg => below_setCells vs (i + 1) _ (h.setCell (p := ⟨g, i, none⟩) hg v) hg
def f256 (x : Int) : Fin 256 := ⟨x.toNat % 256, Nat.mod_lt _ (by decide)⟩
def encF (x : Fin 256) : Value := .int .i64 (x.val : Int)
def cfS (k : Nat) (x y : Fin 256) : Int := (impl_net_setsInOrderC1.f k (x.val : Int) (y.val : Int)).getD 0
/-- The order of the sets is told for every two, and it is one. -/
structure SortOk (k : Nat) : Prop where
 told : ∀ x y : Fin 256, (impl_net_setsInOrderC1.f k (x.val : Int) (y.val : Int)).isSome = true
 irr : ∀ x, Go.Proofs.ltOf (cfS k) x x = false
 trans : ∀ x y z, Go.Proofs.ltOf (cfS k) x y = true → Go.Proofs.ltOf (cfS k) y z = true → Go.Proofs.ltOf (cfS k) x z = true
 ntrans : ∀ x y z, Go.Proofs.ltOf (cfS k) x y = false → Go.Proofs.ltOf (cfS k) y z = false → Go.Proofs.ltOf (cfS k) x z = false
 tot : ∀ x y, Go.Proofs.ltOf (cfS k) x y = false → Go.Proofs.ltOf (cfS k) y x = false → x = y
instance (k : Nat) : Decidable (SortOk k) := decidable_of_iff ((∀ x y : Fin 256, (impl_net_setsInOrderC1.f k (x.val : Int) (y.val : Int)).isSome = true) ∧ (∀ x, Go.Proofs.ltOf (cfS k) x x = false) ∧ (∀ x y z, Go.Proofs.ltOf (cfS k) x y = true → Go.Proofs.ltOf (cfS k) y z = true → Go.Proofs.ltOf (cfS k) x z = true) ∧ (∀ x y z, Go.Proofs.ltOf (cfS k) x y = false → Go.Proofs.ltOf (cfS k) y z = false → Go.Proofs.ltOf (cfS k) x z = false) ∧ (∀ x y, Go.Proofs.ltOf (cfS k) x y = false → Go.Proofs.ltOf (cfS k) y x = false → x = y))
 ⟨fun ⟨a, b, c, d, e⟩ => ⟨a, b, c, d, e⟩, fun ⟨a, b, c, d, e⟩ => ⟨a, b, c, d, e⟩⟩
def sortS (k : Nat) (l : List Int) : List Int := ((l.map f256).mergeSort fun x y => !(Go.Proofs.ltOf (cfS k)) y x).map fun x => (x.val : Int)
def finS (k : Nat) (l : List Int) : Option (List Int) := if (l ≠ [] ∧ l.length ≤ 256) ∧ (∀ x ∈ l, 0 ≤ x ∧ x < 256) ∧ SortOk k then some (sortS k l) else none
theorem finS_use {k : Nat} {l r : List Int} (h : finS k l = some r) : (l ≠ [] ∧ l.length ≤ 256) ∧ (∀ x ∈ l, 0 ≤ x ∧ x < 256) ∧ SortOk k ∧ sortS k l = r := by
 unfold finS at h
 split at h
 ·rename_i hc;exact ⟨hc.1, hc.2.1, hc.2.2, Option.some.inj h⟩
 ·cases h
theorem cfS_succ {k : Nat} (h : SortOk k) : cfS (k + 1) = cfS k := by
 funext x y
 obtain ⟨r, hr⟩ := Option.isSome_iff_exists.1 (h.told x y)
 unfold cfS
 rw [hr, impl_net_setsInOrderC1.mono _ _ k r hr]
theorem finS_mono (k : Nat) (l : List Int) : LeO (finS k l) (finS (k + 1) l) := by
 intro r h
 obtain ⟨h1, h2, h3, h4⟩ := finS_use h
 have e := cfS_succ h3
 have h5 : SortOk (k + 1) := ⟨fun x y => by obtain ⟨r, hr⟩ := Option.isSome_iff_exists.1 (h3.told x y);rw [impl_net_setsInOrderC1.mono _ _ k r hr];rfl, by rw [e];exact h3.irr, by rw [e];exact h3.trans, by rw [e];exact h3.ntrans, by rw [e];exact h3.tot⟩
 unfold finS
 rw [if_pos ⟨h1, h2, h5⟩, ← h4]
 unfold sortS
 rw [e]
theorem sort_lays (k : Nat) (W : World) (g size : Nat) (ho : SortOk k) : Go.Proofs.CmpLays1 Try.prog 97 #[] encF (cfS k) g 0 size W := by
 intro m os dk _ x y
 obtain ⟨r, hr⟩ := Option.isSome_iff_exists.1 (ho.told x y)
 have e : cfS k x y = r := by unfold cfS;rw [hr];rfl
 rw [e]
 refine (Drawn.calls_drawn (impl_net_setsInOrderC1.calls k _ _ r _ hr) (fun e w' h => h.1)).mono ?_
 rintro e w' ⟨⟨rfl, hb⟩, hd⟩
 exact ⟨rfl, grown_of_drawn hb hd⟩
theorem sort_calls (k : Nat) (W : World) (base : Nat) (ok : Nat → Prop) (g cap : Nat) (l : List Int) (hR : Kd.R (Kd.int .i64) 3 W base ok (.slice (some ⟨g, 0, none⟩) l.length cap) l) (hg : g < W.heap.size) (hne : l ≠ [] ∧ l.length ≤ 256) (hin : ∀ x ∈ l, 0 ≤ x ∧ x < 256) (ho : SortOk k) (hbg : base ≤ g) :
  Calls Try.prog 96 #[.slice (some ⟨g, 0, none⟩) l.length cap, .func (.func 97) #[] #[]] W fun e w' =>
   e = .returned (.tuple #[]) ∧ Kd.R (Kd.int .i64) 3 w' base ok (.slice (some ⟨g, 0, none⟩) l.length cap) (sortS k l) ∧ ∀ w0 : World, w0.heap.size ≤ g → Below w0.heap.size w0 W → Below w0.heap.size w0 w' := by
 have hsz : (l.map f256).toArray.size = l.length := by simp
 have hH : Go.Sort.Holds encF W g 0 (l.map f256).toArray := by
  intro j hj
  rw [hsz] at hj
  obtain ⟨h1, h2⟩ := Kd.R_celln 0 hR (j : Int) (by omega) (by omega)
  rw [Int.toNat_natCast] at h1 h2
  refine ⟨?_, by rw [Nat.zero_add];exact h2⟩
  rw [Nat.zero_add, h1]
  have hx := hin l[j] (List.getElem_mem hj)
  have e1 : rdOf 0 l (j : Int) = l[j] := by simp [rdOf, hj]
  rw [e1]
  have e2 : (l.map f256).toArray[j]! = f256 l[j] := by rw [getElem!_pos _ j (by rw [hsz];exact hj)];simp
  rw [e2]
  unfold encF f256
  simp only [Option.some.injEq, Value.int.injEq, true_and]
  omega
 have hS := Go.Proofs.Any.slices_SortFunc Try.sortL encF (fun _ => rfl) (cfS k) ⟨ho.irr, ho.trans, ho.ntrans⟩ 97 #[] g 0 cap (l.map f256).toArray W (enters_of Try.func97 (by kernel_rfl) rfl) (sort_lays k W g _ ho) hH hg (by rw [hsz];have := hne.2;omega)
 rw [hsz] at hS
 change Calls Try.prog 96 _ _ _ at hS
 refine hS.mono ?_
 rintro e w' ⟨rfl, d', n, os, hpm, hso, rfl⟩
 have hq := Go.Sort.sorted_unique_holds ⟨ho.irr, ho.trans, ho.ntrans⟩ ho.tot _ d' (by rw [hsz];exact hpm) (by rw [hsz];exact hso)
 obtain rfl : d' = ((l.map f256).mergeSort fun x y => !(Go.Proofs.ltOf (cfS k)) y x).toArray := by rw [show ((l.map f256).mergeSort fun x y => !(Go.Proofs.ltOf (cfS k)) y x) = d'.toList from hq.symm]
 clear hq hpm hso
 refine ⟨rfl, ?_⟩
 unfold Go.Proofs.sortWorld
 have hl : ((l.map f256).mergeSort fun x y => !(Go.Proofs.ltOf (cfS k)) y x).length = (l.map f256).toArray.size := by rw [List.length_mergeSort];simp
 have hw := Go.Lib.sorted_world encF W g 0 n (l.map f256).toArray ((l.map f256).mergeSort fun x y => !(Go.Proofs.ltOf (cfS k)) y x) os hH hl
 (try simp only [List.toList_toArray] at hw ⊢)
 rw [hw]
 have hm : (((l.map f256).mergeSort fun x y => !(Go.Proofs.ltOf (cfS k)) y x).map encF) = (sortS k l).map (Value.int .i64) := by
  unfold sortS encF
  rw [List.map_map]
  rfl
 rw [hm]
 have hll : (sortS k l).length = l.length := by unfold sortS;rw [List.length_map, List.length_mergeSort, List.length_map]
 refine ⟨?_, fun w0 h0 hb => ?_⟩
 ·have h1 := R_setCells (sortS k l) 0 (W.drewN n) l (Kd.R_drewN hR n) (by omega)
  simp only [List.take_zero, List.nil_append, Nat.zero_add, hll, List.drop_length, List.append_nil] at h1
  exact Kd.R_below h1 (below_grow _ _)
 ·exact (below_setCells _ 0 _ (pw_below_drewN hb n) h0).trans ⟨rfl, rfl, rfl, (below_grow _ os).size, fun k hk => (below_grow _ os).block k (Nat.lt_of_lt_of_le hk (below_setCells _ 0 _ (pw_below_drewN hb n) h0).size)⟩

def impl_net_setsInOrder.l0 : Nat → List Int → Int → Int → Option (List Int)
 | 0, _, _, _ => none
 | k + 1, x3, x10, x11 => if x11 < x10 then (if 0 ≤ x11 then (if x11 < (x3.length : Int) then (impl_net_setsInOrder.l0 k (x3.set (x11 : Int).toNat x11) x10 (wrap64 (x11 + 1))) else (none)) else (none)) else (finS k x3)
def impl_net_setsInOrder.f (k : Nat) (l0_0 : List Int) : Option (List Int) := (impl_net_all.f l0_0).bind fun t328 => (if 0 ≤ (wrap64 (t328 + 1)) then (if (wrap64 (t328 + 1) : Int).toNat ≤ 35184372088832 then ((some (List.replicate (wrap64 (t328 + 1) : Int).toNat 0 : List Int)).bind fun y329 => (impl_net_setsInOrder.l0 k y329 (y329.length : Int) 0)) else (none)) else (none))
theorem impl_net_setsInOrder.mono_l : ∀ k, (∀ y0 y1 y2, LeO (impl_net_setsInOrder.l0 k y0 y1 y2) (impl_net_setsInOrder.l0 (k + 1) y0 y1 y2))
 | 0 => fun _ _ _ r h => by simp [impl_net_setsInOrder.l0] at h
 | k + 1 => by
  have ih0 := impl_net_setsInOrder.mono_l k
  ·intro y0 y1 y2
   unfold impl_net_setsInOrder.l0
   repeat' first
   | (with_reducible exact finS_mono _ _)
   | (with_reducible exact ih0 _ _ _)
   | (with_reducible exact LeO.refl _)
   | (with_reducible exact LeO.none _)
   | (with_reducible refine LeO.ite ?_ ?_)
   | (with_reducible refine LeO.bind ?_ (fun _ => ?_))
   | exact ih0 _ _ _
   | exact LeO.none _
   | refine LeO.ite ?_ ?_
   | refine LeO.bind ?_ (fun _ => ?_)
theorem impl_net_setsInOrder.mono : ∀ a0 k, LeO (impl_net_setsInOrder.f k a0) (impl_net_setsInOrder.f (k + 1) a0) := by
 intro a0 k
 have ih0 := impl_net_setsInOrder.mono_l k
 unfold impl_net_setsInOrder.f
 repeat' first
   | (with_reducible exact ih0 _ _ _)
   | (with_reducible exact LeO.refl _)
   | (with_reducible exact LeO.none _)
   | (with_reducible refine LeO.ite ?_ ?_)
   | (with_reducible refine LeO.bind ?_ (fun _ => ?_))
   | exact ih0 _ _ _
   | exact LeO.none _
   | refine LeO.ite ?_ ?_
   | refine LeO.bind ?_ (fun _ => ?_)
set_option maxHeartbeats 8000000 in
set_option maxRecDepth 100000 in
theorem impl_net_setsInOrder.calls (k : Nat) (A0_0 : Option Addr) (c0_0 : Nat) (l0_0 : List Int) (r : List Int) (w : World) (hr0_0 : Kd.C (Kd.int .i64) w A0_0 l0_0.length l0_0) (hc0_0 : l0_0.length ≤ c0_0) (h : impl_net_setsInOrder.f k l0_0 = some r) :
  Calls Try.prog 56 #[.agg #[.slice A0_0 l0_0.length c0_0]] w fun e w' => ∃ v0_ : Value, e = .returned (v0_) ∧ Kd.R (Kd.int .i64) 3 w' w.heap.size (fun _ => True) v0_ r ∧ Below w.heap.size w w' := by
 have hu56 := Try.underlying56
 have HR0_0 := Aside0.mk hr0_0
 have HC0_0 := Aside0.mk hc0_0
 clear hr0_0 hc0_0
 have HB := Aside0.mk (Below.refl w.heap.size w)
 have H : ((impl_net_all.f l0_0).bind fun t328 => (if 0 ≤ (wrap64 (t328 + 1)) then (if (wrap64 (t328 + 1) : Int).toNat ≤ 35184372088832 then ((some (List.replicate (wrap64 (t328 + 1) : Int).toNat 0 : List Int)).bind fun y329 => (impl_net_setsInOrder.l0 k y329 (y329.length : Int) 0)) else (none)) else (none))) = some r := h
 clear h
 replace H := Option.bind_eq_some_iff.mp H
 obtain ⟨t328, A20, H⟩ := H
 replace H : (if 0 ≤ (wrap64 (t328 + 1)) then (if (wrap64 (t328 + 1) : Int).toNat ≤ 35184372088832 then ((some (List.replicate (wrap64 (t328 + 1) : Int).toNat 0 : List Int)).bind fun y329 => (impl_net_setsInOrder.l0 k y329 (y329.length : Int) 0)) else (none)) else (none)) = some r := H
 have A2 := Aside0.mk A20
 clear A20
 obtain ⟨ji3, hji3⟩ : ∃ j_ : Int, (wrap64 (t328 + 1)) = j_ := ⟨_, rfl⟩
 replace H : (if 0 ≤ (ji3) then (if (ji3 : Int).toNat ≤ 35184372088832 then ((some (List.replicate (ji3 : Int).toNat 0 : List Int)).bind fun y329 => (impl_net_setsInOrder.l0 k y329 (y329.length : Int) 0)) else (none)) else (none)) = some r := by first | (rw [hji3] at H;exact H) | (simp only [hji3] at H ⊢;exact H)
 (try rw [hji3] at A2)
 have hji3w : (IntKind.i64.wrap (t328 + 1)) = ji3 := (i64_w _).trans hji3
 by_cases c4 : 0 ≤ (ji3)
 ·rw [if_pos c4] at H
  have c4b0 := eq_true c4
  have c4b1 : decide (0 ≤ (ji3)) = true := decide_eq_true c4
  clear c4
  by_cases c5 : (ji3 : Int).toNat ≤ 35184372088832
  ·rw [if_pos c5] at H
   have c5b0 := eq_true c5
   have c5b1 : decide ((ji3 : Int).toNat ≤ 35184372088832) = true := decide_eq_true c5
   clear c5
   obtain ⟨y329, hy329⟩ : ∃ y_ : List Int, y_ = (List.replicate (ji3 : Int).toNat 0) := ⟨_, rfl⟩
   replace H : (impl_net_setsInOrder.l0 k y329 (y329.length : Int) 0) = some r := by first | (rw [hy329];with_reducible exact H) | (have H2_ := (Option.bind_some _ _).symm.trans H;rw [hy329];with_reducible exact H2_) | (have H2_ := (Option.bind_some _ _).symm.trans H;with_reducible exact H2_) | with_reducible exact H | (rw [hy329];exact H) | exact H
   have Ny329 := Aside0.mk hy329
   clear hy329
   have H' := Aside0.mk H
   clear H
   go_enter Try.func56, Try.ntmps56
   go_wp2_with (first | ((with_reducible refine gate_dst (N := 1) rfl ?_);refine box_event ?hg (N := 1) ?hd (cs := #[.slice A0_0 l0_0.length c0_0]) (t := 56) ?hr ?_;(case hd => rfl);(case hg => rfl);(case hr => first | (go_simp;done) | (go_simp;rfl));intro gb327 hg w6 hbox hb;have n0_ := Aside0.mk (below_step (by exact bB) hb);have n1_ := Aside0.mk (hbox);have n2_ := Aside0.mk ((by rw [hg];exact (below_size (by exact bB)) : w.heap.size ≤ gb327));have n3_ := Aside0.mk ((by rw [hg];exact (below_size (by exact bB)) : w.heap.size ≤ gb327));clear HB;have HB := n0_;have BK327 := n1_;have GW327 := n2_;have GE327 := n3_;clear n0_ n1_ n2_ n3_;clear hb hbox hg;have hcz7_0 : w6.cell? ⟨gb327, 0, none⟩ = some (.slice A0_0 l0_0.length c0_0) := (blk_cell BK327.out 0).trans rfl;have hfz7_0 := blk_frozen BK327.out 0) | ((with_reducible refine gate_callee (f := 78) rfl ?_);refine goesL_ (some 6) rfl rfl Try.func78 (by kernel_rfl) rfl #[.agg #[.slice A0_0 l0_0.length c0_0]] rfl mM ?_;(with_reducible refine (impl_net_all.calls _ _ l0_0 t328 _ ?side1 ?side2 A2.out).mono ?_);(case side1 => exact cP (Kd.C_below HR0_0.out HB.out));(case side2 => exact HC0_0.out);rintro e w8 ⟨rfl, hb⟩;refine ⟨_, rfl, ?_⟩;have n0_ := Aside0.mk (blk_below (g := gb327) (o := .cells #[.slice A0_0 l0_0.length c0_0] 56 (0, 0)) (by exact kP BK327.out) hb);have n1_ := Aside0.mk (below_step (by exact bB) hb);clear BK327;clear HB;have BK327 := n0_;have HB := n1_;clear n0_ n1_;(try clear hb);(try clear hb2);(try clear hk);(try clear hi)) | ((with_reducible refine gate_dst (N := 8) rfl ?_);refine Kd.R_make (Kd.int .i64) _ 3 rfl (N := 8) rfl 25 _ _ rfl ji3 rfl rfl Try.underlying25 (.int .i64 0) 8 info3 rfl (by decide) (by omega) 0 (ok := fun _ => True) (okp := fun _ => True) rfl (fun _ hk => hk) trivial (oA) (Nat.le_trans (Nat.mul_le_mul_right _ (oA : ji3.toNat ≤ 35184372088832)) (by omega)) (Below.refl _ _) (Nat.le_refl _) ?_;intro v330 w9 ho10 hb hg_ hnew_;clear hg_ hnew_;(first | rw [← Ny329.out] at ho10 | (simp only [Int.reduceToNat] at ho10;rw [← Ny329.out] at ho10));have n0_ := Aside0.mk (Kd.R_lower ho10 (below_size (by exact bB)));have n1_ := Aside0.mk (blk_below (g := gb327) (o := .cells #[.slice A0_0 l0_0.length c0_0] 56 (0, 0)) (by exact kP BK327.out) hb);have n2_ := Aside0.mk (below_step (by exact bB) hb);clear BK327;clear HB;have HO331 := n0_;have BK327 := n1_;have HB := n2_;clear n0_ n1_ n2_;clear hb ho10;obtain ⟨Ao11, co11, eo11⟩ := Kd.R_slice HO331.out;subst eo11))
   go_loopg [11] k (fun kq v11 w' => ∃ (x3_1 : List Int) (x11_1 : Int), v11 = .int .i64 x11_1 ∧ Aside0 (impl_net_setsInOrder.l0 kq x3_1 (y329.length : Int) x11_1 = some r) ∧ Aside0 (kq ≤ k) ∧ Aside0 (Kd.R (Kd.int .i64) 3 w' w.heap.size (fun _ => True) (.slice Ao11 y329.length co11) x3_1) ∧ Aside0 (w'.heap[gb327]? = some (.cells #[(.slice A0_0 l0_0.length c0_0)] 56 (0, 0))) ∧ Aside0 (Below w.heap.size w w'))
   case atStart => exact ⟨(y329), (0), (by first | rfl | (simp;done) | (simp [*];done)), H', ⟨Nat.le_refl _⟩, ⟨by exact rP HO331.out⟩, ⟨by exact kP BK327.out⟩, ⟨by exact bB⟩⟩
   case round =>
    clear H'
    try clear p2
    try clear c4
    try clear c4b0
    try clear c4b1
    try clear c5
    try clear c5b0
    try clear c5b1
    try clear p6
    try clear c7
    try clear hcz7_0
    try clear hfz7_0
    obtain ⟨x3_1, x11_1, rfl, HA, HK1, HO_3, BK327, HB⟩ := hrel
    have hl3_1 := (Kd.R_reads' HO_3.out).1
    rw [hl3_1] at HO_3
    (try simp only [hl3_1])
    (try simp only [hl3_1] at BK327)
    cases gk with
    | zero => exact absurd HA.out (by simp [impl_net_setsInOrder.l0])
    | succ k1 =>
     have H := HA.out
     clear HA
     simp only [impl_net_setsInOrder.l0] at H
     by_cases c12 : x11_1 < (y329.length : Int)
     ·rw [if_pos c12] at H
      have c12b0 : decide (x11_1 < (y329.length : Int)) = true := decide_eq_true c12
      clear c12
      by_cases c13 : 0 ≤ x11_1
      ·rw [if_pos c13] at H
       have c13b0 : decide (0 ≤ x11_1) = true := decide_eq_true c13
       clear c13
       by_cases c14 : x11_1 < (x3_1.length : Int)
       ·rw [if_pos c14] at H
        have c14b0 : decide (x11_1 < (x3_1.length : Int)) = true := decide_eq_true c14
        clear c14
        obtain ⟨y332, hy332⟩ : ∃ y_ : List Int, y_ = (x3_1.set (x11_1 : Int).toNat x11_1) := ⟨_, rfl⟩
        replace H : (impl_net_setsInOrder.l0 k1 y332 (y329.length : Int) (wrap64 (x11_1 + 1))) = some r := by first | (rw [hy332];with_reducible exact H) | (have H2_ := (Option.bind_some _ _).symm.trans H;rw [hy332];with_reducible exact H2_) | (have H2_ := (Option.bind_some _ _).symm.trans H;with_reducible exact H2_) | with_reducible exact H | (rw [hy332];exact H) | exact H
        have Ny332 := Aside0.mk hy332
        clear hy332
        have H' := Aside0.mk H
        clear H
        have p15 : 0 ≤ (x11_1 : Int) := oA
        have q15 : (x11_1 : Int) < ((x3_1.length : Int) : Int) := oA
        obtain ⟨go15, co15, eo15, gb15, gl15, cl15, HG15⟩ := Kd.R_form HO_3.out (by omega)
        (first | cases eo15 | (injection eo15 with ea_ en_ ec_;(first | subst ea_ | (injection ea_ with ea_;subst ea_));subst ec_;clear en_))
        have GB15 := Aside0.mk gb15
        have GG15 := Aside0.mk HG15
        clear gb15 gl15 HG15
        obtain ⟨hx15_0, hf15_0⟩ := Kd.R_celln 0 HO_3.out (x11_1 : Int) p15 q15
        replace p15 := eq_true p15
        replace q15 := eq_true q15
        have HP16 := Kd.R_putg HO_3.out (x11_1 : Int) x11_1
        go_wp2_with (first | ((with_reducible refine gate_store (t := 3) (p := 17) rfl ?_);refine store_event (t := 3) (p := 17) (v := ?vo_w17) (w1 := (wr.setCell ⟨go15, (x11_1 : Int).toNat, none⟩ (.int .i64 x11_1))) ?hg ?ho ?hn ?hr ?_;(case ho => rfl);(case hg => rfl);(case hn => rfl);(case hr => first | (go_simp;done) | (go_simp;rfl));intro w17 hw;have hg : wr.grownBy w17 (some go15) := (by rw [hw];exact HP16.2);have hp_ : Kd.R (Kd.int .i64) 3 w17 w.heap.size (fun _ => True) (.slice (some ⟨go15, 0, none⟩) x3_1.length co11) y332 := (by rw [hw, Ny332.out];exact HP16.1);clear HP16;have n0_ := Aside0.mk (hp_);have n1_ := Aside0.mk (blk_grown (g := gb327) (o := .cells #[.slice A0_0 l0_0.length c0_0] 56 (0, 0)) (by exact kP BK327.out) hg (Kd.R_ne HO_3.out BK327.out (by decide)));have n2_ := Aside0.mk ((by rw [hw];exact below_set (HB.out) GB15.out : Below w.heap.size w w17));clear HO_3;clear BK327;clear HB;have HO_3 := n0_;have BK327 := n1_;have HB := n2_;clear n0_ n1_ n2_;clear hg hw hp_))
        (try simp only [← hl3_1])
        go_roundg k1
        case measure => have := HK1.out;omega
        case rel => exact ⟨(y332), (wrap64 (x11_1 + 1)), (by first | rfl | (simp;done) | (simp [*];done)), H', ⟨by have := HK1.out;omega⟩, ⟨by (try simp only [hl3_1]);exact rP HO_3.out⟩, ⟨by (try simp only [hl3_1]);exact kP BK327.out⟩, ⟨by exact bB⟩⟩
       ·rw [if_neg c14] at H
        exact absurd H (by simp)
      ·rw [if_neg c13] at H
       exact absurd H (by simp)
     ·rw [if_neg c12] at H
      have c12b0 : decide (x11_1 < (y329.length : Int)) = false := decide_eq_false c12
      (try simp only [hl3_1] at c12b0)
      clear c12
      obtain ⟨hne, hin, hok, rfl⟩ := finS_use H
      clear H
      obtain ⟨go, cg, eg, gb, gl, HGx⟩ := Kd.R_form HO_3.out (List.length_pos_iff.2 hne.1)
      clear HGx
      (first | cases eg | (injection eg with ea_ en_ ec_;(first | subst ea_ | (injection ea_ with ea_;subst ea_));subst ec_;clear en_))
      have HS := Aside0.mk (sort_calls k1 wr _ _ go _ x3_1 HO_3.out gl hne hin hok gb)
      have GB := Aside0.mk gb
      clear hne hin hok gb gl
      go_wp2_with (go_at_call 96;refine HS.out.mono ?_;rintro e w' ⟨rfl, hR, hB⟩;have n0_ := Aside0.mk hR;have n1_ := Aside0.mk (hB w GB.out HB.out);clear hR hB HS HO_3 BK327 HB)
      go_ret
      exact ⟨_, rfl, n0_.out, n1_.out⟩
  ·rw [if_neg c5] at H
   exact absurd H (by simp)
 ·rw [if_neg c4] at H
  exact absurd H (by simp)




end Go.Proofs.Ytaddgielnfhhpaa.QFortsOf
