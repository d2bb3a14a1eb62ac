import Derived.Test.YtaddgielnfhhpaaQFortsOf0
import Derived.Test.YtaddgielnfhhpaaQFortsOf1
import Derived.Test.YtaddgielnfhhpaaQFortsOf10
import Derived.Test.YtaddgielnfhhpaaQFortsOf11
import Derived.Test.YtaddgielnfhhpaaQFortsOf2
import Derived.Test.YtaddgielnfhhpaaQFortsOf3
import Derived.Test.YtaddgielnfhhpaaQFortsOf6
import Derived.Test.YtaddgielnfhhpaaQFortsOfA0
namespace Go.Proofs.Ytaddgielnfhhpaa.QFortsOf
open Go.RowKit Go.Proofs.YtaddgielnfhhpaaW.PrintWords Go.Proofs.YtaddgielnfhhpaaW.PrintLast Go.Proofs.YtaddgielnfhhpaaW.PrintMore
attribute [local go_sem] max2_int min2_int max_two min_two max_three min_three max_four min_four   -- for this text's walks alone
set_option linter.unusedVariables false
set_option linter.unusedSimpArgs false
theorem lt62 {n m : Nat} (hn : n ≤ 8) (h : m < 2 ^ n) : m < 2 ^ 62 := Nat.lt_of_lt_of_le h (Nat.pow_le_pow_right (by decide) (by omega))

theorem shr_nat (a x : Nat) (h : x < 62) : shr .i64 (a : Int) (x : Int) = ((a >>> x : Nat) : Int) := by
 unfold shr
 have hb : IntKind.bits .i64 = 64 := rfl
 rw [Int.toNat_natCast, hb, Nat.min_eq_left (by omega), Nat.shiftRight_eq_div_pow]
 simp

theorem shr_bit (a x : Nat) (ha : a < 2 ^ 62) (h : x < 62) : Go.bits .and .i64 (shr .i64 (a : Int) (x : Int)) 1 = if a.testBit x then 1 else 0 := by
 have h1 : a >>> x < 2 ^ 62 := Nat.lt_of_le_of_lt (Nat.shiftRight_le a x) ha
 rw [shr_nat a x h, show (1 : Int) = ((1 : Nat) : Int) from rfl, gand _ _ h1 (by decide)]
 simp only [Nat.testBit, bne_iff_ne, ne_eq]
 rw [Nat.and_comm 1, Nat.and_one_is_mod]
 have := Nat.mod_two_eq_zero_or_one (a >>> x)
 rcases this with h | h <;> simp [h]

theorem mask_all (n : Nat) (h : n ≤ 8) : wrap64 (shl .i64 1 (n : Int) - 1) = ((2 ^ n - 1 : Nat) : Int) := by
 rw [shl_one (by omega)]
 have h1 := p8 h
 have h2 : 0 < 2 ^ n := Nat.two_pow_pos n
 rw [w64 (by omega) (by omega)]
 omega

/-- The neighbors of a node that a set lacks. -/
def opM (es : List S80) (n m x : Nat) : Nat := mns (nb es n x) m

theorem opM_lt (es : List S80) (n m x : Nat) : opM es n m x < 2 ^ n := mns_lt _ (nb_lt es n x)

theorem l9Open_ev (es : List S80) (n m x : Nat) (hn : n ≤ 8) (hl : es.length ≤ 9223372036854775807) : Ev (fun k => spec_l9Open.f k n es (bl n m) x) (bl n (opM es n m x)) := by
 have h1 := bl_len_le n m
 unfold spec_l9Open.f
 rw [Ev.bind_iff (l5Among_ev n es (bl n m) x hn hl (by omega)), Ev.now_iff, lack_bl]
 congr 1
 refine mask_ext (n := n) (mk_lt _ _) (opM_lt es n m x) (fun i hi => ?_)
 rw [mk_bit, opM, mns_bit]
 simp [hi]

theorem bl_len (n m : Nat) : (bl n m).length = ((List.range n).filter (fun x => m.testBit x)).length := by simp [bl]

theorem u64_wrap_id (m : Nat) (h : m < 2 ^ 62) : IntKind.u64.wrap (m : Int) = (m : Int) := by rw [IntKind.wrap_u64]; omega

theorem ones_small : ∀ n : Nat, n ≤ 8 → ∀ m : Nat, m < 2 ^ n → bits_OnesCount.f (m : Int) = some (((bl n m).length : Nat) : Int) := by decide +kernel

theorem ones_bl {n m : Nat} (hn : n ≤ 8) (hm : m < 2 ^ n) : bits_OnesCount.f (IntKind.u64.wrap (m : Int)) = some (((bl n m).length : Nat) : Int) := by
 rw [u64_wrap_id m (lt62 hn hm), ones_small n hn m hm]

/-- How many neighbors of a node a set has. -/
def cntM (es : List S80) (n m x : Nat) : Nat := (bl n (nb es n x &&& m)).length

theorem and_lt_left {n a : Nat} (b : Nat) (h : a < 2 ^ n) : a &&& b < 2 ^ n := lt_of_bits fun i hi => by rw [Nat.testBit_and, bit_lt h hi]; rfl

theorem set_fill {α : Type} (l : List α) (z : α) (i : Nat) (h : i < l.length) : (l.take i ++ List.replicate (l.length - i) z).set i l[i] = l.take (i + 1) ++ List.replicate (l.length - (i + 1)) z := by
 rw [List.take_succ_eq_append_getElem h, show l.length - i = (l.length - (i + 1)) + 1 by omega, List.replicate_succ]
 have h1 : (l.take i).length = i := by rw [List.length_take];omega
 rw [List.set_append_right _ _ (by omega), h1, Nat.sub_self, List.set_cons_zero, List.append_assoc]
 rfl

theorem toIntA2_eq (a b : Int) : laws_toIntA2.f a b = some (a, b) := rfl

theorem toIntA2S_ev (l : List S80) (hl : l.length ≤ 17592186044416) : Ev (fun k => laws_toIntA2S.f k l) l := by
 unfold laws_toIntA2S.f
 rw [Ev.ite_iff, if_pos (by omega), Ev.ite_iff, if_pos (by omega), Int.toNat_natCast]
 have H := down l.length (fun i => Ev (fun k => laws_toIntA2S.l0 k l (l.take i ++ List.replicate (l.length - i) z80) i) l) ?_ ?_ 0 (by omega)
 ·simpa using H
 ·show Ev _ _
  rw [Ev.iff_succ]
  simp [laws_toIntA2S.l0, Ev.now_iff]
 ·intro i hi ih
  show Ev _ _
  rw [Ev.iff_succ]
  have h1 : (i : Int) < l.length := by omega
  have h2 : (0 : Int) ≤ i := by omega
  have h3 : (i : Int) < ((l.take i ++ List.replicate (l.length - i) z80).length : Int) := by
   rw [List.length_append, List.length_take, List.length_replicate];omega
  have h4 : rd_T80 l i = l[i] := by simp [rd_T80, hi]
  simp only [laws_toIntA2S.l0, Ev.ite_iff, h1, h2, ↓reduceIte, toIntA2_eq, Option.bind_some, h3, w64_succ i (by omega), h4, Int.toNat_natCast]
  rw [set_fill l _ i hi]
  exact ih

theorem toGraph_ev (n : Int) (es : List S80) (hl : es.length ≤ 17592186044416) : Ev (fun k => laws_toGraph.f k n es) (n, es) := by
 unfold laws_toGraph.f
 rw [Ev.bind_iff (toIntA2S_ev es hl), Ev.now_iff]

theorem eqIntS_refl (l : List Int) (hl : l.length ≤ 9223372036854775807) : Ev (fun k => laws_eqIntS.f k l l) true := by
 unfold laws_eqIntS.f
 rw [Ev.ite_iff, if_pos rfl]
 have H := down l.length (fun i => Ev (fun k => laws_eqIntS.l0 k l l i) true) ?_ ?_ 0 (by omega)
 ·simpa using H
 ·show Ev _ _
  rw [Ev.iff_succ]
  simp [laws_eqIntS.l0, Ev.now_iff]
 ·intro i hi ih
  show Ev _ _
  rw [Ev.iff_succ]
  have h1 : (i : Int) < l.length := by omega
  have h2 : (0 : Int) ≤ i := by omega
  simp only [laws_eqIntS.l0, Ev.ite_iff, h1, h2, ↓reduceIte, w64_succ i (by omega)]
  exact ih

theorem eqIntA2_refl (a b : Int) : laws_eqIntA2.f a b a b = some true := by simp [laws_eqIntA2.f]

theorem eqGraph_refl (n : Int) (es : List S80) (hl : es.length ≤ 9223372036854775807) : Ev (fun k => laws_eqGraph.f k n es n es) true := by
 have H0 : Ev (fun k => laws_eqIntA2S.f k es es) true := by
  unfold laws_eqIntA2S.f
  rw [Ev.ite_iff, if_pos rfl]
  have H := down es.length (fun i => Ev (fun k => laws_eqIntA2S.l0 k es es i) true) ?_ ?_ 0 (by omega)
  ·simpa using H
  ·show Ev _ _
   rw [Ev.iff_succ]
   simp [laws_eqIntA2S.l0, Ev.now_iff]
  ·intro i hi ih
   show Ev _ _
   rw [Ev.iff_succ]
   have h1 : (i : Int) < es.length := by omega
   have h2 : (0 : Int) ≤ i := by omega
   simp only [laws_eqIntA2S.l0, Ev.ite_iff, h1, h2, ↓reduceIte, w64_succ i (by omega), eqIntA2_refl, Option.bind_some]
   exact ih
 unfold laws_eqGraph.f
 rw [Ev.ite_iff, if_pos rfl, Ev.bind_iff H0, Ev.ite_iff, if_pos rfl, Ev.now_iff]

theorem szGraph_eq (n : Int) (es : List S80) (hl : es.length ≤ 9223372036854775807) : laws_szGraph.f n es 1048576 = some (if es.length ≤ 1048576 then 1048576 - (es.length : Int) else -1) := by
 unfold laws_szGraph.f laws_szIntA2S.f
 rw [w64 (by omega) (by omega)]
 by_cases h : es.length ≤ 1048576
 ·rw [if_neg (by omega), if_pos h, Option.bind_some, if_neg (by omega)]
 ·rw [if_pos (by omega), if_neg h, Option.bind_some, if_pos (by omega)]

theorem l2Good_eq (n : Int) (es : List S80) : spec_l2Good.f n es = some (okG n es) := rfl

theorem IsGraph_eq (n : Int) (es : List S80) : impl_IsGraph.f n es = some (okG n es) := rfl

theorem all_eq {es : List S80} {n : Nat} (h : n ≤ 8) : impl_net_all.f (nets es n) = some ((2 ^ n - 1 : Nat) : Int) := by
 unfold impl_net_all.f
 rw [nets_len, mask_all n h]

/-- Numbers one behind the other. -/
def upF (a : Int) (c : Nat) : List Int := (List.range c).map (fun i : Nat => a + (i : Int))

theorem upF_len (a : Int) (c : Nat) : (upF a c).length = c := by simp [upF]

theorem upF_succ (a : Int) (c : Nat) : upF a (c + 1) = upF a c ++ [a + (c : Int)] := by simp [upF, List.range_succ]

theorem upF_rd {a : Int} {c i : Nat} (h : i < c) : rd (upF a c) i = a + (i : Int) := by rw [rd_lt _ i (by rw [upF_len]; exact h)]; simp [upF]

theorem markIntS_ev (l : List Int) (a : Int) (ha : 0 ≤ a) (h : a + l.length < 9223372036854775807) : Ev (fun k => laws_markIntS.f k l a) (a + (l.length : Int), upF a l.length) := by
 have H := down l.length (fun i => Ev (fun k => laws_markIntS.l0 k (upF a i ++ l.drop i) (a + (i : Int)) i) (a + (l.length : Int), upF a l.length)) ?_ ?_ 0 (by omega)
 ·simpa [laws_markIntS.f, upF] using H
 ·show Ev _ _
  rw [Ev.iff_succ]
  simp [laws_markIntS.l0, Ev.now_iff, upF_len]
 ·intro i hi ih
  show Ev _ _
  rw [Ev.iff_succ]
  have h0 : ((upF a i ++ l.drop i).length : Int) = l.length := by rw [List.length_append, upF_len, List.length_drop];omega
  have h1 : (i : Int) < l.length := by omega
  have h2 : (0 : Int) ≤ i := by omega
  have h3 : (upF a i ++ l.drop i).set i (a + (i : Int)) = upF a (i + 1) ++ l.drop (i + 1) := by
   rw [List.drop_eq_getElem_cons hi, List.set_append_right _ _ (by rw [upF_len];omega), upF_len, Nat.sub_self, List.set_cons_zero, upF_succ, List.append_assoc];rfl
  have h4 : wrap64 (a + (i : Int) + 1) = a + ((i + 1 : Nat) : Int) := by rw [w64] <;> omega
  simp only [laws_markIntS.l0, Ev.ite_iff, h0, h1, h2, ↓reduceIte, w64_succ i (by omega), Int.toNat_natCast, h3, h4]
  exact ih

theorem heldIntS_ev (a : Int) (c : Nat) (ha : 0 ≤ a) (h : a + c < 9223372036854775807) : Ev (fun k => laws_heldIntS.f k (upF a c) a) (a + (c : Int)) := by
 have H := down c (fun i => Ev (fun k => laws_heldIntS.l0 k (upF a c) (a + (i : Int)) i) (a + (c : Int))) ?_ ?_ 0 (by omega)
 ·simpa [laws_heldIntS.f] using H
 ·show Ev _ _
  rw [Ev.iff_succ]
  simp [laws_heldIntS.l0, Ev.now_iff, upF_len]
 ·intro i hi ih
  show Ev _ _
  rw [Ev.iff_succ]
  have h1 : (i : Int) < (c : Int) := by omega
  have h2 : (0 : Int) ≤ i := by omega
  have h4 : wrap64 (a + (i : Int) + 1) = a + ((i + 1 : Nat) : Int) := by rw [w64] <;> omega
  simp only [laws_heldIntS.l0, Ev.ite_iff, upF_len, h1, h2, ↓reduceIte, w64_succ i (by omega), upF_rd hi, h4]
  exact ih

theorem markIntA2S_l0 (M : Int) (hM : M = 9223372036854775807) (d : Nat) : ∀ (l : List S80) (a : Int) (i : Nat), l.length = i + d → (l.length : Int) < M → 0 ≤ a → a + 2 * (d : Int) < M → ∃ r, laws_markIntA2S.l0 (d + 1) l a i = some (a + 2 * (d : Int), r) := by
 induction d with
 | zero =>
  intro l a i h _ _ _
  refine ⟨l, ?_⟩
  rw [laws_markIntA2S.l0, if_neg (by omega)]
  simp
 | succ d ih =>
  intro l a i h hl h0 h1
  have e1 : wrap64 (a + 1) = a + 1 := by rw [w64] <;> omega
  have e2 : wrap64 (a + 1 + 1) = a + 1 + 1 := by rw [w64] <;> omega
  have e3 : (i : Int) < (l.length : Int) := by omega
  have e4 : (0 : Int) ≤ i := by omega
  rw [laws_markIntA2S.l0, if_pos e3, if_pos e4, e1, e2, w64_succ i (by omega)]
  obtain ⟨r, hr⟩ := ih (l.set (i : Int).toNat ⟨a, a + 1⟩) (a + 1 + 1) (i + 1) (by rw [List.length_set];omega) (by rw [List.length_set];exact hl) (by omega) (by omega)
  exact ⟨r, by rw [hr];congr 2;omega⟩

theorem markGraph_eq (n : Int) (l : List S80) (a : Int) (ha : 0 ≤ a) (h : a + 2 * (l.length : Int) < 9223372036854775807) : ∃ r, laws_markGraph.f n l a = some (a + 2 * (l.length : Int), r) := by
 obtain ⟨r, hr⟩ := markIntA2S_l0 _ rfl l.length l a 0 (by omega) (by omega) ha h
 exact ⟨r, by simp only [laws_markGraph.f, laws_markIntA2S.f];rw [show ((0 : Nat) : Int) = 0 from rfl] at hr;rw [hr];rfl⟩

theorem setOf_ev (n m : Nat) (hn : n ≤ 8) (hm : m < 2 ^ n) : Ev (fun k => impl_setOf.f k m) (bl n m) := by
 obtain ⟨t, ht⟩ : ∃ t, t = 9 := ⟨_, rfl⟩
 have hs : ∀ i, n ≤ i → m >>> i = 0 := fun i hi => by
  rw [Nat.shiftRight_eq_div_pow];exact Nat.div_eq_of_lt (Nat.lt_of_lt_of_le hm (Nat.pow_le_pow_right (by decide) hi))
 have H := down n (fun i => Ev (fun k => impl_setOf.l0 k m (bl i m) i) (bl n m)) ?_ ?_ 0 (by omega)
 ·simpa [impl_setOf.f, bl] using H
 ·show Ev _ _
  rw [Ev.iff_succ]
  have h2 : (0 : Int) ≤ n := by omega
  simp [impl_setOf.l0, Ev.now_iff, h2, shr_nat m n (by omega), hs n (Nat.le_refl _)]
 ·intro i hi ih
  show Ev _ _
  rw [Ev.iff_succ]
  have h2 : (0 : Int) ≤ i := by omega
  have h3 := bl_len_le i m
  have h4 : (bl i m).length < 17592186044416 := by omega
  have e3 := shr_bit m i (lt62 hn hm) (by omega)
  rw [bl_step hi] at ih
  simp only [impl_setOf.l0, Ev.ite_iff, h2, h4, ↓reduceIte, w64_succ i (by omega), e3]
  by_cases c : shr .i64 (m : Int) (i : Int) = 0
  ·rw [if_pos c, Ev.now_iff]
   rw [shr_nat m i (by omega)] at c
   have c' : m >>> i = 0 := by omega
   have hb : ∀ j, i ≤ j → m.testBit j = false := fun j hj => by
    have : (m >>> i).testBit (j - i) = false := by rw [c'];simp
    rw [Nat.testBit_shiftRight] at this
    rwa [show i + (j - i) = j by omega] at this
   refine asc_ext (bl_asc _ _) (bl_asc _ _) (fun x => ?_)
   rw [mem_bl, mem_bl]
   constructor
   ·rintro ⟨j, h1, h2, rfl⟩;exact ⟨j, by omega, h2, rfl⟩
   ·rintro ⟨j, h1, h2, rfl⟩
    refine ⟨j, ?_, h2, rfl⟩
    by_cases hj : i ≤ j
    ·rw [hb j hj] at h2;cases h2
    ·omega
  ·rw [if_neg c]
   cases c2 : m.testBit i
   ·rw [c2] at ih;simpa using ih
   ·rw [c2] at ih;simpa using ih

theorem l2Bits_ev (n m : Nat) (hn : n ≤ 8) (hm : m < 2 ^ n) : Ev (fun k => spec_l2Bits.f k n m) (bl n m) := by
 have H := down n (fun i => Ev (fun k => spec_l2Bits.l0 k n m (bl i m) i) (bl n m)) ?_ ?_ 0 (by omega)
 ·simpa [spec_l2Bits.f, bl] using H
 ·show Ev _ _
  rw [Ev.iff_succ]
  simp [spec_l2Bits.l0, Ev.now_iff]
 ·intro i hi ih
  show Ev _ _
  rw [Ev.iff_succ]
  have h1 : (i : Int) < (n : Int) := by omega
  have h2 : (0 : Int) ≤ i := by omega
  have h3 := bl_len_le i m
  have h4 : (bl i m).length < 17592186044416 := by omega
  have e3 := shr_bit m i (lt62 hn hm) (by omega)
  rw [bl_step hi] at ih
  simp only [spec_l2Bits.l0, Ev.ite_iff, h1, h2, h4, ↓reduceIte, w64_succ i (by omega), e3]
  cases c : m.testBit i
  ·rw [c] at ih;simpa using ih
  ·rw [c] at ih;simpa using ih

/-- Does a list come before another one, number by number? -/
def lexLt : List Int → List Int → Bool
 | a :: s, b :: t => if a = b then lexLt s t else decide (a < b)
 | _, _ => false

theorem lexLt_nil (l : List Int) : lexLt [] l = false := by cases l <;> rfl

theorem lexLt_cons (a b : Int) (s t : List Int) : lexLt (a :: s) (b :: t) = if a = b then lexLt s t else decide (a < b) := rfl

theorem cmpInt_eq (a b : Int) : cmp_Compare_int.f a b = some (if a < b then -1 else if a > b then 1 else 0) := by
 simp only [cmp_Compare_int.f, cmp_isNaN_int.f, bne_self_eq_false, Option.bind_some, Bool.false_eq_true, ↓reduceIte]
 split
 ·rfl
 ·split <;> rfl

/-- How two lists of one length compare. -/
def cmpL : List Int → List Int → Int
 | a :: s, b :: t => if a = b then cmpL s t else if a < b then -1 else 1
 | _, _ => 0

theorem cmpL_cons (a b : Int) (s t : List Int) : cmpL (a :: s) (b :: t) = if a = b then cmpL s t else if a < b then -1 else 1 := rfl

theorem cmpL_lt : ∀ (l m : List Int), cmpL l m < 0 ↔ lexLt l m = true
 | [], _ => by simp [cmpL, lexLt]
 | _ :: _, [] => by simp [cmpL, lexLt]
 | a :: s, b :: t => by
  rw [cmpL_cons, lexLt_cons]
  by_cases e : a = b
  ·rw [if_pos e, if_pos e];exact cmpL_lt s t
  ·rw [if_neg e, if_neg e]
   by_cases g : a < b
   ·rw [if_pos g];simp [g]
   ·rw [if_neg g];simp [g]

/-- Is a set the better one: fewer nodes, or as many and it comes before? -/
def betM (n a b : Nat) : Bool := decide ((bl n a).length < (bl n b).length) || (decide ((bl n a).length = (bl n b).length) && lexLt (bl n a) (bl n b))

theorem okG_use {n : Int} {es : List S80} (h : okG n es = true) : ∃ N : Nat, n = N ∧ N ≤ 8 := by
 simp only [okG, Bool.and_eq_true, decide_eq_true_eq] at h
 exact ⟨n.toNat, by omega, by omega⟩

theorem rdL2_lt (l : List (List Int)) (i : Nat) (h : i < l.length) : rd_L2 l (i : Int) = l[i] := by simp [rd_L2, h]

theorem bl_zero_iff {n T : Nat} (h : T < 2 ^ n) : (bl n T).length = 0 ↔ T = 0 := by
 constructor
 ·intro e
  have e2 := List.eq_nil_of_length_eq_zero e
  rw [← mL_bl h, e2];rfl
 ·rintro rfl
  have e0 : bl n 0 = [] := List.eq_nil_iff_forall_not_mem.2 (fun x hx => by obtain ⟨i, _, h2, _⟩ := mem_bl.1 hx;simp at h2)
  rw [e0];rfl

theorem eqIntSS_refl (L : List (List Int)) (hL : L.length ≤ 9223372036854775807) (hr : ∀ r ∈ L, r.length ≤ 9223372036854775807) : Ev (fun k => laws_eqIntSS.f k L L) true := by
 unfold laws_eqIntSS.f
 rw [Ev.ite_iff, if_pos rfl]
 have H := down L.length (fun i => Ev (fun k => laws_eqIntSS.l0 k L L i) true) ?_ ?_ 0 (by omega)
 ·simpa using H
 ·show Ev _ _
  rw [Ev.iff_succ]
  simp [laws_eqIntSS.l0, Ev.now_iff]
 ·intro i hi ih
  show Ev _ _
  rw [Ev.iff_succ]
  have h1 : (i : Int) < L.length := by omega
  have h2 : (0 : Int) ≤ i := by omega
  have hri := hr L[i] (List.getElem_mem hi)
  simp only [laws_eqIntSS.l0, Ev.ite_iff, h1, h2, ↓reduceIte, w64_succ i (by omega), rdL2_lt L i hi]
  rw [Ev.bind_iff (eqIntS_refl L[i] hri)]
  simp only [↓reduceIte]
  exact ih

/-- Rows of numbers one behind the other, as long as told. -/
def upSS : Int → List Nat → List (List Int)
 | _, [] => []
 | a, c :: cs => upF a c :: upSS (a + (c : Int)) cs

theorem upSS_len : ∀ (cs : List Nat) (a : Int), (upSS a cs).length = cs.length
 | [], _ => rfl
 | c :: cs, a => by simp [upSS, upSS_len cs]

theorem upSS_snoc : ∀ (cs : List Nat) (a : Int) (c : Nat), upSS a (cs ++ [c]) = upSS a cs ++ [upF (a + (cs.sum : Nat)) c]
 | [], a, c => by simp [upSS]
 | d :: cs, a, c => by
  rw [List.cons_append, upSS, upSS, upSS_snoc cs, List.sum_cons, List.cons_append]
  rw [show a + (d : Int) + ((cs.sum : Nat) : Int) = a + ((d + cs.sum : Nat) : Int) by omega]

theorem upSS_get : ∀ (cs : List Nat) (a : Int) (i : Nat) (h : i < cs.length) (h' : i < (upSS a cs).length), (upSS a cs)[i] = upF (a + ((cs.take i).sum : Nat)) cs[i]
 | c :: cs, a, 0, h, h' => by simp [upSS]
 | c :: cs, a, i + 1, h, h' => by
  simp only [upSS, List.getElem_cons_succ, List.take_succ_cons, List.sum_cons]
  rw [upSS_get cs (a + c) i (by simpa using h) (by rw [upSS_len];simpa using h)]
  rw [show a + (c : Int) + (((cs.take i).sum : Nat) : Int) = a + ((c + (cs.take i).sum : Nat) : Int) by omega]

theorem sum_take_succ (cs : List Nat) (i : Nat) (h : i < cs.length) : (cs.take (i + 1)).sum = (cs.take i).sum + cs[i] := by
 rw [List.take_succ_eq_append_getElem h, List.sum_append];simp

theorem sum_take_le (cs : List Nat) : ∀ i : Nat, (cs.take i).sum ≤ cs.sum := by
 intro i
 have h := List.take_append_drop i cs
 have h2 := congrArg List.sum h
 rw [List.sum_append] at h2
 omega

theorem markIntSS_ev (L : List (List Int)) (a : Int) (ha : 0 ≤ a) (hL : L.length < 9223372036854775807) (h : a + ((L.map List.length).sum : Nat) < 9223372036854775807) :
  Ev (fun k => laws_markIntSS.f k L a) (a + ((L.map List.length).sum : Nat), upSS a (L.map List.length)) := by
 have hcl : (L.map List.length).length = L.length := by simp
 have hcg : ∀ i (hi : i < L.length), (L.map List.length)[i]'(by rw [hcl];exact hi) = L[i].length := fun i hi => by simp
 generalize hcs : L.map List.length = cs at h hcl hcg ⊢
 have H := down L.length (fun i => Ev (fun k => laws_markIntSS.l0 k (upSS a (cs.take i) ++ L.drop i) (a + ((cs.take i).sum : Nat)) i) (a + (cs.sum : Nat), upSS a cs)) ?_ ?_ 0 (by omega)
 ·simpa [laws_markIntSS.f, upSS] using H
 ·show Ev _ _
  rw [Ev.iff_succ]
  simp only [List.drop_length, List.append_nil, List.take_of_length_le (show cs.length ≤ L.length by omega), laws_markIntSS.l0, upSS_len, hcl, Int.lt_irrefl, ↓reduceIte, Ev.now_iff]
 ·intro i hi ih
  show Ev _ _
  rw [Ev.iff_succ]
  have hic : i < cs.length := by omega
  have hut : (upSS a (cs.take i)).length = i := by rw [upSS_len, List.length_take];omega
  have h0 : ((upSS a (cs.take i) ++ L.drop i).length : Int) = L.length := by rw [List.length_append, hut, List.length_drop];omega
  have h1 : (i : Int) < L.length := by omega
  have h2 : (0 : Int) ≤ i := by omega
  have h3 : rd_L2 (upSS a (cs.take i) ++ L.drop i) i = L[i] := by
   rw [rdL2_lt _ i (by rw [List.length_append, hut, List.length_drop];omega), List.getElem_append_right (by omega)]
   simp [hut]
  have hs := sum_take_succ cs i hic
  have hsl := sum_take_le cs (i + 1)
  have hli := hcg i hi
  have h5 : (upSS a (cs.take i) ++ L.drop i).set i (upF (a + ((cs.take i).sum : Nat)) L[i].length) = upSS a (cs.take (i + 1)) ++ L.drop (i + 1) := by
   rw [List.drop_eq_getElem_cons hi, List.set_append_right _ _ (by omega), hut, Nat.sub_self, List.set_cons_zero, List.take_succ_eq_append_getElem hic, upSS_snoc, List.append_assoc, hli];rfl
  simp only [laws_markIntSS.l0, Ev.ite_iff, h0, h1, h2, ↓reduceIte, h3]
  rw [Ev.bind_iff (markIntS_ev L[i] _ (by omega) (by omega))]
  simp only [w64_succ i (show i < 9223372036854775807 by omega), Int.toNat_natCast, h5]
  rw [show a + ((cs.take i).sum : Nat) + ((L[i].length : Nat) : Int) = a + ((cs.take (i + 1)).sum : Nat) by omega]
  exact ih

theorem heldIntSS_ev (a : Int) (cs : List Nat) (ha : 0 ≤ a) (hl : cs.length < 9223372036854775807) (h : a + (cs.sum : Nat) < 9223372036854775807) : Ev (fun k => laws_heldIntSS.f k (upSS a cs) a) (a + (cs.sum : Nat)) := by
 have H := down cs.length (fun i => Ev (fun k => laws_heldIntSS.l0 k (upSS a cs) (a + ((cs.take i).sum : Nat)) i) (a + (cs.sum : Nat))) ?_ ?_ 0 (by omega)
 ·simpa [laws_heldIntSS.f] using H
 ·show Ev _ _
  rw [Ev.iff_succ]
  simp only [List.take_length]
  simp [laws_heldIntSS.l0, Ev.now_iff, upSS_len]
 ·intro i hi ih
  show Ev _ _
  rw [Ev.iff_succ]
  have h1 : (i : Int) < ((upSS a cs).length : Int) := by rw [upSS_len];omega
  have h2 : (0 : Int) ≤ i := by omega
  have hs := sum_take_succ cs i hi
  have hsl := sum_take_le cs (i + 1)
  have h3 : rd_L2 (upSS a cs) i = upF (a + ((cs.take i).sum : Nat)) cs[i] := by
   rw [rdL2_lt _ i (by rw [upSS_len];exact hi), upSS_get cs a i hi]
  simp only [laws_heldIntSS.l0, Ev.ite_iff, h1, h2, ↓reduceIte, h3]
  rw [Ev.bind_iff (heldIntS_ev _ cs[i] (by omega) (by omega)), Ev.ite_iff, if_neg (by omega)]
  rw [w64_succ i (by omega), show a + ((cs.take i).sum : Nat) + ((cs[i] : Nat) : Int) = a + ((cs.take (i + 1)).sum : Nat) by omega]
  exact ih

/-- A fort: no node outside it has just one neighbor in it. -/
def fortP (es : List S80) (n m x : Nat) : Prop := m.testBit x = true ∨ cntM es n m x ≠ 1
instance (es : List S80) (n m x : Nat) : Decidable (fortP es n m x) := inferInstanceAs (Decidable (_ ∨ _))

end Go.Proofs.Ytaddgielnfhhpaa.QFortsOf
