import Derived.Test.YtaddgielnfhhpaaQBestFirePlan0
import Derived.Test.YtaddgielnfhhpaaQBestFirePlan10
import Derived.Test.YtaddgielnfhhpaaQBestFirePlan11
import Derived.Test.YtaddgielnfhhpaaQBestFirePlan12
import Derived.Test.YtaddgielnfhhpaaQBestFirePlan13
import Derived.Test.YtaddgielnfhhpaaQBestFirePlan15
import Derived.Test.YtaddgielnfhhpaaQBestFirePlan16
import Derived.Test.YtaddgielnfhhpaaQBestFirePlan17
import Derived.Test.YtaddgielnfhhpaaQBestFirePlan2
import Derived.Test.YtaddgielnfhhpaaQBestFirePlan3
import Derived.Test.YtaddgielnfhhpaaQBestFirePlanA2
namespace Go.Proofs.Ytaddgielnfhhpaa.QBestFirePlan
open Go.RowKit Go.Proofs.YtaddgielnfhhpaaW.PrintWords Go.Proofs.YtaddgielnfhhpaaW.PrintLast Go.Proofs.YtaddgielnfhhpaaW.PrintMore
attribute [local go_sem] max2_int min2_int max_two min_two max_three min_three max_four min_four   -- for this text's walks alone
set_option linter.unusedVariables false
set_option linter.unusedSimpArgs false
theorem l8Best_ev {es : List S80} {n d : Nat} (hn : n ≤ 8) (hd : d ≤ 3) (he : es.length ≤ 9223372036854775807) : ∀ (F b f : Nat), F ≤ 100 → b < 2 ^ n → f < 2 ^ n → n < (bl n (b ||| f)).length + F →
  Ev (fun k => spec_l8Best.f k n es (bl n b) (bl n f) d) ((fgt es n d F b f).2, (fgt es n d F b f).1)
 | 0, b, f, _, _, _, h => by have := bl_len_le n (b ||| f);omega
 | F + 1, b, f, hF, hb, hf, h => by
  have hbb := bl_len_le n b
  have hT := thrM_lt (es := es) f hb
  have hfr := bl_len_le n (freeM n b f)
  rw [Ev.iff_succ]
  simp only [spec_l8Best.f]
  rw [Ev.bind_iff (l8Next_ev es n b f hn hb he), Ev.ite_iff]
  unfold fgt
  by_cases c : thrM es n b f = 0
  ·rw [if_pos (by have := (bl_zero_iff hT).2 c;omega), if_pos c, Ev.now_iff, w64 (by omega) (by omega)]
  ·rw [if_neg (by have := mt (bl_zero_iff hT).1 c;omega), if_neg c]
   rw [Ev.bind_iff (l8Free_ev es n b f hn), l1Least_eq]
   simp only [Option.bind_some]
   rw [show mns (mns (2 ^ n - 1) b) f = freeM n b f from rfl, minI, Ev.bind_iff (l8Choices_ev (bl n (freeM n b f)).length _ _ (Nat.le_refl _) (by omega) (Nat.min_le_right _ _))]
   rw [show cho (bl n (freeM n b f)) (min d (bl n (freeM n b f)).length) = chosM n d b f from rfl]
   have hmem : ∀ s ∈ chosM n d b f, s.length = min d (bl n (freeM n b f)).length ∧ (∀ x ∈ s, 0 ≤ x ∧ x < n) ∧ ∀ x ∈ s, b.testBit x.toNat = false ∧ f.testBit x.toNat = false := fun s hs => chosM_mem hs
   have hgr : ∀ s ∈ chosM n d b f, _ := fun s hs => fgt_grow hb hf c hs
   have hClen : (chosM n d b f).length ≤ 256 := Nat.le_trans (cho_len _ _) (p8 (by omega))
   generalize chosM n d b f = C at hmem hgr hClen ⊢
   have H := down C.length (fun i => ∀ st : Int × List (List Int), Ev (fun k => spec_l8Best.l0 k d st.2 st.1 C i n es (bl n b) (bl n f)) (((C.drop i).foldl (fgtStep es n b f (fgt es n d F)) st).2, ((C.drop i).foldl (fgtStep es n b f (fgt es n d F)) st).1)) ?_ ?_ 0 (by omega) (-1, [])
   ·exact H
   ·intro st
    rw [Ev.iff_succ]
    simp only [spec_l8Best.l0, Int.lt_irrefl, ↓reduceIte, Ev.now_iff, List.drop_length, List.foldl_nil]
   ·intro i hi ih st
    rw [Ev.iff_succ]
    have g1 : (i : Int) < C.length := by omega
    have g2 : (0 : Int) ≤ i := by omega
    have hs := hmem C[i] (List.getElem_mem hi)
    have hg := hgr C[i] (List.getElem_mem hi)
    have hS : mL C[i] < 2 ^ n := mL_lt hs.2.1
    have hf' : f ||| mL C[i] < 2 ^ n := Nat.or_lt_two_pow hf hS
    have hb' : b ||| thrM es n b (f ||| mL C[i]) < 2 ^ n := Nat.or_lt_two_pow hb (thrM_lt _ hb)
    have hrec := l8Best_ev hn hd he F _ _ (by omega) hb' hf' (by omega)
    have hbd := fgt_bd (es := es) (n := n) (d := d) F (b ||| thrM es n b (f ||| mL C[i])) (f ||| mL C[i])
    rw [List.drop_eq_getElem_cons hi, List.foldl_cons]
    simp only [spec_l8Best.l0, Ev.ite_iff, g1, g2, ↓reduceIte, rdL2_lt C i hi]
    rw [Ev.bind_iff (l8Round_ev es n b f C[i] hn hb hf (by omega) hs.2.1 he), Ev.bind_iff hrec]
    simp only [Ev.ite_iff, Option.bind_some, w64_succ i (show i < 9223372036854775807 by omega)]
    have ih' := ih (fgtStep es n b f (fgt es n d F) st C[i])
    unfold fgtStep at ih' ⊢
    generalize fgt es n d F (b ||| thrM es n b (f ||| mL C[i])) (f ||| mL C[i]) = R at hbd ih' ⊢
    by_cases q : R.1 > st.1
    ·rw [if_pos q, if_pos (by simp;omega)]
     rw [if_pos q] at ih' ⊢
     exact ih'
    ·rw [if_neg q]
     rw [if_neg q] at ih' ⊢
     exact ih'

theorem fightFire_ev {es : List S80} {n d : Nat} (hn : n ≤ 8) (hd : d ≤ 3) : ∀ (F b f : Nat), F ≤ 100 → b < 2 ^ n → f < 2 ^ n → n < (bl n (b ||| f)).length + F →
  Ev (fun k => impl_net_fightFire.f k (nets es n) b f d) (fgt es n d F b f)
 | 0, b, f, _, _, _, h => by have := bl_len_le n (b ||| f);omega
 | F + 1, b, f, hF, hb, hf, h => by
  have hbb := bl_len_le n b
  have hT := thrM_lt (es := es) f hb
  have hfr := bl_len_le n (freeM n b f)
  have hful : 2 ^ n - 1 < 2 ^ n := by have := Nat.two_pow_pos n;omega
  rw [Ev.iff_succ]
  simp only [impl_net_fightFire.f]
  rw [Ev.bind_iff (threatened_ev es n b f hn hb hf), Ev.ite_iff]
  unfold fgt
  by_cases c : thrM es n b f = 0
  ·rw [if_pos (by omega), if_pos c, ones_bl hn hb]
   simp only [impl_net_size.f, nets_len, Option.bind_some, Ev.now_iff]
   rw [w64 (by omega) (by omega)]
  ·rw [if_neg (by omega), if_neg c, all_eq hn]
   simp only [Option.bind_some]
   rw [gandn _ _ (lt62 hn hful) (lt62 hn hb), gandn _ _ (lt62 hn (mns_lt _ hful)) (lt62 hn hf)]
   rw [show mns (mns (2 ^ n - 1) b) f = freeM n b f from rfl, Ev.bind_iff (setOf_ev n _ hn freeM_lt)]
   have hmn : mn (d : Int) ((bl n (freeM n b f)).length : Int) = ((min d (bl n (freeM n b f)).length : Nat) : Int) := by unfold mn;split <;> omega
   rw [hmn, Ev.bind_iff (subsetsOf_ev 8 _ _ (by omega) (by omega) (by omega))]
   rw [show cho (bl n (freeM n b f)) (min d (bl n (freeM n b f)).length) = chosM n d b f from rfl]
   have hmem : ∀ s ∈ chosM n d b f, s.length = min d (bl n (freeM n b f)).length ∧ (∀ x ∈ s, 0 ≤ x ∧ x < n) ∧ ∀ x ∈ s, b.testBit x.toNat = false ∧ f.testBit x.toNat = false := fun s hs => chosM_mem hs
   have hgr : ∀ s ∈ chosM n d b f, _ := fun s hs => fgt_grow hb hf c hs
   have hClen : (chosM n d b f).length ≤ 256 := Nat.le_trans (cho_len _ _) (p8 (by omega))
   generalize chosM n d b f = C at hmem hgr hClen ⊢
   have H := down C.length (fun i => ∀ st : Int × List (List Int), Ev (fun k => impl_net_fightFire.l0 k d st.1 st.2 C C.length i (nets es n) b f) ((C.drop i).foldl (fgtStep es n b f (fgt es n d F)) st)) ?_ ?_ 0 (by omega) (-1, [])
   ·exact H
   ·intro st
    rw [Ev.iff_succ]
    simp only [impl_net_fightFire.l0, Int.lt_irrefl, ↓reduceIte, Ev.now_iff, List.drop_length, List.foldl_nil]
   ·intro i hi ih st
    rw [Ev.iff_succ]
    have g1 : (i : Int) < C.length := by omega
    have g2 : (0 : Int) ≤ i := by omega
    have hs := hmem C[i] (List.getElem_mem hi)
    have hg := hgr C[i] (List.getElem_mem hi)
    have hS : mL C[i] < 2 ^ n := mL_lt hs.2.1
    have hf' : f ||| mL C[i] < 2 ^ n := Nat.or_lt_two_pow hf hS
    have ht' := thrM_lt (es := es) (f ||| mL C[i]) hb
    have hb' : b ||| thrM es n b (f ||| mL C[i]) < 2 ^ n := Nat.or_lt_two_pow hb ht'
    have hrec := fightFire_ev (es := es) hn hd F _ _ (by omega) hb' hf' (by omega)
    have hbd := fgt_bd (es := es) (n := n) (d := d) F (b ||| thrM es n b (f ||| mL C[i])) (f ||| mL C[i])
    rw [List.drop_eq_getElem_cons hi, List.foldl_cons]
    simp only [impl_net_fightFire.l0, Ev.ite_iff, g1, g2, ↓reduceIte, rdL2_lt C i hi]
    rw [Ev.bind_iff (maskOf_ev C[i] (by omega) (fun x hx => by have := hs.2.1 x hx;omega)), gor _ _ (lt62 hn hf) (lt62 hn hS), Ev.bind_iff (threatened_ev es n b _ hn hb hf'), gor _ _ (lt62 hn hb) (lt62 hn ht'), Ev.bind_iff hrec]
    simp only [Ev.ite_iff, Option.bind_some, w64_succ i (show i < 9223372036854775807 by omega)]
    have ih' := ih (fgtStep es n b f (fgt es n d F) st C[i])
    unfold fgtStep at ih' ⊢
    generalize fgt es n d F (b ||| thrM es n b (f ||| mL C[i])) (f ||| mL C[i]) = R at hbd ih' ⊢
    by_cases q : R.1 > st.1
    ·rw [if_pos q, if_pos (by simp;omega)]
     rw [if_pos q] at ih' ⊢
     exact ih'
    ·rw [if_neg q]
     rw [if_neg q] at ih' ⊢
     exact ih'

/-- May a fire break out there, with so many defenders? -/
def fireB (n : Int) (es : List S80) (a d : Int) : Bool := okG n es && (decide (0 ≤ a ∧ a ≤ wrap64 (n - 1)) && decide (0 ≤ d ∧ d ≤ 3))

theorem fireB_use {n : Int} {es : List S80} {a d : Int} (h : fireB n es a d = true) : ∃ N x D : Nat, n = N ∧ a = x ∧ d = D ∧ N ≤ 8 ∧ okG N es = true ∧ x < N ∧ D ≤ 3 := by
 simp only [fireB, Bool.and_eq_true, decide_eq_true_eq] at h
 obtain ⟨h1, h2, h3⟩ := h
 obtain ⟨N, rfl, hN⟩ := okG_use h1
 rw [w64 (by omega) (by omega)] at h2
 exact ⟨N, a.toNat, d.toNat, rfl, by omega, by omega, hN, h1, by omega, by omega⟩

theorem l8Good_eq (n : Int) (es : List S80) (a d : Int) : spec_l8Good.f n es a d = some (fireB n es a d) := by
 unfold spec_l8Good.f spec_l2Node.f fireB
 simp only [l2Good_eq, l1In_eq, Option.bind_some]
 by_cases h1 : okG n es = true
 ·rw [if_pos h1, h1, Bool.true_and]
  by_cases h2 : 0 ≤ a ∧ a ≤ wrap64 (n - 1)
  ·rw [if_pos (by simpa using h2)];simp [h2]
  ·rw [if_neg (by simpa using h2)];simp only [h2, decide_false, Bool.false_and]
 ·rw [if_neg h1, Bool.eq_false_iff.2 h1, Bool.false_and]

theorem isFire_ev (n : Int) (es : List S80) (a d : Int) : Ev (fun k => impl_isFire.f k n es a d) (fireB n es a d) := by
 unfold impl_isFire.f
 rw [Ev.bind_iff (hasNodes_ev n es [a] (by simp)), Ev.ite_iff, within_eq]
 simp only [Option.bind_some, Ev.now_iff, allIn, List.all_cons, List.all_nil, Bool.and_true, fireB]
 cases okG n es
 ·simp
 ·by_cases h2 : 0 ≤ a ∧ a ≤ wrap64 (n - 1)
  ·rw [if_pos (by simpa using h2)];simp [h2]
  ·rw [if_neg (by simpa using h2)];simp only [h2, decide_false, Bool.false_and, Bool.true_and]

theorem eqIntSS_refl (L : List (List Int)) (hL : L.length ≤ 9223372036854775807) (hr : ∀ r ∈ L, r.length ≤ 9223372036854775807) : Ev (fun k => laws_eqIntSS.f k L L) true := by
 unfold laws_eqIntSS.f
 rw [Ev.ite_iff, if_pos rfl]
 have H := down L.length (fun i => Ev (fun k => laws_eqIntSS.l0 k L L i) true) ?_ ?_ 0 (by omega)
 ·simpa using H
 ·show Ev _ _
  rw [Ev.iff_succ]
  simp [laws_eqIntSS.l0, Ev.now_iff]
 ·intro i hi ih
  show Ev _ _
  rw [Ev.iff_succ]
  have h1 : (i : Int) < L.length := by omega
  have h2 : (0 : Int) ≤ i := by omega
  have hri := hr L[i] (List.getElem_mem hi)
  simp only [laws_eqIntSS.l0, Ev.ite_iff, h1, h2, ↓reduceIte, w64_succ i (by omega), rdL2_lt L i hi]
  rw [Ev.bind_iff (eqIntS_refl L[i] hri)]
  simp only [↓reduceIte]
  exact ih

/-- Rows of numbers one behind the other, as long as told. -/
def upSS : Int → List Nat → List (List Int)
 | _, [] => []
 | a, c :: cs => upF a c :: upSS (a + (c : Int)) cs

theorem upSS_len : ∀ (cs : List Nat) (a : Int), (upSS a cs).length = cs.length
 | [], _ => rfl
 | c :: cs, a => by simp [upSS, upSS_len cs]

theorem upSS_snoc : ∀ (cs : List Nat) (a : Int) (c : Nat), upSS a (cs ++ [c]) = upSS a cs ++ [upF (a + (cs.sum : Nat)) c]
 | [], a, c => by simp [upSS]
 | d :: cs, a, c => by
  rw [List.cons_append, upSS, upSS, upSS_snoc cs, List.sum_cons, List.cons_append]
  rw [show a + (d : Int) + ((cs.sum : Nat) : Int) = a + ((d + cs.sum : Nat) : Int) by omega]

theorem upSS_get : ∀ (cs : List Nat) (a : Int) (i : Nat) (h : i < cs.length) (h' : i < (upSS a cs).length), (upSS a cs)[i] = upF (a + ((cs.take i).sum : Nat)) cs[i]
 | c :: cs, a, 0, h, h' => by simp [upSS]
 | c :: cs, a, i + 1, h, h' => by
  simp only [upSS, List.getElem_cons_succ, List.take_succ_cons, List.sum_cons]
  rw [upSS_get cs (a + c) i (by simpa using h) (by rw [upSS_len];simpa using h)]
  rw [show a + (c : Int) + (((cs.take i).sum : Nat) : Int) = a + ((c + (cs.take i).sum : Nat) : Int) by omega]

theorem sum_take_succ (cs : List Nat) (i : Nat) (h : i < cs.length) : (cs.take (i + 1)).sum = (cs.take i).sum + cs[i] := by
 rw [List.take_succ_eq_append_getElem h, List.sum_append];simp

theorem sum_take_le (cs : List Nat) : ∀ i : Nat, (cs.take i).sum ≤ cs.sum := by
 intro i
 have h := List.take_append_drop i cs
 have h2 := congrArg List.sum h
 rw [List.sum_append] at h2
 omega

theorem markIntSS_ev (L : List (List Int)) (a : Int) (ha : 0 ≤ a) (hL : L.length < 9223372036854775807) (h : a + ((L.map List.length).sum : Nat) < 9223372036854775807) :
  Ev (fun k => laws_markIntSS.f k L a) (a + ((L.map List.length).sum : Nat), upSS a (L.map List.length)) := by
 have hcl : (L.map List.length).length = L.length := by simp
 have hcg : ∀ i (hi : i < L.length), (L.map List.length)[i]'(by rw [hcl];exact hi) = L[i].length := fun i hi => by simp
 generalize hcs : L.map List.length = cs at h hcl hcg ⊢
 have H := down L.length (fun i => Ev (fun k => laws_markIntSS.l0 k (upSS a (cs.take i) ++ L.drop i) (a + ((cs.take i).sum : Nat)) i) (a + (cs.sum : Nat), upSS a cs)) ?_ ?_ 0 (by omega)
 ·simpa [laws_markIntSS.f, upSS] using H
 ·show Ev _ _
  rw [Ev.iff_succ]
  simp only [List.drop_length, List.append_nil, List.take_of_length_le (show cs.length ≤ L.length by omega), laws_markIntSS.l0, upSS_len, hcl, Int.lt_irrefl, ↓reduceIte, Ev.now_iff]
 ·intro i hi ih
  show Ev _ _
  rw [Ev.iff_succ]
  have hic : i < cs.length := by omega
  have hut : (upSS a (cs.take i)).length = i := by rw [upSS_len, List.length_take];omega
  have h0 : ((upSS a (cs.take i) ++ L.drop i).length : Int) = L.length := by rw [List.length_append, hut, List.length_drop];omega
  have h1 : (i : Int) < L.length := by omega
  have h2 : (0 : Int) ≤ i := by omega
  have h3 : rd_L2 (upSS a (cs.take i) ++ L.drop i) i = L[i] := by
   rw [rdL2_lt _ i (by rw [List.length_append, hut, List.length_drop];omega), List.getElem_append_right (by omega)]
   simp [hut]
  have hs := sum_take_succ cs i hic
  have hsl := sum_take_le cs (i + 1)
  have hli := hcg i hi
  have h5 : (upSS a (cs.take i) ++ L.drop i).set i (upF (a + ((cs.take i).sum : Nat)) L[i].length) = upSS a (cs.take (i + 1)) ++ L.drop (i + 1) := by
   rw [List.drop_eq_getElem_cons hi, List.set_append_right _ _ (by omega), hut, Nat.sub_self, List.set_cons_zero, List.take_succ_eq_append_getElem hic, upSS_snoc, List.append_assoc, hli];rfl
  simp only [laws_markIntSS.l0, Ev.ite_iff, h0, h1, h2, ↓reduceIte, h3]
  rw [Ev.bind_iff (markIntS_ev L[i] _ (by omega) (by omega))]
  simp only [w64_succ i (show i < 9223372036854775807 by omega), Int.toNat_natCast, h5]
  rw [show a + ((cs.take i).sum : Nat) + ((L[i].length : Nat) : Int) = a + ((cs.take (i + 1)).sum : Nat) by omega]
  exact ih

theorem heldIntSS_ev (a : Int) (cs : List Nat) (ha : 0 ≤ a) (hl : cs.length < 9223372036854775807) (h : a + (cs.sum : Nat) < 9223372036854775807) : Ev (fun k => laws_heldIntSS.f k (upSS a cs) a) (a + (cs.sum : Nat)) := by
 have H := down cs.length (fun i => Ev (fun k => laws_heldIntSS.l0 k (upSS a cs) (a + ((cs.take i).sum : Nat)) i) (a + (cs.sum : Nat))) ?_ ?_ 0 (by omega)
 ·simpa [laws_heldIntSS.f] using H
 ·show Ev _ _
  rw [Ev.iff_succ]
  simp only [List.take_length]
  simp [laws_heldIntSS.l0, Ev.now_iff, upSS_len]
 ·intro i hi ih
  show Ev _ _
  rw [Ev.iff_succ]
  have h1 : (i : Int) < ((upSS a cs).length : Int) := by rw [upSS_len];omega
  have h2 : (0 : Int) ≤ i := by omega
  have hs := sum_take_succ cs i hi
  have hsl := sum_take_le cs (i + 1)
  have h3 : rd_L2 (upSS a cs) i = upF (a + ((cs.take i).sum : Nat)) cs[i] := by
   rw [rdL2_lt _ i (by rw [upSS_len];exact hi), upSS_get cs a i hi]
  simp only [laws_heldIntSS.l0, Ev.ite_iff, h1, h2, ↓reduceIte, h3]
  rw [Ev.bind_iff (heldIntS_ev _ cs[i] (by omega) (by omega)), Ev.ite_iff, if_neg (by omega)]
  rw [w64_succ i (by omega), show a + ((cs.take i).sum : Nat) + ((cs[i] : Nat) : Int) = a + ((cs.take (i + 1)).sum : Nat) by omega]
  exact ih

theorem sum_le_mul : ∀ (L : List (List Int)) (c : Nat), (∀ r ∈ L, r.length ≤ c) → (L.map List.length).sum ≤ L.length * c
 | [], _, _ => by simp
 | r :: L, c, h => by
  have h1 := sum_le_mul L c (fun s hs => h s (by simp [hs]))
  have h2 := h r (by simp)
  rw [List.map_cons, List.sum_cons, List.length_cons, Nat.succ_mul]
  omega

def bestFirePlanR (n : Int) (es : List S80) (a d : Int) : List (List Int) × Bool := if fireB n es a d = true then ((fgt es n.toNat d.toNat 9 (2 ^ a.toNat) 0).2, true) else ([], false)

theorem fgt_rows {es : List S80} {n d : Nat} : ∀ (F b f : Nat), ∀ r ∈ (fgt es n d F b f).2, r.length ≤ d
 | 0, b, f => by simp [fgt]
 | F + 1, b, f => by
  unfold fgt
  split
  ·simp
  ·refine fold_inv (fun st : Int × List (List Int) => ∀ r ∈ st.2, r.length ≤ d) _ _ _ (by simp) (fun st hst s hs => ?_)
   unfold fgtStep
   split
   ·intro r hr
    rcases List.mem_cons.1 hr with rfl | hr
    ·rw [(chosM_mem hs).1];exact Nat.min_le_left _ _
    ·exact fgt_rows F _ _ r hr
   ·exact hst

theorem bestFirePlanR_len (n : Int) (es : List S80) (a d : Int) : (bestFirePlanR n es a d).1.length ≤ 1048576 ∧ (∀ r ∈ (bestFirePlanR n es a d).1, r.length ≤ 1048576) ∧ ((bestFirePlanR n es a d).1.map List.length).sum ≤ 1099511627776 := by
 unfold bestFirePlanR
 split
 ·rename_i h
  obtain ⟨N, x, D, rfl, rfl, rfl, hN, hg, hx, hD⟩ := fireB_use h
  simp only [Int.toNat_natCast]
  have h1 := (fgt_bd (es := es) (n := N) (d := D) 9 (2 ^ x) 0).1
  have h2 : ∀ r ∈ (fgt es N D 9 (2 ^ x) 0).2, r.length ≤ 8 := fun r hr => by have := fgt_rows 9 _ _ r hr;omega
  have h4 := sum_le_mul _ 8 h2
  exact ⟨by omega, fun r hr => by have := h2 r hr;omega, by omega⟩
 ·simp

theorem specBestFirePlan_ev (n : Int) (es : List S80) (a d : Int) (_ : (Lit.int .i64 a).wf = true) (_ : (Lit.int .i64 d).wf = true) (he : es.length ≤ 9223372036854775807) : Ev (fun k => spec_BestFirePlan.f k n es a d) (bestFirePlanR n es a d) := by
 unfold spec_BestFirePlan.f bestFirePlanR
 rw [l8Good_eq]
 simp only [Option.bind_some, Ev.ite_iff]
 by_cases h : fireB n es a d = true
 ·obtain ⟨N, x, D, rfl, rfl, rfl, hN, hg, hx, hD⟩ := fireB_use h
  have e0 : bl N 0 = [] := List.eq_nil_iff_forall_not_mem.2 (fun x hx => by obtain ⟨i, _, h2, _⟩ := mem_bl.1 hx;simp at h2)
  have hB := l8Best_ev (es := es) (d := D) hN hD he 9 (2 ^ x) 0 (by omega) (Nat.pow_lt_pow_right (by decide) hx) (Nat.two_pow_pos N) (by omega)
  rw [e0, bl_pow N hN x hx] at hB
  replace hB : Ev (fun k => spec_l8Best.f k N es [(x : Int)] [] D) ((fgt es N D 9 (2 ^ x) 0).2, (fgt es N D 9 (2 ^ x) 0).1) := hB
  rw [if_pos h, if_pos h, Ev.bind_iff hB, Ev.now_iff]
  simp only [Int.toNat_natCast]
 ·rw [if_neg h, if_neg h, Ev.now_iff]

theorem implBestFirePlan_ev (n : Int) (es : List S80) (a d : Int) (_ : (Lit.int .i64 a).wf = true) (_ : (Lit.int .i64 d).wf = true) : Ev (fun k => impl_BestFirePlan.f k n es a d) (bestFirePlanR n es a d) := by
 unfold impl_BestFirePlan.f bestFirePlanR
 rw [Ev.bind_iff (isFire_ev n es a d), Ev.ite_iff]
 by_cases h : fireB n es a d = true
 ·obtain ⟨N, x, D, rfl, rfl, rfl, hN, hg, hx, hD⟩ := fireB_use h
  have hB := fightFire_ev (es := es) (d := D) hN hD 9 (2 ^ x) 0 (by omega) (Nat.pow_lt_pow_right (by decide) hx) (Nat.two_pow_pos N) (by omega)
  replace hB : Ev (fun k => impl_net_fightFire.f k (nets es N) ((2 ^ x : Nat) : Int) 0 D) (fgt es N D 9 (2 ^ x) 0) := hB
  rw [if_pos h, if_pos h, netOf_eq hg]
  simp only [Option.bind_some]
  rw [Ev.ite_iff, if_pos (by omega), shl_one (by omega), Ev.bind_iff hB, Ev.now_iff]
  simp only [Int.toNat_natCast]
 ·rw [if_neg h, if_neg h, Ev.now_iff]

theorem FnExactBestFirePlan_pure (n : Int) (es : List S80) (a0 : Int) (a1 : Int) (he : es.length ≤ 9223372036854775807) (ha0 : (Lit.int .i64 a0).wf = true) (ha1 : (Lit.int .i64 a1).wf = true) : Ev (fun k => laws_FnExactBestFirePlan.f k n es a0 a1) true := by
 unfold laws_FnExactBestFirePlan.f
 rw [szGraph_eq n es (by omega)]
 simp only [Option.bind_some, Ev.ite_iff]
 by_cases hs : es.length ≤ 1048576
 case neg => rw [if_neg hs, if_pos (by omega), Ev.now_iff]
 rw [if_pos hs, if_neg (by omega)]
 have hg := toGraph_ev n es (by omega)
 obtain ⟨hR1, hR2, hR3⟩ := bestFirePlanR_len n es a0 a1
 have hS := specBestFirePlan_ev n es a0 a1 ha0 ha1 (by omega)
 have hI := implBestFirePlan_ev n es a0 a1 ha0 ha1
 generalize bestFirePlanR n es a0 a1 = R at hR1 hR2 hR3 hS hI
 rw [Ev.bind_iff hg, Ev.bind_iff hS, Ev.bind_iff hg, Ev.bind_iff hI]
 have hq := eqIntSS_refl R.1 (by omega) (fun r hr => by have := hR2 r hr;omega)
 rw [Ev.bind_iff hq]
 simp only [bne_self_eq_false, Bool.false_eq_true, ↓reduceIte]
 rw [Ev.iff_succ]
 simp only [laws_FnExactBestFirePlan.j0, Bool.false_eq_true, ↓reduceIte]
 rw [Ev.bind_iff hg, Ev.bind_iff (eqGraph_refl n es he)]
 simp only [↓reduceIte]
 obtain ⟨rm, hm⟩ := markGraph_eq n es 1 (by omega) (by omega)
 rw [hm]
 simp only [Option.bind_some]
 rw [Ev.ite_iff, if_neg (by omega), Ev.bind_iff hq]
 simp only [bne_self_eq_false, ↓reduceIte]
 rw [Ev.iff_succ]
 simp only [laws_FnExactBestFirePlan.j1, Bool.false_eq_true, ↓reduceIte]
 rw [Ev.bind_iff (markIntSS_ev R.1 1 (by omega) (by omega) (by omega))]
 simp only []
 rw [Ev.bind_iff (heldIntSS_ev 1 (R.1.map List.length) (by omega) (by rw [List.length_map];omega) (by omega)), Ev.ite_iff, if_neg (by omega)]
 simp only [↓reduceIte]
 rw [Ev.bind_iff hg, Ev.bind_iff hI, Ev.bind_iff hq]
 simp only [bne_self_eq_false, ↓reduceIte]
 rw [Ev.iff_succ]
 simp only [laws_FnExactBestFirePlan.j2, Bool.false_eq_true, ↓reduceIte]
 rw [Ev.bind_iff (heldIntSS_ev 1 (R.1.map List.length) (by omega) (by rw [List.length_map];omega) (by omega)), Ev.ite_iff, if_neg (by omega)]
 simp only [↓reduceIte, Ev.now_iff]

end Go.Proofs.Ytaddgielnfhhpaa.QBestFirePlan
