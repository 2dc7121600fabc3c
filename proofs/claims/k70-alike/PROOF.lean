import PyProof.Rows.All
import Wide.All
import OpenK.AllK
import Wide.FinOn
import HandS.ForMost
import HandS.WideBits
import HandS.IsInst
import HandS.TupAny
import HandS.Conv
import HandS.Sort
import HandS.Walk
import KE.KDictKeyed
import KE.DataMinMax
import PySem.Challenge.RW_finesse_k70_whole_alike_deals_have_the_s
set_option Elab.async false
set_option linter.all false
set_option maxRecDepth 100000
set_option maxHeartbeats 4000000
namespace K70

/-! ### masks -/
def bitsBelow (n m : Nat) : List Nat := (List.range n).filter fun c => m.testBit c
def cardsOf (m : Nat) : List Nat := bitsBelow (m.log2 + 1) m
theorem mem_bitsBelow {n m c : Nat} : c ∈ bitsBelow n m ↔ c < n ∧ m.testBit c = true := by
  unfold bitsBelow
  rw [List.mem_filter, List.mem_range]
theorem bit_lt {m c n : Nat} (hm : m < 2 ^ n) (h : m.testBit c = true) : c < n := by
  rcases Nat.lt_or_ge c n with h1 | h1
  · exact h1
  · have h2 : m < 2 ^ c := Nat.lt_of_lt_of_le hm (Nat.pow_le_pow_right (by decide) h1)
    rw [Nat.testBit_lt_two_pow h2] at h
    cases h
theorem lt_log (m : Nat) : m < 2 ^ (m.log2 + 1) := Nat.lt_log2_self
theorem mem_cardsOf {m c : Nat} : c ∈ cardsOf m ↔ m.testBit c = true := by
  unfold cardsOf
  rw [mem_bitsBelow]
  exact ⟨fun h => h.2, fun h => ⟨bit_lt (lt_log m) h, h⟩⟩
/-- below n + k nothing more -/
theorem bitsBelow_add {n m : Nat} (hm : m < 2 ^ n) : ∀ k, bitsBelow (n + k) m = bitsBelow n m
  | 0 => rfl
  | k + 1 => by
    have ih := bitsBelow_add hm k
    have hb : m.testBit (n + k) = false := Nat.testBit_lt_two_pow (Nat.lt_of_lt_of_le hm (Nat.pow_le_pow_right (by decide) (Nat.le_add_right _ _)))
    unfold bitsBelow at ih ⊢
    rw [show n + (k + 1) = (n + k) + 1 from rfl, List.range_succ, List.filter_append, ih]
    simp [hb]
theorem bitsBelow_eq {a b m : Nat} (ha : m < 2 ^ a) (hb : m < 2 ^ b) : bitsBelow a m = bitsBelow b m := by
  rcases Nat.le_total a b with h | h
  · obtain ⟨k, rfl⟩ := Nat.exists_eq_add_of_le h
    exact (bitsBelow_add ha k).symm
  · obtain ⟨k, rfl⟩ := Nat.exists_eq_add_of_le h
    exact bitsBelow_add hb k
theorem cardsOf_eq {n m : Nat} (h : m < 2 ^ n) : cardsOf m = bitsBelow n m := bitsBelow_eq (lt_log m) h
theorem nodup_bits (n m : Nat) : (bitsBelow n m).Nodup := (List.filter_sublist).nodup List.nodup_range
theorem nodup_cards (m : Nat) : (cardsOf m).Nodup := nodup_bits _ _
theorem cardsOf_zero : cardsOf 0 = [] := by
  apply List.eq_nil_iff_forall_not_mem.mpr
  intro c h
  rw [mem_cardsOf, Nat.zero_testBit] at h
  cases h
theorem cardsOf_nil {m : Nat} (h : cardsOf m = []) : m = 0 := by
  apply Nat.eq_of_testBit_eq
  intro i
  rw [Nat.zero_testBit]
  cases e : m.testBit i with
  | false => rfl
  | true =>
    have := mem_cardsOf.mpr e
    rw [h] at this
    cases this
/-- equal masks from equal cards -/
theorem mask_ext {m k : Nat} (h : ∀ c, m.testBit c = true ↔ k.testBit c = true) : m = k := by
  apply Nat.eq_of_testBit_eq
  intro i
  have := h i
  cases e : m.testBit i <;> cases e' : k.testBit i <;> simp_all
theorem testBit_one_shl (c i : Nat) : (1 <<< c).testBit i = decide (c = i) := by
  rw [Nat.one_shiftLeft, Nat.testBit_two_pow]
theorem test_xor {m c i : Nat} (h : m.testBit c = true) : (m ^^^ (1 <<< c)).testBit i = true ↔ m.testBit i = true ∧ i ≠ c := by
  rw [Nat.testBit_xor, testBit_one_shl]
  by_cases e : c = i
  · subst e; simp [h]
  · simp [e, Ne.symm e]
theorem filter_congr' {α : Type} {p q : α → Bool} : ∀ {l : List α}, (∀ x ∈ l, p x = q x) → l.filter p = l.filter q
  | [], _ => rfl
  | x :: r, h => by
    have h1 := h x List.mem_cons_self
    have h2 := filter_congr' (l := r) fun y hy => h y (List.mem_cons_of_mem _ hy)
    rw [List.filter_cons, List.filter_cons, h1, h2]
theorem cardsOf_xor {m c : Nat} (h : m.testBit c = true) : cardsOf (m ^^^ (1 <<< c)) = (cardsOf m).filter (· != c) := by
  have hm := lt_log m
  have hc : c < m.log2 + 1 := bit_lt hm h
  have h1 : 1 <<< c < 2 ^ (m.log2 + 1) := by
    rw [Nat.one_shiftLeft]
    exact Nat.pow_lt_pow_right (by decide) hc
  rw [cardsOf_eq (Nat.xor_lt_two_pow hm h1), cardsOf_eq hm]
  unfold bitsBelow
  rw [List.filter_filter]
  refine filter_congr' fun i _ => ?_
  have := test_xor (i := i) h
  rw [Bool.eq_iff_iff, this]
  simp [and_comm]
theorem count_xor {m c : Nat} (h : m.testBit c = true) : (cardsOf (m ^^^ (1 <<< c))).length + 1 = (cardsOf m).length := by
  rw [cardsOf_xor h, ← (nodup_cards m).erase_eq_filter, List.length_erase_of_mem (mem_cardsOf.mpr h)]
  have : 0 < (cardsOf m).length := List.length_pos_of_mem (mem_cardsOf.mpr h)
  omega
def maskOf (cs : List Nat) : Nat := cs.foldl (fun m c => m ||| (1 <<< c)) 0
theorem test_fold : ∀ (cs : List Nat) (m i : Nat), (cs.foldl (fun m c => m ||| (1 <<< c)) m).testBit i = true ↔ m.testBit i = true ∨ i ∈ cs
  | [], m, i => by simp
  | c :: r, m, i => by
    rw [List.foldl_cons, test_fold r, Nat.testBit_or, testBit_one_shl]
    by_cases e : c = i
    · subst e; simp
    · simp [e, Ne.symm e]
theorem test_maskOf {cs : List Nat} {i : Nat} : (maskOf cs).testBit i = true ↔ i ∈ cs := by
  unfold maskOf
  rw [test_fold]
  simp
theorem maskOf_lt {cs : List Nat} {n : Nat} (h : ∀ c ∈ cs, c < n) : maskOf cs < 2 ^ n := by
  apply Nat.lt_of_not_ge
  intro hge
  obtain ⟨i, hi, ht⟩ := Nat.exists_ge_and_testBit_of_ge_two_pow hge
  have := h i (test_maskOf.mp ht)
  omega
theorem lt_of_bits {m n : Nat} (h : ∀ c, m.testBit c = true → c < n) : m < 2 ^ n := by
  apply Nat.lt_of_not_ge
  intro hge
  obtain ⟨i, hi, ht⟩ := Nat.exists_ge_and_testBit_of_ge_two_pow hge
  have := h i ht
  omega
theorem length_of_perm_mem {α : Type} [DecidableEq α] {l k : List α} (hl : l.Nodup) (hk : k.Nodup) (h : ∀ x, x ∈ l ↔ x ∈ k) : l.length = k.length :=
  ((List.perm_ext_iff_of_nodup hl hk).mpr h).length_eq
theorem nodup_map_on {α β : Type} {f : α → β} : ∀ {l : List α}, l.Nodup → (∀ a ∈ l, ∀ b ∈ l, f a = f b → a = b) → (l.map f).Nodup
  | [], _, _ => List.nodup_nil
  | x :: r, h, hi => by
    rw [List.nodup_cons] at h
    rw [List.map_cons, List.nodup_cons]
    refine ⟨fun hm => ?_, nodup_map_on h.2 fun a ha b hb => hi a (List.mem_cons_of_mem _ ha) b (List.mem_cons_of_mem _ hb)⟩
    obtain ⟨y, hy, e⟩ := List.mem_map.mp hm
    have := hi y (List.mem_cons_of_mem _ hy) x List.mem_cons_self e
    subst this
    exact h.1 hy
theorem count_maskOf {cs : List Nat} (h : cs.Nodup) : (cardsOf (maskOf cs)).length = cs.length :=
  length_of_perm_mem (nodup_cards _) h fun x => by rw [mem_cardsOf, test_maskOf]

/-! ### greatest and least -/
def ext (b : Bool) : List Int → Int
  | [] => 0
  | x :: r => if b then r.foldl (fun m y => if y > m then y else m) x else r.foldl (fun m y => if y < m then y else m) x
/-- v is the end of xs (the greatest, b; the least, not b) -/
def IsExt (b : Bool) (xs : List Int) (v : Int) : Prop := v ∈ xs ∧ ∀ y ∈ xs, if b then y ≤ v else v ≤ y
theorem fold_max : ∀ (r : List Int) (x : Int), (r.foldl (fun m y => if y > m then y else m) x = x ∨ r.foldl (fun m y => if y > m then y else m) x ∈ r) ∧
    x ≤ r.foldl (fun m y => if y > m then y else m) x ∧ ∀ y ∈ r, y ≤ r.foldl (fun m y => if y > m then y else m) x
  | [], x => ⟨.inl rfl, Int.le_refl x, fun _ h => nomatch h⟩
  | z :: r, x => by
    rw [List.foldl_cons]
    by_cases h : z > x
    · rw [if_pos h]
      obtain ⟨h1, h2, h3⟩ := fold_max r z
      refine ⟨.inr ?_, by omega, fun y hy => ?_⟩
      · rcases h1 with h1 | h1
        · rw [h1]; exact List.mem_cons_self
        · exact List.mem_cons_of_mem _ h1
      · rcases List.mem_cons.mp hy with rfl | hy
        · exact h2
        · exact h3 y hy
    · rw [if_neg h]
      obtain ⟨h1, h2, h3⟩ := fold_max r x
      refine ⟨h1.imp id (List.mem_cons_of_mem _), h2, fun y hy => ?_⟩
      rcases List.mem_cons.mp hy with rfl | hy
      · omega
      · exact h3 y hy
theorem fold_min : ∀ (r : List Int) (x : Int), (r.foldl (fun m y => if y < m then y else m) x = x ∨ r.foldl (fun m y => if y < m then y else m) x ∈ r) ∧
    r.foldl (fun m y => if y < m then y else m) x ≤ x ∧ ∀ y ∈ r, r.foldl (fun m y => if y < m then y else m) x ≤ y
  | [], x => ⟨.inl rfl, Int.le_refl x, fun _ h => nomatch h⟩
  | z :: r, x => by
    rw [List.foldl_cons]
    by_cases h : z < x
    · rw [if_pos h]
      obtain ⟨h1, h2, h3⟩ := fold_min r z
      refine ⟨.inr ?_, by omega, fun y hy => ?_⟩
      · rcases h1 with h1 | h1
        · rw [h1]; exact List.mem_cons_self
        · exact List.mem_cons_of_mem _ h1
      · rcases List.mem_cons.mp hy with rfl | hy
        · exact h2
        · exact h3 y hy
    · rw [if_neg h]
      obtain ⟨h1, h2, h3⟩ := fold_min r x
      refine ⟨h1.imp id (List.mem_cons_of_mem _), h2, fun y hy => ?_⟩
      rcases List.mem_cons.mp hy with rfl | hy
      · omega
      · exact h3 y hy
theorem ext_is {b : Bool} {xs : List Int} (h : xs ≠ []) : IsExt b xs (ext b xs) := by
  cases xs with
  | nil => exact absurd rfl h
  | cons x r =>
    cases b with
    | true =>
      obtain ⟨h1, h2, h3⟩ := fold_max r x
      refine ⟨?_, fun y hy => ?_⟩
      · rcases h1 with h1 | h1
        · show (if true = true then r.foldl (fun m y => if y > m then y else m) x else r.foldl (fun m y => if y < m then y else m) x) ∈ _
          rw [if_pos rfl, h1]; exact List.mem_cons_self ..
        · show (if true = true then r.foldl (fun m y => if y > m then y else m) x else r.foldl (fun m y => if y < m then y else m) x) ∈ _
          rw [if_pos rfl]; exact List.mem_cons_of_mem _ h1
      · show (if true = true then _ else _)
        rw [if_pos rfl]
        rcases List.mem_cons.mp hy with rfl | hy
        · exact h2
        · exact h3 y hy
    | false =>
      obtain ⟨h1, h2, h3⟩ := fold_min r x
      refine ⟨?_, fun y hy => ?_⟩
      · rcases h1 with h1 | h1
        · show (if false = true then r.foldl (fun m y => if y > m then y else m) x else r.foldl (fun m y => if y < m then y else m) x) ∈ _
          rw [if_neg Bool.false_ne_true, h1]; exact List.mem_cons_self ..
        · show (if false = true then r.foldl (fun m y => if y > m then y else m) x else r.foldl (fun m y => if y < m then y else m) x) ∈ _
          rw [if_neg Bool.false_ne_true]; exact List.mem_cons_of_mem _ h1
      · show (if false = true then _ else _)
        rw [if_neg Bool.false_ne_true]
        rcases List.mem_cons.mp hy with rfl | hy
        · exact h2
        · exact h3 y hy
theorem IsExt.uniq {b : Bool} {xs : List Int} {u v : Int} (hu : IsExt b xs u) (hv : IsExt b xs v) : u = v := by
  have h1 := hu.2 v hv.1
  have h2 := hv.2 u hu.1
  cases b <;> simp at h1 h2 <;> omega
theorem IsExt.eq {b : Bool} {xs : List Int} {v : Int} (h : IsExt b xs v) : ext b xs = v :=
  (ext_is (fun e => by rw [e] at h; exact nomatch h.1)).uniq h
/-- the ends of two lists of the same members -/
theorem ext_same {b : Bool} {xs ys : List Int} (h : ∀ v, v ∈ ys ↔ v ∈ xs) (hne : xs ≠ []) : ext b ys = ext b xs := by
  have he := ext_is (b := b) hne
  exact IsExt.eq ⟨(h _).mpr he.1, fun y hy => he.2 y ((h y).mp hy)⟩
/-- .. of the members turned round -/
theorem ext_flip {b : Bool} {xs ys : List Int} {k : Int} (h : ∀ v, v ∈ ys ↔ k - v ∈ xs) (hne : xs ≠ []) : ext (!b) ys = k - ext b xs := by
  have he := ext_is (b := b) hne
  refine IsExt.eq ⟨(h _).mpr (by rw [show k - (k - ext b xs) = ext b xs by omega]; exact he.1), fun y hy => ?_⟩
  have := he.2 _ ((h y).mp hy)
  cases b <;> simp at this ⊢ <;> omega

/-! ### the game -/
structure Pos where
  trump : Int
  hands : List Nat
  leader : Nat
  led : List Nat
deriving DecidableEq
def mover (p : Pos) : Nat := (p.leader + p.led.length) % 4
def handOf (p : Pos) : Nat := p.hands.getD (mover p) 0
def follow (r : Nat) (cs : List Nat) (c : Nat) : List Nat := cs.filter fun x => x / r == c / r
def legal (r : Nat) (p : Pos) : List Nat :=
  match p.led with
  | [] => cardsOf (handOf p)
  | c :: _ => if follow r (cardsOf (handOf p)) c = [] then cardsOf (handOf p) else follow r (cardsOf (handOf p)) c
/-- card a beats card b -/
def beats (r : Nat) (t : Int) (a b : Nat) : Bool := (a / r == b / r && decide (b < a)) || (decide (((a / r : Nat) : Int) = t) && !decide (((b / r : Nat) : Int) = t))
def bestUpTo (r : Nat) (t : Int) (cs : List Nat) : Nat → Nat
  | 0 => 0
  | i + 1 => if beats r t (cs.getD i 0) (cs.getD (bestUpTo r t cs i) 0) then i else bestUpTo r t cs i
def bestIx (r : Nat) (t : Int) (cs : List Nat) : Nat := bestUpTo r t cs cs.length
def winner (r : Nat) (t : Int) (leader : Nat) (cs : List Nat) : Nat := (leader + bestIx r t cs) % 4
def next (r : Nat) (p : Pos) (c : Nat) : Pos :=
  if p.led.length = 3 then ⟨p.trump, p.hands.set (mover p) (handOf p ^^^ (1 <<< c)), winner r p.trump p.leader (p.led ++ [c]), []⟩
  else ⟨p.trump, p.hands.set (mover p) (handOf p ^^^ (1 <<< c)), p.leader, p.led ++ [c]⟩
/-- 1, if the card completes a trick that side 0 wins -/
def gain (r : Nat) (p : Pos) (c : Nat) : Int :=
  if p.led.length = 3 then (if winner r p.trump p.leader (p.led ++ [c]) % 2 = 0 then 1 else 0) else 0
def val (r : Nat) : Nat → Pos → Int
  | 0, _ => 0
  | n + 1, p => ext (mover p % 2 == 0) ((legal r p).map fun c => gain r p c + val r n (next r p c))
def count (m : Nat) : Nat := (cardsOf m).length
def total (p : Pos) : Nat := (p.hands.map count).sum
/-- the share of side 0 -/
def share (r : Nat) (p : Pos) : Int := val r (total p) p

theorem legal_sub {r : Nat} {p : Pos} {c : Nat} (h : c ∈ legal r p) : (handOf p).testBit c = true := by
  unfold legal at h
  split at h
  · exact mem_cardsOf.mp h
  · split at h
    · exact mem_cardsOf.mp h
    · exact mem_cardsOf.mp (List.mem_filter.mp h).1
theorem bestUpTo_lt (r : Nat) (t : Int) (cs : List Nat) : ∀ i, bestUpTo r t cs i < i ∨ bestUpTo r t cs i = 0
  | 0 => .inr rfl
  | i + 1 => by
    unfold bestUpTo
    split
    · exact .inl (Nat.lt_succ_self i)
    · rcases bestUpTo_lt r t cs i with h | h
      · exact .inl (by omega)
      · exact .inr h
theorem sum_set' : ∀ {l : List Nat} {j z y : Nat}, l[j]? = some z → (l.set j y).sum + z = l.sum + y
  | [], j, z, y, h => by simp at h
  | a :: r, 0, z, y, h => by
    have e : a = z := Option.some.inj h
    subst e
    show (y :: r).sum + a = (a :: r).sum + y
    rw [List.sum_cons, List.sum_cons]
    omega
  | a :: r, j + 1, z, y, h => by
    have ih := sum_set' (l := r) (j := j) (z := z) (y := y) h
    show (a :: r.set j y).sum + z = (a :: r).sum + y
    rw [List.sum_cons, List.sum_cons]
    omega
theorem next_hands (r : Nat) (p : Pos) (c : Nat) : (next r p c).hands = p.hands.set (mover p) (handOf p ^^^ (1 <<< c)) := by
  unfold next
  split <;> rfl
theorem next_trump (r : Nat) (p : Pos) (c : Nat) : (next r p c).trump = p.trump := by
  unfold next
  split <;> rfl
theorem total_next {r : Nat} {p : Pos} {c : Nat} (h : c ∈ legal r p) : total (next r p c) + 1 = total p := by
  have hb := legal_sub h
  have hl : mover p < p.hands.length := by
    apply Nat.lt_of_not_ge
    intro hge
    unfold handOf at hb
    rw [List.getD_eq_getElem?_getD, List.getElem?_eq_none hge] at hb
    simp at hb
  unfold total
  rw [next_hands, List.map_set]
  have hc := count_xor hb
  have hg : (p.hands.map count)[mover p]? = some (count (handOf p)) := by
    rw [List.getElem?_map, List.getElem?_eq_getElem hl]
    unfold handOf
    rw [List.getD_eq_getElem?_getD, List.getElem?_eq_getElem hl]
    rfl
  have := sum_set' (y := count (handOf p ^^^ (1 <<< c))) hg
  unfold count at this ⊢
  omega
/-- the share by its own equation -/
theorem share_eq (r : Nat) (p : Pos) : share r p = ext (mover p % 2 == 0) ((legal r p).map fun c => gain r p c + share r (next r p c)) := by
  cases hl : legal r p with
  | nil =>
    unfold share
    cases total p with
    | zero => rfl
    | succ n =>
      unfold val
      rw [hl]
      rfl
  | cons c0 rest =>
    rw [← hl]
    have h0 : c0 ∈ legal r p := by rw [hl]; exact List.mem_cons_self
    have ht := total_next h0
    conv => lhs; unfold share
    rw [← ht]
    unfold val
    congr 1
    refine List.map_congr_left fun c hc => ?_
    unfold share
    have := total_next hc
    rw [show total (next r p c) = total (next r p c0) by omega]

/-! ### the same game with other cards and other places -/
structure Iso (f : Nat → Nat) (S : Nat → Prop) (r r' : Nat) (t t' : Int) : Prop where
  suit : ∀ a b, S a → S b → (a / r = b / r ↔ f a / r' = f b / r')
  ord : ∀ a b, S a → S b → a / r = b / r → (a < b ↔ f a < f b)
  tr : ∀ a, S a → (((a / r : Nat) : Int) = t ↔ ((f a / r' : Nat) : Int) = t')
theorem Iso.inj {f : Nat → Nat} {S : Nat → Prop} {r r' : Nat} {t t' : Int} (h : Iso f S r r' t t') {a b : Nat} (ha : S a) (hb : S b) (e : f a = f b) : a = b := by
  have hs : a / r = b / r := (h.suit a b ha hb).mpr (by rw [e])
  have h1 := h.ord a b ha hb hs
  have h2 := h.ord b a hb ha hs.symm
  omega
theorem Iso.beats {f : Nat → Nat} {S : Nat → Prop} {r r' : Nat} {t t' : Int} (h : Iso f S r r' t t') {a b : Nat} (ha : S a) (hb : S b) : beats r' t' (f a) (f b) = beats r t a b := by
  have h1 := h.suit a b ha hb
  have h2 := h.ord b a hb ha
  have h3 := h.tr a ha
  have h4 := h.tr b hb
  rw [Bool.eq_iff_iff]
  unfold K70.beats
  simp only [Bool.or_eq_true, Bool.and_eq_true, beq_iff_eq, decide_eq_true_eq, Bool.not_eq_true', decide_eq_false_iff_not]
  constructor
  · rintro (⟨e, l⟩ | ⟨e, l⟩)
    · have e' := h1.mpr e
      exact .inl ⟨e', (h2 e'.symm).mpr l⟩
    · exact .inr ⟨h3.mpr e, fun z => l (h4.mp z)⟩
  · rintro (⟨e, l⟩ | ⟨e, l⟩)
    · exact .inl ⟨h1.mp e, (h2 e.symm).mp l⟩
    · exact .inr ⟨h3.mp e, fun z => l (h4.mpr z)⟩
theorem Iso.best {f : Nat → Nat} {S : Nat → Prop} {r r' : Nat} {t t' : Int} (h : Iso f S r r' t t') {cs : List Nat} (hS : ∀ c ∈ cs, S c) : ∀ i, i ≤ cs.length → bestUpTo r' t' (cs.map f) i = bestUpTo r t cs i
  | 0, _ => rfl
  | i + 1, hi => by
    have ih := Iso.best h hS i (by omega)
    have hb : bestUpTo r t cs i < cs.length := by
      rcases bestUpTo_lt r t cs i with z | z <;> omega
    have get : ∀ j, j < cs.length → (cs.map f).getD j 0 = f (cs.getD j 0) ∧ S (cs.getD j 0) := fun j hj => by
      rw [List.getD_eq_getElem?_getD, List.getElem?_map, List.getD_eq_getElem?_getD, List.getElem?_eq_getElem hj]
      exact ⟨rfl, hS _ (List.getElem_mem hj)⟩
    unfold bestUpTo
    rw [ih, (get i (by omega)).1, (get _ hb).1, h.beats (get i (by omega)).2 (get _ hb).2]
theorem Iso.bestIx {f : Nat → Nat} {S : Nat → Prop} {r r' : Nat} {t t' : Int} (h : Iso f S r r' t t') {cs : List Nat} (hS : ∀ c ∈ cs, S c) : bestIx r' t' (cs.map f) = bestIx r t cs := by
  unfold K70.bestIx
  rw [List.length_map]
  exact h.best hS _ (Nat.le_refl _)
/-- q is p with the cards by f, and the players k places further -/
structure Like (f : Nat → Nat) (S : Nat → Prop) (k : Nat) (p q : Pos) : Prop where
  leader : q.leader = (p.leader + k) % 4
  led : q.led = p.led.map f
  ledS : ∀ c ∈ p.led, S c
  lp : p.hands.length = 4
  lq : q.hands.length = 4
  hands : ∀ i, i < 4 → ∀ c', (q.hands.getD ((i + k) % 4) 0).testBit c' = true ↔ ∃ c, (p.hands.getD i 0).testBit c = true ∧ f c = c'
  handsS : ∀ i, i < 4 → ∀ c, (p.hands.getD i 0).testBit c = true → S c
/-- n cards are left, each player holds as many as the turn says -/
structure WF (n : Nat) (p : Pos) : Prop where
  len : p.hands.length = 4
  led : p.led.length < 4
  mod : (n + p.led.length) % 4 = 0
  cnt : ∀ i, i < 4 → count (p.hands.getD ((p.leader + i) % 4) 0) = (n + i) / 4
theorem Like.mover {f : Nat → Nat} {S : Nat → Prop} {k : Nat} {p q : Pos} (h : Like f S k p q) : mover q = (mover p + k) % 4 := by
  unfold K70.mover
  rw [h.leader, h.led, List.length_map]
  omega
theorem mover_lt (p : Pos) : mover p < 4 := Nat.mod_lt _ (by decide)
theorem Like.hand {f : Nat → Nat} {S : Nat → Prop} {k : Nat} {p q : Pos} (h : Like f S k p q) (c' : Nat) : c' ∈ cardsOf (handOf q) ↔ ∃ c, c ∈ cardsOf (handOf p) ∧ f c = c' := by
  rw [mem_cardsOf]
  unfold handOf
  rw [h.mover, h.hands _ (mover_lt p)]
  exact ⟨fun ⟨c, a, b⟩ => ⟨c, mem_cardsOf.mpr a, b⟩, fun ⟨c, a, b⟩ => ⟨c, mem_cardsOf.mp a, b⟩⟩
theorem Like.handS {f : Nat → Nat} {S : Nat → Prop} {k : Nat} {p q : Pos} (h : Like f S k p q) {c : Nat} (hc : c ∈ cardsOf (handOf p)) : S c :=
  h.handsS _ (mover_lt p) c (mem_cardsOf.mp hc)
theorem Like.legal {f : Nat → Nat} {S : Nat → Prop} {r r' k : Nat} {t t' : Int} {p q : Pos} (I : Iso f S r r' t t') (h : Like f S k p q) (c' : Nat) : c' ∈ legal r' q ↔ ∃ c, c ∈ legal r p ∧ f c = c' := by
  have hh := h.hand
  have hS := fun {c} => h.handS (c := c)
  cases hled : p.led with
  | nil =>
    have e : q.led = [] := by rw [h.led, hled]; rfl
    unfold K70.legal
    rw [hled, e]
    exact hh c'
  | cons a rest =>
    have e : q.led = f a :: rest.map f := by rw [h.led, hled]; rfl
    have ha : S a := h.ledS a (by rw [hled]; exact List.mem_cons_self)
    have fol : ∀ c', c' ∈ follow r' (cardsOf (handOf q)) (f a) ↔ ∃ c, c ∈ follow r (cardsOf (handOf p)) a ∧ f c = c' := fun c' => by
      unfold follow
      rw [List.mem_filter, hh]
      constructor
      · rintro ⟨⟨c, hc, rfl⟩, hx⟩
        exact ⟨c, List.mem_filter.mpr ⟨hc, beq_iff_eq.mpr ((I.suit c a (hS hc) ha).mpr (beq_iff_eq.mp hx))⟩, rfl⟩
      · rintro ⟨c, hc, rfl⟩
        obtain ⟨hc, hx⟩ := List.mem_filter.mp hc
        exact ⟨⟨c, hc, rfl⟩, beq_iff_eq.mpr ((I.suit c a (hS hc) ha).mp (beq_iff_eq.mp hx))⟩
    have hnil : follow r' (cardsOf (handOf q)) (f a) = [] ↔ follow r (cardsOf (handOf p)) a = [] := by
      rw [List.eq_nil_iff_forall_not_mem, List.eq_nil_iff_forall_not_mem]
      constructor
      · intro z c hc
        exact z (f c) ((fol _).mpr ⟨c, hc, rfl⟩)
      · intro z c' hc'
        obtain ⟨c, hc, _⟩ := (fol c').mp hc'
        exact z c hc
    unfold K70.legal
    rw [hled, e]
    show c' ∈ (if follow r' (cardsOf (handOf q)) (f a) = [] then cardsOf (handOf q) else follow r' (cardsOf (handOf q)) (f a)) ↔ ∃ c, c ∈ (if follow r (cardsOf (handOf p)) a = [] then cardsOf (handOf p) else follow r (cardsOf (handOf p)) a) ∧ f c = c'
    by_cases z : follow r (cardsOf (handOf p)) a = []
    · rw [if_pos z, if_pos (hnil.mpr z)]
      exact hh c'
    · rw [if_neg z, if_neg (fun y => z (hnil.mp y))]
      exact fol c'
theorem getD_set (l : List Nat) (i j v : Nat) (hi : i < l.length) : (l.set i v).getD j 0 = if i = j then v else l.getD j 0 := by
  rw [List.getD_eq_getElem?_getD, List.getElem?_set]
  by_cases e : i = j
  · subst e; simp [hi]
  · simp [e]
theorem rot_inj {i j k : Nat} (hi : i < 4) (hj : j < 4) : (i + k) % 4 = (j + k) % 4 ↔ i = j := by omega
theorem Like.next {f : Nat → Nat} {S : Nat → Prop} {r r' k : Nat} {t t' : Int} {p q : Pos} (I : Iso f S r r' t t') (h : Like f S k p q) (ht : p.trump = t) (ht' : q.trump = t') {c : Nat} (hc : c ∈ K70.legal r p) :
    Like f S k (next r p c) (next r' q (f c)) := by
  have hb := legal_sub hc
  have hS := h.handS (mem_cardsOf.mpr hb)
  have hb' : (handOf q).testBit (f c) = true := mem_cardsOf.mp ((h.hand (f c)).mpr ⟨c, mem_cardsOf.mpr hb, rfl⟩)
  have hm := h.mover
  have hml := mover_lt p
  have hmq := mover_lt q
  have ledS : ∀ x ∈ p.led ++ [c], S x := fun x hx => by
    rcases List.mem_append.mp hx with hx | hx
    · exact h.ledS x hx
    · rw [List.mem_singleton.mp hx]; exact hS
  have eled : q.led ++ [f c] = (p.led ++ [c]).map f := by rw [h.led, List.map_append]; rfl
  have hh : ∀ i, i < 4 → ∀ c', ((q.hands.set (K70.mover q) (handOf q ^^^ (1 <<< f c))).getD ((i + k) % 4) 0).testBit c' = true ↔ ∃ d, ((p.hands.set (K70.mover p) (handOf p ^^^ (1 <<< c))).getD i 0).testBit d = true ∧ f d = c' := fun i hi c' => by
    rw [getD_set _ _ _ _ (by rw [h.lq]; exact hmq), getD_set _ _ _ _ (by rw [h.lp]; exact hml), hm]
    by_cases e : K70.mover p = i
    · subst e
      rw [if_pos rfl, if_pos rfl, test_xor hb']
      constructor
      · rintro ⟨a, b⟩
        obtain ⟨d, hd, rfl⟩ := (h.hand c').mp (mem_cardsOf.mpr a)
        exact ⟨d, (test_xor hb).mpr ⟨mem_cardsOf.mp hd, fun z => b (by rw [z])⟩, rfl⟩
      · rintro ⟨d, hd, rfl⟩
        obtain ⟨hd, ne⟩ := (test_xor hb).mp hd
        exact ⟨mem_cardsOf.mp ((h.hand (f d)).mpr ⟨d, mem_cardsOf.mpr hd, rfl⟩), fun z => ne (I.inj (h.handS (mem_cardsOf.mpr hd)) hS z)⟩
    · rw [if_neg (fun z => e ((rot_inj hml hi).mp z)), if_neg e]
      exact h.hands i hi c'
  have hhS : ∀ i, i < 4 → ∀ d, ((p.hands.set (K70.mover p) (handOf p ^^^ (1 <<< c))).getD i 0).testBit d = true → S d := fun i hi d hd => by
    rw [getD_set _ _ _ _ (by rw [h.lp]; exact hml)] at hd
    by_cases e : K70.mover p = i
    · subst e
      rw [if_pos rfl] at hd
      exact h.handS (mem_cardsOf.mpr ((test_xor hb).mp hd).1)
    · rw [if_neg e] at hd
      exact h.handsS i hi d hd
  have el : q.led.length = p.led.length := by rw [h.led, List.length_map]
  unfold K70.next
  rw [el]
  by_cases z : p.led.length = 3
  · rw [if_pos z, if_pos z]
    refine ⟨?_, rfl, (fun _ x => nomatch x), ?_, ?_, hh, hhS⟩
    · show winner r' q.trump q.leader (q.led ++ [f c]) = (winner r p.trump p.leader (p.led ++ [c]) + k) % 4
      unfold winner
      rw [eled, ht, ht', I.bestIx ledS, h.leader]
      omega
    · rw [List.length_set]; exact h.lp
    · rw [List.length_set]; exact h.lq
  · rw [if_neg z, if_neg z]
    refine ⟨h.leader, eled, ledS, ?_, ?_, hh, hhS⟩
    · rw [List.length_set]; exact h.lp
    · rw [List.length_set]; exact h.lq
theorem WF.hand {n : Nat} {p : Pos} (h : WF n p) : count (handOf p) = (n + p.led.length) / 4 := h.cnt _ h.led
theorem WF.legal {n r : Nat} {p : Pos} (h : WF (n + 1) p) : legal r p ≠ [] := by
  have h1 := h.hand
  have h2 := h.mod
  have hne : cardsOf (handOf p) ≠ [] := fun e => by
    unfold count at h1
    rw [e] at h1
    simp at h1
    omega
  unfold K70.legal
  split
  · exact hne
  · split
    · exact hne
    · assumption
theorem WF.next {n r : Nat} {p : Pos} (h : WF (n + 1) p) {c : Nat} (hc : c ∈ K70.legal r p) : WF n (next r p c) := by
  have hb := legal_sub hc
  have hx := count_xor hb
  have h1 := h.hand
  have hmod := h.mod
  have hled := h.led
  have hml := mover_lt p
  have cnt : ∀ i, i < 4 → count ((p.hands.set (mover p) (handOf p ^^^ (1 <<< c))).getD ((p.leader + i) % 4) 0) = if i = p.led.length then (n + 1 + i) / 4 - 1 else (n + 1 + i) / 4 := fun i hi => by
    rw [getD_set _ _ _ _ (by rw [h.len]; exact hml)]
    by_cases e : i = p.led.length
    · subst e
      rw [if_pos rfl, if_pos (show mover p = (p.leader + p.led.length) % 4 from rfl)]
      unfold count at h1 ⊢
      omega
    · rw [if_neg e, if_neg (show ¬ mover p = (p.leader + i) % 4 by unfold mover; omega)]
      exact h.cnt i hi
  unfold K70.next
  by_cases z : p.led.length = 3
  · rw [if_pos z]
    refine ⟨by rw [List.length_set]; exact h.len, by show 0 < 4; decide, ?_, fun i hi => ?_⟩
    · show (n + 0) % 4 = 0
      omega
    · show count ((p.hands.set (mover p) (handOf p ^^^ (1 <<< c))).getD ((winner r p.trump p.leader (p.led ++ [c]) + i) % 4) 0) = (n + i) / 4
      have hw : winner r p.trump p.leader (p.led ++ [c]) < 4 := Nat.mod_lt _ (by decide)
      obtain ⟨j, hj, ej⟩ : ∃ j, j < 4 ∧ (winner r p.trump p.leader (p.led ++ [c]) + i) % 4 = (p.leader + j) % 4 :=
        ⟨(winner r p.trump p.leader (p.led ++ [c]) + i + 4 * p.leader - p.leader) % 4, Nat.mod_lt _ (by decide), by omega⟩
      rw [ej, cnt j hj]
      split <;> omega
  · rw [if_neg z]
    refine ⟨by rw [List.length_set]; exact h.len, ?_, ?_, fun i hi => ?_⟩
    · show (p.led ++ [c]).length < 4
      rw [List.length_append, List.length_singleton]
      omega
    · show (n + (p.led ++ [c]).length) % 4 = 0
      rw [List.length_append, List.length_singleton]
      omega
    · show count ((p.hands.set (mover p) (handOf p ^^^ (1 <<< c))).getD ((p.leader + i) % 4) 0) = (n + i) / 4
      rw [cnt i hi]
      split <;> omega
/-- THE THEOREM: an even turn keeps side 0's share, an odd one exchanges the shares -/
theorem val_like {f : Nat → Nat} {S : Nat → Prop} {r r' k : Nat} {t t' : Int} (I : Iso f S r r' t t') : ∀ (n : Nat) (p q : Pos), Like f S k p q → WF n p → p.trump = t → q.trump = t' →
    val r' n q = if k % 2 = 0 then val r n p else (((n + 3) / 4 : Nat) : Int) - val r n p
  | 0, p, q, _, _, _, _ => by
    unfold val
    split <;> rfl
  | n + 1, p, q, h, w, ht, ht' => by
    have hne := w.legal (r := r)
    have ih := fun c (hc : c ∈ legal r p) => val_like I n (next r p c) (next r' q (f c)) (h.next I ht ht' hc) (w.next hc) (by rw [next_trump]; exact ht) (by rw [next_trump]; exact ht')
    have hmod := w.mod
    have hled := w.led
    have el : q.led.length = p.led.length := by rw [h.led, List.length_map]
    have hg : ∀ c, c ∈ legal r p → gain r' q (f c) = if k % 2 = 0 then gain r p c else if p.led.length = 3 then 1 - gain r p c else gain r p c := fun c hc => by
      have ledS : ∀ x ∈ p.led ++ [c], S x := fun x hx => by
        rcases List.mem_append.mp hx with hx | hx
        · exact h.ledS x hx
        · rw [List.mem_singleton.mp hx]; exact h.handS (mem_cardsOf.mpr (legal_sub hc))
      have eled : q.led ++ [f c] = (p.led ++ [c]).map f := by rw [h.led, List.map_append]; rfl
      unfold gain
      rw [el]
      by_cases z : p.led.length = 3
      · rw [if_pos z, if_pos z, if_pos z]
        have ew : winner r' q.trump q.leader (q.led ++ [f c]) = (winner r p.trump p.leader (p.led ++ [c]) + k) % 4 := by
          unfold winner
          rw [eled, ht, ht', I.bestIx ledS, h.leader]
          omega
        rw [ew]
        by_cases e : k % 2 = 0
        · rw [if_pos e]
          by_cases e2 : winner r p.trump p.leader (p.led ++ [c]) % 2 = 0
          · rw [if_pos e2, if_pos (by omega)]
          · rw [if_neg e2, if_neg (by omega)]
        · rw [if_neg e]
          by_cases e2 : winner r p.trump p.leader (p.led ++ [c]) % 2 = 0
          · rw [if_pos e2, if_neg (by omega)]; rfl
          · rw [if_neg e2, if_pos (by omega)]; rfl
      · rw [if_neg z, if_neg z, if_neg z]
        split <;> rfl
    have hmv := h.mover
    unfold val
    by_cases e : k % 2 = 0
    · rw [if_pos e]
      have em : (mover q % 2 == 0) = (mover p % 2 == 0) := by
        rw [Bool.eq_iff_iff, beq_iff_eq, beq_iff_eq]
        omega
      rw [em]
      refine ext_same (fun v => ?_) (fun z => hne (List.map_eq_nil_iff.mp z))
      rw [List.mem_map, List.mem_map]
      constructor
      · rintro ⟨c', hc', rfl⟩
        obtain ⟨c, hc, rfl⟩ := (h.legal I c').mp hc'
        refine ⟨c, hc, ?_⟩
        have a := ih c hc
        have b := hg c hc
        rw [if_pos e] at a b
        rw [a, b]
      · rintro ⟨c, hc, rfl⟩
        refine ⟨f c, (h.legal I _).mpr ⟨c, hc, rfl⟩, ?_⟩
        have a := ih c hc
        have b := hg c hc
        rw [if_pos e] at a b
        rw [a, b]
    · rw [if_neg e]
      have em : (mover q % 2 == 0) = !(mover p % 2 == 0) := by
        rw [Bool.eq_iff_iff, Bool.not_eq_true', beq_iff_eq, beq_eq_false_iff_ne]
        omega
      rw [em]
      have key : ∀ c, c ∈ legal r p → gain r' q (f c) + val r' n (next r' q (f c)) = (((n + 1 + 3) / 4 : Nat) : Int) - (gain r p c + val r n (next r p c)) := fun c hc => by
        have a := ih c hc
        have b := hg c hc
        rw [if_neg e] at a b
        rw [a, b]
        split
        · omega
        · have g0 : gain r p c = 0 := by unfold gain; rw [if_neg (by assumption)]
          rw [g0]
          omega
      refine ext_flip (fun v => ?_) (fun z => hne (List.map_eq_nil_iff.mp z))
      rw [List.mem_map, List.mem_map]
      constructor
      · rintro ⟨c', hc', rfl⟩
        obtain ⟨c, hc, rfl⟩ := (h.legal I c').mp hc'
        exact ⟨c, hc, by rw [key c hc]; omega⟩
      · rintro ⟨c, hc, ev⟩
        exact ⟨f c, (h.legal I _).mpr ⟨c, hc, rfl⟩, by rw [key c hc]; omega⟩
end K70

namespace K70

/-! ### the cards of a suit; legal cards -/
theorem test_suit (r x i : Nat) (hr : 0 < r) : ((1 <<< r - 1) <<< (x * r)).testBit i = decide (i / r = x) := by
  rw [Nat.testBit_shiftLeft, Nat.one_shiftLeft, Nat.testBit_two_pow_sub_one, Bool.eq_iff_iff, Bool.and_eq_true, decide_eq_true_eq, decide_eq_true_eq, decide_eq_true_eq]
  constructor
  · rintro ⟨h1, h2⟩
    have h3 : i = r * x + (i - x * r) := by rw [Nat.mul_comm]; omega
    rw [h3, Nat.mul_add_div hr, Nat.div_eq_of_lt h2]
    rfl
  · rintro rfl
    have h1 := Nat.div_mul_le_self i r
    have h2 := Nat.lt_div_mul_add hr (a := i)
    omega
theorem cardsOf_suit (r m x : Nat) (hr : 0 < r) : cardsOf (m &&& ((1 <<< r - 1) <<< (x * r))) = (cardsOf m).filter fun c => c / r == x := by
  have hm := lt_log m
  rw [cardsOf_eq (n := m.log2 + 1) (Nat.and_lt_two_pow_left hm), cardsOf_eq hm]
  unfold bitsBelow
  rw [List.filter_filter]
  refine filter_congr' fun i _ => ?_
  rw [Nat.testBit_and, test_suit r x i hr, Bool.and_comm]
  congr 1
where
  Nat.and_lt_two_pow_left {a b n : Nat} (h : a < 2 ^ n) : a &&& b < 2 ^ n := Nat.lt_of_le_of_lt Nat.and_le_left h
theorem suit_nil (r m x : Nat) (hr : 0 < r) : (m &&& ((1 <<< r - 1) <<< (x * r)) = 0) ↔ ((cardsOf m).filter fun c => c / r == x) = [] := by
  rw [← cardsOf_suit r m x hr]
  exact ⟨fun h => by rw [h]; exact cardsOf_zero, cardsOf_nil⟩
theorem legal_nodup (r : Nat) (p : Pos) : (legal r p).Nodup := by
  unfold legal
  split
  · exact nodup_cards _
  · split
    · exact nodup_cards _
    · exact (List.filter_sublist).nodup (nodup_cards _)
theorem legal_len (r : Nat) (p : Pos) : (legal r p).length ≤ count (handOf p) := by
  unfold legal count
  split
  · exact Nat.le_refl _
  · split
    · exact Nat.le_refl _
    · exact List.length_filter_le _ _
/-- what the walk asks of a position -/
structure PosOk (q : Pos) : Prop where
  len : q.hands.length = 4
  bits : ∀ m ∈ q.hands, m < 2 ^ 52
  led : ∀ c ∈ q.led, c < 52
  leader : q.leader < 4
  few : q.led.length < 4
theorem getD_mem {l : List Nat} {i : Nat} (h : i < l.length) : l.getD i 0 ∈ l := by
  rw [List.getD_eq_getElem?_getD, List.getElem?_eq_getElem h]
  exact List.getElem_mem h
theorem PosOk.hand {q : Pos} (h : PosOk q) : handOf q < 2 ^ 52 := h.bits _ (getD_mem (by rw [h.len]; exact mover_lt q))
theorem PosOk.card {q : Pos} (h : PosOk q) {r c : Nat} (hc : c ∈ legal r q) : c < 52 := bit_lt h.hand (legal_sub hc)
theorem PosOk.next {q : Pos} (h : PosOk q) {r c : Nat} (hc : c ∈ legal r q) : PosOk (next r q c) := by
  have h52 := h.card hc
  have hx : handOf q ^^^ (1 <<< c) < 2 ^ 52 := by
    refine Nat.xor_lt_two_pow h.hand ?_
    rw [Nat.one_shiftLeft]
    exact Nat.pow_lt_pow_right (by decide) h52
  have hb : ∀ m ∈ q.hands.set (mover q) (handOf q ^^^ (1 <<< c)), m < 2 ^ 52 := fun m hm => by
    rcases List.mem_or_eq_of_mem_set hm with hm | rfl
    · exact h.bits m hm
    · exact hx
  have hf := h.few
  unfold K70.next
  split
  · exact ⟨by rw [List.length_set]; exact h.len, hb, (fun _ z => nomatch z), Nat.mod_lt _ (by decide), by show 0 < 4; decide⟩
  · refine ⟨by rw [List.length_set]; exact h.len, hb, fun x hx => ?_, h.leader, ?_⟩
    · rcases List.mem_append.mp hx with hx | hx
      · exact h.led x hx
      · rw [List.mem_singleton.mp hx]; exact h52
    · show (q.led ++ [c]).length < 4
      rw [List.length_append, List.length_singleton]
      omega
/-- every hand has at most two cards -/
def Two (q : Pos) : Prop := ∀ m ∈ q.hands, count m ≤ 2
theorem Two.next {q : Pos} (h : Two q) (ok : PosOk q) {r c : Nat} (hc : c ∈ legal r q) : Two (next r q c) := by
  intro m hm
  rw [next_hands] at hm
  rcases List.mem_or_eq_of_mem_set hm with hm | rfl
  · exact h m hm
  · have h1 := count_xor (legal_sub hc)
    have h2 := h _ (getD_mem (l := q.hands) (i := mover q) (by rw [ok.len]; exact mover_lt q))
    unfold count handOf at *
    omega
theorem Two.few {q : Pos} (h : Two q) (ok : PosOk q) (r : Nat) : (legal r q).length ≤ 2 :=
  Nat.le_trans (legal_len r q) (h _ (getD_mem (l := q.hands) (i := mover q) (by rw [ok.len]; exact mover_lt q)))

/-! ### a play: a position and its past -/
structure PSt where
  s : Nat
  r : Nat
  pos : Pos
  w0 : Nat
  w1 : Nat
  hist : List (Nat × Nat)
  bef : List (Nat × List Nat × Nat × Nat)
/-- a card is put -/
def putSt (st : PSt) (c : Nat) : PSt :=
  { s := st.s, r := st.r, pos := next st.r st.pos c
    w0 := if st.pos.led.length = 3 ∧ winner st.r st.pos.trump st.pos.leader (st.pos.led ++ [c]) % 2 = 0 then st.w0 + 1 else st.w0
    w1 := if st.pos.led.length = 3 ∧ ¬ winner st.r st.pos.trump st.pos.leader (st.pos.led ++ [c]) % 2 = 0 then st.w1 + 1 else st.w1
    hist := st.hist ++ [(mover st.pos, c)], bef := st.bef ++ [(st.pos.leader, st.pos.led, st.w0, st.w1)] }
/-- the last card is taken back -/
def backSt (st : PSt) (h : List (Nat × Nat)) (pc : Nat × Nat) (b : List (Nat × List Nat × Nat × Nat)) (x : Nat × List Nat × Nat × Nat) : PSt :=
  { s := st.s, r := st.r, pos := ⟨st.pos.trump, st.pos.hands.set pc.1 (st.pos.hands.getD pc.1 0 ^^^ (1 <<< pc.2)), x.1, x.2.1⟩, w0 := x.2.2.1, w1 := x.2.2.2, hist := h, bef := b }
theorem back_put (st : PSt) (c : Nat) (h4 : st.pos.hands.length = 4) : backSt (putSt st c) st.hist (mover st.pos, c) st.bef (st.pos.leader, st.pos.led, st.w0, st.w1) = st := by
  obtain ⟨s, r, ⟨t, hs, l, le⟩, w0, w1, hi, be⟩ := st
  have hl : mover ⟨t, hs, l, le⟩ < hs.length := by
    have h4' : hs.length = 4 := h4
    rw [h4']
    exact mover_lt _
  unfold backSt putSt
  simp only [next_hands, next_trump]
  rw [getD_set _ _ _ _ hl, if_pos rfl, List.set_set, Nat.xor_assoc, Nat.xor_self, Nat.xor_zero]
  have e : hs.set (mover ⟨t, hs, l, le⟩) (handOf ⟨t, hs, l, le⟩) = hs := by
    unfold handOf
    rw [List.getD_eq_getElem?_getD, List.getElem?_eq_getElem hl]
    exact List.set_getElem_self _
  rw [e]
theorem gain_put (st : PSt) (c : Nat) : ((putSt st c).w0 : Int) - (st.w0 : Int) = gain st.r st.pos c := by
  unfold putSt gain
  by_cases h : st.pos.led.length = 3
  · by_cases z : winner st.r st.pos.trump st.pos.leader (st.pos.led ++ [c]) % 2 = 0
    · simp only [h, z, and_self, if_true]
      omega
    · simp only [h, z, and_false, if_false, if_true]
      omega
  · simp only [h, false_and, if_false]
    omega
end K70

namespace K70
/-! ### deals -/
structure DealOk (s r : Nat) (hs : List Nat) (size : Nat) : Prop where
  s1 : 1 ≤ s
  s4 : s ≤ 4
  r1 : 1 ≤ r
  r13 : r ≤ 13
  len : hs.length = 4
  bits : ∀ m ∈ hs, m < 2 ^ (s * r)
  disj : ∀ i j c, i < j → j < 4 → (hs.getD i 0).testBit c = true → (hs.getD j 0).testBit c = true → False
  cnt : ∀ m ∈ hs, count m = size
  pos : 0 < size
theorem DealOk.sr {s r : Nat} {hs : List Nat} {size : Nat} (h : DealOk s r hs size) : s * r ≤ 52 := Nat.mul_le_mul h.s4 h.r13
theorem DealOk.bits52 {s r : Nat} {hs : List Nat} {size : Nat} (h : DealOk s r hs size) : ∀ m ∈ hs, m < 2 ^ 52 := fun m hm => Nat.lt_of_lt_of_le (h.bits m hm) (Nat.pow_le_pow_right (by decide) h.sr)
def orAll (l : List Nat) : Nat := l.foldl (· ||| ·) 0
theorem test_orfold : ∀ (l : List Nat) (m c : Nat), (l.foldl (· ||| ·) m).testBit c = true ↔ m.testBit c = true ∨ ∃ x ∈ l, x.testBit c = true
  | [], m, c => by simp
  | x :: l, m, c => by
    rw [List.foldl_cons, test_orfold l, Nat.testBit_or]
    simp [or_assoc]
theorem test_orAll {l : List Nat} {c : Nat} : (orAll l).testBit c = true ↔ ∃ x ∈ l, x.testBit c = true := by
  unfold orAll
  rw [test_orfold]
  simp
theorem orAll_snoc (l : List Nat) (x : Nat) : orAll (l ++ [x]) = orAll l ||| x := by
  unfold orAll
  rw [List.foldl_append]
  rfl
theorem and_zero_of {a b : Nat} (h : ∀ c, a.testBit c = true → b.testBit c = true → False) : a &&& b = 0 := by
  apply Nat.eq_of_testBit_eq
  intro i
  rw [Nat.zero_testBit, Nat.testBit_and]
  cases e : a.testBit i <;> cases e' : b.testBit i <;> simp
  exact h i e e'
theorem getD_get {l : List Nat} {i x : Nat} (h : l[i]? = some x) : l.getD i 0 = x := by rw [List.getD_eq_getElem?_getD, h]; rfl
theorem DealOk.and_taken {s r : Nat} {hs : List Nat} {size : Nat} (h : DealOk s r hs size) {i m : Nat} (hi : hs[i]? = some m) : m &&& orAll (hs.take i) = 0 := by
  refine and_zero_of fun c h1 h2 => ?_
  obtain ⟨x, hx, h3⟩ := test_orAll.mp h2
  obtain ⟨j, hj, e⟩ := List.mem_take_iff_getElem.mp hx
  have hil : i < hs.length := (List.getElem?_eq_some_iff.mp hi).1
  have h4 := h.len
  refine h.disj j i c (by omega) (by omega) ?_ ?_
  · rw [getD_get (List.getElem?_eq_getElem (by omega)), e]; exact h3
  · rw [getD_get hi]; exact h1
/-- a play's beginning -/
def start (t : Int) (hs : List Nat) (l : Nat) : Pos := ⟨t, hs, l, []⟩
theorem DealOk.posOk {s r : Nat} {hs : List Nat} {size : Nat} (h : DealOk s r hs size) (t : Int) {l : Nat} (hl : l < 4) : PosOk (start t hs l) :=
  ⟨h.len, h.bits52, (fun _ z => nomatch z), hl, by show 0 < 4; decide⟩
theorem DealOk.total {s r : Nat} {hs : List Nat} {size : Nat} (h : DealOk s r hs size) (t : Int) (l : Nat) : K70.total (start t hs l) = 4 * size := by
  have h4 := h.len
  have hc := h.cnt
  unfold K70.total start
  match hs, h4, hc with
  | [a, b, c, d], _, hc =>
    have h1 := hc a (by simp)
    have h2 := hc b (by simp)
    have h3 := hc c (by simp)
    have h5 := hc d (by simp)
    simp only [List.map_cons, List.map_nil, List.sum_cons, List.sum_nil]
    omega
theorem DealOk.wf {s r : Nat} {hs : List Nat} {size : Nat} (h : DealOk s r hs size) (t : Int) (l : Nat) : WF (4 * size) (start t hs l) := by
  refine ⟨h.len, by show 0 < 4; decide, by show (4 * size + 0) % 4 = 0; omega, fun i hi => ?_⟩
  show count (hs.getD ((l + i) % 4) 0) = (4 * size + i) / 4
  rw [h.cnt _ (getD_mem (by show (l + i) % 4 < hs.length; rw [h.len]; exact Nat.mod_lt _ (by decide)))]
  omega
/-- side 0's share at the beginning -/
def share0 (r : Nat) (t : Int) (hs : List Nat) (l : Nat) : Int := share r (start t hs l)
end K70

namespace K70
/-! ### a deal, card by card -/
theorem or_bit {m c i : Nat} : (m ||| 1 <<< c).testBit i = true ↔ m.testBit i = true ∨ i = c := by
  rw [Nat.testBit_or, testBit_one_shl]
  by_cases e : c = i
  · subst e; simp
  · simp [e, Ne.symm e]
theorem count_or {m c : Nat} (h : m.testBit c = false) : count (m ||| 1 <<< c) = count m + 1 := by
  have hb : (m ||| 1 <<< c).testBit c = true := or_bit.mpr (.inr rfl)
  have e : (m ||| 1 <<< c) ^^^ (1 <<< c) = m := mask_ext fun i => by
    rw [test_xor hb, or_bit]
    constructor
    · rintro ⟨h1 | h1, h2⟩
      · exact h1
      · exact absurd h1 h2
    · intro h1
      refine ⟨.inl h1, fun z => ?_⟩
      subst z
      rw [h] at h1
      cases h1
  have := count_xor hb
  rw [e] at this
  unfold count
  omega
/-- k cards are dealt, those of L are left -/
structure Dealing (n k : Nat) (L hs : List Nat) : Prop where
  len : hs.length = 4
  nd : L.Nodup
  lt : ∀ c ∈ L, c < n
  ln : L.length + k = n
  bits : ∀ j, j < 4 → ∀ c, (hs.getD j 0).testBit c = true → c < n
  out : ∀ j, j < 4 → ∀ c, (hs.getD j 0).testBit c = true → c ∉ L
  disj : ∀ i j c, i < 4 → j < 4 → i ≠ j → (hs.getD i 0).testBit c = true → (hs.getD j 0).testBit c = true → False
  cnt : ∀ j, j < 4 → count (hs.getD j 0) = (k + 3 - j) / 4
theorem dealing_start (n : Nat) : Dealing n 0 (List.range n) [0, 0, 0, 0] := by
  have z : ∀ j, j < 4 → [0, 0, 0, 0].getD j 0 = 0 := fun j hj => by
    match j, hj with
    | 0, _ => rfl
    | 1, _ => rfl
    | 2, _ => rfl
    | 3, _ => rfl
  refine ⟨rfl, List.nodup_range, fun c hc => List.mem_range.mp hc, by simp, fun j hj c h => ?_, fun j hj c h => ?_, fun i j c hi hj _ h => ?_, fun j hj => ?_⟩
  · rw [z j hj] at h; simp at h
  · rw [z j hj] at h; simp at h
  · rw [z i hi] at h; simp at h
  · rw [z j hj]
    unfold count
    rw [cardsOf_zero]
    simp
    omega
theorem Dealing.step {n k : Nat} {L hs : List Nat} (h : Dealing n k L hs) {i c : Nat} (hi : L[i]? = some c) : Dealing n (k + 1) (L.eraseIdx i) (hs.set (k % 4) (hs.getD (k % 4) 0 ||| 1 <<< c)) := by
  have hk : k % 4 < 4 := Nat.mod_lt _ (by decide)
  have hm : c ∈ L := List.mem_of_getElem? hi
  have hil : i < L.length := (List.getElem?_eq_some_iff.mp hi).1
  have sub : ∀ x, x ∈ L.eraseIdx i → x ∈ L := fun x hx => (List.eraseIdx_sublist ..).mem hx
  have ce : c ∉ L.eraseIdx i := fun hx => by
    obtain ⟨j, hj, e⟩ := List.mem_eraseIdx_iff_getElem.mp hx
    have e2 : L[i] = c := (List.getElem?_eq_some_iff.mp hi).2
    obtain ⟨hne, e⟩ := e
    have hp := List.pairwise_iff_getElem.mp h.nd
    rcases Nat.lt_or_gt_of_ne hne with z | z
    · exact hp j i hj hil z (by rw [e, e2])
    · exact hp i j hil hj z (by rw [e, e2])
  have g : ∀ j, j < 4 → ∀ x, ((hs.set (k % 4) (hs.getD (k % 4) 0 ||| 1 <<< c)).getD j 0).testBit x = true ↔ (hs.getD j 0).testBit x = true ∨ (j = k % 4 ∧ x = c) := fun j hj x => by
    rw [getD_set _ _ _ _ (by rw [h.len]; exact hk)]
    by_cases e : k % 4 = j
    · rw [if_pos e, or_bit, e]
      simp
    · rw [if_neg e]
      simp [Ne.symm e]
  refine ⟨by rw [List.length_set]; exact h.len, (List.eraseIdx_sublist ..).nodup h.nd, fun x hx => h.lt x (sub x hx), ?_, fun j hj x hx => ?_, fun j hj x hx => ?_, fun a b x ha hb hab h1 h2 => ?_, fun j hj => ?_⟩
  · rw [List.length_eraseIdx_of_lt hil]
    have := h.ln
    omega
  · rcases (g j hj x).mp hx with z | ⟨_, rfl⟩
    · exact h.bits j hj x z
    · exact h.lt _ hm
  · rcases (g j hj x).mp hx with z | ⟨_, rfl⟩
    · exact fun w => h.out j hj x z (sub x w)
    · exact ce
  · rcases (g a ha x).mp h1 with z1 | ⟨e1, rfl⟩
    · rcases (g b hb x).mp h2 with z2 | ⟨e2, rfl⟩
      · exact h.disj a b x ha hb hab z1 z2
      · exact h.out a ha _ z1 hm
    · rcases (g b hb x).mp h2 with z2 | ⟨e2, _⟩
      · exact h.out b hb _ z2 hm
      · exact hab (e1.trans e2.symm)
  · rw [getD_set _ _ _ _ (by rw [h.len]; exact hk)]
    by_cases e : k % 4 = j
    · rw [if_pos e, count_or]
      · rw [e, h.cnt j hj]
        omega
      · cases ht : (hs.getD (k % 4) 0).testBit c with
        | false => rfl
        | true => exact absurd hm (h.out _ hk c ht)
    · rw [if_neg e, h.cnt j hj]
      omega
theorem Dealing.ok {s r size : Nat} {L hs : List Nat} (h : Dealing (s * r) (4 * size) L hs) (h1 : 1 ≤ s) (h2 : s ≤ 4) (h3 : 1 ≤ r) (h4 : r ≤ 13) (h5 : 0 < size) : DealOk s r hs size := by
  have ix : ∀ m ∈ hs, ∃ j, j < 4 ∧ hs.getD j 0 = m := fun m hm => by
    obtain ⟨j, hj, e⟩ := List.mem_iff_getElem.mp hm
    exact ⟨j, by rw [← h.len]; exact hj, by rw [List.getD_eq_getElem?_getD, List.getElem?_eq_getElem hj]; exact e⟩
  refine ⟨h1, h2, h3, h4, h.len, fun m hm => ?_, fun i j c hij hj a b => h.disj i j c (by omega) hj (by omega) a b, fun m hm => ?_, h5⟩
  · obtain ⟨j, hj, rfl⟩ := ix m hm
    exact lt_of_bits fun c hc => h.bits j hj c hc
  · obtain ⟨j, hj, rfl⟩ := ix m hm
    rw [h.cnt j hj]
    omega
end K70

namespace K70
/-! ### orders -/
def ins (n : Nat) (rest : List Nat) (at_ : Nat) : List Nat := rest.take at_ ++ [n] ++ rest.drop at_
def lawOrders : Nat → List (List Nat)
  | 0 => [[]]
  | n + 1 => (lawOrders n).flatMap fun rest => (List.range (n + 1)).map (ins n rest)
theorem ins_perm (n : Nat) (rest : List Nat) (i : Nat) : (ins n rest i).Perm (n :: rest) := by
  unfold ins
  rw [List.append_assoc]
  refine (List.perm_middle (l₁ := rest.take i) (a := n) (l₂ := rest.drop i)).trans ?_
  rw [List.take_append_drop]
theorem lawOrders_perm : ∀ (n : Nat) (o : List Nat), o ∈ lawOrders n → o.Perm (List.range n)
  | 0, o, h => by
    rw [lawOrders, List.mem_singleton] at h
    subst h
    exact .refl _
  | n + 1, o, h => by
    rw [lawOrders, List.mem_flatMap] at h
    obtain ⟨rest, hr, h⟩ := h
    obtain ⟨i, _, rfl⟩ := List.mem_map.mp h
    refine (ins_perm n rest i).trans (((lawOrders_perm n rest hr).cons n).trans ?_)
    rw [List.range_succ]
    exact List.perm_append_comm (l₁ := [n])
theorem lawOrders_len : ∀ n, n ≤ 4 → (lawOrders n).length ≤ 24
  | 0, _ => by decide
  | 1, _ => by decide
  | 2, _ => by decide
  | 3, _ => by decide
  | 4, _ => by decide
  | n + 5, h => by omega
theorem lawOrders_ne : ∀ n, lawOrders n ≠ []
  | 0 => List.cons_ne_nil _ _
  | n + 1 => by
    rw [lawOrders]
    intro h
    have := List.flatMap_eq_nil_iff.mp h
    cases e : lawOrders n with
    | nil => exact lawOrders_ne n e
    | cons x r =>
      have := this x (by rw [e]; exact List.mem_cons_self)
      rw [List.map_eq_nil_iff, List.range_succ] at this
      simp at this
end K70

namespace K70
/-! ### alike deals -/
def turnedL (hs : List Nat) (k : Nat) : List Nat := (List.range 4).map fun i => hs.getD ((i + 4 - k) % 4) 0
/-- the hands with each card by f -/
def moveHands (f : Nat → Nat) (hs : List Nat) : List Nat := hs.map fun m => maskOf ((cardsOf m).map f)
def suitF (r : Nat) (o : List Nat) (c : Nat) : Nat := o.getD (c / r) 0 * r + c % r
def withTrump (t : Int) (o : List Nat) : Int := if t < 0 then -1 else (o.getD t.toNat 0 : Nat)
def ordersOf : Nat → List Nat → List (List Nat)
  | 0, _ => [[]]
  | n + 1, l => (List.range (n + 1)).flatMap fun i => (ordersOf n (l.take i ++ l.drop (i + 1))).map (l.getD i 0 :: ·)
def suitCs (r t x : Nat) : List Nat := (cardsOf t).filter fun c => c / r == x
def sqF (r t rr : Nat) (c : Nat) : Nat := c / r * rr + (rr - (suitCs r t (c / r)).length + (suitCs r t (c / r)).idxOf c)
theorem nodup_lt_len {l : List Nat} {n : Nat} (h : l.Nodup) (hl : ∀ c ∈ l, c < n) : l.length ≤ n := by
  rw [← count_maskOf h, cardsOf_eq (maskOf_lt hl)]
  unfold bitsBelow
  have := List.length_filter_le (fun c => (maskOf l).testBit c) (List.range n)
  rw [List.length_range] at this
  exact this
theorem suitCs_nodup (r t x : Nat) : (suitCs r t x).Nodup := (List.filter_sublist).nodup (nodup_cards t)
theorem mem_suitCs {r t x c : Nat} : c ∈ suitCs r t x ↔ t.testBit c = true ∧ c / r = x := by
  unfold suitCs
  rw [List.mem_filter, mem_cardsOf, beq_iff_eq]
theorem suitCs_len {r t x : Nat} (hr : 0 < r) : (suitCs r t x).length ≤ r := by
  have h : ((suitCs r t x).map (· % r)).Nodup := nodup_map_on (suitCs_nodup r t x) fun a ha b hb e => by
    have h1 := (mem_suitCs.mp ha).2
    have h2 := (mem_suitCs.mp hb).2
    have e1 := Nat.div_add_mod a r
    have e2 := Nat.div_add_mod b r
    rw [h1] at e1
    rw [h2] at e2
    have e : a % r = b % r := e
    omega
  have := nodup_lt_len h fun c hc => by
    obtain ⟨d, _, rfl⟩ := List.mem_map.mp hc
    exact Nat.mod_lt _ hr
  rw [List.length_map] at this
  exact this
theorem ordersOf_len : ∀ (n : Nat) (l : List Nat), n ≤ 4 → (ordersOf n l).length ≤ 24
  | 0, _, _ => by show 1 ≤ 24; decide
  | 1, _, _ => by show 1 ≤ 24; decide
  | 2, _, _ => by show 2 ≤ 24; decide
  | 3, _, _ => by show 6 ≤ 24; decide
  | 4, _, _ => by show 24 ≤ 24; decide
  | n + 5, _, h => by omega
theorem ordersOf_perm : ∀ (n : Nat) (l o : List Nat), l.length = n → o ∈ ordersOf n l → o.Perm l
  | 0, l, o, hl, h => by
    rw [ordersOf, List.mem_singleton] at h
    subst h
    rw [List.eq_nil_of_length_eq_zero hl]
  | n + 1, l, o, hl, h => by
    rw [ordersOf, List.mem_flatMap] at h
    obtain ⟨i, hi, h⟩ := h
    rw [List.mem_range] at hi
    obtain ⟨o', ho, rfl⟩ := List.mem_map.mp h
    have hlen : (l.take i ++ l.drop (i + 1)).length = n := by
      rw [List.length_append, List.length_take, List.length_drop]
      omega
    have ih := ordersOf_perm n _ _ hlen ho
    refine (ih.cons _).trans ?_
    have hil : i < l.length := by omega
    have e : l = l.take i ++ l.getD i 0 :: l.drop (i + 1) := by
      rw [List.getD_eq_getElem?_getD, List.getElem?_eq_getElem hil]
      show l = l.take i ++ l[i] :: l.drop (i + 1)
      rw [← List.drop_eq_getElem_cons hil, List.take_append_drop]
    conv => rhs; rw [e]
    exact (List.perm_middle).symm
theorem ordersOf_ne : ∀ (n : Nat) (l : List Nat), ordersOf n l ≠ []
  | 0, _ => List.cons_ne_nil _ _
  | n + 1, l => fun h => by
    rw [ordersOf, List.flatMap_eq_nil_iff] at h
    have := h 0 (List.mem_range.mpr (Nat.succ_pos n))
    exact ordersOf_ne n _ (List.map_eq_nil_iff.mp this)
/-- each item stands at each place in some order -/
theorem ordersOf_at : ∀ (n : Nat) (l : List Nat) (x t : Nat), l.length = n → x ∈ l → t < n → ∃ o ∈ ordersOf n l, o.getD t 0 = x
  | 0, _, _, _, _, _, h => absurd h (Nat.not_lt_zero _)
  | n + 1, l, x, t, hl, hx, ht => by
    obtain ⟨j, hj, e⟩ := List.mem_iff_getElem.mp hx
    have hlen : ∀ i, i ≤ n → (l.take i ++ l.drop (i + 1)).length = n := fun i hi => by
      rw [List.length_append, List.length_take, List.length_drop]
      omega
    cases t with
    | zero =>
      obtain ⟨o, ho⟩ := List.exists_mem_of_ne_nil _ (ordersOf_ne n (l.take j ++ l.drop (j + 1)))
      refine ⟨l.getD j 0 :: o, ?_, ?_⟩
      · rw [ordersOf, List.mem_flatMap]
        exact ⟨j, List.mem_range.mpr (by omega), List.mem_map.mpr ⟨o, ho, rfl⟩⟩
      · show l.getD j 0 = x
        rw [List.getD_eq_getElem?_getD, List.getElem?_eq_getElem hj]
        exact e
    | succ t =>
      have key : ∀ i, i ≠ j → i ≤ n → ∃ o ∈ ordersOf (n + 1) l, o.getD (t + 1) 0 = x := fun i hij hi => by
        have hm : x ∈ l.take i ++ l.drop (i + 1) := by
          rw [List.mem_append]
          rcases Nat.lt_or_gt_of_ne hij with z | z
          · right
            rw [List.mem_drop_iff_getElem]
            exact ⟨j - (i + 1), by omega, by rw [← e]; congr 1; omega⟩
          · left
            rw [List.mem_take_iff_getElem]
            exact ⟨j, by omega, e⟩
        obtain ⟨o, ho, eo⟩ := ordersOf_at n _ x t (hlen i hi) hm (by omega)
        refine ⟨l.getD i 0 :: o, ?_, eo⟩
        rw [ordersOf, List.mem_flatMap]
        exact ⟨i, List.mem_range.mpr (by omega), List.mem_map.mpr ⟨o, ho, rfl⟩⟩
      by_cases z : j = 0
      · exact key 1 (by omega) (by omega)
      · exact key 0 (by omega) (by omega)
end K70

namespace K70
/-! ### alike deals have the same shares -/
/-- the cards that are in the deal -/
def inDeal (hs : List Nat) (c : Nat) : Prop := (orAll hs).testBit c = true
theorem inDeal_of {hs : List Nat} (h4 : hs.length = 4) {i c : Nat} (hi : i < 4) (h : (hs.getD i 0).testBit c = true) : inDeal hs c := test_orAll.mpr ⟨_, getD_mem (by omega), h⟩
theorem move_getD {f : Nat → Nat} {hs : List Nat} {i : Nat} (hi : i < hs.length) : (moveHands f hs).getD i 0 = maskOf ((cardsOf (hs.getD i 0)).map f) := by
  unfold moveHands
  rw [List.getD_eq_getElem?_getD, List.getElem?_map, List.getD_eq_getElem?_getD, List.getElem?_eq_getElem hi]
  rfl
theorem move_bit {f : Nat → Nat} {hs : List Nat} {i c' : Nat} (hi : i < hs.length) : ((moveHands f hs).getD i 0).testBit c' = true ↔ ∃ c, (hs.getD i 0).testBit c = true ∧ f c = c' := by
  rw [move_getD hi, test_maskOf, List.mem_map]
  exact ⟨fun ⟨c, h, e⟩ => ⟨c, mem_cardsOf.mp h, e⟩, fun ⟨c, h, e⟩ => ⟨c, mem_cardsOf.mpr h, e⟩⟩
theorem DealOk.move {s r s' r' : Nat} {hs : List Nat} {size : Nat} (h : DealOk s r hs size) {f : Nat → Nat} (h1 : 1 ≤ s') (h2 : s' ≤ 4) (h3 : 1 ≤ r') (h4 : r' ≤ 13) (hf : ∀ c, inDeal hs c → f c < s' * r') (inj : ∀ a b, inDeal hs a → inDeal hs b → f a = f b → a = b) :
    DealOk s' r' (moveHands f hs) size := by
  have hl := h.len
  have hin : ∀ m ∈ hs, ∀ c, c ∈ cardsOf m → inDeal hs c := fun m hm c hc => test_orAll.mpr ⟨m, hm, mem_cardsOf.mp hc⟩
  refine ⟨h1, h2, h3, h4, by unfold moveHands; rw [List.length_map]; exact hl, fun m hm => ?_, fun i j c hij hj a b => ?_, fun m hm => ?_, h.pos⟩
  · obtain ⟨x, hx, rfl⟩ := List.mem_map.mp hm
    refine maskOf_lt fun c hc => ?_
    obtain ⟨b, hb, rfl⟩ := List.mem_map.mp hc
    exact hf b (hin x hx b hb)
  · obtain ⟨x, hx, ex⟩ := (move_bit (by omega)).mp a
    obtain ⟨y, hy, ey⟩ := (move_bit (by omega)).mp b
    have e := inj x y (inDeal_of hl (by omega) hx) (inDeal_of hl hj hy) (ex.trans ey.symm)
    subst e
    exact h.disj i j x hij hj hx hy
  · obtain ⟨x, hx, rfl⟩ := List.mem_map.mp hm
    unfold count
    rw [count_maskOf (nodup_map_on (nodup_cards x) fun a ha b hb e => inj a b (hin x hx a ha) (hin x hx b hb) e), List.length_map]
    exact h.cnt x hx
theorem share_of {s r : Nat} {hs : List Nat} {size : Nat} (h : DealOk s r hs size) (t : Int) (l : Nat) : share0 r t hs l = val r (4 * size) (start t hs l) := by
  unfold share0 share
  rw [h.total]
theorem share_move {s r s' r' : Nat} {hs : List Nat} {size : Nat} (h : DealOk s r hs size) {f : Nat → Nat} {t t' : Int} (I : Iso f (inDeal hs) r r' t t') (h' : DealOk s' r' (moveHands f hs) size) {l : Nat} (hl : l < 4) : share0 r' t' (moveHands f hs) l = share0 r t hs l := by
  have h4 := h.len
  have L : Like f (inDeal hs) 0 (start t hs l) (start t' (moveHands f hs) l) := by
    refine ⟨by show l = (l + 0) % 4; omega, rfl, (fun _ z => nomatch z), h4, h'.len, fun i hi c' => ?_, fun i hi c hc => inDeal_of h4 hi hc⟩
    show ((moveHands f hs).getD ((i + 0) % 4) 0).testBit c' = true ↔ _
    rw [show (i + 0) % 4 = i by omega]
    exact move_bit (by omega)
  rw [share_of h, share_of h']
  have := val_like I (4 * size) _ _ L (h.wf t l) rfl rfl
  rw [if_pos rfl] at this
  exact this
/-! ### turned -/
theorem turned_getD {hs : List Nat} {k i : Nat} (hi : i < 4) : (turnedL hs k).getD i 0 = hs.getD ((i + 4 - k) % 4) 0 := by
  unfold turnedL
  rw [List.getD_eq_getElem?_getD, List.getElem?_map, List.getElem?_eq_getElem (by rw [List.length_range]; exact hi), List.getElem_range]
  rfl
theorem DealOk.turned {s r : Nat} {hs : List Nat} {size : Nat} (h : DealOk s r hs size) {k : Nat} (hk : k ≤ 4) : DealOk s r (turnedL hs k) size := by
  have hl := h.len
  have hm : ∀ m ∈ turnedL hs k, m ∈ hs := fun m hm => by
    obtain ⟨i, _, rfl⟩ := List.mem_map.mp hm
    exact getD_mem (by rw [hl]; exact Nat.mod_lt _ (by decide))
  refine ⟨h.s1, h.s4, h.r1, h.r13, by unfold turnedL; rw [List.length_map, List.length_range], fun m m' => h.bits m (hm m m'), fun i j c hij hj a b => ?_, fun m m' => h.cnt m (hm m m'), h.pos⟩
  rw [turned_getD (by omega)] at a b
  rcases Nat.lt_or_gt_of_ne (show (i + 4 - k) % 4 ≠ (j + 4 - k) % 4 by omega) with z | z
  · exact h.disj _ _ c z (Nat.mod_lt _ (by decide)) a b
  · exact h.disj _ _ c z (Nat.mod_lt _ (by decide)) b a
theorem share_turned {s r : Nat} {hs : List Nat} {size : Nat} (h : DealOk s r hs size) {k l : Nat} (hk : k ≤ 4) (hl : l < 4) (t : Int) : share0 r t (turnedL hs k) ((l + k) % 4) = if k % 2 = 0 then share0 r t hs l else (size : Int) - share0 r t hs l := by
  have h4 := h.len
  have h' := h.turned hk
  have I : Iso id (inDeal hs) r r t t := ⟨fun _ _ _ _ => Iff.rfl, fun _ _ _ _ _ => Iff.rfl, fun _ _ => Iff.rfl⟩
  have L : Like id (inDeal hs) k (start t hs l) (start t (turnedL hs k) ((l + k) % 4)) := by
    refine ⟨rfl, rfl, (fun _ z => nomatch z), h4, h'.len, fun i hi c' => ?_, fun i hi c hc => inDeal_of h4 hi hc⟩
    show ((turnedL hs k).getD ((i + k) % 4) 0).testBit c' = true ↔ _
    rw [turned_getD (Nat.mod_lt _ (by decide)), show ((i + k) % 4 + 4 - k) % 4 = i by omega]
    exact ⟨fun z => ⟨c', z, rfl⟩, fun ⟨c, z, e⟩ => by
      have e : c = c' := e
      rw [← e]
      exact z⟩
  rw [share_of h, share_of h']
  have := val_like I (4 * size) _ _ L (h.wf t l) rfl rfl
  rw [show (4 * size + 3) / 4 = size by omega] at this
  exact this
/-! ### other suits -/
theorem perm_lt {o : List Nat} {s : Nat} (h : o.Perm (List.range s)) : ∀ x ∈ o, x < s := fun x hx => List.mem_range.mp (h.mem_iff.mp hx)
theorem perm_inj {o : List Nat} {s : Nat} (h : o.Perm (List.range s)) {i j : Nat} (hi : i < s) (hj : j < s) (e : o.getD i 0 = o.getD j 0) : i = j := by
  have hl : o.length = s := by rw [h.length_eq, List.length_range]
  have hn : o.Nodup := h.nodup_iff.mpr List.nodup_range
  rw [List.getD_eq_getElem?_getD, List.getD_eq_getElem?_getD, List.getElem?_eq_getElem (by omega), List.getElem?_eq_getElem (by omega)] at e
  exact (List.getElem_inj hn).mp e
theorem suitF_div {r : Nat} {o : List Nat} (hr : 0 < r) (c : Nat) : suitF r o c / r = o.getD (c / r) 0 := by
  unfold suitF
  rw [Nat.mul_comm, Nat.mul_add_div hr, Nat.div_eq_of_lt (Nat.mod_lt _ hr), Nat.add_zero]
theorem suitF_mod {r : Nat} {o : List Nat} (c : Nat) : suitF r o c % r = c % r := by
  unfold suitF
  rw [Nat.mul_comm, Nat.mul_add_mod, Nat.mod_mod]
theorem DealOk.div {s r : Nat} {hs : List Nat} {size : Nat} (h : DealOk s r hs size) {c : Nat} (hc : inDeal hs c) : c / r < s := by
  obtain ⟨m, hm, hb⟩ := test_orAll.mp hc
  have := bit_lt (h.bits m hm) hb
  exact Nat.div_lt_of_lt_mul (by rw [Nat.mul_comm]; exact this)
theorem suits_iso {s r : Nat} {hs : List Nat} {size : Nat} (h : DealOk s r hs size) {o : List Nat} (ho : o.Perm (List.range s)) {t : Int} (h1 : -1 ≤ t) (h2 : t < s) : Iso (suitF r o) (inDeal hs) r r t (withTrump t o) := by
  have hr : 0 < r := h.r1
  refine ⟨fun a b ha hb => ?_, fun a b ha hb e => ?_, fun a ha => ?_⟩
  · rw [suitF_div hr, suitF_div hr]
    exact ⟨fun e => by rw [e], fun e => perm_inj ho (h.div ha) (h.div hb) e⟩
  · have e1 := Nat.div_add_mod a r
    have e2 := Nat.div_add_mod b r
    unfold suitF
    rw [e] at e1 ⊢
    omega
  · rw [suitF_div hr]
    unfold withTrump
    have hd := h.div ha
    generalize a / r = x at hd
    by_cases z : t < 0
    · rw [if_pos z]
      constructor
      · intro e; omega
      · intro e; omega
    · rw [if_neg z]
      constructor
      · intro e
        have : t.toNat = x := by omega
        rw [this]
      · intro e
        have e2 : o.getD x 0 = o.getD t.toNat 0 := by omega
        have := perm_inj ho hd (by omega) e2
        omega
theorem suits_ok {s r : Nat} {hs : List Nat} {size : Nat} (h : DealOk s r hs size) {o : List Nat} (ho : o.Perm (List.range s)) : DealOk s r (moveHands (suitF r o) hs) size := by
  have hr : 0 < r := h.r1
  have hl : o.length = s := by rw [ho.length_eq, List.length_range]
  refine h.move h.s1 h.s4 h.r1 h.r13 (fun c hc => ?_) (fun a b ha hb e => ?_)
  · have hx : o.getD (c / r) 0 < s := perm_lt ho _ (getD_mem (by rw [hl]; exact h.div hc))
    have hm := Nat.mod_lt c hr
    have : (o.getD (c / r) 0 + 1) * r ≤ s * r := Nat.mul_le_mul_right _ hx
    rw [Nat.add_mul, Nat.one_mul] at this
    unfold suitF
    omega
  · have e1 := suitF_div (o := o) hr a
    have e2 := suitF_div (o := o) hr b
    have m1 := suitF_mod (r := r) (o := o) a
    have m2 := suitF_mod (r := r) (o := o) b
    rw [e] at e1 m1
    have hd := perm_inj ho (h.div ha) (h.div hb) (e1.symm.trans e2)
    have f1 := Nat.div_add_mod a r
    have f2 := Nat.div_add_mod b r
    rw [hd] at f1
    omega
theorem share_suits {s r : Nat} {hs : List Nat} {size : Nat} (h : DealOk s r hs size) {o : List Nat} (ho : o.Perm (List.range s)) {t : Int} (h1 : -1 ≤ t) (h2 : t < s) {l : Nat} (hl : l < 4) : share0 r (withTrump t o) (moveHands (suitF r o) hs) l = share0 r t hs l :=
  share_move h (suits_iso h ho h1 h2) (suits_ok h ho) hl
theorem withTrump_bounds {s : Nat} {o : List Nat} (ho : o.Perm (List.range s)) {t : Int} (h1 : -1 ≤ t) (h2 : t < s) : -1 ≤ withTrump t o ∧ withTrump t o < s := by
  have hl : o.length = s := by rw [ho.length_eq, List.length_range]
  unfold withTrump
  by_cases z : t < 0
  · rw [if_pos z]
    omega
  · rw [if_neg z]
    have := perm_lt ho _ (getD_mem (l := o) (i := t.toNat) (by omega))
    omega
/-! ### squeezed -/
theorem suitCs_sorted (r t x : Nat) : (suitCs r t x).Pairwise (· < ·) := by
  unfold suitCs cardsOf bitsBelow
  exact ((List.pairwise_lt_range).filter _).filter _
theorem idx_lt {l : List Nat} (h : l.Pairwise (· < ·)) {a b : Nat} (ha : a ∈ l) (hb : b ∈ l) : a < b ↔ l.idxOf a < l.idxOf b := by
  have la := List.idxOf_lt_length_of_mem ha
  have lb := List.idxOf_lt_length_of_mem hb
  have ga : l[l.idxOf a] = a := List.getElem_idxOf la
  have gb : l[l.idxOf b] = b := List.getElem_idxOf lb
  have hp := List.pairwise_iff_getElem.mp h
  constructor
  · intro e
    rcases Nat.lt_trichotomy (l.idxOf a) (l.idxOf b) with z | z | z
    · exact z
    · exfalso
      have : l[l.idxOf a] = l[l.idxOf b] := by congr 1
      omega
    · have := hp _ _ lb la z
      omega
  · intro e
    have := hp _ _ la lb e
    omega
/-- every suit's cards fit -/
def Fits (s r rr : Nat) (hs : List Nat) : Prop := ∀ x, x < s → (suitCs r (orAll hs) x).length ≤ rr
theorem sq_div {s r rr : Nat} {hs : List Nat} {size : Nat} (h : DealOk s r hs size) (hr : 0 < rr) (hf : Fits s r rr hs) {c : Nat} (hc : inDeal hs c) : sqF r (orAll hs) rr c / rr = c / r := by
  have h1 : c ∈ suitCs r (orAll hs) (c / r) := mem_suitCs.mpr ⟨hc, rfl⟩
  have h2 := List.idxOf_lt_length_of_mem h1
  have h3 := hf _ (h.div hc)
  unfold sqF
  have e : (rr - (suitCs r (orAll hs) (c / r)).length + (suitCs r (orAll hs) (c / r)).idxOf c) / rr = 0 := Nat.div_eq_of_lt (by omega)
  rw [Nat.mul_comm, Nat.mul_add_div hr, e, Nat.add_zero]
theorem sq_iso {s r rr : Nat} {hs : List Nat} {size : Nat} (h : DealOk s r hs size) (hr : 0 < rr) (hf : Fits s r rr hs) (t : Int) : Iso (sqF r (orAll hs) rr) (inDeal hs) r rr t t := by
  refine ⟨fun a b ha hb => ?_, fun a b ha hb e => ?_, fun a ha => ?_⟩
  · rw [sq_div h hr hf ha, sq_div h hr hf hb]
  · have h1 : a ∈ suitCs r (orAll hs) (b / r) := mem_suitCs.mpr ⟨ha, e⟩
    have h2 : b ∈ suitCs r (orAll hs) (b / r) := mem_suitCs.mpr ⟨hb, rfl⟩
    have := idx_lt (suitCs_sorted r (orAll hs) (b / r)) h1 h2
    unfold sqF
    rw [e]
    omega
  · rw [sq_div h hr hf ha]
theorem sq_ok {s r rr : Nat} {hs : List Nat} {size : Nat} (h : DealOk s r hs size) (hr : 1 ≤ rr) (h13 : rr ≤ 13) (hf : Fits s r rr hs) : DealOk s rr (moveHands (sqF r (orAll hs) rr) hs) size := by
  refine h.move h.s1 h.s4 hr h13 (fun c hc => ?_) (fun a b ha hb e => (sq_iso h hr hf 0).inj ha hb e)
  have h1 : c ∈ suitCs r (orAll hs) (c / r) := mem_suitCs.mpr ⟨hc, rfl⟩
  have h2 := List.idxOf_lt_length_of_mem h1
  have hd := h.div hc
  have h3 := hf _ hd
  have : (c / r + 1) * rr ≤ s * rr := Nat.mul_le_mul_right _ hd
  rw [Nat.add_mul, Nat.one_mul] at this
  unfold sqF
  omega
theorem share_sq {s r rr : Nat} {hs : List Nat} {size : Nat} (h : DealOk s r hs size) (hr : 1 ≤ rr) (h13 : rr ≤ 13) (hf : Fits s r rr hs) (t : Int) {l : Nat} (hl : l < 4) : share0 rr t (moveHands (sqF r (orAll hs) rr) hs) l = share0 r t hs l :=
  share_move h (sq_iso h hr hf t) (sq_ok h hr h13 hf) hl
/-! ### the standard form -/
theorem share_standard {s r rr : Nat} {hs : List Nat} {size : Nat} (h : DealOk s r hs size) {l : Nat} (hl : l < 4) (hr : 1 ≤ rr) (h13 : rr ≤ 13) (hf : Fits s r rr (turnedL hs ((4 - l) % 4))) {o : List Nat} (ho : o.Perm (List.range s)) {t : Int} (h1 : -1 ≤ t) (h2 : t < s) :
    DealOk s rr (moveHands (suitF rr o) (moveHands (sqF r (orAll (turnedL hs ((4 - l) % 4))) rr) (turnedL hs ((4 - l) % 4)))) size ∧
    share0 rr (withTrump t o) (moveHands (suitF rr o) (moveHands (sqF r (orAll (turnedL hs ((4 - l) % 4))) rr) (turnedL hs ((4 - l) % 4)))) 0 = if l % 2 = 0 then share0 r t hs l else (size : Int) - share0 r t hs l := by
  have hk : (4 - l) % 4 ≤ 4 := by omega
  have d1 := h.turned hk
  have d2 := sq_ok d1 hr h13 hf
  refine ⟨suits_ok d2 ho, ?_⟩
  rw [share_suits d2 ho h1 h2 (by decide), share_sq d1 hr h13 hf t (by decide)]
  have := share_turned h hk hl t
  rw [show (l + (4 - l) % 4) % 4 = 0 by omega] at this
  rw [this]
  by_cases z : l % 2 = 0
  · rw [if_pos z, if_pos (by omega)]
  · rw [if_neg z, if_neg (by omega)]
end K70

/-! The words of the walk: the text by places, a def of the top by its name, operators on natural numbers, heaps. -/
namespace KW
open PySem PySem.Spec PyProof.Rows L2

/-! ### the text -/
def topS (i : Nat) : Stmt := PySem.Challenge.pw_finesse_k70_whole_alike_deals_have_the_s.main.body.getD i (.Pass ⟨0, 0, 0, 0⟩)

/-! ### values -/
abbrev nv (n : Nat) : V := .int (n : Int)
abbrev nvs (l : List Nat) : List V := l.map nv
theorem nv_get {l : List Nat} {i : Nat} {x : V} (h : (nvs l)[i]? = some x) : ∃ n, l[i]? = some n ∧ x = nv n := by
  rw [List.getElem?_map] at h
  cases e : l[i]? with
  | none => rw [e] at h; cases h
  | some n => rw [e] at h; exact ⟨n, rfl, (Option.some.inj h).symm⟩
theorem nvs_at {l : List Nat} {i n : Nat} (h : l[i]? = some n) : (nvs l)[i]? = some (nv n) := by
  rw [List.getElem?_map, h]; rfl
theorem nvs_len (l : List Nat) : (nvs l).length = l.length := List.length_map _
theorem small64 {n : Nat} (h : n ≤ 4096) : n ≤ sizeLine := Nat.le_trans h (by rw [sizeLine_eq]; decide)
theorem small64' {n : Nat} (h : n ≤ 4096) : n < sizeLine := Nat.lt_of_le_of_lt h (by rw [sizeLine_eq]; decide)

/-! ### heaps: all but M as it was -/
theorem _root_.L2.Same.newK {H : Hp} {p : Addr} {o : HO} (h : H p = none) : Same H (upd H p o) := fun b u q => by rw [upd_ne (ne_of_none q h)]; exact q
theorem _root_.L2.Same.tupK {K : PySem.W.Frag} {H H' : Hp} {a : Addr} {xs : List V} (e : Same H H') (h : SqT K H a xs) : SqT K H' a xs := by
  rcases h with (h | ⟨o, h⟩) | h
  · exact .inl (.inl (e _ _ h))
  · exact .inl (.inr ⟨o, e _ _ h⟩)
  · exact .inr h
theorem _root_.L2.Same.mutK {H H' : Hp} {p : Addr} {o : HO} (e : Same H H') (h : H p = none) : Same H (upd H' p o) := fun a u ha => by
  rw [upd_ne (ne_of_none ha h)]
  exact e a u ha

/-! ### operators on natural numbers -/
def rN (C : Nat → Nat → Prop) (g : Nat → Nat → V) : R2 := fun x y H Q => ∃ m k : Nat, x = nv m ∧ y = nv k ∧ C m k ∧ Q (g m k) H
def rN0 (g : Nat → Nat → V) : R2 := fun x y H Q => ∃ m k : Nat, x = nv m ∧ y = nv k ∧ Q (g m k) H
section
variable {X : Cx}
theorem opN {f : Value → Value → Sem Value} {C : Int → Int → Prop} {g : Int → Int → V} {C' : Nat → Nat → Prop} {g' : Nat → Nat → V} (h : OpR X f (rI C g)) (hc : ∀ m k : Nat, C' m k → C m k) (e : ∀ m k : Nat, C' m k → g m k = g' m k) : OpR X f (rN C' g') := by
  intro pins s σ H x y u v Q I rx ry q
  obtain ⟨m, k, rfl, rfl, c, q⟩ := q
  exact h pins s σ H _ _ u v Q I rx ry ⟨m, k, rfl, rfl, hc m k c, by rw [e m k c]; exact q⟩
theorem opN0 {f : Value → Value → Sem Value} {g : Int → Int → V} {g' : Nat → Nat → V} (h : OpR X f (rI0 g)) (e : ∀ m k : Nat, g m k = g' m k) : OpR X f (rN0 g') := by
  intro pins s σ H x y u v Q I rx ry q
  obtain ⟨m, k, rfl, rfl, q⟩ := q
  exact h pins s σ H _ _ u v Q I rx ry ⟨m, k, rfl, rfl, by rw [e m k]; exact q⟩
theorem op_addN : OpR X (binaryOp .Add) (rN0 fun m k => nv (m + k)) := opN0 op_add fun m k => by rw [← Int.natCast_add]
theorem op_subN : OpR X (binaryOp .Sub) (rN (fun m k => k ≤ m) fun m k => nv (m - k)) := by
  intro pins s σ H x y u v Q I rx ry q
  obtain ⟨m, k, rfl, rfl, c, q⟩ := q
  refine op_sub pins s σ H _ _ u v Q I rx ry ⟨m, k, rfl, rfl, ?_⟩
  show Q (V.int ((m : Int) - (k : Int))) H
  rw [← Int.natCast_sub c]
  exact q
theorem op_mulN : OpR X (binaryOp .Mult) (rN (fun m _ => m < 2 ^ 60) fun m k => nv (m * k)) := opN op_mul (fun m k h => .inl ⟨by have : (0 : Int) ≤ m := Int.natCast_nonneg m; omega, by
  have : (m : Int) < ((2 ^ 60 : Nat) : Int) := Int.ofNat_lt.mpr h
  have e : ((2 ^ 60 : Nat) : Int) ≤ 2 ^ 64 := by decide
  omega⟩) fun m k _ => by rw [← Int.natCast_mul]
theorem op_fdivNN : OpR X (binaryOp .FloorDiv) (rN (fun _ k => 0 < k ∧ k < 1073741824) fun m k => nv (m / k)) := opN op_fdiv (fun m k h => ⟨by omega, by omega⟩) fun m k _ => by rw [← Int.natCast_ediv]
theorem op_modNN : OpR X (binaryOp .Mod) (rN (fun _ k => 0 < k) fun m k => nv (m % k)) := opN op_mod (fun m k h => by omega) fun m k _ => by rw [← Int.natCast_emod]
theorem op_shlN : OpR X (binaryOp .LShift) (rN (fun m k => m < 2 ^ 60 ∧ k ≤ 1000000) fun m k => nv (m <<< k)) := opN op_shl (fun m k h => ⟨Int.natCast_nonneg _, by omega, by
  rw [Int.natAbs_natCast]
  exact Nat.lt_of_lt_of_le h.1 (by decide)⟩) fun m k _ => by
  show V.int _ = V.int _
  rw [Int.toNat_natCast, Nat.shiftLeft_eq, Int.natCast_mul, Int.natCast_pow]
  rfl
theorem op_shrN : OpR X (binaryOp .RShift) (rN0 fun m k => nv (m >>> k)) := by
  intro pins s σ H x y u v Q I rx ry q
  obtain ⟨m, k, rfl, rfl, q⟩ := q
  refine op_shr pins s σ H _ _ u v Q I rx ry ⟨m, k, rfl, rfl, Int.natCast_nonneg _, ?_⟩
  have e : (m : Int) / 2 ^ ((k : Int)).toNat = ((m >>> k : Nat) : Int) := by
    rw [Int.toNat_natCast, Nat.shiftRight_eq_div_pow, Int.natCast_ediv, Int.natCast_pow]
    rfl
  show Q (V.int ((m : Int) / 2 ^ ((k : Int)).toNat)) H
  rw [e]
  exact q
theorem op_andN : OpR X (binaryOp .BitAnd) (rN0 fun m k => nv (m &&& k)) := opN0 op_and fun m k => by rw [bitAnd_pp (Int.natCast_nonneg _) (Int.natCast_nonneg _), Int.toNat_natCast, Int.toNat_natCast]
theorem op_orN : OpR X (binaryOp .BitOr) (rN0 fun m k => nv (m ||| k)) := opN0 op_or fun m k => by rw [Bits.bitOr_pp (Int.natCast_nonneg _) (Int.natCast_nonneg _), Int.toNat_natCast, Int.toNat_natCast]
theorem op_xorN : OpR X (binaryOp .BitXor) (rN0 fun m k => nv (m ^^^ k)) := opN0 op_xor fun m k => by rw [Bits.bitXor_pp (Int.natCast_nonneg _) (Int.natCast_nonneg _), Int.toNat_natCast, Int.toNat_natCast]
theorem op_ltN : OpR X (compareOp .Lt) (rN0 fun m k => .bl (decide (m < k))) := opN0 op_lt fun m k => by
  show V.bl _ = V.bl _
  congr 1
  exact decide_eq_decide.mpr Int.ofNat_lt
theorem op_gtN : OpR X (compareOp .Gt) (rN0 fun m k => .bl (decide (k < m))) := opN0 op_gt fun m k => by
  show V.bl _ = V.bl _
  congr 1
  exact decide_eq_decide.mpr Int.ofNat_lt
theorem op_eqN : OpR X (compareOp .Eq) (rN0 fun m k => .bl (decide (m = k))) := by
  intro pins s σ H x y u v Q I rx ry q
  obtain ⟨m, k, rfl, rfl, q⟩ := q
  refine op_eq pins s σ H _ _ u v Q I rx ry ⟨rfl, ?_⟩
  have e : decide (nv m = nv k) = decide (m = k) := decide_eq_decide.mpr ⟨fun z => by have := V.int.inj z; omega, fun z => by rw [z]⟩
  rw [e]
  exact q
theorem op_neN : OpR X (compareOp .NotEq) (rN0 fun m k => .bl (!decide (m = k))) := by
  intro pins s σ H x y u v Q I rx ry q
  obtain ⟨m, k, rfl, rfl, q⟩ := q
  refine op_ne pins s σ H _ _ u v Q I rx ry ⟨rfl, ?_⟩
  have e : decide (nv m = nv k) = decide (m = k) := decide_eq_decide.mpr ⟨fun z => by have := V.int.inj z; omega, fun z => by rw [z]⟩
  rw [e]
  exact q
/-- x.bit_length() of a natural number -/
def tBitsN (to : TE) : TE := fun σ H Q => to σ H fun x H1 => ∃ m : Nat, x = nv m ∧ Q (nv (if m = 0 then 0 else m.log2 + 1)) H1
theorem pe_bitsN {o : Expr} {to : TE} {apos pos : PySem.Pos} (ho : PE X o to) (hbase : attributeBase o "bit_length" X.env (eval o X.env) = eval o X.env := by rfl) (hline : (apos.endLine == pos.line) = true := by rfl) : PE X (.Call (.Attribute o "bit_length" apos) [] [] pos) (tBitsN to) := by
  refine ⟨fun pins s σ H Q I h => ?_⟩
  refine PySem.Call_method0 hbase hline (thn (ho.run pins s σ H _ I h) fun v s1 ⟨x, H1, I1, r1, q1⟩ => ?_)
  obtain ⟨m, rfl, q1⟩ := q1
  obtain ⟨t, rfl⟩ := _root_.id r1
  have e : Builtin.Int.intBits (m : Int) = if m = 0 then 0 else m.log2 + 1 := by
    unfold Builtin.Int.intBits
    by_cases z : m = 0
    · subst z; rfl
    · rw [if_neg z, if_neg (show ¬ ((m : Int) == 0) = true by simpa using z), Int.natAbs_natCast]
  refine ⟨"int", _, PySem.F.plainAttrs_int, PyProof.Rows.slot_int_bit_length, PyProof.Rows.type_int_bit_length, typeIs_int _ _ _, (fun _ e => nomatch e), Calls.callWith_builtin rfl (PySem.evalArgs_none (call_int_bit_length ?_))⟩
  refine ⟨nv (if m = 0 then 0 else m.log2 + 1), H1, I1.tok _, ⟨s1.toks, ?_⟩, q1⟩
  rw [e]
end

/-! ### a def of the top, a method, a class: what the head says; what is promised of it -/
/-- the def x of the top, with its parameters -/
structure TopFn (K : PySem.W.Frag) (mg : Str → Option Value) (x : Str) (st : Stmt) (ps : List Str) : Prop where
  ex : ∃ (f : Addr) (fd : FuncData), Fun K x x st f fd ∧ mg x = some (.ref f) ∧ Binds K fd ps []
/-- the method m of the class at C -/
structure MetFn (K : PySem.W.Frag) (C : Addr) (m qual : Str) (st : Stmt) (ps : List Str) : Prop where
  ex : ∃ (f : Addr) (fd : FuncData), Fun K m qual st f fd ∧ Meth K C m f ∧ Binds K fd ps []
/-- .. its __init__, the class made by its name -/
structure MakFn (K : PySem.W.Frag) (mg : Str → Option Value) (x : Str) (C : Addr) (qual : Str) (st : Stmt) (ps : List Str) : Prop where
  ex : ∃ (f : Addr) (fd : FuncData), Fun K "__init__" qual st f fd ∧ Mk K C f ∧ mg x = some (.ref C) ∧ Binds K fd ps []
section
variable (P : Program) (w : World) (K : PySem.W.Frag) (mg : Str → Option Value) (base : Heap)
/-- called by its name x, with k calls one in another at most, sp is kept -/
structure Cal (k : Nat) (x : Str) (sp : Sp) : Prop where
  ex : ∃ (f : Addr) (fd : FuncData) (ps : List Str), FnOk P w K mg base CX0 k f fd ps sp ∧ mg x = some (.ref f) ∧ PySem.W.keepIn K (.ref f) = true ∧ Binds K fd ps []
structure Met (k : Nat) (C : Addr) (m : Str) (sp : Sp) : Prop where
  ex : ∃ (f : Addr) (fd : FuncData) (ps : List Str), Cls K C ∧ Meth K C m f ∧ FnOk P w K mg base CX0 k f fd ps sp ∧ Binds K fd ps []
structure Mak (k : Nat) (x : Str) (C : Addr) (sp : Sp) : Prop where
  ex : ∃ (f : Addr) (fd : FuncData) (ps : List Str), Mk K C f ∧ FnOk P w K mg base CX0 k f fd ps sp ∧ mg x = some (.ref C) ∧ Binds K fd ps []
end
section
variable {P : Program} {w : World} {K : PySem.W.Frag} {mg : Str → Option Value} {base : Heap}
theorem Cal.mono {j k : Nat} {x : Str} {sp : Sp} (c : Cal P w K mg base j x sp) (h : j ≤ k) : Cal P w K mg base k x sp := by
  obtain ⟨f, fd, ps, F, r⟩ := c.ex
  exact ⟨f, fd, ps, F.mono h, r⟩
theorem cal {x : Str} {st : Stmt} {N ps : List Str} {k : Nat} {sp : Sp} (F : TopFn K mg x st ps) (S : FnScope N ps (defScope st)) (len : ∀ vs H Q E, sp vs H Q E → vs.length = ps.length)
    (hbody : ∀ (f : Addr) (cdv : Value) (A : Around) (outer : List Env) (s : Shared) (H : Hp) (vs : List V) (Q : VK) (E : XK), Room k (A.deeper (envOfC x (defScope st) s.heap.objs.size f cdv)) → sp vs H Q E →
      ∃ t, PSs (cxOf CX0 P w K mg base N x (defScope st) f cdv A outer s H E).nox (defBody st) t ∧ t { nx := fun _ H' => Q .non H', rt := Q } (start N vs) H) : Cal P w K mg base (k + 1) x sp := by
  obtain ⟨f, fd, Fn, g, b⟩ := F.ex
  exact ⟨f, fd, ps, Fn.ok S len (hbody f), g, Fn.kp, b⟩
theorem met {C : Addr} {m qual : Str} {st : Stmt} {N ps : List Str} {k : Nat} {sp : Sp} (c : Cls K C) (F : MetFn K C m qual st ps) (S : FnScope N ps (defScope st)) (len : ∀ vs H Q E, sp vs H Q E → vs.length = ps.length)
    (hbody : ∀ (f : Addr) (cdv : Value) (A : Around) (outer : List Env) (s : Shared) (H : Hp) (vs : List V) (Q : VK) (E : XK), Room k (A.deeper (envOfC qual (defScope st) s.heap.objs.size f cdv)) → sp vs H Q E →
      ∃ t, PSs (cxOf CX0 P w K mg base N qual (defScope st) f cdv A outer s H E).nox (defBody st) t ∧ t { nx := fun _ H' => Q .non H', rt := Q } (start N vs) H) : Met P w K mg base (k + 1) C m sp := by
  obtain ⟨f, fd, Fn, me, b⟩ := F.ex
  exact ⟨f, fd, ps, c, me, Fn.ok S len (hbody f), b⟩
theorem mak {x : Str} {C : Addr} {qual : Str} {st : Stmt} {N ps : List Str} {k : Nat} {sp : Sp} (F : MakFn K mg x C qual st ps) (S : FnScope N ps (defScope st)) (len : ∀ vs H Q E, sp vs H Q E → vs.length = ps.length)
    (hbody : ∀ (f : Addr) (cdv : Value) (A : Around) (outer : List Env) (s : Shared) (H : Hp) (vs : List V) (Q : VK) (E : XK), Room k (A.deeper (envOfC qual (defScope st) s.heap.objs.size f cdv)) → sp vs H Q E →
      ∃ t, PSs (cxOf CX0 P w K mg base N qual (defScope st) f cdv A outer s H E).nox (defBody st) t ∧ t { nx := fun _ H' => Q .non H', rt := Q } (start N vs) H) : Mak P w K mg base (k + 1) x C sp := by
  obtain ⟨f, fd, Fn, mk, g, b⟩ := F.ex
  exact ⟨f, fd, ps, mk, Fn.ok S len (hbody f), g, b⟩
/-- a promise that is a call of nothing: it can't be asked -/
theorem cal_never {x : Str} {st : Stmt} {ps : List Str} {sp : Sp} (F : TopFn K mg x st ps) (no : ∀ vs H Q E, ¬ sp vs H Q E) : Cal P w K mg base 0 x sp := by
  obtain ⟨f, fd, Fn, g, b⟩ := F.ex
  exact ⟨f, fd, ps, ⟨fun vs H Q E h => absurd h (no vs H Q E), fun A outer s H args us vs Q E _ _ _ _ h => absurd h (no vs H Q E)⟩, g, Fn.kp, b⟩
theorem met_never {C : Addr} {m qual : Str} {st : Stmt} {ps : List Str} {sp : Sp} (c : Cls K C) (F : MetFn K C m qual st ps) (no : ∀ vs H Q E, ¬ sp vs H Q E) : Met P w K mg base 0 C m sp := by
  obtain ⟨f, fd, Fn, me, b⟩ := F.ex
  exact ⟨f, fd, ps, c, me, ⟨fun vs H Q E h => absurd h (no vs H Q E), fun A outer s H args us vs Q E _ _ _ _ h => absurd h (no vs H Q E)⟩, b⟩
end
section
variable {X : Cx} {k j : Nat} {C : Addr} {x m : Str} {sp : Sp} {p pos apos : PySem.Pos} {e o : Expr} {es : List Expr} {ta : TE} {t : TA}
theorem pe_c (c : Cal X.prog X.w X.K X.mg X.base k x sp) (hr : Room j X.A) (hk : k ≤ j) (ha : PA X (e :: es) t) (hg : Gl X x := by rfl)
    (hdb : (x == ("__debug__" : Str)) = false := by decide) (he : starEach (e :: es) X.env = (false, eval e X.env) :: starEach es X.env := by rfl) (hpl : (backTo pos (starEach es X.env)).any (·.1) = false := by rfl) :
    PE X (.Call (.Name x p) (e :: es) [] pos) (tCall sp [] E0 t) := by
  obtain ⟨f, fd, ps, F, hm, kp, b⟩ := c.ex
  exact pe_call F (hr.mono hk) hg hm kp b .nil pass0 ha hdb he hpl
theorem pe_mk (c : Mak X.prog X.w X.K X.mg X.base k x C sp) (hr : Room j X.A) (hk : k + 1 ≤ j) (ha : PA X (e :: es) t) (hg : Gl X x := by rfl)
    (hdb : (x == ("__debug__" : Str)) = false := by decide) (he : starEach (e :: es) X.env = (false, eval e X.env) :: starEach es X.env := by rfl) (hpl : (backTo pos (starEach es X.env)).any (·.1) = false := by rfl) :
    PE X (.Call (.Name x p) (e :: es) [] pos) (tMake C sp [] E0 t) := by
  obtain ⟨f, fd, ps, M, F, hm, b⟩ := c.ex
  exact pe_make M F (hr.mono hk) hg hm b .nil pass0 ha hdb he hpl
theorem pe_mt {pl : Sem Bool} (c : Met X.prog X.w X.K X.mg X.base k C m sp) (hr : Room j X.A) (hk : k ≤ j) (he : PE X o ta) (ha : PA X (e :: es) t)
    (hst : starEach (e :: es) X.env = (false, eval e X.env) :: starEach es X.env := by rfl) (hpl : (backTo pos (starEach es X.env)).any (·.1) = false := by rfl)
    (ht : eval (.Call (.Attribute o m apos) (e :: es) [] pos) X.env = (do
      let ov ← eval o X.env
      standAt apos.atName
      let (f, first) ← holding [ov] (getMethod ov m pl)
      callWith pos f first (backTo pos (starEach (e :: es) X.env)) (backToKw pos (keywordEach [] X.env))) := by rfl) :
    PE X (.Call (.Attribute o m apos) (e :: es) [] pos) (tMeth C m sp [] E0 ta t) := by
  obtain ⟨f, fd, ps, hc, hm, F, b⟩ := c.ex
  exact pe_meth (pl := pl) he hc hm F (hr.mono hk) b .nil pass0 ha hst hpl ht
theorem pe_mt0 {pl : Sem Bool} (c : Met X.prog X.w X.K X.mg X.base k C m sp) (hr : Room j X.A) (hk : k ≤ j) (he : PE X o ta)
    (ht : eval (.Call (.Attribute o m apos) [] [] pos) X.env = (do
      let ov ← eval o X.env
      standAt apos.atName
      let (f, first) ← holding [ov] (getMethod ov m pl)
      callWith pos f first (backTo pos (starEach [] X.env)) (backToKw pos (keywordEach [] X.env))) := by rfl) :
    PE X (.Call (.Attribute o m apos) [] [] pos) (tMeth C m sp [] E0 ta tNil) := by
  obtain ⟨f, fd, ps, hc, hm, F, b⟩ := c.ex
  exact pe_meth0 (pl := pl) he hc hm F (hr.mono hk) b .nil pass0 ht
/-- t[i], xs[i] -/
theorem pe_t {a b : Expr} {ta tb : TE} (ha : PE X a ta) (hb : PE X b tb) (hs : PlainIx b := by exact fun _ _ => rfl) : PE X (.Subscript a b pos) (tOp (rIxT X.K) ta tb) := pe_ix ix_tup ha hb hs
theorem pe_l {a b : Expr} {ta tb : TE} (ha : PE X a ta) (hb : PE X b tb) (hs : PlainIx b := by exact fun _ _ => rfl) : PE X (.Subscript a b pos) (tOp (rIxL X.K) ta tb) := pe_ix ix_list ha hb hs
/-- xs.append(e) as a statement -/
theorem pe_app {cpos : PySem.Pos} (ho : PE X o ta) (ha : PA X [e] t) (hbase : attributeBase o "append" X.env (eval o X.env) = eval o X.env := by rfl)
    (hfew : ((backTo cpos (starEach [e] X.env)).all (fun x => !x.1) && (backToKw cpos (keywordEach [] X.env)).all (fun x => x.1.isSome)
      && decide (([e] : List Expr).length + ([] : List Keyword).length + (if ([] : List Keyword).isEmpty then 0 else 1) < 30)) = true := by rfl)
    (hline : (apos.endLine == cpos.line) = true := by rfl) (hs : starEach [e] X.env = (false, eval e X.env) :: starEach [] X.env := by rfl) (hplain : (backTo cpos (starEach [] X.env)).any (·.1) = false := by rfl) :
    PE X (.Call (.Attribute o "append" apos) [e] [] cpos) (tBM X.K "list" rAppend ta t) := pe_bm PySem.F.plainAttrs_list PySem.F.slot_list_append PySem.F.type_list_append mt_append ho ha hbase hfew hline hs hplain
end

/-! ### a test by its answer -/
section
variable {σ : L2.St} {H : Hp} {b : Bool}
theorem if_by {c : TT} {t u : TS} {D : Ends} (b : Bool) (h : ∀ Q : Bool → Hp → Prop, Q b H → c σ H Q) (ht : b = true → t D σ H) (hu : b = false → u D σ H) : tIfS c t u D σ H := by
  refine h _ ?_
  cases b with
  | true => exact iteT (ht rfl)
  | false => exact iteF (hu rfl)
/-- .. behind an assignment -/
theorem if_byG {i : Nat} {v : V} {c : TT} {t u : TS} {D : Ends} (b : Bool) (h : ∀ Q : Bool → Hp → Prop, Q b H → c (σ.set i (some v)) H Q) (ht : b = true → t D (σ.set i (some v)) H) (hu : b = false → u D (σ.set i (some v)) H) : gName i v σ H (tIfS c t u D) := if_by b h ht hu
theorem ans_and {a : Bool} {c d : TT} {Q : Bool → Hp → Prop} (h1 : ∀ Q : Bool → Hp → Prop, Q a H → c σ H Q) (h2 : a = true → ∀ Q : Bool → Hp → Prop, Q b H → d σ H Q) (q : Q (a && b) H) : tAnd c d σ H Q := by
  refine h1 _ ?_
  cases a with
  | true => exact iteT (h2 rfl _ q)
  | false => exact iteF q
theorem ans_or {a : Bool} {c d : TT} {Q : Bool → Hp → Prop} (h1 : ∀ Q : Bool → Hp → Prop, Q a H → c σ H Q) (h2 : a = false → ∀ Q : Bool → Hp → Prop, Q b H → d σ H Q) (q : Q (a || b) H) : tOr c d σ H Q := by
  refine h1 _ ?_
  cases a with
  | true => exact iteT q
  | false => exact iteF (h2 rfl _ q)
end

/-! ### lists of numbers as data -/
abbrev numsD (l : List Nat) : List PyData := l.map fun m : Nat => .int (m : Int)
theorem dp_all {K : PySem.W.Frag} {H : Hp} : ∀ l : List Nat, DpAll K H (nvs l) (numsD l)
  | [] => .nil
  | _ :: l => .cons (.int _) (dp_all l)
theorem dp_nums {K : PySem.W.Frag} {H : Hp} {a : Addr} {l : List Nat} (h : SqL K H a (nvs l)) : Dp K H (.ref a) (.list (numsD l)) := .lst h (dp_all l)
theorem dp_numsT {K : PySem.W.Frag} {H : Hp} {a : Addr} {l : List Nat} (h : SqT K H a (nvs l)) : Dp K H (.ref a) (.tuple (numsD l)) := .tup h (dp_all l)
theorem eqv_nums : ∀ a b : List Nat, PyData.eqvAll (numsD a) (numsD b) = decide (a = b)
  | [], [] => rfl
  | [], _ :: _ => rfl
  | _ :: _, [] => rfl
  | x :: a, y :: b => by
    have ih := eqv_nums a b
    show (PyData.eqv (.int (x : Int)) (.int (y : Int)) && PyData.eqvAll (numsD a) (numsD b)) = _
    rw [ih]
    show (((x : Int) == (y : Int)) && decide (a = b)) = _
    rw [Bool.eq_iff_iff]
    simp only [Bool.and_eq_true, beq_iff_eq, decide_eq_true_eq, List.cons.injEq, Int.natCast_inj]
theorem eqv_list (a b : List Nat) : PyData.eqv (.list (numsD a)) (.list (numsD b)) = decide (a = b) := eqv_nums a b
theorem eqv_tuple (a b : List Nat) : PyData.eqv (.tuple (numsD a)) (.tuple (numsD b)) = decide (a = b) := eqv_nums a b
theorem depth_nums0 : ∀ l : List Nat, PyData.depthAll (numsD l) = 0
  | [] => rfl
  | _ :: l => by
    show max 0 (PyData.depthAll (numsD l)) = 0
    rw [depth_nums0 l]
    rfl
theorem lay_nums0 : ∀ l : List Nat, PyData.canLayAll0 (numsD l) = true
  | [] => rfl
  | m :: l => by
    show (true && PyData.canLayAll0 (numsD l)) = true
    rw [lay_nums0 l]
    rfl
theorem shaped_list (l : List Nat) : SeqAt.shaped (.list (numsD l)) = true := by
  unfold SeqAt.shaped
  simp only [PyData.canLay0, PyData.depth, depth_nums0, lay_nums0]
  decide
theorem shaped_tuple (l : List Nat) : SeqAt.shaped (.tuple (numsD l)) = true := by
  unfold SeqAt.shaped
  simp only [PyData.canLay0, PyData.depth, depth_nums0, lay_nums0]
  decide
end KW

/-! finesse.cards -/
namespace KW
open PySem PySem.Spec PyProof.Rows L2
abbrev Deck (K : PySem.W.Frag) (H : Hp) (d : Addr) (s r : Nat) : Prop := SqT K H d [nv s, nv r]
abbrev sChkDeck : Stmt := topS 12
abbrev sSuit : Stmt := topS 13
abbrev sRank : Stmt := topS 14
abbrev sCard : Stmt := topS 15
abbrev sCards : Stmt := topS 16
abbrev sMask : Stmt := topS 17
abbrev sCount : Stmt := topS 18
abbrev sOfSuit : Stmt := topS 19
abbrev sSide : Stmt := topS 22
def spSuit (K : PySem.W.Frag) : Sp := fun vs H Q _ => ∃ (d : Addr) (s r c : Nat), vs = [.ref d, nv c] ∧ Deck K H d s r ∧ (0 < r ∧ r < 64) ∧ Q (nv (c / r)) H
def spRank (K : PySem.W.Frag) : Sp := fun vs H Q _ => ∃ (d : Addr) (s r c : Nat), vs = [.ref d, nv c] ∧ Deck K H d s r ∧ (0 < r ∧ r < 64) ∧ Q (nv (c % r)) H
def spCard (K : PySem.W.Frag) : Sp := fun vs H Q _ => ∃ (d : Addr) (s r a b : Nat), vs = [.ref d, nv a, nv b] ∧ Deck K H d s r ∧ a < 64 ∧ Q (nv (a * r + b)) H
/-- the cards of a mask: a new list -/
def spCards : Sp := fun vs H Q _ => ∃ m : Nat, vs = [nv m] ∧ m < 2 ^ 64 ∧ ∀ p H', Same H H' → H p = none → H' p = some (.lst (nvs (K70.cardsOf m))) → Q (.ref p) H'
def spMask (K : PySem.W.Frag) : Sp := fun vs H Q _ => ∃ (a : Addr) (cs : List Nat), vs = [.ref a] ∧ SqL K H a (nvs cs) ∧ (∀ c ∈ cs, c < 64) ∧ Q (nv (K70.maskOf cs)) H
def spCount : Sp := fun vs H Q _ => ∃ m : Nat, vs = [nv m] ∧ m < 2 ^ 64 ∧ ∀ H', Same H H' → Q (nv (K70.count m)) H'
/-- the cards of a suit in a mask -/
def ofSuit (r m s : Nat) : Nat := m &&& ((1 <<< r - 1) <<< (s * r))
def spOfSuit (K : PySem.W.Frag) : Sp := fun vs H Q _ => ∃ (d : Addr) (s r m x : Nat), vs = [.ref d, nv m, nv x] ∧ Deck K H d s r ∧ r < 64 ∧ x < 64 ∧ 1 <<< r < 2 ^ 60 ∧ Q (nv (ofSuit r m x)) H
def spSide : Sp := fun vs H Q _ => ∃ m : Nat, vs = [nv m] ∧ Q (nv (m % 2)) H
def spChkDeck (K : PySem.W.Frag) : Sp := fun vs H Q _ => ∃ (d : Addr) (s r : Nat), vs = [.ref d] ∧ Deck K H d s r ∧ 1 ≤ s ∧ s ≤ 4 ∧ 1 ≤ r ∧ r ≤ 13 ∧ Q .non H
section
variable {P : Program} {w : World} {K : PySem.W.Frag} {mg : Str → Option Value} {base : Heap}
theorem sc_suit : FnScope ["deck", "card"] ["deck", "card"] (defScope sSuit) := ⟨rfl, rfl, rfl, by decide +kernel, rfl, by decide +kernel, by decide +kernel⟩
theorem ok_suit (F : TopFn K mg "suit_of" sSuit ["deck", "card"]) : Cal P w K mg base 1 "suit_of" (spSuit K) := by
  refine cal F sc_suit (fun vs H Q E h => ?_) (fun f cdv A outer s H vs Q E hr h => ?_)
  · obtain ⟨d, s, r, c, rfl, _⟩ := h; rfl
  obtain ⟨d, s', r, c, rfl, hd, hr', q⟩ := h
  refine ⟨_, pss_one (ps_ret (pe_op op_fdivNN (pv 1) (pe_t (pv 0) pe_int))), ?_⟩
  exact ⟨_, rfl, _, rfl, d, _, 1, nv r, rfl, rfl, hd, atI_nat (j := 1) rfl, c, r, rfl, rfl, ⟨hr'.1, by omega⟩, q⟩
theorem sc_rank : FnScope ["deck", "card"] ["deck", "card"] (defScope sRank) := ⟨rfl, rfl, rfl, by decide +kernel, rfl, by decide +kernel, by decide +kernel⟩
theorem ok_rank (F : TopFn K mg "rank_of" sRank ["deck", "card"]) : Cal P w K mg base 1 "rank_of" (spRank K) := by
  refine cal F sc_rank (fun vs H Q E h => ?_) (fun f cdv A outer s H vs Q E hr h => ?_)
  · obtain ⟨d, s, r, c, rfl, _⟩ := h; rfl
  obtain ⟨d, s', r, c, rfl, hd, hr', q⟩ := h
  refine ⟨_, pss_one (ps_ret (pe_op op_modNN (pv 1) (pe_t (pv 0) pe_int))), ?_⟩
  exact ⟨_, rfl, _, rfl, d, _, 1, nv r, rfl, rfl, hd, atI_nat (j := 1) rfl, c, r, rfl, rfl, hr'.1, q⟩
theorem sc_card : FnScope ["deck", "suit", "rank"] ["deck", "suit", "rank"] (defScope sCard) := ⟨rfl, rfl, rfl, by decide +kernel, rfl, by decide +kernel, by decide +kernel⟩
theorem ok_card (F : TopFn K mg "card_of" sCard ["deck", "suit", "rank"]) : Cal P w K mg base 1 "card_of" (spCard K) := by
  refine cal F sc_card (fun vs H Q E h => ?_) (fun f cdv A outer s H vs Q E hr h => ?_)
  · obtain ⟨d, s, r, a, b, rfl, _⟩ := h; rfl
  obtain ⟨d, s', r, a, b, rfl, hd, ha, q⟩ := h
  refine ⟨_, pss_one (ps_ret (pe_op op_addN (pe_op op_mulN (pv 1) (pe_t (pv 0) pe_int)) (pv 2))), ?_⟩
  exact ⟨_, rfl, _, rfl, d, _, 1, nv r, rfl, rfl, hd, atI_nat (j := 1) rfl, a, r, rfl, rfl, Nat.lt_of_lt_of_le ha (by decide), _, rfl, a * r, b, rfl, rfl, q⟩
theorem sc_side : FnScope ["player"] ["player"] (defScope sSide) := ⟨rfl, rfl, rfl, by decide +kernel, rfl, by decide +kernel, by decide +kernel⟩
theorem ok_side (F : TopFn K mg "side_of" sSide ["player"]) : Cal P w K mg base 1 "side_of" spSide := by
  refine cal F sc_side (fun vs H Q E h => ?_) (fun f cdv A outer s H vs Q E hr h => ?_)
  · obtain ⟨m, rfl, _⟩ := h; rfl
  obtain ⟨m, rfl, q⟩ := h
  refine ⟨_, pss_one (ps_ret (pe_op op_modNN (pv 0) pe_int)), ?_⟩
  exact ⟨_, rfl, m, 2, rfl, rfl, (by show 0 < 2; decide), q⟩
theorem sc_cards : FnScope ["mask", "card"] ["mask"] (defScope sCards) := ⟨rfl, rfl, rfl, by decide +kernel, rfl, by decide +kernel, by decide +kernel⟩
theorem bit_test (m c : Nat) : (decide (m >>> c &&& 1 = 1)) = m.testBit c := by
  rw [Nat.testBit, Bool.eq_iff_iff, decide_eq_true_eq]
  rw [Nat.and_comm, bne_iff_ne]
  have := Nat.and_lt_two_pow (m >>> c) (show 1 < 2 ^ 1 by decide)
  rw [Nat.and_comm] at this
  omega
theorem bits_snoc (i m : Nat) : K70.bitsBelow (i + 1) m = K70.bitsBelow i m ++ (if m.testBit i then [i] else []) := by
  unfold K70.bitsBelow
  rw [List.range_succ, List.filter_append, List.filter_cons, List.filter_nil]
theorem bits_len (i m : Nat) : (K70.bitsBelow i m).length ≤ i := by
  unfold K70.bitsBelow
  have := List.length_filter_le (fun c => m.testBit c) (List.range i)
  rw [List.length_range] at this
  exact this
theorem log_64 {m : Nat} (h : m < 2 ^ 64) : m.log2 < 64 := by
  by_cases z : m = 0
  · subst z; decide
  · exact (Nat.log2_lt z).mpr h
theorem ok_cards (F : TopFn K mg "cards_of" sCards ["mask"]) (mr : mg "range" = none) : Cal P w K mg base 1 "cards_of" spCards := by
  refine cal F sc_cards (fun vs H Q E h => ?_) (fun f cdv A outer s H vs Q E hr h => ?_)
  · obtain ⟨m, rfl, _⟩ := h; rfl
  obtain ⟨m, rfl, hm, q⟩ := h
  refine ⟨_, pss_one (ps_ret (pe_lc (own := [("card", 1)]) (g := gName 1) (by rfl) sc_cards.nd (pi_range1 rfl mr (pa_cons (pe_bitsN (pv 0)) pa_nil)) (blkOk_by (own := [("card", 1)]) (N := ["mask", "card"]) (sc := defScope sCards) (by decide +kernel))
    (fun _ _ _ _ _ => pg_name (i := 1) sc_cards.nd rfl (Or.inl rfl)) (fun _ _ _ _ _ => pts_one (pt_cmpR op_eqN (pe_op op_andN (pe_op op_shrN (pv 0) (pv 1)) pe_int) pe_int (nomark _))) (fun _ _ _ _ _ => pv 1))), ?_⟩
  have hl := log_64 hm
  have hb : m < 2 ^ (if m = 0 then 0 else m.log2 + 1) := by
    split
    · subst m; decide
    · exact K70.lt_log m
  have hn : (if m = 0 then 0 else m.log2 + 1) ≤ 64 := by split <;> omega
  generalize hN : (if m = 0 then 0 else m.log2 + 1) = n at hb hn
  refine ⟨_, rfl, m, rfl, (n : Int), by rw [hN], by omega, by omega, fun D hD => ?_⟩
  refine lc_range (lo := 0) (n := n) (fun i H' => H' = upd H D (.lst (nvs (K70.bitsBelow i m)))) rfl (fun i H' hi e => ?_) (fun H' e => ?_)
  · subst e
    refine ⟨rfl, _, rfl, _, rfl, m, i, rfl, by rw [Int.zero_add], m >>> i, 1, rfl, rfl, m >>> i &&& 1, 1, rfl, rfl, _, rfl, ?_⟩
    rw [bit_test, bits_snoc]
    cases hbit : m.testBit i with
    | false =>
      refine iteF ?_
      rw [if_neg Bool.false_ne_true, List.append_nil]
    | true =>
      refine iteT ⟨_, rfl, _, upd_same, ?_, ?_⟩
      · rw [nvs_len]
        exact small64' (by have := bits_len i m; omega)
      · rw [upd_upd, if_pos rfl, show nvs (K70.bitsBelow i m ++ [i]) = nvs (K70.bitsBelow i m) ++ [V.int (0 + (i : Int))] by rw [Int.zero_add]; exact List.map_append]
  · subst e
    refine q D _ (Same.newK hD) hD ?_
    rw [upd_same, K70.cardsOf_eq hb]
theorem sc_mask : FnScope ["cards", "mask", "card"] ["cards"] (defScope sMask) := ⟨rfl, rfl, rfl, by decide +kernel, rfl, by decide +kernel, by decide +kernel⟩
theorem ok_mask (F : TopFn K mg "mask_of" sMask ["cards"]) : Cal P w K mg base 1 "mask_of" (spMask K) := by
  refine cal F sc_mask (fun vs H Q E h => ?_) (fun f cdv A outer s H vs Q E hr h => ?_)
  · obtain ⟨a, cs, rfl, _⟩ := h; rfl
  obtain ⟨a, cs, rfl, hl, h64, q⟩ := h
  refine ⟨_, pss_cons (ps_set (i := 1) sc_mask.nd rfl (.inl rfl) pe_int) (pss_cons (ps_for PassesOwn.never rfl (pi_list (pv 0)) (pg_name (i := 2) sc_mask.nd rfl (.inl rfl))
    (pss_one (ps_set (i := 1) sc_mask.nd rfl (.inl rfl) (pe_op op_orN (pv 1) (pe_op op_shlN pe_int (pv 2)))))) (pss_one (ps_ret (pv 1)))), ?_⟩
  refine ⟨_, rfl, a, rfl, ⟨_, hl⟩, for_list (K := K) (a := a) (xs := nvs cs) (fun i σ H' => H' = H ∧ ∃ v, σ = [some (.ref a), some (nv (K70.maskOf (cs.take i))), v]) ⟨rfl, none, rfl⟩ (fun i σ H' _ ⟨e, _⟩ => by rw [e]; exact hl) ?_ ?_⟩
  · rintro i x σ H' hx ⟨rfl, v, rfl⟩
    obtain ⟨c, hc, rfl⟩ := nv_get hx
    have hm : c ∈ cs := List.mem_of_getElem? hc
    refine ⟨_, rfl, _, rfl, 1, c, rfl, rfl, ⟨by decide, by have := h64 c hm; omega⟩, _, 1 <<< c, rfl, rfl, rfl, some (nv c), ?_⟩
    have e : K70.maskOf (cs.take (i + 1)) = K70.maskOf (cs.take i) ||| 1 <<< c := by
      unfold K70.maskOf
      rw [List.take_add_one, hc, List.foldl_append]
      rfl
    rw [e]
    rfl
  · rintro σ H' ⟨rfl, v, rfl⟩
    refine ⟨_, rfl, ?_⟩
    rw [nvs_len, List.take_length]
    exact q
theorem sc_count : FnScope ["mask"] ["mask"] (defScope sCount) := ⟨rfl, rfl, rfl, by decide +kernel, rfl, by decide +kernel, by decide +kernel⟩
theorem ok_count (F : TopFn K mg "count_cards" sCount ["mask"]) (c : Cal P w K mg base 1 "cards_of" spCards) (ml : mg "len" = none) : Cal P w K mg base 2 "count_cards" spCount := by
  refine cal F sc_count (fun vs H Q E h => ?_) (fun f cdv A outer s H vs Q E hr h => ?_)
  · obtain ⟨m, rfl, _⟩ := h; rfl
  obtain ⟨m, rfl, hm, q⟩ := h
  refine ⟨_, pss_one (ps_ret (pe_callB call_len_seq (by rfl) ml PySem.boot_len (pa_cons (pe_c c hr (by decide) (pa_cons (pv 0) pa_nil)) pa_nil))), ?_⟩
  refine ⟨_, rfl, m, rfl, hm, fun p H' sm hp e => ⟨p, _, rfl, .inl (SqL.of e), ?_⟩⟩
  rw [nvs_len]
  exact q H' sm
theorem sc_ofsuit : FnScope ["deck", "mask", "suit"] ["deck", "mask", "suit"] (defScope sOfSuit) := ⟨rfl, rfl, rfl, by decide +kernel, rfl, by decide +kernel, by decide +kernel⟩
theorem ok_ofsuit (F : TopFn K mg "of_suit" sOfSuit ["deck", "mask", "suit"]) : Cal P w K mg base 1 "of_suit" (spOfSuit K) := by
  refine cal F sc_ofsuit (fun vs H Q E h => ?_) (fun f cdv A outer s H vs Q E hr h => ?_)
  · obtain ⟨d, s, r, m, x, rfl, _⟩ := h; rfl
  obtain ⟨d, s', r, m, x, rfl, hd, h1, h2, h3, q⟩ := h
  refine ⟨_, pss_one (ps_ret (pe_op op_andN (pv 1) (pe_op op_shlN (pe_op op_subN (pe_op op_shlN pe_int (pe_t (pv 0) pe_int)) pe_int) (pe_op op_mulN (pv 2) (pe_t (pv 0) pe_int))))), ?_⟩
  refine ⟨_, rfl, _, rfl, d, _, 1, nv r, rfl, rfl, hd, atI_nat (j := 1) rfl, 1, r, rfl, rfl, ⟨by decide, by omega⟩, 1 <<< r, 1, rfl, rfl, ?_, _, rfl, _, rfl, d, _, 1, nv r, rfl, rfl, hd, atI_nat (j := 1) rfl, x, r, rfl, rfl, Nat.lt_of_lt_of_le h2 (by decide), 1 <<< r - 1, x * r, rfl, rfl, ⟨by omega, ?_⟩, m, _, rfl, rfl, q⟩
  · rw [Nat.one_shiftLeft]; exact Nat.one_le_two_pow
  · have : x * r ≤ 64 * 64 := Nat.mul_le_mul (by omega) (by omega)
    omega
theorem sc_chkdeck : FnScope ["deck"] ["deck"] (defScope sChkDeck) := ⟨rfl, rfl, rfl, by decide +kernel, rfl, by decide +kernel, by decide +kernel⟩
theorem ok_chkdeck (F : TopFn K mg "check_deck" sChkDeck ["deck"]) {t1 t2 : Tok} (m1 : mg "MAX_SUITS" = some (.int 4 t1)) (m2 : mg "MAX_RANKS" = some (.int 13 t2)) : Cal P w K mg base 1 "check_deck" (spChkDeck K) := by
  refine cal F sc_chkdeck (fun vs H Q E h => ?_) (fun f cdv A outer s H vs Q E hr h => ?_)
  · obtain ⟨d, s, r, rfl, _⟩ := h; rfl
  obtain ⟨d, s', r, rfl, hd, h1, h2, h3, h4, q⟩ := h
  refine ⟨_, pss_one (ps_if (PW.pt (pw_or (pt_not (pt_chain op_le op_le pe_int (pe_t (pv 0) pe_int) (pe_glob (v := .int 4) rfl m1 ⟨_, rfl⟩))) (pw_or1 (pt_not (pt_chain op_le op_le pe_int (pe_t (pv 0) pe_int) (pe_glob (v := .int 13) rfl m2 ⟨_, rfl⟩))))))
    pss_never pss_nil), ?_⟩
  refine ⟨_, rfl, d, _, 0, nv s', rfl, rfl, hd, atI_nat (j := 0) rfl, 1, (s' : Int), rfl, rfl, _, rfl, ?_⟩
  rw [decide_eq_true (show (1 : Int) ≤ (s' : Int) by omega)]
  refine iteT ⟨(s' : Int), 4, rfl, rfl, _, rfl, ?_⟩
  rw [decide_eq_true (show (s' : Int) ≤ 4 by omega)]
  refine iteF ?_
  refine ⟨_, rfl, d, _, 1, nv r, rfl, rfl, hd, atI_nat (j := 1) rfl, 1, (r : Int), rfl, rfl, _, rfl, ?_⟩
  rw [decide_eq_true (show (1 : Int) ≤ (r : Int) by omega)]
  refine iteT ⟨(r : Int), 13, rfl, rfl, _, rfl, ?_⟩
  rw [decide_eq_true (show (r : Int) ≤ 13 by omega)]
  exact iteF q
end
end KW

/-! Rules of our own: a dict whose keys are positions (nested tuples), o[i] op= e of a list, greatest and least of a dict's values, the least of nested tuples. -/
namespace KW
open PySem PySem.Spec PyProof.Rows L2

/-! ### positions as keys -/
def posKey (q : K70.Pos) : NestedKey := .tup [.num q.trump, .tup (q.hands.map fun m : Nat => .num (m : Int)), .num (q.leader : Int), .tup (q.led.map fun m : Nat => .num (m : Int))]
theorem num_inj : ∀ {a b : List Nat}, (a.map fun m : Nat => NestedKey.num (m : Int)) = (b.map fun m : Nat => NestedKey.num (m : Int)) → a = b
  | [], [], _ => rfl
  | [], _ :: _, h => by simp at h
  | _ :: _, [], h => by simp at h
  | x :: a, y :: b, h => by
    rw [List.map_cons, List.map_cons] at h
    injection h with h1 h2
    injection h1 with h1
    rw [Int.ofNat.inj h1, num_inj h2]
theorem posKey_inj {p q : K70.Pos} (h : posKey p = posKey q) : p = q := by
  obtain ⟨t, hs, l, le⟩ := p
  obtain ⟨t', hs', l', le'⟩ := q
  unfold posKey at h
  injection h with h
  injection h with h1 h
  injection h with h2 h
  injection h with h3 h
  injection h with h4 h
  injection h1 with h1
  injection h2 with h2
  injection h3 with h3
  injection h4 with h4
  have e1 := num_inj h2
  have e2 := num_inj h4
  have e3 : l = l' := Int.ofNat.inj h3
  subst h1 e1 e2 e3
  rfl
/-- the tuple at a is the position q -/
def PosT (H : Hp) (a : Addr) (q : K70.Pos) : Prop := ∃ ha la, H a = some (.tup [.int q.trump, .ref ha, nv q.leader, .ref la]) ∧ H ha = some (.tup (nvs q.hands)) ∧ H la = some (.tup (nvs q.led))
theorem PosT.keep {H H' : Hp} {a : Addr} {q : K70.Pos} (h : PosT H a q) (k : ∀ b xs, H b = some (.tup xs) → H' b = some (.tup xs)) : PosT H' a q := by
  obtain ⟨ha, la, h1, h2, h3⟩ := h
  exact ⟨ha, la, k _ _ h1, k _ _ h2, k _ _ h3⟩
section
variable {P : Program} {w : World} {H : Hp} {h : Heap} {a : Addr}
theorem nums_are : ∀ {l : List Nat} {us : List Value}, Vals (nvs l) us → NestedAll h (l.map fun m : Nat => .num (m : Int)) us
  | [], _, r => by cases r; exact .nil
  | m :: l, _, r => by
    cases r with
    | cons r1 r2 =>
      obtain ⟨t, rfl⟩ := r1
      exact .cons (.int _ t) (nums_are r2)
theorem tup_nums (ok : HOk P w H h) {l : List Nat} (e : H a = some (.tup (nvs l))) : NestedIs h (.tup (l.map fun m : Nat => .num (m : Int))) (.ref a) := by
  obtain ⟨_, its, r, o, h1, h2, n, h3⟩ := (show ObjOk P w H h a (.tup (nvs l)) from ok a _ e)
  exact .tup h1 h2 h3 (by simpa using nums_are r)
theorem depth_nums : ∀ l : List Nat, NestedKey.depthAll (l.map fun m : Nat => .num (m : Int)) = 0
  | [] => rfl
  | m :: l => by
    rw [List.map_cons, NestedKey.depthAll, depth_nums l]
    rfl
theorem pos_is (ok : HOk P w H h) {q : K70.Pos} (e : PosT H a q) : (nestedKind P w).is h (posKey q) a := by
  obtain ⟨ha, la, h1, h2, h3⟩ := e
  obtain ⟨_, its, r, o, g1, g2, n, g3⟩ := (show ObjOk P w H h a (.tup _) from ok a _ h1)
  refine ⟨?_, ?_⟩
  · cases r with
    | cons r1 r =>
      cases r with
      | cons r2 r =>
        cases r with
        | cons r3 r =>
          cases r with
          | cons r4 r =>
            cases r
            obtain ⟨t1, rfl⟩ := r1
            obtain ⟨t3, rfl⟩ := r3
            cases r2
            cases r4
            exact .tup g1 g2 g3 (.cons (.int _ _) (.cons (tup_nums ok h2) (.cons (.int _ _) (.cons (tup_nums ok h3) .nil))))
  · unfold posKey
    simp only [NestedKey.depth, NestedKey.depthAll, depth_nums]
    decide
end
/-- the dict with the entries xs -/
def dpO (P : Program) (w : World) (d : Addr) (xs : List (NestedKey × Addr × Value)) : HO := .ext fun h =>
  ∃ o es ep, h.get? d = some o ∧ o.ExactDict ∧ o.data = .dict es ep ∧ es.toList = xs.map (entryOfKey (nestedKind P w)) ∧ (xs.map (·.1)).Nodup
abbrev KP (H : Hp) : List (K70.Pos × V) → List (NestedKey × Addr × Value) → Prop := Paired fun p q => posKey p.1 = q.1 ∧ PosT H q.2.1 p.1 ∧ RelV p.2 q.2.2
/-- at d a dict that knows the values kvs of positions -/
def DictP (P : Program) (w : World) (H : Hp) (d : Addr) (kvs : List (K70.Pos × V)) : Prop := (d == sysModules) = false ∧ kvs.length ≤ sizeLine ∧ ∃ xs, H d = some (dpO P w d xs) ∧ KP H kvs xs
theorem KP.keep {H H' : Hp} {kvs : List (K70.Pos × V)} {xs : List (NestedKey × Addr × Value)} (r : KP H kvs xs) (k : ∀ b ys, H b = some (.tup ys) → H' b = some (.tup ys)) : KP H' kvs xs :=
  Paired.mapP r fun _ _ z => ⟨z.1, z.2.1.keep k, z.2.2⟩
theorem DictP.keep {P : Program} {w : World} {H H' : Hp} {d : Addr} {kvs : List (K70.Pos × V)} (h : DictP P w H d kvs) (e : ∀ o, H d = some o → H' d = some o) (k : ∀ b xs, H b = some (.tup xs) → H' b = some (.tup xs)) : DictP P w H' d kvs := by
  obtain ⟨h0, h1, xs, h2, h3⟩ := h
  exact ⟨h0, h1, xs, e _ h2, h3.keep k⟩
theorem DictP.some {P : Program} {w : World} {H : Hp} {d : Addr} {kvs : List (K70.Pos × V)} (h : DictP P w H d kvs) : ∃ xs, H d = some (dpO P w d xs) := let ⟨_, _, xs, e, _⟩ := h; ⟨xs, e⟩
theorem KP.val {H : Hp} {kvs : List (K70.Pos × V)} {xs : List (NestedKey × Addr × Value)} (r : KP H kvs xs) (q : K70.Pos) : RelO (valV kvs q) ((atKey xs (posKey q)).map (·.2)) := by
  induction r with
  | nil => exact True.intro
  | @cons p y ps qs h t ih =>
    obtain ⟨h1, _, h2⟩ := h
    by_cases e : p.1 = q
    · have e' : y.1 = posKey q := by rw [← h1, e]
      have b : atKey (y :: qs) (posKey q) = Option.some y.2 := by simp [atKey, List.find?_cons, e']
      rw [valV_pos e, b]; exact h2
    · have e' : ¬ y.1 = posKey q := fun z => e (posKey_inj (h1.trans z))
      have b : atKey (y :: qs) (posKey q) = atKey qs (posKey q) := by simp [atKey, List.find?_cons, e']
      rw [valV_neg e, b]; exact ih
theorem KP.repl {H : Hp} {kvs : List (K70.Pos × V)} {xs : List (NestedKey × Addr × Value)} (r : KP H kvs xs) (k : K70.Pos) {y : V} {u : Value} (ry : RelV y u) :
    KP H (kvs.map fun kv => if kv.1 = k then (kv.1, y) else kv) (xs.map (putAt (posKey k) u)) := by
  induction r with
  | nil => exact .nil
  | @cons p q ps qs h t ih =>
    rw [List.map_cons, List.map_cons]
    refine .cons ?_ ih
    obtain ⟨h1, h2, h3⟩ := h
    unfold putAt
    by_cases e : p.1 = k
    · rw [if_pos e, if_pos (by rw [← h1, e])]; exact ⟨h1, h2, ry⟩
    · rw [if_neg e, if_neg (fun z => e (posKey_inj (h1.trans z)))]; exact ⟨h1, h2, h3⟩
theorem KP.put {H : Hp} {kvs : List (K70.Pos × V)} {xs : List (NestedKey × Addr × Value)} (r : KP H kvs xs) (k : K70.Pos) {b : Addr} {y : V} {u : Value} (hb : PosT H b k) (ry : RelV y u) :
    KP H (putK kvs k y) (storedH xs (posKey k) b u) := by
  have e : (kvs.any fun kv => decide (kv.1 = k)) = (atKey xs (posKey k)).isSome := by
    rw [valV_any, (r.val k).isSome_eq, Option.isSome_map]
  unfold putK storedH
  rw [e]
  by_cases q : (atKey xs (posKey k)).isSome = true
  · rw [if_pos q, if_pos q]; exact r.repl k ry
  · rw [if_neg q, if_neg q]; exact Paired.snoc r ⟨rfl, hb, ry⟩
theorem dictp_of {P : Program} {w : World} {H : Hp} {h : Heap} {d : Addr} {kvs : List (K70.Pos × V)} {xs : List (NestedKey × Addr × Value)} (ok : HOk P w H h) (e : H d = some (dpO P w d xs)) (r : KP H kvs xs) : h.DictOfH (nestedKind P w) d xs := by
  obtain ⟨⟨o, es, ep, h1, h2, h3, h4, h5⟩, _, _⟩ := (show ObjOk P w H h d (dpO P w d xs) from ok d _ e)
  refine ⟨o, es, ep, h1, h2, h3, h4, ?_, h5⟩
  have all : ∀ {l : List (K70.Pos × V)} {m : List (NestedKey × Addr × Value)}, KP H l m → ∀ x ∈ m, (nestedKind P w).is h x.1 x.2.1 := by
    intro l m q
    induction q with
    | nil => intro x hx; exact nomatch hx
    | @cons p q ps qs hq t ih =>
      intro x hx
      rcases List.mem_cons.mp hx with e | hx
      · subst e
        rw [← hq.1]
        exact pos_is ok hq.2.1
      · exact ih x hx
  exact all r
theorem dpO_ok {P : Program} {w : World} {H : Hp} {h : Heap} {d : Addr} {xs : List (NestedKey × Addr × Value)} (m : h.DictOfH (nestedKind P w) d xs) : ObjOk P w H h d (dpO P w d xs) := by
  obtain ⟨o, es, ep, h1, h2, h3, h4, _, h5⟩ := m
  refine ⟨⟨o, es, ep, h1, h2, h3, h4, h5⟩, ⟨o, h1⟩, ?_⟩
  rintro g1 g2 ⟨o, es, ep, k1, k2, k3, k4, k5⟩ k
  exact ⟨o, es, ep, k _ k1, k2, k3, k4, k5⟩

/-! ### readings and rules -/
section
variable {X : Cx} {o i e value : Expr} {pos pos' : PySem.Pos} {td ty tv : TE}
theorem nk_room {A : Around} (hu : A.units + 64 < cLine) (P : Program) (w : World) : (nestedKind P w).room A.in1 := by
  show A.units + 1 + 8 < cLine
  omega
/-- {} , to be filled with positions -/
def tDNewP (P : Program) (w : World) : TE := fun _ H Q => ∀ p, H p = none → (∀ H', (∀ b xs, H' b = some (.tup xs) → H' b = some (.tup xs)) → H' p = some (dpO P w p []) → DictP P w H' p []) → Q (.ref p) (upd H p (dpO P w p []))
theorem pe_dnewP : PE X (.Dict [] [] pos) (tDNewP X.prog X.w) := ⟨fun pins s σ H Q I h => by
  have hd : (s.heap.objs.size == sysModules) = false := beq_eq_false_iff_ne.mpr (Ne.symm (Nat.ne_of_lt I.big))
  refine wpAny_Dict_empty ⟨.ref s.heap.objs.size, _, I.laid (a := s.heap.objs.size) (o := dpO X.prog X.w s.heap.objs.size []) (t' := s.toks) (fun _ _ q => Heap.get?_push_of_some _ q) (Nat.le_refl _) (dpO_ok (Heap.DictOfH.new s.heap)), rfl, h _ (I.hok.fresh (Nat.le_refl _)) fun H' _ e => ⟨hd, Nat.zero_le _, [], e, .nil⟩⟩⟩
def tPIn (P : Program) (w : World) (ty td : TE) : TE := fun σ H Q => ty σ H fun y H1 => td σ H1 fun x H2 => ∃ d b q kvs, x = .ref d ∧ y = .ref b ∧ PosT H2 b q ∧ DictP P w H2 d kvs ∧ Q (.bl (valV kvs q).isSome) H2
def tPNotIn (P : Program) (w : World) (ty td : TE) : TE := fun σ H Q => ty σ H fun y H1 => td σ H1 fun x H2 => ∃ d b q kvs, x = .ref d ∧ y = .ref b ∧ PosT H2 b q ∧ DictP P w H2 d kvs ∧ Q (.bl (!(valV kvs q).isSome)) H2
def tPGet (P : Program) (w : World) (td ty : TE) : TE := fun σ H Q => td σ H fun x H1 => ty σ H1 fun y H2 => ∃ d b q kvs v, x = .ref d ∧ y = .ref b ∧ PosT H2 b q ∧ DictP P w H2 d kvs ∧ valV kvs q = some v ∧ Q v H2
def sPPut (P : Program) (w : World) (td ty tv : TE) : TS := fun D σ H => tv σ H fun v H1 => td σ H1 fun x H2 => ty σ H2 fun y H3 => ∃ d b q kvs, x = .ref d ∧ y = .ref b ∧ PosT H3 b q ∧ DictP P w H3 d kvs ∧ kvs.length < sizeLine ∧
  ∀ H4, (∃ o, H4 = upd H3 d o) → DictP P w H4 d (putK kvs q v) → D.nx σ H4
theorem pc_pin (hu : X.A.units + 64 < cLine) (hi : PE X i ty) (ho : PE X o td) : PC X .In i o (tPIn X.prog X.w ty td) := by
  refine ⟨fun pins s σ H Q I h => ?_⟩
  refine thn (hi.run pins s σ H _ I h) fun iv s1 ⟨y, H1, I1, ry, q1⟩ => thn (ho.run pins s1 σ H1 _ I1 q1) fun u s2 ⟨x, H2, I2, rx, d, b, q, kvs, ex, ey, hp, hd, q2⟩ => ?_
  subst ex ey
  cases rx
  cases ry
  obtain ⟨h0, h1, xs, h2, h3⟩ := hd
  refine wpAny_in_heap (nk_room hu _ _) (pos_is I2.hok hp) h0 (dictp_of I2.hok h2 h3) ?_
  have z := (h3.val q).isSome_eq
  rw [Option.isSome_map] at z
  rw [← z]
  exact ⟨.bl _, H2, I2.tok _, rfl, q2⟩
theorem pc_pnotin (hu : X.A.units + 64 < cLine) (hi : PE X i ty) (ho : PE X o td) : PC X .NotIn i o (tPNotIn X.prog X.w ty td) := by
  refine ⟨fun pins s σ H Q I h => ?_⟩
  refine thn (hi.run pins s σ H _ I h) fun iv s1 ⟨y, H1, I1, ry, q1⟩ => thn (ho.run pins s1 σ H1 _ I1 q1) fun u s2 ⟨x, H2, I2, rx, d, b, q, kvs, ex, ey, hp, hd, q2⟩ => ?_
  subst ex ey
  cases rx
  cases ry
  obtain ⟨h0, h1, xs, h2, h3⟩ := hd
  refine wpAny_notIn_heap (nk_room hu _ _) (pos_is I2.hok hp) h0 (dictp_of I2.hok h2 h3) ?_
  have z := (h3.val q).isSome_eq
  rw [Option.isSome_map] at z
  rw [← z]
  exact ⟨.bl _, H2, I2.tok _, rfl, q2⟩
theorem pe_pget (hu : X.A.units + 64 < cLine) (ho : PE X o td) (hi : PE X i ty) (hs : NoSl i := by exact fun _ _ => rfl) : PE X (.Subscript o i pos) (tPGet X.prog X.w td ty) := by
  refine ⟨fun pins s σ H Q I h => ?_⟩
  refine subD_of PySem.F.slot_dict_getitem.lookup hs (thn (ho.run pins s σ H _ I h) fun u s1 ⟨x, H1, I1, rx, q1⟩ => thn (hi.run pins s1 σ H1 _ I1 q1) fun iv s2 ⟨y, H2, I2, ry, d, b, q, kvs, v, ex, ey, hp, hd, hv, q2⟩ => ?_)
  subst ex ey
  cases rx
  cases ry
  obtain ⟨h0, h1, xs, h2, h3⟩ := hd
  have dd := dictp_of I2.hok h2 h3
  obtain ⟨w', hw, rw'⟩ := RelO.some_of (v := v) (o := (atKey xs (posKey q)).map (·.2)) (by rw [← hv]; exact h3.val q)
  obtain ⟨p, hp', hp2⟩ := Option.map_eq_some_iff.mp hw
  refine ⟨dd.typeIs, wpAny_getItem_heap (nk_room hu _ _) (pos_is I2.hok hp) dd hp' ?_⟩
  rw [hp2]
  exact ⟨v, H2, I2.tok _, rw', q2⟩
theorem ps_pput (hu : X.A.units + 64 < cLine) (ho : PE X o td) (hi : PE X i ty) (hv : PE X value tv) (hs : swapsWith value (some (.Subscript o i pos')) pos.line X.env = pure false := by rfl) :
    PS X (.Assign [.Subscript o i pos'] value pos) (sPPut X.prog X.w td ty tv) := by
  refine ⟨fun pins s σ H D I h => ?_⟩
  refine wpAny_Assign_Subscript (thn (hv.run pins s σ H _ I h) fun r s1 ⟨v, H1, I1, rv, q1⟩ => thn (ho.run pins s1 σ H1 _ I1 q1) fun u s2 ⟨x, H2, I2, rx, q2⟩ => thn (hi.run pins s2 σ H2 _ I2 q2) fun iv s3 ⟨y, H3, I3, ry, d, b, q, kvs, ex, ey, hp, hd, hl, q3⟩ => ?_) hs
  subst ex ey
  cases rx
  cases ry
  obtain ⟨h0, h1, xs, h2, h3⟩ := hd
  have dd := dictp_of I3.hok h2 h3
  have hz : xs.length ≤ sizeLine := by rw [← Paired.length h3]; exact h1
  refine wpAny_setItem_heap (hsz := hz) (nk_room hu _ _) (pos_is I3.hok hp) dd fun h' dd' sb => ?_
  have he : ∃ q, h'.get? d = some q := let ⟨q, _, _, hq, _⟩ := dd'; ⟨q, hq⟩
  have mu : Mut (H3 d) := by rw [h2]; exact True.intro
  have I4 := d_write (t' := s3.toks + (nestedKind X.prog X.w).draws (posKey q)) I3 mu sb he (dpO_ok (H := upd H3 d (dpO X.prog X.w d (storedH xs (posKey q) b r))) dd')
  refine ⟨σ, _, I4, q3 _ ⟨_, rfl⟩ ⟨h0, ?_, _, upd_same, ?_⟩⟩
  · have := length_putK kvs q v
    omega
  · refine (h3.put q hp rv).keep fun c ys ec => ?_
    rw [upd_ne (ne_of ec h2 (fun z => nomatch z))]
    exact ec
end

/-! ### o.f as a target; xs[i] op= e -/
def gFld (K : PySem.W.Frag) (ta : TE) (f : Str) : TG := fun v σ H Q => ta σ H fun x H1 => ∃ a C dx fs, x = .ref a ∧ H1 a = some (.ins C dx fs) ∧ Cls K C ∧ NoAttr K C f ∧ fs.length < 1000 ∧ Q σ (upd H1 a (.ins C dx (putF f v fs)))
section
variable {X : Cx} {o i e value : Expr} {pos pos' apos p : PySem.Pos} {td ta ti te : TE}
theorem pg_fld {f : Str} (ho : PE X o ta) : PG X (.Attribute o f pos) (gFld X.K ta f) := by
  refine ⟨fun pins s σ H v u Q I r h => ?_⟩
  rw [arm_assign_Attribute]
  refine wpAny_bind (wpAny_holding (thn (ho.run pins s σ H _ I h) fun ov s1 ⟨x, H1, I1, rx, a, C, dx, fs, ex, ea, c, n, l, q⟩ => ?_))
  subst ex
  obtain rfl : ov = Value.ref a := rx
  refine wpAny_bind (wpAny_standAt (wpAny_bind (wpAny_holding (setattr_ok I1 ea c n l r fun s3 I3 => ?_))))
  exact wpAny_release ⟨σ, _, I3, q⟩
theorem get_list : PGet X (rIxL X.K) := by
  intro pins s σ H x y v u Q I rx ry h
  obtain ⟨p, xs, i, z, rfl, rfl, hq, he, q⟩ := h
  cases rx
  obtain ⟨t, rfl⟩ := ry
  obtain ⟨its, r, pl, hz⟩ := I.list hq
  obtain ⟨j, h1, h2, h3, h4, h5⟩ := atI_get he
  obtain ⟨w, ew, rw'⟩ := r.get h2
  have hl := r.length
  have hn := line63
  have fin : EP X pins σ Q w s := ⟨z, H, I, rw', q⟩
  by_cases h0 : 0 ≤ i
  · have hj : i.toNat = j := by
      rw [seqIndex_of h0 h5] at h1
      exact Option.some.inj h1
    exact wpAny_getItem_list pl.isList h0 (by omega) (by rw [hj]; simpa using ew) fin
  · have hj : (i + (its.toArray.size : Int)).toNat = j := by
      rw [seqIndex_neg (by omega) h4] at h1
      rw [List.size_toArray, ← hl]
      exact Option.some.inj h1
    exact wpAny_getItem_list_neg pl.isList (by omega) (by rw [List.size_toArray] <;> omega) (by omega) (by rw [hj]; simpa using ew) fin

/-! ### the greatest of a dict's values -/
theorem pe_maxVals (hc : X.calm = true) (hg : Gl X "max") (hm : X.mg "max" = none) (hd : PE X o td) (hbase : attributeBase o "values" X.env (eval o X.env) = eval o X.env := by rfl) {mpos : PySem.Pos} (hline : (apos.endLine == mpos.line) = true := by rfl)
    (hse : starEach [Expr.Call (.Attribute o "values" apos) [] [] mpos] X.env = [(false, eval (Expr.Call (.Attribute o "values" apos) [] [] mpos) X.env)] := by rfl) :
    PE X (.Call (.Name "max" p) [.Call (.Attribute o "values" apos) [] [] mpos] [] pos) (fun σ H Q => td σ H fun x H1 => ∃ a kvs is, x = V.ref a ∧ H1 a = some (.dK kvs) ∧ kvs.map (·.2) = is.map V.int ∧ is ≠ [] ∧ ∀ m, m ∈ is → (∀ j ∈ is, j ≤ m) → Q (.int m) H1) := by
  refine ⟨fun pins s σ H Q I h => ?_⟩
  refine wpAny_Call_Name_kw (ld_blt I hg hm (u := .builtin "max") (by first | rfl | decide +kernel) ?_ (by first | decide +kernel | decide) (by first | decide +kernel | decide))
  rw [hse]
  refine PySem.callWith_builtin1 (wpAny_Call_method0_late hbase hline (thn (hd.run pins s σ H _ I h) fun v s1 ⟨x, H1, I1, r1, a, kvs, is, ex, ha, hv, hne, q⟩ => ?_))
  subst ex
  obtain rfl : v = Value.ref a := r1
  obtain ⟨_, hsys, vs, rel, dof⟩ := dk_of I1.hok ha
  obtain ⟨ep, dat⟩ := dof.dictAt
  have dat' := dat
  obtain ⟨ob, es, ho, ex, hdat, hko, hpr, hnd⟩ := dat'
  refine ⟨"dict", "dict.values", F.plainAttrs_dict, F.slot_dict_values, F.type_dict_values, ⟨ob, ho, ex.1⟩, fun b e => ?_, Calls.callWith_builtin rfl (PySem.evalArgs_none ?_)⟩
  · cases e
    exact ⟨ob, ho, ex.2.1⟩
  refine call_meetsIn F.slot_dict_values ⟨ob, ho, ex.1⟩ F.entry_dict_values (F.args_dict_values_1 _) (meets_dict_values (mixKind X.prog X.w) a hsys) ⟨⟨vs, dof⟩, ?_⟩
  have k1 : ∀ b u, s1.heap.get? b = some u → (s1.heap.push { cls := .type "dict_values", data := .fields #[.ref a] }).get? b = some u := fun b u e => Heap.get?_push_of_some _ e
  have dat1 : (s1.heap.push { cls := .type "dict_values", data := .fields #[.ref a] }).DictAt (mixKind X.prog X.w) a vs ep := dat.keep k1
  have hlv : vs.length = is.length := by
    have e1 := congrArg List.length hv
    rw [List.length_map, List.length_map] at e1
    rw [← e1]
    exact (KV.length rel).symm
  have hlen : 0 < vs.length := by
    rw [hlv]
    exact List.length_pos_iff.mpr hne
  have hval : ∀ (i : Nat) (v : Value), (∃ k, vs[i]? = some (k, v)) → ∃ t, v = Value.int (is.getD i 0) t := fun i v ⟨k, hk⟩ => by
    obtain ⟨x, h1, h2⟩ := KV.at' rel hk
    have e1 : (kvs.map (·.2))[i]? = some x := by rw [List.getElem?_map, h1] <;> rfl
    rw [hv, List.getElem?_map] at e1
    obtain ⟨j, hj, e2⟩ := Option.map_eq_some_iff.mp e1
    subst e2
    obtain ⟨t, e3⟩ := h2
    refine ⟨t, ?_⟩
    rw [e3, List.getD_eq_getElem?_getD, hj] <;> rfl
  refine call_max_walk (wpAny_pyIter_values (v := s1.heap.objs.size) (d := a) ⟨_, Heap.get?_push_size _ rfl, rfl, rfl⟩ dat1 ?_)
  have hlt : a < s1.heap.objs.size := Heap.lt_size ho
  have hsz : (s1.heap.push { cls := .type "dict_values", data := .fields #[.ref a] }).objs.size = s1.heap.objs.size + 1 := Heap.size_push _ _
  refine ⟨_, _, _, _, _, _, _, rfl, Walks.dictValues (knd := mixKind X.prog X.w) (A := X.A.in1) (I.ok.hd hc) (s1.heap.push { cls := .type "dict_values", data := .fields #[.ref a] }).objs.size a (by rw [hsz]; exact Nat.ne_of_lt (Nat.lt_succ_of_lt hlt)) vs ep,
    ⟨⟨_, Heap.get?_push_size _ rfl, rfl, rfl⟩, dat1.keep fun b u e => Heap.get?_push_of_some _ e⟩, fun b hb => ?_, hlen, CmpOf.ints_gt (fun i => is.getD i 0) hval, fun v h' tk hP hk => ?_⟩
  · show b < ((s1.heap.push _).push _).objs.size
    rw [Heap.size_push, Heap.size_push]
    rw [hsz] at hb
    rcases List.mem_cons.mp hb with e | hb
    · rw [e]
      exact Nat.lt_succ_self _
    · have e : b = a := List.mem_singleton.mp hb
      rw [e]
      exact Nat.lt_succ_of_lt (Nat.lt_succ_of_lt hlt)
  · obtain ⟨t, rfl⟩ := hval _ v hP
    obtain ⟨b1, b2⟩ := argBest_gt (fun i => is.getD i 0) (vs.length - 1)
    refine ⟨.int _, H1, I1.kept (t' := tk) fun b u e => hk b u (fun hmem => ?_) (Heap.get?_push_of_some _ (k1 b u e)), ⟨t, rfl⟩, q _ ?_ fun j hj => ?_⟩
    · have e1 : b = (s1.heap.push { cls := .type "dict_values", data := .fields #[.ref a] }).objs.size := List.mem_singleton.mp hmem
      have e2 := Heap.lt_size e
      rw [hsz] at e1
      rw [e1] at e2
      exact absurd e2 (Nat.not_lt.mpr (Nat.le_succ _))
    · have hb : argBest (fun i j => decide (is.getD i 0 > is.getD j 0)) (vs.length - 1) < is.length := by omega
      rw [List.getD_eq_getElem?_getD, List.getElem?_eq_getElem hb]
      exact List.getElem_mem hb
    · obtain ⟨i, hi, e⟩ := List.mem_iff_getElem.mp hj
      have e2 : is.getD i 0 = j := by rw [List.getD_eq_getElem?_getD, List.getElem?_eq_getElem hi, ← e] <;> rfl
      rw [← e2]
      exact b2 i (by omega)
end

/-! ### the least of standard forms -/
/-- the tuple at a: a deck, four hands, a trump -/
def StdT (H : Hp) (a : Addr) : Prop := ∃ d h s r t, ∃ hs : List Nat, H a = some (.tup [.ref d, .ref h, .int t]) ∧ H d = some (.tup [nv s, nv r]) ∧ H h = some (.tup (nvs hs)) ∧ hs.length = 4
section
variable {P : Program} {w : World} {H : Hp} {h : Heap} {a : Addr}
theorem nums_read : ∀ {l : List Nat} {us : List Value}, Vals (nvs l) us → ∃ as, ReadsAll h us (l.map fun m : Nat => .int (m : Int)) as
  | [], _, r => by cases r; exact ⟨_, .nil⟩
  | m :: l, _, r => by
    cases r with
    | cons r1 r2 =>
      obtain ⟨t, rfl⟩ := r1
      obtain ⟨as, q⟩ := nums_read r2
      exact ⟨_, .cons (.int _ t) q⟩
theorem tup_read (ok : HOk P w H h) {l : List Nat} (e : H a = some (.tup (nvs l))) : ∃ as, Reads h (.ref a) (.tuple (l.map fun m : Nat => .int (m : Int))) as := by
  obtain ⟨_, its, r, o, h1, h2, n, h3⟩ := (show ObjOk P w H h a (.tup (nvs l)) from ok a _ e)
  obtain ⟨as, q⟩ := nums_read (h := h) r
  exact ⟨_, .tuple h1 h2 h3 (by simpa using q)⟩
def stdD (s r : Nat) (hs : List Nat) (t : Int) : PyData := .tuple [.tuple [.int (s : Int), .int (r : Int)], .tuple (hs.map fun m : Nat => .int (m : Int)), .int t]
theorem std_read (ok : HOk P w H h) (e : StdT H a) : ∃ s r hs t as, hs.length = 4 ∧ Reads h (.ref a) (stdD s r hs t) as := by
  obtain ⟨d, hh, s, r, t, hs, h1, h2, h3, h4⟩ := e
  obtain ⟨_, its, rv, o, g1, g2, n, g3⟩ := (show ObjOk P w H h a (.tup _) from ok a _ h1)
  obtain ⟨a1, q1⟩ := tup_read ok (l := [s, r]) h2
  obtain ⟨a2, q2⟩ := tup_read ok h3
  cases rv with
  | cons r1 rv =>
    cases rv with
    | cons r2 rv =>
      cases rv with
      | cons r3 rv =>
        cases rv
        cases r1
        cases r2
        obtain ⟨t3, rfl⟩ := r3
        exact ⟨s, r, hs, t, _, h4, .tuple g1 g2 g3 (.cons q1 (.cons q2 (.cons (.int _ _) .nil)))⟩
theorem alike_nums : ∀ a b : List Nat, PySem.W.alikeAll (a.map fun m : Nat => .int (m : Int)) (b.map fun m : Nat => .int (m : Int)) = true
  | [], _ => rfl
  | _ :: _, [] => rfl
  | x :: a, y :: b => by
    rw [List.map_cons, List.map_cons, PySem.W.alikeAll, alike_nums a b]
    rfl
theorem alike_std (s r : Nat) (hs : List Nat) (t : Int) (s' r' : Nat) (hs' : List Nat) (t' : Int) : PySem.W.alike (stdD s r hs t) (stdD s' r' hs' t') = true := by
  unfold stdD
  simp only [PySem.W.alike, PySem.W.alikeAll, alike_nums]
  rfl
theorem depth_numsD : ∀ l : List Nat, PyData.depthAll (l.map fun m : Nat => .int (m : Int)) = 0
  | [] => rfl
  | m :: l => by
    rw [List.map_cons, PyData.depthAll, depth_numsD l]
    rfl
theorem depth_std (s r : Nat) (hs : List Nat) (t : Int) : (stdD s r hs t).depth ≤ 4 := by
  unfold stdD
  simp only [PyData.depth, PyData.depthAll, depth_numsD]
  decide
theorem stds_read (ok : HOk P w H h) : ∀ {as : List Addr} {us : List Value}, Vals (as.map V.ref) us → (∀ a ∈ as, StdT H a) → ∃ ds bs, ReadsAll h us ds bs ∧ ds.length = as.length ∧ ∀ d ∈ ds, ∃ s r hs t, d = stdD s r hs t
  | [], _, r, _ => by cases r; exact ⟨[], _, .nil, rfl, fun _ h => nomatch h⟩
  | a :: as, _, r, hs => by
    cases r with
    | cons r1 r2 =>
      cases r1
      obtain ⟨s, rr, h4, t, bs, _, q1⟩ := std_read ok (hs a List.mem_cons_self)
      obtain ⟨ds, cs, q2, hl, q3⟩ := stds_read ok r2 fun b hb => hs b (List.mem_cons_of_mem _ hb)
      refine ⟨_ :: ds, _, .cons q1 q2, by rw [List.length_cons, List.length_cons, hl], fun d hd => ?_⟩
      rcases List.mem_cons.mp hd with rfl | hd
      · exact ⟨s, rr, h4, t, rfl⟩
      · exact q3 d hd
theorem depth_all_le : ∀ ds : List PyData, (∀ d ∈ ds, d.depth ≤ 4) → PyData.depthAll ds ≤ 4
  | [], _ => Nat.zero_le _
  | d :: ds, h => by
    have h1 := h d List.mem_cons_self
    have h2 := depth_all_le ds fun e he => h e (List.mem_cons_of_mem _ he)
    show max d.depth (PyData.depthAll ds) ≤ 4
    omega
end
/-- min(xs) of standard forms: one of them -/
theorem call_minStd {X : Cx} (hc : X.calm = true) (hu : X.A.units + 64 < cLine) : CallR X (.builtin "min") (fun xs H Q => ∃ p as, xs = [.ref p] ∧ SqL X.K H p (as.map V.ref) ∧ as ≠ [] ∧ (∀ a ∈ as, StdT H a) ∧ ∀ a ∈ as, Q (.ref a) H) := by
  intro pins s σ H xs us Q I r h
  obtain ⟨p, as, rfl, hl, hne, hs, q⟩ := h
  obtain ⟨u, rfl, ru⟩ := vals1 r
  cases ru
  obtain ⟨its, rv, pl, hz⟩ := I.list hl
  obtain ⟨ds, bs, hr, hlen, hds⟩ := stds_read I.hok rv hs
  cases ds with
  | nil => exact absurd (List.eq_nil_of_length_eq_zero hlen.symm) hne
  | cons d ds =>
    have hdep := depth_all_le (d :: ds) fun e he => by
      obtain ⟨s, r, hs, t, rfl⟩ := hds e he
      exact depth_std s r hs t
    refine PySem.W.min_list_data (I.ok.hd hc) pl.isList (x := d) (xs := ds) (as := bs) (by simpa using hr) ⟨fun x hx y hy => ?_, fun x hx => ?_⟩ (by omega) fun i v h' tk cs hv _ hk => ?_
    · obtain ⟨s, r, hs, t, rfl⟩ := hds x hx
      obtain ⟨s', r', hs', t', rfl⟩ := hds y hy
      exact alike_std ..
    · obtain ⟨s, r, hs, t, rfl⟩ := hds x hx
      exact fun z => nomatch z
    · have hv' : its[i]? = some v := by simpa using hv
      have hi : i < (as.map V.ref).length := by
        rw [rv.length]
        exact (List.getElem?_eq_some_iff.mp hv').1
      rw [List.length_map] at hi
      obtain ⟨u, hu', ru⟩ := rv.get (i := i) (x := V.ref as[i]) (by rw [List.getElem?_map, List.getElem?_eq_getElem hi]; rfl)
      rw [hv'] at hu'
      cases hu'
      exact ⟨.ref as[i], H, I.kept (t' := tk) hk, ru, q _ (List.getElem_mem hi)⟩
end KW

/-! finesse.play.winner_of -/
namespace KW
open PySem PySem.Spec PyProof.Rows L2
abbrev sWin : Stmt := topS 32
def spWin (K : PySem.W.Frag) : Sp := fun vs H Q _ => ∃ (d a : Addr) (s r l : Nat) (t : Int) (cs : List Nat), vs = [.ref d, .int t, nv l, .ref a] ∧ Deck K H d s r ∧ (0 < r ∧ r < 64) ∧ SqL K H a (nvs cs) ∧ cs ≠ [] ∧
  ∀ H', Same H H' → Q (nv (K70.winner r t l cs)) H'
theorem dec_vint {i j : Int} : decide (V.int i = V.int j) = decide (i = j) := decide_eq_decide.mpr ⟨fun z => V.int.inj z, fun z => by rw [z]⟩
section
variable {P : Program} {w : World} {K : PySem.W.Frag} {mg : Str → Option Value} {base : Heap}
theorem sc_win : FnScope ["deck", "trump", "leader", "cards", "best", "at", "card", "suit", "top"] ["deck", "trump", "leader", "cards"] (defScope sWin) := ⟨rfl, rfl, rfl, by decide +kernel, rfl, by decide +kernel, by decide +kernel⟩
theorem ok_win (F : TopFn K mg "winner_of" sWin ["deck", "trump", "leader", "cards"]) (cs : Cal P w K mg base 1 "suit_of" (spSuit K)) (me : mg "enumerate" = none) : Cal P w K mg base 2 "winner_of" (spWin K) := by
  refine cal F sc_win (fun vs H Q E h => ?_) (fun f cdv A outer s H vs Q E hr h => ?_)
  · obtain ⟨d, a, s, r, l, t, cs, rfl, _⟩ := h; rfl
  obtain ⟨d, a, s', r, l, t, cl, rfl, hd, hr', hl, hne, q⟩ := h
  refine ⟨_, pss_cons (ps_set (i := 4) sc_win.nd rfl (.inl rfl) pe_int)
    (pss_cons (ps_for PassesOwn.never rfl (pi_enum rfl me (pa_cons (pv 3) pa_nil)) (pg_tup rfl (pgs_cons (pg_name (i := 5) sc_win.nd rfl (.inl rfl)) (pgs_cons (pg_name (i := 6) sc_win.nd rfl (.inl rfl)) pgs_nil)))
      (pss_cons (ps_set (i := 7) sc_win.nd rfl (.inl rfl) (pe_c cs hr (by decide) (pa_cons (pv 0) (pa_cons (pv 6) pa_nil))))
      (pss_cons (ps_set (i := 8) sc_win.nd rfl (.inl rfl) (pe_c cs hr (by decide) (pa_cons (pv 0) (pa_cons (pe_l (pv 3) (pv 4)) pa_nil))))
      (pss_one (ps_if (PW.pt (pw_or (PW.pt (pw_and (pt_cmpR op_eqN (pv 7) (pv 8) (nomark _)) (pw_and1 (pt_cmpR op_gtN (pv 6) (pe_l (pv 3) (pv 4)) (nomark _)))))
          (pw_or1 (PW.pt (pw_and (pt_cmpR op_eq (pv 7) (pv 1) (nomark _)) (pw_and1 (pt_cmpR op_ne (pv 8) (pv 1) (nomark _))))))))
        (pss_one (ps_set (i := 4) sc_win.nd rfl (.inl rfl) (pv 5))) pss_nil)))))
    (pss_one (ps_ret (pe_op op_modNN (pe_op op_addN (pv 2) (pv 4)) pe_int)))), ?_⟩
  refine ⟨.ref a, rfl, a, _, rfl, hl, ?_⟩
  refine for_it (walk_enum (xs := nvs cl)) (fun i σ H' => Same H H' ∧ ∃ v5 v6 v7 v8, σ = [some (.ref d), some (.int t), some (nv l), some (.ref a), some (nv (K70.bestUpTo r t cl i)), v5, v6, v7, v8]) ⟨Same.refl H, none, none, none, none, rfl⟩ (fun i σ H' _ ⟨sm, _⟩ => sm.seq hl) ?_ ?_
  · rintro i x σ H1 H' hi ⟨sm, v5, v6, v7, v8, rfl⟩ ⟨T, x1, x2, rfl, nT, rfl, e1, e2⟩
    cases e1
    obtain ⟨c, hc, rfl⟩ := nv_get e2
    have sm1 : Same H (upd H1 T (.tup [V.int (i : Nat), nv c])) := sm.mutK (sm.free nT)
    have hd1 := sm1.tupK hd
    have hl1 := sm1.seq hl
    have hcn : cl.getD i 0 = c := by rw [List.getD_eq_getElem?_getD, hc]; rfl
    have hlen : i < cl.length := by rw [nvs_len] at hi; exact hi
    have hb : K70.bestUpTo r t cl i < cl.length := by
      rcases K70.bestUpTo_lt r t cl i with z | z <;> omega
    have hbc : cl[K70.bestUpTo r t cl i]? = some (cl.getD (K70.bestUpTo r t cl i) 0) := by rw [List.getD_eq_getElem?_getD, List.getElem?_eq_getElem hb]; rfl
    generalize hbd : cl.getD (K70.bestUpTo r t cl i) 0 = b at hbc
    have estep : K70.bestUpTo r t cl (i + 1) = if K70.beats r t c b then i else K70.bestUpTo r t cl i := by
      conv => lhs; unfold K70.bestUpTo
      rw [hcn, hbd]
    refine ⟨T, _, rfl, .inl (.inl upd_same), rfl, _, _, rfl, _, _, rfl, rfl, ?_⟩
    refine ⟨_, rfl, _, rfl, d, s', r, c, rfl, hd1, hr', ?_⟩
    refine ⟨_, rfl, _, rfl, _, rfl, a, _, _, nv b, rfl, rfl, hl1, atI_nat (nvs_at hbc), d, s', r, b, rfl, hd1, hr', ?_⟩
    with_reducible refine if_byG (K70.beats r t c b) (fun Q' q' => ?_) (fun e => ?_) (fun e => ?_)
    · have e : K70.beats r t c b = ((decide (c / r = b / r) && decide (b < c)) || (decide (V.int ((c / r : Nat) : Int) = V.int t) && !decide (V.int ((b / r : Nat) : Int) = V.int t))) := by
        rw [dec_vint, dec_vint]
        unfold K70.beats
        rw [Bool.beq_eq_decide_eq]
      rw [e] at q'
      refine ans_or (fun Q1 q1 => ans_and (fun Q2 q2 => ?_) (fun _ Q2 q2 => ?_) q1) (fun _ Q1 q1 => ans_and (fun Q2 q2 => ?_) (fun _ Q2 q2 => ?_) q1) q'
      · exact ⟨_, rfl, _, rfl, c / r, b / r, rfl, rfl, _, rfl, q2⟩
      · exact ⟨_, rfl, _, rfl, _, rfl, a, _, _, nv b, rfl, rfl, hl1, atI_nat (nvs_at hbc), c, b, rfl, rfl, _, rfl, q2⟩
      · exact ⟨_, rfl, _, rfl, rfl, _, rfl, q2⟩
      · exact ⟨_, rfl, _, rfl, rfl, _, rfl, q2⟩
    · refine ⟨_, rfl, sm1, some (nv i), some (nv c), some (nv (c / r)), some (nv (b / r)), ?_⟩
      rw [estep, if_pos e]
      rfl
    · refine ⟨sm1, some (nv i), some (nv c), some (nv (c / r)), some (nv (b / r)), ?_⟩
      rw [estep, e, if_neg Bool.false_ne_true]
      rfl
  · rintro σ H' ⟨sm, v5, v6, v7, v8, rfl⟩
    refine ⟨_, rfl, _, rfl, l, _, rfl, rfl, l + K70.bestUpTo r t cl (nvs cl).length, 4, rfl, rfl, (by show 0 < 4; decide), ?_⟩
    have := q H' sm
    unfold K70.winner K70.bestIx at this
    rw [nvs_len]
    exact this
end
end KW

/-! finesse.play: the class Play (and Later): what stands at a play, each method -/
namespace KW
open PySem PySem.Spec PyProof.Rows L2
open K70 (PSt PosOk)
abbrev inPlay (j : Nat) : Stmt := inClass (topS 33) j
/-! ### all but M as it was; what stands, stands -/
structure Keep (M : Addr → Prop) (H H' : Hp) : Prop where
  at_ : ∀ b o, H b = some o → ¬ M b → H' b = some o
  back : ∀ b, H' b = none → H b = none
theorem Keep.of_same {M : Addr → Prop} {H H' : Hp} (h : Same H H') : Keep M H H' := ⟨fun b o e _ => h b o e, fun b e => Same.free h e⟩
theorem Keep.refl {M : Addr → Prop} {H : Hp} : Keep M H H := ⟨fun _ _ e _ => e, fun _ e => e⟩
theorem Keep.trans {M M1 : Addr → Prop} {H H1 H2 : Hp} (a : Keep M H H1) (b : Keep M1 H1 H2) (k : ∀ x, M1 x → M x ∨ H x = none) : Keep M H H2 := by
  refine ⟨fun x o e n => b.at_ x o (a.at_ x o e n) fun m => ?_, fun x e => a.back x (b.back x e)⟩
  rcases k x m with z | z
  · exact n z
  · rw [e] at z
    cases z
theorem Keep.put {p : Addr} {o : HO} {H : Hp} : Keep (fun x => x = p) H (upd H p o) := ⟨fun b u e n => by rw [upd_ne n]; exact e, fun b e => by
  by_cases z : b = p
  · subst z; rw [upd_same] at e; cases e
  · rw [upd_ne z] at e; exact e⟩
theorem Keep.mut {M : Addr → Prop} {H H' : Hp} {p : Addr} {o : HO} (a : Keep M H H') (h : M p ∨ H p = none) : Keep M H (upd H' p o) := a.trans Keep.put fun x e => by rw [e]; exact h
theorem Keep.new {M : Addr → Prop} {H H' : Hp} {p : Addr} {o : HO} (a : Keep M H H') (h : H' p = none) : Keep M H (upd H' p o) := a.mut (.inr (a.back p h))
theorem Keep.same {M : Addr → Prop} {H H1 H2 : Hp} (a : Keep M H H1) (b : Same H1 H2) : Keep M H H2 := a.trans (Keep.of_same (M := fun _ => False) b) fun _ z => z.elim
theorem Keep.tup {M : Addr → Prop} {K : PySem.W.Frag} {H H' : Hp} {a : Addr} {xs : List V} (e : Keep M H H') (h : SqT K H a xs) (n : ¬ M a) : SqT K H' a xs := by
  rcases h with (h | ⟨o, h⟩) | h
  · exact .inl (.inl (e.at_ _ _ h n))
  · exact .inl (.inr ⟨o, e.at_ _ _ h n⟩)
  · exact .inr h

/-! ### what stands at a play -/
structure PlA where
  (p dx dk hl le wo hi be : Addr)
def fields (dk : Addr) (t : Int) (l : Nat) (hl le wo hi be : Addr) : List (Str × V) :=
  [("_deck", V.ref dk), ("_trump", V.int t), ("_leader", nv l), ("_hands", V.ref hl), ("_led", V.ref le), ("_won", V.ref wo), ("_history", V.ref hi), ("_before", V.ref be)]
abbrev fieldsOf (A : PlA) (st : PSt) : List (Str × V) := fields A.dk st.pos.trump st.pos.leader A.hl A.le A.wo A.hi A.be
def HistT (H : Hp) (a : Addr) (x : Nat × Nat) : Prop := H a = some (.tup [nv x.1, nv x.2])
def BefT (H : Hp) (a : Addr) (x : Nat × List Nat × Nat × Nat) : Prop := ∃ b c, H a = some (.tup [nv x.1, .ref b, .ref c]) ∧ H b = some (.tup (nvs x.2.1)) ∧ H c = some (.tup [nv x.2.2.1, nv x.2.2.2])
structure PlayAt (K : PySem.W.Frag) (C : Addr) (H : Hp) (A : PlA) (st : PSt) : Prop where
  ob : H A.p = some (.ins C A.dx (fieldsOf A st))
  dk : SqT K H A.dk [nv st.s, nv st.r]
  hl : H A.hl = some (.lst (nvs st.pos.hands))
  le : H A.le = some (.lst (nvs st.pos.led))
  wo : H A.wo = some (.lst [nv st.w0, nv st.w1])
  hi : ∃ as : List Addr, H A.hi = some (.lst (as.map V.ref)) ∧ Paired (HistT H) as st.hist
  be : ∃ as : List Addr, H A.be = some (.lst (as.map V.ref)) ∧ Paired (BefT H) as st.bef
  nd : [A.hl, A.le, A.wo, A.hi, A.be].Nodup
/-- the class's facts -/
structure ClsP (K : PySem.W.Frag) (C : Addr) : Prop where
  cl : Cls K C
  n1 : NoAttr K C "_deck"
  n2 : NoAttr K C "_trump"
  n3 : NoAttr K C "_leader"
  n4 : NoAttr K C "_hands"
  n5 : NoAttr K C "_led"
  n6 : NoAttr K C "_won"
  n7 : NoAttr K C "_history"
  n8 : NoAttr K C "_before"
/-- the play's own objects -/
def foot (A : PlA) (b : Addr) : Prop := b = A.p ∨ b = A.hl ∨ b = A.le ∨ b = A.wo ∨ b = A.hi ∨ b = A.be
/-- the same play, its lists of the trick and of the won tricks made anew -/
structure Adj (H : Hp) (A A' : PlA) : Prop where
  p : A'.p = A.p
  dx : A'.dx = A.dx
  dk : A'.dk = A.dk
  hl : A'.hl = A.hl
  hi : A'.hi = A.hi
  be : A'.be = A.be
  le : A'.le = A.le ∨ H A'.le = none
  wo : A'.wo = A.wo ∨ H A'.wo = none
theorem Adj.refl {H : Hp} {A : PlA} : Adj H A A := ⟨rfl, rfl, rfl, rfl, rfl, rfl, .inl rfl, .inl rfl⟩
theorem Adj.foot {H : Hp} {A A' : PlA} (h : Adj H A A') {x : Addr} (m : foot A' x) : KW.foot A x ∨ H x = none := by
  unfold KW.foot at *
  rw [h.p, h.hl, h.hi, h.be] at m
  rcases m with m | m | m | m | m | m
  · exact .inl (.inl m)
  · exact .inl (.inr (.inl m))
  · rcases h.le with e | e
    · exact .inl (.inr (.inr (.inl (m.trans e))))
    · rw [m]; exact .inr e
  · rcases h.wo with e | e
    · exact .inl (.inr (.inr (.inr (.inl (m.trans e)))))
    · rw [m]; exact .inr e
  · exact .inl (.inr (.inr (.inr (.inr (.inl m)))))
  · exact .inl (.inr (.inr (.inr (.inr (.inr m)))))
theorem Adj.trans {M : Addr → Prop} {H H1 : Hp} {A A1 A2 : PlA} (a : Adj H A A1) (k : Keep M H H1) (b : Adj H1 A1 A2) : Adj H A A2 := by
  refine ⟨b.p.trans a.p, b.dx.trans a.dx, b.dk.trans a.dk, b.hl.trans a.hl, b.hi.trans a.hi, b.be.trans a.be, ?_, ?_⟩
  · rcases b.le with e | e
    · rw [e]; exact a.le
    · exact .inr (k.back _ e)
  · rcases b.wo with e | e
    · rw [e]; exact a.wo
    · exact .inr (k.back _ e)
section
variable {K : PySem.W.Frag} {C : Addr} {H H' : Hp} {A : PlA} {st : PSt}
/-- no tuple is of the play's own objects -/
theorem PlayAt.notup (h : PlayAt K C H A st) {a : Addr} {xs : List V} (e : H a = some (.tup xs)) : ¬ foot A a := by
  obtain ⟨a1, h1, _⟩ := h.hi
  obtain ⟨a2, h2, _⟩ := h.be
  rintro (m | m | m | m | m | m) <;> subst m
  · rw [h.ob] at e; cases e
  · rw [h.hl] at e; cases e
  · rw [h.le] at e; cases e
  · rw [h.wo] at e; cases e
  · rw [h1] at e; cases e
  · rw [h2] at e; cases e
theorem PlayAt.nofrz (h : PlayAt K C H A st) {a : Addr} {o : Obj} {u : HO} (e : H a = some (.frz o u)) : ¬ foot A a := by
  obtain ⟨a1, h1, _⟩ := h.hi
  obtain ⟨a2, h2, _⟩ := h.be
  rintro (m | m | m | m | m | m) <;> subst m
  · rw [h.ob] at e; cases e
  · rw [h.hl] at e; cases e
  · rw [h.le] at e; cases e
  · rw [h.wo] at e; cases e
  · rw [h1] at e; cases e
  · rw [h2] at e; cases e
theorem sqT_keep {M : Addr → Prop} {a : Addr} {xs : List V} (k : Keep M H H') (h : SqT K H a xs) (n1 : ∀ ys, H a = some (.tup ys) → ¬ M a) (n2 : ∀ o u, H a = some (.frz o u) → ¬ M a) : SqT K H' a xs := by
  rcases h with (h | ⟨o, h⟩) | h
  · exact .inl (.inl (k.at_ _ _ h (n1 _ h)))
  · exact .inl (.inr ⟨o, k.at_ _ _ h (n2 _ _ h)⟩)
  · exact .inr h
theorem BefT.keep {a : Addr} {x : Nat × List Nat × Nat × Nat} (h : BefT H a x) (k : ∀ b xs, H b = some (.tup xs) → H' b = some (.tup xs)) : BefT H' a x := by
  obtain ⟨b, c, h1, h2, h3⟩ := h
  exact ⟨b, c, k _ _ h1, k _ _ h2, k _ _ h3⟩
/-- every object of the play and every tuple is kept -/
theorem PlayAt.keep (h : PlayAt K C H A st) (k : ∀ b o, H b = some o → foot A b → H' b = some o) (kt : ∀ b xs, H b = some (.tup xs) → H' b = some (.tup xs)) (kf : ∀ b o u, H b = some (.frz o u) → H' b = some (.frz o u)) : PlayAt K C H' A st := by
  obtain ⟨a1, h1, r1⟩ := h.hi
  obtain ⟨a2, h2, r2⟩ := h.be
  refine ⟨k _ _ h.ob (.inl rfl), ?_, k _ _ h.hl (.inr (.inl rfl)), k _ _ h.le (.inr (.inr (.inl rfl))), k _ _ h.wo (.inr (.inr (.inr (.inl rfl)))), ⟨a1, k _ _ h1 (.inr (.inr (.inr (.inr (.inl rfl))))), Paired.mapP r1 fun _ _ z => kt _ _ z⟩, ⟨a2, k _ _ h2 (.inr (.inr (.inr (.inr (.inr rfl))))), Paired.mapP r2 fun _ _ z => z.keep kt⟩, h.nd⟩
  rcases h.dk with (z | ⟨o, z⟩) | z
  · exact .inl (.inl (kt _ _ z))
  · exact .inl (.inr ⟨o, kf _ _ _ z⟩)
  · exact .inr z
theorem PlayAt.same (h : PlayAt K C H A st) (k : Same H H') : PlayAt K C H' A st := h.keep (fun b o e _ => k b o e) (fun b xs e => k b _ e) fun b o u e => k b _ e
theorem PlayAt.there (h : PlayAt K C H A st) {x : Addr} (m : foot A x) : H x ≠ none := by
  obtain ⟨a1, h1, _⟩ := h.hi
  obtain ⟨a2, h2, _⟩ := h.be
  rcases m with m | m | m | m | m | m <;> subst m
  · rw [h.ob]; exact fun z => nomatch z
  · rw [h.hl]; exact fun z => nomatch z
  · rw [h.le]; exact fun z => nomatch z
  · rw [h.wo]; exact fun z => nomatch z
  · rw [h1]; exact fun z => nomatch z
  · rw [h2]; exact fun z => nomatch z
end

theorem keep_begin {H : Hp} {p hl le wo hi be : Addr} (h1 : H hl = none) (h2 : H le = none) (h3 : H wo = none) (h4 : H hi = none) (h5 : H be = none) {o1 o2 o3 o4 o5 o6 o7 o8 o9 o10 o11 : HO} :
    Keep (fun x => x = p) H (upd (upd (upd (upd (upd (upd (upd (upd (upd (upd (upd H p o1) hl o2) p o3) le o4) p o5) wo o6) p o7) hi o8) p o9) be o10) p o11) :=
  ((((((((((Keep.put (p := p) (H := H)).mut (.inr h1)).mut (.inl rfl)).mut (.inr h2)).mut (.inl rfl)).mut (.inr h3)).mut (.inl rfl)).mut (.inr h4)).mut (.inl rfl)).mut (.inr h5)).mut (.inl rfl)
/-! ### begin, deck, position, .. -/
abbrev sBegin : Stmt := inPlay 1
def spBegin (K : PySem.W.Frag) : Sp := fun vs H Q _ => ∃ (C p dx dk pa : Addr) (s r : Nat) (q : K70.Pos), vs = [.ref p, .ref dk, .ref pa] ∧ ClsP K C ∧ H p = some (.ins C dx []) ∧ SqT K H dk [nv s, nv r] ∧ PosT H pa q ∧ q.hands.length ≤ 100 ∧ q.led.length ≤ 100 ∧
  ∀ A H', A.p = p → (∀ x, foot A x → x = p ∨ H x = none) → PlayAt K C H' A ⟨s, r, q, 0, 0, [], []⟩ → Keep (fun x => x = p) H H' → Q .non H'
section
variable {P : Program} {w : World} {K : PySem.W.Frag} {mg : Str → Option Value} {base : Heap}
theorem sc_begin : FnScope ["self", "deck", "position", "hands", "led"] ["self", "deck", "position"] (defScope sBegin) := ⟨rfl, rfl, rfl, by decide +kernel, rfl, by decide +kernel, by decide +kernel⟩
theorem ok_begin {C : Addr} {cl : Cls K C} (F : MetFn K C "begin" "Play.begin" sBegin ["self", "deck", "position"]) (ml : mg "list" = none) : Met P w K mg base 1 C "begin" (spBegin K) := by
  refine met cl F sc_begin (fun vs H Q E h => ?_) (fun f cdv A outer s H vs Q E hr h => ?_)
  · obtain ⟨C, p, dx, dk, pa, s, r, q, rfl, _⟩ := h; rfl
  obtain ⟨C, p, dx, dk, pa, s', r, q, rfl, cp, hp, hd, ⟨ha, la, t1, t2, t3⟩, l1, l2, k⟩ := h
  refine ⟨_, pss_cons (ps_fld (pv 0) (pv 1) rfl)
    (pss_cons (ps_asg (pv 2) (pg_tup rfl (pgs_cons (pg_fld (pv 0)) (pgs_cons (pg_name (i := 3) sc_begin.nd rfl (.inl rfl)) (pgs_cons (pg_fld (pv 0)) (pgs_cons (pg_name (i := 4) sc_begin.nd rfl (.inl rfl)) pgs_nil))))))
    (pss_cons (ps_fld (pv 0) (pe_callTy call_list_of (by rfl) ml (by decide +kernel) (pa_cons (pv 3) pa_nil)) rfl)
    (pss_cons (ps_fld (pv 0) (pe_callTy call_list_of (by rfl) ml (by decide +kernel) (pa_cons (pv 4) pa_nil)) rfl)
    (pss_cons (ps_fld (pv 0) (pe_lst (pa_cons pe_int (pa_cons pe_int pa_nil))) rfl)
    (pss_cons (ps_fld (pv 0) (pe_lst pa_nil) rfl)
    (pss_one (ps_fld (pv 0) (pe_lst pa_nil) rfl))))))), ?_⟩
  have npa : pa ≠ p := ne_of t1 hp (fun z => nomatch z)
  have nha : ha ≠ p := ne_of t2 hp (fun z => nomatch z)
  have nla : la ≠ p := ne_of t3 hp (fun z => nomatch z)
  refine ⟨_, rfl, _, rfl, p, C, dx, [], rfl, hp, cp.cl, cp.n1, (by show 0 < 1000; decide), ?_⟩
  refine ⟨_, rfl, pa, _, rfl, .inl (.inl (by rw [upd_ne npa]; exact t1)), rfl, _, _, rfl, _, rfl, p, C, dx, _, rfl, upd_same, cp.cl, cp.n2, (by show 1 < 1000; decide), _, _, rfl, _, _, rfl, _, rfl, p, C, dx, _, rfl, upd_same, cp.cl, cp.n3, (by show 2 < 1000; decide), _, _, rfl, rfl, ?_⟩
  rw [upd_upd, upd_upd]
  refine ⟨_, rfl, ha, _, rfl, .inr (.inl (.inl (by rw [upd_ne nha]; exact t2))), fun hl nhl => ⟨_, rfl, p, C, dx, _, rfl, (by rw [upd_ne (ne_of_none upd_same nhl), upd_same]), cp.cl, cp.n4, (by show 3 < 1000; decide), ?_⟩⟩
  have n1 : p ≠ hl := ne_of_none upd_same nhl
  have nhl' : H hl = none := by rw [upd_ne n1.symm] at nhl; exact nhl
  refine ⟨_, rfl, la, _, rfl, .inr (.inl (.inl (by rw [upd_ne nla, upd_ne (ne_of_none t3 nhl'), upd_ne nla]; exact t3))), fun le nle => ⟨_, rfl, p, C, dx, _, rfl, (by rw [upd_ne (ne_of_none upd_same nle), upd_same]), cp.cl, cp.n5, (by show 4 < 1000; decide), ?_⟩⟩
  have n2 : p ≠ le := ne_of_none upd_same nle
  rw [upd_ne n2.symm] at nle
  have n3 : hl ≠ le := ne_of_none upd_same nle
  rw [upd_ne n3.symm, upd_ne n2.symm] at nle
  refine ⟨(by show 2 ≤ sizeLine; decide), fun wo nwo => ⟨_, rfl, p, C, dx, _, rfl, (by rw [upd_ne (ne_of_none upd_same nwo), upd_same]), cp.cl, cp.n6, (by show 5 < 1000; decide), ?_⟩⟩
  have n4 : p ≠ wo := ne_of_none upd_same nwo
  rw [upd_ne n4.symm] at nwo
  have n5 : le ≠ wo := ne_of_none upd_same nwo
  rw [upd_ne n5.symm, upd_ne n4.symm] at nwo
  have n6 : hl ≠ wo := ne_of_none upd_same nwo
  rw [upd_ne n6.symm, upd_ne n4.symm] at nwo
  refine ⟨(by show 0 ≤ sizeLine; decide), fun hi nhi => ⟨_, rfl, p, C, dx, _, rfl, (by rw [upd_ne (ne_of_none upd_same nhi), upd_same]), cp.cl, cp.n7, (by show 6 < 1000; decide), ?_⟩⟩
  have n7 : p ≠ hi := ne_of_none upd_same nhi
  rw [upd_ne n7.symm] at nhi
  have n8 : wo ≠ hi := ne_of_none upd_same nhi
  rw [upd_ne n8.symm, upd_ne n7.symm] at nhi
  have n9 : le ≠ hi := ne_of_none upd_same nhi
  rw [upd_ne n9.symm, upd_ne n7.symm] at nhi
  have n10 : hl ≠ hi := ne_of_none upd_same nhi
  rw [upd_ne n10.symm, upd_ne n7.symm] at nhi
  refine ⟨(by show 0 ≤ sizeLine; decide), fun be nbe => ⟨_, rfl, p, C, dx, _, rfl, (by rw [upd_ne (ne_of_none upd_same nbe), upd_same]), cp.cl, cp.n8, (by show 7 < 1000; decide), ?_⟩⟩
  have m1 : p ≠ be := ne_of_none upd_same nbe
  rw [upd_ne m1.symm] at nbe
  have m2 : hi ≠ be := ne_of_none upd_same nbe
  rw [upd_ne m2.symm, upd_ne m1.symm] at nbe
  have m3 : wo ≠ be := ne_of_none upd_same nbe
  rw [upd_ne m3.symm, upd_ne m1.symm] at nbe
  have m4 : le ≠ be := ne_of_none upd_same nbe
  rw [upd_ne m4.symm, upd_ne m1.symm] at nbe
  have m5 : hl ≠ be := ne_of_none upd_same nbe
  rw [upd_ne m5.symm, upd_ne m1.symm] at nbe
  refine k ⟨p, dx, dk, hl, le, wo, hi, be⟩ _ rfl (fun x hx => ?_) ⟨?_, ?_, ?_, ?_, ?_, ⟨[], ?_, .nil⟩, ⟨[], ?_, .nil⟩, ?_⟩ (keep_begin nhl' nle nwo nhi nbe)
  · rcases hx with rfl | rfl | rfl | rfl | rfl | rfl
    · exact .inl rfl
    · exact .inr nhl'
    · exact .inr nle
    · exact .inr nwo
    · exact .inr nhi
    · exact .inr nbe
  · rw [upd_same]
    exact congrArg (fun l => some (HO.ins C dx l)) (by kernel_rfl)
  · refine sqT_keep (keep_begin nhl' nle nwo nhi nbe) hd (fun ys e z => ?_) (fun o u e z => ?_)
    · rw [z, hp] at e; cases e
    · rw [z, hp] at e; cases e
  · rw [upd_ne n1.symm, upd_ne m5, upd_ne n1.symm, upd_ne n10, upd_ne n1.symm, upd_ne n6, upd_ne n1.symm, upd_ne n3, upd_ne n1.symm, upd_same]
  · rw [upd_ne n2.symm, upd_ne m4, upd_ne n2.symm, upd_ne n9, upd_ne n2.symm, upd_ne n5, upd_ne n2.symm, upd_same]
  · rw [upd_ne n4.symm, upd_ne m3, upd_ne n4.symm, upd_ne n8, upd_ne n4.symm, upd_same]
    rfl
  · rw [upd_ne n7.symm, upd_ne m2, upd_ne n7.symm, upd_same]
    rfl
  · rw [upd_ne m1.symm, upd_same]
    rfl
  · simp only [List.nodup_cons, List.mem_cons, List.mem_singleton, List.not_mem_nil, or_false, not_or, not_false_eq_true, and_true, List.nodup_nil]
    exact ⟨⟨n3, n6, n10, m5⟩, ⟨n5, n9, m4⟩, ⟨n8, m3⟩, m2⟩
end
end KW

/-! finesse.play: the methods that read -/
namespace KW
open PySem PySem.Spec PyProof.Rows L2
open K70 (PSt PosOk)
section
variable {dk : Addr} {t : Int} {l : Nat} {hl le wo hi be : Addr}
theorem lk_deck : (fields dk t l hl le wo hi be).lookup ("_deck" : Str) = some (.ref dk) := by kernel_rfl
theorem lk_trump : (fields dk t l hl le wo hi be).lookup ("_trump" : Str) = some (.int t) := by kernel_rfl
theorem lk_leader : (fields dk t l hl le wo hi be).lookup ("_leader" : Str) = some (nv l) := by kernel_rfl
theorem lk_hands : (fields dk t l hl le wo hi be).lookup ("_hands" : Str) = some (.ref hl) := by kernel_rfl
theorem lk_led : (fields dk t l hl le wo hi be).lookup ("_led" : Str) = some (.ref le) := by kernel_rfl
theorem lk_won : (fields dk t l hl le wo hi be).lookup ("_won" : Str) = some (.ref wo) := by kernel_rfl
theorem lk_hist : (fields dk t l hl le wo hi be).lookup ("_history" : Str) = some (.ref hi) := by kernel_rfl
theorem lk_bef : (fields dk t l hl le wo hi be).lookup ("_before" : Str) = some (.ref be) := by kernel_rfl
theorem pf_leader {x : Nat} : putF "_leader" (nv x) (fields dk t l hl le wo hi be) = fields dk t x hl le wo hi be := by kernel_rfl
theorem pf_led {x : Addr} : putF "_led" (V.ref x) (fields dk t l hl le wo hi be) = fields dk t l hl x wo hi be := by kernel_rfl
theorem pf_won {x : Addr} : putF "_won" (V.ref x) (fields dk t l hl le wo hi be) = fields dk t l hl le x hi be := by kernel_rfl
end
abbrev sDeck : Stmt := inPlay 2
abbrev sOver : Stmt := inPlay 7
abbrev sMover : Stmt := inPlay 8
abbrev sTurn : Stmt := inPlay 9
abbrev sLegal : Stmt := inPlay 10
abbrev sTricks : Stmt := inPlay 14
abbrev sLeft : Stmt := inPlay 15
abbrev sPosn : Stmt := inPlay 16
def spDeck (K : PySem.W.Frag) : Sp := fun vs H Q _ => ∃ (C : Addr) (A : PlA) (st : PSt), vs = [.ref A.p] ∧ ClsP K C ∧ PlayAt K C H A st ∧ Q (.ref A.dk) H
def spPosn (K : PySem.W.Frag) : Sp := fun vs H Q _ => ∃ (C : Addr) (A : PlA) (st : PSt), vs = [.ref A.p] ∧ ClsP K C ∧ PlayAt K C H A st ∧ ∀ a H', Same H H' → H a = none → PosT H' a st.pos → Q (.ref a) H'
def spOver (K : PySem.W.Frag) : Sp := fun vs H Q _ => ∃ (C : Addr) (A : PlA) (st : PSt), vs = [.ref A.p] ∧ ClsP K C ∧ PlayAt K C H A st ∧ ∀ H', Same H H' → Q (.bl (decide (st.pos.hands = [0, 0, 0, 0]))) H'
def spMover (K : PySem.W.Frag) : Sp := fun vs H Q _ => ∃ (C : Addr) (A : PlA) (st : PSt), vs = [.ref A.p] ∧ ClsP K C ∧ PlayAt K C H A st ∧ Q (nv (K70.mover st.pos)) H
def spTurn (K : PySem.W.Frag) (C : Addr) : Sp := fun vs H Q _ => ∃ (A : PlA) (st : PSt), vs = [.ref A.p] ∧ PlayAt K C H A st ∧ st.pos.hands ≠ [0, 0, 0, 0] ∧ ∀ H', Same H H' → Q (nv (K70.mover st.pos)) H'
def spLegal (K : PySem.W.Frag) (C : Addr) : Sp := fun vs H Q _ => ∃ (A : PlA) (st : PSt), vs = [.ref A.p] ∧ PlayAt K C H A st ∧ PosOk st.pos ∧ (0 < st.r ∧ st.r ≤ 13) ∧ ∀ a H', Same H H' → H a = none → H' a = some (.lst (nvs (K70.legal st.r st.pos))) → Q (.ref a) H'
def spTricks (K : PySem.W.Frag) : Sp := fun vs H Q _ => ∃ (C : Addr) (A : PlA) (st : PSt), vs = [.ref A.p, .int 0] ∧ ClsP K C ∧ PlayAt K C H A st ∧ Q (nv st.w0) H
def spLeft (K : PySem.W.Frag) : Sp := fun vs H Q _ => ∃ (C : Addr) (A : PlA) (st : PSt), vs = [.ref A.p] ∧ ClsP K C ∧ PlayAt K C H A st ∧ PosOk st.pos ∧ ∀ H', Same H H' → Q (nv (K70.count (st.pos.hands.getD ((st.pos.leader + 3) % 4) 0))) H'
section
variable {P : Program} {w : World} {K : PySem.W.Frag} {mg : Str → Option Value} {base : Heap} {C : Addr}
theorem sc_deck : FnScope ["self"] ["self"] (defScope sDeck) := ⟨rfl, rfl, rfl, by decide +kernel, rfl, by decide +kernel, by decide +kernel⟩
theorem ok_deck (cl : Cls K C) (F : MetFn K C "deck" "Play.deck" sDeck ["self"]) : Met P w K mg base 1 C "deck" (spDeck K) := by
  refine met cl F sc_deck (fun vs H Q E h => ?_) (fun f cdv A outer s H vs Q E hr h => ?_)
  · obtain ⟨C, A, st, rfl, _⟩ := h; rfl
  obtain ⟨C, A, st, rfl, cp, hp, q⟩ := h
  refine ⟨_, pss_one (ps_ret (pe_fld (pv 0) rfl)), ?_⟩
  exact ⟨_, rfl, A.p, C, A.dx, _, _, rfl, hp.ob, cp.cl, cp.n1, lk_deck, q⟩
theorem sc_posn : FnScope ["self"] ["self"] (defScope sPosn) := ⟨rfl, rfl, rfl, by decide +kernel, rfl, by decide +kernel, by decide +kernel⟩
theorem ok_posn (cl : Cls K C) (F : MetFn K C "position" "Play.position" sPosn ["self"]) (mt : mg "tuple" = none) : Met P w K mg base 1 C "position" (spPosn K) := by
  refine met cl F sc_posn (fun vs H Q E h => ?_) (fun f cdv A outer s H vs Q E hr h => ?_)
  · obtain ⟨C, A, st, rfl, _⟩ := h; rfl
  obtain ⟨C, A, st, rfl, cp, hp, q⟩ := h
  refine ⟨_, pss_one (ps_ret (pe_tup (pa_cons (pe_fld (pv 0) rfl) (pa_cons (pe_callTy call_tuple_of (by rfl) mt (by decide +kernel) (pa_cons (pe_fld (pv 0) rfl) pa_nil)) (pa_cons (pe_fld (pv 0) rfl) (pa_cons (pe_callTy call_tuple_of (by rfl) mt (by decide +kernel) (pa_cons (pe_fld (pv 0) rfl) pa_nil)) pa_nil)))))), ?_⟩
  refine ⟨_, rfl, A.p, C, A.dx, _, _, rfl, hp.ob, cp.cl, cp.n2, lk_trump, ?_⟩
  refine ⟨_, rfl, A.p, C, A.dx, _, _, rfl, hp.ob, cp.cl, cp.n4, lk_hands, A.hl, _, rfl, .inl ⟨SqL.of hp.hl, fun ha nha => ?_⟩⟩
  have s1 : Same H (upd H ha (.tup (nvs st.pos.hands))) := Same.newK nha
  have hp1 := hp.same s1
  refine ⟨_, rfl, A.p, C, A.dx, _, _, rfl, hp1.ob, cp.cl, cp.n3, lk_leader, ?_⟩
  refine ⟨_, rfl, A.p, C, A.dx, _, _, rfl, hp1.ob, cp.cl, cp.n5, lk_led, A.le, _, rfl, .inl ⟨SqL.of hp1.le, fun la nla => ?_⟩⟩
  have s2 := s1.trans (Same.newK (o := .tup (nvs st.pos.led)) nla)
  refine ⟨(by show 4 ≤ sizeLine; decide), fun a na => ?_⟩
  have n1 : ha ≠ la := ne_of_none upd_same nla
  have n2 : la ≠ a := ne_of_none upd_same na
  have n3 : ha ≠ a := ne_of_none (by rw [upd_ne n1, upd_same]) na
  refine q a _ (s2.trans (Same.newK na)) (s2.free na) ⟨ha, la, upd_same, ?_, ?_⟩
  · rw [upd_ne n3, upd_ne n1, upd_same]
  · rw [upd_ne n2, upd_same]
theorem sc_over : FnScope ["self"] ["self"] (defScope sOver) := ⟨rfl, rfl, rfl, by decide +kernel, rfl, by decide +kernel, by decide +kernel⟩
theorem ok_over (cl : Cls K C) (F : MetFn K C "is_over" "Play.is_over" sOver ["self"]) : Met P w K mg base 1 C "is_over" (spOver K) := by
  refine met cl F sc_over (fun vs H Q E h => ?_) (fun f cdv A outer s H vs Q E hr h => ?_)
  · obtain ⟨C, A, st, rfl, _⟩ := h; rfl
  obtain ⟨C, A, st, rfl, cp, hp, q⟩ := h
  refine ⟨_, pss_one (ps_ret (pe_cmpR (op_eqD hr.units) (pe_fld (pv 0) rfl) (pe_lst (pa_cons pe_int (pa_cons pe_int (pa_cons pe_int (pa_cons pe_int pa_nil))))) (nomark _))), ?_⟩
  refine ⟨_, rfl, A.p, C, A.dx, _, _, rfl, hp.ob, cp.cl, cp.n4, lk_hands, (by show 4 ≤ sizeLine; decide), fun z nz => ?_⟩
  have s1 : Same H (upd H z (.lst (nvs [0, 0, 0, 0]))) := Same.newK nz
  refine ⟨.list (numsD st.pos.hands), .list (numsD [0, 0, 0, 0]), dp_nums (SqL.of (s1 _ _ hp.hl)), dp_nums (SqL.of upd_same), shaped_list _, shaped_list _, ?_⟩
  rw [eqv_list]
  exact q _ s1
theorem sc_mover : FnScope ["self"] ["self"] (defScope sMover) := ⟨rfl, rfl, rfl, by decide +kernel, rfl, by decide +kernel, by decide +kernel⟩
theorem ok_mover (cl : Cls K C) (F : MetFn K C "mover" "Play.mover" sMover ["self"]) (ml : mg "len" = none) : Met P w K mg base 1 C "mover" (spMover K) := by
  refine met cl F sc_mover (fun vs H Q E h => ?_) (fun f cdv A outer s H vs Q E hr h => ?_)
  · obtain ⟨C, A, st, rfl, _⟩ := h; rfl
  obtain ⟨C, A, st, rfl, cp, hp, q⟩ := h
  refine ⟨_, pss_one (ps_ret (pe_op op_modNN (pe_op op_addN (pe_fld (pv 0) rfl) (pe_callB call_len_seq (by rfl) ml PySem.boot_len (pa_cons (pe_fld (pv 0) rfl) pa_nil))) pe_int)), ?_⟩
  refine ⟨_, rfl, A.p, C, A.dx, _, _, rfl, hp.ob, cp.cl, cp.n3, lk_leader, _, rfl, A.p, C, A.dx, _, _, rfl, hp.ob, cp.cl, cp.n5, lk_led, A.le, _, rfl, .inl (SqL.of hp.le), st.pos.leader, st.pos.led.length, rfl, ?_, st.pos.leader + st.pos.led.length, 4, rfl, rfl, (by show 0 < 4; decide), q⟩
  rw [nvs_len]
theorem sc_turn : FnScope ["self"] ["self"] (defScope sTurn) := ⟨rfl, rfl, rfl, by decide +kernel, rfl, by decide +kernel, by decide +kernel⟩
theorem ok_turn (cp : ClsP K C) (F : MetFn K C "turn" "Play.turn" sTurn ["self"]) (c1 : Met P w K mg base 1 C "is_over" (spOver K)) (c2 : Met P w K mg base 1 C "mover" (spMover K)) : Met P w K mg base 2 C "turn" (spTurn K C) := by
  refine met cp.cl F sc_turn (fun vs H Q E h => ?_) (fun f cdv A outer s H vs Q E hr h => ?_)
  · obtain ⟨A, st, rfl, _⟩ := h; rfl
  obtain ⟨A, st, rfl, hp, hn, q⟩ := h
  refine ⟨_, pss_cons (ps_if (pt_val (pe_mt0 c1 hr (by decide) (pv 0))) pss_never pss_nil) (pss_one (ps_ret (pe_mt0 c2 hr (by decide) (pv 0)))), ?_⟩
  refine ⟨_, rfl, A.p, A.dx, _, rfl, hp.ob, (by kernel_rfl), C, A, st, rfl, cp, hp, fun H1 s1 => ⟨_, rfl, ?_⟩⟩
  rw [decide_eq_false hn]
  refine iteF ?_
  have hp1 := hp.same s1
  exact ⟨_, rfl, A.p, A.dx, _, rfl, hp1.ob, (by kernel_rfl), C, A, st, rfl, cp, hp1, q H1 s1⟩
theorem sc_tricks : FnScope ["self", "side"] ["self", "side"] (defScope sTricks) := ⟨rfl, rfl, rfl, by decide +kernel, rfl, by decide +kernel, by decide +kernel⟩
theorem ok_tricks (cl : Cls K C) (F : MetFn K C "tricks" "Play.tricks" sTricks ["self", "side"]) : Met P w K mg base 1 C "tricks" (spTricks K) := by
  refine met cl F sc_tricks (fun vs H Q E h => ?_) (fun f cdv A outer s H vs Q E hr h => ?_)
  · obtain ⟨C, A, st, rfl, _⟩ := h; rfl
  obtain ⟨C, A, st, rfl, cp, hp, q⟩ := h
  refine ⟨_, pss_one (ps_ret (pe_l (pe_fld (pv 0) rfl) (pv 1))), ?_⟩
  exact ⟨_, rfl, A.p, C, A.dx, _, _, rfl, hp.ob, cp.cl, cp.n6, lk_won, _, rfl, A.wo, _, 0, _, rfl, rfl, SqL.of hp.wo, atI_nat (j := 0) rfl, q⟩
theorem sc_left : FnScope ["self", "last"] ["self"] (defScope sLeft) := ⟨rfl, rfl, rfl, by decide +kernel, rfl, by decide +kernel, by decide +kernel⟩
theorem pow52 {m : Nat} (h : m < 2 ^ 52) : m < 2 ^ 64 := Nat.lt_trans h (by decide)
theorem ok_left (cl : Cls K C) (F : MetFn K C "left" "Play.left" sLeft ["self"]) (cc : Cal P w K mg base 1 "cards_of" spCards) (ml : mg "len" = none) : Met P w K mg base 2 C "left" (spLeft K) := by
  refine met cl F sc_left (fun vs H Q E h => ?_) (fun f cdv A outer s H vs Q E hr h => ?_)
  · obtain ⟨C, A, st, rfl, _⟩ := h; rfl
  obtain ⟨C, A, st, rfl, cp, hp, ok, q⟩ := h
  refine ⟨_, pss_cons (ps_set (i := 1) sc_left.nd rfl (.inl rfl) (pe_op op_modNN (pe_op op_addN (pe_fld (pv 0) rfl) pe_int) pe_int))
    (pss_one (ps_ret (pe_callB call_len_seq (by rfl) ml PySem.boot_len (pa_cons (pe_c cc hr (by decide) (pa_cons (pe_l (pe_fld (pv 0) rfl) (pv 1)) pa_nil)) pa_nil)))), ?_⟩
  have hi : (st.pos.leader + 3) % 4 < st.pos.hands.length := by rw [ok.len]; exact Nat.mod_lt _ (by decide)
  refine ⟨_, rfl, A.p, C, A.dx, _, _, rfl, hp.ob, cp.cl, cp.n3, lk_leader, st.pos.leader, 3, rfl, rfl, st.pos.leader + 3, 4, rfl, rfl, (by show 0 < 4; decide), ?_⟩
  refine ⟨_, rfl, A.p, C, A.dx, _, _, rfl, hp.ob, cp.cl, cp.n4, lk_hands, _, rfl, A.hl, _, _, nv (st.pos.hands.getD ((st.pos.leader + 3) % 4) 0), rfl, rfl, SqL.of hp.hl, atI_nat (nvs_at (by rw [List.getD_eq_getElem?_getD, List.getElem?_eq_getElem hi]; rfl)), _, rfl, pow52 (ok.bits _ (K70.getD_mem hi)), fun p H' sm np e => ⟨p, _, rfl, .inl (SqL.of e), ?_⟩⟩
  rw [nvs_len]
  exact q H' sm
theorem sc_legal : FnScope ["self", "hand", "same"] ["self"] (defScope sLegal) := ⟨rfl, rfl, rfl, by decide +kernel, rfl, by decide +kernel, by decide +kernel⟩
theorem ok_legal (cp : ClsP K C) (F : MetFn K C "legal" "Play.legal" sLegal ["self"]) (cc : Cal P w K mg base 1 "cards_of" spCards) (co : Cal P w K mg base 1 "of_suit" (spOfSuit K)) (cs : Cal P w K mg base 1 "suit_of" (spSuit K)) (cm : Met P w K mg base 1 C "mover" (spMover K)) (ml : mg "len" = none) :
    Met P w K mg base 2 C "legal" (spLegal K C) := by
  refine met cp.cl F sc_legal (fun vs H Q E h => ?_) (fun f cdv A outer s H vs Q E hr h => ?_)
  · obtain ⟨A, st, rfl, _⟩ := h; rfl
  obtain ⟨A, st, rfl, hp, ok, hr13, q⟩ := h
  refine ⟨_, pss_cons (ps_set (i := 1) sc_legal.nd rfl (.inl rfl) (pe_l (pe_fld (pv 0) rfl) (pe_mt0 cm hr (by decide) (pv 0))))
    (pss_cons (ps_if (pt_cmpR op_gtN (pe_callB call_len_seq (by rfl) ml PySem.boot_len (pa_cons (pe_fld (pv 0) rfl) pa_nil)) pe_int (nomark _))
      (pss_cons (ps_set (i := 2) sc_legal.nd rfl (.inl rfl) (pe_c co hr (by decide) (pa_cons (pe_fld (pv 0) rfl) (pa_cons (pv 1) (pa_cons (pe_c cs hr (by decide) (pa_cons (pe_fld (pv 0) rfl) (pa_cons (pe_l (pe_fld (pv 0) rfl) pe_int) pa_nil))) pa_nil)))))
      (pss_one (ps_ret (pe_c cc hr (by decide) (pa_cons (pe_ifExp (pt_cmpR op_neN (pv 2) pe_int (nomark _)) (pv 2) (pv 1)) pa_nil))))) pss_nil)
    (pss_one (ps_ret (pe_c cc hr (by decide) (pa_cons (pv 1) pa_nil))))), ?_⟩
  have hm : K70.mover st.pos < st.pos.hands.length := by rw [ok.len]; exact K70.mover_lt _
  refine ⟨_, rfl, A.p, C, A.dx, _, _, rfl, hp.ob, cp.cl, cp.n4, lk_hands, _, rfl, A.p, A.dx, _, rfl, hp.ob, (by kernel_rfl), C, A, st, rfl, cp, hp, A.hl, _, _, nv (K70.handOf st.pos), rfl, rfl, SqL.of hp.hl, atI_nat (nvs_at (by unfold K70.handOf; rw [List.getD_eq_getElem?_getD, List.getElem?_eq_getElem hm]; rfl)), ?_⟩
  have fin : ∀ m : Nat, m < 2 ^ 64 → K70.cardsOf m = K70.legal st.r st.pos → spCards [nv m] H Q E0 := fun m h1 h2 => ⟨m, rfl, h1, fun p H' sm np e => q p H' sm np (by rw [← h2]; exact e)⟩
  refine ⟨_, rfl, A.p, C, A.dx, _, _, rfl, hp.ob, cp.cl, cp.n5, lk_led, A.le, _, rfl, .inl (SqL.of hp.le), st.pos.led.length, 0, (by rw [nvs_len]), rfl, _, rfl, ?_⟩
  cases hled : st.pos.led with
  | nil =>
    refine iteF ?_
    refine ⟨_, rfl, fin _ (pow52 ok.hand) ?_⟩
    unfold K70.legal
    rw [hled]
  | cons c0 rest =>
    refine iteT ?_
    have h0 : st.pos.led[0]? = some c0 := by rw [hled]; rfl
    have hc0 : c0 < 52 := ok.led c0 (by rw [hled]; exact List.mem_cons_self)
    refine ⟨_, rfl, A.p, C, A.dx, _, _, rfl, hp.ob, cp.cl, cp.n1, lk_deck, _, rfl, _, rfl, A.p, C, A.dx, _, _, rfl, hp.ob, cp.cl, cp.n1, lk_deck, _, rfl, A.p, C, A.dx, _, _, rfl, hp.ob, cp.cl, cp.n5, lk_led, A.le, _, 0, nv c0, rfl, rfl, SqL.of hp.le, atI_nat (j := 0) (nvs_at h0), ?_⟩
    refine ⟨A.dk, st.s, st.r, c0, rfl, hp.dk, ⟨hr13.1, by omega⟩, ?_⟩
    have hx : c0 / st.r < 64 := Nat.lt_of_le_of_lt (Nat.div_le_self _ _) (by omega)
    refine ⟨A.dk, st.s, st.r, K70.handOf st.pos, c0 / st.r, rfl, hp.dk, by omega, hx, ?_, ?_⟩
    · rw [Nat.one_shiftLeft]
      exact Nat.lt_of_le_of_lt (Nat.pow_le_pow_right (by decide) hr13.2) (by decide)
    have key : (ofSuit st.r (K70.handOf st.pos) (c0 / st.r) = 0) ↔ K70.follow st.r (K70.cardsOf (K70.handOf st.pos)) c0 = [] := K70.suit_nil st.r (K70.handOf st.pos) (c0 / st.r) hr13.1
    have hlt : ofSuit st.r (K70.handOf st.pos) (c0 / st.r) < 2 ^ 52 := Nat.lt_of_le_of_lt Nat.and_le_left ok.hand
    have leg : K70.legal st.r st.pos = if K70.follow st.r (K70.cardsOf (K70.handOf st.pos)) c0 = [] then K70.cardsOf (K70.handOf st.pos) else K70.follow st.r (K70.cardsOf (K70.handOf st.pos)) c0 := by
      unfold K70.legal
      rw [hled]
    refine ⟨_, rfl, ofSuit st.r (K70.handOf st.pos) (c0 / st.r), 0, rfl, rfl, _, rfl, ?_⟩
    by_cases z : ofSuit st.r (K70.handOf st.pos) (c0 / st.r) = 0
    · rw [decide_eq_true z]
      refine iteF ⟨_, rfl, fin _ (pow52 ok.hand) ?_⟩
      rw [leg, if_pos (key.mp z)]
    · rw [decide_eq_false z]
      refine iteT ⟨_, rfl, fin _ (pow52 hlt) ?_⟩
      rw [leg, if_neg (fun y => z (key.mpr y))]
      exact K70.cardsOf_suit _ _ _ hr13.1
end
end KW

/-! finesse.play: put and take_back -/
namespace KW
open PySem PySem.Spec PyProof.Rows L2
open K70 (PSt PosOk putSt backSt)
theorem ixn {n j : Nat} (hj : j < n) : ixN n (j : Int) = some j := by
  unfold ixN
  rw [if_pos (by omega), if_pos (by omega)]
  simp
theorem inV_nvs (c : Nat) : ∀ l : List Nat, inV (nv c) (nvs l) = decide (c ∈ l)
  | [] => rfl
  | x :: l => by
    have ih := inV_nvs c l
    unfold inV at ih ⊢
    show (eqV (nv x) (nv c) || (nvs l).any fun y => eqV y (nv c)) = _
    rw [ih]
    have e : eqV (nv x) (nv c) = decide (x = c) := by
      show ((x : Int) == (c : Int)) = _
      rw [Bool.eq_iff_iff, beq_iff_eq, decide_eq_true_eq, Int.natCast_inj]
    rw [e, Bool.eq_iff_iff]
    simp only [Bool.or_eq_true, decide_eq_true_eq, List.mem_cons]
    exact ⟨fun h => h.imp Eq.symm id, fun h => h.imp Eq.symm id⟩
theorem flat_nvs : ∀ l : List Nat, (nvs l).all flatV = true
  | [] => rfl
  | _ :: l => flat_nvs l

/-! ### one part of the play is written -/
section
variable {K : PySem.W.Frag} {C : Addr} {H : Hp} {A : PlA} {st : PSt}
theorem PlayAt.ne (h : PlayAt K C H A st) : A.p ≠ A.hl ∧ A.p ≠ A.le ∧ A.p ≠ A.wo ∧ A.p ≠ A.hi ∧ A.p ≠ A.be := by
  obtain ⟨a1, h1, _⟩ := h.hi
  obtain ⟨a2, h2, _⟩ := h.be
  exact ⟨ne_of h.ob h.hl (fun z => nomatch z), ne_of h.ob h.le (fun z => nomatch z), ne_of h.ob h.wo (fun z => nomatch z), ne_of h.ob h1 (fun z => nomatch z), ne_of h.ob h2 (fun z => nomatch z)⟩
theorem nd5 {a b c d e : Addr} (h : [a, b, c, d, e].Nodup) : (a ≠ b ∧ a ≠ c ∧ a ≠ d ∧ a ≠ e) ∧ (b ≠ c ∧ b ≠ d ∧ b ≠ e) ∧ (c ≠ d ∧ c ≠ e) ∧ d ≠ e := by
  simp only [List.nodup_cons, List.mem_cons, List.mem_singleton, List.not_mem_nil, or_false, not_or, not_false_eq_true, and_true, List.nodup_nil] at h
  exact h
theorem nd5' {a b c d e : Addr} (h : (a ≠ b ∧ a ≠ c ∧ a ≠ d ∧ a ≠ e) ∧ (b ≠ c ∧ b ≠ d ∧ b ≠ e) ∧ (c ≠ d ∧ c ≠ e) ∧ d ≠ e) : [a, b, c, d, e].Nodup := by
  simp only [List.nodup_cons, List.mem_cons, List.mem_singleton, List.not_mem_nil, or_false, not_or, not_false_eq_true, and_true, List.nodup_nil]
  exact h
/-- tuples and frozen things stay where a foot is written -/
theorem PlayAt.utup (h : PlayAt K C H A st) {x : Addr} {o : HO} (m : foot A x) : ∀ b ys, H b = some (.tup ys) → (upd H x o) b = some (.tup ys) := fun b ys e => by
  rw [upd_ne (fun z => h.notup e (by rw [z]; exact m))]
  exact e
theorem PlayAt.usq (h : PlayAt K C H A st) {x a : Addr} {o : HO} {xs : List V} (m : foot A x) (e : SqT K H a xs) : SqT K (upd H x o) a xs := by
  rcases e with (e | ⟨u, e⟩) | e
  · exact .inl (.inl (h.utup m _ _ e))
  · refine .inl (.inr ⟨u, ?_⟩)
    rw [upd_ne (fun z => h.nofrz e (by rw [z]; exact m))]
    exact e
  · exact .inr e
theorem PlayAt.hist' (h : PlayAt K C H A st) {x : Addr} {o : HO} (m : foot A x) (n : A.hi ≠ x) : ∃ as : List Addr, (upd H x o) A.hi = some (.lst (as.map V.ref)) ∧ Paired (HistT (upd H x o)) as st.hist := by
  obtain ⟨as, e, r⟩ := h.hi
  exact ⟨as, by rw [upd_ne n]; exact e, Paired.mapP r fun _ _ z => h.utup m _ _ z⟩
theorem PlayAt.bef' (h : PlayAt K C H A st) {x : Addr} {o : HO} (m : foot A x) (n : A.be ≠ x) : ∃ as : List Addr, (upd H x o) A.be = some (.lst (as.map V.ref)) ∧ Paired (BefT (upd H x o)) as st.bef := by
  obtain ⟨as, e, r⟩ := h.be
  exact ⟨as, by rw [upd_ne n]; exact e, Paired.mapP r fun _ _ z => z.keep (h.utup m)⟩
theorem PlayAt.upd_be (h : PlayAt K C H A st) {as : List Addr} {bs : List (Nat × List Nat × Nat × Nat)} (r : Paired (BefT H) as bs) : PlayAt K C (upd H A.be (.lst (as.map V.ref))) A { st with bef := bs } := by
  obtain ⟨p1, p2, p3, p4, p5⟩ := h.ne
  obtain ⟨⟨a1, a2, a3, a4⟩, ⟨b1, b2, b3⟩, ⟨c1, c2⟩, d1⟩ := nd5 h.nd
  have m : foot A A.be := .inr (.inr (.inr (.inr (.inr rfl))))
  exact ⟨by rw [upd_ne p5]; exact h.ob, h.usq m h.dk, by rw [upd_ne a4]; exact h.hl, by rw [upd_ne b3]; exact h.le, by rw [upd_ne c2]; exact h.wo, h.hist' m d1, ⟨as, upd_same, Paired.mapP r fun _ _ z => z.keep (h.utup m)⟩, h.nd⟩
theorem PlayAt.upd_hi (h : PlayAt K C H A st) {as : List Addr} {bs : List (Nat × Nat)} (r : Paired (HistT H) as bs) : PlayAt K C (upd H A.hi (.lst (as.map V.ref))) A { st with hist := bs } := by
  obtain ⟨p1, p2, p3, p4, p5⟩ := h.ne
  obtain ⟨⟨a1, a2, a3, a4⟩, ⟨b1, b2, b3⟩, ⟨c1, c2⟩, d1⟩ := nd5 h.nd
  have m : foot A A.hi := .inr (.inr (.inr (.inr (.inl rfl))))
  exact ⟨by rw [upd_ne p4]; exact h.ob, h.usq m h.dk, by rw [upd_ne a3]; exact h.hl, by rw [upd_ne b2]; exact h.le, by rw [upd_ne c1]; exact h.wo, ⟨as, upd_same, Paired.mapP r fun _ _ z => h.utup m _ _ z⟩, h.bef' m d1.symm, h.nd⟩
theorem PlayAt.upd_hl (h : PlayAt K C H A st) (hs : List Nat) : PlayAt K C (upd H A.hl (.lst (nvs hs))) A { st with pos := { st.pos with hands := hs } } := by
  obtain ⟨p1, p2, p3, p4, p5⟩ := h.ne
  obtain ⟨⟨a1, a2, a3, a4⟩, ⟨b1, b2, b3⟩, ⟨c1, c2⟩, d1⟩ := nd5 h.nd
  have m : foot A A.hl := .inr (.inl rfl)
  exact ⟨by rw [upd_ne p1]; exact h.ob, h.usq m h.dk, upd_same, by rw [upd_ne a1.symm]; exact h.le, by rw [upd_ne a2.symm]; exact h.wo, h.hist' m a3.symm, h.bef' m a4.symm, h.nd⟩
theorem PlayAt.upd_le (h : PlayAt K C H A st) (hs : List Nat) : PlayAt K C (upd H A.le (.lst (nvs hs))) A { st with pos := { st.pos with led := hs } } := by
  obtain ⟨p1, p2, p3, p4, p5⟩ := h.ne
  obtain ⟨⟨a1, a2, a3, a4⟩, ⟨b1, b2, b3⟩, ⟨c1, c2⟩, d1⟩ := nd5 h.nd
  have m : foot A A.le := .inr (.inr (.inl rfl))
  exact ⟨by rw [upd_ne p2]; exact h.ob, h.usq m h.dk, by rw [upd_ne a1]; exact h.hl, upd_same, by rw [upd_ne b1.symm]; exact h.wo, h.hist' m b2.symm, h.bef' m b3.symm, h.nd⟩
theorem PlayAt.upd_wo (h : PlayAt K C H A st) (x y : Nat) : PlayAt K C (upd H A.wo (.lst [nv x, nv y])) A { st with w0 := x, w1 := y } := by
  obtain ⟨p1, p2, p3, p4, p5⟩ := h.ne
  obtain ⟨⟨a1, a2, a3, a4⟩, ⟨b1, b2, b3⟩, ⟨c1, c2⟩, d1⟩ := nd5 h.nd
  have m : foot A A.wo := .inr (.inr (.inr (.inl rfl)))
  exact ⟨by rw [upd_ne p3]; exact h.ob, h.usq m h.dk, by rw [upd_ne a2]; exact h.hl, by rw [upd_ne b1]; exact h.le, upd_same, h.hist' m c1.symm, h.bef' m c2.symm, h.nd⟩
theorem PlayAt.upd_leader (h : PlayAt K C H A st) (x : Nat) : PlayAt K C (upd H A.p (.ins C A.dx (putF "_leader" (nv x) (fieldsOf A st)))) A { st with pos := { st.pos with leader := x } } := by
  obtain ⟨p1, p2, p3, p4, p5⟩ := h.ne
  have m : foot A A.p := .inl rfl
  exact ⟨by rw [upd_same, pf_leader], h.usq m h.dk, by rw [upd_ne p1.symm]; exact h.hl, by rw [upd_ne p2.symm]; exact h.le, by rw [upd_ne p3.symm]; exact h.wo, h.hist' m p4.symm, h.bef' m p5.symm, h.nd⟩
/-- another list of the trick -/
theorem PlayAt.upd_led (h : PlayAt K C H A st) {x : Addr} {hs : List Nat} (e : H x = some (.lst (nvs hs))) (n1 : x ≠ A.hl) (n2 : x ≠ A.wo) (n3 : x ≠ A.hi) (n4 : x ≠ A.be) :
    PlayAt K C (upd H A.p (.ins C A.dx (putF "_led" (.ref x) (fieldsOf A st)))) { A with le := x } { st with pos := { st.pos with led := hs } } := by
  obtain ⟨p1, p2, p3, p4, p5⟩ := h.ne
  obtain ⟨⟨a1, a2, a3, a4⟩, ⟨b1, b2, b3⟩, ⟨c1, c2⟩, d1⟩ := nd5 h.nd
  have m : foot A A.p := .inl rfl
  have np : x ≠ A.p := ne_of e h.ob (fun z => nomatch z)
  exact ⟨by rw [upd_same, pf_led], h.usq m h.dk, by rw [upd_ne p1.symm]; exact h.hl, by rw [upd_ne np]; exact e, by rw [upd_ne p3.symm]; exact h.wo, h.hist' m p4.symm, h.bef' m p5.symm, nd5' ⟨⟨n1.symm, a2, a3, a4⟩, ⟨n2, n3, n4⟩, ⟨c1, c2⟩, d1⟩⟩
theorem PlayAt.upd_won (h : PlayAt K C H A st) {x : Addr} {y z : Nat} (e : H x = some (.lst [nv y, nv z])) (n1 : x ≠ A.hl) (n2 : x ≠ A.le) (n3 : x ≠ A.hi) (n4 : x ≠ A.be) :
    PlayAt K C (upd H A.p (.ins C A.dx (putF "_won" (.ref x) (fieldsOf A st)))) { A with wo := x } { st with w0 := y, w1 := z } := by
  obtain ⟨p1, p2, p3, p4, p5⟩ := h.ne
  obtain ⟨⟨a1, a2, a3, a4⟩, ⟨b1, b2, b3⟩, ⟨c1, c2⟩, d1⟩ := nd5 h.nd
  have m : foot A A.p := .inl rfl
  have np : x ≠ A.p := ne_of e h.ob (fun z => nomatch z)
  exact ⟨by rw [upd_same, pf_won], h.usq m h.dk, by rw [upd_ne p1.symm]; exact h.hl, by rw [upd_ne p2.symm]; exact h.le, by rw [upd_ne np]; exact e, h.hist' m p4.symm, h.bef' m p5.symm, nd5' ⟨⟨a1, n1.symm, a3, a4⟩, ⟨n2.symm, b2, b3⟩, ⟨n3, n4⟩, d1⟩⟩
/-- what is new is none of the play's lists -/
theorem PlayAt.fresh (h : PlayAt K C H A st) {x : Addr} (e : H x = none) : x ≠ A.hl ∧ x ≠ A.le ∧ x ≠ A.wo ∧ x ≠ A.hi ∧ x ≠ A.be :=
  ⟨fun z => h.there (x := x) (.inr (.inl z)) e, fun z => h.there (x := x) (.inr (.inr (.inl z))) e, fun z => h.there (x := x) (.inr (.inr (.inr (.inl z)))) e, fun z => h.there (x := x) (.inr (.inr (.inr (.inr (.inl z))))) e, fun z => h.there (x := x) (.inr (.inr (.inr (.inr (.inr z))))) e⟩
end
abbrev sPut : Stmt := inPlay 11
abbrev sBack : Stmt := inPlay 12
def spPut (K : PySem.W.Frag) (C : Addr) : Sp := fun vs H Q _ => ∃ (A : PlA) (st : PSt) (c : Nat), vs = [.ref A.p, nv c] ∧ PlayAt K C H A st ∧ PosOk st.pos ∧ (0 < st.r ∧ st.r ≤ 13) ∧ c ∈ K70.legal st.r st.pos ∧ st.hist.length ≤ 1000 ∧ st.bef.length ≤ 1000 ∧
  ∀ A' H', Adj H A A' → Keep (foot A) H H' → PlayAt K C H' A' (putSt st c) → Q .non H'
def spBack (K : PySem.W.Frag) (C : Addr) : Sp := fun vs H Q _ => ∃ (A : PlA) (st : PSt) (hs : List (Nat × Nat)) (pc : Nat × Nat) (bs : List (Nat × List Nat × Nat × Nat)) (x : Nat × List Nat × Nat × Nat), vs = [.ref A.p] ∧ PlayAt K C H A st ∧ st.hist = hs ++ [pc] ∧ st.bef = bs ++ [x] ∧
  pc.1 < st.pos.hands.length ∧ pc.2 < 52 ∧ ∀ A' H', Adj H A A' → Keep (foot A) H H' → PlayAt K C H' A' (backSt st hs pc bs x) → Q .non H'
end KW

/-! finesse.play: put and take_back, proved -/
namespace KW
open PySem PySem.Spec PyProof.Rows L2
open K70 (PSt PosOk putSt backSt)
section
variable {P : Program} {w : World} {K : PySem.W.Frag} {mg : Str → Option Value} {base : Heap} {C : Addr}
theorem sc_put : FnScope ["self", "card", "player"] ["self", "card"] (defScope sPut) := ⟨rfl, rfl, rfl, by decide +kernel, rfl, by decide +kernel, by decide +kernel⟩
theorem some_hand {q : K70.Pos} (ok : PosOk q) {r c : Nat} (h : c ∈ K70.legal r q) : q.hands ≠ [0, 0, 0, 0] := fun e => by
  have hb := K70.legal_sub h
  have hm := K70.mover_lt q
  unfold K70.handOf at hb
  rw [e] at hb
  have : ([0, 0, 0, 0] : List Nat).getD (K70.mover q) 0 = 0 := by
    rcases (show K70.mover q = 0 ∨ K70.mover q = 1 ∨ K70.mover q = 2 ∨ K70.mover q = 3 by omega) with z | z | z | z <;> rw [z] <;> rfl
  rw [this, Nat.zero_testBit] at hb
  cases hb
theorem ok_put (cp : ClsP K C) (F : MetFn K C "put" "Play.put" sPut ["self", "card"]) (ct : Met P w K mg base 2 C "turn" (spTurn K C)) (cl : Met P w K mg base 2 C "legal" (spLegal K C)) (cw : Cal P w K mg base 2 "winner_of" (spWin K)) (cs : Cal P w K mg base 1 "side_of" spSide)
    (ml : mg "len" = none) (mt : mg "tuple" = none) : Met P w K mg base 3 C "put" (spPut K C) := by
  refine met cp.cl F sc_put (fun vs H Q E h => ?_) (fun f cdv A outer s H vs Q E hr h => ?_)
  · obtain ⟨A, st, c, rfl, _⟩ := h; rfl
  obtain ⟨A, st, c, rfl, hp, ok, hr13, hc, l1, l2, q⟩ := h
  refine ⟨_, pss_cons (ps_set (i := 2) sc_put.nd rfl (.inl rfl) (pe_mt0 ct hr (by decide) (pv 0)))
    (pss_cons (ps_if (pt_cmpR op_notIn_seq (pv 1) (pe_mt0 cl hr (by decide) (pv 0)) (by rfl)) pss_never pss_nil)
    (pss_cons (ps_expr (pe_app (pe_fld (pv 0) rfl) (pa_cons (pe_tup (pa_cons (pe_fld (pv 0) rfl) (pa_cons (pe_callTy call_tuple_of (by rfl) mt (by decide +kernel) (pa_cons (pe_fld (pv 0) rfl) pa_nil)) (pa_cons (pe_callTy call_tuple_of (by rfl) mt (by decide +kernel) (pa_cons (pe_fld (pv 0) rfl) pa_nil)) pa_nil)))) pa_nil)))
    (pss_cons (ps_expr (pe_app (pe_fld (pv 0) rfl) (pa_cons (pe_tup (pa_cons (pv 2) (pa_cons (pv 1) pa_nil))) pa_nil)))
    (pss_cons (ps_asg (pe_op op_xorN (pe_l (pe_fld (pv 0) rfl) (pv 2)) (pe_op op_shlN pe_int (pv 1))) (pg_sub (pe_fld (pv 0) rfl) (pv 2) set_list))
    (pss_cons (ps_expr (pe_app (pe_fld (pv 0) rfl) (pa_cons (pv 1) pa_nil)))
    (pss_one (ps_if (pt_cmpR op_eqN (pe_callB call_len_seq (by rfl) ml PySem.boot_len (pa_cons (pe_fld (pv 0) rfl) pa_nil)) pe_int (nomark _))
      (pss_cons (ps_fld (pv 0) (pe_c cw hr (by decide) (pa_cons (pe_fld (pv 0) rfl) (pa_cons (pe_fld (pv 0) rfl) (pa_cons (pe_fld (pv 0) rfl) (pa_cons (pe_fld (pv 0) rfl) pa_nil))))) rfl)
      (pss_cons (ps_augS (pe_fld (pv 0) rfl) (pe_c cs hr (by decide) (pa_cons (pe_fld (pv 0) rfl) pa_nil)) get_list pe_int ip_add set_list)
      (pss_one (ps_fld (pv 0) (pe_lst pa_nil) rfl))))
      pss_nil))))))), ?_⟩
  have hm : K70.mover st.pos < st.pos.hands.length := by rw [ok.len]; exact K70.mover_lt _
  have hc52 := ok.card hc
  -- player = self.turn()
  refine ⟨_, rfl, A.p, A.dx, _, rfl, hp.ob, (by kernel_rfl), A, st, rfl, hp, some_hand ok hc, fun H1 s1 => ?_⟩
  have hp1 := hp.same s1
  -- card in self.legal()
  refine ⟨_, rfl, _, rfl, A.p, A.dx, _, rfl, hp1.ob, (by kernel_rfl), A, st, rfl, hp1, ok, hr13, fun a H2 s2 na ea => ⟨a, _, rfl, .inl (SqL.of ea), rfl, flat_nvs _, _, rfl, ?_⟩⟩
  rw [inV_nvs, decide_eq_true hc]
  refine iteF ?_
  have hp2 := hp1.same s2
  have s02 := s1.trans s2
  -- self._before.append(..)
  obtain ⟨bs, hbe, rbe⟩ := hp2.be
  refine ⟨_, rfl, A.p, C, A.dx, _, _, rfl, hp2.ob, cp.cl, cp.n8, lk_bef, .inl ⟨rfl, _, SqL.of hbe⟩, ?_⟩
  refine ⟨_, rfl, A.p, C, A.dx, _, _, rfl, hp2.ob, cp.cl, cp.n3, lk_leader, ?_⟩
  refine ⟨_, rfl, A.p, C, A.dx, _, _, rfl, hp2.ob, cp.cl, cp.n5, lk_led, A.le, _, rfl, .inl ⟨SqL.of hp2.le, fun la nla => ?_⟩⟩
  have s3 := s02.trans (Same.newK (o := .tup (nvs st.pos.led)) nla)
  have hp3 := hp2.same (Same.newK (o := .tup (nvs st.pos.led)) nla)
  refine ⟨_, rfl, A.p, C, A.dx, _, _, rfl, hp3.ob, cp.cl, cp.n6, lk_won, A.wo, _, rfl, .inl ⟨SqL.of hp3.wo, fun wa nwa => ?_⟩⟩
  have s4 := s3.trans (Same.newK (o := .tup [nv st.w0, nv st.w1]) nwa)
  have hp4 := hp3.same (Same.newK (o := .tup [nv st.w0, nv st.w1]) nwa)
  refine ⟨(by show 3 ≤ sizeLine; decide), fun ta nta => ?_⟩
  have s5 := s4.trans (Same.newK (o := .tup [nv st.pos.leader, V.ref la, V.ref wa]) nta)
  have hp5 := hp4.same (Same.newK (o := .tup [nv st.pos.leader, V.ref la, V.ref wa]) nta)
  have nlw : la ≠ wa := ne_of_none upd_same nwa
  have nwt : wa ≠ ta := ne_of_none upd_same nta
  have nlt : la ≠ ta := ne_of_none (by rw [upd_ne nlw, upd_same]) nta
  have hbt : BefT (upd (upd (upd H2 la (.tup (nvs st.pos.led))) wa (.tup [nv st.w0, nv st.w1])) ta (.tup [nv st.pos.leader, V.ref la, V.ref wa])) ta (st.pos.leader, st.pos.led, st.w0, st.w1) :=
    ⟨la, wa, upd_same, by rw [upd_ne nlt, upd_ne nlw, upd_same], by rw [upd_ne nwt, upd_same]⟩
  generalize hH5 : upd (upd (upd H2 la (.tup (nvs st.pos.led))) wa (.tup [nv st.w0, nv st.w1])) ta (.tup [nv st.pos.leader, V.ref la, V.ref wa]) = H5 at s5 hp5 hbt
  have s25 : Same H2 H5 := by
    rw [← hH5]
    exact ((Same.newK nla).trans (Same.newK nwa)).trans (Same.newK nta)
  have rbe5 : Paired (BefT H5) bs st.bef := Paired.mapP rbe fun _ _ z => z.keep fun b xs e => s25 b _ e
  refine ⟨A.be, _, _, rfl, rfl, s25 _ _ hbe, ?_, ?_⟩
  · rw [List.length_map, Paired.length rbe]
    exact small1000 (by omega)
  have hp6 : PlayAt K C (upd H5 A.be (.lst (bs.map V.ref ++ [V.ref ta]))) A { st with bef := st.bef ++ [(st.pos.leader, st.pos.led, st.w0, st.w1)] } := by
    have := hp5.upd_be (Paired.snoc rbe5 hbt)
    rw [List.map_append] at this
    exact this
  have k6 : Keep (foot A) H (upd H5 A.be (.lst (bs.map V.ref ++ [V.ref ta]))) := (Keep.of_same s5).mut (.inl (.inr (.inr (.inr (.inr (.inr rfl))))))
  generalize upd H5 A.be (.lst (bs.map V.ref ++ [V.ref ta])) = H6 at hp6 k6
  -- self._history.append((player, card))
  obtain ⟨as, hhi, rhi⟩ := hp6.hi
  refine ⟨_, rfl, A.p, C, A.dx, _, _, rfl, hp6.ob, cp.cl, cp.n7, lk_hist, .inl ⟨rfl, _, SqL.of hhi⟩, ?_⟩
  refine ⟨_, rfl, _, rfl, (by show 2 ≤ sizeLine; decide), fun ha nha => ?_⟩
  have s7 : Same H6 (upd H6 ha (.tup [nv (K70.mover st.pos), nv c])) := Same.newK nha
  have hp7 := hp6.same s7
  have rhi7 := Paired.mapP rhi fun a x (z : HistT H6 a x) => (s7 _ _ z : HistT (upd H6 ha (.tup [nv (K70.mover st.pos), nv c])) a x)
  refine ⟨A.hi, _, _, rfl, rfl, s7 _ _ hhi, ?_, ?_⟩
  · rw [List.length_map, Paired.length rhi]
    exact small1000 (by show st.hist.length ≤ 1000; omega)
  have k7 := k6.new (o := .tup [nv (K70.mover st.pos), nv c]) nha
  have hht : HistT (upd H6 ha (.tup [nv (K70.mover st.pos), nv c])) ha (K70.mover st.pos, c) := upd_same
  generalize upd H6 ha (.tup [nv (K70.mover st.pos), nv c]) = H7 at hp7 rhi7 k7 hht
  have hp8 : PlayAt K C (upd H7 A.hi (.lst (as.map V.ref ++ [V.ref ha]))) A { st with bef := st.bef ++ [(st.pos.leader, st.pos.led, st.w0, st.w1)], hist := st.hist ++ [(K70.mover st.pos, c)] } := by
    have := hp7.upd_hi (Paired.snoc rhi7 hht)
    rw [List.map_append] at this
    exact this
  have k8 : Keep (foot A) H (upd H7 A.hi (.lst (as.map V.ref ++ [V.ref ha]))) := k7.mut (.inl (.inr (.inr (.inr (.inr (.inl rfl))))))
  generalize upd H7 A.hi (.lst (as.map V.ref ++ [V.ref ha])) = H8 at hp8 k8
  -- self._hands[player] = self._hands[player] ^ 1 << card
  refine ⟨_, rfl, A.p, C, A.dx, _, _, rfl, hp8.ob, cp.cl, cp.n4, lk_hands, _, rfl, A.hl, _, _, nv (K70.handOf st.pos), rfl, rfl, SqL.of hp8.hl, atI_nat (nvs_at (by unfold K70.handOf; rw [List.getD_eq_getElem?_getD, List.getElem?_eq_getElem hm]; rfl)), _, rfl, 1, c, rfl, rfl, ⟨by decide, by omega⟩, _, 1 <<< c, rfl, rfl, ?_⟩
  refine ⟨_, rfl, A.p, C, A.dx, _, _, rfl, hp8.ob, cp.cl, cp.n4, lk_hands, _, rfl, A.hl, _, _, _, rfl, rfl, hp8.hl, ixn (by rw [nvs_len]; exact hm), ?_⟩
  have ehs : (nvs st.pos.hands).set (K70.mover st.pos) (nv (K70.handOf st.pos ^^^ 1 <<< c)) = nvs (st.pos.hands.set (K70.mover st.pos) (K70.handOf st.pos ^^^ 1 <<< c)) := List.map_set.symm
  rw [ehs]
  have hp9 := hp8.upd_hl (st.pos.hands.set (K70.mover st.pos) (K70.handOf st.pos ^^^ 1 <<< c))
  have k9 := k8.mut (o := .lst (nvs (st.pos.hands.set (K70.mover st.pos) (K70.handOf st.pos ^^^ 1 <<< c)))) (p := A.hl) (.inl (.inr (.inl rfl)))
  generalize upd H8 A.hl (.lst (nvs (st.pos.hands.set (K70.mover st.pos) (K70.handOf st.pos ^^^ 1 <<< c)))) = H9 at hp9 k9
  -- self._led.append(card)
  refine ⟨_, rfl, A.p, C, A.dx, _, _, rfl, hp9.ob, cp.cl, cp.n5, lk_led, .inl ⟨rfl, _, SqL.of hp9.le⟩, _, rfl, A.le, _, _, rfl, rfl, hp9.le, ?_, ?_⟩
  · rw [nvs_len]
    exact small64' (by have := ok.few; show st.pos.led.length ≤ 4096; omega)
  have ele : nvs st.pos.led ++ [nv c] = nvs (st.pos.led ++ [c]) := by
    show st.pos.led.map nv ++ [c].map nv = (st.pos.led ++ [c]).map nv
    rw [List.map_append]
  rw [ele]
  have hp10 := hp9.upd_le (st.pos.led ++ [c])
  have k10 := k9.mut (o := .lst (nvs (st.pos.led ++ [c]))) (p := A.le) (.inl (.inr (.inr (.inl rfl))))
  generalize upd H9 A.le (.lst (nvs (st.pos.led ++ [c]))) = H10 at hp10 k10
  -- if len(self._led) == 4
  have hlen : (nvs (st.pos.led ++ [c])).length = st.pos.led.length + 1 := by rw [nvs_len, List.length_append]; rfl
  refine ⟨_, rfl, A.p, C, A.dx, _, _, rfl, hp10.ob, cp.cl, cp.n5, lk_led, A.le, _, rfl, .inl (SqL.of hp10.le), st.pos.led.length + 1, 4, (by rw [hlen]), rfl, _, rfl, ?_⟩
  by_cases h3 : st.pos.led.length = 3
  · rw [decide_eq_true (show st.pos.led.length + 1 = 4 by omega)]
    refine iteT ?_
    refine ⟨_, rfl, A.p, C, A.dx, _, _, rfl, hp10.ob, cp.cl, cp.n1, lk_deck, _, rfl, A.p, C, A.dx, _, _, rfl, hp10.ob, cp.cl, cp.n2, lk_trump, _, rfl, A.p, C, A.dx, _, _, rfl, hp10.ob, cp.cl, cp.n3, lk_leader, _, rfl, A.p, C, A.dx, _, _, rfl, hp10.ob, cp.cl, cp.n5, lk_led, ?_⟩
    refine ⟨A.dk, A.le, st.s, st.r, st.pos.leader, st.pos.trump, st.pos.led ++ [c], rfl, hp10.dk, ⟨hr13.1, by omega⟩, SqL.of hp10.le, (fun z => by simp at z), fun H11 s11 => ?_⟩
    have hp11 := hp10.same s11
    have k11 := k10.same s11
    refine ⟨_, rfl, A.p, C, A.dx, _, rfl, hp11.ob, cp.cl, cp.n3, (by show 8 < 1000; decide), ?_⟩
    have hp12 := hp11.upd_leader (K70.winner st.r st.pos.trump st.pos.leader (st.pos.led ++ [c]))
    have k12 := k11.mut (p := A.p) (o := (.ins C A.dx (putF "_leader" (nv (K70.winner st.r st.pos.trump st.pos.leader (st.pos.led ++ [c]))) (fields A.dk st.pos.trump st.pos.leader A.hl A.le A.wo A.hi A.be)))) (.inl (.inl rfl))
    generalize hH12 : upd H11 A.p (.ins C A.dx (putF "_leader" (nv (K70.winner st.r st.pos.trump st.pos.leader (st.pos.led ++ [c]))) (fields A.dk st.pos.trump st.pos.leader A.hl A.le A.wo A.hi A.be))) = H12 at hp12 k12
    have eputs : putSt st c = ⟨st.s, st.r, ⟨st.pos.trump, st.pos.hands.set (K70.mover st.pos) (K70.handOf st.pos ^^^ 1 <<< c), K70.winner st.r st.pos.trump st.pos.leader (st.pos.led ++ [c]), []⟩,
        (if K70.winner st.r st.pos.trump st.pos.leader (st.pos.led ++ [c]) % 2 = 0 then st.w0 + 1 else st.w0), (if ¬ K70.winner st.r st.pos.trump st.pos.leader (st.pos.led ++ [c]) % 2 = 0 then st.w1 + 1 else st.w1), st.hist ++ [(K70.mover st.pos, c)], st.bef ++ [(st.pos.leader, st.pos.led, st.w0, st.w1)]⟩ := by
      unfold putSt K70.next
      simp only [h3, if_true, true_and]
    generalize hw : K70.winner st.r st.pos.trump st.pos.leader (st.pos.led ++ [c]) = win at hp12 eputs
    -- self._won[side_of(self._leader)] += 1
    have hp12 : PlayAt K C H12 A ⟨st.s, st.r, ⟨st.pos.trump, st.pos.hands.set (K70.mover st.pos) (K70.handOf st.pos ^^^ 1 <<< c), win, st.pos.led ++ [c]⟩, st.w0, st.w1, st.hist ++ [(K70.mover st.pos, c)], st.bef ++ [(st.pos.leader, st.pos.led, st.w0, st.w1)]⟩ := hp12
    refine ⟨_, rfl, A.p, C, A.dx, _, _, rfl, hp12.ob, cp.cl, cp.n6, lk_won, _, rfl, A.p, C, A.dx, _, _, rfl, hp12.ob, cp.cl, cp.n3, lk_leader, win, rfl, ?_⟩
    have close : ∀ x y : Nat, ([nv st.w0, nv st.w1] : List V).set (win % 2) (V.int ((([st.w0, st.w1] : List Nat).getD (win % 2) 0 : Nat) + 1)) = [nv x, nv y] → x = (if win % 2 = 0 then st.w0 + 1 else st.w0) → y = (if ¬ win % 2 = 0 then st.w1 + 1 else st.w1) →
        (sFld K (tVar 0) (tLst tNil) "_led") { nx := fun _ H' => Q .non H', rt := Q } [some (.ref A.p), some (nv c), some (nv (K70.mover st.pos))] (upd H12 A.wo (.lst (([nv st.w0, nv st.w1] : List V).set (win % 2) (V.int ((([st.w0, st.w1] : List Nat).getD (win % 2) 0 : Nat) + 1))))) := fun x y e ex ey => by
      rw [e]
      have hp13 := hp12.upd_wo x y
      have k13 := k12.mut (o := .lst [nv x, nv y]) (p := A.wo) (.inl (.inr (.inr (.inr (.inl rfl)))))
      generalize upd H12 A.wo (.lst [nv x, nv y]) = H13 at hp13 k13
      refine ⟨(by show 0 ≤ sizeLine; decide), fun z nz => ?_⟩
      have s14 : Same H13 (upd H13 z (.lst (nvs []))) := Same.newK nz
      have hp14 := hp13.same s14
      obtain ⟨f1, f2, f3, f4, f5⟩ := hp13.fresh nz
      refine ⟨_, rfl, A.p, C, A.dx, _, rfl, hp14.ob, cp.cl, cp.n5, (by show 8 < 1000; decide), ?_⟩
      have hp15 := hp14.upd_led (x := z) (hs := []) upd_same f1 f3 f4 f5
      refine q { A with le := z } _ ⟨rfl, rfl, rfl, rfl, rfl, rfl, .inr (k13.back _ nz), .inl rfl⟩ ((k13.new (o := .lst (nvs [])) nz).mut (p := A.p) (.inl (.inl rfl))) ?_
      rw [eputs, ← ex, ← ey]
      exact hp15
    by_cases hpar : win % 2 = 0
    · have c1 := close (st.w0 + 1) st.w1 (by rw [hpar]; rfl) (by rw [if_pos hpar]) (by rw [if_neg (fun z => z hpar)])
      rw [hpar] at c1 ⊢
      exact ⟨A.wo, _, 0, _, rfl, rfl, SqL.of hp12.wo, atI_nat (j := 0) rfl, _, 1, rfl, rfl, A.wo, _, _, _, rfl, rfl, hp12.wo, ixn (j := 0) (by show 0 < 2; decide), c1⟩
    · have hpar' : win % 2 = 1 := by omega
      have c1 := close st.w0 (st.w1 + 1) (by rw [hpar']; rfl) (by rw [if_neg hpar]) (by rw [if_pos hpar])
      rw [hpar'] at c1 ⊢
      exact ⟨A.wo, _, 1, _, rfl, rfl, SqL.of hp12.wo, atI_nat (j := 1) rfl, _, 1, rfl, rfl, A.wo, _, _, _, rfl, rfl, hp12.wo, ixn (j := 1) (by show 1 < 2; decide), c1⟩
  · rw [decide_eq_false (show ¬ st.pos.led.length + 1 = 4 by omega)]
    refine iteF ?_
    refine q A _ Adj.refl k10 ?_
    have e : putSt st c = ⟨st.s, st.r, ⟨st.pos.trump, st.pos.hands.set (K70.mover st.pos) (K70.handOf st.pos ^^^ 1 <<< c), st.pos.leader, st.pos.led ++ [c]⟩, st.w0, st.w1, st.hist ++ [(K70.mover st.pos, c)], st.bef ++ [(st.pos.leader, st.pos.led, st.w0, st.w1)]⟩ := by
      unfold putSt K70.next
      simp only [h3, if_false, false_and]
    rw [e]
    exact hp10
end
end KW

/-! finesse.play: take_back -/
namespace KW
open PySem PySem.Spec PyProof.Rows L2
open K70 (PSt PosOk putSt backSt)
theorem snoc_inv {α β : Type} {R : α → β → Prop} : ∀ {as : List α} {bs : List β} {b : β}, Paired R as (bs ++ [b]) → ∃ as' a, as = as' ++ [a] ∧ Paired R as' bs ∧ R a b
  | _, [], _, h => by
    cases h with
    | cons r t =>
      cases t
      exact ⟨[], _, rfl, .nil, r⟩
  | _, y :: bs, b, h => by
    cases h with
    | cons r t =>
      obtain ⟨as', a, e, t', r'⟩ := snoc_inv t
      exact ⟨_ :: as', a, by rw [e]; rfl, .cons r t', r'⟩
theorem last_map {as : List Addr} {a : Addr} : ((as ++ [a]).map V.ref)[((as ++ [a]).map V.ref).length - 1]? = some (V.ref a) := by
  rw [List.map_append, List.length_append]
  simp
theorem drop_map {as : List Addr} {a : Addr} : ((as ++ [a]).map V.ref).dropLast = as.map V.ref := by
  rw [List.map_append]
  simp
section
variable {P : Program} {w : World} {K : PySem.W.Frag} {mg : Str → Option Value} {base : Heap} {C : Addr}
theorem sc_back : FnScope ["self", "player", "card", "led", "won"] ["self"] (defScope sBack) := ⟨rfl, rfl, rfl, by decide +kernel, rfl, by decide +kernel, by decide +kernel⟩
theorem ok_back (cp : ClsP K C) (F : MetFn K C "take_back" "Play.take_back" sBack ["self"]) (ml : mg "len" = none) (mli : mg "list" = none) : Met P w K mg base 1 C "take_back" (spBack K C) := by
  refine met cp.cl F sc_back (fun vs H Q E h => ?_) (fun f cdv A outer s H vs Q E hr h => ?_)
  · obtain ⟨A, st, hs, pc, bs, x, rfl, _⟩ := h; rfl
  obtain ⟨A, st, hs, ⟨pl, c⟩, bs, ⟨l, led, w0, w1⟩, rfl, hp, eh, eb, hpl, hc, q⟩ := h
  refine ⟨_, pss_cons (ps_if (pt_cmpR op_eqN (pe_callB call_len_seq (by rfl) ml PySem.boot_len (pa_cons (pe_fld (pv 0) rfl) pa_nil)) pe_int (nomark _)) pss_never pss_nil)
    (pss_cons (ps_asg (pe_bm0 PySem.F.plainAttrs_list PySem.F.slot_list_pop PySem.F.type_list_pop mt_pop (pe_fld (pv 0) rfl)) (pg_tup rfl (pgs_cons (pg_name (i := 1) sc_back.nd rfl (.inl rfl)) (pgs_cons (pg_name (i := 2) sc_back.nd rfl (.inl rfl)) pgs_nil))))
    (pss_cons (ps_asg (pe_bm0 PySem.F.plainAttrs_list PySem.F.slot_list_pop PySem.F.type_list_pop mt_pop (pe_fld (pv 0) rfl)) (pg_tup rfl (pgs_cons (pg_fld (pv 0)) (pgs_cons (pg_name (i := 3) sc_back.nd rfl (.inl rfl)) (pgs_cons (pg_name (i := 4) sc_back.nd rfl (.inl rfl)) pgs_nil)))))
    (pss_cons (ps_fld (pv 0) (pe_callTy call_list_of (by rfl) mli (by decide +kernel) (pa_cons (pv 3) pa_nil)) rfl)
    (pss_cons (ps_fld (pv 0) (pe_callTy call_list_of (by rfl) mli (by decide +kernel) (pa_cons (pv 4) pa_nil)) rfl)
    (pss_one (ps_asg (pe_op op_xorN (pe_l (pe_fld (pv 0) rfl) (pv 1)) (pe_op op_shlN pe_int (pv 2))) (pg_sub (pe_fld (pv 0) rfl) (pv 1) set_list))))))), ?_⟩
  obtain ⟨as0, hhi, rhi⟩ := hp.hi
  rw [eh] at rhi
  obtain ⟨as, a, rfl, rhi, ra⟩ := snoc_inv rhi
  -- len(self._history) == 0
  refine ⟨_, rfl, A.p, C, A.dx, _, _, rfl, hp.ob, cp.cl, cp.n7, lk_hist, A.hi, _, rfl, .inl (SqL.of hhi), ((as ++ [a]).map V.ref).length, 0, rfl, rfl, _, rfl, ?_⟩
  rw [decide_eq_false (show ¬ ((as ++ [a]).map V.ref).length = 0 by rw [List.length_map, List.length_append]; exact Nat.succ_ne_zero _)]
  refine iteF ?_
  -- player, card = self._history.pop()
  refine ⟨_, rfl, A.p, C, A.dx, _, _, rfl, hp.ob, cp.cl, cp.n7, lk_hist, .inl ⟨rfl, _, SqL.of hhi⟩, A.hi, _, V.ref a, rfl, rfl, hhi, last_map, ?_⟩
  rw [drop_map]
  have hp1 := hp.upd_hi rhi
  have k1 : Keep (foot A) H (upd H A.hi (.lst (as.map V.ref))) := Keep.refl.mut (.inl (.inr (.inr (.inr (.inr (.inl rfl))))))
  have ra1 : (upd H A.hi (.lst (as.map V.ref))) a = some (.tup [nv pl, nv c]) := hp.utup (.inr (.inr (.inr (.inr (.inl rfl))))) _ _ ra
  generalize upd H A.hi (.lst (as.map V.ref)) = H1 at hp1 k1 ra1
  refine ⟨a, _, rfl, SqT.of ra1, rfl, _, _, rfl, _, _, rfl, rfl, ?_⟩
  -- self._leader, led, won = self._before.pop()
  obtain ⟨bs0, hbe, rbe⟩ := hp1.be
  have eb' : ({ st with hist := hs } : PSt).bef = bs ++ [(l, led, w0, w1)] := eb
  rw [eb'] at rbe
  obtain ⟨cs, b, rfl, rbe, rb⟩ := snoc_inv rbe
  refine ⟨_, rfl, A.p, C, A.dx, _, _, rfl, hp1.ob, cp.cl, cp.n8, lk_bef, .inl ⟨rfl, _, SqL.of hbe⟩, A.be, _, V.ref b, rfl, rfl, hbe, last_map, ?_⟩
  rw [drop_map]
  have hp2 := hp1.upd_be rbe
  have k2 := k1.mut (o := .lst (cs.map V.ref)) (p := A.be) (.inl (.inr (.inr (.inr (.inr (.inr rfl))))))
  have rb2 : BefT (upd H1 A.be (.lst (cs.map V.ref))) b (l, led, w0, w1) := rb.keep (hp1.utup (.inr (.inr (.inr (.inr (.inr rfl))))))
  generalize upd H1 A.be (.lst (cs.map V.ref)) = H2 at hp2 k2 rb2
  obtain ⟨la, wa, e1, e2, e3⟩ := rb2
  refine ⟨b, _, rfl, SqT.of e1, rfl, _, _, rfl, _, rfl, A.p, C, A.dx, _, rfl, hp2.ob, cp.cl, cp.n3, (by show 8 < 1000; decide), ?_⟩
  have hp3 := hp2.upd_leader l
  have k3 := k2.mut (p := A.p) (o := (.ins C A.dx (putF "_leader" (nv l) (fields A.dk st.pos.trump st.pos.leader A.hl A.le A.wo A.hi A.be)))) (.inl (.inl rfl))
  have e2' := hp2.utup (x := A.p) (o := (.ins C A.dx (putF "_leader" (nv l) (fields A.dk st.pos.trump st.pos.leader A.hl A.le A.wo A.hi A.be)))) (.inl rfl) _ _ e2
  have e3' := hp2.utup (x := A.p) (o := (.ins C A.dx (putF "_leader" (nv l) (fields A.dk st.pos.trump st.pos.leader A.hl A.le A.wo A.hi A.be)))) (.inl rfl) _ _ e3
  generalize hH3 : upd H2 A.p (.ins C A.dx (putF "_leader" (nv l) (fields A.dk st.pos.trump st.pos.leader A.hl A.le A.wo A.hi A.be))) = H3 at hp3 k3 e2' e3'
  refine ⟨_, _, rfl, _, _, rfl, rfl, ?_⟩
  -- self._led = list(led)
  refine ⟨_, rfl, la, _, rfl, .inr (SqT.of e2'), fun x nx => ?_⟩
  have s4 : Same H3 (upd H3 x (.lst (nvs led))) := Same.newK nx
  have hp4 := hp3.same s4
  obtain ⟨f1, f2, f3, f4, f5⟩ := hp3.fresh nx
  refine ⟨_, rfl, A.p, C, A.dx, _, rfl, hp4.ob, cp.cl, cp.n5, (by show 8 < 1000; decide), ?_⟩
  have hp5 := hp4.upd_led (x := x) (hs := led) upd_same f1 f3 f4 f5
  have k5 := (k3.new (o := .lst (nvs led)) nx).mut (p := A.p) (o := (.ins C A.dx (putF "_led" (.ref x) (fields A.dk st.pos.trump l A.hl A.le A.wo A.hi A.be)))) (.inl (.inl rfl))
  have e3'' := hp4.utup (x := A.p) (o := (.ins C A.dx (putF "_led" (.ref x) (fields A.dk st.pos.trump l A.hl A.le A.wo A.hi A.be)))) (.inl rfl) _ _ (s4 _ _ e3')
  generalize hH5 : upd (upd H3 x (.lst (nvs led))) A.p (.ins C A.dx (putF "_led" (.ref x) (fields A.dk st.pos.trump l A.hl A.le A.wo A.hi A.be))) = H5 at hp5 k5 e3''
  -- self._won = list(won)
  refine ⟨_, rfl, wa, _, rfl, .inr (SqT.of e3''), fun y ny => ?_⟩
  have s6 : Same H5 (upd H5 y (.lst [nv w0, nv w1])) := Same.newK ny
  have hp6 := hp5.same s6
  obtain ⟨g1, g2, g3, g4, g5⟩ := hp5.fresh ny
  refine ⟨_, rfl, A.p, C, A.dx, _, rfl, hp6.ob, cp.cl, cp.n6, (by show 8 < 1000; decide), ?_⟩
  have hp7 := hp6.upd_won (x := y) (y := w0) (z := w1) upd_same g1 g2 g4 g5
  have k7 := (k5.new (o := .lst [nv w0, nv w1]) ny).mut (p := A.p) (o := (.ins C A.dx (putF "_won" (.ref y) (fields A.dk st.pos.trump l A.hl x A.wo A.hi A.be)))) (.inl (.inl rfl))
  generalize hH7 : upd (upd H5 y (.lst [nv w0, nv w1])) A.p (.ins C A.dx (putF "_won" (.ref y) (fields A.dk st.pos.trump l A.hl x A.wo A.hi A.be))) = H7 at hp7 k7
  -- self._hands[player] = self._hands[player] ^ 1 << card
  have hg : st.pos.hands[pl]? = some (st.pos.hands.getD pl 0) := by rw [List.getD_eq_getElem?_getD, List.getElem?_eq_getElem hpl]; rfl
  refine ⟨_, rfl, A.p, C, A.dx, _, _, rfl, hp7.ob, cp.cl, cp.n4, lk_hands, _, rfl, A.hl, _, _, nv (st.pos.hands.getD pl 0), rfl, rfl, SqL.of hp7.hl, atI_nat (nvs_at hg), _, rfl, 1, c, rfl, rfl, ⟨by decide, by have hc' : c < 52 := hc; omega⟩, _, 1 <<< c, rfl, rfl, ?_⟩
  refine ⟨_, rfl, A.p, C, A.dx, _, _, rfl, hp7.ob, cp.cl, cp.n4, lk_hands, _, rfl, A.hl, _, _, _, rfl, rfl, hp7.hl, ixn (by rw [nvs_len]; exact hpl), ?_⟩
  have ehs : (nvs st.pos.hands).set pl (nv (st.pos.hands.getD pl 0 ^^^ 1 <<< c)) = nvs (st.pos.hands.set pl (st.pos.hands.getD pl 0 ^^^ 1 <<< c)) := List.map_set.symm
  rw [ehs]
  have hp8 := hp7.upd_hl (st.pos.hands.set pl (st.pos.hands.getD pl 0 ^^^ 1 <<< c))
  exact q { A with le := x, wo := y } _ ⟨rfl, rfl, rfl, rfl, rfl, rfl, .inr (k3.back _ nx), .inr (k5.back _ ny)⟩ (k7.mut (p := A.hl) (.inl (.inr (.inl rfl)))) hp8
end
end KW

/-! finesse.forced: the Solver -/
namespace KW
open PySem PySem.Spec PyProof.Rows L2
open K70 (PSt PosOk putSt backSt)
abbrev inSol (j : Nat) : Stmt := inClass (topS 37) j
abbrev sSolInit : Stmt := inSol 0
abbrev sShareM : Stmt := inSol 1
abbrev sAfter : Stmt := inSol 2
structure ClsS (K : PySem.W.Frag) (C : Addr) : Prop where
  cl : Cls K C
  nd : NoAttr K C "deck"
  nk : NoAttr K C "known"
def fieldsS (dk kd : Addr) : List (Str × V) := [("deck", V.ref dk), ("known", V.ref kd)]
theorem lk_known {dk kd : Addr} : (fieldsS dk kd).lookup ("known" : Str) = some (.ref kd) := by kernel_rfl
/-- the objects that a search changes -/
def MSet (A : PlA) (kd : Addr) (x : Addr) : Prop := foot A x ∨ x = kd
theorem mset_of {H : Hp} {A A' : PlA} {kd x : Addr} (h : Adj H A A') (m : MSet A' kd x) : MSet A kd x ∨ H x = none := by
  rcases m with m | m
  · exact (h.foot m).imp .inl id
  · exact .inl (.inr m)
theorem nfoot_of {H : Hp} {A A' : PlA} (h : Adj H A A') {x : Addr} (e : H x ≠ none) (n : ¬ foot A x) : ¬ foot A' x := fun m => (h.foot m).elim n e
/-- all that is known is right -/
def KnownOk (r : Nat) (kvs : List (K70.Pos × V)) : Prop := ∀ q v, (q, v) ∈ kvs → v = .int (K70.share r q)
theorem mem_putK {κ : Type} [DecidableEq κ] {kvs : List (κ × V)} {k : κ} {v : V} {x : κ × V} (h : x ∈ putK kvs k v) : x = (k, v) ∨ x ∈ kvs := by
  unfold putK at h
  split at h
  · obtain ⟨y, hy, e⟩ := List.mem_map.mp h
    by_cases z : y.1 = k
    · rw [if_pos z, z] at e; exact .inl e.symm
    · rw [if_neg z] at e; exact .inr (e ▸ hy)
  · rcases List.mem_append.mp h with h | h
    · exact .inr h
    · exact .inl (List.mem_singleton.mp h)
theorem KnownOk.put {r : Nat} {kvs : List (K70.Pos × V)} (h : KnownOk r kvs) (q : K70.Pos) : KnownOk r (putK kvs q (.int (K70.share r q))) := fun p v m => by
  rcases mem_putK m with e | m
  · cases e; rfl
  · exact h p v m
theorem valV_mem {κ : Type} [DecidableEq κ] {kvs : List (κ × V)} {k : κ} {v : V} (h : valV kvs k = some v) : (k, v) ∈ kvs := by
  unfold valV at h
  obtain ⟨p, hp, e⟩ := Option.map_eq_some_iff.mp h
  have h1 := List.mem_of_find?_eq_some hp
  have h2 : p.1 = k := of_decide_eq_true (List.find?_some (p := fun kv : κ × V => decide (kv.1 = k)) hp)
  rw [← h2, ← e]
  exact h1
/-- what a search stands on -/
structure SolAt (P : Program) (w : World) (K : PySem.W.Frag) (CS CL : Addr) (H : Hp) (sv kd : Addr) (A : PlA) (st : PSt) (kvs : List (K70.Pos × V)) : Prop where
  sol : ∃ sdx dk, H sv = some (.ins CS sdx (fieldsS dk kd))
  play : PlayAt K CL H A st
  known : DictP P w H kd kvs
  right : KnownOk st.r kvs
section
variable {P : Program} {w : World} {K : PySem.W.Frag} {CS CL : Addr} {H H' : Hp} {sv kd : Addr} {A : PlA} {st : PSt} {kvs : List (K70.Pos × V)}
theorem SolAt.nsv (h : SolAt P w K CS CL H sv kd A st kvs) : ¬ MSet A kd sv := by
  obtain ⟨sdx, dk, e⟩ := h.sol
  obtain ⟨a1, h1, _⟩ := h.play.hi
  obtain ⟨a2, h2, _⟩ := h.play.be
  obtain ⟨xs, h3⟩ := h.known.some
  rintro ((m | m | m | m | m | m) | m) <;> rw [m] at e
  · rw [h.play.ob] at e
    have := Option.some.inj e
    injection this with _ _ e3
    cases e3
  · rw [h.play.hl] at e; cases e
  · rw [h.play.le] at e; cases e
  · rw [h.play.wo] at e; cases e
  · rw [h1] at e; cases e
  · rw [h2] at e; cases e
  · rw [h3] at e; cases e
theorem SolAt.ntup (h : SolAt P w K CS CL H sv kd A st kvs) {a : Addr} {xs : List V} (e : H a = some (.tup xs)) : ¬ MSet A kd a := by
  obtain ⟨ys, h3⟩ := h.known.some
  rintro (m | m)
  · exact h.play.notup e m
  · rw [m, h3] at e; cases e
theorem SolAt.ndK (h : SolAt P w K CS CL H sv kd A st kvs) {a : Addr} {xs : List (Key × V)} (e : H a = some (.dK xs)) : ¬ MSet A kd a := by
  obtain ⟨a1, h1, _⟩ := h.play.hi
  obtain ⟨a2, h2, _⟩ := h.play.be
  obtain ⟨ys, h3⟩ := h.known.some
  rintro ((m | m | m | m | m | m) | m) <;> rw [m] at e
  · rw [h.play.ob] at e; cases e
  · rw [h.play.hl] at e; cases e
  · rw [h.play.le] at e; cases e
  · rw [h.play.wo] at e; cases e
  · rw [h1] at e; cases e
  · rw [h2] at e; cases e
  · rw [h3] at e; cases e
theorem SolAt.nlst (h : SolAt P w K CS CL H sv kd A st kvs) {a : Addr} {xs : List V} (e : H a = some (.lst xs)) (n : ¬ foot A a) : ¬ MSet A kd a := by
  obtain ⟨ys, h3⟩ := h.known.some
  rintro (m | m)
  · exact n m
  · rw [m, h3] at e; cases e
theorem SolAt.keepTup (h : SolAt P w K CS CL H sv kd A st kvs) (k : Keep (MSet A kd) H H') : ∀ b xs, H b = some (.tup xs) → H' b = some (.tup xs) := fun b xs e => k.at_ b _ e (h.ntup e)
theorem SolAt.nkd (h : SolAt P w K CS CL H sv kd A st kvs) : ¬ foot A kd := by
  obtain ⟨a1, h1, _⟩ := h.play.hi
  obtain ⟨a2, h2, _⟩ := h.play.be
  obtain ⟨ys, e⟩ := h.known.some
  rintro (m | m | m | m | m | m) <;> rw [m] at e
  · rw [h.play.ob] at e; cases e
  · rw [h.play.hl] at e; cases e
  · rw [h.play.le] at e; cases e
  · rw [h.play.wo] at e; cases e
  · rw [h1] at e; cases e
  · rw [h2] at e; cases e
/-- the play has changed by itself -/
theorem SolAt.played (h : SolAt P w K CS CL H sv kd A st kvs) {A' : PlA} {st' : PSt} (k : Keep (foot A) H H') (hp : PlayAt K CL H' A' st') (er : st'.r = st.r) : SolAt P w K CS CL H' sv kd A' st' kvs := by
  obtain ⟨sdx, dk, e⟩ := h.sol
  refine ⟨⟨sdx, dk, k.at_ _ _ e fun m => h.nsv (.inl m)⟩, hp, h.known.keep (fun o e => k.at_ _ _ e h.nkd) fun b xs e => k.at_ _ _ e fun m => h.ntup e (.inl m), ?_⟩
  rw [er]
  exact h.right
theorem SolAt.same (h : SolAt P w K CS CL H sv kd A st kvs) (k : Same H H') : SolAt P w K CS CL H' sv kd A st kvs := by
  obtain ⟨sdx, dk, e⟩ := h.sol
  exact ⟨⟨sdx, dk, k _ _ e⟩, h.play.same k, h.known.keep (fun o e => k _ _ e) fun b xs e => k _ _ e, h.right⟩
end
def okSt (st : PSt) : Prop := PosOk st.pos ∧ (0 < st.r ∧ st.r ≤ 13) ∧ K70.Two st.pos ∧ st.hist.length + K70.total st.pos ≤ 500 ∧ st.bef.length + K70.total st.pos ≤ 500
/-- what a search leaves -/
def solDone (P : Program) (w : World) (K : PySem.W.Frag) (CS CL : Addr) (H : Hp) (sv kd : Addr) (A : PlA) (st : PSt) (n : Nat) (H' : Hp) : Prop :=
  ∃ A' kvs', Adj H A A' ∧ Keep (MSet A kd) H H' ∧ SolAt P w K CS CL H' sv kd A' st kvs' ∧ kvs'.length ≤ n
def spShareM (P : Program) (w : World) (K : PySem.W.Frag) (CS CL : Addr) (n : Nat) : Sp := fun vs H Q _ => ∃ (sv kd : Addr) (A : PlA) (st : PSt) (kvs : List (K70.Pos × V)), vs = [.ref sv, .ref A.p] ∧ SolAt P w K CS CL H sv kd A st kvs ∧ okSt st ∧ K70.total st.pos < n ∧ kvs.length + 2 ^ (K70.total st.pos + 1) ≤ 4000 ∧
  ∀ H', solDone P w K CS CL H sv kd A st (kvs.length + (2 ^ (K70.total st.pos + 1) - 1)) H' → Q (.int (K70.share st.r st.pos)) H'
/-- the share after a card -/
def afterV (st : PSt) (c : Nat) : Int := K70.gain st.r st.pos c + K70.share st.r (K70.next st.r st.pos c)
def afterK (st : PSt) (l : List Nat) : List (Key × V) := l.map fun c : Nat => (Sum.inl (c : Int), V.int (afterV st c))
def spAfter (P : Program) (w : World) (K : PySem.W.Frag) (CS CL : Addr) (n : Nat) : Sp := fun vs H Q _ => ∃ (sv kd : Addr) (A : PlA) (st : PSt) (kvs : List (K70.Pos × V)), vs = [.ref sv, .ref A.p] ∧ SolAt P w K CS CL H sv kd A st kvs ∧ okSt st ∧ K70.total st.pos < n + 1 ∧ kvs.length + 2 * 2 ^ (K70.total st.pos) ≤ 4000 ∧
  ∀ f H', solDone P w K CS CL H sv kd A st (kvs.length + (K70.legal st.r st.pos).length * (2 ^ (K70.total st.pos) - 1)) H' → H' f = some (.dK (afterK st (K70.legal st.r st.pos))) → Q (.ref f) H'
theorem okSt.put {st : PSt} (h : okSt st) {c : Nat} (hc : c ∈ K70.legal st.r st.pos) : okSt (putSt st c) := by
  obtain ⟨h1, h2, h3, h4, h5⟩ := h
  have ht := K70.total_next hc
  refine ⟨h1.next hc, h2, h3.next h1 hc, ?_, ?_⟩
  · show (st.hist ++ [(K70.mover st.pos, c)]).length + K70.total (K70.next st.r st.pos c) ≤ 500
    rw [List.length_append, List.length_singleton]
    omega
  · show (st.bef ++ [(st.pos.leader, st.pos.led, st.w0, st.w1)]).length + K70.total (K70.next st.r st.pos c) ≤ 500
    rw [List.length_append, List.length_singleton]
    omega
theorem valV_afterK {st : PSt} {c : Nat} : ∀ {l : List Nat}, c ∉ l → valV (afterK st l) (Sum.inl (c : Int) : Key) = none
  | [], _ => rfl
  | x :: l, h => by
    have h1 : ¬ (Sum.inl (x : Int) : Key) = Sum.inl (c : Int) := fun z => by
      have e : x = c := Int.ofNat.inj (Sum.inl.inj z)
      exact h (by rw [e]; exact List.mem_cons_self)
    show valV ((Sum.inl (x : Int), V.int (afterV st x)) :: afterK st l) (Sum.inl (c : Int) : Key) = none
    rw [valV_neg (p := ((Sum.inl (x : Int) : Key), V.int (afterV st x))) h1]
    exact valV_afterK fun z => h (List.mem_cons_of_mem _ z)
section
variable {P : Program} {w : World} {K : PySem.W.Frag} {mg : Str → Option Value} {base : Heap} {CS CL : Addr}
theorem sc_after : FnScope ["self", "play", "found", "won", "card"] ["self", "play"] (defScope sAfter) := ⟨rfl, rfl, rfl, by decide +kernel, rfl, by decide +kernel, by decide +kernel⟩
theorem ok_after {n : Nat} (cs : ClsS K CS) (cp : ClsP K CL) (F : MetFn K CS "after" "Solver.after" sAfter ["self", "play"]) (cT : Met P w K mg base 1 CL "tricks" (spTricks K)) (cL : Met P w K mg base 2 CL "legal" (spLegal K CL)) (cP : Met P w K mg base 3 CL "put" (spPut K CL))
    (cB : Met P w K mg base 1 CL "take_back" (spBack K CL)) (cS : Met P w K mg base (2 * n + 3) CS "share" (spShareM P w K CS CL n)) : Met P w K mg base (2 * n + 4) CS "after" (spAfter P w K CS CL n) := by
  refine met cs.cl F sc_after (fun vs H Q E h => ?_) (fun f cdv A outer s H vs Q E hr h => ?_)
  · obtain ⟨sv, kd, A, st, kvs, rfl, _⟩ := h; rfl
  obtain ⟨sv, kd, A, st, kvs, rfl, hs, ok, hn, hsz, q⟩ := h
  refine ⟨_, pss_cons (ps_set (i := 2) sc_after.nd rfl (.inl rfl) pe_dnewK)
    (pss_cons (ps_set (i := 3) sc_after.nd rfl (.inl rfl) (pe_mt cT hr (by omega) (pv 1) (pa_cons pe_int pa_nil)))
    (pss_cons (ps_for PassesOwn.never rfl (pi_list (pe_mt0 cL hr (by omega) (pv 1))) (pg_name (i := 4) sc_after.nd rfl (.inl rfl))
      (pss_cons (ps_expr (pe_mt cP hr (by omega) (pv 1) (pa_cons (pv 4) pa_nil)))
      (pss_cons (ps_dput (hu_of hr) (pv 2) (pv 4) (pe_op op_add (pe_op op_sub (pe_mt cT hr (by omega) (pv 1) (pa_cons pe_int pa_nil)) (pv 3)) (pe_mt cS hr (by omega) (pv 0) (pa_cons (pv 1) pa_nil))) rfl)
      (pss_one (ps_expr (pe_mt0 cB hr (by omega) (pv 1)))))))
    (pss_one (ps_ret (pv 2))))), ?_⟩
  have hlegs := ok.2.2.1.few ok.1 st.r
  -- found = {}
  intro fo nfo
  have s1 : Same H (upd H fo (.dK [])) := Same.newK nfo
  have hs1 := hs.same s1
  have e1 : (upd H fo (.dK [])) fo = some (.dK []) := upd_same
  have k1 : Keep (MSet A kd) H (upd H fo (.dK [])) := Keep.of_same s1
  generalize upd H fo (.dK []) = H1 at s1 hs1 e1 k1
  -- won = play.tricks(0)
  refine ⟨_, rfl, A.p, A.dx, _, rfl, hs1.play.ob, (by kernel_rfl), CL, A, st, rfl, cp, hs1.play, ?_⟩
  -- for card in play.legal()
  refine ⟨_, rfl, A.p, A.dx, _, rfl, hs1.play.ob, (by kernel_rfl), A, st, rfl, hs1.play, ok.1, ok.2.1, fun l H2 s2 nl el => ⟨l, rfl, ⟨_, SqL.of el⟩, ?_⟩⟩
  have hs2 := hs1.same s2
  have e2 := s2 _ _ e1
  have nfl : ¬ foot A l := fun m => hs1.play.there m nl
  refine for_list (K := K) (a := l) (xs := nvs (K70.legal st.r st.pos)) (fun i σ H' => ∃ Ai kvsi v4, σ = [some (.ref sv), some (.ref A.p), some (.ref fo), some (nv st.w0), v4] ∧ Adj H A Ai ∧ Keep (MSet A kd) H H' ∧ SolAt P w K CS CL H' sv kd Ai st kvsi ∧
      kvsi.length ≤ kvs.length + i * (2 ^ (K70.total st.pos) - 1) ∧ H' fo = some (.dK (afterK st ((K70.legal st.r st.pos).take i))) ∧ H' l = some (.lst (nvs (K70.legal st.r st.pos))) ∧ ¬ foot Ai l)
    ⟨A, kvs, none, rfl, Adj.refl, k1.same s2, hs2, by omega, (by rw [List.take_zero]; exact e2), el, nfl⟩ (fun i σ H' _ ⟨_, _, _, _, _, _, _, _, _, e, _⟩ => SqL.of e) ?_ ?_
  · rintro i x σ H3 hx ⟨Ai, kvsi, v4, rfl, ad, k3, hs3, hlen, ef, el3, nfl3⟩
    obtain ⟨c, hci, rfl⟩ := nv_get hx
    have hc : c ∈ K70.legal st.r st.pos := List.mem_of_getElem? hci
    have hi : i < (K70.legal st.r st.pos).length := (List.getElem?_eq_some_iff.mp hci).1
    have ht := K70.total_next hc
    have h52 := ok.1.card hc
    -- play.put(card)
    have hpp : Ai.p = A.p := ad.p
    refine ⟨_, rfl, Ai.p, Ai.dx, _, by rw [hpp], hs3.play.ob, (by kernel_rfl), _, rfl, Ai, st, c, by rw [hpp]; rfl, hs3.play, ok.1, ok.2.1, hc, by have := ok.2.2.2.1; omega, by have := ok.2.2.2.2; omega, fun A4 H4 ad4 k4 hp4 => ?_⟩
    have hs4 : SolAt P w K CS CL H4 sv kd A4 (putSt st c) kvsi := hs3.played k4 hp4 rfl
    have ef4 : H4 fo = some (.dK (afterK st ((K70.legal st.r st.pos).take i))) := k4.at_ _ _ ef fun m => hs3.ndK ef (.inl m)
    have el4 : H4 l = some (.lst (nvs (K70.legal st.r st.pos))) := k4.at_ _ _ el3 nfl3
    have nfl4 : ¬ foot A4 l := nfoot_of ad4 (by rw [el3]; exact fun z => nomatch z) nfl3
    have hpp4 : A4.p = A.p := ad4.p.trans hpp
    have ok4 := ok.put hc
    -- play.tricks(0) - won + self.share(play)
    refine ⟨_, rfl, A4.p, A4.dx, _, by rw [hpp4], hp4.ob, (by kernel_rfl), CL, A4, _, by rw [hpp4]; rfl, cp, hp4, _, rfl, _, _, rfl, rfl, ?_⟩
    obtain ⟨sdx, sdk, esv⟩ := hs4.sol
    have hpow : 2 ^ (K70.total st.pos) ≤ 2 ^ (K70.total st.pos) := Nat.le_refl _
    have epow : 2 ^ (K70.total (putSt st c).pos + 1) = 2 ^ (K70.total st.pos) := by
      show 2 ^ (K70.total (K70.next st.r st.pos c) + 1) = 2 ^ (K70.total st.pos)
      rw [ht]
    have hroom : kvsi.length + 2 ^ (K70.total (putSt st c).pos + 1) ≤ 4000 := by
      rw [epow]
      have : (i + 1) * 2 ^ (K70.total st.pos) ≤ 2 * 2 ^ (K70.total st.pos) := Nat.mul_le_mul_right _ (by omega)
      rw [Nat.add_mul, Nat.one_mul] at this
      have h9 : i * (2 ^ (K70.total st.pos) - 1) ≤ i * 2 ^ (K70.total st.pos) := Nat.mul_le_mul_left _ (Nat.sub_le _ _)
      omega
    refine ⟨_, rfl, sv, sdx, _, rfl, esv, (by kernel_rfl), _, rfl, sv, kd, A4, putSt st c, kvsi, by rw [hpp4]; rfl, hs4, ok4, (by show K70.total (K70.next st.r st.pos c) < n; omega), hroom, ?_⟩
    rintro H5 ⟨A5, kvs5, ad5, k5, hs5, hl5⟩
    have ef5 : H5 fo = some (.dK (afterK st ((K70.legal st.r st.pos).take i))) := k5.at_ _ _ ef4 (hs4.ndK ef4)
    have el5 : H5 l = some (.lst (nvs (K70.legal st.r st.pos))) := k5.at_ _ _ el4 (hs4.nlst el4 nfl4)
    have nfl5 : ¬ foot A5 l := nfoot_of ad5 (by rw [el4]; exact fun z => nomatch z) nfl4
    have hpp5 : A5.p = A.p := ad5.p.trans hpp4
    have hg := K70.gain_put st c
    refine ⟨_, _, rfl, rfl, ?_⟩
    have ev : ((putSt st c).w0 : Int) - (st.w0 : Int) + K70.share (putSt st c).r (putSt st c).pos = afterV st c := by
      unfold afterV
      rw [hg]
      rfl
    dsimp only
    rw [ev]
    -- found[card] = ..
    have hnew : putK (afterK st ((K70.legal st.r st.pos).take i)) (Sum.inl (c : Int) : Key) (V.int (afterV st c)) = afterK st ((K70.legal st.r st.pos).take (i + 1)) := by
      rw [putK_new _ (valV_afterK fun hm => ?_), List.take_add_one, hci]
      · unfold afterK
        rw [List.map_append]
        rfl
      · obtain ⟨j, hj, ej⟩ := List.mem_take_iff_getElem.mp hm
        have hj1 : j < i := by omega
        have hnd := K70.legal_nodup st.r st.pos
        have e1 : (K70.legal st.r st.pos)[j]? = some c := by rw [List.getElem?_eq_getElem (by omega), ej]
        have := nd_ix hnd e1 hci
        omega
    have hfl : (afterK st ((K70.legal st.r st.pos).take i)).length < sizeLine := by
      unfold afterK
      rw [List.length_map, List.length_take]
      exact small1000 (by omega)
    refine ⟨_, rfl, _, rfl, fo, _, rfl, DPut.k (k := Sum.inl (c : Int)) ef5 hfl, ?_⟩
    rw [hnew]
    have nkd : fo ≠ kd := fun z => by
      obtain ⟨ys, h3⟩ := hs5.known.some
      rw [z, h3] at ef5; cases ef5
    have nff : ¬ foot A5 fo := fun m => hs5.ndK ef5 (.inl m)
    have kf : Keep (fun x => x = fo) H5 (upd H5 fo (.dK (afterK st ((K70.legal st.r st.pos).take (i + 1))))) := Keep.put
    have hs6 : SolAt P w K CS CL (upd H5 fo (.dK (afterK st ((K70.legal st.r st.pos).take (i + 1))))) sv kd A5 (putSt st c) kvs5 := by
      obtain ⟨sdx5, sdk5, esv5⟩ := hs5.sol
      refine ⟨⟨sdx5, sdk5, ?_⟩, hs5.play.keep (fun b o e m => ?_) (fun b xs e => ?_) (fun b o u e => ?_), hs5.known.keep (fun o e => ?_) (fun b xs e => ?_), hs5.right⟩
      · rw [upd_ne (ne_of esv5 ef5 (fun z => nomatch z))]; exact esv5
      · rw [upd_ne (fun z => nff (by rw [← z]; exact m))]; exact e
      · rw [upd_ne (ne_of e ef5 (fun z => nomatch z))]; exact e
      · rw [upd_ne (ne_of e ef5 (fun z => nomatch z))]; exact e
      · rw [upd_ne nkd.symm]; exact e
      · rw [upd_ne (ne_of e ef5 (fun z => nomatch z))]; exact e
    have ef6 : (upd H5 fo (.dK (afterK st ((K70.legal st.r st.pos).take (i + 1))))) fo = some (.dK (afterK st ((K70.legal st.r st.pos).take (i + 1)))) := upd_same
    have el6 : (upd H5 fo (.dK (afterK st ((K70.legal st.r st.pos).take (i + 1))))) l = some (.lst (nvs (K70.legal st.r st.pos))) := by
      rw [upd_ne (ne_of el5 ef5 (fun z => nomatch z))]; exact el5
    have hfH : H fo = none := nfo
    have K6 : Keep (MSet A kd) H (upd H5 fo (.dK (afterK st ((K70.legal st.r st.pos).take (i + 1))))) := by
      refine (((k3.trans k4 fun x m => ?_).trans k5 fun x m => ?_)).mut (.inr hfH)
      · exact (ad.foot m).imp .inl id
      · exact mset_of (ad.trans k3 ad4) m
    have AD5 : Adj H A A5 := (ad.trans k3 ad4).trans (k3.trans k4 fun x m => (ad.foot m).imp .inl id) ad5
    generalize upd H5 fo (.dK (afterK st ((K70.legal st.r st.pos).take (i + 1)))) = H6 at hs6 ef6 el6 K6 kf
    -- play.take_back()
    have hlen4 : st.pos.hands.length = 4 := ok.1.len
    have hb4 : (putSt st c).pos.hands.length = 4 := ok4.1.len
    refine ⟨_, rfl, A5.p, A5.dx, _, by rw [hpp5], hs6.play.ob, (by kernel_rfl), A5, putSt st c, st.hist, (K70.mover st.pos, c), st.bef, (st.pos.leader, st.pos.led, st.w0, st.w1), by rw [hpp5]; rfl, hs6.play, rfl, rfl, (by rw [hb4]; exact K70.mover_lt _), h52, fun A7 H7 ad7 k7 hp7 => ?_⟩
    rw [K70.back_put st c hlen4] at hp7
    have hs7 : SolAt P w K CS CL H7 sv kd A7 st kvs5 := hs6.played k7 hp7 rfl
    refine ⟨A7, kvs5, some (nv c), rfl, AD5.trans K6 ad7, K6.trans k7 fun x m => (AD5.foot m).imp .inl id, hs7, ?_, k7.at_ _ _ ef6 (fun m => hs6.ndK ef6 (.inl m)), k7.at_ _ _ el6 nfl5, nfoot_of ad7 (by rw [el6]; exact fun z => nomatch z) nfl5⟩
    rw [epow] at hl5
    rw [Nat.add_mul, Nat.one_mul]
    omega
  · rintro σ H3 ⟨Ai, kvsi, v4, rfl, ad, k3, hs3, hlen, ef, el3, nfl3⟩
    refine ⟨_, rfl, ?_⟩
    rw [nvs_len] at hlen ef
    rw [List.take_length] at ef
    exact q fo H3 ⟨Ai, kvsi, ad, k3, hs3, hlen⟩ ef
end
end KW

/-! finesse.forced: Solver.share by induction -/
namespace KW
open PySem PySem.Spec PyProof.Rows L2
open K70 (PSt PosOk putSt backSt)
theorem afterK_vals (st : PSt) (l : List Nat) : (afterK st l).map (·.2) = (l.map (afterV st)).map V.int := by
  unfold afterK
  rw [List.map_map, List.map_map]
  rfl
section
variable {P : Program} {w : World} {K : PySem.W.Frag} {mg : Str → Option Value} {base : Heap} {CS CL : Addr}
/-- the position's value is noted -/
theorem SolAt.noted {H H' : Hp} {sv kd : Addr} {A : PlA} {st : PSt} {kvs : List (K70.Pos × V)} (h : SolAt P w K CS CL H sv kd A st kvs) (e : ∃ o, H' = upd H kd o) (d : DictP P w H' kd (putK kvs st.pos (.int (K70.share st.r st.pos)))) :
    SolAt P w K CS CL H' sv kd A st (putK kvs st.pos (.int (K70.share st.r st.pos))) ∧ Keep (MSet A kd) H H' := by
  obtain ⟨o, rfl⟩ := e
  obtain ⟨sdx, dk, es⟩ := h.sol
  obtain ⟨ys, h3⟩ := h.known.some
  refine ⟨⟨⟨sdx, dk, ?_⟩, h.play.keep (fun b u eb m => ?_) (fun b xs eb => ?_) (fun b u x eb => ?_), d, h.right.put _⟩, Keep.refl.mut (.inl (.inr rfl))⟩
  · rw [upd_ne (ne_of es h3 (fun z => nomatch z))]; exact es
  · rw [upd_ne (fun z => h.nkd (by rw [← z]; exact m))]; exact eb
  · rw [upd_ne (ne_of eb h3 (fun z => nomatch z))]; exact eb
  · rw [upd_ne (ne_of eb h3 (fun z => nomatch z))]; exact eb
theorem sc_sharem : FnScope ["self", "play", "position", "found", "is_first"] ["self", "play"] (defScope sShareM) := ⟨rfl, rfl, rfl, by decide +kernel, rfl, by decide +kernel, by decide +kernel⟩
theorem ok_sharem {n : Nat} (cs : ClsS K CS) (cp : ClsP K CL) (F : MetFn K CS "share" "Solver.share" sShareM ["self", "play"]) (cPo : Met P w K mg base 1 CL "position" (spPosn K)) (cA : Met P w K mg base (2 * n + 4) CS "after" (spAfter P w K CS CL n)) (cT : Met P w K mg base 2 CL "turn" (spTurn K CL))
    (cSi : Cal P w K mg base 1 "side_of" spSide) (ml : mg "len" = none) (mx : mg "max" = none) (mn : mg "min" = none) : Met P w K mg base (2 * n + 5) CS "share" (spShareM P w K CS CL (n + 1)) := by
  refine met cs.cl F sc_sharem (fun vs H Q E h => ?_) (fun f cdv A outer s H vs Q E hr h => ?_)
  · obtain ⟨sv, kd, A, st, kvs, rfl, _⟩ := h; rfl
  obtain ⟨sv, kd, A, st, kvs, rfl, hs, ok, hn, hsz, q⟩ := h
  refine ⟨_, pss_cons (ps_set (i := 2) sc_sharem.nd rfl (.inl rfl) (pe_mt0 cPo hr (by omega) (pv 1)))
    (pss_cons (ps_if (pt_cmp (pc_pnotin hr.units (pv 2) (pe_fld (pv 0) rfl)))
      (pss_cons (ps_set (i := 3) sc_sharem.nd rfl (.inl rfl) (pe_mt cA hr (by omega) (pv 0) (pa_cons (pv 1) pa_nil)))
      (pss_one (ps_if (pt_cmpR op_eq (pe_callB call_lenD (by rfl) ml PySem.boot_len (pa_cons (pv 3) pa_nil)) pe_int (nomark _))
        (pss_one (ps_pput hr.units (pe_fld (pv 0) rfl) (pv 2) pe_int))
        (pss_cons (ps_set (i := 4) sc_sharem.nd rfl (.inl rfl) (pe_cmpR op_eqN (pe_c cSi hr (by omega) (pa_cons (pe_mt0 cT hr (by omega) (pv 1)) pa_nil)) pe_int (nomark _)))
        (pss_one (ps_pput hr.units (pe_fld (pv 0) rfl) (pv 2) (pe_ifExp (pt_val (pv 4)) (pe_maxVals (by rfl) (by rfl) mx (pv 3)) (pe_minVals (by rfl) (by rfl) mn (pv 3)))))))))
      pss_nil)
    (pss_one (ps_ret (pe_pget hr.units (pe_fld (pv 0) rfl) (pv 2))))), ?_⟩
  -- position = play.position()
  refine ⟨_, rfl, A.p, A.dx, _, rfl, hs.play.ob, (by kernel_rfl), CL, A, st, rfl, cp, hs.play, fun a H1 s1 na pa => ?_⟩
  have hs1 := hs.same s1
  have k1 : Keep (MSet A kd) H H1 := Keep.of_same s1
  obtain ⟨sdx, sdk, esv⟩ := hs1.sol
  -- the end: return self.known[position]
  have fin : ∀ (H' : Hp) (v3 v4 : Option V), solDone P w K CS CL H sv kd A st (kvs.length + (2 ^ (K70.total st.pos + 1) - 1)) H' → PosT H' a st.pos → (∃ kvs', DictP P w H' kd kvs' ∧ valV kvs' st.pos = some (.int (K70.share st.r st.pos))) → (∃ sdx dk, H' sv = some (.ins CS sdx (fieldsS dk kd))) →
      tRet (tPGet P w (tFld K (tVar 0) "known") (tVar 2)) { nx := fun _ H' => Q .non H', rt := Q } [some (.ref sv), some (.ref A.p), some (.ref a), v3, v4] H' := fun H' v3 v4 hd hp ⟨kvs', hk, hv⟩ ⟨sdx, dk, e⟩ =>
    ⟨_, rfl, sv, CS, sdx, _, _, rfl, e, cs.cl, cs.nk, lk_known, _, rfl, kd, a, st.pos, kvs', _, rfl, rfl, hp, hk, hv, q H' hd⟩
  refine ⟨_, rfl, _, rfl, sv, CS, sdx, _, _, rfl, esv, cs.cl, cs.nk, lk_known, kd, a, st.pos, kvs, rfl, rfl, pa, hs1.known, _, rfl, ?_⟩
  cases hv : valV kvs st.pos with
  | some v =>
    refine iteF ?_
    have ev := hs1.right _ _ (valV_mem hv)
    rw [ev] at hv
    exact fin H1 none none ⟨A, kvs, Adj.refl, k1, hs1, by omega⟩ pa ⟨kvs, hs1.known, hv⟩ ⟨sdx, sdk, esv⟩
  | none =>
    refine iteT ?_
    have hpow : 2 ^ (K70.total st.pos + 1) = 2 * 2 ^ (K70.total st.pos) := by rw [Nat.pow_succ, Nat.mul_comm]
    have hlegs := ok.2.2.1.few ok.1 st.r
    -- found = self.after(play)
    refine ⟨_, rfl, sv, sdx, _, rfl, esv, (by kernel_rfl), _, rfl, sv, kd, A, st, kvs, rfl, hs1, ok, by omega, by omega, ?_⟩
    rintro fo H2 ⟨A2, kvs2, ad2, k2, hs2, hl2⟩ efo
    have pa2 : PosT H2 a st.pos := pa.keep (hs1.keepTup k2)
    have hl2' : kvs2.length ≤ kvs.length + 2 * (2 ^ (K70.total st.pos) - 1) := Nat.le_trans hl2 (Nat.add_le_add_left (Nat.mul_le_mul_right _ hlegs) _)
    have hp1 : 1 ≤ 2 ^ (K70.total st.pos) := Nat.one_le_two_pow
    have adH : Adj H A A2 := Adj.refl.trans k1 ad2
    have kH : Keep (MSet A kd) H H2 := k1.trans k2 fun x m => .inl m
    have hpp : A2.p = A.p := ad2.p
    obtain ⟨sdx2, sdk2, esv2⟩ := hs2.sol
    -- the position is noted, then the end
    have put : ∀ (H3 : Hp) (v4 : Option V), Same H2 H3 → ∃ b qq kk, (V.ref kd : V) = .ref kd ∧ (V.ref a : V) = .ref b ∧ PosT H3 b qq ∧ DictP P w H3 kd kk ∧ kk.length < sizeLine ∧ ∀ H4, (∃ o, H4 = upd H3 kd o) → DictP P w H4 kd (putK kk qq (.int (K70.share st.r st.pos))) →
        tRet (tPGet P w (tFld K (tVar 0) "known") (tVar 2)) { nx := fun _ H' => Q .non H', rt := Q } [some (.ref sv), some (.ref A.p), some (.ref a), some (.ref fo), v4] H4 := fun H3 v4 s3 => by
      have hs3 := hs2.same s3
      have pa3 : PosT H3 a st.pos := pa2.keep fun b xs e => s3 b _ e
      refine ⟨a, st.pos, kvs2, rfl, rfl, pa3, hs3.known, small64' (by omega), fun H4 e4 d4 => ?_⟩
      have hs3' : SolAt P w K CS CL H3 sv kd A2 st kvs2 := hs3
      obtain ⟨hs4, k4⟩ := hs3'.noted e4 d4
      have k4' : Keep (MSet A2 kd) H2 H4 := (Keep.of_same s3).trans k4 fun x m => .inl m
      refine fin H4 _ _ ⟨A2, _, adH, kH.trans k4' fun x m => mset_of adH m, hs4, ?_⟩ (pa3.keep (hs3'.keepTup k4)) ⟨_, d4, ?_⟩ hs4.sol
      · have := length_putK kvs2 st.pos (.int (K70.share st.r st.pos))
        omega
      · rw [valV_put, if_pos rfl]
    have hlen : (afterK st (K70.legal st.r st.pos)).length = (K70.legal st.r st.pos).length := by unfold afterK; rw [List.length_map]
    -- len(found) == 0
    refine ⟨.ref fo, rfl, fo, _, rfl, efo, rfl, _, rfl, ?_⟩
    have hd : decide (V.int (((afterK st (K70.legal st.r st.pos)).length : Nat) : Int) = V.int 0) = decide (K70.legal st.r st.pos = []) := by
      rw [dec_vint, hlen]
      refine decide_eq_decide.mpr ⟨fun z => List.eq_nil_of_length_eq_zero (by omega), fun z => by rw [z]; rfl⟩
    rw [hd]
    by_cases hnil : K70.legal st.r st.pos = []
    · rw [decide_eq_true hnil]
      refine iteT ?_
      have e0 : K70.share st.r st.pos = 0 := by rw [K70.share_eq, hnil]; rfl
      obtain ⟨b, qq, kk, g1, g2, g3, g4, g5, g6⟩ := put H2 none (Same.refl H2)
      rw [e0] at g6
      exact ⟨_, rfl, sv, CS, sdx2, _, _, rfl, esv2, cs.cl, cs.nk, lk_known, _, rfl, kd, b, qq, kk, g1, g2, g3, g4, g5, g6⟩
    · rw [decide_eq_false hnil]
      refine iteF ?_
      obtain ⟨c0, hc0⟩ := List.exists_mem_of_ne_nil _ hnil
      -- is_first = side_of(play.turn()) == 0
      refine ⟨_, rfl, A2.p, A2.dx, _, by rw [hpp], hs2.play.ob, (by kernel_rfl), A2, st, by rw [hpp]; rfl, hs2.play, some_hand ok.1 hc0, fun H3 s3 => ?_⟩
      refine ⟨K70.mover st.pos, rfl, K70.mover st.pos % 2, 0, rfl, rfl, ?_⟩
      have efo3 := s3 _ _ efo
      obtain ⟨b, qq, kk, g1, g2, g3, g4, g5, g6⟩ := put H3 (some (.bl (decide (K70.mover st.pos % 2 = 0)))) s3
      have esv3 := s3 _ _ esv2
      have hne : (K70.legal st.r st.pos).map (afterV st) ≠ [] := fun z => hnil (List.map_eq_nil_iff.mp z)
      have hsh : ∀ b : Bool, (K70.mover st.pos % 2 == 0) = b → K70.share st.r st.pos = K70.ext b ((K70.legal st.r st.pos).map (afterV st)) := fun b e => by
        rw [K70.share_eq, e]
        rfl
      refine ⟨_, rfl, decide (K70.mover st.pos % 2 = 0), rfl, ?_⟩
      refine ite2 (fun e => ?_) (fun e => ?_)
      · have hpar : K70.mover st.pos % 2 = 0 := of_decide_eq_true e
        refine ⟨_, rfl, fo, _, _, rfl, efo3, afterK_vals st _, hne, fun m hm hb => ?_⟩
        have em : m = K70.share st.r st.pos := by
          rw [hsh true (beq_iff_eq.mpr hpar)]
          exact (K70.IsExt.eq (b := true) ⟨hm, fun y hy => hb y hy⟩).symm
        rw [em]
        exact ⟨_, rfl, sv, CS, sdx2, _, _, rfl, esv3, cs.cl, cs.nk, lk_known, _, rfl, kd, b, qq, kk, g1, g2, g3, g4, g5, g6⟩
      · have hpar : ¬ K70.mover st.pos % 2 = 0 := of_decide_eq_false (Bool.eq_false_iff.mpr e)
        refine ⟨_, rfl, fo, _, _, rfl, efo3, afterK_vals st _, hne, fun m hm hb => ?_⟩
        have em : m = K70.share st.r st.pos := by
          rw [hsh false (beq_eq_false_iff_ne.mpr hpar)]
          exact (K70.IsExt.eq (b := false) ⟨hm, fun y hy => hb y hy⟩).symm
        rw [em]
        exact ⟨_, rfl, sv, CS, sdx2, _, _, rfl, esv3, cs.cl, cs.nk, lk_known, _, rfl, kd, b, qq, kk, g1, g2, g3, g4, g5, g6⟩
/-- for every number of calls -/
theorem Met.mono {j k : Nat} {C : Addr} {m : Str} {sp : Sp} (c : Met P w K mg base j C m sp) (h : j ≤ k) : Met P w K mg base k C m sp := by
  obtain ⟨f, fd, ps, a, b, F, r⟩ := c.ex
  exact ⟨f, fd, ps, a, b, F.mono h, r⟩
theorem ok_search (cs : ClsS K CS) (cp : ClsP K CL) (FS : MetFn K CS "share" "Solver.share" sShareM ["self", "play"]) (FA : MetFn K CS "after" "Solver.after" sAfter ["self", "play"]) (cPo : Met P w K mg base 1 CL "position" (spPosn K)) (cT : Met P w K mg base 2 CL "turn" (spTurn K CL))
    (cTr : Met P w K mg base 1 CL "tricks" (spTricks K)) (cL : Met P w K mg base 2 CL "legal" (spLegal K CL)) (cP : Met P w K mg base 3 CL "put" (spPut K CL)) (cB : Met P w K mg base 1 CL "take_back" (spBack K CL))
    (cSi : Cal P w K mg base 1 "side_of" spSide) (ml : mg "len" = none) (mx : mg "max" = none) (mn : mg "min" = none) : ∀ n : Nat, Met P w K mg base (2 * n + 3) CS "share" (spShareM P w K CS CL n)
  | 0 => Met.mono (met_never cs.cl FS fun vs H Q E h => by
      obtain ⟨_, _, _, _, _, _, _, _, h, _⟩ := h
      omega) (Nat.zero_le _)
  | n + 1 => ok_sharem cs cp FS cPo (ok_after cs cp FA cTr cL cP cB (ok_search cs cp FS FA cPo cT cTr cL cP cB cSi ml mx mn n)) cT cSi ml mx mn
end
end KW

/-! check_deal, Play(..), Later(..), play_at, Solver(..), share -/
namespace KW
open PySem PySem.Spec PyProof.Rows L2
open K70 (PSt PosOk DealOk)
abbrev sChkDeal : Stmt := topS 23
abbrev sPlayInit : Stmt := inPlay 0
abbrev sLaterInit : Stmt := inClass (topS 34) 0
abbrev sPlayAt : Stmt := topS 35
abbrev sShare : Stmt := topS 38
def spChkDeal (K : PySem.W.Frag) : Sp := fun vs H Q _ => ∃ (d h : Addr) (s r : Nat) (hs : List Nat) (size : Nat), vs = [.ref d, .ref h] ∧ Deck K H d s r ∧ SqT K H h (nvs hs) ∧ DealOk s r hs size ∧ ∀ H', Same H H' → Q .non H'
def spPlayInit (K : PySem.W.Frag) (CP : Addr) : Sp := fun vs H Q _ => ∃ (p dx d h : Addr) (s r : Nat) (t : Int) (l : Nat) (hs : List Nat) (size : Nat), vs = [.ref p, .ref d, .ref h, .int t, nv l] ∧ H p = some (.ins CP dx []) ∧ Deck K H d s r ∧ H h = some (.tup (nvs hs)) ∧ DealOk s r hs size ∧ -1 ≤ t ∧ t < s ∧
  ∀ A H', A.p = p → (∀ x, foot A x → x = p ∨ H x = none) → PlayAt K CP H' A ⟨s, r, K70.start t hs l, 0, 0, [], []⟩ → Keep (fun x => x = p) H H' → Q .non H'
section
variable {P : Program} {w : World} {K : PySem.W.Frag} {mg : Str → Option Value} {base : Heap} {CP CL CS : Addr}
theorem sc_chkdeal : FnScope ["deck", "hands", "taken", "sizes", "hand"] ["deck", "hands"] (defScope sChkDeal) := ⟨rfl, rfl, rfl, by decide +kernel, rfl, by decide +kernel, by decide +kernel⟩
theorem put_one (n : Nat) : putK [(Sum.inl (n : Int), V.bl true)] (Sum.inl (n : Int) : Key) (V.bl true) = [(Sum.inl (n : Int), V.bl true)] := by
  simp [putK]
theorem ok_chkdeal (F : TopFn K mg "check_deal" sChkDeal ["deck", "hands"]) (cd : Cal P w K mg base 1 "check_deck" (spChkDeck K)) (cc : Cal P w K mg base 2 "count_cards" spCount) (ml : mg "len" = none) : Cal P w K mg base 3 "check_deal" (spChkDeal K) := by
  refine cal F sc_chkdeal (fun vs H Q E h => ?_) (fun f cdv A outer s H vs Q E hr h => ?_)
  · obtain ⟨d, h, s, r, hs, size, rfl, _⟩ := h; rfl
  obtain ⟨d, h, s', r, hs, size, rfl, hd, hh, ok, q⟩ := h
  refine ⟨_, pss_cons (ps_expr (pe_c cd hr (by decide) (pa_cons (pv 0) pa_nil)))
    (pss_cons (ps_set (i := 2) sc_chkdeal.nd rfl (.inl rfl) pe_int)
    (pss_cons (ps_set (i := 3) sc_chkdeal.nd rfl (.inl rfl) pe_dnewK)
    (pss_cons (ps_for PassesOwn.never rfl (pi_tup (pv 1)) (pg_name (i := 4) sc_chkdeal.nd rfl (.inl rfl))
      (pss_cons (ps_if (PW.pt (pw_or (pt_cmpR op_neN (pe_op op_andN (pv 4) (pv 2)) pe_int (nomark _)) (pw_or1 (pt_cmpR op_neN (pe_op op_shrN (pv 4) (pe_op op_mulN (pe_t (pv 0) pe_int) (pe_t (pv 0) pe_int))) pe_int (nomark _))))) pss_never pss_nil)
      (pss_cons (ps_set (i := 2) sc_chkdeal.nd rfl (.inl rfl) (pe_op op_orN (pv 2) (pv 4)))
      (pss_one (ps_dput (hu_of hr) (pv 3) (pe_c cc hr (by decide) (pa_cons (pv 4) pa_nil)) pe_bl rfl)))))
    (pss_one (ps_if (PW.pt (pw_or (pt_cmpR op_ne (pe_callB call_lenD (by rfl) ml PySem.boot_len (pa_cons (pv 3) pa_nil)) pe_int (nomark _)) (pw_or1 (pt_cmp (pc_din (hu_of hr) pe_int (pv 3)))))) pss_never pss_nil))))), ?_⟩
  refine ⟨_, rfl, d, s', r, rfl, hd, ok.s1, ok.s4, ok.r1, ok.r13, ?_⟩
  intro z nz
  have s1 : Same H (upd H z (.dK [])) := Same.newK nz
  have e1 : (upd H z (.dK [])) z = some (.dK []) := upd_same
  generalize upd H z (.dK []) = H1 at s1 e1
  refine ⟨_, rfl, h, rfl, ⟨_, s1.tupK hh⟩, ?_⟩
  refine for_tup (K := K) (a := h) (xs := nvs hs) (fun i σ H' => ∃ v4, σ = [some (.ref d), some (.ref h), some (nv (K70.orAll (hs.take i))), some (.ref z), v4] ∧ Same H H' ∧ H' z = some (.dK (if i = 0 then [] else [(Sum.inl (size : Int), V.bl true)])))
    ⟨none, rfl, s1, e1⟩ (fun i σ H' _ ⟨_, _, sm, _⟩ => sm.tupK hh) ?_ ?_
  · rintro i x σ H2 hx ⟨v4, rfl, sm, ez⟩
    obtain ⟨m, hm, rfl⟩ := nv_get hx
    have hmem : m ∈ hs := List.mem_of_getElem? hm
    have hlt : m < 2 ^ (s' * r) := ok.bits m hmem
    have hd2 := sm.tupK hd
    refine ⟨_, rfl, _, rfl, m, K70.orAll (hs.take i), rfl, rfl, m &&& K70.orAll (hs.take i), 0, rfl, rfl, _, rfl, ?_⟩
    rw [ok.and_taken hm]
    refine iteF ?_
    refine ⟨_, rfl, _, rfl, d, _, 0, nv s', rfl, rfl, hd2, atI_nat (j := 0) rfl, _, rfl, d, _, 1, nv r, rfl, rfl, hd2, atI_nat (j := 1) rfl, s', r, rfl, rfl, Nat.lt_of_le_of_lt ok.s4 (by decide), m, s' * r, rfl, rfl, m >>> (s' * r), 0, rfl, rfl, _, rfl, ?_⟩
    rw [Nat.shiftRight_eq_div_pow, Nat.div_eq_of_lt hlt]
    refine iteF ?_
    refine ⟨_, rfl, _, rfl, _, m, rfl, rfl, ?_⟩
    refine ⟨_, rfl, _, rfl, m, rfl, pow52 (ok.bits52 m hmem), fun H3 s3 => ?_⟩
    have ez3 := s3 _ _ ez
    have ec : K70.count m = size := ok.cnt m hmem
    have hsz : (if i = 0 then [] else [((Sum.inl (size : Int) : Key), V.bl true)]).length < sizeLine := by
      split
      · exact small1000 (Nat.zero_le _)
      · exact small1000 (by show 1 ≤ 1000; decide)
    refine ⟨z, _, rfl, DPut.k (k := Sum.inl ((K70.count m : Nat) : Int)) ez3 hsz, ?_⟩
    rw [ec]
    refine ⟨some (nv m), ?_, (sm.trans s3).mutK nz, ?_⟩
    · rw [List.take_add_one, hm]
      show [_, _, some (nv (K70.orAll (hs.take i) ||| m)), _, _] = [_, _, some (nv (K70.orAll (hs.take i ++ [m]))), _, _]
      rw [K70.orAll_snoc]
    · rw [upd_same, if_neg (Nat.succ_ne_zero i)]
      split
      · rfl
      · rw [put_one]
  · rintro σ H2 ⟨v4, rfl, sm, ez⟩
    rw [nvs_len, if_neg (by rw [ok.len]; decide)] at ez
    refine ⟨_, rfl, z, _, rfl, ez, rfl, _, rfl, ?_⟩
    refine iteF ?_
    refine ⟨_, rfl, z, _, rfl, DGet.k (k := Sum.inl 0) ez, _, rfl, ?_⟩
    have hpos := ok.pos
    have e0 : valV [((Sum.inl (size : Int) : Key), V.bl true)] (Sum.inl 0) = none := by
      rw [valV_neg (p := ((Sum.inl (size : Int) : Key), V.bl true)) (fun e => by have e2 : (size : Int) = 0 := Sum.inl.inj e
                                                                                 omega)]
      rfl
    rw [e0]
    exact iteF (q H2 sm)
theorem sc_playinit : FnScope ["self", "deck", "hands", "trump", "leader"] ["self", "deck", "hands", "trump", "leader"] (defScope sPlayInit) := ⟨rfl, rfl, rfl, by decide +kernel, rfl, by decide +kernel, by decide +kernel⟩
theorem ok_playinit (cp : ClsP K CP) (F : MakFn K mg "Play" CP "Play.__init__" sPlayInit ["self", "deck", "hands", "trump", "leader"]) (cc : Cal P w K mg base 3 "check_deal" (spChkDeal K)) (cb : Met P w K mg base 1 CP "begin" (spBegin K)) (mt : mg "tuple" = none) :
    Mak P w K mg base 4 "Play" CP (spPlayInit K CP) := by
  refine mak F sc_playinit (fun vs H Q E h => ?_) (fun f cdv A outer s H vs Q E hr h => ?_)
  · obtain ⟨p, dx, d, h, s, r, t, l, hs, size, rfl, _⟩ := h; rfl
  obtain ⟨p, dx, d, h, s', r, t, l, hs, size, rfl, hp, hd, hh, ok, t1, t2, q⟩ := h
  refine ⟨_, pss_cons (ps_expr (pe_c cc hr (by decide) (pa_cons (pv 1) (pa_cons (pv 2) pa_nil))))
    (pss_cons (ps_if (pt_not (pt_chain op_le op_lt (pe_un un_neg pe_int) (pv 3) (pe_t (pv 1) pe_int))) pss_never pss_nil)
    (pss_one (ps_expr (pe_mt cb hr (by decide) (pv 0) (pa_cons (pv 1) (pa_cons (pe_tup (pa_cons (pv 3) (pa_cons (pe_callTy call_tuple_of (by rfl) mt (by decide +kernel) (pa_cons (pv 2) pa_nil)) (pa_cons (pv 4) (pa_cons (pe_tup pa_nil) pa_nil))))) pa_nil)))))), ?_⟩
  refine ⟨_, rfl, _, rfl, d, h, s', r, hs, size, rfl, hd, SqT.of hh, ok, fun H1 s1 => ?_⟩
  have hd1 := s1.tupK hd
  refine ⟨1, rfl, _, rfl, -1, t, rfl, rfl, _, rfl, ?_⟩
  rw [decide_eq_true t1]
  refine iteT ⟨_, rfl, d, _, 0, nv s', rfl, rfl, hd1, atI_nat (j := 0) rfl, t, (s' : Int), rfl, rfl, _, rfl, ?_⟩
  rw [decide_eq_true t2]
  refine iteF ?_
  refine ⟨_, rfl, p, dx, _, rfl, s1 _ _ hp, rfl, _, rfl, _, rfl, _, rfl, h, _, rfl, .inr ⟨SqT.of (s1 _ _ hh), ?_⟩⟩
  refine ⟨_, rfl, Nat.zero_le _, fun la nla => ⟨(by show 4 ≤ sizeLine; decide), fun pa npa => ?_⟩⟩
  have s2 := s1.trans (Same.newK (o := .tup []) nla)
  have s3 := s2.trans (Same.newK (o := .tup [V.int t, V.ref h, nv l, V.ref la]) npa)
  have n1 : la ≠ pa := ne_of_none upd_same npa
  refine ⟨CP, p, dx, d, pa, s', r, K70.start t hs l, rfl, cp, s3 _ _ hp, s3.tupK hd, ⟨h, la, upd_same, ?_, ?_⟩, (by show hs.length ≤ 100; rw [ok.len]; decide), (by show 0 ≤ 100; decide), fun A H' e1 e2 e3 e4 => ?_⟩
  · exact s3 _ _ hh
  · rw [upd_ne n1, upd_same]
    rfl
  · refine q A H' e1 (fun x hx => (e2 x hx).imp id fun z => s3.free z) e3 ((Keep.of_same s3).trans e4 fun x e => .inl e)
def spLaterInit (K : PySem.W.Frag) (CL : Addr) : Sp := fun vs H Q _ => ∃ (p dx d pa : Addr) (s r : Nat) (q : K70.Pos), vs = [.ref p, .ref d, .ref pa] ∧ H p = some (.ins CL dx []) ∧ Deck K H d s r ∧ PosT H pa q ∧ PosOk q ∧
  ∀ A H', A.p = p → (∀ x, foot A x → x = p ∨ H x = none) → PlayAt K CL H' A ⟨s, r, q, 0, 0, [], []⟩ → Keep (fun x => x = p) H H' → Q .non H'
theorem sc_laterinit : FnScope ["self", "deck", "position"] ["self", "deck", "position"] (defScope sLaterInit) := ⟨rfl, rfl, rfl, by decide +kernel, rfl, by decide +kernel, by decide +kernel⟩
theorem ok_laterinit (cp : ClsP K CL) (F : MakFn K mg "Later" CL "Later.__init__" sLaterInit ["self", "deck", "position"]) (cb : Met P w K mg base 1 CL "begin" (spBegin K)) : Mak P w K mg base 2 "Later" CL (spLaterInit K CL) := by
  refine mak F sc_laterinit (fun vs H Q E h => ?_) (fun f cdv A outer s H vs Q E hr h => ?_)
  · obtain ⟨p, dx, d, pa, s, r, q, rfl, _⟩ := h; rfl
  obtain ⟨p, dx, d, pa, s', r, q, rfl, hp, hd, hpa, ok, k⟩ := h
  refine ⟨_, pss_one (ps_expr (pe_mt cb hr (by decide) (pv 0) (pa_cons (pv 1) (pa_cons (pv 2) pa_nil)))), ?_⟩
  refine ⟨_, rfl, p, dx, _, rfl, hp, rfl, _, rfl, _, rfl, CL, p, dx, d, pa, s', r, q, rfl, cp, hp, hd, hpa, by rw [ok.len]; decide, by have := ok.few; omega, k⟩
def spPlayAt (K : PySem.W.Frag) (CL : Addr) : Sp := fun vs H Q _ => ∃ (d pa : Addr) (s r : Nat) (q : K70.Pos), vs = [.ref d, .ref pa] ∧ Deck K H d s r ∧ PosT H pa q ∧ PosOk q ∧
  ∀ A H', Same H H' → (∀ x, foot A x → H x = none) → PlayAt K CL H' A ⟨s, r, q, 0, 0, [], []⟩ → Q (.ref A.p) H'
theorem sc_playat : FnScope ["deck", "position"] ["deck", "position"] (defScope sPlayAt) := ⟨rfl, rfl, rfl, by decide +kernel, rfl, by decide +kernel, by decide +kernel⟩
theorem ok_playat (F : TopFn K mg "play_at" sPlayAt ["deck", "position"]) (c : Mak P w K mg base 2 "Later" CL (spLaterInit K CL)) : Cal P w K mg base 4 "play_at" (spPlayAt K CL) := by
  refine cal F sc_playat (fun vs H Q E h => ?_) (fun f cdv A outer s H vs Q E hr h => ?_)
  · obtain ⟨d, pa, s, r, q, rfl, _⟩ := h; rfl
  obtain ⟨d, pa, s', r, q, rfl, hd, hpa, ok, k⟩ := h
  refine ⟨_, pss_one (ps_ret (pe_mk c hr (by decide) (pa_cons (pv 0) (pa_cons (pv 1) pa_nil)))), ?_⟩
  refine ⟨_, rfl, _, rfl, fun p dx np ndx ne => ?_⟩
  have ndp : dx ≠ p := ne
  have s1 : Same H (upd (upd H dx (.own p)) p (.ins CL dx [])) := fun b o e => by
    rw [upd_ne (ne_of_none e np), upd_ne (ne_of_none e ndx)]
    exact e
  refine ⟨p, dx, d, pa, s', r, q, rfl, upd_same, s1.tupK hd, hpa.keep fun b xs e => s1 b _ e, ok, fun A H' e1 e2 e3 e4 => ⟨rfl, ?_⟩⟩
  have key : Q (.ref A.p) H' := k A H' (fun b o e => e4.at_ b o (s1 b o e) (ne_of_none e np)) (fun x hx => (e2 x hx).elim (fun z => by rw [z]; exact np) fun z => s1.free z) e3
  rw [e1] at key
  exact key

/-! ### Solver(..), share(..) -/
def spSolInit (P : Program) (w : World) (CS : Addr) : Sp := fun vs H Q _ => ∃ (p dx dk : Addr), vs = [.ref p, .ref dk] ∧ H p = some (.ins CS dx []) ∧
  ∀ kd H', H kd = none → H' p = some (.ins CS dx (fieldsS dk kd)) → DictP P w H' kd [] → Keep (fun x => x = p) H H' → Q .non H'
theorem sc_solinit : FnScope ["self", "deck"] ["self", "deck"] (defScope sSolInit) := ⟨rfl, rfl, rfl, by decide +kernel, rfl, by decide +kernel, by decide +kernel⟩
theorem ok_solinit (cs : ClsS K CS) (F : MakFn K mg "Solver" CS "Solver.__init__" sSolInit ["self", "deck"]) : Mak P w K mg base 1 "Solver" CS (spSolInit P w CS) := by
  refine mak F sc_solinit (fun vs H Q E h => ?_) (fun f cdv A outer s H vs Q E hr h => ?_)
  · obtain ⟨p, dx, dk, rfl, _⟩ := h; rfl
  obtain ⟨p, dx, dk, rfl, hp, k⟩ := h
  refine ⟨_, pss_cons (ps_fld (pv 0) (pv 1) rfl) (pss_one (ps_fld (pv 0) pe_dnewP rfl)), ?_⟩
  refine ⟨_, rfl, _, rfl, p, CS, dx, [], rfl, hp, cs.cl, cs.nd, (by show 0 < 1000; decide), ?_⟩
  intro kd nkd hkd
  have n1 : p ≠ kd := ne_of_none upd_same nkd
  rw [upd_ne n1.symm] at nkd
  refine ⟨_, rfl, p, CS, dx, _, rfl, by rw [upd_ne n1, upd_same], cs.cl, cs.nk, (by show 1 < 1000; decide), ?_⟩
  refine k kd _ nkd ?_ (hkd _ (fun _ _ e => e) (by rw [upd_ne n1.symm, upd_same])) ((((Keep.put (p := p) (H := H)).mut (.inr nkd)).mut (.inl rfl)))
  rw [upd_same]
  exact congrArg (fun l => some (HO.ins CS dx l)) (by kernel_rfl)
def spShare (K : PySem.W.Frag) (CP : Addr) : Sp := fun vs H Q _ => ∃ (A : PlA) (st : PSt) (side : Int), vs = [.ref A.p, .int side] ∧ PlayAt K CP H A st ∧ PosOk st.pos ∧ (0 < st.r ∧ st.r ≤ 13) ∧ K70.Two st.pos ∧ K70.total st.pos ≤ 8 ∧
  ∀ H', Same H H' → Q (.int (if side = 0 then K70.share st.r st.pos else (K70.count (st.pos.hands.getD ((st.pos.leader + 3) % 4) 0) : Nat) - K70.share st.r st.pos)) H'
theorem sc_share : FnScope ["play", "side", "own", "found"] ["play", "side"] (defScope sShare) := ⟨rfl, rfl, rfl, by decide +kernel, rfl, by decide +kernel, by decide +kernel⟩
theorem ok_share (cp : ClsP K CP) (cl : ClsP K CL) (F : TopFn K mg "share" sShare ["play", "side"]) (cD : Met P w K mg base 1 CP "deck" (spDeck K)) (cP : Met P w K mg base 1 CP "position" (spPosn K)) (cA : Cal P w K mg base 4 "play_at" (spPlayAt K CL))
    (mS : Mak P w K mg base 1 "Solver" CS (spSolInit P w CS)) (cS : Met P w K mg base 21 CS "share" (spShareM P w K CS CL 9)) (cL : Met P w K mg base 2 CL "left" (spLeft K)) : Cal P w K mg base 22 "share" (spShare K CP) := by
  refine cal F sc_share (fun vs H Q E h => ?_) (fun f cdv A outer s H vs Q E hr h => ?_)
  · obtain ⟨A, st, side, rfl, _⟩ := h; rfl
  obtain ⟨A, st, side, rfl, hp, ok, hr13, two, h8, k⟩ := h
  refine ⟨_, pss_cons (ps_set (i := 2) sc_share.nd rfl (.inl rfl) (pe_c cA hr (by decide) (pa_cons (pe_mt0 cD hr (by decide) (pv 0)) (pa_cons (pe_mt0 cP hr (by decide) (pv 0)) pa_nil))))
    (pss_cons (ps_set (i := 3) sc_share.nd rfl (.inl rfl) (pe_mt cS hr (by decide) (pe_mk mS hr (by decide) (pa_cons (pe_mt0 cD hr (by decide) (pv 0)) pa_nil)) (pa_cons (pv 2) pa_nil)))
    (pss_one (ps_ret (pe_ifExp (pt_cmpR op_eq (pv 1) pe_int (nomark _)) (pv 3) (pe_op op_sub (pe_mt0 cL hr (by decide) (pv 2)) (pv 3)))))), ?_⟩
  -- own = play_at(play.deck(), play.position())
  refine ⟨_, rfl, A.p, A.dx, _, rfl, hp.ob, (by kernel_rfl), CP, A, st, rfl, cp, hp, ?_⟩
  refine ⟨_, rfl, A.p, A.dx, _, rfl, hp.ob, (by kernel_rfl), CP, A, st, rfl, cp, hp, fun pa H1 s1 npa hpa => ?_⟩
  refine ⟨A.dk, pa, st.s, st.r, st.pos, rfl, s1.tupK hp.dk, hpa, ok, fun B H2 s2 nB hB => ?_⟩
  have s12 := s1.trans s2
  have hp2 := hp.same s12
  -- found = Solver(play.deck()).share(own)
  refine ⟨_, rfl, A.p, A.dx, _, rfl, hp2.ob, (by kernel_rfl), CP, A, st, rfl, cp, hp2, fun sv sdx nsv nsdx ne => ?_⟩
  have s3 : Same H2 (upd (upd H2 sdx (.own sv)) sv (.ins CS sdx [])) := fun b o e => by
    rw [upd_ne (ne_of_none e nsv), upd_ne (ne_of_none e nsdx)]
    exact e
  refine ⟨sv, sdx, A.dk, rfl, upd_same, fun kd H3 nkd e3 d3 k3 => ⟨rfl, ?_⟩⟩
  have s23 : Same H2 H3 := fun b o e => k3.at_ b o (s3 b o e) (ne_of_none e nsv)
  have hB3 := hB.same s23
  have nkd2 : H2 kd = none := s3.free nkd
  have hs : SolAt P w K CS CL H3 sv kd B ⟨st.s, st.r, st.pos, 0, 0, [], []⟩ [] := ⟨⟨sdx, A.dk, e3⟩, hB3, d3, fun q v m => nomatch m⟩
  have hpow : 2 ^ (K70.total st.pos + 1) ≤ 2 ^ 9 := Nat.pow_le_pow_right (by decide) (by omega)
  refine ⟨sv, sdx, _, rfl, e3, (by kernel_rfl), _, rfl, sv, kd, B, _, [], rfl, hs, ⟨ok, hr13, two, (by show 0 + K70.total st.pos ≤ 500; omega), (by show 0 + K70.total st.pos ≤ 500; omega)⟩, (by show K70.total st.pos < 9; omega), ?_, ?_⟩
  · show 0 + 2 ^ (K70.total st.pos + 1) ≤ 4000
    have : (2 : Nat) ^ 9 = 512 := by decide
    omega
  rintro H4 ⟨B4, kvs4, ad4, k4, hs4, hl4⟩
  have sAll : Same H H4 := fun b o e => by
    have e2 := s12 b o e
    have e3' := s23 b o e2
    refine k4.at_ b o e3' fun m => ?_
    rcases m with m | m
    · have := nB b m
      rw [s1 b o e] at this
      cases this
    · rw [m] at e2
      rw [nkd2] at e2
      cases e2
  have hpp : B4.p = B.p := ad4.p
  refine ⟨_, rfl, rfl, _, rfl, ?_⟩
  rw [dec_vint]
  refine ite2 (fun e => ?_) (fun e => ?_)
  · have e0 : side = 0 := of_decide_eq_true e
    have := k H4 sAll
    rw [if_pos e0] at this
    exact ⟨_, rfl, this⟩
  · have e0 : ¬ side = 0 := of_decide_eq_false (Bool.eq_false_iff.mpr e)
    refine ⟨_, rfl, B4.p, B4.dx, _, by rw [hpp], hs4.play.ob, (by kernel_rfl), CL, B4, _, by rw [hpp]; rfl, cl, hs4.play, ok, fun H5 s5 => ?_⟩
    have := k H5 (sAll.trans s5)
    rw [if_neg e0] at this
    exact ⟨_, rfl, _, _, rfl, rfl, this⟩
end
end KW

/-! rules to be used within a comprehension: the written part named -/
namespace KW
open PySem PySem.Spec PyProof.Rows L2
section
variable {X : Cx} {K : PySem.W.Frag} {pos : PySem.Pos} {a b : Expr} {ta tb : TE}
theorem pe_tk (hK : X.K = K) (ha : PE X a ta) (hb : PE X b tb) (hs : PlainIx b := by exact fun _ _ => rfl) : PE X (.Subscript a b pos) (tOp (rIxT K) ta tb) := by
  subst hK
  exact pe_t ha hb hs
theorem pe_lk (hK : X.K = K) (ha : PE X a ta) (hb : PE X b tb) (hs : PlainIx b := by exact fun _ _ => rfl) : PE X (.Subscript a b pos) (tOp (rIxL K) ta tb) := by
  subst hK
  exact pe_l ha hb hs
theorem call_lenK (hK : X.K = K) : CallR X (.builtin "len") (fun xs H Q => ∃ p ys, xs = [.ref p] ∧ (SqL K H p ys ∨ SqT K H p ys) ∧ Q (.int ys.length) H) := by
  subst hK
  exact call_len_seq
end
end KW

/-! the law's own helpers, first part -/
namespace KW
open PySem PySem.Spec PyProof.Rows L2
open K70 (PosOk DealOk)
abbrev sLIsInt : Stmt := topS 40
abbrev sLNumbers : Stmt := topS 41
abbrev sLDeck : Stmt := topS 43
abbrev sLCards : Stmt := topS 44
abbrev sLWin : Stmt := topS 46
abbrev sLLeft : Stmt := topS 48
abbrev sLPool : Stmt := topS 51
abbrev sLPick : Stmt := topS 52
abbrev sLInt : Stmt := topS 53
def spLIsInt : Sp := fun vs H Q _ => ∃ i : Int, vs = [.int i] ∧ Q (.bl true) H
def spLInt : Sp := fun vs H Q _ => ∃ i j : Int, vs = [.int i, .int j] ∧ Q (.bl (decide (i = j))) H
/-- some small numbers, a new list -/
def spLNumbers (K : PySem.W.Frag) : Sp := fun vs H Q _ => ∃ (a : Addr) (ns : List Int), vs = [.ref a, .int 0, .int 240] ∧ SqL K H a (ns.map V.int) ∧ ns.length ≤ 63 ∧
  ∀ p H' l, Same H H' → H p = none → H' p = some (.lst (nvs l)) → l.length ≤ 240 → Q (.ref p) H'
def spLDeck : Sp := fun vs H Q _ => ∃ n size : Nat, vs = [nv n, nv size] ∧ size < 1000 ∧ ∀ p, H p = none → Q (.ref p) (upd H p (.tup [nv (1 + n % 3), nv ((4 * size + (1 + n % 3) - 1) / (1 + n % 3) + n / 3 % 2)]))
section
variable {P : Program} {w : World} {K : PySem.W.Frag} {mg : Str → Option Value} {base : Heap}
theorem sc_lisint : FnScope ["_law_actual"] ["_law_actual"] (defScope sLIsInt) := ⟨rfl, rfl, rfl, by decide +kernel, rfl, by decide +kernel, by decide +kernel⟩
theorem ok_lisint (F : TopFn K mg "_law_is_integer" sLIsInt ["_law_actual"]) (mi : mg "isinstance" = none) (mt : mg "int" = none) (mb : mg "bool" = none) : Cal P w K mg base 1 "_law_is_integer" spLIsInt := by
  refine cal F sc_lisint (fun vs H Q E h => ?_) (fun f cdv A outer s H vs Q E hr h => ?_)
  · obtain ⟨i, rfl, _⟩ := h; rfl
  obtain ⟨i, rfl, q⟩ := h
  refine ⟨_, pss_one (ps_ret (pe_and (pe_callB call_isi (by rfl) mi (by decide +kernel) (pa_cons (pv 0) (pa_cons (pe_bltn (v := .ty "int") (by rfl) mt (by decide +kernel) rfl) pa_nil)))
    (pe_one (pe_not (pe_callB call_isi (by rfl) mi (by decide +kernel) (pa_cons (pv 0) (pa_cons (pe_bltn (v := .ty "bool") (by rfl) mb (by decide +kernel) rfl) pa_nil))))))), ?_⟩
  refine ⟨_, rfl, _, _, _, _, true, rfl, .ty "int", .base (.int i), kit_ty (by decide +kernel), true, rfl, ?_⟩
  refine iteT ?_
  exact ⟨_, rfl, _, _, _, _, false, rfl, .ty "bool", .base (.int i), kit_ty (by decide +kernel), false, rfl, q⟩
theorem sc_lint : FnScope ["_law_actual", "_law_due"] ["_law_actual", "_law_due"] (defScope sLInt) := ⟨rfl, rfl, rfl, by decide +kernel, rfl, by decide +kernel, by decide +kernel⟩
theorem ok_lint (F : TopFn K mg "_law_int" sLInt ["_law_actual", "_law_due"]) (c : Cal P w K mg base 1 "_law_is_integer" spLIsInt) : Cal P w K mg base 2 "_law_int" spLInt := by
  refine cal F sc_lint (fun vs H Q E h => ?_) (fun f cdv A outer s H vs Q E hr h => ?_)
  · obtain ⟨i, j, rfl, _⟩ := h; rfl
  obtain ⟨i, j, rfl, q⟩ := h
  refine ⟨_, pss_one (ps_ret (pe_and (pe_c c hr (by decide) (pa_cons (pv 0) pa_nil)) (pe_one (pe_cmpR op_eq (pv 0) (pv 1) (nomark _))))), ?_⟩
  refine ⟨_, rfl, i, rfl, true, rfl, iteT ?_⟩
  refine ⟨_, rfl, _, rfl, rfl, ?_⟩
  rw [dec_vint]
  exact q
theorem sc_lcards : FnScope ["_law_mask", "_law_card"] ["_law_mask"] (defScope sLCards) := ⟨rfl, rfl, rfl, by decide +kernel, rfl, by decide +kernel, by decide +kernel⟩
theorem ok_lcards (F : TopFn K mg "_law_cards" sLCards ["_law_mask"]) (mr : mg "range" = none) : Cal P w K mg base 1 "_law_cards" spCards := by
  refine cal F sc_lcards (fun vs H Q E h => ?_) (fun f cdv A outer s H vs Q E hr h => ?_)
  · obtain ⟨m, rfl, _⟩ := h; rfl
  obtain ⟨m, rfl, hm, q⟩ := h
  refine ⟨_, pss_one (ps_ret (pe_lc (own := [("_law_card", 1)]) (g := gName 1) (by rfl) sc_lcards.nd (pi_range1 rfl mr (pa_cons (pe_bitsN (pv 0)) pa_nil)) (blkOk_by (own := [("_law_card", 1)]) (N := ["_law_mask", "_law_card"]) (sc := defScope sLCards) (by decide +kernel))
    (fun _ _ _ _ _ => pg_name (i := 1) sc_lcards.nd rfl (Or.inl rfl)) (fun _ _ _ _ _ => pts_one (pt_cmpR op_eqN (pe_op op_andN (pe_op op_shrN (pv 0) (pv 1)) pe_int) pe_int (nomark _))) (fun _ _ _ _ _ => pv 1))), ?_⟩
  have hl := log_64 hm
  have hb : m < 2 ^ (if m = 0 then 0 else m.log2 + 1) := by
    split
    · subst m; decide
    · exact K70.lt_log m
  have hn : (if m = 0 then 0 else m.log2 + 1) ≤ 64 := by split <;> omega
  generalize hN : (if m = 0 then 0 else m.log2 + 1) = n at hb hn
  refine ⟨_, rfl, m, rfl, (n : Int), by rw [hN], by omega, by omega, fun D hD => ?_⟩
  refine lc_range (lo := 0) (n := n) (fun i H' => H' = upd H D (.lst (nvs (K70.bitsBelow i m)))) rfl (fun i H' hi e => ?_) (fun H' e => ?_)
  · subst e
    refine ⟨rfl, _, rfl, _, rfl, m, i, rfl, by rw [Int.zero_add], m >>> i, 1, rfl, rfl, m >>> i &&& 1, 1, rfl, rfl, _, rfl, ?_⟩
    rw [bit_test, bits_snoc]
    cases hbit : m.testBit i with
    | false =>
      refine iteF ?_
      rw [if_neg Bool.false_ne_true, List.append_nil]
    | true =>
      refine iteT ⟨_, rfl, _, upd_same, ?_, ?_⟩
      · rw [nvs_len]
        exact small64' (by have := bits_len i m; omega)
      · rw [upd_upd, if_pos rfl, show nvs (K70.bitsBelow i m ++ [i]) = nvs (K70.bitsBelow i m) ++ [V.int (0 + (i : Int))] by rw [Int.zero_add]; exact List.map_append]
  · subst e
    refine q D _ (Same.newK hD) hD ?_
    rw [upd_same, K70.cardsOf_eq hb]
theorem sc_ldeck : FnScope ["_law_number", "_law_size", "_law_suits", "_law_ranks"] ["_law_number", "_law_size"] (defScope sLDeck) := ⟨rfl, rfl, rfl, by decide +kernel, rfl, by decide +kernel, by decide +kernel⟩
theorem ok_ldeck (F : TopFn K mg "_law_deck" sLDeck ["_law_number", "_law_size"]) (mt : mg "int" = none) : Cal P w K mg base 1 "_law_deck" spLDeck := by
  refine cal F sc_ldeck (fun vs H Q E h => ?_) (fun f cdv A outer s H vs Q E hr h => ?_)
  · obtain ⟨n, size, rfl, _⟩ := h; rfl
  obtain ⟨n, size, rfl, hs, q⟩ := h
  refine ⟨_, pss_cons (ps_set (i := 2) sc_ldeck.nd rfl (.inl rfl) (pe_op op_addN pe_int (pe_op op_modNN (pe_callTy call_int1 (by rfl) mt (by decide +kernel) (pa_cons (pv 0) pa_nil)) pe_int)))
    (pss_cons (ps_set (i := 3) sc_ldeck.nd rfl (.inl rfl) (pe_op op_addN (pe_op op_fdivNN (pe_op op_subN (pe_op op_addN (pe_op op_mulN pe_int (pv 1)) (pv 2)) pe_int) (pv 2)) (pe_op op_modNN (pe_op op_fdivNN (pe_callTy call_int1 (by rfl) mt (by decide +kernel) (pa_cons (pv 0) pa_nil)) pe_int) pe_int)))
    (pss_one (ps_ret (pe_tup (pa_cons (pv 2) (pa_cons (pv 3) pa_nil)))))), ?_⟩
  refine ⟨_, rfl, .inl ⟨_, rfl, n, 3, rfl, rfl, (by show 0 < 3; decide), 1, n % 3, rfl, rfl, ?_⟩⟩
  have h3 : n % 3 < 3 := Nat.mod_lt _ (by decide)
  refine ⟨_, rfl, 4, size, rfl, rfl, (by show 4 < 2 ^ 60; decide), _, rfl, 4 * size, 1 + n % 3, rfl, rfl, 4 * size + (1 + n % 3), 1, rfl, rfl, (by show 1 ≤ 4 * size + (1 + n % 3); omega), _, rfl, 4 * size + (1 + n % 3) - 1, 1 + n % 3, rfl, rfl, (by show 0 < 1 + n % 3 ∧ 1 + n % 3 < 1073741824; omega), ?_⟩
  refine ⟨_, rfl, .inl ⟨_, rfl, n, 3, rfl, rfl, (by show 0 < 3 ∧ 3 < 1073741824; decide), n / 3, 2, rfl, rfl, (by show 0 < 2; decide), (4 * size + (1 + n % 3) - 1) / (1 + n % 3), n / 3 % 2, rfl, rfl, ?_⟩⟩
  exact ⟨_, rfl, _, rfl, (by show 2 ≤ sizeLine; exact small64 (by decide)), fun p np => q p np⟩
theorem sc_lleft : FnScope ["_law_position"] ["_law_position"] (defScope sLLeft) := ⟨rfl, rfl, rfl, by decide +kernel, rfl, by decide +kernel, by decide +kernel⟩
def spLLeft : Sp := fun vs H Q _ => ∃ (a : Addr) (q : K70.Pos), vs = [.ref a] ∧ PosT H a q ∧ PosOk q ∧ ∀ H', Same H H' → Q (nv (K70.count (q.hands.getD ((q.leader + 3) % 4) 0))) H'
theorem ok_lleft (F : TopFn K mg "_law_left" sLLeft ["_law_position"]) (c : Cal P w K mg base 1 "_law_cards" spCards) (ml : mg "len" = none) : Cal P w K mg base 2 "_law_left" spLLeft := by
  refine cal F sc_lleft (fun vs H Q E h => ?_) (fun f cdv A outer s H vs Q E hr h => ?_)
  · obtain ⟨a, q, rfl, _⟩ := h; rfl
  obtain ⟨a, q, rfl, ⟨ha, la, h1, h2, h3⟩, ok, k⟩ := h
  refine ⟨_, pss_one (ps_ret (pe_callB call_len_seq (by rfl) ml PySem.boot_len (pa_cons (pe_c c hr (by decide) (pa_cons (pe_t (pe_t (pv 0) pe_int) (pe_op op_modNN (pe_op op_addN (pe_t (pv 0) pe_int) pe_int) pe_int)) pa_nil)) pa_nil))), ?_⟩
  have hl4 : (q.leader + 3) % 4 < q.hands.length := by rw [ok.len]; exact Nat.mod_lt _ (by decide)
  have hg : q.hands[(q.leader + 3) % 4]? = some (q.hands.getD ((q.leader + 3) % 4) 0) := by rw [List.getD_eq_getElem?_getD, List.getElem?_eq_getElem hl4]; rfl
  refine ⟨_, rfl, a, _, 1, .ref ha, rfl, rfl, SqT.of h1, atI_nat (j := 1) rfl, ?_⟩
  refine ⟨_, rfl, a, _, 2, nv q.leader, rfl, rfl, SqT.of h1, atI_nat (j := 2) rfl, q.leader, 3, rfl, rfl, q.leader + 3, 4, rfl, rfl, (by show 0 < 4; decide), ?_⟩
  refine ⟨ha, _, _, _, rfl, rfl, SqT.of h2, atI_nat (nvs_at hg), ?_⟩
  refine ⟨_, rfl, pow52 (ok.bits _ (K70.getD_mem hl4)), fun p H' s1 np e => ⟨p, _, rfl, .inl (SqL.of e), ?_⟩⟩
  rw [nvs_len]
  exact k H' s1
end
end KW

/-! the law's own helpers: its numbers -/
namespace KW
open PySem PySem.Spec PyProof.Rows L2
open K70 (PosOk DealOk)
section
variable {P : Program} {w : World} {K : PySem.W.Frag} {mg : Str → Option Value} {base : Heap}
theorem nv_toNat {i : Int} (h : 0 ≤ i) : V.int i = nv i.toNat := by
  show V.int i = V.int _
  rw [Int.toNat_of_nonneg h]
theorem atI_nat0 {α : Type} {xs : List α} {j : Nat} {v : α} (h : xs[j]? = some v) : atI xs (0 + (j : Int)) = some v := by
  rw [Int.zero_add]
  exact atI_nat h
theorem sc_lnumbers : FnScope ["_law_script", "_law_first", "_law_most", "_law_found", "_law_at", "_law_cell", "_law_k", "_law_mixed"] ["_law_script", "_law_first", "_law_most"] (defScope sLNumbers) := ⟨rfl, rfl, rfl, by decide +kernel, rfl, by decide +kernel, by decide +kernel⟩
theorem nvs_snoc (l : List Nat) (i : Int) (h : 0 ≤ i) : nvs l ++ [V.int i] = nvs (l ++ [i.toNat]) := by
  rw [nv_toNat h]
  exact (List.map_append (f := nv) (l₁ := l) (l₂ := [i.toNat])).symm
/-- what is found so far -/
def NumsAt (H : Hp) (p : Addr) (H' : Hp) : Prop := Same H H' ∧ ∃ l : List Nat, H' p = some (.lst (nvs l)) ∧ l.length ≤ 240
theorem NumsAt.snoc {H H' : Hp} {p : Addr} {l : List Nat} {i : Int} (np : H p = none) (s : Same H H') (e : H' p = some (.lst (nvs l))) (hl : l.length < 240) (hi : 0 ≤ i) : NumsAt H p (upd H' p (.lst (nvs l ++ [V.int i]))) := by
  refine ⟨s.mutK np, l ++ [i.toNat], by rw [upd_same, nvs_snoc _ _ hi], ?_⟩
  rw [List.length_append, List.length_singleton]
  omega
theorem ok_lnumbers (F : TopFn K mg "_law_numbers" sLNumbers ["_law_script", "_law_first", "_law_most"]) (mr : mg "range" = none) (ml : mg "len" = none) (ma : mg "abs" = none) (mt : mg "int" = none) : Cal P w K mg base 1 "_law_numbers" (spLNumbers K) := by
  refine cal F sc_lnumbers (fun vs H Q E h => ?_) (fun f cdv A outer s H vs Q E hr h => ?_)
  · obtain ⟨a, ns, rfl, _⟩ := h; rfl
  obtain ⟨a, ns, rfl, hS, hlen, q⟩ := h
  refine ⟨_, pss_cons (ps_set (i := 3) sc_lnumbers.nd rfl (.inl rfl) (pe_lst pa_nil))
    (pss_cons (ps_for PassesOwn.never rfl (pi_range2 rfl mr (pa_cons (pv 1) (pa_cons (pe_callB call_len_seq (by rfl) ml PySem.boot_len (pa_cons (pv 0) pa_nil)) pa_nil))) (pg_name (i := 4) sc_lnumbers.nd rfl (.inl rfl))
      (pss_cons (ps_set (i := 5) sc_lnumbers.nd rfl (.inl rfl) (pe_callB call_abs (by rfl) ma (by decide +kernel) (pa_cons (pe_l (pv 0) (pv 4)) pa_nil)))
      (pss_one (ps_if (pt_cmpR op_ge (pv 5) pe_int (nomark _))
        (pss_one (ps_for PassesOwn.never rfl (pi_range1 rfl mr (pa_cons pe_int pa_nil)) (pg_name (i := 6) sc_lnumbers.nd rfl (.inl rfl))
          (pss_one (ps_if (PW.pt (pw_and (pt_cmpR op_gt (pv 5) pe_int (nomark _)) (pw_and1 (pt_cmpR op_lt (pe_callB call_len_seq (by rfl) ml PySem.boot_len (pa_cons (pv 3) pa_nil)) (pv 2) (nomark _)))))
            (pss_cons (ps_expr (pe_app (pv 3) (pa_cons (pe_op op_mod (pe_callTy call_int1 (by rfl) mt (by decide +kernel) (pa_cons (pv 5) pa_nil)) pe_int) pa_nil)))
            (pss_one (ps_set (i := 5) sc_lnumbers.nd rfl (.inl rfl) (pe_op op_fdiv (pv 5) pe_int)))) pss_nil))))
        (pss_one (ps_if (pt_cmpR op_lt (pe_callB call_len_seq (by rfl) ml PySem.boot_len (pa_cons (pv 3) pa_nil)) (pv 2) (nomark _))
          (pss_cons (ps_set (i := 7) sc_lnumbers.nd rfl (.inl rfl) (pe_op op_mod (pe_callTy call_int1 (by rfl) mt (by decide +kernel) (pa_cons (pe_op op_add (pe_op op_add (pe_op op_mul (pv 5) pe_int) (pe_op op_mul (pv 4) pe_int)) pe_int) pa_nil)) pe_int))
          (pss_cons (ps_set (i := 7) sc_lnumbers.nd rfl (.inl rfl) (pe_op op_mod (pe_callTy call_int1 (by rfl) mt (by decide +kernel) (pa_cons (pe_op op_add (pe_op op_mul (pv 7) pe_int) (pe_op op_fdiv (pv 7) pe_int)) pa_nil)) pe_int))
          (pss_one (ps_expr (pe_app (pv 3) (pa_cons (pe_op op_mod (pe_callTy call_int1 (by rfl) mt (by decide +kernel) (pa_cons (pv 7) pa_nil)) pe_int) pa_nil)))))) pss_nil))))))
    (pss_one (ps_ret (pv 3)))), ?_⟩
  refine ⟨Nat.zero_le _, fun p np => ?_⟩
  have s1 : Same H (upd H p (.lst [])) := Same.newK np
  have e1 : (upd H p (.lst [])) p = some (.lst (nvs [])) := upd_same
  generalize upd H p (.lst []) = H1 at s1 e1
  refine ⟨_, rfl, .ref a, rfl, a, _, rfl, .inl (s1.seq hS), 0, (ns.length : Int), by rw [List.length_map], ?_, ?_⟩
  · have : (0 : Int) ≤ ns.length := Int.natCast_nonneg _
    omega
  refine for_range (lo := 0) (fun i σ H' => ∃ v4 v5 v6 v7, σ = [some (.ref a), some (.int 0), some (.int 240), some (.ref p), v4, v5, v6, v7] ∧ NumsAt H p H') ⟨none, none, none, none, rfl, s1, [], e1, Nat.zero_le _⟩ ?_ ?_
  · rintro i σ H2 hi ⟨v4, v5, v6, v7, rfl, s2, l, e2, hl⟩
    have hi' : i < ns.length := by omega
    have hg : (ns.map V.int)[i]? = some (V.int ns[i]) := by rw [List.getElem?_map, List.getElem?_eq_getElem hi']; rfl
    have hS2 := s2.seq hS
    refine ⟨_, rfl, _, rfl, a, _, (0 + (i : Int)), V.int ns[i], rfl, rfl, hS2, atI_nat0 hg, _, rfl, ?_⟩
    have hc : 0 ≤ (if ns[i] < 0 then -ns[i] else ns[i]) := by split <;> omega
    generalize (if ns[i] < 0 then -ns[i] else ns[i]) = c at hc
    refine ⟨_, rfl, c, 1000000000000000000, rfl, rfl, _, rfl, ?_⟩
    refine ite2 (fun hbig => ?_) (fun hbig => ?_)
    · refine ⟨60, rfl, by decide, by decide, ?_⟩
      refine for_range (lo := 0) (n := 60) (fun j σ H' => ∃ v6 v7, ∃ c' : Int, σ = [some (.ref a), some (.int 0), some (.int 240), some (.ref p), some (V.int (0 + (i : Int))), some (V.int c'), v6, v7] ∧ 0 ≤ c' ∧ NumsAt H p H') ⟨v6, v7, c, rfl, hc, s2, l, e2, hl⟩ ?_ ?_
      · rintro j σ H3 hj ⟨v6, v7, c', rfl, hc', s3, l3, e3, hl3⟩
        with_reducible refine if_byG (decide (0 < c') && decide (l3.length < 240)) (fun Q' q' => ?_) (fun hb => ?_) (fun hb => ?_)
        · refine ans_and (fun Q1 q1 => ?_) (fun _ Q1 q1 => ?_) q'
          · exact ⟨_, rfl, c', 0, rfl, rfl, _, rfl, q1⟩
          · refine ⟨_, rfl, p, _, rfl, .inl (SqL.of e3), _, rfl, (l3.length : Int), 240, by rw [nvs_len], rfl, _, rfl, ?_⟩
            have e : decide ((l3.length : Int) < 240) = decide (l3.length < 240) := decide_eq_decide.mpr (by omega)
            rw [e]
            exact q1
        · rw [Bool.and_eq_true, decide_eq_true_eq, decide_eq_true_eq] at hb
          refine ⟨_, rfl, .inl ⟨rfl, _, SqL.of e3⟩, _, rfl, .inl ⟨c', rfl, c', 4096, rfl, rfl, (by show (0 : Int) < 4096; decide), ?_⟩⟩
          refine ⟨p, _, _, rfl, rfl, e3, by rw [nvs_len]; exact small64' (by omega), ?_⟩
          refine ⟨_, rfl, c', 4096, rfl, rfl, ⟨by decide, by decide⟩, ?_⟩
          exact ⟨_, _, c' / 4096, rfl, Int.ediv_nonneg hc' (by decide), NumsAt.snoc np s3 e3 hb.2 (Int.emod_nonneg _ (by decide))⟩
        · exact ⟨_, _, c', rfl, hc', s3, l3, e3, hl3⟩
      · rintro σ H3 ⟨v6, v7, c', rfl, hc', hN⟩
        exact ⟨_, _, _, _, rfl, hN⟩
    · refine ⟨_, rfl, p, _, rfl, .inl (SqL.of e2), _, rfl, (l.length : Int), 240, by rw [nvs_len], rfl, _, rfl, ?_⟩
      refine ite2 (fun hlt => ?_) (fun hlt => ?_)
      · have hlt' : l.length < 240 := by have := of_decide_eq_true hlt; omega
        refine ⟨_, rfl, c, 48271, rfl, rfl, .inr ⟨by decide, by decide⟩, _, rfl, (0 + (i : Int)), 69621, rfl, rfl, .inr ⟨by decide, by decide⟩, _, _, rfl, rfl, _, 12345, rfl, rfl, .inl ⟨_, rfl, _, 2147483647, rfl, rfl, (by show (0 : Int) < 2147483647; decide), ?_⟩⟩
        dsimp only
        generalize (c * 48271 + (0 + (i : Int)) * 69621 + 12345) % 2147483647 = m1
        refine ⟨_, rfl, m1, 69621, rfl, rfl, .inr ⟨by decide, by decide⟩, _, rfl, m1, 1009, rfl, rfl, ⟨by decide, by decide⟩, m1 * 69621, m1 / 1009, rfl, rfl, .inl ⟨_, rfl, _, 1000003, rfl, rfl, (by show (0 : Int) < 1000003; decide), ?_⟩⟩
        dsimp only
        generalize (m1 * 69621 + m1 / 1009) % 1000003 = m2
        refine ⟨_, rfl, .inl ⟨rfl, _, SqL.of e2⟩, _, rfl, .inl ⟨m2, rfl, m2, 4096, rfl, rfl, (by show (0 : Int) < 4096; decide), ?_⟩⟩
        refine ⟨p, _, _, rfl, rfl, e2, by rw [nvs_len]; exact small64' (by omega), ?_⟩
        exact ⟨_, _, _, _, rfl, NumsAt.snoc np s2 e2 hlt' (Int.emod_nonneg _ (by decide))⟩
      · exact ⟨_, _, _, _, rfl, s2, l, e2, hl⟩
  · rintro σ H2 ⟨v4, v5, v6, v7, rfl, s2, l, e2, hl⟩
    exact ⟨_, rfl, q p H2 l s2 np e2 hl⟩
/-- the pool of numbers, how many were taken -/
def PoolAt (H : Hp) (p a : Addr) (l : List Nat) (at_ : Nat) : Prop := H p = some (.lst [.ref a, nv at_]) ∧ H a = some (.lst (nvs l)) ∧ l ≠ [] ∧ l.length ≤ 241
theorem PoolAt.same {H H' : Hp} {p a : Addr} {l : List Nat} {n : Nat} (h : PoolAt H p a l n) (s : Same H H') : PoolAt H' p a l n := by
  obtain ⟨h1, h2, h3⟩ := h
  exact ⟨s _ _ h1, s _ _ h2, h3⟩
theorem sc_lpool : FnScope ["_law_script"] ["_law_script"] (defScope sLPool) := ⟨rfl, rfl, rfl, by decide +kernel, rfl, by decide +kernel, by decide +kernel⟩
def spLPool (K : PySem.W.Frag) : Sp := fun vs H Q _ => ∃ (a : Addr) (ns : List Int), vs = [.ref a] ∧ SqL K H a (ns.map V.int) ∧ ns.length ≤ 63 ∧ ∀ p b l H', Same H H' → H p = none → PoolAt H' p b l 0 → Q (.ref p) H'
theorem ok_lpool (F : TopFn K mg "_law_pool" sLPool ["_law_script"]) (c : Cal P w K mg base 1 "_law_numbers" (spLNumbers K)) : Cal P w K mg base 2 "_law_pool" (spLPool K) := by
  refine cal F sc_lpool (fun vs H Q E h => ?_) (fun f cdv A outer s H vs Q E hr h => ?_)
  · obtain ⟨a, ns, rfl, _⟩ := h; rfl
  obtain ⟨a, ns, rfl, hS, hlen, q⟩ := h
  refine ⟨_, pss_one (ps_ret (pe_lst (pa_cons (pe_op op_cat (pe_c c hr (by decide) (pa_cons (pv 0) (pa_cons pe_int (pa_cons pe_int pa_nil)))) (pe_lst (pa_cons pe_int pa_nil))) (pa_cons pe_int pa_nil)))), ?_⟩
  refine ⟨_, rfl, a, ns, rfl, hS, hlen, fun p1 H1 l s1 n1 e1 hl => ⟨(by show 1 ≤ sizeLine; exact small64 (by decide)), fun p2 n2 => ?_⟩⟩
  refine ⟨p1, p2, _, _, rfl, rfl, (Same.newK n2) _ _ e1, upd_same, (by rw [nvs_len]; exact small64 (by show l.length + 1 ≤ 4096; omega)), fun p3 n3 => ⟨(by show 2 ≤ sizeLine; exact small64 (by decide)), fun p4 n4 => ?_⟩⟩
  have s2 := s1.trans (Same.newK (o := .lst [.int 5]) n2)
  have s3 := s2.trans (Same.newK (o := .lst (nvs l ++ [.int 5])) n3)
  have s4 := s3.trans (Same.newK (o := .lst [.ref p3, .int 0]) n4)
  have n34 : p3 ≠ p4 := ne_of_none upd_same n4
  refine q p4 p3 (l ++ [5]) _ s4 (s3.free n4) ⟨upd_same, ?_, by simp, by rw [List.length_append]; show l.length + 1 ≤ 241; omega⟩
  rw [upd_ne n34, upd_same]
  exact congrArg (fun z => some (HO.lst z)) (List.map_append (f := nv) (l₁ := l) (l₂ := [5])).symm
theorem sc_lpick : FnScope ["_law_pool_here", "_law_many", "_law_at", "_law_turn"] ["_law_pool_here", "_law_many"] (defScope sLPick) := ⟨rfl, rfl, rfl, by decide +kernel, rfl, by decide +kernel, by decide +kernel⟩
def spLPick : Sp := fun vs H Q _ => ∃ (p a : Addr) (l : List Nat) (at_ many : Nat), vs = [.ref p, nv many] ∧ PoolAt H p a l at_ ∧ at_ < 1000000 ∧ 0 < many ∧ ∀ k H', k < many → Keep (fun x => x = p) H H' → PoolAt H' p a l (at_ + 1) → Q (nv k) H'
theorem ok_lpick (F : TopFn K mg "_law_pick" sLPick ["_law_pool_here", "_law_many"]) (ml : mg "len" = none) (mt : mg "int" = none) : Cal P w K mg base 1 "_law_pick" spLPick := by
  refine cal F sc_lpick (fun vs H Q E h => ?_) (fun f cdv A outer s H vs Q E hr h => ?_)
  · obtain ⟨p, a, l, at_, many, rfl, _⟩ := h; rfl
  obtain ⟨p, a, l, n, many, rfl, ⟨h1, h2, hne, hl⟩, hn, hm, q⟩ := h
  refine ⟨_, pss_cons (ps_set (i := 2) sc_lpick.nd rfl (.inl rfl) (pe_l (pv 0) pe_int))
    (pss_cons (ps_asg (pe_op op_addN (pv 2) pe_int) (pg_sub (pv 0) pe_int set_list))
    (pss_cons (ps_set (i := 3) sc_lpick.nd rfl (.inl rfl) (pe_op op_fdivNN (pv 2) (pe_callB call_len_seq (by rfl) ml PySem.boot_len (pa_cons (pe_l (pv 0) pe_int) pa_nil))))
    (pss_one (ps_ret (pe_op op_modNN (pe_callTy call_int1 (by rfl) mt (by decide +kernel) (pa_cons (pe_op op_addN (pe_op op_addN (pe_l (pe_l (pv 0) pe_int) (pe_op op_modNN (pe_callTy call_int1 (by rfl) mt (by decide +kernel) (pa_cons (pv 2) pa_nil)) (pe_callB call_len_seq (by rfl) ml PySem.boot_len (pa_cons (pe_l (pv 0) pe_int) pa_nil)))) (pe_op op_mulN (pv 3) pe_int)) (pe_op op_mulN (pv 3) (pv 2))) pa_nil)) (pv 1)))))), ?_⟩
  have hl0 : 0 < l.length := List.length_pos_iff.mpr hne
  have nap : a ≠ p := fun e => by
    subst e
    rw [h1] at h2
    cases l with
    | nil => exact hne rfl
    | cons x r =>
      have z := (HO.lst.inj (Option.some.inj h2))
      injection z with z _
      cases z
  refine ⟨_, rfl, p, _, 1, nv n, rfl, rfl, SqL.of h1, atI_nat (j := 1) rfl, ?_⟩
  refine ⟨_, rfl, n, 1, rfl, rfl, ?_⟩
  refine ⟨_, rfl, p, _, 1, 1, rfl, rfl, h1, rfl, ?_⟩
  have k1 : Keep (fun x => x = p) H (upd H p (.lst [.ref a, nv (n + 1)])) := Keep.put
  have e1 : (upd H p (.lst [.ref a, nv (n + 1)])) p = some (.lst [.ref a, nv (n + 1)]) := upd_same
  have e2 := k1.at_ _ _ h2 nap
  dsimp only [List.set]
  generalize upd H p (.lst [.ref a, nv (n + 1)]) = H1 at k1 e1 e2
  have hp1 : PoolAt H1 p a l (n + 1) := ⟨e1, e2, hne, hl⟩
  refine ⟨_, rfl, _, rfl, p, _, 0, .ref a, rfl, rfl, SqL.of e1, atI_nat (j := 0) rfl, a, _, rfl, .inl (SqL.of e2), n, (nvs l).length, rfl, rfl, (by rw [nvs_len]; omega), ?_⟩
  rw [nvs_len]
  have hm0 : n % l.length < l.length := Nat.mod_lt _ hl0
  have hg : (nvs l)[n % l.length]? = some (nv l[n % l.length]) := by rw [List.getElem?_map, List.getElem?_eq_getElem hm0]; rfl
  have hd : n / l.length < 2 ^ 60 := Nat.lt_of_le_of_lt (Nat.div_le_self _ _) (by have : (1000000 : Nat) < 2 ^ 60 := by decide
                                                                                  omega)
  refine ⟨_, rfl, p, _, 0, .ref a, rfl, rfl, SqL.of e1, atI_nat (j := 0) rfl, _, rfl, .inl ⟨_, rfl, _, rfl, p, _, 0, .ref a, rfl, rfl, SqL.of e1, atI_nat (j := 0) rfl, a, _, rfl, .inl (SqL.of e2), n, (nvs l).length, rfl, rfl, (by rw [nvs_len]; exact hl0), ?_⟩⟩
  rw [nvs_len]
  refine ⟨a, _, _, nv l[n % l.length], rfl, rfl, SqL.of e2, atI_nat hg, ?_⟩
  refine ⟨_, rfl, n / l.length, 1009, rfl, rfl, hd, l[n % l.length], n / l.length * 1009, rfl, rfl, _, rfl, _, rfl, n / l.length, n, rfl, rfl, hd, l[n % l.length] + n / l.length * 1009, n / l.length * n, rfl, rfl, .inl ⟨_, rfl, _, rfl, l[n % l.length] + n / l.length * 1009 + n / l.length * n, many, rfl, rfl, hm, ?_⟩⟩
  exact q _ H1 (Nat.mod_lt _ hm) k1 hp1
end
end KW

/-! the law's own game: winner, legal, next -/
namespace KW
open PySem PySem.Spec PyProof.Rows L2
open K70 (PosOk DealOk)
abbrev sLLegal : Stmt := topS 45
abbrev sLNext : Stmt := topS 47
section
variable {P : Program} {w : World} {K : PySem.W.Frag} {mg : Str → Option Value} {base : Heap}
def spLWin (K : PySem.W.Frag) : Sp := fun vs H Q _ => ∃ (d a : Addr) (s r l : Nat) (t : Int) (cs : List Nat), vs = [.ref d, .int t, nv l, .ref a] ∧ Deck K H d s r ∧ (0 < r ∧ r < 64) ∧ SqL K H a (nvs cs) ∧ cs.length ≤ 4 ∧ Q (nv (K70.winner r t l cs)) H
theorem sc_lwin : FnScope ["_law_deck_here", "_law_trump", "_law_leader", "_law_cards_here", "_law_best", "_law_k", "_law_suit", "_law_top"] ["_law_deck_here", "_law_trump", "_law_leader", "_law_cards_here"] (defScope sLWin) := ⟨rfl, rfl, rfl, by decide +kernel, rfl, by decide +kernel, by decide +kernel⟩
theorem ok_lwin (F : TopFn K mg "_law_winner" sLWin ["_law_deck_here", "_law_trump", "_law_leader", "_law_cards_here"]) (mr : mg "range" = none) (ml : mg "len" = none) (mt : mg "int" = none) : Cal P w K mg base 1 "_law_winner" (spLWin K) := by
  refine cal F sc_lwin (fun vs H Q E h => ?_) (fun f cdv A outer s H vs Q E hr h => ?_)
  · obtain ⟨d, a, s, r, l, t, cs, rfl, _⟩ := h; rfl
  obtain ⟨d, a, s', r, l, t, cl, rfl, hd, hr', hl, hne, q⟩ := h
  refine ⟨_, pss_cons (ps_set (i := 4) sc_lwin.nd rfl (.inl rfl) pe_int)
    (pss_cons (ps_for PassesOwn.never rfl (pi_range1 rfl mr (pa_cons (pe_callB call_len_seq (by rfl) ml PySem.boot_len (pa_cons (pv 3) pa_nil)) pa_nil)) (pg_name (i := 5) sc_lwin.nd rfl (.inl rfl))
      (pss_cons (ps_set (i := 6) sc_lwin.nd rfl (.inl rfl) (pe_op op_fdivNN (pe_l (pv 3) (pv 5)) (pe_t (pv 0) pe_int)))
      (pss_cons (ps_set (i := 7) sc_lwin.nd rfl (.inl rfl) (pe_op op_fdivNN (pe_l (pv 3) (pv 4)) (pe_t (pv 0) pe_int)))
      (pss_one (ps_if (PW.pt (pw_or (PW.pt (pw_and (pt_cmpR op_eqN (pv 6) (pv 7) (nomark _)) (pw_and1 (pt_cmpR op_gtN (pe_l (pv 3) (pv 5)) (pe_l (pv 3) (pv 4)) (nomark _)))))
          (pw_or1 (PW.pt (pw_and (pt_cmpR op_eq (pv 6) (pv 1) (nomark _)) (pw_and1 (pt_cmpR op_ne (pv 7) (pv 1) (nomark _))))))))
        (pss_one (ps_set (i := 4) sc_lwin.nd rfl (.inl rfl) (pv 5))) pss_nil)))))
    (pss_one (ps_ret (pe_op op_modNN (pe_callTy call_int1 (by rfl) mt (by decide +kernel) (pa_cons (pe_op op_addN (pv 2) (pv 4)) pa_nil)) pe_int)))), ?_⟩
  refine ⟨.ref a, rfl, a, _, rfl, .inl hl, (cl.length : Int), by rw [nvs_len], ?_, ?_, ?_⟩
  · have : (0 : Int) ≤ cl.length := Int.natCast_nonneg _
    omega
  · omega
  refine for_range (lo := 0) (fun i σ H' => H' = H ∧ ∃ v5 v6 v7, σ = [some (.ref d), some (.int t), some (nv l), some (.ref a), some (nv (K70.bestUpTo r t cl i)), v5, v6, v7]) ⟨rfl, none, none, none, rfl⟩ ?_ ?_
  · rintro i σ H' hi ⟨rfl, v5, v6, v7, rfl⟩
    have hlen : i < cl.length := by omega
    obtain ⟨c, hc⟩ : ∃ c, cl[i]? = some c := ⟨_, List.getElem?_eq_getElem hlen⟩
    have hcn : cl.getD i 0 = c := by rw [List.getD_eq_getElem?_getD, hc]; rfl
    have hb : K70.bestUpTo r t cl i < cl.length := by
      rcases K70.bestUpTo_lt r t cl i with z | z <;> omega
    have hbc : cl[K70.bestUpTo r t cl i]? = some (cl.getD (K70.bestUpTo r t cl i) 0) := by rw [List.getD_eq_getElem?_getD, List.getElem?_eq_getElem hb]; rfl
    generalize hbd : cl.getD (K70.bestUpTo r t cl i) 0 = b at hbc
    have estep : K70.bestUpTo r t cl (i + 1) = if K70.beats r t c b then i else K70.bestUpTo r t cl i := by
      conv => lhs; unfold K70.bestUpTo
      rw [hcn, hbd]
    refine ⟨_, rfl, _, rfl, a, _, _, nv c, rfl, rfl, hl, atI_nat0 (nvs_at hc), _, rfl, d, _, 1, nv r, rfl, rfl, hd, atI_nat (j := 1) rfl, c, r, rfl, rfl, ⟨hr'.1, by omega⟩, ?_⟩
    refine ⟨_, rfl, _, rfl, a, _, _, nv b, rfl, rfl, hl, atI_nat (nvs_at hbc), _, rfl, d, _, 1, nv r, rfl, rfl, hd, atI_nat (j := 1) rfl, b, r, rfl, rfl, ⟨hr'.1, by omega⟩, ?_⟩
    with_reducible refine if_byG (K70.beats r t c b) (fun Q' q' => ?_) (fun e => ?_) (fun e => ?_)
    · have e : K70.beats r t c b = ((decide (c / r = b / r) && decide (b < c)) || (decide (V.int ((c / r : Nat) : Int) = V.int t) && !decide (V.int ((b / r : Nat) : Int) = V.int t))) := by
        rw [dec_vint, dec_vint]
        unfold K70.beats
        rw [Bool.beq_eq_decide_eq]
      rw [e] at q'
      refine ans_or (fun Q1 q1 => ans_and (fun Q2 q2 => ?_) (fun _ Q2 q2 => ?_) q1) (fun _ Q1 q1 => ans_and (fun Q2 q2 => ?_) (fun _ Q2 q2 => ?_) q1) q'
      · exact ⟨_, rfl, _, rfl, c / r, b / r, rfl, rfl, _, rfl, q2⟩
      · exact ⟨_, rfl, _, rfl, a, _, _, nv c, rfl, rfl, hl, atI_nat0 (nvs_at hc), _, rfl, _, rfl, a, _, _, nv b, rfl, rfl, hl, atI_nat (nvs_at hbc), c, b, rfl, rfl, _, rfl, q2⟩
      · exact ⟨_, rfl, _, rfl, rfl, _, rfl, q2⟩
      · exact ⟨_, rfl, _, rfl, rfl, _, rfl, q2⟩
    · refine ⟨_, rfl, rfl, some (nv i), some (nv (c / r)), some (nv (b / r)), ?_⟩
      rw [estep, if_pos e, Int.zero_add]
      rfl
    · refine ⟨rfl, some (nv i), some (nv (c / r)), some (nv (b / r)), ?_⟩
      rw [estep, e, if_neg Bool.false_ne_true, Int.zero_add]
      rfl
  · rintro σ H' ⟨rfl, v5, v6, v7, rfl⟩
    refine ⟨_, rfl, _, rfl, l, _, rfl, rfl, .inl ⟨_, rfl, l + K70.bestUpTo r t cl ((cl.length : Int) - 0).toNat, 4, rfl, rfl, (by show 0 < 4; decide), ?_⟩⟩
    have := q
    unfold K70.winner K70.bestIx at this
    have e : ((cl.length : Int) - 0).toNat = cl.length := by omega
    rw [e]
    exact this
/-! ### _law_legal -/
theorem sc_llegal : FnScope ["_law_deck_here", "_law_position", "_law_hand", "_law_cards_here", "_law_same", "_law_card"] ["_law_deck_here", "_law_position"] (defScope sLLegal) := ⟨rfl, rfl, rfl, by decide +kernel, rfl, by decide +kernel, by decide +kernel⟩
def spLLegal (K : PySem.W.Frag) : Sp := fun vs H Q _ => ∃ (d a : Addr) (s r : Nat) (q : K70.Pos), vs = [.ref d, .ref a] ∧ Deck K H d s r ∧ (0 < r ∧ r ≤ 13) ∧ PosT H a q ∧ PosOk q ∧ ∀ p H', Same H H' → H' p = some (.lst (nvs (K70.legal r q))) → Q (.ref p) H'
theorem ok_llegal (F : TopFn K mg "_law_legal" sLLegal ["_law_deck_here", "_law_position"]) (c : Cal P w K mg base 1 "_law_cards" spCards) (ml : mg "len" = none) : Cal P w K mg base 2 "_law_legal" (spLLegal K) := by
  refine cal F sc_llegal (fun vs H Q E h => ?_) (fun f cdv A outer s H vs Q E hr h => ?_)
  · obtain ⟨d, a, s, r, q, rfl, _⟩ := h; rfl
  obtain ⟨d, a, s', r, q, rfl, hd, hr', ⟨ha, la, h1, h2, h3⟩, ok, k⟩ := h
  refine ⟨_, pss_cons (ps_set (i := 2) sc_llegal.nd rfl (.inl rfl) (pe_t (pe_t (pv 1) pe_int) (pe_op op_modNN (pe_op op_addN (pe_t (pv 1) pe_int) (pe_callB call_len_seq (by rfl) ml PySem.boot_len (pa_cons (pe_t (pv 1) pe_int) pa_nil))) pe_int)))
    (pss_cons (ps_set (i := 3) sc_llegal.nd rfl (.inl rfl) (pe_c c hr (by decide) (pa_cons (pv 2) pa_nil)))
    (pss_cons (ps_if (pt_cmpR (op_neD hr.units) (pe_t (pv 1) pe_int) (pe_tup pa_nil) (nomark _))
      (pss_cons (ps_setLc (i := 4) (own := [("_law_card", 5)]) (g := gName 5) rfl sc_llegal.nd rfl rfl (sw_true rfl rfl rfl (by decide +kernel)) (pi_list (pv 3)) (blkOk_by (own := [("_law_card", 5)]) (N := ["_law_deck_here", "_law_position", "_law_hand", "_law_cards_here", "_law_same", "_law_card"]) (sc := defScope sLLegal) (by decide +kernel))
          (fun _ _ _ _ _ => pg_name (i := 5) sc_llegal.nd rfl (Or.inl rfl)) (fun _ _ _ _ _ => pts_one (pt_cmpR op_eqN (pe_op op_fdivNN (pv 5) (pe_tk (K := K) rfl (pv 0) pe_int)) (pe_op op_fdivNN (pe_tk (K := K) rfl (pe_tk (K := K) rfl (pv 1) pe_int) pe_int) (pe_tk (K := K) rfl (pv 0) pe_int)) (nomark _))) (fun _ _ _ _ _ => pv 5))
      (pss_one (ps_if (pt_cmpR (op_neD hr.units) (pv 4) (pe_lst pa_nil) (nomark _)) (pss_one (ps_ret (pv 4))) pss_nil))) pss_nil)
    (pss_one (ps_ret (pv 3))))), ?_⟩
  have hm4 : K70.mover q < q.hands.length := by rw [ok.len]; exact K70.mover_lt q
  have hg : q.hands[K70.mover q]? = some (K70.handOf q) := by unfold K70.handOf; rw [List.getD_eq_getElem?_getD, List.getElem?_eq_getElem hm4]; rfl
  -- _law_hand
  refine ⟨_, rfl, a, _, 1, .ref ha, rfl, rfl, SqT.of h1, atI_nat (j := 1) rfl, ?_⟩
  refine ⟨_, rfl, a, _, 2, nv q.leader, rfl, rfl, SqT.of h1, atI_nat (j := 2) rfl, _, rfl, a, _, 3, .ref la, rfl, rfl, SqT.of h1, atI_nat (j := 3) rfl, la, _, rfl, .inr (SqT.of h3), q.leader, q.led.length, rfl, by rw [nvs_len], q.leader + q.led.length, 4, rfl, rfl, (by show 0 < 4; decide), ?_⟩
  refine ⟨ha, _, _, _, rfl, rfl, SqT.of h2, atI_nat (nvs_at hg), ?_⟩
  -- _law_cards_here
  refine ⟨_, rfl, K70.handOf q, rfl, pow52 ok.hand, fun p1 H1 s1 n1 e1 => ?_⟩
  have a1 := s1 _ _ h1
  have a3 := s1 _ _ h3
  have hd1 := s1.tupK hd
  -- if position[3] != ()
  refine ⟨_, rfl, a, _, 3, .ref la, rfl, rfl, SqT.of a1, atI_nat (j := 3) rfl, Nat.zero_le _, fun z nz => ?_⟩
  have s2 := s1.trans (Same.newK (o := .tup []) nz)
  have ez : (upd H1 z (.tup [])) z = some (.tup (nvs [])) := upd_same
  have e2 := (Same.newK (o := .tup []) nz) _ _ e1
  generalize upd H1 z (.tup []) = H2 at s2 ez e2
  have b1 := s2 _ _ h1
  have b3 := s2 _ _ h3
  have hd2 := s2.tupK hd
  refine ⟨_, _, dp_numsT (SqT.of b3), dp_numsT (SqT.of ez), shaped_tuple _, shaped_tuple _, _, rfl, ?_⟩
  rw [eqv_tuple]
  cases hled : q.led with
  | nil =>
    refine iteF ⟨_, rfl, k p1 H2 s2 ?_⟩
    unfold K70.legal
    rw [hled]
    exact e2
  | cons c0 rest =>
    rw [hled] at b3
    refine iteT ?_
    refine ⟨_, rfl, p1, rfl, ⟨_, SqL.of e2⟩, fun D nD => ?_⟩
    have eDp : p1 ≠ D := ne_of_none e2 nD
    refine lc_list (K := K) (a := p1) (xs := nvs (K70.cardsOf (K70.handOf q))) (fun i H' => H' = upd H2 D (.lst (nvs (K70.follow r ((K70.cardsOf (K70.handOf q)).take i) c0)))) rfl (fun i H' _ e => by rw [e]; exact SqL.of (by rw [upd_ne eDp]; exact e2)) (fun i x H' hx e => ?_) (fun H' e => ?_)
    · obtain ⟨x, hx', rfl⟩ := nv_get hx
      subst e
      have sD : Same H2 (upd H2 D (.lst (nvs (K70.follow r ((K70.cardsOf (K70.handOf q)).take i) c0)))) := Same.newK nD
      have hd3 := sD.tupK hd2
      refine ⟨rfl, _, rfl, _, rfl, d, _, 1, nv r, rfl, rfl, hd3, atI_nat (j := 1) rfl, x, r, rfl, rfl, ⟨hr'.1, by omega⟩, _, rfl, a, _, 3, .ref la, rfl, rfl, SqT.of (sD _ _ b1), atI_nat (j := 3) rfl, la, _, 0, nv c0, rfl, rfl, SqT.of (sD _ _ b3), atI_nat (j := 0) rfl, _, rfl, d, _, 1, nv r, rfl, rfl, hd3, atI_nat (j := 1) rfl, c0, r, rfl, rfl, ⟨hr'.1, by omega⟩, x / r, c0 / r, rfl, rfl, _, rfl, ?_⟩
      have estep : K70.follow r ((K70.cardsOf (K70.handOf q)).take (i + 1)) c0 = K70.follow r ((K70.cardsOf (K70.handOf q)).take i) c0 ++ (if x / r == c0 / r then [x] else []) := by
        unfold K70.follow
        rw [List.take_add_one, hx', List.filter_append]
        show _ ++ List.filter _ [x] = _
        rw [List.filter_cons, List.filter_nil]
      rw [estep]
      by_cases e : x / r = c0 / r
      · rw [decide_eq_true e, if_pos (beq_iff_eq.mpr e)]
        refine iteT ⟨_, rfl, _, upd_same, ?_, ?_⟩
        · rw [nvs_len]
          have h1 : (K70.follow r ((K70.cardsOf (K70.handOf q)).take i) c0).length ≤ ((K70.cardsOf (K70.handOf q)).take i).length := List.length_filter_le _ _
          have h2 : ((K70.cardsOf (K70.handOf q)).take i).length ≤ (K70.cardsOf (K70.handOf q)).length := List.length_take_le' _ _
          have h3 : (K70.cardsOf (K70.handOf q)).length ≤ 52 := by rw [K70.cardsOf_eq ok.hand]; exact bits_len _ _
          exact small64' (by omega)
        · rw [upd_upd]
          exact congrArg (fun l => upd H2 D (HO.lst l)) (List.map_append (f := nv) (l₂ := [x])).symm
      · rw [decide_eq_false e, if_neg (fun z => e (beq_iff_eq.mp z)), List.append_nil]
        exact iteF rfl
    · subst e
      rw [nvs_len, List.take_length]
      have s3 := s2.trans (Same.newK (o := .lst (nvs (K70.follow r (K70.cardsOf (K70.handOf q)) c0))) nD)
      have eD : (upd H2 D (.lst (nvs (K70.follow r (K70.cardsOf (K70.handOf q)) c0)))) D = some (.lst (nvs (K70.follow r (K70.cardsOf (K70.handOf q)) c0))) := upd_same
      have e3 := (Same.newK (o := .lst (nvs (K70.follow r (K70.cardsOf (K70.handOf q)) c0))) nD) _ _ e2
      generalize upd H2 D (.lst (nvs (K70.follow r (K70.cardsOf (K70.handOf q)) c0))) = H3 at s3 eD e3
      refine ⟨_, rfl, Nat.zero_le _, fun z2 nz2 => ?_⟩
      have s4 := s3.trans (Same.newK (o := .lst []) nz2)
      have eD4 := (Same.newK (o := .lst []) nz2) _ _ eD
      have e4 := (Same.newK (o := .lst []) nz2) _ _ e3
      have ez4 : (upd H3 z2 (.lst [])) z2 = some (.lst (nvs [])) := upd_same
      generalize upd H3 z2 (.lst []) = H4 at s4 eD4 e4 ez4
      refine ⟨_, _, dp_nums (SqL.of eD4), dp_nums (SqL.of ez4), shaped_list _, shaped_list _, _, rfl, ?_⟩
      rw [eqv_list]
      by_cases e : K70.follow r (K70.cardsOf (K70.handOf q)) c0 = []
      · rw [decide_eq_true e]
        refine iteF ⟨_, rfl, k p1 H4 s4 ?_⟩
        unfold K70.legal
        rw [hled]
        show _ = some (HO.lst (nvs (if K70.follow r (K70.cardsOf (K70.handOf q)) c0 = [] then _ else _)))
        rw [if_pos e]
        exact e4
      · rw [decide_eq_false e]
        refine iteT ⟨_, rfl, k D H4 s4 ?_⟩
        unfold K70.legal
        rw [hled]
        show _ = some (HO.lst (nvs (if K70.follow r (K70.cardsOf (K70.handOf q)) c0 = [] then _ else _)))
        rw [if_neg e]
        exact eD4
end
end KW

/-! the law's own game: next -/
namespace KW
open PySem PySem.Spec PyProof.Rows L2
open K70 (PosOk DealOk)
section
variable {P : Program} {w : World} {K : PySem.W.Frag} {mg : Str → Option Value} {base : Heap}
theorem four {l : List Nat} (h : l.length = 4) : ∃ a b c d, l = [a, b, c, d] := by
  match l, h with
  | [a, b, c, d], _ => exact ⟨a, b, c, d, rfl⟩
theorem cat_led {H : Hp} {la u : Addr} {xs : List V} {c : V} (h1 : SqT K H la xs) (h2 : H u = some (.tup [c])) (hl : xs.length + 1 ≤ sizeLine) {Q : V → Hp → Prop} (k : ∀ y H3, Same H H3 → H3 y = some (.tup (xs ++ [c])) → Q (.ref y) H3) : rCatA K (.ref la) (.ref u) H Q := by
  refine ⟨la, u, xs, [c], rfl, rfl, h1, SqT.of h2, hl, fun e => ?_, (fun _ e => nomatch e), fun _ _ p np => k p _ (Same.newK np) upd_same⟩
  subst e
  exact k u H (Same.refl H) h2
theorem sc_lnext : FnScope ["_law_deck_here", "_law_position", "_law_card", "_law_trump", "_law_leader", "_law_turn", "_law_hands", "_law_led", "_law_winner_here"] ["_law_deck_here", "_law_position", "_law_card"] (defScope sLNext) := ⟨rfl, rfl, rfl, by decide +kernel, rfl, by decide +kernel, by decide +kernel⟩
/-- the position after a card, and who won the trick -/
def NextT (H : Hp) (z : Addr) (r : Nat) (q : K70.Pos) (c : Nat) : Prop := ∃ (b : Addr) (g : Int), H z = some (.tup [.ref b, .int g]) ∧ PosT H b (K70.next r q c) ∧ K70.gain r q c = if g = 0 then 1 else 0
def spLNext (K : PySem.W.Frag) : Sp := fun vs H Q _ => ∃ (d a : Addr) (s r : Nat) (q : K70.Pos) (c : Nat), vs = [.ref d, .ref a, nv c] ∧ Deck K H d s r ∧ (0 < r ∧ r ≤ 13) ∧ PosT H a q ∧ PosOk q ∧ c < 64 ∧ ∀ z H', Same H H' → NextT H' z r q c → Q (.ref z) H'
theorem ok_lnext (F : TopFn K mg "_law_next" sLNext ["_law_deck_here", "_law_position", "_law_card"]) (cw : Cal P w K mg base 1 "_law_winner" (spLWin K)) (ml : mg "len" = none) (mli : mg "list" = none) : Cal P w K mg base 2 "_law_next" (spLNext K) := by
  refine cal F sc_lnext (fun vs H Q E h => ?_) (fun f cdv A outer s H vs Q E hr h => ?_)
  · obtain ⟨d, a, s, r, q, c, rfl, _⟩ := h; rfl
  obtain ⟨d, a, s', r, q, c, rfl, hd, hr', ⟨ha, la, h1, h2, h3⟩, ok, hc, k⟩ := h
  refine ⟨_, pss_cons (ps_set (i := 3) sc_lnext.nd rfl (.inl rfl) (pe_t (pv 1) pe_int))
    (pss_cons (ps_set (i := 4) sc_lnext.nd rfl (.inl rfl) (pe_t (pv 1) pe_int))
    (pss_cons (ps_set (i := 5) sc_lnext.nd rfl (.inl rfl) (pe_op op_modNN (pe_op op_addN (pv 4) (pe_callB call_len_seq (by rfl) ml PySem.boot_len (pa_cons (pe_t (pv 1) pe_int) pa_nil))) pe_int))
    (pss_cons (ps_set (i := 6) sc_lnext.nd rfl (.inl rfl) (pe_callTy call_list_of (by rfl) mli (by decide +kernel) (pa_cons (pe_t (pv 1) pe_int) pa_nil)))
    (pss_cons (ps_asg (pe_op op_xorN (pe_l (pv 6) (pv 5)) (pe_op op_shlN pe_int (pv 2))) (pg_sub (pv 6) (pv 5) set_list))
    (pss_cons (ps_set (i := 7) sc_lnext.nd rfl (.inl rfl) (pe_op op_catA (pe_t (pv 1) pe_int) (pe_tup (pa_cons (pv 2) pa_nil))))
    (pss_cons (ps_if (pt_cmpR op_lt (pe_callB call_len_seq (by rfl) ml PySem.boot_len (pa_cons (pv 7) pa_nil)) pe_int (nomark _))
      (pss_one (ps_ret (pe_tup (pa_cons (pe_tup (pa_cons (pv 3) (pa_cons (pe_tup (pa_cons (pe_l (pv 6) pe_int) (pa_cons (pe_l (pv 6) pe_int) (pa_cons (pe_l (pv 6) pe_int) (pa_cons (pe_l (pv 6) pe_int) pa_nil))))) (pa_cons (pv 4) (pa_cons (pv 7) pa_nil))))) (pa_cons (pe_un un_neg pe_int) pa_nil))))) pss_nil)
    (pss_cons (ps_set (i := 8) sc_lnext.nd rfl (.inl rfl) (pe_c cw hr (by decide) (pa_cons (pv 0) (pa_cons (pv 3) (pa_cons (pv 4) (pa_cons (pe_callTy call_list_of (by rfl) mli (by decide +kernel) (pa_cons (pv 7) pa_nil)) pa_nil))))))
    (pss_one (ps_ret (pe_tup (pa_cons (pe_tup (pa_cons (pv 3) (pa_cons (pe_tup (pa_cons (pe_l (pv 6) pe_int) (pa_cons (pe_l (pv 6) pe_int) (pa_cons (pe_l (pv 6) pe_int) (pa_cons (pe_l (pv 6) pe_int) pa_nil))))) (pa_cons (pv 8) (pa_cons (pe_tup pa_nil) pa_nil))))) (pa_cons (pe_op op_modNN (pv 8) pe_int) pa_nil)))))))))))), ?_⟩
  have hm4 : K70.mover q < q.hands.length := by rw [ok.len]; exact K70.mover_lt q
  have hg : q.hands[K70.mover q]? = some (K70.handOf q) := by unfold K70.handOf; rw [List.getD_eq_getElem?_getD, List.getElem?_eq_getElem hm4]; rfl
  refine ⟨_, rfl, a, _, 0, .int q.trump, rfl, rfl, SqT.of h1, atI_nat (j := 0) rfl, ?_⟩
  refine ⟨_, rfl, a, _, 2, nv q.leader, rfl, rfl, SqT.of h1, atI_nat (j := 2) rfl, ?_⟩
  refine ⟨_, rfl, _, rfl, a, _, 3, .ref la, rfl, rfl, SqT.of h1, atI_nat (j := 3) rfl, la, _, rfl, .inr (SqT.of h3), q.leader, q.led.length, rfl, by rw [nvs_len], q.leader + q.led.length, 4, rfl, rfl, (by show 0 < 4; decide), ?_⟩
  refine ⟨_, rfl, a, _, 1, .ref ha, rfl, rfl, SqT.of h1, atI_nat (j := 1) rfl, ha, _, rfl, .inr (SqT.of h2), fun p np => ?_⟩
  -- hands[turn] = hands[turn] ^ 1 << card
  refine ⟨_, rfl, _, rfl, p, _, K70.mover q, nv (K70.handOf q), rfl, rfl, SqL.of upd_same, atI_nat (nvs_at hg), _, rfl, 1, c, rfl, rfl, ⟨by decide, by omega⟩, K70.handOf q, 1 <<< c, rfl, rfl, ?_⟩
  refine ⟨_, rfl, _, rfl, p, _, K70.mover q, K70.mover q, rfl, rfl, upd_same, ixn (by rw [nvs_len]; exact hm4), ?_⟩
  have ehs : (nvs q.hands).set (K70.mover q) (nv (K70.handOf q ^^^ 1 <<< c)) = nvs (q.hands.set (K70.mover q) (K70.handOf q ^^^ 1 <<< c)) := List.map_set.symm
  rw [upd_upd, ehs]
  have s1 : Same H (upd H p (.lst (nvs (q.hands.set (K70.mover q) (K70.handOf q ^^^ 1 <<< c))))) := Same.newK np
  have ep : (upd H p (.lst (nvs (q.hands.set (K70.mover q) (K70.handOf q ^^^ 1 <<< c))))) p = some (.lst (nvs (q.hands.set (K70.mover q) (K70.handOf q ^^^ 1 <<< c)))) := upd_same
  generalize upd H p (.lst (nvs (q.hands.set (K70.mover q) (K70.handOf q ^^^ 1 <<< c)))) = H1 at s1 ep
  have hlen : (q.hands.set (K70.mover q) (K70.handOf q ^^^ 1 <<< c)).length = 4 := by rw [List.length_set]; exact ok.len
  have enh : (K70.next r q c).hands = q.hands.set (K70.mover q) (K70.handOf q ^^^ 1 <<< c) := K70.next_hands r q c
  generalize hhs : q.hands.set (K70.mover q) (K70.handOf q ^^^ 1 <<< c) = hs at ep hlen enh
  obtain ⟨m0, m1, m2, m3, rfl⟩ := four hlen
  -- _law_led
  refine ⟨_, rfl, a, _, 3, .ref la, rfl, rfl, SqT.of (s1 _ _ h1), atI_nat (j := 3) rfl, _, rfl, (by show 1 ≤ sizeLine; decide), fun u nu => ?_⟩
  have s2 := s1.trans (Same.newK (o := .tup [nv c]) nu)
  have eu : (upd H1 u (.tup [nv c])) u = some (.tup (nvs [c])) := upd_same
  have ep2 := (Same.newK (o := .tup [nv c]) nu) _ _ ep
  generalize upd H1 u (.tup [nv c]) = H2 at s2 eu ep2
  refine cat_led (SqT.of (s2 _ _ h3)) eu (by rw [nvs_len]; have := ok.few; exact small64 (by show q.led.length + 1 ≤ 4096; omega)) (fun y H3 s23 ey => ?_)
  have s3 := s2.trans s23
  have ep3 := s23 _ _ ep2
  have eled : nvs q.led ++ [nv c] = nvs (q.led ++ [c]) := (List.map_append (f := nv) (l₂ := [c])).symm
  rw [eled] at ey
  have hfew := ok.few
  have elen : (q.led ++ [c]).length = q.led.length + 1 := by rw [List.length_append]; rfl
  refine ⟨_, rfl, y, _, rfl, .inr (SqT.of ey), _, 4, rfl, rfl, _, rfl, ?_⟩
  rw [nvs_len, elen]
  by_cases h4 : q.led.length = 3
  · rw [h4]
    refine iteF ?_
    -- _law_winner
    refine ⟨_, rfl, _, rfl, _, rfl, _, rfl, y, _, rfl, .inr (SqT.of ey), fun l nl => ?_⟩
    have s4 := s3.trans (Same.newK (o := .lst (nvs (q.led ++ [c]))) nl)
    have ep4 := (Same.newK (o := .lst (nvs (q.led ++ [c]))) nl) _ _ ep3
    have el4 : (upd H3 l (.lst (nvs (q.led ++ [c])))) l = some (.lst (nvs (q.led ++ [c]))) := upd_same
    generalize upd H3 l (.lst (nvs (q.led ++ [c]))) = H4 at s4 ep4 el4
    refine ⟨d, l, s', r, q.leader, q.trump, q.led ++ [c], rfl, s4.tupK hd, ⟨hr'.1, by omega⟩, SqL.of el4, by rw [elen]; omega, ?_⟩
    refine ⟨_, rfl, _, rfl, p, _, 0, nv m0, rfl, rfl, SqL.of ep4, atI_nat (j := 0) rfl, _, rfl, p, _, 1, nv m1, rfl, rfl, SqL.of ep4, atI_nat (j := 1) rfl, _, rfl, p, _, 2, nv m2, rfl, rfl, SqL.of ep4, atI_nat (j := 2) rfl, _, rfl, p, _, 3, nv m3, rfl, rfl, SqL.of ep4, atI_nat (j := 3) rfl, (by show 4 ≤ sizeLine; decide), fun t nt => ?_⟩
    have s5 := s4.trans (Same.newK (o := .tup [nv m0, nv m1, nv m2, nv m3]) nt)
    refine ⟨_, rfl, Nat.zero_le _, fun e ne => ⟨(by show 4 ≤ sizeLine; decide), fun b nb => ?_⟩⟩
    have s6 := s5.trans (Same.newK (o := .tup []) ne)
    have s7 := s6.trans (Same.newK (o := .tup [.int q.trump, .ref t, nv (K70.winner r q.trump q.leader (q.led ++ [c])), .ref e]) nb)
    have nte : t ≠ e := ne_of_none upd_same ne
    refine ⟨_, rfl, _, 2, rfl, rfl, (by show 0 < 2; decide), (by show 2 ≤ sizeLine; decide), fun z nz => ?_⟩
    have s8 := s7.trans (Same.newK (o := .tup [.ref b, nv (K70.winner r q.trump q.leader (q.led ++ [c]) % 2)]) nz)
    refine k z _ s8 ⟨b, _, upd_same, ?_, ?_⟩
    · have enx : K70.next r q c = ⟨q.trump, [m0, m1, m2, m3], K70.winner r q.trump q.leader (q.led ++ [c]), []⟩ := by
        rw [← enh]
        unfold K70.next
        rw [if_pos h4]
      rw [enx]
      refine ⟨t, e, ?_, ?_, ?_⟩
      · exact (Same.newK nz) _ _ upd_same
      · exact (Same.newK nz) _ _ ((Same.newK nb) _ _ ((Same.newK ne) _ _ upd_same))
      · exact (Same.newK nz) _ _ ((Same.newK nb) _ _ upd_same)
    · unfold K70.gain
      rw [if_pos h4]
      by_cases ew : K70.winner r q.trump q.leader (q.led ++ [c]) % 2 = 0
      · rw [if_pos ew, ew]
        rfl
      · rw [if_neg ew, if_neg (by omega)]
  · have h4' : decide (((q.led.length + 1 : Nat) : Int) < 4) = true := decide_eq_true (by omega)
    rw [h4']
    refine iteT ?_
    refine ⟨_, rfl, _, rfl, p, _, 0, nv m0, rfl, rfl, SqL.of ep3, atI_nat (j := 0) rfl, _, rfl, p, _, 1, nv m1, rfl, rfl, SqL.of ep3, atI_nat (j := 1) rfl, _, rfl, p, _, 2, nv m2, rfl, rfl, SqL.of ep3, atI_nat (j := 2) rfl, _, rfl, p, _, 3, nv m3, rfl, rfl, SqL.of ep3, atI_nat (j := 3) rfl, (by show 4 ≤ sizeLine; decide), fun t nt => ?_⟩
    have s5 := s3.trans (Same.newK (o := .tup [nv m0, nv m1, nv m2, nv m3]) nt)
    refine ⟨_, rfl, _, rfl, (by show 4 ≤ sizeLine; decide), fun b nb => ?_⟩
    have s7 := s5.trans (Same.newK (o := .tup [.int q.trump, .ref t, nv q.leader, .ref y]) nb)
    refine ⟨1, rfl, (by show 2 ≤ sizeLine; decide), fun z nz => ?_⟩
    have s8 := s7.trans (Same.newK (o := .tup [.ref b, .int (-1)]) nz)
    refine k z _ s8 ⟨b, _, upd_same, ?_, ?_⟩
    · have enx : K70.next r q c = ⟨q.trump, [m0, m1, m2, m3], q.leader, q.led ++ [c]⟩ := by
        rw [← enh]
        unfold K70.next
        rw [if_neg h4]
      rw [enx]
      refine ⟨t, y, ?_, ?_, ?_⟩
      · exact (Same.newK nz) _ _ upd_same
      · exact (Same.newK nz) _ _ ((Same.newK nb) _ _ upd_same)
      · exact (Same.newK nz) _ _ ((Same.newK nb) _ _ ((Same.newK nt) _ _ ey))
    · unfold K70.gain
      rw [if_neg h4, if_neg (by decide)]
end
end KW

/-! the law's own game: share -/
namespace KW
open PySem PySem.Spec PyProof.Rows L2
open K70 (PosOk DealOk)
abbrev sLShare : Stmt := topS 49
abbrev sLSide : Stmt := topS 50
theorem dpI_all {K : PySem.W.Frag} {H : Hp} : ∀ l : List Int, DpAll K H (l.map V.int) (l.map PyData.int)
  | [] => .nil
  | _ :: l => .cons (.int _) (dpI_all l)
theorem depth_ints : ∀ l : List Int, PyData.depthAll (l.map PyData.int) = 0
  | [] => rfl
  | _ :: l => by
    show max 0 (PyData.depthAll (l.map PyData.int)) = 0
    rw [depth_ints l]
    rfl
theorem lay_ints : ∀ l : List Int, PyData.canLayAll0 (l.map PyData.int) = true
  | [] => rfl
  | m :: l => by
    show (true && PyData.canLayAll0 (l.map PyData.int)) = true
    rw [lay_ints l]
    rfl
theorem shaped_ints (l : List Int) : SeqAt.shaped (.list (l.map PyData.int)) = true := by
  unfold SeqAt.shaped
  simp only [PyData.canLay0, PyData.depth, depth_ints, lay_ints]
  decide
theorem eqv_nil : ∀ l : List Int, PyData.eqv (.list (l.map PyData.int)) (.list []) = decide (l = [])
  | [] => rfl
  | _ :: _ => rfl
section
variable {P : Program} {w : World} {K : PySem.W.Frag} {mg : Str → Option Value} {base : Heap}
theorem PosT.keepD {H H' : Hp} {kd a : Addr} {q : K70.Pos} {kvs : List (K70.Pos × V)} (h : PosT H a q) (d : DictP P w H kd kvs) (k : Keep (fun x => x = kd) H H') : PosT H' a q := by
  obtain ⟨xs, e⟩ := d.some
  exact h.keep fun b ys eb => k.at_ b _ eb (ne_of eb e (fun z => nomatch z))
theorem tupKD {H H' : Hp} {kd a : Addr} {kvs : List (K70.Pos × V)} {xs : List V} (h : SqT K H a xs) (d : DictP P w H kd kvs) (k : Keep (fun x => x = kd) H H') : SqT K H' a xs := by
  obtain ⟨ys, e⟩ := d.some
  exact sqT_keep k h (fun zs ea => ne_of ea e (fun z => nomatch z)) fun o u ea => ne_of ea e (fun z => nomatch z)
theorem DictP.same {H H' : Hp} {kd : Addr} {kvs : List (K70.Pos × V)} (d : DictP P w H kd kvs) (s : Same H H') : DictP P w H' kd kvs := d.keep (fun o e => s _ _ e) fun b xs e => s _ _ e
def lVal (r : Nat) (q : K70.Pos) (c : Nat) : Int := K70.gain r q c + K70.share r (K70.next r q c)
def spLShare (P : Program) (w : World) (K : PySem.W.Frag) (n : Nat) : Sp := fun vs H Q _ => ∃ (d a kd : Addr) (s r : Nat) (q : K70.Pos) (kvs : List (K70.Pos × V)), vs = [.ref d, .ref a, .ref kd] ∧ Deck K H d s r ∧ (0 < r ∧ r ≤ 13) ∧ PosT H a q ∧ PosOk q ∧ K70.Two q ∧ K70.total q < n ∧
  DictP P w H kd kvs ∧ KnownOk r kvs ∧ kvs.length + 2 ^ (K70.total q + 1) ≤ 4000 ∧ ∀ H' kvs', Keep (fun x => x = kd) H H' → DictP P w H' kd kvs' → KnownOk r kvs' → kvs'.length ≤ kvs.length + (2 ^ (K70.total q + 1) - 1) → Q (.int (K70.share r q)) H'
theorem sc_lshare : FnScope ["_law_deck_here", "_law_position", "_law_known", "_law_cards_here", "_law_found", "_law_card", "_law_after", "_law_value"] ["_law_deck_here", "_law_position", "_law_known"] (defScope sLShare) := ⟨rfl, rfl, rfl, by decide +kernel, rfl, by decide +kernel, by decide +kernel⟩
theorem ok_lshare1 {n : Nat} (F : TopFn K mg "_law_share" sLShare ["_law_deck_here", "_law_position", "_law_known"]) (cl : Cal P w K mg base 2 "_law_legal" (spLLegal K)) (cn : Cal P w K mg base 2 "_law_next" (spLNext K)) (cs : Cal P w K mg base (n + 2) "_law_share" (spLShare P w K n))
    (ml : mg "len" = none) (mt : mg "int" = none) (mx : mg "max" = none) (mn : mg "min" = none) : Cal P w K mg base (n + 3) "_law_share" (spLShare P w K (n + 1)) := by
  refine cal F sc_lshare (fun vs H Q E h => ?_) (fun f cdv A outer s H vs Q E hr h => ?_)
  · obtain ⟨d, a, kd, s, r, q, kvs, rfl, _⟩ := h; rfl
  obtain ⟨d, a, kd, s', r, q, kvs, rfl, hd, hr', hp, ok, two, hn, hk, kn, hsz, k⟩ := h
  refine ⟨_, pss_cons (ps_if (pt_cmp (pc_pin hr.units (pv 1) (pv 2))) (pss_one (ps_ret (pe_pget hr.units (pv 2) (pv 1)))) pss_nil)
    (pss_cons (ps_set (i := 3) sc_lshare.nd rfl (.inl rfl) (pe_c cl hr (by omega) (pa_cons (pv 0) (pa_cons (pv 1) pa_nil))))
    (pss_cons (ps_set (i := 4) sc_lshare.nd rfl (.inl rfl) (pe_lst pa_nil))
    (pss_cons (ps_for PassesOwn.never rfl (pi_list (pv 3)) (pg_name (i := 5) sc_lshare.nd rfl (.inl rfl))
      (pss_cons (ps_set (i := 6) sc_lshare.nd rfl (.inl rfl) (pe_c cn hr (by omega) (pa_cons (pv 0) (pa_cons (pv 1) (pa_cons (pv 5) pa_nil)))))
      (pss_one (ps_expr (pe_app (pv 4) (pa_cons (pe_op op_add (pe_callTy call_int1 (by rfl) mt (by decide +kernel) (pa_cons (pe_cmpR op_eq (pe_t (pv 6) pe_int) pe_int (nomark _)) pa_nil)) (pe_c cs hr (by omega) (pa_cons (pv 0) (pa_cons (pe_t (pv 6) pe_int) (pa_cons (pv 2) pa_nil))))) pa_nil))))))
    (pss_cons (ps_set (i := 7) sc_lshare.nd rfl (.inl rfl) pe_int)
    (pss_cons (ps_if (pt_cmpR (op_neD hr.units) (pv 4) (pe_lst pa_nil) (nomark _))
      (pss_one (ps_set (i := 7) sc_lshare.nd rfl (.inl rfl) (pe_l (pe_lst (pa_cons (pe_callB (cr_max (by rfl)) (by rfl) mx (by decide +kernel) (pa_cons (pv 4) pa_nil)) (pa_cons (pe_callB (cr_min (by rfl)) (by rfl) mn (by decide +kernel) (pa_cons (pv 4) pa_nil)) pa_nil))) (pe_op op_modNN (pe_op op_addN (pe_t (pv 1) pe_int) (pe_callB call_len_seq (by rfl) ml PySem.boot_len (pa_cons (pe_t (pv 1) pe_int) pa_nil))) pe_int)))) pss_nil)
    (pss_cons (ps_pput hr.units (pv 2) (pv 1) (pv 7))
    (pss_one (ps_ret (pv 7))))))))), ?_⟩
  have hp1 : 1 ≤ 2 ^ (K70.total q) := Nat.one_le_two_pow
  have hpow : 2 ^ (K70.total q + 1) = 2 * 2 ^ (K70.total q) := by rw [Nat.pow_succ, Nat.mul_comm]
  -- if position in known
  refine ⟨_, rfl, _, rfl, kd, a, q, kvs, rfl, rfl, hp, hk, _, rfl, ?_⟩
  cases hv : valV kvs q with
  | some v =>
    have ev := kn _ _ (valV_mem hv)
    refine iteT ⟨_, rfl, _, rfl, kd, a, q, kvs, v, rfl, rfl, hp, hk, hv, ?_⟩
    rw [ev]
    exact k H kvs Keep.refl hk kn (by omega)
  | none =>
    refine iteF ?_
    have hlegs := two.few ok r
    -- cards = _law_legal(..)
    refine ⟨_, rfl, _, rfl, d, a, s', r, q, rfl, hd, hr', hp, ok, fun l H1 s1 el => ?_⟩
    -- found = []
    refine ⟨Nat.zero_le _, fun fo nfo => ?_⟩
    have s2 := s1.trans (Same.newK (o := .lst []) nfo)
    have el2 := (Same.newK (o := .lst []) nfo) _ _ el
    have ef2 : (upd H1 fo (.lst [])) fo = some (.lst []) := upd_same
    have nfH : H fo = none := s1.free nfo
    generalize upd H1 fo (.lst []) = H2 at s2 el2 ef2
    obtain ⟨xs0, ekd⟩ := hk.some
    have ekd2 := s2 _ _ ekd
    have nlk : l ≠ kd := ne_of el2 ekd2 (fun z => nomatch z)
    have nfk : fo ≠ kd := ne_of ef2 ekd2 (fun z => nomatch z)
    have nlf : l ≠ fo := ne_of_none el nfo
    refine ⟨_, rfl, l, rfl, ⟨_, SqL.of el2⟩, ?_⟩
    refine for_list (K := K) (a := l) (xs := nvs (K70.legal r q)) (fun i σ H' => ∃ kvsi v5 v6 v7, σ = [some (.ref d), some (.ref a), some (.ref kd), some (.ref l), some (.ref fo), v5, v6, v7] ∧ Keep (fun x => x = kd) H H' ∧ DictP P w H' kd kvsi ∧ KnownOk r kvsi ∧
        kvsi.length ≤ kvs.length + i * (2 ^ (K70.total q) - 1) ∧ H' fo = some (.lst ((((K70.legal r q).take i).map (lVal r q)).map V.int)) ∧ H' l = some (.lst (nvs (K70.legal r q))))
      ⟨kvs, none, none, none, rfl, Keep.of_same s2, hk.same s2, kn, by omega, ef2, el2⟩ (fun i σ H' _ ⟨_, _, _, _, _, _, _, _, _, _, e⟩ => SqL.of e) ?_ ?_
    · rintro i x σ H3 hx ⟨kvsi, v5, v6, v7, rfl, k3, hk3, kn3, hl3, ef3, el3⟩
      obtain ⟨c, hci, rfl⟩ := nv_get hx
      have hc : c ∈ K70.legal r q := List.mem_of_getElem? hci
      have hi : i < (K70.legal r q).length := (List.getElem?_eq_some_iff.mp hci).1
      have ht := K70.total_next hc
      have h52 := ok.card hc
      have hd3 : Deck K H3 d s' r := tupKD hd hk k3
      have hp3 := hp.keepD hk k3
      -- after = _law_next(..)
      refine ⟨_, rfl, _, rfl, _, rfl, d, a, s', r, q, c, rfl, hd3, hr', hp3, ok, by omega, fun z H4 s4 hz => ?_⟩
      obtain ⟨b, g, ez, hb, eg⟩ := hz
      have hk4 := hk3.same s4
      refine ⟨_, rfl, .inl ⟨rfl, _, SqL.of (s4 _ _ ef3)⟩, ?_⟩
      refine ⟨_, rfl, z, _, 1, .int g, rfl, rfl, SqT.of ez, atI_nat (j := 1) rfl, rfl, .inr ⟨_, rfl, ?_⟩⟩
      refine ⟨_, rfl, _, rfl, z, _, 0, .ref b, rfl, rfl, SqT.of ez, atI_nat (j := 0) rfl, _, rfl, ?_⟩
      have epow : 2 ^ (K70.total (K70.next r q c) + 1) = 2 ^ (K70.total q) := by rw [ht]
      have hroom : kvsi.length + 2 ^ (K70.total (K70.next r q c) + 1) ≤ 4000 := by
        rw [epow]
        have : (i + 1) * 2 ^ (K70.total q) ≤ 2 * 2 ^ (K70.total q) := Nat.mul_le_mul_right _ (by omega)
        rw [Nat.add_mul, Nat.one_mul] at this
        have h9 : i * (2 ^ (K70.total q) - 1) ≤ i * 2 ^ (K70.total q) := Nat.mul_le_mul_left _ (Nat.sub_le _ _)
        omega
      refine ⟨d, b, kd, s', r, K70.next r q c, kvsi, rfl, s4.tupK hd3, hr', hb, ok.next hc, two.next ok hc, by omega, hk4, kn3, hroom, fun H5 kvs5 k5 hk5 kn5 hl5 => ?_⟩
      have ef5 := k5.at_ _ _ (s4 _ _ ef3) nfk
      have el5 := k5.at_ _ _ (s4 _ _ el3) nlk
      refine ⟨_, _, rfl, rfl, fo, _, _, rfl, rfl, ef5, ?_, ?_⟩
      · rw [List.length_map, List.length_map, List.length_take]
        exact small1000 (by omega)
      refine ⟨kvs5, some (nv c), some (.ref z), v7, rfl, ?_, hk5.keep (fun o e => by rw [upd_ne nfk.symm]; exact e) (fun b ys eb => by rw [upd_ne (ne_of eb ef5 (fun z => nomatch z))]; exact eb), kn5, ?_, ?_, ?_⟩
      · exact ((k3.same s4).trans k5 fun x e => .inl e).mut (.inr nfH)
      · rw [epow] at hl5
        rw [Nat.add_mul, Nat.one_mul]
        omega
      · rw [upd_same, List.take_add_one, hci]
        have e1 : (if decide (V.int g = V.int 0) = true then (1 : Int) else 0) = K70.gain r q c := by
          rw [eg, dec_vint]
          by_cases e : g = 0
          · rw [if_pos e, decide_eq_true e]; rfl
          · rw [if_neg e, decide_eq_false e]; rfl
        show some (HO.lst (_ ++ [V.int ((if decide (V.int g = V.int 0) = true then (1 : Int) else 0) + K70.share r (K70.next r q c))])) = _
        rw [e1]
        show some (HO.lst _) = some (HO.lst ((List.map (lVal r q) (List.take i (K70.legal r q) ++ [c])).map V.int))
        rw [List.map_append, List.map_append]
        rfl
      · rw [upd_ne nlf]; exact el5
    · rintro σ H3 ⟨kvs3, v5, v6, v7, rfl, k3, hk3, kn3, hl3, ef3, el3⟩
      rw [nvs_len] at hl3
      rw [nvs_len, List.take_length] at ef3
      have hl3' : kvs3.length ≤ kvs.length + 2 * (2 ^ (K70.total q) - 1) := Nat.le_trans hl3 (Nat.add_le_add_left (Nat.mul_le_mul_right _ hlegs) _)
      have hp3 := hp.keepD hk k3
      -- the end, wherever the value stands
      have fin : ∀ (H4 : Hp), Same H3 H4 → ∃ b qq kk, (V.ref a : V) = .ref b ∧ PosT H4 b qq ∧ DictP P w H4 kd kk ∧ kk.length < sizeLine ∧ ∀ H5, (∃ o, H5 = upd H4 kd o) → DictP P w H5 kd (putK kk qq (.int (K70.share r q))) → Q (.int (K70.share r q)) H5 := fun H4 s4 => by
        refine ⟨a, q, kvs3, rfl, hp3.keep fun b ys e => s4 _ _ e, hk3.same s4, small64' (by omega), fun H5 ⟨o, e5⟩ d5 => ?_⟩
        subst e5
        refine k _ _ ((k3.same s4).mut (.inl rfl)) d5 (kn3.put q) ?_
        have := length_putK kvs3 q (.int (K70.share r q))
        omega
      -- value = 0; if found != []
      refine ⟨_, rfl, Nat.zero_le _, fun e ne => ?_⟩
      have s4 : Same H3 (upd H3 e (.lst [])) := Same.newK ne
      have ee : (upd H3 e (.lst [])) e = some (.lst []) := upd_same
      have ef4 := s4 _ _ ef3
      generalize upd H3 e (.lst []) = H4 at s4 ee ef4
      refine ⟨_, _, .lst (SqL.of ef4) (dpI_all _), .lst (SqL.of ee) .nil, shaped_ints _, shaped_ints [], _, rfl, ?_⟩
      rw [eqv_nil]
      by_cases hnil : K70.legal r q = []
      · have e0 : (K70.legal r q).map (lVal r q) = [] := by rw [hnil]; rfl
        rw [decide_eq_true e0]
        refine iteF ?_
        have ev : K70.share r q = 0 := by rw [K70.share_eq, hnil]; rfl
        obtain ⟨b, qq, kk, g1, g2, g3, g4, g5⟩ := fin H4 s4
        rw [ev] at g5
        exact ⟨_, rfl, _, rfl, _, rfl, kd, b, qq, kk, rfl, g1, g2, g3, g4, fun H5 e5 d5 => ⟨_, rfl, g5 H5 e5 d5⟩⟩
      · have e0 : ¬ (K70.legal r q).map (lVal r q) = [] := fun z => hnil (List.map_eq_nil_iff.mp z)
        have e1 : 0 < ((K70.legal r q).map (lVal r q)).length := List.length_pos_iff.mpr e0
        rw [decide_eq_false e0]
        refine iteT ?_
        refine ⟨_, rfl, fo, _, rfl, SqL.of ef4, e1, fun m1 hm1 hb1 => ?_⟩
        refine ⟨_, rfl, fo, _, rfl, SqL.of ef4, e1, fun m2 hm2 hb2 => ⟨(by show 2 ≤ sizeLine; decide), fun z nz => ?_⟩⟩
        have s5 := s4.trans (Same.newK (o := .lst [.int m1, .int m2]) nz)
        have ez : (upd H4 z (.lst [.int m1, .int m2])) z = some (.lst [.int m1, .int m2]) := upd_same
        generalize upd H4 z (.lst [.int m1, .int m2]) = H5 at s5 ez
        obtain ⟨ha, la, p1, p2, p3⟩ := hp3
        refine ⟨_, rfl, a, _, 2, nv q.leader, rfl, rfl, SqT.of (s5 _ _ p1), atI_nat (j := 2) rfl, _, rfl, a, _, 3, .ref la, rfl, rfl, SqT.of (s5 _ _ p1), atI_nat (j := 3) rfl, la, _, rfl, .inr (SqT.of (s5 _ _ p3)), q.leader, q.led.length, rfl, by rw [nvs_len], q.leader + q.led.length, 2, rfl, rfl, (by show 0 < 2; decide), ?_⟩
        obtain ⟨b, qq, kk, g1, g2, g3, g4, g5⟩ := fin H5 s5
        have x1 : K70.ext true ((K70.legal r q).map (lVal r q)) = m1 := K70.IsExt.eq (b := true) ⟨hm1, fun y hy => hb1 y hy⟩
        have x2 : K70.ext false ((K70.legal r q).map (lVal r q)) = m2 := K70.IsExt.eq (b := false) ⟨hm2, fun y hy => hb2 y hy⟩
        have hmv : K70.mover q % 2 = (q.leader + q.led.length) % 2 := by unfold K70.mover; omega
        have hsh := K70.share_eq r q
        by_cases par : (q.leader + q.led.length) % 2 = 0
        · have ev : m1 = K70.share r q := by
            rw [hsh, hmv, par]
            exact x1.symm
          refine ⟨z, _, 0, .int m1, rfl, (by show nv ((q.leader + q.led.length) % 2) = _; rw [par]; rfl), SqL.of ez, atI_nat (j := 0) rfl, ?_⟩
          rw [ev]
          exact ⟨_, rfl, _, rfl, _, rfl, kd, b, qq, kk, rfl, g1, g2, g3, g4, fun H5 e5 d5 => ⟨_, rfl, g5 H5 e5 d5⟩⟩
        · have par1 : (q.leader + q.led.length) % 2 = 1 := by omega
          have ev : m2 = K70.share r q := by
            rw [hsh, hmv, par1]
            exact x2.symm
          refine ⟨z, _, 1, .int m2, rfl, (by show nv ((q.leader + q.led.length) % 2) = _; rw [par1]; rfl), SqL.of ez, atI_nat (j := 1) rfl, ?_⟩
          rw [ev]
          exact ⟨_, rfl, _, rfl, _, rfl, kd, b, qq, kk, rfl, g1, g2, g3, g4, fun H5 e5 d5 => ⟨_, rfl, g5 H5 e5 d5⟩⟩
theorem ok_lshare (F : TopFn K mg "_law_share" sLShare ["_law_deck_here", "_law_position", "_law_known"]) (cl : Cal P w K mg base 2 "_law_legal" (spLLegal K)) (cn : Cal P w K mg base 2 "_law_next" (spLNext K))
    (ml : mg "len" = none) (mt : mg "int" = none) (mx : mg "max" = none) (mn : mg "min" = none) : ∀ n : Nat, Cal P w K mg base (n + 2) "_law_share" (spLShare P w K n)
  | 0 => Cal.mono (cal_never F fun vs H Q E h => by
      obtain ⟨_, _, _, _, _, _, _, _, _, _, _, _, _, h, _⟩ := h
      omega) (Nat.zero_le _)
  | n + 1 => ok_lshare1 F cl cn (ok_lshare F cl cn ml mt mx mn n) ml mt mx mn
theorem sc_lside : FnScope ["_law_deck_here", "_law_position", "_law_side", "_law_known", "_law_value"] ["_law_deck_here", "_law_position", "_law_side", "_law_known"] (defScope sLSide) := ⟨rfl, rfl, rfl, by decide +kernel, rfl, by decide +kernel, by decide +kernel⟩
def spLSide (P : Program) (w : World) (K : PySem.W.Frag) : Sp := fun vs H Q _ => ∃ (d a kd : Addr) (s r : Nat) (q : K70.Pos), vs = [.ref d, .ref a, .int 0, .ref kd] ∧ Deck K H d s r ∧ (0 < r ∧ r ≤ 13) ∧ PosT H a q ∧ PosOk q ∧ K70.Two q ∧ K70.total q ≤ 8 ∧
  DictP P w H kd [] ∧ ∀ H', Keep (fun x => x = kd) H H' → Q (.int (K70.share r q)) H'
theorem ok_lside (F : TopFn K mg "_law_side_share" sLSide ["_law_deck_here", "_law_position", "_law_side", "_law_known"]) (cs : Cal P w K mg base 11 "_law_share" (spLShare P w K 9)) (cl : Cal P w K mg base 2 "_law_left" spLLeft) : Cal P w K mg base 12 "_law_side_share" (spLSide P w K) := by
  refine cal F sc_lside (fun vs H Q E h => ?_) (fun f cdv A outer s H vs Q E hr h => ?_)
  · obtain ⟨d, a, kd, s, r, q, rfl, _⟩ := h; rfl
  obtain ⟨d, a, kd, s', r, q, rfl, hd, hr', hp, ok, two, h8, hk, k⟩ := h
  refine ⟨_, pss_cons (ps_set (i := 4) sc_lside.nd rfl (.inl rfl) (pe_c cs hr (by decide) (pa_cons (pv 0) (pa_cons (pv 1) (pa_cons (pv 3) pa_nil)))))
    (pss_one (ps_ret (pe_l (pe_lst (pa_cons (pv 4) (pa_cons (pe_op op_sub (pe_c cl hr (by decide) (pa_cons (pv 1) pa_nil)) (pv 4)) pa_nil))) (pv 2)))), ?_⟩
  have hpow : 2 ^ (K70.total q + 1) ≤ 2 ^ 9 := Nat.pow_le_pow_right (by decide) (by omega)
  refine ⟨_, rfl, _, rfl, _, rfl, d, a, kd, s', r, q, [], rfl, hd, hr', hp, ok, two, by omega, hk, (fun q v m => nomatch m), ?_, fun H1 kvs1 k1 hk1 _ _ => ?_⟩
  · show 0 + 2 ^ (K70.total q + 1) ≤ 4000
    have : (2 : Nat) ^ 9 = 512 := by decide
    omega
  refine ⟨_, rfl, _, rfl, a, q, rfl, hp.keepD hk k1, ok, fun H2 s2 => ?_⟩
  refine ⟨_, rfl, _, _, rfl, rfl, (by show 2 ≤ sizeLine; decide), fun z nz => ?_⟩
  refine ⟨_, rfl, z, _, 0, .int (K70.share r q), rfl, rfl, SqL.of upd_same, atI_nat (j := 0) rfl, ?_⟩
  exact k _ (k1.same (s2.trans (Same.newK nz)))
end
end KW

/-! the law's own deals -/
namespace KW
open PySem PySem.Spec PyProof.Rows L2
open K70 (PosOk DealOk Dealing)
abbrev sLDeal : Stmt := topS 42
abbrev sLAny : Stmt := topS 54
abbrev sLStarted : Stmt := topS 55
abbrev sLOrders : Stmt := topS 56
section
variable {P : Program} {w : World} {K : PySem.W.Frag} {mg : Str → Option Value} {base : Heap}
theorem rgV_nvs (n : Nat) : rgV 0 (n : Int) = nvs (List.range n) := by
  unfold rgV
  rw [show ((n : Int) - 0).toNat = n by omega]
  refine List.map_congr_left fun i _ => ?_
  rw [Int.zero_add]
theorem nvs_erase (l : List Nat) (i : Nat) : (nvs l).eraseIdx i = nvs (l.eraseIdx i) := by
  induction l generalizing i with
  | nil => rfl
  | cons x r ih =>
    cases i with
    | zero => rfl
    | succ i => exact congrArg (nv x :: ·) (ih i)
theorem sc_ldeal : FnScope ["_law_numbers_here", "_law_suits", "_law_ranks", "_law_size", "_law_left_here", "_law_hands", "_law_k", "_law_number"] ["_law_numbers_here", "_law_suits", "_law_ranks", "_law_size"] (defScope sLDeal) := ⟨rfl, rfl, rfl, by decide +kernel, rfl, by decide +kernel, by decide +kernel⟩
def spLDeal (K : PySem.W.Frag) : Sp := fun vs H Q _ => ∃ (a : Addr) (s r size : Nat) (ns : List Nat), vs = [.ref a, nv s, nv r, nv size] ∧ SqL K H a (nvs ns) ∧ ns.length ≤ 1000 ∧ 1 ≤ s ∧ s ≤ 4 ∧ 1 ≤ r ∧ r ≤ 13 ∧ 0 < size ∧ 4 * size ≤ s * r ∧
  ∀ p H' hs, Same H H' → H' p = some (.tup (nvs hs)) → DealOk s r hs size → Q (.ref p) H'
theorem ok_ldeal (F : TopFn K mg "_law_deal" sLDeal ["_law_numbers_here", "_law_suits", "_law_ranks", "_law_size"]) (mr : mg "range" = none) (ml : mg "len" = none) (mli : mg "list" = none) (mt : mg "int" = none) : Cal P w K mg base 1 "_law_deal" (spLDeal K) := by
  refine cal F sc_ldeal (fun vs H Q E h => ?_) (fun f cdv A outer s H vs Q E hr h => ?_)
  · obtain ⟨a, s, r, size, ns, rfl, _⟩ := h; rfl
  obtain ⟨a, s', r, size, ns, rfl, hS, hnl, hs1, hs4, hr1, hr13, hsz, hfit, k⟩ := h
  refine ⟨_, pss_cons (ps_set (i := 4) sc_ldeal.nd rfl (.inl rfl) (pe_listRg (by rfl) (by rfl) mli (prg_1 (by rfl) mr (pe_op op_mulN (pv 1) (pv 2)))))
    (pss_cons (ps_set (i := 5) sc_ldeal.nd rfl (.inl rfl) (pe_lst (pa_cons pe_int (pa_cons pe_int (pa_cons pe_int (pa_cons pe_int pa_nil))))))
    (pss_cons (ps_for PassesOwn.never rfl (pi_range1 rfl mr (pa_cons (pe_op op_mulN pe_int (pv 3)) pa_nil)) (pg_name (i := 6) sc_ldeal.nd rfl (.inl rfl))
      (pss_cons (ps_set (i := 7) sc_ldeal.nd rfl (.inl rfl) pe_int)
      (pss_cons (ps_if (pt_cmpR op_ltN (pv 6) (pe_callB call_len_seq (by rfl) ml PySem.boot_len (pa_cons (pv 0) pa_nil)) (nomark _))
        (pss_one (ps_set (i := 7) sc_ldeal.nd rfl (.inl rfl) (pe_callTy call_int1 (by rfl) mt (by decide +kernel) (pa_cons (pe_l (pv 0) (pv 6)) pa_nil)))) pss_nil)
      (pss_one (ps_asg (pe_op op_orN (pe_l (pv 5) (pe_op op_modNN (pv 6) pe_int)) (pe_op op_shlN pe_int (pe_bm PySem.F.plainAttrs_list PySem.F.slot_list_pop PySem.F.type_list_pop mt_popAt (pv 4) (pa_cons (pe_op op_modNN (pv 7) (pe_callB call_len_seq (by rfl) ml PySem.boot_len (pa_cons (pv 4) pa_nil))) pa_nil))))
        (pg_sub (pv 5) (pe_op op_modNN (pv 6) pe_int) set_list))))))
    (pss_one (ps_ret (pe_tup (pa_cons (pe_l (pv 5) pe_int) (pa_cons (pe_l (pv 5) pe_int) (pa_cons (pe_l (pv 5) pe_int) (pa_cons (pe_l (pv 5) pe_int) pa_nil))))))))), ?_⟩
  have hsr : s' * r ≤ 52 := Nat.mul_le_mul hs4 hr13
  refine ⟨_, rfl, _, rfl, s', r, rfl, rfl, Nat.lt_of_le_of_lt hs4 (by decide), ((s' * r : Nat) : Int), rfl, RgOk.of_le (by decide) (by omega) (by decide) (by omega), fun p np => ?_⟩
  rw [rgV_nvs]
  have s1 : Same H (upd H p (.lst (nvs (List.range (s' * r))))) := Same.newK np
  have ep : (upd H p (.lst (nvs (List.range (s' * r))))) p = some (.lst (nvs (List.range (s' * r)))) := upd_same
  generalize upd H p (.lst (nvs (List.range (s' * r)))) = H1 at s1 ep
  refine ⟨(by show 4 ≤ sizeLine; decide), fun h nh => ?_⟩
  have s2 := s1.trans (Same.newK (o := .lst [.int 0, .int 0, .int 0, .int 0]) nh)
  have ep2 := (Same.newK (o := .lst [.int 0, .int 0, .int 0, .int 0]) nh) _ _ ep
  have eh2 : (upd H1 h (.lst [.int 0, .int 0, .int 0, .int 0])) h = some (.lst (nvs [0, 0, 0, 0])) := upd_same
  have nph : p ≠ h := ne_of_none ep nh
  have nhH : H h = none := s1.free nh
  generalize upd H1 h (.lst [.int 0, .int 0, .int 0, .int 0]) = H2 at s2 ep2 eh2
  refine ⟨_, rfl, 4, size, rfl, rfl, (by show 4 < 2 ^ 60; decide), ((4 * size : Nat) : Int), rfl, by omega, by omega, ?_⟩
  refine for_range (lo := 0) (fun i σ H' => ∃ v6 v7 L hs, σ = [some (.ref a), some (nv s'), some (nv r), some (nv size), some (.ref p), some (.ref h), v6, v7] ∧ Same H H' ∧ H' p = some (.lst (nvs L)) ∧ H' h = some (.lst (nvs hs)) ∧ Dealing (s' * r) i L hs)
    ⟨none, none, _, _, rfl, s2, ep2, eh2, K70.dealing_start _⟩ ?_ ?_
  · rintro i σ H3 hi ⟨v6, v7, L, hs, rfl, s3, ep3, eh3, dl⟩
    have hi' : i < 4 * size := by omega
    have hL : 0 < L.length := by have := dl.ln; omega
    have h4 : i % 4 < hs.length := by rw [dl.len]; exact Nat.mod_lt _ (by decide)
    have hg4 : hs[i % 4]? = some (hs.getD (i % 4) 0) := by rw [List.getD_eq_getElem?_getD, List.getElem?_eq_getElem h4]; rfl
    have go : ∀ n : Nat, ∀ v6 : Option V, v6 = some (V.int (0 + (i : Int))) → ∀ W : L2.St → Hp → Prop, (∀ v6 v7 L hs H', Same H H' → H' p = some (.lst (nvs L)) → H' h = some (.lst (nvs hs)) → Dealing (s' * r) (i + 1) L hs → W [some (.ref a), some (nv s'), some (nv r), some (nv size), some (.ref p), some (.ref h), v6, v7] H') →
        W [some (.ref a), some (nv s'), some (nv r), some (nv size), some (.ref p), some (.ref h), v6, some (nv n)] (upd (upd H3 p (.lst ((nvs L).eraseIdx (n % L.length)))) h (.lst ((nvs hs).set (i % 4) (nv (hs.getD (i % 4) 0 ||| 1 <<< L.getD (n % L.length) 0))))) := fun n v6 _ W hW => by
      have hc : L[n % L.length]? = some (L.getD (n % L.length) 0) := by rw [List.getD_eq_getElem?_getD, List.getElem?_eq_getElem (Nat.mod_lt _ hL)]; rfl
      refine hW _ _ (L.eraseIdx (n % L.length)) (hs.set (i % 4) (hs.getD (i % 4) 0 ||| 1 <<< L.getD (n % L.length) 0)) _ ((s3.mutK np).mutK nhH) ?_ ?_ (dl.step hc)
      · rw [upd_ne nph, upd_same, nvs_erase]
      · rw [upd_same, ← List.map_set]
    have eh3' : ∀ X, (upd H3 p X) h = some (.lst (nvs hs)) := fun X => by rw [upd_ne nph.symm]; exact eh3
    have gt : ∀ n : Nat, (nvs L)[n % L.length]? = some (nv (L.getD (n % L.length) 0)) := fun n => nvs_at (by rw [List.getD_eq_getElem?_getD, List.getElem?_eq_getElem (Nat.mod_lt _ hL)]; rfl)
    have h64 : ∀ n : Nat, L.getD (n % L.length) 0 ≤ 1000000 := fun n => by
      have : L.getD (n % L.length) 0 ∈ L := K70.getD_mem (Nat.mod_lt _ hL)
      have := dl.lt _ this
      omega
    have six : ∀ n : Nat, seqIndex? ((n % L.length : Nat) : Int) (nvs L).length = some (n % L.length) := fun n => by
      rw [nvs_len, seqIndex_of (by omega) (by have := Nat.mod_lt n hL; omega)]
      rfl
    have bnd : ∀ n : Nat, ((n % L.length : Nat) : Int) < 2 ^ 63 := fun n => by
      have := Nat.mod_lt n hL
      have := dl.ln
      omega
    have ei : V.int (0 + (i : Int)) = nv i := by rw [Int.zero_add]
    refine ⟨_, rfl, _, rfl, a, _, rfl, .inl (s3.seq hS), i, ns.length, ei, by rw [nvs_len], _, rfl, ?_⟩
    refine ite2 (fun e => ?_) (fun e => ?_)
    · have hi2 : i < ns.length := of_decide_eq_true e
      have hg : (nvs ns)[i]? = some (nv ns[i]) := by rw [List.getElem?_map, List.getElem?_eq_getElem hi2]; rfl
      refine ⟨_, rfl, _, rfl, a, _, _, _, rfl, ei.trans rfl, s3.seq hS, atI_nat hg, .inl ⟨_, rfl, ?_⟩⟩
      generalize ns[i] = n
      refine ⟨_, rfl, _, rfl, i, 4, ei.trans rfl, rfl, (by show 0 < 4; decide), h, _, _, _, rfl, rfl, SqL.of eh3, atI_nat (nvs_at hg4), ?_⟩
      refine ⟨_, rfl, .inl ⟨rfl, _, SqL.of ep3⟩, _, rfl, _, rfl, p, _, rfl, .inl (SqL.of ep3), n, L.length, rfl, by rw [nvs_len], hL, ?_⟩
      refine ⟨p, _, _, _, _, rfl, rfl, ep3, by omega, bnd n, six n, gt n, 1, _, rfl, rfl, ⟨by decide, h64 n⟩, _, _, rfl, rfl, ?_⟩
      refine ⟨_, rfl, _, rfl, i, 4, ei.trans rfl, rfl, (by show 0 < 4; decide), h, _, _, _, rfl, rfl, eh3' _, ixn (by rw [nvs_len]; exact h4), ?_⟩
      exact go n _ rfl (fun σ H' => ∃ v6 v7 L hs, σ = [some (.ref a), some (nv s'), some (nv r), some (nv size), some (.ref p), some (.ref h), v6, v7] ∧ Same H H' ∧ H' p = some (.lst (nvs L)) ∧ H' h = some (.lst (nvs hs)) ∧ Dealing (s' * r) (i + 1) L hs) fun v6 v7 L hs H' a1 a2 a3 a4 => ⟨v6, v7, L, hs, rfl, a1, a2, a3, a4⟩
    · refine ⟨_, rfl, _, rfl, i, 4, ei.trans rfl, rfl, (by show 0 < 4; decide), h, _, _, _, rfl, rfl, SqL.of eh3, atI_nat (nvs_at hg4), ?_⟩
      refine ⟨_, rfl, .inl ⟨rfl, _, SqL.of ep3⟩, _, rfl, _, rfl, p, _, rfl, .inl (SqL.of ep3), 0, L.length, rfl, by rw [nvs_len], hL, ?_⟩
      refine ⟨p, _, _, _, _, rfl, rfl, ep3, by omega, bnd 0, six 0, gt 0, 1, _, rfl, rfl, ⟨by decide, h64 0⟩, _, _, rfl, rfl, ?_⟩
      refine ⟨_, rfl, _, rfl, i, 4, ei.trans rfl, rfl, (by show 0 < 4; decide), h, _, _, _, rfl, rfl, eh3' _, ixn (by rw [nvs_len]; exact h4), ?_⟩
      exact go 0 _ rfl (fun σ H' => ∃ v6 v7 L hs, σ = [some (.ref a), some (nv s'), some (nv r), some (nv size), some (.ref p), some (.ref h), v6, v7] ∧ Same H H' ∧ H' p = some (.lst (nvs L)) ∧ H' h = some (.lst (nvs hs)) ∧ Dealing (s' * r) (i + 1) L hs) fun v6 v7 L hs H' a1 a2 a3 a4 => ⟨v6, v7, L, hs, rfl, a1, a2, a3, a4⟩
  · rintro σ H3 ⟨v6, v7, L, hs, rfl, s3, ep3, eh3, dl⟩
    have e4 : (((4 * size : Nat) : Int)).toNat = 4 * size := by omega
    rw [e4] at dl
    have ok := dl.ok hs1 hs4 hr1 hr13 hsz
    obtain ⟨m0, m1, m2, m3, rfl⟩ := four dl.len
    refine ⟨_, rfl, h, _, 0, nv m0, rfl, rfl, SqL.of eh3, atI_nat (j := 0) rfl, _, rfl, h, _, 1, nv m1, rfl, rfl, SqL.of eh3, atI_nat (j := 1) rfl, _, rfl, h, _, 2, nv m2, rfl, rfl, SqL.of eh3, atI_nat (j := 2) rfl, _, rfl, h, _, 3, nv m3, rfl, rfl, SqL.of eh3, atI_nat (j := 3) rfl, (by show 4 ≤ sizeLine; decide), fun t nt => ?_⟩
    exact k t _ _ (s3.trans (Same.newK nt)) upd_same ok
end
end KW

/-! the law's own deals: drawn -/
namespace KW
open PySem PySem.Spec PyProof.Rows L2
open K70 (PosOk DealOk Dealing)
section
variable {P : Program} {w : World} {K : PySem.W.Frag} {mg : Str → Option Value} {base : Heap}
theorem PoolAt.upd {H : Hp} {p a q : Addr} {l : List Nat} {n : Nat} {o : HO} (h : PoolAt H p a l n) (hq : H q = none) : PoolAt (upd H q o) p a l n := h.same (Same.newK hq)
theorem PoolAt.ntup {H : Hp} {p a b : Addr} {l : List Nat} {n : Nat} {xs : List V} (h : PoolAt H p b l n) (e : H a = some (.tup xs)) : a ≠ p := ne_of e h.1 (fun z => nomatch z)
theorem tupKP {H H' : Hp} {p a b : Addr} {l : List Nat} {n : Nat} {xs : List V} (e : H a = some (.tup xs)) (h : PoolAt H p b l n) (k : Keep (fun x => x = p) H H') : H' a = some (.tup xs) := k.at_ _ _ e (h.ntup e)
theorem sc_lany : FnScope ["_law_pool_here", "_law_most", "_law_size", "_law_deck_here", "_law_numbers_here", "_law_k"] ["_law_pool_here", "_law_most"] (defScope sLAny) := ⟨rfl, rfl, rfl, by decide +kernel, rfl, by decide +kernel, by decide +kernel⟩
def spLAny : Sp := fun vs H Q _ => ∃ (p a : Addr) (l : List Nat) (n most : Nat), vs = [.ref p, nv most] ∧ PoolAt H p a l n ∧ n ≤ 1000 ∧ 0 < most ∧ most ≤ 2 ∧
  ∀ z d h H' s r hs size n', H' z = some (.tup [.ref d, .ref h]) → H' d = some (.tup [nv s, nv r]) → H' h = some (.tup (nvs hs)) → DealOk s r hs size → s ≤ 3 → size ≤ 2 → Keep (fun x => x = p) H H' → PoolAt H' p a l n' → n' ≤ n + 20 → Q (.ref z) H'
theorem ok_lany (F : TopFn K mg "_law_any_deal" sLAny ["_law_pool_here", "_law_most"]) (cp : Cal P w K mg base 1 "_law_pick" spLPick) (cd : Cal P w K mg base 1 "_law_deck" spLDeck) (cl : Cal P w K mg base 1 "_law_deal" (spLDeal K)) (mr : mg "range" = none) : Cal P w K mg base 2 "_law_any_deal" spLAny := by
  refine cal F sc_lany (fun vs H Q E h => ?_) (fun f cdv A outer s H vs Q E hr h => ?_)
  · obtain ⟨p, a, l, n, most, rfl, _⟩ := h; rfl
  obtain ⟨p, a, pl, n, most, rfl, hp, hn, hm0, hm2, k⟩ := h
  refine ⟨_, pss_cons (ps_set (i := 2) sc_lany.nd rfl (.inl rfl) (pe_op op_addN pe_int (pe_c cp hr (by decide) (pa_cons (pv 0) (pa_cons (pv 1) pa_nil)))))
    (pss_cons (ps_set (i := 3) sc_lany.nd rfl (.inl rfl) (pe_c cd hr (by decide) (pa_cons (pe_c cp hr (by decide) (pa_cons (pv 0) (pa_cons pe_int pa_nil))) (pa_cons (pv 2) pa_nil))))
    (pss_cons (ps_setLc (i := 4) (own := [("_law_k", 5)]) (g := gName 5) (tt := tYes) rfl sc_lany.nd rfl rfl (sw_true rfl rfl rfl (by decide +kernel)) (pi_range1 rfl mr (pa_cons (pe_op op_mulN pe_int (pv 2)) pa_nil)) (blkOk_by (own := [("_law_k", 5)]) (N := ["_law_pool_here", "_law_most", "_law_size", "_law_deck_here", "_law_numbers_here", "_law_k"]) (sc := defScope sLAny) (by decide +kernel))
        (fun _ _ _ _ _ => pg_name (i := 5) sc_lany.nd rfl (Or.inl rfl)) (fun _ _ _ _ _ => pts_nil) (fun _ _ _ _ _ => pe_c cp hr (by decide) (pa_cons (pv 0) (pa_cons pe_int pa_nil))))
    (pss_one (ps_ret (pe_tup (pa_cons (pv 3) (pa_cons (pe_c cl hr (by decide) (pa_cons (pv 4) (pa_cons (pe_t (pv 3) pe_int) (pa_cons (pe_t (pv 3) pe_int) (pa_cons (pv 2) pa_nil))))) pa_nil))))))), ?_⟩
  -- size
  refine ⟨_, rfl, _, rfl, p, a, pl, n, most, rfl, hp, by omega, hm0, fun x1 H1 hx1 k1 p1 => ?_⟩
  refine ⟨1, x1, rfl, rfl, ?_⟩
  -- deck
  refine ⟨_, rfl, p, a, pl, n + 1, 24, rfl, p1, by omega, by decide, fun x2 H2 hx2 k2 p2 => ?_⟩
  have k12 : Keep (fun x => x = p) H H2 := k1.trans k2 fun x e => .inl e
  refine ⟨_, rfl, x2, 1 + x1, rfl, by omega, fun d nd => ?_⟩
  have e2 : (upd H2 d (.tup [nv (1 + x2 % 3), nv ((4 * (1 + x1) + (1 + x2 % 3) - 1) / (1 + x2 % 3) + x2 / 3 % 2)])) d = some (.tup [nv (1 + x2 % 3), nv ((4 * (1 + x1) + (1 + x2 % 3) - 1) / (1 + x2 % 3) + x2 / 3 % 2)]) := upd_same
  have k3 : Keep (fun x => x = p) H (upd H2 d (.tup [nv (1 + x2 % 3), nv ((4 * (1 + x1) + (1 + x2 % 3) - 1) / (1 + x2 % 3) + x2 / 3 % 2)])) := k12.new nd
  have p3 := p2.upd (o := .tup [nv (1 + x2 % 3), nv ((4 * (1 + x1) + (1 + x2 % 3) - 1) / (1 + x2 % 3) + x2 / 3 % 2)]) nd
  have b1 : 4 * (1 + x1) ≤ (1 + x2 % 3) * ((4 * (1 + x1) + (1 + x2 % 3) - 1) / (1 + x2 % 3) + x2 / 3 % 2) := by
    have h3 : x2 % 3 = 0 ∨ x2 % 3 = 1 ∨ x2 % 3 = 2 := by omega
    rcases h3 with e | e | e <;> rw [e] <;> omega
  have b2 : (4 * (1 + x1) + (1 + x2 % 3) - 1) / (1 + x2 % 3) + x2 / 3 % 2 ≤ 13 := by
    have h3 : x2 % 3 = 0 ∨ x2 % 3 = 1 ∨ x2 % 3 = 2 := by omega
    rcases h3 with e | e | e <;> rw [e] <;> omega
  have b3 : 1 ≤ (4 * (1 + x1) + (1 + x2 % 3) - 1) / (1 + x2 % 3) + x2 / 3 % 2 := by
    have h3 : x2 % 3 = 0 ∨ x2 % 3 = 1 ∨ x2 % 3 = 2 := by omega
    rcases h3 with e | e | e <;> rw [e] <;> omega
  have b4 : 1 + x2 % 3 ≤ 3 := by omega
  have b5 : 1 ≤ 1 + x2 % 3 := by omega
  generalize upd H2 d (.tup [nv (1 + x2 % 3), nv ((4 * (1 + x1) + (1 + x2 % 3) - 1) / (1 + x2 % 3) + x2 / 3 % 2)]) = H3 at e2 k3 p3
  generalize hrr : (4 * (1 + x1) + (1 + x2 % 3) - 1) / (1 + x2 % 3) + x2 / 3 % 2 = rr at e2 b1 b2 b3
  generalize hss : 1 + x2 % 3 = ss at e2 b1 b4 b5
  -- numbers
  refine ⟨_, rfl, 4, 1 + x1, rfl, rfl, (by show 4 < 2 ^ 60; decide), ((4 * (1 + x1) : Nat) : Int), rfl, by omega, by omega, fun D nD => ?_⟩
  have hDp : D ≠ p := (ne_of_none p3.1 nD).symm
  have hDa : D ≠ a := (ne_of_none p3.2.1 nD).symm
  have k3' : Keep (fun x => x = p) H3 (upd H3 D (.lst [])) := Keep.refl.new nD
  refine lc_range (lo := 0) (fun i H' => Keep (fun x => x = p) H3 H' ∧ PoolAt H' p a pl (n + 1 + 1 + i) ∧ ∃ l : List Nat, l.length = i ∧ H' D = some (.lst (nvs l))) ⟨k3', p3.upd nD, [], rfl, upd_same⟩ (fun i H' hi hP => ?_) (fun H' hP => ?_)
  · obtain ⟨ki, pi, l, hl, eD⟩ := hP
    have hi' : i < 8 := by omega
    refine ⟨rfl, _, rfl, p, a, pl, _, 4096, rfl, pi, by omega, by decide, fun x H4 hx k4 p4 => ?_⟩
    have eD4 := k4.at_ _ _ eD hDp
    refine ⟨_, eD4, (by rw [nvs_len]; exact small64' (by omega)), ?_, ?_, l ++ [x], ?_, ?_⟩
    · exact (ki.trans k4 fun x e => .inl e).mut (.inr nD)
    · obtain ⟨q1, q2, q3⟩ := p4
      refine ⟨?_, ?_, q3⟩
      · rw [upd_ne hDp.symm]; exact q1
      · rw [upd_ne hDa.symm]; exact q2
    · rw [List.length_append, hl]; rfl
    · rw [upd_same]
      exact congrArg (fun z => some (HO.lst z)) (List.map_append (f := nv) (l₂ := [x])).symm
  · obtain ⟨ki, pi, l, hl, eD⟩ := hP
    have e4 := tupKP e2 p3 ki
    have kT := k3.trans ki fun x e => .inl e
    refine ⟨_, rfl, _, rfl, _, rfl, d, _, 0, nv ss, rfl, rfl, SqT.of e4, atI_nat (j := 0) rfl, _, rfl, d, _, 1, nv rr, rfl, rfl, SqT.of e4, atI_nat (j := 1) rfl, _, rfl, D, ss, rr, 1 + x1, l, rfl, SqL.of eD, by omega, b5, by omega, b3, b2, by omega, b1, fun h H5 hs s5 eh ok => ?_⟩
    refine ⟨(by show 2 ≤ sizeLine; decide), fun z nz => ?_⟩
    have s6 := s5.trans (Same.newK (o := .tup [.ref d, .ref h]) nz)
    exact k z d h _ ss rr hs (1 + x1) _ upd_same (s6 _ _ e4) ((Same.newK nz) _ _ eh) ok b4 (by omega) (kT.same s6) (pi.same s6) (by omega)
end
end KW

/-! the law's own beginnings and orders -/
namespace KW
open PySem PySem.Spec PyProof.Rows L2
open K70 (PosOk DealOk Dealing)
section
variable {P : Program} {w : World} {K : PySem.W.Frag} {mg : Str → Option Value} {base : Heap}
theorem sc_lstarted : FnScope ["_law_pool_here", "_law_most", "_law_deck_here", "_law_hands", "_law_trump", "_law_leader"] ["_law_pool_here", "_law_most"] (defScope sLStarted) := ⟨rfl, rfl, rfl, by decide +kernel, rfl, by decide +kernel, by decide +kernel⟩
def spLStarted : Sp := fun vs H Q _ => ∃ (p a : Addr) (l : List Nat) (n most : Nat), vs = [.ref p, nv most] ∧ PoolAt H p a l n ∧ n ≤ 500 ∧ 0 < most ∧ most ≤ 2 ∧
  ∀ (z d h : Addr) (H' : Hp) (s r : Nat) (hs : List Nat) (size n' : Nat) (t : Int) (ld : Nat), H' z = some (.tup [.ref d, .ref h, .int t, nv ld]) → H' d = some (.tup [nv s, nv r]) → H' h = some (.tup (nvs hs)) → DealOk s r hs size → s ≤ 3 → size ≤ 2 → -1 ≤ t → t < s → ld < 4 → Keep (fun x => x = p) H H' → PoolAt H' p a l n' → n' ≤ n + 22 → Q (.ref z) H'
theorem ok_lstarted (F : TopFn K mg "_law_started" sLStarted ["_law_pool_here", "_law_most"]) (ca : Cal P w K mg base 2 "_law_any_deal" spLAny) (cp : Cal P w K mg base 1 "_law_pick" spLPick) : Cal P w K mg base 3 "_law_started" spLStarted := by
  refine cal F sc_lstarted (fun vs H Q E h => ?_) (fun f cdv A outer s H vs Q E hr h => ?_)
  · obtain ⟨p, a, l, n, most, rfl, _⟩ := h; rfl
  obtain ⟨p, a, pl, n, most, rfl, hp, hn, hm0, hm2, k⟩ := h
  refine ⟨_, pss_cons (ps_asg (pe_c ca hr (by decide) (pa_cons (pv 0) (pa_cons (pv 1) pa_nil))) (pg_tup rfl (pgs_cons (pg_name (i := 2) sc_lstarted.nd rfl (.inl rfl)) (pgs_cons (pg_name (i := 3) sc_lstarted.nd rfl (.inl rfl)) pgs_nil))))
    (pss_cons (ps_set (i := 4) sc_lstarted.nd rfl (.inl rfl) (pe_op op_sub (pe_c cp hr (by decide) (pa_cons (pv 0) (pa_cons (pe_op op_addN (pe_t (pv 2) pe_int) pe_int) pa_nil))) pe_int))
    (pss_cons (ps_set (i := 5) sc_lstarted.nd rfl (.inl rfl) (pe_c cp hr (by decide) (pa_cons (pv 0) (pa_cons pe_int pa_nil))))
    (pss_one (ps_ret (pe_tup (pa_cons (pv 2) (pa_cons (pv 3) (pa_cons (pv 4) (pa_cons (pv 5) pa_nil))))))))), ?_⟩
  refine ⟨_, rfl, _, rfl, p, a, pl, n, most, rfl, hp, by omega, hm0, hm2, fun z d h H1 s' r hs size n1 ez ed eh ok hs3 hs2 k1 p1 hn1 => ?_⟩
  refine ⟨z, _, rfl, SqT.of ez, rfl, _, _, rfl, _, _, rfl, rfl, ?_⟩
  refine ⟨_, rfl, _, rfl, d, _, 0, nv s', rfl, rfl, SqT.of ed, atI_nat (j := 0) rfl, s', 1, rfl, rfl, ?_⟩
  refine ⟨p, a, pl, n1, s' + 1, rfl, p1, by omega, by omega, fun x H2 hx k2 p2 => ?_⟩
  refine ⟨_, _, rfl, rfl, ?_⟩
  refine ⟨_, rfl, p, a, pl, n1 + 1, 4, rfl, p2, by omega, by decide, fun y H3 hy k3 p3 => ?_⟩
  have ed3 := tupKP (tupKP ed p1 k2) p2 k3
  have eh3 := tupKP (tupKP eh p1 k2) p2 k3
  refine ⟨_, rfl, _, rfl, _, rfl, _, rfl, (by show 4 ≤ sizeLine; decide), fun z2 nz => ?_⟩
  have kT : Keep (fun x => x = p) H H3 := (k1.trans k2 fun x e => .inl e).trans k3 fun x e => .inl e
  exact k z2 d h _ s' r hs size _ _ y upd_same ((Same.newK nz) _ _ ed3) ((Same.newK nz) _ _ eh3) ok hs3 hs2 (by omega) (by omega) hy (kT.new nz) (p3.upd nz) (by omega)
/-! ### lists of lists -/
theorem paired_get {α β : Type} {F : α → β → Prop} : ∀ {l : List α} {k : List β}, Paired F l k → ∀ {i : Nat} {a : α}, l[i]? = some a → ∃ b, k[i]? = some b ∧ F a b
  | _, _, .nil, i, a, h => by simp at h
  | _, _, .cons h t, 0, a, e => by
    cases e
    exact ⟨_, rfl, h⟩
  | _, _, .cons h t, i + 1, a, e => paired_get t (i := i) e
/-- a list of lists of numbers, all of it new -/
def LL (H0 H : Hp) (p : Addr) (os : List (List Nat)) : Prop := H0 p = none ∧ ∃ as : List Addr, H p = some (.lst (as.map V.ref)) ∧ Paired (fun a o => H a = some (.lst (nvs o)) ∧ a ≠ p ∧ H0 a = none) as os
theorem LL.same {H0 H H' : Hp} {p : Addr} {os : List (List Nat)} (h : LL H0 H p os) (s : Same H H') : LL H0 H' p os := by
  obtain ⟨n, as, e, r⟩ := h
  exact ⟨n, as, s _ _ e, Paired.mapP r fun _ _ z => ⟨s _ _ z.1, z.2⟩⟩
theorem LL.snoc {H0 H : Hp} {p b : Addr} {as : List Addr} {os : List (List Nat)} {o : List Nat} (n0 : H0 p = none) (r : Paired (fun a o => H a = some (.lst (nvs o)) ∧ a ≠ p ∧ H0 a = none) as os) (eb : H b = some (.lst (nvs o))) (n : b ≠ p) (nb : H0 b = none) :
    LL H0 (upd H p (.lst (as.map V.ref ++ [V.ref b]))) p (os ++ [o]) := by
  refine ⟨n0, as ++ [b], ?_, Paired.snoc (Paired.mapP r fun _ _ z => ⟨by rw [upd_ne z.2.1]; exact z.1, z.2⟩) ⟨by rw [upd_ne n]; exact eb, n, nb⟩⟩
  rw [upd_same, List.map_append]
  rfl
theorem cut_take (l : List Nat) (i : Nat) : cutV (nvs l) none (some (i : Int)) = nvs (l.take i) := by
  unfold cutV
  rw [show HT.sIx (nvs l).length 0 none = 0 from rfl, show HT.sIx (nvs l).length (nvs l).length (some (i : Int)) = min i (nvs l).length from HT.sIx_nat _ _ _]
  rw [List.drop_zero, Nat.sub_zero, ← List.map_take, nvs_len, Nat.min_comm]
  congr 1
  rcases Nat.le_total i l.length with h | h
  · rw [Nat.min_eq_right h]
  · rw [Nat.min_eq_left h, List.take_of_length_le (Nat.le_refl _), List.take_of_length_le h]
theorem cut_drop (l : List Nat) (i : Nat) : cutV (nvs l) (some (i : Int)) none = nvs (l.drop i) := by
  unfold cutV
  rw [show HT.sIx (nvs l).length 0 (some (i : Int)) = min i (nvs l).length from HT.sIx_nat _ _ _, show HT.sIx (nvs l).length (nvs l).length none = (nvs l).length from rfl]
  rw [← List.map_drop, ← List.map_take, nvs_len]
  congr 1
  rcases Nat.le_total i l.length with h | h
  · rw [Nat.min_eq_left h, List.take_of_length_le (by rw [List.length_drop]; exact Nat.le_refl _)]
  · rw [Nat.min_eq_right h, List.drop_of_length_le (Nat.le_refl _), List.drop_of_length_le h, List.take_nil]
theorem sc_lorders : FnScope ["_law_many", "_law_found", "_law_rest", "_law_at"] ["_law_many"] (defScope sLOrders) := ⟨rfl, rfl, rfl, by decide +kernel, rfl, by decide +kernel, by decide +kernel⟩
def spLOrders (n : Nat) : Sp := fun vs H Q _ => ∃ m : Nat, vs = [nv m] ∧ m < n ∧ m ≤ 4 ∧ ∀ p H', Same H H' → LL H H' p (K70.lawOrders m) → Q (.ref p) H'
theorem ok_lorders1 {n : Nat} (F : TopFn K mg "_law_orders" sLOrders ["_law_many"]) (c : Cal P w K mg base n "_law_orders" (spLOrders n)) (mr : mg "range" = none) : Cal P w K mg base (n + 1) "_law_orders" (spLOrders (n + 1)) := by
  refine cal F sc_lorders (fun vs H Q E h => ?_) (fun f cdv A outer s H vs Q E hr h => ?_)
  · obtain ⟨m, rfl, _⟩ := h; rfl
  obtain ⟨m, rfl, hm, hm4, k⟩ := h
  refine ⟨_, pss_cons (ps_if (pt_cmpR op_eqN (pv 0) pe_int (nomark _)) (pss_one (ps_ret (pe_lst (pa_cons (pe_lst pa_nil) pa_nil)))) pss_nil)
    (pss_cons (ps_set (i := 1) sc_lorders.nd rfl (.inl rfl) (pe_lst pa_nil))
    (pss_cons (ps_for PassesOwn.never rfl (pi_list (pe_c c hr (by omega) (pa_cons (pe_op op_subN (pv 0) pe_int) pa_nil))) (pg_name (i := 2) sc_lorders.nd rfl (.inl rfl))
      (pss_one (ps_for PassesOwn.never rfl (pi_range1 rfl mr (pa_cons (pv 0) pa_nil)) (pg_name (i := 3) sc_lorders.nd rfl (.inl rfl))
        (pss_one (ps_expr (pe_app (pv 1) (pa_cons (pe_op op_cat (pe_op op_cat (pe_slice sl_list (pv 2) po_none (po_some (pv 3))) (pe_lst (pa_cons (pe_op op_subN (pv 0) pe_int) pa_nil))) (pe_slice sl_list (pv 2) (po_some (pv 3)) po_none)) pa_nil)))))))
    (pss_one (ps_ret (pv 1))))), ?_⟩
  refine ⟨_, rfl, m, 0, rfl, rfl, _, rfl, ?_⟩
  cases m with
  | zero =>
    refine iteT ⟨Nat.zero_le _, fun e ne => ⟨(by show 1 ≤ sizeLine; decide), fun p np => ?_⟩⟩
    have nep : e ≠ p := ne_of_none upd_same np
    exact k p _ ((Same.newK ne).trans (Same.newK np)) ⟨(Same.newK ne).free np, [e], upd_same, .cons ⟨by rw [upd_ne nep, upd_same]; rfl, nep, ne⟩ .nil⟩
  | succ m =>
    refine iteF ?_
    refine ⟨Nat.zero_le _, fun p np => ?_⟩
    have s1 : Same H (upd H p (.lst [])) := Same.newK np
    have e1 : (upd H p (.lst [])) p = some (.lst []) := upd_same
    generalize upd H p (.lst []) = H1 at s1 e1
    refine ⟨_, rfl, m + 1, 1, rfl, rfl, (by show 1 ≤ m + 1; omega), m, rfl, by omega, by omega, fun q H2 s2 hq => ?_⟩
    obtain ⟨nq, as, eq, rq⟩ := hq
    have hos := Paired.length rq
    have hos4 := K70.lawOrders_len m (by omega)
    have nqp : p ≠ q := ne_of_none e1 nq
    have e2 := s2 _ _ e1
    refine ⟨q, rfl, ⟨_, SqL.of eq⟩, ?_⟩
    refine for_list (K := K) (a := q) (xs := as.map V.ref) (fun i σ H' => ∃ v2 v3, σ = [some (nv (m + 1)), some (.ref p), v2, v3] ∧ Keep (fun x => x = p) H2 H' ∧ LL H H' p (((K70.lawOrders m).take i).flatMap fun rest => (List.range (m + 1)).map (K70.ins m rest)))
      ⟨none, none, rfl, Keep.refl, np, [], e2, .nil⟩ (fun i σ H' _ ⟨_, _, _, kk, _⟩ => SqL.of (kk.at_ _ _ eq nqp.symm)) ?_ ?_
    · rintro i x σ H3 hx ⟨v2, v3, rfl, k3, l3⟩
      rw [List.getElem?_map] at hx
      obtain ⟨b, hb, rfl⟩ := Option.map_eq_some_iff.mp hx
      obtain ⟨o, ho, eb, nbq, nb1⟩ := paired_get rq hb
      have nbp : p ≠ b := ne_of_none e1 nb1
      have hi : i < (K70.lawOrders m).length := (List.getElem?_eq_some_iff.mp ho).1
      refine ⟨_, rfl, ((m + 1 : Nat) : Int), rfl, by omega, by omega, ?_⟩
      refine for_range (lo := 0) (fun j σ H' => ∃ v3, σ = [some (nv (m + 1)), some (.ref p), some (.ref b), v3] ∧ Keep (fun x => x = p) H2 H' ∧ LL H H' p ((((K70.lawOrders m).take i).flatMap fun rest => (List.range (m + 1)).map (K70.ins m rest)) ++ (List.range j).map (K70.ins m o)))
        ⟨v3, rfl, k3, by rw [List.range_zero, List.map_nil, List.append_nil]; exact l3⟩ ?_ ?_
      · rintro j σ H4 hj ⟨v3, rfl, k4, l4⟩
        obtain ⟨_, as4, ep4, r4⟩ := l4
        have eb4 := k4.at_ _ _ eb nbp.symm
        have len4 := Paired.length r4
        have ej : V.int (0 + (j : Int)) = V.int (j : Int) := by rw [Int.zero_add]
        refine ⟨_, rfl, .inl ⟨rfl, _, SqL.of ep4⟩, _, rfl, _, rfl, (j : Int), ej, b, nvs o, rfl, SqL.of eb4, fun c1 n1 => ?_⟩
        rw [cut_take]
        have t1 := Same.newK (o := .lst (nvs (o.take j))) n1
        have f1 : (upd H4 c1 (.lst (nvs (o.take j)))) c1 = some (.lst (nvs (o.take j))) := upd_same
        generalize upd H4 c1 (.lst (nvs (o.take j))) = H5 at t1 f1
        refine ⟨_, rfl, m + 1, 1, rfl, rfl, (by show 1 ≤ m + 1; omega), (by show 1 ≤ sizeLine; decide), fun c2 n2 => ?_⟩
        have t2 := t1.trans (Same.newK (o := .lst [nv (m + 1 - 1)]) n2)
        have f1' := (Same.newK (o := .lst [nv (m + 1 - 1)]) n2) _ _ f1
        have f2 : (upd H5 c2 (.lst [nv (m + 1 - 1)])) c2 = some (.lst [nv (m + 1 - 1)]) := upd_same
        dsimp only
        generalize upd H5 c2 (.lst [nv (m + 1 - 1)]) = H6 at t2 f1' f2
        have ho8 : o.length ≤ 4 := by
          have := (K70.lawOrders_perm m o (List.mem_of_getElem? ho)).length_eq
          rw [List.length_range] at this
          omega
        have htk : (o.take j).length ≤ o.length := List.length_take_le' _ _
        refine ⟨c1, c2, _, _, rfl, rfl, f1', f2, (by rw [nvs_len]; exact small64 (by show (o.take j).length + 1 ≤ 4096; omega)), fun c3 n3 => ?_⟩
        have t3 := t2.trans (Same.newK (o := .lst (nvs (o.take j) ++ [nv (m + 1 - 1)])) n3)
        have f3 : (upd H6 c3 (.lst (nvs (o.take j) ++ [nv (m + 1 - 1)]))) c3 = some (.lst (nvs (o.take j) ++ [nv (m + 1 - 1)])) := upd_same
        generalize upd H6 c3 (.lst (nvs (o.take j) ++ [nv (m + 1 - 1)])) = H7 at t3 f3
        refine ⟨_, rfl, _, rfl, (j : Int), ej, b, nvs o, rfl, SqL.of (t3 _ _ eb4), fun c4 n4 => ?_⟩
        rw [cut_drop]
        have t4 := t3.trans (Same.newK (o := .lst (nvs (o.drop j))) n4)
        have f3' := (Same.newK (o := .lst (nvs (o.drop j))) n4) _ _ f3
        have f4 : (upd H7 c4 (.lst (nvs (o.drop j)))) c4 = some (.lst (nvs (o.drop j))) := upd_same
        generalize upd H7 c4 (.lst (nvs (o.drop j))) = H8 at t4 f3' f4
        have hdr : (o.drop j).length ≤ o.length := by rw [List.length_drop]; omega
        refine ⟨c3, c4, _, _, rfl, rfl, f3', f4, (by rw [List.length_append, nvs_len, nvs_len]; exact small64 (by show (o.take j).length + 1 + (o.drop j).length ≤ 4096; omega)), fun c5 n5 => ?_⟩
        have eins : nvs (o.take j) ++ [nv (m + 1 - 1)] ++ nvs (o.drop j) = nvs (K70.ins m o j) := by
          unfold K70.ins
          show nvs (o.take j) ++ nvs [m] ++ nvs (o.drop j) = _
          rw [← List.map_append, ← List.map_append]
        rw [eins]
        have t5 := t4.trans (Same.newK (o := .lst (nvs (K70.ins m o j))) n5)
        have f5 : (upd H8 c5 (.lst (nvs (K70.ins m o j)))) c5 = some (.lst (nvs (K70.ins m o j))) := upd_same
        have n5' := t4.free n5
        generalize upd H8 c5 (.lst (nvs (K70.ins m o j))) = H9 at t5 f5
        have n5p : c5 ≠ p := fun e => by rw [e, ep4] at n5'; cases n5'
        have n5H : H c5 = none := s1.free (s2.free (k4.back _ n5'))
        refine ⟨p, _, _, rfl, rfl, t5 _ _ ep4, ?_, ?_⟩
        · rw [List.length_map, len4, List.length_append, List.length_map, List.length_range]
          have e1 : (((K70.lawOrders m).take i).flatMap fun rest => (List.range (m + 1)).map (K70.ins m rest)).length ≤ 24 * 5 := by
            rw [List.length_flatMap]
            have : ∀ l : List (List Nat), (l.map fun rest => ((List.range (m + 1)).map (K70.ins m rest)).length).sum = l.length * (m + 1) := fun l => by
              induction l with
              | nil => simp
              | cons x r ih => rw [List.map_cons, List.sum_cons, ih, List.length_map, List.length_range, List.length_cons, Nat.add_mul]; omega
            rw [this]
            refine Nat.mul_le_mul ?_ (by omega)
            have := List.length_take_le' i (K70.lawOrders m)
            omega
          exact small64' (by omega)
        · refine ⟨_, rfl, (k4.same t5).mut (.inl rfl), ?_⟩
          rw [List.range_succ (n := j), List.map_append, ← List.append_assoc]
          exact LL.snoc np (Paired.mapP r4 fun _ _ z => ⟨t5 _ _ z.1, z.2⟩) f5 n5p n5H
      · rintro σ H4 ⟨v3, rfl, k4, l4⟩
        refine ⟨_, _, rfl, k4, ?_⟩
        rw [List.take_add_one, ho, List.flatMap_append]
        have e1 : (((m + 1 : Nat) : Int)).toNat = m + 1 := by omega
        rw [e1] at l4
        show LL H H4 p (_ ++ List.flatMap _ [o])
        rw [List.flatMap_cons, List.flatMap_nil, List.append_nil]
        exact l4
    · rintro σ H3 ⟨v2, v3, rfl, k3, l3⟩
      refine ⟨_, rfl, k p H3 (fun b u e => k3.at_ _ _ (s2 _ _ (s1 _ _ e)) (ne_of_none e np)) ?_⟩
      rw [List.length_map, hos, List.take_length] at l3
      exact l3
theorem ok_lorders (F : TopFn K mg "_law_orders" sLOrders ["_law_many"]) (mr : mg "range" = none) : ∀ n : Nat, Cal P w K mg base n "_law_orders" (spLOrders n)
  | 0 => cal_never F fun vs H Q E h => by
      obtain ⟨_, _, h, _⟩ := h
      omega
  | n + 1 => ok_lorders1 F (ok_lorders F mr n) mr
end
end KW

/-! finesse.alike, first part: turned, with_suits, with_trump -/
namespace KW
open PySem PySem.Spec PyProof.Rows L2
open K70 (PosOk DealOk Dealing)
abbrev sTurned : Stmt := topS 24
abbrev sSqueezed : Stmt := topS 25
abbrev sWSuits : Stmt := topS 27
abbrev sWTrump : Stmt := topS 28
abbrev sOrders : Stmt := topS 29
abbrev sStandard : Stmt := topS 30
section
variable {P : Program} {w : World} {K : PySem.W.Frag} {mg : Str → Option Value} {base : Heap}
theorem nvs_app (l : List Nat) (x : Nat) : nvs l ++ [nv x] = nvs (l ++ [x]) := (List.map_append (f := nv) (l₁ := l) (l₂ := [x])).symm
theorem pi_listK {X : Cx} {K : PySem.W.Frag} {tg l : Expr} {tl : TE} (hK : X.K = K) (h : PE X l tl) : PI X tg l (iList K tl) := by
  subst hK
  exact pi_list h
theorem pi_tupK {X : Cx} {K : PySem.W.Frag} {tg l : Expr} {tl : TE} (hK : X.K = K) (h : PE X l tl) : PI X tg l (iTup K tl) := by
  subst hK
  exact pi_tup h
/-- a tuple of the written part -/
def PlayersG (K : PySem.W.Frag) (mg : Str → Option Value) : Prop := ∃ a, mg "PLAYERS" = some (.ref a) ∧ ∀ H, SqT K H a (nvs [0, 1, 2, 3])
theorem sc_turned : FnScope ["hands", "by", "player"] ["hands", "by"] (defScope sTurned) := ⟨rfl, rfl, rfl, by decide +kernel, rfl, by decide +kernel, by decide +kernel⟩
def spTurned (K : PySem.W.Frag) : Sp := fun vs H Q _ => ∃ (h : Addr) (hs : List Nat) (k : Nat), vs = [.ref h, nv k] ∧ SqT K H h (nvs hs) ∧ hs.length = 4 ∧ k ≤ 4 ∧ ∀ p H', Same H H' → H' p = some (.tup (nvs (K70.turnedL hs k))) → Q (.ref p) H'
theorem ok_turned (F : TopFn K mg "turned" sTurned ["hands", "by"]) (mp : PlayersG K mg) (mt : mg "tuple" = none) : Cal P w K mg base 1 "turned" (spTurned K) := by
  refine cal F sc_turned (fun vs H Q E h => ?_) (fun f cdv A outer s H vs Q E hr h => ?_)
  · obtain ⟨h, hs, k, rfl, _⟩ := h; rfl
  obtain ⟨h, hs, k, rfl, hh, h4, hk, q⟩ := h
  obtain ⟨pa, mp, hpl⟩ := mp
  refine ⟨_, pss_one (ps_ret (pe_callTy call_tuple_of (by rfl) mt (by decide +kernel) (pa_cons (pe_lc (own := [("player", 2)]) (g := gName 2) (tt := tYes) (by rfl) sc_turned.nd (pi_tup (pe_glob (v := .ref pa) (by rfl) mp rfl)) (blkOk_by (own := [("player", 2)]) (N := ["hands", "by", "player"]) (sc := defScope sTurned) (by decide +kernel))
    (fun _ _ _ _ _ => pg_name (i := 2) sc_turned.nd rfl (Or.inl rfl)) (fun _ _ _ _ _ => pts_nil) (fun _ _ _ _ _ => pe_tk (K := K) rfl (pv 0) (pe_op op_mod (pe_op op_sub (pv 2) (pv 1)) pe_int))) pa_nil))), ?_⟩
  refine ⟨pa, rfl, ⟨_, hpl H⟩, fun D nD => ?_⟩
  refine lc_tup (K := K) (a := pa) (xs := nvs [0, 1, 2, 3]) (fun i H' => H' = upd H D (.lst (nvs ((List.range i).map fun i => hs.getD ((i + 4 - k) % 4) 0)))) rfl (fun i H' _ e => hpl H') (fun i x H' hx e => ?_) (fun H' e => ?_)
  · subst e
    have hi : i < 4 := (List.getElem?_eq_some_iff.mp hx).1
    have ex : x = nv i := by
      match i, hi, hx with
      | 0, _, hx => cases hx; rfl
      | 1, _, hx => cases hx; rfl
      | 2, _, hx => cases hx; rfl
      | 3, _, hx => cases hx; rfl
    subst ex
    have hlt : (i + 4 - k) % 4 < hs.length := by rw [h4]; exact Nat.mod_lt _ (by decide)
    have hg : (nvs hs)[(i + 4 - k) % 4]? = some (nv (hs.getD ((i + 4 - k) % 4) 0)) := nvs_at (by rw [List.getD_eq_getElem?_getD, List.getElem?_eq_getElem hlt]; rfl)
    have ei : ((i : Int) - (k : Int)) % 4 = (((i + 4 - k) % 4 : Nat) : Int) := by omega
    have hat : atI (nvs hs) (((i : Int) - (k : Int)) % 4) = some (nv (hs.getD ((i + 4 - k) % 4) 0)) := by rw [ei]; exact atI_nat hg
    refine ⟨rfl, _, rfl, _, rfl, _, rfl, (i : Int), (k : Int), rfl, rfl, (i : Int) - (k : Int), 4, rfl, rfl, (by show (0 : Int) < 4; decide), h, _, _, _, rfl, rfl, (Same.newK nD).tupK hh, hat, ?_⟩
    refine ⟨_, upd_same, (by rw [nvs_len, List.length_map, List.length_range]; exact small64' (by omega)), ?_⟩
    rw [upd_upd, List.range_succ, List.map_append]
    exact congrArg (fun l => upd H D (HO.lst l)) (nvs_app _ _)
  · subst e
    have s1 : Same H (upd H D (.lst (nvs (K70.turnedL hs k)))) := Same.newK nD
    refine ⟨D, _, rfl, .inl ⟨SqL.of upd_same, fun p np => ?_⟩⟩
    exact q p _ (s1.trans (Same.newK np)) upd_same
theorem sc_wsuits : FnScope ["deck", "hands", "order", "found", "hand", "moved", "card"] ["deck", "hands", "order"] (defScope sWSuits) := ⟨rfl, rfl, rfl, by decide +kernel, rfl, by decide +kernel, by decide +kernel⟩
def spWSuits (K : PySem.W.Frag) : Sp := fun vs H Q _ => ∃ (d h a : Addr) (s r : Nat) (hs o : List Nat), vs = [.ref d, .ref h, .ref a] ∧ Deck K H d s r ∧ SqT K H h (nvs hs) ∧ SqL K H a (nvs o) ∧ s ≤ 4 ∧ 1 ≤ r ∧ r ≤ 13 ∧ hs.length ≤ 4 ∧ (∀ m ∈ hs, m < 2 ^ (s * r)) ∧ o.length = s ∧ (∀ x ∈ o, x < s) ∧
  ∀ p H', Same H H' → H' p = some (.tup (nvs (K70.moveHands (K70.suitF r o) hs))) → Q (.ref p) H'
theorem ok_wsuits (F : TopFn K mg "with_suits" sWSuits ["deck", "hands", "order"]) (c1 : Cal P w K mg base 1 "card_of" (spCard K)) (c2 : Cal P w K mg base 1 "suit_of" (spSuit K)) (c3 : Cal P w K mg base 1 "rank_of" (spRank K)) (c4 : Cal P w K mg base 1 "cards_of" spCards) (c5 : Cal P w K mg base 1 "mask_of" (spMask K)) (mt : mg "tuple" = none) :
    Cal P w K mg base 2 "with_suits" (spWSuits K) := by
  refine cal F sc_wsuits (fun vs H Q E h => ?_) (fun f cdv A outer s H vs Q E hr h => ?_)
  · obtain ⟨d, h, a, s, r, hs, o, rfl, _⟩ := h; rfl
  obtain ⟨d, h, a, s', r, hs, o, rfl, hd, hh, ha, hs4, hr1, hr13, hl4, hb, ho, hox, q⟩ := h
  refine ⟨_, pss_cons (ps_set (i := 3) sc_wsuits.nd rfl (.inl rfl) (pe_lst pa_nil))
    (pss_cons (ps_for PassesOwn.never rfl (pi_tup (pv 1)) (pg_name (i := 4) sc_wsuits.nd rfl (.inl rfl))
      (pss_cons (ps_setLc (i := 5) (own := [("card", 6)]) (g := gName 6) (tt := tYes) rfl sc_wsuits.nd rfl rfl (sw_true rfl rfl rfl (by decide +kernel)) (pi_list (pe_c c4 hr (by decide) (pa_cons (pv 4) pa_nil))) (blkOk_by (own := [("card", 6)]) (N := ["deck", "hands", "order", "found", "hand", "moved", "card"]) (sc := defScope sWSuits) (by decide +kernel))
        (fun _ _ _ _ _ => pg_name (i := 6) sc_wsuits.nd rfl (Or.inl rfl)) (fun _ _ _ _ _ => pts_nil)
        (fun _ _ _ _ _ => pe_c c1 hr (by decide) (pa_cons (pv 0) (pa_cons (pe_lk (K := K) rfl (pv 2) (pe_c c2 hr (by decide) (pa_cons (pv 0) (pa_cons (pv 6) pa_nil)))) (pa_cons (pe_c c3 hr (by decide) (pa_cons (pv 0) (pa_cons (pv 6) pa_nil))) pa_nil)))))
      (pss_one (ps_expr (pe_app (pv 3) (pa_cons (pe_c c5 hr (by decide) (pa_cons (pv 5) pa_nil)) pa_nil))))))
    (pss_one (ps_ret (pe_callTy call_tuple_of (by rfl) mt (by decide +kernel) (pa_cons (pv 3) pa_nil))))), ?_⟩
  have hsr : s' * r ≤ 52 := Nat.mul_le_mul hs4 hr13
  refine ⟨Nat.zero_le _, fun p np => ?_⟩
  have s1 : Same H (upd H p (.lst [])) := Same.newK np
  have e1 : (upd H p (.lst [])) p = some (.lst (nvs [])) := upd_same
  generalize upd H p (.lst []) = H1 at s1 e1
  refine ⟨_, rfl, h, rfl, ⟨_, s1.tupK hh⟩, ?_⟩
  refine for_tup (K := K) (a := h) (xs := nvs hs) (fun i σ H' => ∃ v4 v5 v6, σ = [some (.ref d), some (.ref h), some (.ref a), some (.ref p), v4, v5, v6] ∧ Same H H' ∧ H' p = some (.lst (nvs (K70.moveHands (K70.suitF r o) (hs.take i)))))
    ⟨none, none, none, rfl, s1, e1⟩ (fun i σ H' _ ⟨_, _, _, _, sm, _⟩ => sm.tupK hh) ?_ ?_
  · rintro i x σ H2 hx ⟨v4, v5, v6, rfl, s2, ep⟩
    obtain ⟨m, hm, rfl⟩ := nv_get hx
    have hmem := List.mem_of_getElem? hm
    have hil : i < hs.length := (List.getElem?_eq_some_iff.mp hm).1
    have hmb : m < 2 ^ 52 := Nat.lt_of_lt_of_le (hb m hmem) (Nat.pow_le_pow_right (by decide) hsr)
    refine ⟨_, rfl, m, rfl, pow52 hmb, fun cl H3 s3 ncl ecl => ?_⟩
    refine ⟨cl, rfl, ⟨_, SqL.of ecl⟩, fun D nD => ?_⟩
    have nclD : cl ≠ D := ne_of_none ecl nD
    have s23 := s2.trans s3
    refine lc_list (K := K) (a := cl) (xs := nvs (K70.cardsOf m)) (fun j H' => H' = upd H3 D (.lst (nvs (((K70.cardsOf m).take j).map (K70.suitF r o))))) rfl (fun j H' _ e => by rw [e]; exact SqL.of (by rw [upd_ne nclD]; exact ecl)) (fun j x H' hx e => ?_) (fun H' e => ?_)
    · obtain ⟨c, hc, rfl⟩ := nv_get hx
      subst e
      have sD := s23.trans (Same.newK (o := .lst (nvs (((K70.cardsOf m).take j).map (K70.suitF r o)))) nD)
      have hcm := K70.mem_cardsOf.mp (List.mem_of_getElem? hc)
      have hcl : c < s' * r := K70.bit_lt (hb m hmem) hcm
      have hcs : c / r < o.length := by rw [ho]; exact Nat.div_lt_of_lt_mul (by rw [Nat.mul_comm]; exact hcl)
      have hg : o[c / r]? = some (o.getD (c / r) 0) := by rw [List.getD_eq_getElem?_getD, List.getElem?_eq_getElem hcs]; rfl
      have hx4 := hox _ (K70.getD_mem hcs)
      refine ⟨rfl, _, rfl, _, rfl, _, rfl, _, rfl, d, s', r, c, rfl, sD.tupK hd, ⟨by omega, by omega⟩, ?_⟩
      refine ⟨a, _, _, nv (o.getD (c / r) 0), rfl, rfl, sD.seq ha, atI_nat (nvs_at hg), _, rfl, _, rfl, d, s', r, c, rfl, sD.tupK hd, ⟨by omega, by omega⟩, ?_⟩
      refine ⟨d, s', r, o.getD (c / r) 0, c % r, rfl, sD.tupK hd, by omega, _, upd_same, ?_, ?_⟩
      · rw [nvs_len, List.length_map]
        have h2 : ((K70.cardsOf m).take j).length ≤ (K70.cardsOf m).length := List.length_take_le' _ _
        have h3 : (K70.cardsOf m).length ≤ 52 := by rw [K70.cardsOf_eq hmb]; exact bits_len _ _
        exact small64' (by omega)
      · rw [upd_upd, List.take_add_one, hc, List.map_append]
        exact congrArg (fun l => upd H3 D (HO.lst l)) (nvs_app _ _)
    · subst e
      rw [nvs_len, List.take_length]
      have sD := s23.trans (Same.newK (o := .lst (nvs ((K70.cardsOf m).map (K70.suitF r o)))) nD)
      have ep3 := (s3.trans (Same.newK (o := .lst (nvs ((K70.cardsOf m).map (K70.suitF r o)))) nD)) _ _ ep
      have eD : (upd H3 D (.lst (nvs ((K70.cardsOf m).map (K70.suitF r o))))) D = some (.lst (nvs ((K70.cardsOf m).map (K70.suitF r o)))) := upd_same
      generalize upd H3 D (.lst (nvs ((K70.cardsOf m).map (K70.suitF r o)))) = H4 at sD ep3 eD
      refine ⟨_, rfl, .inl ⟨rfl, _, SqL.of ep3⟩, _, rfl, D, _, rfl, SqL.of eD, fun c hc => ?_, ?_⟩
      · obtain ⟨b, hbm, rfl⟩ := List.mem_map.mp hc
        have hcl : b < s' * r := K70.bit_lt (hb m hmem) (K70.mem_cardsOf.mp hbm)
        have hcs : b / r < o.length := by rw [ho]; exact Nat.div_lt_of_lt_mul (by rw [Nat.mul_comm]; exact hcl)
        have hx4 := hox _ (K70.getD_mem hcs)
        have hr0 : b % r < r := Nat.mod_lt _ (by omega)
        have : o.getD (b / r) 0 * r ≤ 3 * r := Nat.mul_le_mul_right _ (by omega)
        unfold K70.suitF
        omega
      · refine ⟨p, _, _, rfl, rfl, ep3, ?_, ?_⟩
        · rw [nvs_len]
          unfold K70.moveHands
          rw [List.length_map, List.length_take]
          exact small64' (by omega)
        · refine ⟨_, _, _, rfl, sD.mutK np, ?_⟩
          rw [upd_same, List.take_add_one, hm, nvs_app]
          unfold K70.moveHands
          rw [List.map_append]
          rfl
  · rintro σ H2 ⟨v4, v5, v6, rfl, s2, ep⟩
    rw [nvs_len, List.take_length] at ep
    refine ⟨_, rfl, p, _, rfl, .inl ⟨SqL.of ep, fun z nz => ?_⟩⟩
    exact q z _ (s2.trans (Same.newK nz)) upd_same
theorem sc_wtrump : FnScope ["trump", "order"] ["trump", "order"] (defScope sWTrump) := ⟨rfl, rfl, rfl, by decide +kernel, rfl, by decide +kernel, by decide +kernel⟩
def spWTrump (K : PySem.W.Frag) : Sp := fun vs H Q _ => ∃ (a : Addr) (t : Int) (o : List Nat), vs = [.int t, .ref a] ∧ SqL K H a (nvs o) ∧ -1 ≤ t ∧ t < o.length ∧ Q (.int (K70.withTrump t o)) H
theorem ok_wtrump (F : TopFn K mg "with_trump" sWTrump ["trump", "order"]) : Cal P w K mg base 1 "with_trump" (spWTrump K) := by
  refine cal F sc_wtrump (fun vs H Q E h => ?_) (fun f cdv A outer s H vs Q E hr h => ?_)
  · obtain ⟨a, t, o, rfl, _⟩ := h; rfl
  obtain ⟨a, t, o, rfl, ha, h1, h2, q⟩ := h
  refine ⟨_, pss_one (ps_ret (pe_ifExp (pt_cmpR op_lt (pv 0) pe_int (nomark _)) (pe_un un_neg pe_int) (pe_l (pv 1) (pv 0)))), ?_⟩
  refine ⟨_, rfl, t, 0, rfl, rfl, _, rfl, ?_⟩
  unfold K70.withTrump at q
  refine ite2 (fun e => ?_) (fun e => ?_)
  · have e0 : t < 0 := of_decide_eq_true e
    rw [if_pos e0] at q
    exact ⟨1, rfl, q⟩
  · have e0 : ¬ t < 0 := of_decide_eq_false (Bool.eq_false_iff.mpr e)
    rw [if_neg e0] at q
    have ht : t = (t.toNat : Int) := by omega
    have hlt : t.toNat < o.length := by omega
    have hg : (nvs o)[t.toNat]? = some (nv (o.getD t.toNat 0)) := nvs_at (by rw [List.getD_eq_getElem?_getD, List.getElem?_eq_getElem hlt]; rfl)
    have hat : atI (nvs o) t = some (nv (o.getD t.toNat 0)) := by rw [ht]; exact atI_nat hg
    exact ⟨_, rfl, _, rfl, a, _, t, _, rfl, rfl, ha, hat, q⟩
end
end KW

/-! finesse.alike: orders_of -/
namespace KW
open PySem PySem.Spec PyProof.Rows L2
section
variable {P : Program} {w : World} {K : PySem.W.Frag} {mg : Str → Option Value} {base : Heap}
theorem sc_orders : FnScope ["items", "found", "at", "rest"] ["items"] (defScope sOrders) := ⟨rfl, rfl, rfl, by decide +kernel, rfl, by decide +kernel, by decide +kernel⟩
def spOrders (K : PySem.W.Frag) (n : Nat) : Sp := fun vs H Q _ => ∃ (a : Addr) (l : List Nat), vs = [.ref a] ∧ H a = some (.lst (nvs l)) ∧ l.length < n ∧ l.length ≤ 4 ∧ ∀ p H', Same H H' → LL H H' p (K70.ordersOf l.length l) → Q (.ref p) H'
theorem LL.append {H0 H : Hp} {p : Addr} {as bs : List Addr} {os us : List (List Nat)} (n0 : H0 p = none) (r : Paired (fun a o => H a = some (.lst (nvs o)) ∧ a ≠ p ∧ H0 a = none) as os) (r2 : Paired (fun a o => H a = some (.lst (nvs o)) ∧ a ≠ p ∧ H0 a = none) bs us) :
    LL H0 (upd H p (.lst (as.map V.ref ++ bs.map V.ref))) p (os ++ us) := by
  refine ⟨n0, as ++ bs, ?_, ?_⟩
  · rw [upd_same, List.map_append]
  · have h1 := Paired.mapP r (G := fun a o => (upd H p (.lst (as.map V.ref ++ bs.map V.ref))) a = some (.lst (nvs o)) ∧ a ≠ p ∧ H0 a = none) fun _ _ z => ⟨by rw [upd_ne z.2.1]; exact z.1, z.2⟩
    have h2 := Paired.mapP r2 (G := fun a o => (upd H p (.lst (as.map V.ref ++ bs.map V.ref))) a = some (.lst (nvs o)) ∧ a ≠ p ∧ H0 a = none) fun _ _ z => ⟨by rw [upd_ne z.2.1]; exact z.1, z.2⟩
    clear r r2
    generalize (upd H p (.lst (as.map V.ref ++ bs.map V.ref))) = H' at h1 h2
    induction h1 with
    | nil => exact h2
    | cons z t ih => exact .cons z ih
theorem ok_orders1 {n : Nat} (F : TopFn K mg "orders_of" sOrders ["items"]) (c : Cal P w K mg base n "orders_of" (spOrders K n)) (mr : mg "range" = none) (ml : mg "len" = none) : Cal P w K mg base (n + 1) "orders_of" (spOrders K (n + 1)) := by
  refine cal F sc_orders (fun vs H Q E h => ?_) (fun f cdv A outer s H vs Q E hr h => ?_)
  · obtain ⟨a, l, rfl, _⟩ := h; rfl
  obtain ⟨a, l, rfl, ha, hm, hm4, k⟩ := h
  refine ⟨_, pss_cons (ps_if (pt_cmpR op_eq (pe_callB call_len_seq (by rfl) ml PySem.boot_len (pa_cons (pv 0) pa_nil)) pe_int (nomark _)) (pss_one (ps_ret (pe_lst (pa_cons (pe_lst pa_nil) pa_nil)))) pss_nil)
    (pss_cons (ps_set (i := 1) sc_orders.nd rfl (.inl rfl) (pe_lst pa_nil))
    (pss_cons (ps_for PassesOwn.never rfl (pi_range1 rfl mr (pa_cons (pe_callB call_len_seq (by rfl) ml PySem.boot_len (pa_cons (pv 0) pa_nil)) pa_nil)) (pg_name (i := 2) sc_orders.nd rfl (.inr rfl))
      (pss_one (ps_expr (pe_bm PySem.F.plainAttrs_list PySem.F.slot_list_extend PySem.F.type_list_extend mt_extend (pv 1) (pa_cons (pe_lc (own := [("rest", 3)]) (g := gName 3) (tt := tYes) (by rfl) sc_orders.nd
          (pi_list (pe_c c hr (by omega) (pa_cons (pe_op op_cat (pe_slice sl_list (pv 0) po_none (po_some (pv 2))) (pe_slice sl_list (pv 0) (po_some (pe_op op_addN (pv 2) pe_int)) po_none)) pa_nil)))
          (blkOk_by (own := [("rest", 3)]) (N := ["items", "found", "at", "rest"]) (sc := defScope sOrders) (by decide +kernel))
          (fun _ _ _ _ _ => pg_name (i := 3) sc_orders.nd rfl (Or.inl rfl)) (fun _ _ _ _ _ => pts_nil) (fun _ _ _ _ _ => pe_op op_cat (pe_lst (pa_cons (pe_lk (K := K) rfl (pv 0) (pv 2)) pa_nil)) (pv 3))) pa_nil)))))
    (pss_one (ps_ret (pv 1))))), ?_⟩
  refine ⟨_, rfl, a, _, rfl, .inl (SqL.of ha), rfl, _, rfl, ?_⟩
  rw [dec_vint, nvs_len]
  generalize hn : l.length = m at hm hm4 k
  cases m with
  | zero =>
    refine iteT ⟨Nat.zero_le _, fun e ne => ⟨(by show 1 ≤ sizeLine; decide), fun p np => ?_⟩⟩
    have nep : e ≠ p := ne_of_none upd_same np
    exact k p _ ((Same.newK ne).trans (Same.newK np)) ⟨(Same.newK ne).free np, [e], upd_same, .cons ⟨by rw [upd_ne nep, upd_same]; rfl, nep, ne⟩ .nil⟩
  | succ m =>
    rw [decide_eq_false (show ¬ ((m + 1 : Nat) : Int) = 0 by omega)]
    refine iteF ?_
    refine ⟨Nat.zero_le _, fun p np => ?_⟩
    have s1 : Same H (upd H p (.lst [])) := Same.newK np
    have e1 : (upd H p (.lst [])) p = some (.lst []) := upd_same
    generalize upd H p (.lst []) = H1 at s1 e1
    have nap : a ≠ p := ne_of_none ha np
    have ha1 := s1 _ _ ha
    refine ⟨_, rfl, a, _, rfl, .inl (SqL.of ha1), ((m + 1 : Nat) : Int), by rw [nvs_len, hn], by omega, by omega, ?_⟩
    refine for_range (lo := 0) (fun i σ H' => ∃ v2 v3, σ = [some (.ref a), some (.ref p), v2, v3] ∧ Keep (fun x => x = p) H1 H' ∧ LL H H' p ((List.range i).flatMap fun i => (K70.ordersOf m (l.take i ++ l.drop (i + 1))).map (l.getD i 0 :: ·)))
      ⟨none, none, rfl, Keep.refl, np, [], e1, .nil⟩ ?_ ?_
    · rintro i σ H2 hi ⟨v2, v3, rfl, k2, _, as, ep, ras⟩
      have hi' : i < m + 1 := by omega
      have ha2 := k2.at_ _ _ ha1 nap
      have ei : V.int (0 + (i : Int)) = nv i := by rw [Int.zero_add]
      -- items[:at] + items[at + 1:]
      refine ⟨_, rfl, .inl ⟨rfl, _, SqL.of ep⟩, ?_⟩
      refine ⟨_, rfl, _, rfl, (i : Int), ei, a, nvs l, rfl, SqL.of ha2, fun c1 n1 => ?_⟩
      rw [cut_take]
      have t1 := Same.newK (o := .lst (nvs (l.take i))) n1
      have f1 : (upd H2 c1 (.lst (nvs (l.take i)))) c1 = some (.lst (nvs (l.take i))) := upd_same
      generalize upd H2 c1 (.lst (nvs (l.take i))) = H3 at t1 f1
      refine ⟨_, rfl, _, rfl, i, 1, ei, rfl, ((i + 1 : Nat) : Int), rfl, a, nvs l, rfl, SqL.of (t1 _ _ ha2), fun c2 n2 => ?_⟩
      rw [cut_drop]
      have t2 := t1.trans (Same.newK (o := .lst (nvs (l.drop (i + 1)))) n2)
      have f1' := (Same.newK (o := .lst (nvs (l.drop (i + 1)))) n2) _ _ f1
      have f2 : (upd H3 c2 (.lst (nvs (l.drop (i + 1))))) c2 = some (.lst (nvs (l.drop (i + 1)))) := upd_same
      generalize upd H3 c2 (.lst (nvs (l.drop (i + 1)))) = H4 at t2 f1' f2
      have hlen : (l.take i ++ l.drop (i + 1)).length = m := by
        rw [List.length_append, List.length_take, List.length_drop]
        omega
      refine ⟨c1, c2, _, _, rfl, rfl, f1', f2, (by rw [← List.length_append, ← List.map_append, List.length_map, hlen]; exact small64 (by omega)), fun c3 n3 => ?_⟩
      rw [← List.map_append]
      have t3 := t2.trans (Same.newK (o := .lst (nvs (l.take i ++ l.drop (i + 1)))) n3)
      have f3 : (upd H4 c3 (.lst (nvs (l.take i ++ l.drop (i + 1))))) c3 = some (.lst (nvs (l.take i ++ l.drop (i + 1)))) := upd_same
      generalize upd H4 c3 (.lst (nvs (l.take i ++ l.drop (i + 1)))) = H5 at t3 f3
      -- orders_of(..)
      refine ⟨c3, l.take i ++ l.drop (i + 1), rfl, f3, by omega, by omega, fun q H6 s6 hq => ?_⟩
      rw [hlen] at hq
      obtain ⟨nq, bs, eq, rq⟩ := hq
      have t6 := t3.trans s6
      have hos := Paired.length rq
      have hos4 := K70.ordersOf_len m (l.take i ++ l.drop (i + 1)) (by omega)
      refine ⟨q, rfl, ⟨_, SqL.of eq⟩, fun D nD => ?_⟩
      have nqD : q ≠ D := ne_of_none eq nD
      have nDH : H D = none := s1.free (k2.back _ (t6.free nD))
      have npD : p ≠ D := ne_of_none (t6 _ _ ep) nD
      refine lc_list (K := K) (a := q) (xs := bs.map V.ref) (fun j H' => Same H6 H' ∧ ∃ cs : List Addr, H' D = some (.lst (cs.map V.ref)) ∧ Paired (fun c o => H' c = some (.lst (nvs o)) ∧ c ≠ p ∧ c ≠ D ∧ H c = none) cs (((K70.ordersOf m (l.take i ++ l.drop (i + 1))).take j).map (l.getD i 0 :: ·)))
        ⟨Same.newK nD, [], upd_same, .nil⟩ (fun j H' _ hP => SqL.of (hP.1 _ _ eq)) (fun j x H' hx hP => ?_) (fun H' hP => ?_)
      · obtain ⟨s7, cs, eD, rc⟩ := hP
        rw [List.getElem?_map] at hx
        obtain ⟨b, hb, rfl⟩ := Option.map_eq_some_iff.mp hx
        obtain ⟨o, ho, eb, nbq, nb⟩ := paired_get rq hb
        have hg : (nvs l)[i]? = some (nv (l.getD i 0)) := nvs_at (by rw [List.getD_eq_getElem?_getD, List.getElem?_eq_getElem (by omega)]; rfl)
        have ep7 := s7 _ _ (t6 _ _ ep)
        refine ⟨rfl, _, rfl, _, rfl, a, _, _, nv (l.getD i 0), rfl, ei.trans rfl, SqL.of (s7 _ _ (t6 _ _ ha2)), atI_nat hg, (by show 1 ≤ sizeLine; decide), fun u nu => ?_⟩
        have t7 := Same.newK (o := .lst [nv (l.getD i 0)]) nu
        have fu : (upd H' u (.lst [nv (l.getD i 0)])) u = some (.lst [nv (l.getD i 0)]) := upd_same
        generalize upd H' u (.lst [nv (l.getD i 0)]) = H7 at t7 fu
        have ho8 : o.length ≤ 4 := by
          have := (K70.ordersOf_perm m _ o hlen (List.mem_of_getElem? ho)).length_eq
          omega
        refine ⟨_, rfl, u, b, _, _, rfl, rfl, fu, t7 _ _ (s7 _ _ eb), (by rw [nvs_len]; exact small64 (by show 1 + o.length ≤ 4096; omega)), fun v nv' => ?_⟩
        have t8 := t7.trans (Same.newK (o := .lst ([nv (l.getD i 0)] ++ nvs o)) nv')
        have fv : (upd H7 v (.lst ([nv (l.getD i 0)] ++ nvs o))) v = some (.lst (nvs (l.getD i 0 :: o))) := upd_same
        have nv7 := t7.free nv'
        have nvD : v ≠ D := fun e => by rw [e, eD] at nv7; cases nv7
        have nvp : v ≠ p := fun e => by rw [e, ep7] at nv7; cases nv7
        have nvH : H v = none := s1.free (k2.back _ (t6.free (s7.free nv7)))
        generalize upd H7 v (.lst ([nv (l.getD i 0)] ++ nvs o)) = H8 at t8 fv
        have hcl : cs.length ≤ 24 := by
          have h1 := Paired.length rc
          rw [List.length_map] at h1
          have := List.length_take_le' j (K70.ordersOf m (l.take i ++ l.drop (i + 1)))
          omega
        refine ⟨_, t8 _ _ eD, (by rw [List.length_map]; exact small64' (by omega)), (s7.trans t8).mutK nD, cs ++ [v], ?_, ?_⟩
        · rw [upd_same, List.map_append]
          rfl
        · rw [List.take_add_one, ho, List.map_append]
          refine Paired.snoc (Paired.mapP rc fun _ _ z => ⟨by rw [upd_ne z.2.2.1]; exact t8 _ _ z.1, z.2⟩) ⟨by rw [upd_ne nvD]; exact fv, nvp, nvD, nvH⟩
      · obtain ⟨s7, cs, eD, rc⟩ := hP
        rw [List.length_map, hos, List.take_length] at rc
        have ep7 := s7 _ _ (t6 _ _ ep)
        have hcl := Paired.length rc
        rw [List.length_map] at hcl
        have hal := Paired.length ras
        refine ⟨p, D, _, _, rfl, rfl, ep7, eD, ?_, ?_⟩
        · rw [List.length_map, List.length_map, hal]
          have e1 : ((List.range i).flatMap fun i => (K70.ordersOf m (l.take i ++ l.drop (i + 1))).map (l.getD i 0 :: ·)).length ≤ 4 * 24 := by
            have : ∀ j, j ≤ 4 → ((List.range j).flatMap fun i => (K70.ordersOf m (l.take i ++ l.drop (i + 1))).map (l.getD i 0 :: ·)).length ≤ j * 24 := fun j => by
              induction j with
              | zero => intro _; exact Nat.zero_le _
              | succ j ih =>
                intro hj
                rw [List.range_succ, List.flatMap_append, List.length_append]
                have h1 := ih (by omega)
                have h2 := K70.ordersOf_len m (l.take j ++ l.drop (j + 1)) (by omega)
                rw [List.flatMap_cons, List.flatMap_nil, List.append_nil, List.length_map]
                omega
            have := this i (by omega)
            omega
          exact small64 (by omega)
        · refine ⟨_, _, rfl, ((k2.same t6).same s7).mut (.inl rfl), ?_⟩
          rw [List.range_succ, List.flatMap_append, List.flatMap_cons, List.flatMap_nil, List.append_nil]
          exact LL.append np (Paired.mapP ras fun _ _ z => ⟨s7 _ _ (t6 _ _ z.1), z.2⟩) (Paired.mapP rc fun _ _ z => ⟨z.1, z.2.1, z.2.2.2⟩)
    · rintro σ H2 ⟨v2, v3, rfl, k2, l2⟩
      refine ⟨_, rfl, k p H2 (fun b u e => k2.at_ _ _ (s1 _ _ e) (ne_of_none e np)) ?_⟩
      have em : (((m + 1 : Nat) : Int)).toNat = m + 1 := by omega
      rw [em] at l2
      exact l2
theorem ok_orders (F : TopFn K mg "orders_of" sOrders ["items"]) (mr : mg "range" = none) (ml : mg "len" = none) : ∀ n : Nat, Cal P w K mg base n "orders_of" (spOrders K n)
  | 0 => cal_never F fun vs H Q E h => by
      obtain ⟨_, _, _, _, h, _⟩ := h
      omega
  | n + 1 => ok_orders1 F (ok_orders F mr ml n) mr ml
end
end KW

/-! finesse.deals: squeezed -/
namespace KW
open PySem PySem.Spec PyProof.Rows L2
open K70 (PosOk DealOk Dealing suitCs sqF)
/-- the scope of the last comprehension -/
abbrev sqScope : Scope := { kind := .function, names := [(Str.ofString ".0", .local), (Str.ofString "hand", .local), (Str.ofString "mask_of", .globalImplicit), (Str.ofString "cards_of", .globalImplicit), (Str.ofString "moved", .free)], isGenerator := false, isCoroutine := false, more := [] }
abbrev sqN : List Str := ["deck", "hands", "taken", "suits", "small", "moved", "suit", "cards", "at", "card", "hand"]
section
variable {P : Program} {w : World} {K : PySem.W.Frag} {mg : Str → Option Value} {base : Heap}
theorem sc_sq : FnScope sqN ["deck", "hands"] (defScope sSqueezed) := ⟨rfl, rfl, rfl, by decide +kernel, rfl, by decide +kernel, by decide +kernel⟩
abbrev sqScopeC : Scope := { sqScope with names := [(Str.ofString ".0", .local), (Str.ofString "hand", .local), (Str.ofString "mask_of", .globalImplicit), (Str.ofString "cards_of", .globalImplicit), (Str.ofString "moved", .cell)] }
theorem sq_ok1 : BlkOk sqN (defScope sSqueezed) sqScope [("hand", 10)] := blkOk_by (by decide +kernel)
theorem orAll_lt {hs : List Nat} {n : Nat} (h : ∀ m ∈ hs, m < 2 ^ n) : K70.orAll hs < 2 ^ n := K70.lt_of_bits fun c hc => by
  obtain ⟨x, hx, hb⟩ := K70.test_orAll.mp hc
  exact K70.bit_lt (h x hx) hb
/-- what is moved so far -/
def Moved (kvs : List (Key × V)) (r t rr i j : Nat) : Prop := (∀ c, t.testBit c = true → c / r < i → valV kvs (Sum.inl (c : Int)) = some (nv (sqF r t rr c))) ∧ ∀ c ∈ (suitCs r t i).take j, valV kvs (Sum.inl (c : Int)) = some (nv (sqF r t rr c))
theorem Moved.put {kvs : List (Key × V)} {r t rr i j c : Nat} (h : Moved kvs r t rr i j) (hc : (suitCs r t i)[j]? = some c) : Moved (putK kvs (Sum.inl (c : Int)) (nv (sqF r t rr c))) r t rr i (j + 1) := by
  refine ⟨fun b hb hi => ?_, fun b hb => ?_⟩
  · rw [valV_put]
    by_cases e : (Sum.inl (b : Int) : Key) = Sum.inl (c : Int)
    · rw [if_pos e]
      have e2 : (b : Int) = c := Sum.inl.inj e
      have e3 : b = c := by omega
      rw [e3]
    · rw [if_neg e]
      exact h.1 b hb hi
  · rw [valV_put]
    by_cases e : (Sum.inl (b : Int) : Key) = Sum.inl (c : Int)
    · rw [if_pos e]
      have e2 : (b : Int) = c := Sum.inl.inj e
      have e3 : b = c := by omega
      rw [e3]
    · rw [if_neg e]
      rw [List.take_add_one, hc] at hb
      rcases List.mem_append.mp hb with hb | hb
      · exact h.2 b hb
      · have e3 : b = c := List.mem_singleton.mp hb
        rw [e3] at e
        exact absurd rfl e
theorem Moved.next {kvs : List (Key × V)} {r t rr i : Nat} (h : Moved kvs r t rr i (suitCs r t i).length) : Moved kvs r t rr (i + 1) 0 := by
  refine ⟨fun c hb hi => ?_, fun c hc => by rw [List.take_zero] at hc; cases hc⟩
  by_cases e : c / r < i
  · exact h.1 c hb e
  · refine h.2 c ?_
    rw [List.take_length]
    exact K70.mem_suitCs.mpr ⟨hb, by omega⟩
theorem ints_nvs (l : List Nat) : nvs l = (l.map fun n : Nat => (n : Int)).map V.int := by rw [List.map_map]; rfl
/-- the squeezed deal -/
def SqAt (H' : Hp) (p : Addr) (s r rr : Nat) (hs : List Nat) : Prop := ∃ d h, H' p = some (.tup [.ref d, .ref h]) ∧ H' d = some (.tup [nv s, nv rr]) ∧ H' h = some (.tup (nvs (K70.moveHands (sqF r (K70.orAll hs) rr) hs)))
def spSqueezed (K : PySem.W.Frag) : Sp := fun vs H Q _ => ∃ (d h : Addr) (s r : Nat) (hs : List Nat) (size : Nat), vs = [.ref d, .ref h] ∧ Deck K H d s r ∧ SqT K H h (nvs hs) ∧ DealOk s r hs size ∧
  ∀ p H' rr, Same H H' → 1 ≤ rr → rr ≤ 13 → (∀ x, x < s → (suitCs r (K70.orAll hs) x).length ≤ rr) → SqAt H' p s r rr hs → Q (.ref p) H'
theorem ok_squeezed (F : TopFn K mg "squeezed" sSqueezed ["deck", "hands"]) (cCa : Cal P w K mg base 1 "cards_of" spCards) (cOf : Cal P w K mg base 1 "of_suit" (spOfSuit K)) (cCd : Cal P w K mg base 1 "card_of" (spCard K)) (cMk : Cal P w K mg base 1 "mask_of" (spMask K))
    (mr : mg "range" = none) (ml : mg "len" = none) (mx : mg "max" = none) (me : mg "enumerate" = none) (mt : mg "tuple" = none) : Cal P w K mg base 2 "squeezed" (spSqueezed K) := by
  refine cal F sc_sq (fun vs H Q E h => ?_) (fun f cdv A outer s H vs Q E hr h => ?_)
  · obtain ⟨d, h, s, r, hs, size, rfl, _⟩ := h; rfl
  obtain ⟨d, h, s', r, hs, size, rfl, hd, hh, ok, q⟩ := h
  refine ⟨_, pss_cons (ps_set (i := 2) sc_sq.nd rfl (.inr rfl) (pe_op op_orN (pe_op op_orN (pe_op op_orN (pe_t (pv 1) pe_int) (pe_t (pv 1) pe_int)) (pe_t (pv 1) pe_int)) (pe_t (pv 1) pe_int)))
    (pss_cons (ps_setLc (i := 3) (own := [("suit", 6)]) (g := gName 6) (tt := tYes) rfl sc_sq.nd rfl rfl (sw_true rfl rfl rfl (by decide +kernel)) (pi_range1 rfl mr (pa_cons (pe_t (pv 0) pe_int) pa_nil)) (blkOk_by (own := [("suit", 6)]) (N := sqN) (sc := defScope sSqueezed) (by decide +kernel))
        (fun _ _ _ _ _ => pg_name (i := 6) sc_sq.nd rfl (Or.inl rfl)) (fun _ _ _ _ _ => pts_nil) (fun _ _ _ _ _ => pe_c cCa hr (by decide) (pa_cons (pe_c cOf hr (by decide) (pa_cons (pv 0) (pa_cons (pv 2) (pa_cons (pv 6) pa_nil)))) pa_nil)))
    (pss_cons (ps_set (i := 4) sc_sq.nd rfl (.inl rfl) (pe_tup (pa_cons (pe_t (pv 0) pe_int) (pa_cons (pe_callB (cr_max (by rfl)) (by rfl) mx (by decide +kernel) (pa_cons (pe_op op_cat (pe_lst (pa_cons pe_int pa_nil)) (pe_lc (own := [("cards", 7)]) (g := gName 7) (tt := tYes) (by rfl) sc_sq.nd (pi_list (pv 3)) (blkOk_by (own := [("cards", 7)]) (N := sqN) (sc := defScope sSqueezed) (by decide +kernel))
        (fun _ _ _ _ _ => pg_name (i := 7) sc_sq.nd rfl (Or.inl rfl)) (fun _ _ _ _ _ => pts_nil) (fun _ _ _ _ _ => pe_callB (call_lenK (K := K) rfl) (by rfl) ml PySem.boot_len (pa_cons (pv 7) pa_nil)))) pa_nil)) pa_nil))))
    (pss_cons (ps_set (i := 5) sc_sq.nd rfl (.inr rfl) pe_dnewK)
    (pss_cons (ps_for PassesOwn.never rfl (pi_enum rfl me (pa_cons (pv 3) pa_nil)) (pg_tup rfl (pgs_cons (pg_name (i := 6) sc_sq.nd rfl (.inl rfl)) (pgs_cons (pg_name (i := 7) sc_sq.nd rfl (.inl rfl)) pgs_nil)))
      (pss_one (ps_for PassesOwn.never rfl (pi_enum rfl me (pa_cons (pv 7) pa_nil)) (pg_tup rfl (pgs_cons (pg_name (i := 8) sc_sq.nd rfl (.inl rfl)) (pgs_cons (pg_name (i := 9) sc_sq.nd rfl (.inl rfl)) pgs_nil)))
        (pss_one (ps_dput (hu_of hr) (pv 5) (pv 9) (pe_c cCd hr (by decide) (pa_cons (pv 4) (pa_cons (pv 6) (pa_cons (pe_op op_addN (pe_op op_subN (pe_t (pv 4) pe_int) (pe_callB call_len_seq (by rfl) ml PySem.boot_len (pa_cons (pv 7) pa_nil))) (pv 8)) pa_nil)))) rfl)))))
    (pss_one (ps_ret (pe_tup (pa_cons (pv 4) (pa_cons (pe_callTy call_tuple_of (by rfl) mt (by decide +kernel) (pa_cons (pe_lc (own := [("hand", 10)]) (g := gName 10) (tt := tYes) (by rfl) sc_sq.nd (pi_tup (pv 1)) sq_ok1
        (fun _ _ _ _ _ => pg_name (i := 10) sc_sq.nd rfl (Or.inl rfl)) (fun _ _ _ _ _ => pts_nil)
        (fun _ _ _ _ _ => pe_c cMk hr (by decide) (pa_cons (pe_lc (own := [("card", 9)]) (g := gName 9) (tt := tYes) (by rfl) sc_sq.nd (pi_listK (K := K) rfl (pe_c cCa hr (by decide) (pa_cons (pv 10) pa_nil))) (blkOk_by (own := [("card", 9)]) (N := sqN) (sc := sqScopeC) (by decide +kernel))
          (fun _ _ _ _ _ => pg_name (i := 9) sc_sq.nd rfl (Or.inl rfl)) (fun _ _ _ _ _ => pts_nil) (fun _ _ _ _ _ => pe_dget (hu_of hr) (pv 5) (pv 9) (fun _ _ => rfl))) pa_nil))) pa_nil)) pa_nil))))))))), ?_⟩
  obtain ⟨m0, m1, m2, m3, ehs⟩ := four ok.len
  have h52 := ok.bits52
  have hsr := ok.sr
  have hr13 := ok.r13
  have hs4 := ok.s4
  have hr1 := ok.r1
  have ht52 : K70.orAll hs < 2 ^ 52 := orAll_lt h52
  have hor : m0 ||| m1 ||| m2 ||| m3 = K70.orAll hs := by
    rw [ehs]
    show _ = (((0 ||| m0) ||| m1) ||| m2) ||| m3
    rw [Nat.zero_or]
  have g0 : (nvs hs)[0]? = some (nv m0) := by rw [ehs]; rfl
  have g1 : (nvs hs)[1]? = some (nv m1) := by rw [ehs]; rfl
  have g2 : (nvs hs)[2]? = some (nv m2) := by rw [ehs]; rfl
  have g3 : (nvs hs)[3]? = some (nv m3) := by rw [ehs]; rfl
  -- taken
  refine ⟨_, rfl, h, _, 0, nv m0, rfl, rfl, hh, atI_nat (j := 0) g0, _, rfl, h, _, 1, nv m1, rfl, rfl, hh, atI_nat (j := 1) g1, m0, m1, rfl, rfl, _, rfl, h, _, 2, nv m2, rfl, rfl, hh, atI_nat (j := 2) g2, m0 ||| m1, m2, rfl, rfl, _, rfl, h, _, 3, nv m3, rfl, rfl, hh, atI_nat (j := 3) g3, m0 ||| m1 ||| m2, m3, rfl, rfl, ?_⟩
  dsimp only
  rw [hor]
  generalize htt : K70.orAll hs = t at ht52 q
  have hlen : ∀ x, (suitCs r t x).length ≤ r := fun x => K70.suitCs_len (by omega)
  -- suits
  refine ⟨_, rfl, d, _, 0, nv s', rfl, rfl, hd, atI_nat (j := 0) rfl, (s' : Int), rfl, by omega, by omega, fun su nsu => ?_⟩
  refine lc_range (lo := 0) (n := ((s' : Int) - 0).toNat) (fun i H' => Same H H' ∧ LL H H' su ((List.range i).map (suitCs r t))) ⟨Same.newK nsu, nsu, [], upd_same, .nil⟩ (fun i H' hi hP => ?_) (fun H1 hP => ?_)
  · obtain ⟨sm, _, as, eas, ras⟩ := hP
    have hi' : i < s' := by omega
    have hle : ofSuit r t i ≤ t := Nat.and_le_left
    refine ⟨rfl, _, rfl, _, rfl, _, rfl, d, s', r, t, i, (by rw [Int.zero_add]; rfl), sm.tupK hd, by omega, by omega, ?_, ofSuit r t i, rfl, pow52 (Nat.lt_of_le_of_lt hle ht52), fun b H2 s2 nb eb => ?_⟩
    · rw [Nat.one_shiftLeft]
      exact Nat.lt_of_le_of_lt (Nat.pow_le_pow_right (by decide) hr13) (by decide)
    have ecs : K70.cardsOf (ofSuit r t i) = suitCs r t i := K70.cardsOf_suit r t i (by omega)
    rw [ecs] at eb
    have eas2 := s2 _ _ eas
    have nbs : b ≠ su := fun e => by rw [e, eas] at nb; cases nb
    have hal := Paired.length ras
    rw [List.length_map, List.length_range] at hal
    refine ⟨_, eas2, (by rw [List.length_map, hal]; exact small64' (by omega)), (sm.trans s2).mutK nsu, ?_⟩
    rw [List.range_succ, List.map_append]
    exact LL.snoc nsu (Paired.mapP ras fun _ _ z => ⟨s2 _ _ z.1, z.2⟩) eb nbs (sm.free nb)
  obtain ⟨s1, _, as, eas, ras⟩ := hP
  have e00 : ((s' : Int) - 0).toNat = s' := by omega
  rw [e00] at ras
  have hal := Paired.length ras
  rw [List.length_map, List.length_range] at hal
  have getS : ∀ {i : Nat} {x : V}, (as.map V.ref)[i]? = some x → ∃ b, x = .ref b ∧ i < s' ∧ H1 b = some (.lst (nvs (suitCs r t i))) := fun {i x} hx => by
    rw [List.getElem?_map] at hx
    obtain ⟨b, hb, rfl⟩ := Option.map_eq_some_iff.mp hx
    obtain ⟨o, ho, eb, _⟩ := paired_get ras hb
    rw [List.getElem?_map] at ho
    obtain ⟨j, hj, rfl⟩ := Option.map_eq_some_iff.mp ho
    obtain ⟨hj1, hj2⟩ := List.getElem?_eq_some_iff.mp hj
    rw [List.getElem_range] at hj2
    subst hj2
    rw [List.length_range] at hj1
    exact ⟨b, rfl, hj1, eb⟩
  -- small
  refine ⟨_, rfl, d, _, 0, nv s', rfl, rfl, s1.tupK hd, atI_nat (j := 0) rfl, (by show 1 ≤ sizeLine; decide), fun b1 nb1 => ?_⟩
  have s2 := Same.newK (o := .lst [.int 1]) nb1
  have eb1 : (upd H1 b1 (.lst [.int 1])) b1 = some (.lst [.int 1]) := upd_same
  generalize upd H1 b1 (.lst [.int 1]) = H2 at s2 eb1
  refine ⟨_, rfl, su, rfl, ⟨_, SqL.of (s2 _ _ eas)⟩, fun D2 nD2 => ?_⟩
  have nsD : su ≠ D2 := ne_of_none (s2 _ _ eas) nD2
  refine lc_list (K := K) (a := su) (xs := as.map V.ref) (fun i H' => H' = upd H2 D2 (.lst (nvs ((List.range i).map fun x => (suitCs r t x).length)))) rfl (fun i H' _ e => by rw [e]; exact SqL.of (by rw [upd_ne nsD]; exact s2 _ _ eas)) (fun i x H' hx e => ?_) (fun H3 e => ?_)
  · obtain ⟨b, rfl, hi, eb⟩ := getS hx
    subst e
    refine ⟨rfl, _, rfl, b, _, rfl, .inl (SqL.of ((Same.newK nD2) _ _ (s2 _ _ eb))), _, upd_same, (by rw [nvs_len, List.length_map, List.length_range]; exact small64' (by omega)), ?_⟩
    rw [upd_upd, nvs_len, List.range_succ, List.map_append]
    exact congrArg (fun l => upd H2 D2 (HO.lst l)) (nvs_app _ _)
  rw [List.length_map, hal] at e
  have s3 : Same H2 H3 := by rw [e]; exact Same.newK nD2
  have eD2 : H3 D2 = some (.lst (nvs ((List.range s').map fun x => (suitCs r t x).length))) := by rw [e]; exact upd_same
  refine ⟨b1, D2, _, _, rfl, rfl, s3 _ _ eb1, eD2, (by rw [nvs_len, List.length_map, List.length_range]; exact small64 (by show 1 + s' ≤ 4096; omega)), fun b3 nb3 => ?_⟩
  have el : [V.int 1] ++ nvs ((List.range s').map fun x => (suitCs r t x).length) = ((1 :: (List.range s').map fun x => (suitCs r t x).length).map fun n : Nat => (n : Int)).map V.int := by
    rw [← ints_nvs]
    rfl
  rw [el]
  have s4 := s3.trans (Same.newK (o := .lst (((1 :: (List.range s').map fun x => (suitCs r t x).length).map fun n : Nat => (n : Int)).map V.int)) nb3)
  have eb3 : (upd H3 b3 (.lst (((1 :: (List.range s').map fun x => (suitCs r t x).length).map fun n : Nat => (n : Int)).map V.int))) b3 = some (.lst (((1 :: (List.range s').map fun x => (suitCs r t x).length).map fun n : Nat => (n : Int)).map V.int)) := upd_same
  generalize upd H3 b3 (.lst (((1 :: (List.range s').map fun x => (suitCs r t x).length).map fun n : Nat => (n : Int)).map V.int)) = H4 at s4 eb3
  refine ⟨b3, _, rfl, SqL.of eb3, (by rw [List.length_map]; exact Nat.succ_pos _), fun m hm hmx => ?_⟩
  obtain ⟨rr, hrr, rfl⟩ := List.mem_map.mp hm
  have hrr1 : 1 ≤ rr := by
    have := hmx 1 (List.mem_map.mpr ⟨1, List.mem_cons_self, rfl⟩)
    omega
  have hrr13 : rr ≤ 13 := by
    rcases List.mem_cons.mp hrr with e | e
    · omega
    · obtain ⟨x, _, rfl⟩ := List.mem_map.mp e
      have := hlen x
      omega
  have hfit : ∀ x, x < s' → (suitCs r t x).length ≤ rr := fun x hx => by
    have := hmx (((suitCs r t x).length : Nat) : Int) (List.mem_map.mpr ⟨_, List.mem_cons_of_mem _ (List.mem_map.mpr ⟨x, List.mem_range.mpr hx, rfl⟩), rfl⟩)
    omega
  refine ⟨(by show 2 ≤ sizeLine; decide), fun z nz => ?_⟩
  have s5 := (s1.trans (s2.trans s4)).trans (Same.newK (o := .tup [nv s', nv rr]) nz)
  have s51 := (s2.trans s4).trans (Same.newK (o := .tup [nv s', nv rr]) nz)
  have ez : (upd H4 z (.tup [nv s', nv rr])) z = some (.tup [nv s', nv rr]) := upd_same
  generalize upd H4 z (.tup [nv s', nv rr]) = H5 at s5 s51 ez
  -- moved = {}
  intro md nmd
  have s6 := s5.trans (Same.newK (o := .dK []) nmd)
  have s61 := s51.trans (Same.newK (o := .dK []) nmd)
  have ez6 := (Same.newK (o := .dK []) nmd) _ _ ez
  have emd : (upd H5 md (.dK [])) md = some (.dK []) := upd_same
  have nmdH : H md = none := s5.free nmd
  generalize upd H5 md (.dK []) = H6 at s6 s61 ez6 emd
  have nzm : z ≠ md := ne_of ez6 emd (fun z => nomatch z)
  have nsm : su ≠ md := ne_of (s61 _ _ eas) emd (fun z => nomatch z)
  have nmT : ∀ {b : Addr} {xs : List V}, H6 b = some (.lst xs) → b ≠ md := fun e => ne_of e emd (fun z => nomatch z)
  refine ⟨.ref su, rfl, su, _, rfl, SqL.of (s61 _ _ eas), ?_⟩
  refine for_it (walk_enum (xs := as.map V.ref)) (fun i σ H' => ∃ v6 v7 v8 v9 v10 kvs, σ = [some (.ref d), some (.ref h), some (nv t), some (.ref su), some (.ref z), some (.ref md), v6, v7, v8, v9, v10] ∧ Keep (fun x => x = md) H6 H' ∧ H' md = some (.dK kvs) ∧ kvs.length ≤ i * 13 ∧ Moved kvs r t rr i 0)
    ⟨none, none, none, none, none, [], rfl, Keep.refl, emd, Nat.zero_le _, (fun c _ hc => absurd hc (Nat.not_lt_zero _)), fun c hc => by rw [List.take_zero] at hc; cases hc⟩ (fun i σ H' _ ⟨_, _, _, _, _, _, _, kk, _⟩ => SqL.of (kk.at_ _ _ (s61 _ _ eas) nsm)) ?_ ?_
  · rintro i x σ H7 H8 hi ⟨v6, v7, v8, v9, v10, kvs, rfl, k7, ed7, hl7, mv⟩ ⟨T, x1, x2, rfl, nT, rfl, e1, e2⟩
    cases e1
    obtain ⟨b, rfl, hi', eb⟩ := getS e2
    have eb7 := k7.at_ _ _ (s61 _ _ eb) (nmT (s61 _ _ eb))
    have nTm : md ≠ T := ne_of_none ed7 nT
    have k8 : Keep (fun x => x = md) H6 (upd H7 T (.tup [V.int (i : Nat), V.ref b])) := k7.new nT
    have ed8 : (upd H7 T (.tup [V.int (i : Nat), V.ref b])) md = some (.dK kvs) := (Same.newK nT) _ _ ed7
    have eb8 : (upd H7 T (.tup [V.int (i : Nat), V.ref b])) b = some (.lst (nvs (suitCs r t i))) := (Same.newK nT) _ _ eb7
    refine ⟨T, _, rfl, .inl (.inl upd_same), rfl, _, _, rfl, _, _, rfl, rfl, ?_⟩
    generalize upd H7 T (.tup [V.int (i : Nat), V.ref b]) = H8 at k8 ed8 eb8
    refine ⟨.ref b, rfl, b, _, rfl, SqL.of eb8, ?_⟩
    refine for_it (walk_enum (xs := nvs (suitCs r t i))) (fun j σ H' => ∃ v8 v9 kvs, σ = [some (.ref d), some (.ref h), some (nv t), some (.ref su), some (.ref z), some (.ref md), some (nv i), some (.ref b), v8, v9, v10] ∧ Keep (fun x => x = md) H6 H' ∧ H' md = some (.dK kvs) ∧ kvs.length ≤ i * 13 + j ∧ Moved kvs r t rr i j ∧ H' b = some (.lst (nvs (suitCs r t i))))
      ⟨v8, v9, kvs, rfl, k8, ed8, by omega, mv, eb8⟩ (fun j σ H' _ ⟨_, _, _, _, _, _, _, _, e⟩ => SqL.of e) ?_ ?_
    · rintro j x σ H9 H10 hj ⟨v8, v9, kvs, rfl, k9, ed9, hl9, mv9, eb9⟩ ⟨T2, y1, y2, rfl, nT2, rfl, f1, f2⟩
      cases f1
      obtain ⟨c, hc, rfl⟩ := nv_get f2
      have hj' : j < (suitCs r t i).length := (List.getElem?_eq_some_iff.mp hc).1
      have hci := (K70.mem_suitCs.mp (List.mem_of_getElem? hc)).2
      have k10 : Keep (fun x => x = md) H6 (upd H9 T2 (.tup [V.int (j : Nat), nv c])) := k9.new nT2
      have ed10 := (Same.newK (o := .tup [V.int (j : Nat), nv c]) nT2) _ _ ed9
      have eb10 := (Same.newK (o := .tup [V.int (j : Nat), nv c]) nT2) _ _ eb9
      refine ⟨T2, _, rfl, .inl (.inl upd_same), rfl, _, _, rfl, _, _, rfl, rfl, ?_⟩
      generalize upd H9 T2 (.tup [V.int (j : Nat), nv c]) = H10 at k10 ed10 eb10
      have ez10 := k10.at_ _ _ ez6 nzm
      have hl := hlen i
      have hf := hfit i hi'
      refine ⟨_, rfl, _, rfl, _, rfl, z, _, 1, nv rr, rfl, rfl, SqT.of ez10, atI_nat (j := 1) rfl, _, rfl, b, _, rfl, .inl (SqL.of eb10), rr, (nvs (suitCs r t i)).length, rfl, rfl, (by rw [nvs_len]; exact hf), _, rfl, rr - (nvs (suitCs r t i)).length, j, rfl, rfl, ?_⟩
      rw [nvs_len]
      refine ⟨z, s', rr, i, rr - (suitCs r t i).length + j, rfl, SqT.of ez10, by omega, ?_⟩
      have eval : i * rr + (rr - (suitCs r t i).length + j) = sqF r t rr c := by
        unfold K70.sqF
        rw [hci]
        have hid : (suitCs r t i).idxOf c = j := by
          have h1 : (suitCs r t i)[j] = c := (List.getElem?_eq_some_iff.mp hc).2
          rw [← h1]
          exact (K70.suitCs_nodup r t i).idxOf_getElem j hj'
        rw [hid]
      rw [eval]
      refine ⟨_, rfl, _, rfl, md, _, rfl, DPut.k (k := Sum.inl (c : Int)) ed10 (small64' (by
        have : i * 13 ≤ 3 * 13 := Nat.mul_le_mul_right _ (by omega)
        omega)), ?_⟩
      have hput := length_putK kvs (Sum.inl (c : Int) : Key) (nv (sqF r t rr c))
      refine ⟨_, _, _, rfl, k10.mut (.inl rfl), upd_same, by omega, mv9.put hc, ?_⟩
      rw [upd_ne (ne_of eb10 ed10 (fun z => nomatch z))]
      exact eb10
    · rintro σ H9 ⟨v8, v9, kvs, rfl, k9, ed9, hl9, mv9, eb9⟩
      rw [nvs_len] at hl9 mv9
      have hl := hlen i
      exact ⟨_, _, _, _, _, kvs, rfl, k9, ed9, by rw [Nat.add_mul]; omega, mv9.next⟩
  · rintro σ H7 ⟨v6, v7, v8, v9, v10, kvs, rfl, k7, ed7, hl7, mv⟩
    rw [List.length_map, hal] at mv
    have ez7 := k7.at_ _ _ ez6 nzm
    have S7 : Same H H7 := fun b o e => k7.at_ _ _ (s6 _ _ e) (ne_of_none e nmdH)
    have hmvs : ∀ c, t.testBit c = true → c < s' * r → valV kvs (Sum.inl (c : Int)) = some (nv (sqF r t rr c)) := fun c hb hc => mv.1 c hb (Nat.div_lt_of_lt_mul (by rw [Nat.mul_comm]; exact hc))
    have hin : ∀ m ∈ hs, ∀ c, m.testBit c = true → t.testBit c = true ∧ c < s' * r := fun m hm c hc => ⟨by rw [← htt]; exact K70.test_orAll.mpr ⟨m, hm, hc⟩, K70.bit_lt (ok.bits m hm) hc⟩
    clear mv
    refine ⟨_, rfl, _, rfl, h, rfl, ⟨_, S7.tupK hh⟩, fun D3 nD3 => ?_⟩
    refine lc_tup (K := K) (a := h) (xs := nvs hs) (fun i H' => Same H7 H' ∧ H' D3 = some (.lst (nvs (K70.moveHands (sqF r t rr) (hs.take i))))) ⟨Same.newK nD3, upd_same⟩ (fun i H' _ hP => (S7.trans hP.1).tupK hh) (fun i x H8 hx hP => ?_) (fun H8 hP => ?_)
    · obtain ⟨m, hm, rfl⟩ := nv_get hx
      obtain ⟨s8, eD8⟩ := hP
      have hmem := List.mem_of_getElem? hm
      have hil : i < hs.length := (List.getElem?_eq_some_iff.mp hm).1
      have hcl52 : (K70.cardsOf m).length ≤ 52 := by rw [K70.cardsOf_eq (h52 m hmem)]; exact bits_len _ _
      refine ⟨rfl, _, rfl, m, rfl, pow52 (h52 m hmem), fun cl H9 s9 ncl ecl => ?_⟩
      refine ⟨cl, rfl, ⟨_, SqL.of ecl⟩, fun D4 nD4 => ?_⟩
      have nclD : cl ≠ D4 := ne_of_none ecl nD4
      have s89 := s8.trans s9
      have ed9 := s89 _ _ ed7
      refine lc_list (K := K) (a := cl) (xs := nvs (K70.cardsOf m)) (fun j H' => H' = upd H9 D4 (.lst (nvs (((K70.cardsOf m).take j).map (sqF r t rr))))) rfl (fun j H' _ e => by rw [e]; exact SqL.of (by rw [upd_ne nclD]; exact ecl)) (fun j x H' hx e => ?_) (fun H' e => ?_)
      · obtain ⟨c, hc, rfl⟩ := nv_get hx
        subst e
        obtain ⟨hc1, hc2⟩ := hin m hmem c (K70.mem_cardsOf.mp (List.mem_of_getElem? hc))
        have hv := hmvs c hc1 hc2
        have hget : DGet (upd H9 D4 (.lst (nvs (((K70.cardsOf m).take j).map (sqF r t rr))))) md (nv c) (some (nv (sqF r t rr c))) := by
          rw [← hv]
          exact DGet.k (k := Sum.inl (c : Int)) ((Same.newK nD4) _ _ ed9)
        refine ⟨rfl, _, rfl, _, rfl, md, _, rfl, hget, _, upd_same, ?_, ?_⟩
        · rw [nvs_len, List.length_map]
          have h2 : ((K70.cardsOf m).take j).length ≤ (K70.cardsOf m).length := List.length_take_le' _ _
          exact small64' (by omega)
        · rw [upd_upd, List.take_add_one, hc, List.map_append]
          exact congrArg (fun l => upd H9 D4 (HO.lst l)) (nvs_app _ _)
      · rw [nvs_len, List.take_length] at e
        have sD : Same H9 H' := by rw [e]; exact Same.newK nD4
        have eD4 : H' D4 = some (.lst (nvs ((K70.cardsOf m).map (sqF r t rr)))) := by rw [e]; exact upd_same
        refine ⟨D4, _, rfl, SqL.of eD4, fun c hc => ?_, ?_⟩
        · obtain ⟨b, hbm, rfl⟩ := List.mem_map.mp hc
          obtain ⟨hc1, hc2⟩ := hin m hmem b (K70.mem_cardsOf.mp hbm)
          have hd : b / r < s' := Nat.div_lt_of_lt_mul (by rw [Nat.mul_comm]; exact hc2)
          have hx := hfit (b / r) hd
          have hix : (suitCs r t (b / r)).idxOf b < (suitCs r t (b / r)).length := List.idxOf_lt_length_of_mem (K70.mem_suitCs.mpr ⟨hc1, rfl⟩)
          have : b / r * rr ≤ 3 * 13 := Nat.mul_le_mul (by omega) hrr13
          unfold sqF
          omega
        · refine ⟨_, (s9.trans sD) _ _ eD8, ?_, (s89.trans sD).mutK nD3, ?_⟩
          · rw [nvs_len]
            unfold K70.moveHands
            rw [List.length_map, List.length_take]
            have := ok.len
            exact small64' (by omega)
          · rw [upd_same, List.take_add_one, hm, nvs_app]
            unfold K70.moveHands
            rw [List.map_append]
            rfl
    · obtain ⟨s8, eD8⟩ := hP
      rw [nvs_len, List.take_length] at eD8
      refine ⟨D3, _, rfl, .inl ⟨SqL.of eD8, fun tp ntp => ⟨(by show 2 ≤ sizeLine; decide), fun p np => ?_⟩⟩⟩
      have s9 := s8.trans (Same.newK (o := .tup (nvs (K70.moveHands (sqF r t rr) hs))) ntp)
      have s10 := s9.trans (Same.newK (o := .tup [.ref z, .ref tp]) np)
      exact q p _ rr (S7.trans s10) hrr1 hrr13 hfit ⟨z, tp, upd_same, s10 _ _ ez7, by rw [htt]; exact (Same.newK np) _ _ upd_same⟩
end
end KW

/-! finesse.alike: standard -/
namespace KW
open PySem PySem.Spec PyProof.Rows L2
open K70 (PosOk DealOk Dealing suitCs sqF suitF moveHands turnedL withTrump)
section
variable {P : Program} {w : World} {K : PySem.W.Frag} {mg : Str → Option Value} {base : Heap}
theorem sc_std : FnScope ["deck", "hands", "trump", "leader", "small", "moved", "found", "order"] ["deck", "hands", "trump", "leader"] (defScope sStandard) := ⟨rfl, rfl, rfl, by decide +kernel, rfl, by decide +kernel, by decide +kernel⟩
theorem in_marks (i : Int) : inV (.int i) [.int (-1), .int 0] = decide (i = -1 ∨ i = 0) := by
  unfold inV
  rw [Bool.eq_iff_iff]
  simp [eqV, List.any_cons]
  omega
/-- a standard form of the deal -/
def Good (H' : Hp) (a : Addr) (s rr : Nat) (t : Int) (hs : List Nat) : Prop := ∃ (o : List Nat) (d h : Addr), o.Perm (List.range s) ∧ (withTrump t o = -1 ∨ withTrump t o = 0) ∧ H' a = some (.tup [.ref d, .ref h, .int (withTrump t o)]) ∧ H' d = some (.tup [nv s, nv rr]) ∧ H' h = some (.tup (nvs (moveHands (suitF rr o) hs)))
theorem Good.keep {H H' : Hp} {a p : Addr} {s rr : Nat} {t : Int} {hs : List Nat} {xs : List V} (g : Good H a s rr t hs) (k : Keep (fun x => x = p) H H') (e : H p = some (.lst xs)) : Good H' a s rr t hs := by
  obtain ⟨o, d, h, h1, h2, h3, h4, h5⟩ := g
  exact ⟨o, d, h, h1, h2, k.at_ _ _ h3 (ne_of h3 e (fun z => nomatch z)), k.at_ _ _ h4 (ne_of h4 e (fun z => nomatch z)), k.at_ _ _ h5 (ne_of h5 e (fun z => nomatch z))⟩
def spStandard (K : PySem.W.Frag) : Sp := fun vs H Q _ => ∃ (d h : Addr) (s r : Nat) (hs : List Nat) (size : Nat) (t : Int) (l : Nat), vs = [.ref d, .ref h, .int t, nv l] ∧ Deck K H d s r ∧ SqT K H h (nvs hs) ∧ DealOk s r hs size ∧ -1 ≤ t ∧ t < s ∧ l < 4 ∧
  ∀ z H' rr, Same H H' → 1 ≤ rr → rr ≤ 13 → K70.Fits s r rr (turnedL hs ((4 - l) % 4)) → Good H' z s rr t (moveHands (sqF r (K70.orAll (turnedL hs ((4 - l) % 4))) rr) (turnedL hs ((4 - l) % 4))) → Q (.ref z) H'
theorem ok_standard (F : TopFn K mg "standard" sStandard ["deck", "hands", "trump", "leader"]) (cT : Cal P w K mg base 1 "turned" (spTurned K)) (cSq : Cal P w K mg base 2 "squeezed" (spSqueezed K)) (cO : Cal P w K mg base 5 "orders_of" (spOrders K 5)) (cWS : Cal P w K mg base 2 "with_suits" (spWSuits K)) (cWT : Cal P w K mg base 1 "with_trump" (spWTrump K))
    (mr : mg "range" = none) (mli : mg "list" = none) (mn : mg "min" = none) : Cal P w K mg base 6 "standard" (spStandard K) := by
  refine cal F sc_std (fun vs H Q E h => ?_) (fun f cdv A outer s H vs Q E hr h => ?_)
  · obtain ⟨d, h, s, r, hs, size, t, l, rfl, _⟩ := h; rfl
  obtain ⟨d, h, s', r, hs, size, t, l, rfl, hd, hh, ok, ht1, ht2, hl, q⟩ := h
  refine ⟨_, pss_cons (ps_asg (pe_c cSq hr (by decide) (pa_cons (pv 0) (pa_cons (pe_c cT hr (by decide) (pa_cons (pv 1) (pa_cons (pe_op op_modNN (pe_op op_subN pe_int (pv 3)) pe_int) pa_nil))) pa_nil))) (pg_tup rfl (pgs_cons (pg_name (i := 4) sc_std.nd rfl (.inl rfl)) (pgs_cons (pg_name (i := 5) sc_std.nd rfl (.inl rfl)) pgs_nil))))
    (pss_cons (ps_set (i := 6) sc_std.nd rfl (.inl rfl) (pe_lst pa_nil))
    (pss_cons (ps_for PassesOwn.never rfl (pi_list (pe_c cO hr (by decide) (pa_cons (pe_listRg (by rfl) (by rfl) mli (prg_1 (by rfl) mr (pe_t (pv 0) pe_int))) pa_nil))) (pg_name (i := 7) sc_std.nd rfl (.inl rfl))
      (pss_one (ps_if (pt_cmpR op_in_seq (pe_c cWT hr (by decide) (pa_cons (pv 2) (pa_cons (pv 7) pa_nil))) (pe_tup (pa_cons (pe_un un_neg pe_int) (pa_cons pe_int pa_nil))) (by rfl))
        (pss_one (ps_expr (pe_app (pv 6) (pa_cons (pe_tup (pa_cons (pv 4) (pa_cons (pe_c cWS hr (by decide) (pa_cons (pv 4) (pa_cons (pv 5) (pa_cons (pv 7) pa_nil)))) (pa_cons (pe_c cWT hr (by decide) (pa_cons (pv 2) (pa_cons (pv 7) pa_nil))) pa_nil)))) pa_nil)))) pss_nil)))
    (pss_one (ps_ret (pe_callB (call_minStd (by rfl) hr.units) (by rfl) mn (by decide +kernel) (pa_cons (pv 6) pa_nil)))))), ?_⟩
  -- squeezed(deck, turned(hands, ..))
  refine ⟨_, rfl, _, rfl, _, rfl, 4, l, rfl, rfl, (by show l ≤ 4; omega), 4 - l, 4, rfl, rfl, (by show 0 < 4; decide), ?_⟩
  have hk4 : (4 - l) % 4 ≤ 4 := by omega
  refine ⟨h, hs, (4 - l) % 4, rfl, hh, ok.len, hk4, fun h1 H1 s1 eh1 => ?_⟩
  have ok1 := ok.turned hk4
  refine ⟨d, h1, s', r, turnedL hs ((4 - l) % 4), size, rfl, s1.tupK hd, SqT.of eh1, ok1, fun z H2 rr s2 hr1 hr13 hfit hsq => ?_⟩
  obtain ⟨sd, sh, ez, esd, esh⟩ := hsq
  have ok2 := K70.sq_ok ok1 hr1 hr13 hfit
  have q := fun z H' => q z H' rr
  generalize moveHands (sqF r (K70.orAll (turnedL hs ((4 - l) % 4))) rr) (turnedL hs ((4 - l) % 4)) = hs2 at esh ok2 q
  refine ⟨z, _, rfl, SqT.of ez, rfl, _, _, rfl, _, _, rfl, rfl, ?_⟩
  -- found = []
  refine ⟨Nat.zero_le _, fun p np => ?_⟩
  have s3 := Same.newK (o := .lst []) np
  have ep : (upd H2 p (.lst [])) p = some (.lst []) := upd_same
  have npH : H p = none := (s1.trans s2).free np
  generalize upd H2 p (.lst []) = H3 at s3 ep
  have s123 := (s1.trans s2).trans s3
  -- orders_of(list(range(deck[0])))
  have hs4 := ok.s4
  have hs1 := ok.s1
  refine ⟨_, rfl, d, _, 0, nv s', rfl, rfl, s123.tupK hd, atI_nat (j := 0) rfl, (s' : Int), rfl, RgOk.of_le (by decide) (by omega) (by decide) (by omega), fun c nc => ?_⟩
  rw [rgV_nvs]
  have s4 := Same.newK (o := .lst (nvs (List.range s'))) nc
  have ec : (upd H3 c (.lst (nvs (List.range s')))) c = some (.lst (nvs (List.range s'))) := upd_same
  generalize upd H3 c (.lst (nvs (List.range s'))) = H4 at s4 ec
  refine ⟨c, List.range s', rfl, ec, by rw [List.length_range]; omega, by rw [List.length_range]; omega, fun qa H5 s5 hq => ?_⟩
  rw [List.length_range] at hq
  obtain ⟨nq, as, eq, rq⟩ := hq
  have hos := Paired.length rq
  have hos4 := K70.ordersOf_len s' (List.range s') hs4
  have ep5 := s5 _ _ (s4 _ _ ep)
  have s25 := s3.trans (s4.trans s5)
  have esd5 := s25 _ _ esd
  have esh5 := s25 _ _ esh
  have nqp : p ≠ qa := ne_of_none (s4 _ _ ep) nq
  have hperm : ∀ o ∈ K70.ordersOf s' (List.range s'), o.Perm (List.range s') := fun o ho => K70.ordersOf_perm s' _ o List.length_range ho
  refine ⟨qa, rfl, ⟨_, SqL.of eq⟩, ?_⟩
  refine for_list (K := K) (a := qa) (xs := as.map V.ref) (fun i σ H' => ∃ v7 gs, σ = [some (.ref d), some (.ref h), some (.int t), some (nv l), some (.ref sd), some (.ref sh), some (.ref p), v7] ∧ Keep (fun x => x = p) H5 H' ∧ H' p = some (.lst ((gs : List Addr).map V.ref)) ∧ gs.length ≤ i ∧ (∀ a ∈ gs, Good H' a s' rr t hs2) ∧
      (∀ o ∈ (K70.ordersOf s' (List.range s')).take i, (withTrump t o = -1 ∨ withTrump t o = 0) → gs ≠ []))
    ⟨none, [], rfl, Keep.refl, ep5, Nat.zero_le _, (fun a ha => nomatch ha), fun o ho => by rw [List.take_zero] at ho; cases ho⟩ (fun i σ H' _ ⟨_, _, _, kk, _⟩ => SqL.of (kk.at_ _ _ eq nqp.symm)) ?_ ?_
  · rintro i x σ H6 hx ⟨v7, gs, rfl, k6, ep6, hgl, hgs, hne⟩
    rw [List.getElem?_map] at hx
    obtain ⟨b, hb, rfl⟩ := Option.map_eq_some_iff.mp hx
    obtain ⟨o, ho, eb, _, nb⟩ := paired_get rq hb
    have nbp : b ≠ p := fun e => by rw [e, s4 _ _ ep] at nb; cases nb
    have eb6 := k6.at_ _ _ eb nbp
    have hop := hperm o (List.mem_of_getElem? ho)
    have hol : o.length = s' := by rw [hop.length_eq, List.length_range]
    have hi : i < (K70.ordersOf s' (List.range s')).length := (List.getElem?_eq_some_iff.mp ho).1
    have esd6 := k6.at_ _ _ esd5 (ne_of esd5 ep5 (fun z => nomatch z))
    have esh6 := k6.at_ _ _ esh5 (ne_of esh5 ep5 (fun z => nomatch z))
    refine ⟨_, rfl, _, rfl, b, t, o, rfl, SqL.of eb6, ht1, by omega, ?_⟩
    refine ⟨1, rfl, (by show 2 ≤ sizeLine; decide), fun m nm => ?_⟩
    have s7 := Same.newK (o := .tup [.int (-1), .int 0]) nm
    have em : (upd H6 m (.tup [.int (-1), .int 0])) m = some (.tup [.int (-1), .int 0]) := upd_same
    generalize upd H6 m (.tup [.int (-1), .int 0]) = H7 at s7 em
    have k7 := k6.same s7
    have ep7 := s7 _ _ ep6
    refine ⟨m, _, rfl, .inr (SqT.of em), rfl, rfl, _, rfl, ?_⟩
    dsimp only
    rw [in_marks]
    by_cases hw : withTrump t o = -1 ∨ withTrump t o = 0
    · rw [decide_eq_true hw]
      refine iteT ?_
      refine ⟨_, rfl, .inl ⟨rfl, _, SqL.of ep7⟩, _, rfl, _, rfl, _, rfl, _, rfl, sd, sh, b, s', rr, hs2, o, rfl, SqT.of (s7 _ _ esd6), SqT.of (s7 _ _ esh6), SqL.of (s7 _ _ eb6), hs4, hr1, hr13, by rw [ok2.len]; exact Nat.le_refl _, ok2.bits, hol, K70.perm_lt hop, fun wh H8 s8 ewh => ?_⟩
      have s78 := s7.trans s8
      refine ⟨_, rfl, _, rfl, b, t, o, rfl, SqL.of (s78 _ _ eb6), ht1, by omega, (by show 3 ≤ sizeLine; decide), fun n nn => ?_⟩
      have s9 := s78.trans (Same.newK (o := .tup [.ref sd, .ref wh, .int (withTrump t o)]) nn)
      have en : (upd H8 n (.tup [.ref sd, .ref wh, .int (withTrump t o)])) n = some (.tup [.ref sd, .ref wh, .int (withTrump t o)]) := upd_same
      have ewh9 := (Same.newK (o := .tup [.ref sd, .ref wh, .int (withTrump t o)]) nn) _ _ ewh
      generalize upd H8 n (.tup [.ref sd, .ref wh, .int (withTrump t o)]) = H9 at s9 en ewh9
      have ep9 := s9 _ _ ep6
      have esd9 := s9 _ _ esd6
      have gn : Good H9 n s' rr t hs2 := ⟨o, sd, wh, hop, hw, en, esd9, ewh9⟩
      refine ⟨p, _, _, rfl, rfl, ep9, (by rw [List.length_map]; exact small64' (by omega)), ?_⟩
      refine ⟨_, gs ++ [n], rfl, (k6.same s9).mut (.inl rfl), ?_, ?_, fun a ha => ?_, fun o' ho' hw' => by simp⟩
      · rw [upd_same, List.map_append]
        rfl
      · rw [List.length_append, List.length_singleton]
        omega
      · have kp : Keep (fun x => x = p) H9 (upd H9 p (.lst (gs.map V.ref ++ [V.ref n]))) := Keep.put
        rcases List.mem_append.mp ha with ha | ha
        · exact ((hgs a ha).keep (Keep.of_same s9) ep6).keep kp ep9
        · rw [List.mem_singleton.mp ha]
          exact gn.keep kp ep9
    · rw [decide_eq_false hw]
      refine iteF ?_
      refine ⟨_, gs, rfl, k7, ep7, by omega, fun a ha => (hgs a ha).keep (Keep.of_same s7) ep6, fun o' ho' hw' => ?_⟩
      rw [List.take_add_one, ho] at ho'
      rcases List.mem_append.mp ho' with ho' | ho'
      · exact hne o' ho' hw'
      · rw [show o' = o from List.mem_singleton.mp ho'] at hw'
        exact absurd hw' hw
  · rintro σ H6 ⟨v7, gs, rfl, k6, ep6, hgl, hgs, hne⟩
    rw [List.length_map, hos, List.take_length] at hne
    have hgne : gs ≠ [] := by
      by_cases z : t < 0
      · obtain ⟨o, ho⟩ := List.exists_mem_of_ne_nil _ (K70.ordersOf_ne s' (List.range s'))
        exact hne o ho (.inl (by unfold withTrump; rw [if_pos z]))
      · obtain ⟨o, ho, e⟩ := K70.ordersOf_at s' (List.range s') 0 t.toNat List.length_range (List.mem_range.mpr (by omega)) (by omega)
        exact hne o ho (.inr (by unfold withTrump; rw [if_neg z, e]; rfl))
    refine ⟨_, rfl, p, gs, rfl, SqL.of ep6, hgne, fun a ha => ?_, fun a ha => ?_⟩
    · obtain ⟨o, d', h', _, _, e1, e2, e3⟩ := hgs a ha
      refine ⟨d', h', s', rr, _, _, e1, e2, e3, ?_⟩
      unfold moveHands
      rw [List.length_map]
      exact ok2.len
    · have S : Same H H6 := fun b u e => k6.at_ _ _ (s5 _ _ (s4 _ _ (s123 _ _ e))) (ne_of_none e npH)
      exact q a H6 S hr1 hr13 hfit (hgs a ha)
end
end KW

/-! the law -/
namespace KW
open PySem PySem.Spec PyProof.Rows L2
open K70 (PosOk DealOk share0 start)
abbrev sLaw : Stmt := topS 57
abbrev lawN : List Str := ["_law_script", "_law_pool_here", "_law_deck_here", "_law_hands", "_law_trump", "_law_leader", "_law_due", "_law_size", "_law_orders_here", "_law_order", "_law_small", "_law_moved", "_law_by", "_law_value", "_law_form"]
section
variable {P : Program} {w : World} {K : PySem.W.Frag} {mg : Str → Option Value} {base : Heap} {CP : Addr}
theorem same_made {H : Hp} {p dx C : Addr} (np : H p = none) (ndx : H dx = none) : Same H (upd (upd H dx (.own p)) p (.ins C dx [])) := fun b o e => by
  rw [upd_ne (ne_of_none e np), upd_ne (ne_of_none e ndx)]
  exact e
theorem same_kept {H H1 H2 : Hp} {p : Addr} (np : H p = none) (s1 : Same H H1) (k : Keep (fun x => x = p) H1 H2) : Same H H2 := fun b o e => k.at_ b o (s1 b o e) (ne_of_none e np)
theorem share_args {s r : Nat} {hs : List Nat} {size : Nat} (ok : DealOk s r hs size) (h2 : size ≤ 2) (t : Int) {l : Nat} (hl : l < 4) : PosOk (start t hs l) ∧ (0 < r ∧ r ≤ 13) ∧ K70.Two (start t hs l) ∧ K70.total (start t hs l) ≤ 8 :=
  ⟨ok.posOk t hl, ⟨Nat.lt_of_lt_of_le Nat.zero_lt_one ok.r1, ok.r13⟩, fun m hm => by rw [ok.cnt m hm]; exact h2, by rw [ok.total]; omega⟩
theorem size_of {s r : Nat} {hs : List Nat} {size : Nat} (ok : DealOk s r hs size) (t : Int) (l : Nat) : K70.count ((start t hs l).hands.getD (((start t hs l).leader + 3) % 4) 0) = size :=
  ok.cnt _ (K70.getD_mem (by show (l + 3) % 4 < hs.length; rw [ok.len]; exact Nat.mod_lt _ (by decide)))
theorem sc_law : FnScope lawN ["_law_script"] (defScope sLaw) := ⟨rfl, rfl, rfl, by decide +kernel, rfl, by decide +kernel, by decide +kernel⟩
def spLaw (K : PySem.W.Frag) : Sp := fun vs H Q _ => ∃ (a : Addr) (ns : List Int), vs = [.ref a] ∧ SqL K H a (ns.map V.int) ∧ ns.length ≤ 63 ∧ ∀ H', Q (.bl true) H'
theorem ok_law {f : Addr} {fd : FuncData} (F : Fun K "law" "law" sLaw f fd) (cPool : Cal P w K mg base 2 "_law_pool" (spLPool K)) (cPick : Cal P w K mg base 1 "_law_pick" spLPick) (cSt : Cal P w K mg base 3 "_law_started" spLStarted) (cSd : Cal P w K mg base 12 "_law_side_share" (spLSide P w K))
    (cCa : Cal P w K mg base 1 "_law_cards" spCards) (cInt : Cal P w K mg base 2 "_law_int" spLInt) (cOr : Cal P w K mg base 5 "_law_orders" (spLOrders 5)) (cSh : Cal P w K mg base 22 "share" (spShare K CP)) (mPl : Mak P w K mg base 4 "Play" CP (spPlayInit K CP))
    (cWS : Cal P w K mg base 2 "with_suits" (spWSuits K)) (cWT : Cal P w K mg base 1 "with_trump" (spWTrump K)) (cSq : Cal P w K mg base 2 "squeezed" (spSqueezed K)) (cT : Cal P w K mg base 1 "turned" (spTurned K)) (cStd : Cal P w K mg base 6 "standard" (spStandard K))
    (mr : mg "range" = none) (ml : mg "len" = none) (mt : mg "int" = none) : FnOk P w K mg base CX0 23 f fd ["_law_script"] (spLaw K) := by
  refine F.ok sc_law (fun vs H Q E h => ?_) (fun cdv A outer s H vs Q E hr h => ?_)
  · obtain ⟨a, ns, rfl, _⟩ := h; rfl
  obtain ⟨a, ns, rfl, hS, hlen, q⟩ := h
  refine ⟨_, pss_cons (ps_set (i := 1) sc_law.nd rfl (.inl rfl) (pe_c cPool hr (by decide) (pa_cons (pv 0) pa_nil)))
    (pss_cons (ps_asg (pe_c cSt hr (by decide) (pa_cons (pv 1) (pa_cons (pe_op op_add pe_int (pe_callTy call_int1 (by rfl) mt (by decide +kernel) (pa_cons (pe_cmpR op_eqN (pe_c cPick hr (by decide) (pa_cons (pv 1) (pa_cons pe_int pa_nil))) pe_int (nomark _)) pa_nil))) pa_nil)))
      (pg_tup rfl (pgs_cons (pg_name (i := 2) sc_law.nd rfl (.inl rfl)) (pgs_cons (pg_name (i := 3) sc_law.nd rfl (.inl rfl)) (pgs_cons (pg_name (i := 4) sc_law.nd rfl (.inl rfl)) (pgs_cons (pg_name (i := 5) sc_law.nd rfl (.inl rfl)) pgs_nil))))))
    (pss_cons (ps_set (i := 6) sc_law.nd rfl (.inl rfl) (pe_c cSd hr (by decide) (pa_cons (pv 2) (pa_cons (pe_tup (pa_cons (pv 4) (pa_cons (pv 3) (pa_cons (pv 5) (pa_cons (pe_tup pa_nil) pa_nil))))) (pa_cons pe_int (pa_cons pe_dnewP pa_nil))))))
    (pss_cons (ps_set (i := 7) sc_law.nd rfl (.inl rfl) (pe_callB call_len_seq (by rfl) ml PySem.boot_len (pa_cons (pe_c cCa hr (by decide) (pa_cons (pe_t (pv 3) pe_int) pa_nil)) pa_nil)))
    (pss_cons (ps_if (PW.pt (pw_or (pt_not (pt_val (pe_c cInt hr (by decide) (pa_cons (pe_c cSh hr (by decide) (pa_cons (pe_mk mPl hr (by decide) (pa_cons (pv 2) (pa_cons (pv 3) (pa_cons (pv 4) (pa_cons (pv 5) pa_nil))))) (pa_cons pe_int pa_nil))) (pa_cons (pv 6) pa_nil)))))
        (pw_or1 (pt_cmpR op_ne (pe_c cSh hr (by decide) (pa_cons (pe_mk mPl hr (by decide) (pa_cons (pv 2) (pa_cons (pv 3) (pa_cons (pv 4) (pa_cons (pv 5) pa_nil))))) (pa_cons pe_int pa_nil))) (pe_op op_sub (pv 7) (pv 6)) (nomark _))))) (pss_one (ps_ret pe_bl)) pss_nil)
    (pss_cons (ps_set (i := 8) sc_law.nd rfl (.inl rfl) (pe_c cOr hr (by decide) (pa_cons (pe_t (pv 2) pe_int) pa_nil)))
    (pss_cons (ps_set (i := 9) sc_law.nd rfl (.inl rfl) (pe_l (pv 8) (pe_c cPick hr (by decide) (pa_cons (pv 1) (pa_cons (pe_callB call_len_seq (by rfl) ml PySem.boot_len (pa_cons (pv 8) pa_nil)) pa_nil)))))
    (pss_cons (ps_if (pt_cmpR op_ne (pe_c cSh hr (by decide) (pa_cons (pe_mk mPl hr (by decide) (pa_cons (pv 2) (pa_cons (pe_c cWS hr (by decide) (pa_cons (pv 2) (pa_cons (pv 3) (pa_cons (pv 9) pa_nil)))) (pa_cons (pe_c cWT hr (by decide) (pa_cons (pv 4) (pa_cons (pv 9) pa_nil))) (pa_cons (pv 5) pa_nil))))) (pa_cons pe_int pa_nil))) (pv 6) (nomark _)) (pss_one (ps_ret pe_bl)) pss_nil)
    (pss_cons (ps_asg (pe_c cSq hr (by decide) (pa_cons (pv 2) (pa_cons (pv 3) pa_nil))) (pg_tup rfl (pgs_cons (pg_name (i := 10) sc_law.nd rfl (.inl rfl)) (pgs_cons (pg_name (i := 11) sc_law.nd rfl (.inl rfl)) pgs_nil))))
    (pss_cons (ps_if (pt_cmpR op_ne (pe_c cSh hr (by decide) (pa_cons (pe_mk mPl hr (by decide) (pa_cons (pv 10) (pa_cons (pv 11) (pa_cons (pv 4) (pa_cons (pv 5) pa_nil))))) (pa_cons pe_int pa_nil))) (pv 6) (nomark _)) (pss_one (ps_ret pe_bl)) pss_nil)
    (pss_cons (ps_for PassesOwn.never rfl (pi_range1 rfl mr (pa_cons pe_int pa_nil)) (pg_name (i := 12) sc_law.nd rfl (.inl rfl))
      (pss_cons (ps_set (i := 13) sc_law.nd rfl (.inl rfl) (pe_c cSh hr (by decide) (pa_cons (pe_mk mPl hr (by decide) (pa_cons (pv 2) (pa_cons (pe_c cT hr (by decide) (pa_cons (pv 3) (pa_cons (pv 12) pa_nil))) (pa_cons (pv 4) (pa_cons (pe_op op_modNN (pe_callTy call_int1 (by rfl) mt (by decide +kernel) (pa_cons (pe_op op_addN (pv 5) (pv 12)) pa_nil)) pe_int) pa_nil))))) (pa_cons pe_int pa_nil))))
      (pss_one (ps_if (pt_cmpR op_ne (pv 13) (pe_l (pe_lst (pa_cons (pv 6) (pa_cons (pe_op op_sub (pv 7) (pv 6)) pa_nil))) (pe_op op_modNN (pe_callTy call_int1 (by rfl) mt (by decide +kernel) (pa_cons (pv 12) pa_nil)) pe_int)) (nomark _)) (pss_one (ps_ret pe_bl)) pss_nil))))
    (pss_cons (ps_set (i := 14) sc_law.nd rfl (.inl rfl) (pe_c cStd hr (by decide) (pa_cons (pv 2) (pa_cons (pv 3) (pa_cons (pv 4) (pa_cons (pv 5) pa_nil))))))
    (pss_one (ps_ret (pe_cmpR op_eq (pe_c cSh hr (by decide) (pa_cons (pe_mk mPl hr (by decide) (pa_cons (pe_t (pv 14) pe_int) (pa_cons (pe_t (pv 14) pe_int) (pa_cons (pe_t (pv 14) pe_int) (pa_cons pe_int pa_nil))))) (pa_cons pe_int pa_nil))) (pe_l (pe_lst (pa_cons (pv 6) (pa_cons (pe_op op_sub (pv 7) (pv 6)) pa_nil))) (pe_op op_modNN (pe_callTy call_int1 (by rfl) mt (by decide +kernel) (pa_cons (pv 5) pa_nil)) pe_int)) (nomark _))))))))))))))), ?_⟩
  -- pool
  refine ⟨_, rfl, a, ns, rfl, hS, hlen, fun p b pl H1 s1 np p1 => ?_⟩
  -- started
  refine ⟨_, rfl, _, rfl, p, b, pl, 0, 3, rfl, p1, by decide, by decide, fun x H2 hx k2 p2 => ?_⟩
  refine ⟨x, 0, rfl, rfl, .inr ⟨_, rfl, 1, _, rfl, rfl, ?_⟩⟩
  have emost : ∃ most : Nat, V.int (1 + if decide (x = 0) = true then 1 else 0) = nv most ∧ 0 < most ∧ most ≤ 2 := by
    by_cases e : x = 0
    · exact ⟨2, by rw [decide_eq_true e]; rfl, by decide, by decide⟩
    · exact ⟨1, by rw [decide_eq_false e]; rfl, by decide, by decide⟩
  obtain ⟨most, emo, hm0, hm2⟩ := emost
  dsimp only
  refine ⟨p, b, pl, 1, most, by rw [emo]; rfl, p2, by decide, hm0, hm2, fun z d h H3 s' r hs size n3 t ld ez ed eh ok hs3 hsz t1 t2 hld k3 p3 hn3 => ?_⟩
  refine ⟨z, _, rfl, SqT.of ez, rfl, _, _, rfl, _, _, rfl, _, _, rfl, _, _, rfl, rfl, ?_⟩
  clear emo
  have hr13 := ok.r13
  have hr1 := ok.r1
  have hd := fun {H'} (sm : Same H3 H') => sm.tupK (SqT.of (K := K) ed)
  -- due
  refine ⟨_, rfl, _, rfl, _, rfl, _, rfl, Nat.zero_le _, fun la nla => ⟨(by show 4 ≤ sizeLine; decide), fun pa npa => ?_⟩⟩
  have s4 := (Same.newK (o := .tup []) nla).trans (Same.newK (o := .tup [.int t, .ref h, nv ld, .ref la]) npa)
  have epa : PosT (upd (upd H3 la (.tup [])) pa (.tup [.int t, .ref h, nv ld, .ref la])) pa (start t hs ld) := ⟨h, la, upd_same, s4 _ _ eh, (Same.newK npa) _ _ upd_same⟩
  generalize upd (upd H3 la (.tup [])) pa (.tup [.int t, .ref h, nv ld, .ref la]) = H4 at s4 epa
  intro kd nkd hkd
  have s5 := s4.trans (Same.newK (o := dpO P w kd []) nkd)
  have epa5 : PosT (upd H4 kd (dpO P w kd [])) pa (start t hs ld) := epa.keep fun b xs e => (Same.newK nkd) _ _ e
  have ekd : DictP P w (upd H4 kd (dpO P w kd [])) kd [] := hkd _ (fun _ _ e => e) upd_same
  have nkd3 := s4.free nkd
  refine ⟨d, pa, kd, s', r, start t hs ld, rfl, hd s5, ⟨by omega, hr13⟩, epa5, ok.posOk t hld, fun m hm => by rw [ok.cnt m hm]; exact hsz, by rw [ok.total]; omega, ekd, fun H6 k6 => ?_⟩
  have s6 : Same H3 H6 := fun b o e => k6.at_ _ _ (s5 _ _ e) (ne_of_none e nkd3)
  have p6 := p3.same s6
  -- size
  obtain ⟨m0, m1, m2, m3, ehs⟩ := four ok.len
  have g0 : (nvs hs)[0]? = some (nv m0) := by rw [ehs]; rfl
  have hm0 : m0 ∈ hs := by rw [ehs]; exact List.mem_cons_self
  refine ⟨_, rfl, h, _, 0, nv m0, rfl, rfl, SqT.of (s6 _ _ eh), atI_nat (j := 0) g0, m0, rfl, pow52 (ok.bits52 m0 hm0), fun cl H7 s7 _ ecl => ⟨cl, _, rfl, .inl (SqL.of ecl), ?_⟩⟩
  have esz : (nvs (K70.cardsOf m0)).length = size := by rw [nvs_len]; exact ok.cnt m0 hm0
  rw [esz]
  have s37 := s6.trans s7
  generalize hdue : K70.share r (start t hs ld) = due
  have hdue0 : share0 r t hs ld = due := hdue
  -- the first two shares
  have sa := share_args ok hsz t hld
  refine ⟨_, rfl, _, rfl, _, rfl, _, rfl, ?_⟩
  refine fun px dx nx ndx _ => ⟨px, dx, d, h, s', r, t, ld, hs, size, rfl, upd_same, (same_made nx ndx).tupK (hd s37), same_made nx ndx _ _ (s37 _ _ eh), ok, t1, t2, fun A8 H8 e8 _ pl8 k8 => ⟨rfl, A8, _, 0, by rw [e8]; rfl, pl8, sa.1, sa.2.1, sa.2.2.1, sa.2.2.2, fun H9 s9 => ?_⟩⟩
  have s39 := (s37.trans (same_kept nx (same_made nx ndx) k8)).trans s9
  rw [if_pos rfl]
  refine ⟨_, rfl, K70.share r (start t hs ld), due, rfl, ?_⟩
  rw [hdue, decide_eq_true (rfl : due = due)]
  refine ⟨_, rfl, iteF ?_⟩
  clear pl8 k8 e8 nx ndx
  refine ⟨_, rfl, _, rfl, _, rfl, _, rfl, ?_⟩
  refine fun px dx nx ndx _ => ⟨px, dx, d, h, s', r, t, ld, hs, size, rfl, upd_same, (same_made nx ndx).tupK (hd s39), same_made nx ndx _ _ (s39 _ _ eh), ok, t1, t2, fun A8 H10 e8 _ pl8 k8 => ⟨rfl, A8, _, 1, by rw [e8]; rfl, pl8, sa.1, sa.2.1, sa.2.2.1, sa.2.2.2, fun H11 s11 => ?_⟩⟩
  have sB := (s39.trans (same_kept nx (same_made nx ndx) k8)).trans s11
  clear pl8 k8 e8 nx ndx
  rw [if_neg (by decide), size_of ok]
  refine ⟨_, rfl, _, rfl, _, _, rfl, rfl, rfl, _, rfl, ?_⟩
  dsimp only
  rw [hdue, decide_eq_true (rfl : V.int ((size : Int) - due) = V.int ((size : Int) - due))]
  refine iteF ?_
  -- orders
  have edB := sB _ _ ed
  have ehB := sB _ _ eh
  have pB := p3.same sB
  clear s39 s37 s6 s7 s5 s4 p6
  have hs4 := ok.s4
  refine ⟨_, rfl, d, _, 0, nv s', rfl, rfl, SqT.of edB, atI_nat (j := 0) rfl, s', rfl, by omega, hs4, fun qo HC sC hLL => ?_⟩
  obtain ⟨nqo, as, eqo, ro⟩ := hLL
  have pC := pB.same sC
  have hos := Paired.length ro
  have hosne := List.length_pos_iff.mpr (K70.lawOrders_ne s')
  refine ⟨_, rfl, _, rfl, _, rfl, qo, _, rfl, .inl (SqL.of eqo), p, b, pl, n3, (as.map V.ref).length, rfl, pC, by omega, by rw [List.length_map, hos]; exact hosne, fun ix HD hix kD pD => ?_⟩
  rw [List.length_map] at hix
  have nqp : qo ≠ p := fun e => by rw [e, pB.1] at nqo; cases nqo
  obtain ⟨o, ho, eb, _, nb⟩ := paired_get ro (List.getElem?_eq_getElem hix)
  have nbp : as[ix] ≠ p := fun e => by rw [e, pB.1] at nb; cases nb
  have eqD := kD.at_ _ _ eqo nqp
  have ebD := kD.at_ _ _ eb nbp
  have edD := tupKP (sC _ _ edB) pC kD
  have ehD := tupKP (sC _ _ ehB) pC kD
  have hg : (as.map V.ref)[ix]? = some (V.ref as[ix]) := by rw [List.getElem?_map, List.getElem?_eq_getElem hix]; rfl
  refine ⟨qo, _, _, .ref as[ix], rfl, rfl, SqL.of eqD, atI_nat hg, ?_⟩
  have hop := K70.lawOrders_perm s' o (List.mem_of_getElem? ho)
  have hol : o.length = s' := by rw [hop.length_eq, List.length_range]
  generalize as[ix] = ob at ebD
  clear hg eqD nbp eb nb ho kD pC eqo ro nqo sC sB s1 k2 k3 p1 p2 p3 hx ez
  have hdD := fun {H'} (sm : Same HD H') => sm.tupK (SqT.of (K := K) edD)
  -- with_suits, with_trump
  have ok1 := K70.suits_ok ok hop
  have tb := K70.withTrump_bounds hop t1 t2
  have sa1 := share_args ok1 hsz (K70.withTrump t o) hld
  have ev1 : K70.share r (start (K70.withTrump t o) (K70.moveHands (K70.suitF r o) hs) ld) = due := (K70.share_suits ok hop t1 t2 hld).trans hdue
  refine ⟨_, rfl, _, rfl, _, rfl, _, rfl, d, h, ob, s', r, hs, o, rfl, SqT.of edD, SqT.of ehD, SqL.of ebD, hs4, hr1, hr13, by rw [ok.len]; exact Nat.le_refl _, ok.bits, hol, K70.perm_lt hop, fun wh H1 s1 ewh => ?_⟩
  refine ⟨_, rfl, _, rfl, ob, t, o, rfl, SqL.of (s1 _ _ ebD), t1, by omega, _, rfl, ?_⟩
  refine fun px dx nx ndx _ => ⟨px, dx, d, wh, s', r, K70.withTrump t o, ld, _, size, rfl, upd_same, (same_made nx ndx).tupK (hdD s1), same_made nx ndx _ _ ewh, ok1, tb.1, tb.2, fun A8 H2 e8 _ pl8 k8 => ⟨rfl, A8, _, 0, by rw [e8]; rfl, pl8, sa1.1, sa1.2.1, sa1.2.2.1, sa1.2.2.2, fun H3 s3 => ?_⟩⟩
  have sE := (s1.trans (same_kept nx (same_made nx ndx) k8)).trans s3
  clear pl8 k8 e8 nx ndx
  rw [if_pos rfl]
  refine ⟨_, rfl, rfl, _, rfl, ?_⟩
  dsimp only
  rw [ev1, decide_eq_true (rfl : V.int due = V.int due)]
  refine iteF ?_
  -- squeezed
  refine ⟨_, rfl, _, rfl, d, h, s', r, hs, size, rfl, hdD sE, SqT.of (sE _ _ ehD), ok, fun z2 H4 rr s4 hq1 hq13 hfit hsq => ?_⟩
  obtain ⟨sd, sh, ez2, esd, esh⟩ := hsq
  have ok2 := K70.sq_ok ok hq1 hq13 hfit
  have sa2 := share_args ok2 hsz t hld
  have ev2 : K70.share rr (start t (K70.moveHands (K70.sqF r (K70.orAll hs) rr) hs) ld) = due := (K70.share_sq ok hq1 hq13 hfit t hld).trans hdue
  refine ⟨z2, _, rfl, SqT.of ez2, rfl, _, _, rfl, _, _, rfl, rfl, ?_⟩
  refine ⟨_, rfl, _, rfl, _, rfl, _, rfl, ?_⟩
  refine fun px dx nx ndx _ => ⟨px, dx, sd, sh, s', rr, t, ld, _, size, rfl, upd_same, (same_made nx ndx).tupK (SqT.of esd), same_made nx ndx _ _ esh, ok2, t1, t2, fun A8 H5 e8 _ pl8 k8 => ⟨rfl, A8, _, 0, by rw [e8]; rfl, pl8, sa2.1, sa2.2.1, sa2.2.2.1, sa2.2.2.2, fun H6 s6 => ?_⟩⟩
  have sF := ((sE.trans s4).trans (same_kept nx (same_made nx ndx) k8)).trans s6
  clear pl8 k8 e8 nx ndx
  rw [if_pos rfl]
  refine ⟨_, rfl, rfl, _, rfl, ?_⟩
  dsimp only
  rw [ev2, decide_eq_true (rfl : V.int due = V.int due)]
  refine iteF ?_
  -- turned
  refine ⟨4, rfl, by decide, by decide, ?_⟩
  refine for_range (lo := 0) (n := 4) (fun i σ H' => ∃ v12 v13, σ = [some (.ref a), some (.ref p), some (.ref d), some (.ref h), some (.int t), some (nv ld), some (.int due), some (.int (size : Int)), some (.ref qo), some (.ref ob), some (.ref sd), some (.ref sh), v12, v13, none] ∧ Same HD H') ⟨none, none, rfl, sF⟩ ?_ ?_
  · rintro i σ H7 hi ⟨v12, v13, rfl, s7⟩
    have ei : V.int (0 + (i : Int)) = nv i := by rw [Int.zero_add]
    have ok3 := ok.turned (show i ≤ 4 by omega)
    have hl3 : (ld + i) % 4 < 4 := Nat.mod_lt _ (by decide)
    have sa3 := share_args ok3 hsz t hl3
    have ev3 : K70.share r (start t (K70.turnedL hs i) ((ld + i) % 4)) = if i % 2 = 0 then due else (size : Int) - due := by
      have := K70.share_turned ok (show i ≤ 4 by omega) hld t
      rw [hdue0] at this
      exact this
    refine ⟨_, rfl, _, rfl, _, rfl, h, hs, i, (by rw [ei]; rfl), SqT.of (s7 _ _ ehD), ok.len, by omega, fun th H8 s8 eth => ?_⟩
    refine ⟨_, rfl, _, rfl, _, rfl, ld, i, rfl, ei.trans rfl, .inl ⟨_, rfl, ld + i, 4, rfl, rfl, (by show 0 < 4; decide), ?_⟩⟩
    refine fun px dx nx ndx _ => ⟨px, dx, d, th, s', r, t, (ld + i) % 4, _, size, rfl, upd_same, (same_made nx ndx).tupK (hdD (s7.trans s8)), same_made nx ndx _ _ eth, ok3, t1, t2, fun A8 H9 e8 _ pl8 k8 => ⟨rfl, A8, _, 0, by rw [e8]; rfl, pl8, sa3.1, sa3.2.1, sa3.2.2.1, sa3.2.2.2, fun H10 s10 => ?_⟩⟩
    have sG := ((s7.trans s8).trans (same_kept nx (same_made nx ndx) k8)).trans s10
    clear pl8 k8 e8 nx ndx
    rw [if_pos rfl]
    dsimp only
    rw [ev3]
    refine ⟨_, rfl, _, rfl, _, rfl, _, rfl, _, _, rfl, rfl, (by show 2 ≤ sizeLine; decide), fun lz nlz => ?_⟩
    have sH := sG.trans (Same.newK (o := .lst [.int due, .int ((size : Int) - due)]) nlz)
    have hat : [V.int due, V.int ((size : Int) - due)][i % 2]? = some (V.int (if i % 2 = 0 then due else (size : Int) - due)) := by
      by_cases z : i % 2 = 0
      · rw [if_pos z, z]
        rfl
      · rw [if_neg z, show i % 2 = 1 by omega]
        rfl
    refine ⟨_, rfl, .inl ⟨_, rfl, i, 2, ei.trans rfl, rfl, (by show 0 < 2; decide), lz, _, _, _, rfl, rfl, SqL.of upd_same, atI_nat hat, rfl, _, rfl, ?_⟩⟩
    rw [decide_eq_true (rfl : V.int (if i % 2 = 0 then due else (size : Int) - due) = V.int (if i % 2 = 0 then due else (size : Int) - due))]
    exact iteF ⟨_, _, rfl, sH⟩
  · rintro σ H7 ⟨v12, v13, rfl, s7⟩
    -- standard
    refine ⟨_, rfl, _, rfl, _, rfl, _, rfl, d, h, s', r, hs, size, t, ld, rfl, hdD s7, SqT.of (s7 _ _ ehD), ok, t1, t2, hld, fun zf H8 rr8 s8 hw1 hw13 hfit8 hgood => ?_⟩
    obtain ⟨o8, fd8, fh8, hop8, _, ezf, efd, efh⟩ := hgood
    obtain ⟨ok4, ev4⟩ := K70.share_standard ok hld hw1 hw13 hfit8 hop8 t1 t2
    rw [hdue0] at ev4
    have tb8 := K70.withTrump_bounds hop8 t1 t2
    generalize K70.moveHands (K70.suitF rr8 o8) (K70.moveHands (K70.sqF r (K70.orAll (K70.turnedL hs ((4 - ld) % 4))) rr8) (K70.turnedL hs ((4 - ld) % 4))) = fhs at efh ok4 ev4
    have sa4 := share_args ok4 hsz (K70.withTrump t o8) (show 0 < 4 by decide)
    refine ⟨_, rfl, zf, _, 0, .ref fd8, rfl, rfl, SqT.of ezf, atI_nat (j := 0) rfl, _, rfl, zf, _, 1, .ref fh8, rfl, rfl, SqT.of ezf, atI_nat (j := 1) rfl, _, rfl, zf, _, 2, .int (K70.withTrump t o8), rfl, rfl, SqT.of ezf, atI_nat (j := 2) rfl, ?_⟩
    refine fun px dx nx ndx _ => ⟨px, dx, fd8, fh8, s', rr8, K70.withTrump t o8, 0, fhs, size, rfl, upd_same, (same_made nx ndx).tupK (SqT.of efd), same_made nx ndx _ _ efh, ok4, tb8.1, tb8.2, fun A8 H9 e8 _ pl8 k8 => ⟨rfl, A8, _, 0, by rw [e8]; rfl, pl8, sa4.1, sa4.2.1, sa4.2.2.1, sa4.2.2.2, fun H10 s10 => ?_⟩⟩
    clear pl8 k8 e8 nx ndx
    have ev5 : K70.share rr8 (start (K70.withTrump t o8) fhs 0) = if ld % 2 = 0 then due else (size : Int) - due := ev4
    rw [if_pos rfl]
    dsimp only
    rw [ev5]
    refine ⟨_, rfl, _, rfl, _, rfl, _, _, rfl, rfl, (by show 2 ≤ sizeLine; decide), fun lz nlz => ?_⟩
    have hat : [V.int due, V.int ((size : Int) - due)][ld % 2]? = some (V.int (if ld % 2 = 0 then due else (size : Int) - due)) := by
      by_cases z : ld % 2 = 0
      · rw [if_pos z, z]
        rfl
      · rw [if_neg z, show ld % 2 = 1 by omega]
        rfl
    refine ⟨_, rfl, .inl ⟨_, rfl, ld, 2, rfl, rfl, (by show 0 < 2; decide), lz, _, _, _, rfl, rfl, SqL.of upd_same, atI_nat hat, rfl, ?_⟩⟩
    rw [decide_eq_true (rfl : V.int (if ld % 2 = 0 then due else (size : Int) - due) = V.int (if ld % 2 = 0 then due else (size : Int) - due))]
    exact q _
end
end KW

/-! the end: all facts of the top together -/
namespace KW
open PySem PySem.Spec PyProof.Rows L2

theorem bi_12 : ∀ (kV doc pm : Value) (an : Option Addr) (cdv ct : Value) (us : List Value), us.length = (["deck"] : List Str).length → bindArgs (PySem.W.fnOf "check_deck" "check_deck" (defArgs (topS 12)) (defBody (topS 12)) (defScope (topS 12)) .none kV doc pm an cdv ct) ⟨us, []⟩ = pure ((["deck"] : List Str).zip us) := fun _ _ _ _ _ _ us hl => match us, hl with | [_], _ => rfl
theorem bi_13 : ∀ (kV doc pm : Value) (an : Option Addr) (cdv ct : Value) (us : List Value), us.length = (["deck", "card"] : List Str).length → bindArgs (PySem.W.fnOf "suit_of" "suit_of" (defArgs (topS 13)) (defBody (topS 13)) (defScope (topS 13)) .none kV doc pm an cdv ct) ⟨us, []⟩ = pure ((["deck", "card"] : List Str).zip us) := fun _ _ _ _ _ _ us hl => match us, hl with | [_, _], _ => rfl
theorem bi_14 : ∀ (kV doc pm : Value) (an : Option Addr) (cdv ct : Value) (us : List Value), us.length = (["deck", "card"] : List Str).length → bindArgs (PySem.W.fnOf "rank_of" "rank_of" (defArgs (topS 14)) (defBody (topS 14)) (defScope (topS 14)) .none kV doc pm an cdv ct) ⟨us, []⟩ = pure ((["deck", "card"] : List Str).zip us) := fun _ _ _ _ _ _ us hl => match us, hl with | [_, _], _ => rfl
theorem bi_15 : ∀ (kV doc pm : Value) (an : Option Addr) (cdv ct : Value) (us : List Value), us.length = (["deck", "suit", "rank"] : List Str).length → bindArgs (PySem.W.fnOf "card_of" "card_of" (defArgs (topS 15)) (defBody (topS 15)) (defScope (topS 15)) .none kV doc pm an cdv ct) ⟨us, []⟩ = pure ((["deck", "suit", "rank"] : List Str).zip us) := fun _ _ _ _ _ _ us hl => match us, hl with | [_, _, _], _ => rfl
theorem bi_16 : ∀ (kV doc pm : Value) (an : Option Addr) (cdv ct : Value) (us : List Value), us.length = (["mask"] : List Str).length → bindArgs (PySem.W.fnOf "cards_of" "cards_of" (defArgs (topS 16)) (defBody (topS 16)) (defScope (topS 16)) .none kV doc pm an cdv ct) ⟨us, []⟩ = pure ((["mask"] : List Str).zip us) := fun _ _ _ _ _ _ us hl => match us, hl with | [_], _ => rfl
theorem bi_17 : ∀ (kV doc pm : Value) (an : Option Addr) (cdv ct : Value) (us : List Value), us.length = (["cards"] : List Str).length → bindArgs (PySem.W.fnOf "mask_of" "mask_of" (defArgs (topS 17)) (defBody (topS 17)) (defScope (topS 17)) .none kV doc pm an cdv ct) ⟨us, []⟩ = pure ((["cards"] : List Str).zip us) := fun _ _ _ _ _ _ us hl => match us, hl with | [_], _ => rfl
theorem bi_18 : ∀ (kV doc pm : Value) (an : Option Addr) (cdv ct : Value) (us : List Value), us.length = (["mask"] : List Str).length → bindArgs (PySem.W.fnOf "count_cards" "count_cards" (defArgs (topS 18)) (defBody (topS 18)) (defScope (topS 18)) .none kV doc pm an cdv ct) ⟨us, []⟩ = pure ((["mask"] : List Str).zip us) := fun _ _ _ _ _ _ us hl => match us, hl with | [_], _ => rfl
theorem bi_19 : ∀ (kV doc pm : Value) (an : Option Addr) (cdv ct : Value) (us : List Value), us.length = (["deck", "mask", "suit"] : List Str).length → bindArgs (PySem.W.fnOf "of_suit" "of_suit" (defArgs (topS 19)) (defBody (topS 19)) (defScope (topS 19)) .none kV doc pm an cdv ct) ⟨us, []⟩ = pure ((["deck", "mask", "suit"] : List Str).zip us) := fun _ _ _ _ _ _ us hl => match us, hl with | [_, _, _], _ => rfl
theorem bi_22 : ∀ (kV doc pm : Value) (an : Option Addr) (cdv ct : Value) (us : List Value), us.length = (["player"] : List Str).length → bindArgs (PySem.W.fnOf "side_of" "side_of" (defArgs (topS 22)) (defBody (topS 22)) (defScope (topS 22)) .none kV doc pm an cdv ct) ⟨us, []⟩ = pure ((["player"] : List Str).zip us) := fun _ _ _ _ _ _ us hl => match us, hl with | [_], _ => rfl
theorem bi_23 : ∀ (kV doc pm : Value) (an : Option Addr) (cdv ct : Value) (us : List Value), us.length = (["deck", "hands"] : List Str).length → bindArgs (PySem.W.fnOf "check_deal" "check_deal" (defArgs (topS 23)) (defBody (topS 23)) (defScope (topS 23)) .none kV doc pm an cdv ct) ⟨us, []⟩ = pure ((["deck", "hands"] : List Str).zip us) := fun _ _ _ _ _ _ us hl => match us, hl with | [_, _], _ => rfl
theorem bi_24 : ∀ (kV doc pm : Value) (an : Option Addr) (cdv ct : Value) (us : List Value), us.length = (["hands", "by"] : List Str).length → bindArgs (PySem.W.fnOf "turned" "turned" (defArgs (topS 24)) (defBody (topS 24)) (defScope (topS 24)) .none kV doc pm an cdv ct) ⟨us, []⟩ = pure ((["hands", "by"] : List Str).zip us) := fun _ _ _ _ _ _ us hl => match us, hl with | [_, _], _ => rfl
theorem bi_25 : ∀ (kV doc pm : Value) (an : Option Addr) (cdv ct : Value) (us : List Value), us.length = (["deck", "hands"] : List Str).length → bindArgs (PySem.W.fnOf "squeezed" "squeezed" (defArgs (topS 25)) (defBody (topS 25)) (defScope (topS 25)) .none kV doc pm an cdv ct) ⟨us, []⟩ = pure ((["deck", "hands"] : List Str).zip us) := fun _ _ _ _ _ _ us hl => match us, hl with | [_, _], _ => rfl
theorem bi_27 : ∀ (kV doc pm : Value) (an : Option Addr) (cdv ct : Value) (us : List Value), us.length = (["deck", "hands", "order"] : List Str).length → bindArgs (PySem.W.fnOf "with_suits" "with_suits" (defArgs (topS 27)) (defBody (topS 27)) (defScope (topS 27)) .none kV doc pm an cdv ct) ⟨us, []⟩ = pure ((["deck", "hands", "order"] : List Str).zip us) := fun _ _ _ _ _ _ us hl => match us, hl with | [_, _, _], _ => rfl
theorem bi_28 : ∀ (kV doc pm : Value) (an : Option Addr) (cdv ct : Value) (us : List Value), us.length = (["trump", "order"] : List Str).length → bindArgs (PySem.W.fnOf "with_trump" "with_trump" (defArgs (topS 28)) (defBody (topS 28)) (defScope (topS 28)) .none kV doc pm an cdv ct) ⟨us, []⟩ = pure ((["trump", "order"] : List Str).zip us) := fun _ _ _ _ _ _ us hl => match us, hl with | [_, _], _ => rfl
theorem bi_29 : ∀ (kV doc pm : Value) (an : Option Addr) (cdv ct : Value) (us : List Value), us.length = (["items"] : List Str).length → bindArgs (PySem.W.fnOf "orders_of" "orders_of" (defArgs (topS 29)) (defBody (topS 29)) (defScope (topS 29)) .none kV doc pm an cdv ct) ⟨us, []⟩ = pure ((["items"] : List Str).zip us) := fun _ _ _ _ _ _ us hl => match us, hl with | [_], _ => rfl
theorem bi_30 : ∀ (kV doc pm : Value) (an : Option Addr) (cdv ct : Value) (us : List Value), us.length = (["deck", "hands", "trump", "leader"] : List Str).length → bindArgs (PySem.W.fnOf "standard" "standard" (defArgs (topS 30)) (defBody (topS 30)) (defScope (topS 30)) .none kV doc pm an cdv ct) ⟨us, []⟩ = pure ((["deck", "hands", "trump", "leader"] : List Str).zip us) := fun _ _ _ _ _ _ us hl => match us, hl with | [_, _, _, _], _ => rfl
theorem bi_32 : ∀ (kV doc pm : Value) (an : Option Addr) (cdv ct : Value) (us : List Value), us.length = (["deck", "trump", "leader", "cards"] : List Str).length → bindArgs (PySem.W.fnOf "winner_of" "winner_of" (defArgs (topS 32)) (defBody (topS 32)) (defScope (topS 32)) .none kV doc pm an cdv ct) ⟨us, []⟩ = pure ((["deck", "trump", "leader", "cards"] : List Str).zip us) := fun _ _ _ _ _ _ us hl => match us, hl with | [_, _, _, _], _ => rfl
theorem bi_35 : ∀ (kV doc pm : Value) (an : Option Addr) (cdv ct : Value) (us : List Value), us.length = (["deck", "position"] : List Str).length → bindArgs (PySem.W.fnOf "play_at" "play_at" (defArgs (topS 35)) (defBody (topS 35)) (defScope (topS 35)) .none kV doc pm an cdv ct) ⟨us, []⟩ = pure ((["deck", "position"] : List Str).zip us) := fun _ _ _ _ _ _ us hl => match us, hl with | [_, _], _ => rfl
theorem bi_38 : ∀ (kV doc pm : Value) (an : Option Addr) (cdv ct : Value) (us : List Value), us.length = (["play", "side"] : List Str).length → bindArgs (PySem.W.fnOf "share" "share" (defArgs (topS 38)) (defBody (topS 38)) (defScope (topS 38)) .none kV doc pm an cdv ct) ⟨us, []⟩ = pure ((["play", "side"] : List Str).zip us) := fun _ _ _ _ _ _ us hl => match us, hl with | [_, _], _ => rfl
theorem bi_40 : ∀ (kV doc pm : Value) (an : Option Addr) (cdv ct : Value) (us : List Value), us.length = (["_law_actual"] : List Str).length → bindArgs (PySem.W.fnOf "_law_is_integer" "_law_is_integer" (defArgs (topS 40)) (defBody (topS 40)) (defScope (topS 40)) .none kV doc pm an cdv ct) ⟨us, []⟩ = pure ((["_law_actual"] : List Str).zip us) := fun _ _ _ _ _ _ us hl => match us, hl with | [_], _ => rfl
theorem bi_41 : ∀ (kV doc pm : Value) (an : Option Addr) (cdv ct : Value) (us : List Value), us.length = (["_law_script", "_law_first", "_law_most"] : List Str).length → bindArgs (PySem.W.fnOf "_law_numbers" "_law_numbers" (defArgs (topS 41)) (defBody (topS 41)) (defScope (topS 41)) .none kV doc pm an cdv ct) ⟨us, []⟩ = pure ((["_law_script", "_law_first", "_law_most"] : List Str).zip us) := fun _ _ _ _ _ _ us hl => match us, hl with | [_, _, _], _ => rfl
theorem bi_42 : ∀ (kV doc pm : Value) (an : Option Addr) (cdv ct : Value) (us : List Value), us.length = (["_law_numbers_here", "_law_suits", "_law_ranks", "_law_size"] : List Str).length → bindArgs (PySem.W.fnOf "_law_deal" "_law_deal" (defArgs (topS 42)) (defBody (topS 42)) (defScope (topS 42)) .none kV doc pm an cdv ct) ⟨us, []⟩ = pure ((["_law_numbers_here", "_law_suits", "_law_ranks", "_law_size"] : List Str).zip us) := fun _ _ _ _ _ _ us hl => match us, hl with | [_, _, _, _], _ => rfl
theorem bi_43 : ∀ (kV doc pm : Value) (an : Option Addr) (cdv ct : Value) (us : List Value), us.length = (["_law_number", "_law_size"] : List Str).length → bindArgs (PySem.W.fnOf "_law_deck" "_law_deck" (defArgs (topS 43)) (defBody (topS 43)) (defScope (topS 43)) .none kV doc pm an cdv ct) ⟨us, []⟩ = pure ((["_law_number", "_law_size"] : List Str).zip us) := fun _ _ _ _ _ _ us hl => match us, hl with | [_, _], _ => rfl
theorem bi_44 : ∀ (kV doc pm : Value) (an : Option Addr) (cdv ct : Value) (us : List Value), us.length = (["_law_mask"] : List Str).length → bindArgs (PySem.W.fnOf "_law_cards" "_law_cards" (defArgs (topS 44)) (defBody (topS 44)) (defScope (topS 44)) .none kV doc pm an cdv ct) ⟨us, []⟩ = pure ((["_law_mask"] : List Str).zip us) := fun _ _ _ _ _ _ us hl => match us, hl with | [_], _ => rfl
theorem bi_45 : ∀ (kV doc pm : Value) (an : Option Addr) (cdv ct : Value) (us : List Value), us.length = (["_law_deck_here", "_law_position"] : List Str).length → bindArgs (PySem.W.fnOf "_law_legal" "_law_legal" (defArgs (topS 45)) (defBody (topS 45)) (defScope (topS 45)) .none kV doc pm an cdv ct) ⟨us, []⟩ = pure ((["_law_deck_here", "_law_position"] : List Str).zip us) := fun _ _ _ _ _ _ us hl => match us, hl with | [_, _], _ => rfl
theorem bi_46 : ∀ (kV doc pm : Value) (an : Option Addr) (cdv ct : Value) (us : List Value), us.length = (["_law_deck_here", "_law_trump", "_law_leader", "_law_cards_here"] : List Str).length → bindArgs (PySem.W.fnOf "_law_winner" "_law_winner" (defArgs (topS 46)) (defBody (topS 46)) (defScope (topS 46)) .none kV doc pm an cdv ct) ⟨us, []⟩ = pure ((["_law_deck_here", "_law_trump", "_law_leader", "_law_cards_here"] : List Str).zip us) := fun _ _ _ _ _ _ us hl => match us, hl with | [_, _, _, _], _ => rfl
theorem bi_47 : ∀ (kV doc pm : Value) (an : Option Addr) (cdv ct : Value) (us : List Value), us.length = (["_law_deck_here", "_law_position", "_law_card"] : List Str).length → bindArgs (PySem.W.fnOf "_law_next" "_law_next" (defArgs (topS 47)) (defBody (topS 47)) (defScope (topS 47)) .none kV doc pm an cdv ct) ⟨us, []⟩ = pure ((["_law_deck_here", "_law_position", "_law_card"] : List Str).zip us) := fun _ _ _ _ _ _ us hl => match us, hl with | [_, _, _], _ => rfl
theorem bi_48 : ∀ (kV doc pm : Value) (an : Option Addr) (cdv ct : Value) (us : List Value), us.length = (["_law_position"] : List Str).length → bindArgs (PySem.W.fnOf "_law_left" "_law_left" (defArgs (topS 48)) (defBody (topS 48)) (defScope (topS 48)) .none kV doc pm an cdv ct) ⟨us, []⟩ = pure ((["_law_position"] : List Str).zip us) := fun _ _ _ _ _ _ us hl => match us, hl with | [_], _ => rfl
theorem bi_49 : ∀ (kV doc pm : Value) (an : Option Addr) (cdv ct : Value) (us : List Value), us.length = (["_law_deck_here", "_law_position", "_law_known"] : List Str).length → bindArgs (PySem.W.fnOf "_law_share" "_law_share" (defArgs (topS 49)) (defBody (topS 49)) (defScope (topS 49)) .none kV doc pm an cdv ct) ⟨us, []⟩ = pure ((["_law_deck_here", "_law_position", "_law_known"] : List Str).zip us) := fun _ _ _ _ _ _ us hl => match us, hl with | [_, _, _], _ => rfl
theorem bi_50 : ∀ (kV doc pm : Value) (an : Option Addr) (cdv ct : Value) (us : List Value), us.length = (["_law_deck_here", "_law_position", "_law_side", "_law_known"] : List Str).length → bindArgs (PySem.W.fnOf "_law_side_share" "_law_side_share" (defArgs (topS 50)) (defBody (topS 50)) (defScope (topS 50)) .none kV doc pm an cdv ct) ⟨us, []⟩ = pure ((["_law_deck_here", "_law_position", "_law_side", "_law_known"] : List Str).zip us) := fun _ _ _ _ _ _ us hl => match us, hl with | [_, _, _, _], _ => rfl
theorem bi_51 : ∀ (kV doc pm : Value) (an : Option Addr) (cdv ct : Value) (us : List Value), us.length = (["_law_script"] : List Str).length → bindArgs (PySem.W.fnOf "_law_pool" "_law_pool" (defArgs (topS 51)) (defBody (topS 51)) (defScope (topS 51)) .none kV doc pm an cdv ct) ⟨us, []⟩ = pure ((["_law_script"] : List Str).zip us) := fun _ _ _ _ _ _ us hl => match us, hl with | [_], _ => rfl
theorem bi_52 : ∀ (kV doc pm : Value) (an : Option Addr) (cdv ct : Value) (us : List Value), us.length = (["_law_pool_here", "_law_many"] : List Str).length → bindArgs (PySem.W.fnOf "_law_pick" "_law_pick" (defArgs (topS 52)) (defBody (topS 52)) (defScope (topS 52)) .none kV doc pm an cdv ct) ⟨us, []⟩ = pure ((["_law_pool_here", "_law_many"] : List Str).zip us) := fun _ _ _ _ _ _ us hl => match us, hl with | [_, _], _ => rfl
theorem bi_53 : ∀ (kV doc pm : Value) (an : Option Addr) (cdv ct : Value) (us : List Value), us.length = (["_law_actual", "_law_due"] : List Str).length → bindArgs (PySem.W.fnOf "_law_int" "_law_int" (defArgs (topS 53)) (defBody (topS 53)) (defScope (topS 53)) .none kV doc pm an cdv ct) ⟨us, []⟩ = pure ((["_law_actual", "_law_due"] : List Str).zip us) := fun _ _ _ _ _ _ us hl => match us, hl with | [_, _], _ => rfl
theorem bi_54 : ∀ (kV doc pm : Value) (an : Option Addr) (cdv ct : Value) (us : List Value), us.length = (["_law_pool_here", "_law_most"] : List Str).length → bindArgs (PySem.W.fnOf "_law_any_deal" "_law_any_deal" (defArgs (topS 54)) (defBody (topS 54)) (defScope (topS 54)) .none kV doc pm an cdv ct) ⟨us, []⟩ = pure ((["_law_pool_here", "_law_most"] : List Str).zip us) := fun _ _ _ _ _ _ us hl => match us, hl with | [_, _], _ => rfl
theorem bi_55 : ∀ (kV doc pm : Value) (an : Option Addr) (cdv ct : Value) (us : List Value), us.length = (["_law_pool_here", "_law_most"] : List Str).length → bindArgs (PySem.W.fnOf "_law_started" "_law_started" (defArgs (topS 55)) (defBody (topS 55)) (defScope (topS 55)) .none kV doc pm an cdv ct) ⟨us, []⟩ = pure ((["_law_pool_here", "_law_most"] : List Str).zip us) := fun _ _ _ _ _ _ us hl => match us, hl with | [_, _], _ => rfl
theorem bi_56 : ∀ (kV doc pm : Value) (an : Option Addr) (cdv ct : Value) (us : List Value), us.length = (["_law_many"] : List Str).length → bindArgs (PySem.W.fnOf "_law_orders" "_law_orders" (defArgs (topS 56)) (defBody (topS 56)) (defScope (topS 56)) .none kV doc pm an cdv ct) ⟨us, []⟩ = pure ((["_law_many"] : List Str).zip us) := fun _ _ _ _ _ _ us hl => match us, hl with | [_], _ => rfl
theorem bi_57 : ∀ (kV doc pm : Value) (an : Option Addr) (cdv ct : Value) (us : List Value), us.length = (["_law_script"] : List Str).length → bindArgs (PySem.W.fnOf "law" "law" (defArgs (topS 57)) (defBody (topS 57)) (defScope (topS 57)) .none kV doc pm an cdv ct) ⟨us, []⟩ = pure ((["_law_script"] : List Str).zip us) := fun _ _ _ _ _ _ us hl => match us, hl with | [_], _ => rfl
theorem bi_P0 : ∀ (kV doc pm : Value) (an : Option Addr) (cdv ct : Value) (us : List Value), us.length = (["self", "deck", "hands", "trump", "leader"] : List Str).length → bindArgs (PySem.W.fnOf "__init__" "Play.__init__" (defArgs (inClass (topS 33) 0)) (defBody (inClass (topS 33) 0)) (defScope (inClass (topS 33) 0)) .none kV doc pm an cdv ct) ⟨us, []⟩ = pure ((["self", "deck", "hands", "trump", "leader"] : List Str).zip us) := fun _ _ _ _ _ _ us hl => match us, hl with | [_, _, _, _, _], _ => rfl
theorem bi_P1 : ∀ (kV doc pm : Value) (an : Option Addr) (cdv ct : Value) (us : List Value), us.length = (["self", "deck", "position"] : List Str).length → bindArgs (PySem.W.fnOf "begin" "Play.begin" (defArgs (inClass (topS 33) 1)) (defBody (inClass (topS 33) 1)) (defScope (inClass (topS 33) 1)) .none kV doc pm an cdv ct) ⟨us, []⟩ = pure ((["self", "deck", "position"] : List Str).zip us) := fun _ _ _ _ _ _ us hl => match us, hl with | [_, _, _], _ => rfl
theorem bi_P2 : ∀ (kV doc pm : Value) (an : Option Addr) (cdv ct : Value) (us : List Value), us.length = (["self"] : List Str).length → bindArgs (PySem.W.fnOf "deck" "Play.deck" (defArgs (inClass (topS 33) 2)) (defBody (inClass (topS 33) 2)) (defScope (inClass (topS 33) 2)) .none kV doc pm an cdv ct) ⟨us, []⟩ = pure ((["self"] : List Str).zip us) := fun _ _ _ _ _ _ us hl => match us, hl with | [_], _ => rfl
theorem bi_P7 : ∀ (kV doc pm : Value) (an : Option Addr) (cdv ct : Value) (us : List Value), us.length = (["self"] : List Str).length → bindArgs (PySem.W.fnOf "is_over" "Play.is_over" (defArgs (inClass (topS 33) 7)) (defBody (inClass (topS 33) 7)) (defScope (inClass (topS 33) 7)) .none kV doc pm an cdv ct) ⟨us, []⟩ = pure ((["self"] : List Str).zip us) := fun _ _ _ _ _ _ us hl => match us, hl with | [_], _ => rfl
theorem bi_P8 : ∀ (kV doc pm : Value) (an : Option Addr) (cdv ct : Value) (us : List Value), us.length = (["self"] : List Str).length → bindArgs (PySem.W.fnOf "mover" "Play.mover" (defArgs (inClass (topS 33) 8)) (defBody (inClass (topS 33) 8)) (defScope (inClass (topS 33) 8)) .none kV doc pm an cdv ct) ⟨us, []⟩ = pure ((["self"] : List Str).zip us) := fun _ _ _ _ _ _ us hl => match us, hl with | [_], _ => rfl
theorem bi_P9 : ∀ (kV doc pm : Value) (an : Option Addr) (cdv ct : Value) (us : List Value), us.length = (["self"] : List Str).length → bindArgs (PySem.W.fnOf "turn" "Play.turn" (defArgs (inClass (topS 33) 9)) (defBody (inClass (topS 33) 9)) (defScope (inClass (topS 33) 9)) .none kV doc pm an cdv ct) ⟨us, []⟩ = pure ((["self"] : List Str).zip us) := fun _ _ _ _ _ _ us hl => match us, hl with | [_], _ => rfl
theorem bi_P10 : ∀ (kV doc pm : Value) (an : Option Addr) (cdv ct : Value) (us : List Value), us.length = (["self"] : List Str).length → bindArgs (PySem.W.fnOf "legal" "Play.legal" (defArgs (inClass (topS 33) 10)) (defBody (inClass (topS 33) 10)) (defScope (inClass (topS 33) 10)) .none kV doc pm an cdv ct) ⟨us, []⟩ = pure ((["self"] : List Str).zip us) := fun _ _ _ _ _ _ us hl => match us, hl with | [_], _ => rfl
theorem bi_P11 : ∀ (kV doc pm : Value) (an : Option Addr) (cdv ct : Value) (us : List Value), us.length = (["self", "card"] : List Str).length → bindArgs (PySem.W.fnOf "put" "Play.put" (defArgs (inClass (topS 33) 11)) (defBody (inClass (topS 33) 11)) (defScope (inClass (topS 33) 11)) .none kV doc pm an cdv ct) ⟨us, []⟩ = pure ((["self", "card"] : List Str).zip us) := fun _ _ _ _ _ _ us hl => match us, hl with | [_, _], _ => rfl
theorem bi_P12 : ∀ (kV doc pm : Value) (an : Option Addr) (cdv ct : Value) (us : List Value), us.length = (["self"] : List Str).length → bindArgs (PySem.W.fnOf "take_back" "Play.take_back" (defArgs (inClass (topS 33) 12)) (defBody (inClass (topS 33) 12)) (defScope (inClass (topS 33) 12)) .none kV doc pm an cdv ct) ⟨us, []⟩ = pure ((["self"] : List Str).zip us) := fun _ _ _ _ _ _ us hl => match us, hl with | [_], _ => rfl
theorem bi_P14 : ∀ (kV doc pm : Value) (an : Option Addr) (cdv ct : Value) (us : List Value), us.length = (["self", "side"] : List Str).length → bindArgs (PySem.W.fnOf "tricks" "Play.tricks" (defArgs (inClass (topS 33) 14)) (defBody (inClass (topS 33) 14)) (defScope (inClass (topS 33) 14)) .none kV doc pm an cdv ct) ⟨us, []⟩ = pure ((["self", "side"] : List Str).zip us) := fun _ _ _ _ _ _ us hl => match us, hl with | [_, _], _ => rfl
theorem bi_P15 : ∀ (kV doc pm : Value) (an : Option Addr) (cdv ct : Value) (us : List Value), us.length = (["self"] : List Str).length → bindArgs (PySem.W.fnOf "left" "Play.left" (defArgs (inClass (topS 33) 15)) (defBody (inClass (topS 33) 15)) (defScope (inClass (topS 33) 15)) .none kV doc pm an cdv ct) ⟨us, []⟩ = pure ((["self"] : List Str).zip us) := fun _ _ _ _ _ _ us hl => match us, hl with | [_], _ => rfl
theorem bi_P16 : ∀ (kV doc pm : Value) (an : Option Addr) (cdv ct : Value) (us : List Value), us.length = (["self"] : List Str).length → bindArgs (PySem.W.fnOf "position" "Play.position" (defArgs (inClass (topS 33) 16)) (defBody (inClass (topS 33) 16)) (defScope (inClass (topS 33) 16)) .none kV doc pm an cdv ct) ⟨us, []⟩ = pure ((["self"] : List Str).zip us) := fun _ _ _ _ _ _ us hl => match us, hl with | [_], _ => rfl
theorem bi_L0 : ∀ (kV doc pm : Value) (an : Option Addr) (cdv ct : Value) (us : List Value), us.length = (["self", "deck", "position"] : List Str).length → bindArgs (PySem.W.fnOf "__init__" "Later.__init__" (defArgs (inClass (topS 34) 0)) (defBody (inClass (topS 34) 0)) (defScope (inClass (topS 34) 0)) .none kV doc pm an cdv ct) ⟨us, []⟩ = pure ((["self", "deck", "position"] : List Str).zip us) := fun _ _ _ _ _ _ us hl => match us, hl with | [_, _, _], _ => rfl
theorem bi_S0 : ∀ (kV doc pm : Value) (an : Option Addr) (cdv ct : Value) (us : List Value), us.length = (["self", "deck"] : List Str).length → bindArgs (PySem.W.fnOf "__init__" "Solver.__init__" (defArgs (inClass (topS 37) 0)) (defBody (inClass (topS 37) 0)) (defScope (inClass (topS 37) 0)) .none kV doc pm an cdv ct) ⟨us, []⟩ = pure ((["self", "deck"] : List Str).zip us) := fun _ _ _ _ _ _ us hl => match us, hl with | [_, _], _ => rfl
theorem bi_S1 : ∀ (kV doc pm : Value) (an : Option Addr) (cdv ct : Value) (us : List Value), us.length = (["self", "play"] : List Str).length → bindArgs (PySem.W.fnOf "share" "Solver.share" (defArgs (inClass (topS 37) 1)) (defBody (inClass (topS 37) 1)) (defScope (inClass (topS 37) 1)) .none kV doc pm an cdv ct) ⟨us, []⟩ = pure ((["self", "play"] : List Str).zip us) := fun _ _ _ _ _ _ us hl => match us, hl with | [_, _], _ => rfl
theorem bi_S2 : ∀ (kV doc pm : Value) (an : Option Addr) (cdv ct : Value) (us : List Value), us.length = (["self", "play"] : List Str).length → bindArgs (PySem.W.fnOf "after" "Solver.after" (defArgs (inClass (topS 37) 2)) (defBody (inClass (topS 37) 2)) (defScope (inClass (topS 37) 2)) .none kV doc pm an cdv ct) ⟨us, []⟩ = pure ((["self", "play"] : List Str).zip us) := fun _ _ _ _ _ _ us hl => match us, hl with | [_, _], _ => rfl
/-- all that the walk asks of the top -/
structure Txt (K : PySem.W.Frag) (mg : Str → Option Value) (CP CL CS : Addr) : Prop where
  F12 : TopFn K mg "check_deck" (topS 12) ["deck"]
  F13 : TopFn K mg "suit_of" (topS 13) ["deck", "card"]
  F14 : TopFn K mg "rank_of" (topS 14) ["deck", "card"]
  F15 : TopFn K mg "card_of" (topS 15) ["deck", "suit", "rank"]
  F16 : TopFn K mg "cards_of" (topS 16) ["mask"]
  F17 : TopFn K mg "mask_of" (topS 17) ["cards"]
  F18 : TopFn K mg "count_cards" (topS 18) ["mask"]
  F19 : TopFn K mg "of_suit" (topS 19) ["deck", "mask", "suit"]
  F22 : TopFn K mg "side_of" (topS 22) ["player"]
  F23 : TopFn K mg "check_deal" (topS 23) ["deck", "hands"]
  F24 : TopFn K mg "turned" (topS 24) ["hands", "by"]
  F25 : TopFn K mg "squeezed" (topS 25) ["deck", "hands"]
  F27 : TopFn K mg "with_suits" (topS 27) ["deck", "hands", "order"]
  F28 : TopFn K mg "with_trump" (topS 28) ["trump", "order"]
  F29 : TopFn K mg "orders_of" (topS 29) ["items"]
  F30 : TopFn K mg "standard" (topS 30) ["deck", "hands", "trump", "leader"]
  F32 : TopFn K mg "winner_of" (topS 32) ["deck", "trump", "leader", "cards"]
  F35 : TopFn K mg "play_at" (topS 35) ["deck", "position"]
  F38 : TopFn K mg "share" (topS 38) ["play", "side"]
  F40 : TopFn K mg "_law_is_integer" (topS 40) ["_law_actual"]
  F41 : TopFn K mg "_law_numbers" (topS 41) ["_law_script", "_law_first", "_law_most"]
  F42 : TopFn K mg "_law_deal" (topS 42) ["_law_numbers_here", "_law_suits", "_law_ranks", "_law_size"]
  F43 : TopFn K mg "_law_deck" (topS 43) ["_law_number", "_law_size"]
  F44 : TopFn K mg "_law_cards" (topS 44) ["_law_mask"]
  F45 : TopFn K mg "_law_legal" (topS 45) ["_law_deck_here", "_law_position"]
  F46 : TopFn K mg "_law_winner" (topS 46) ["_law_deck_here", "_law_trump", "_law_leader", "_law_cards_here"]
  F47 : TopFn K mg "_law_next" (topS 47) ["_law_deck_here", "_law_position", "_law_card"]
  F48 : TopFn K mg "_law_left" (topS 48) ["_law_position"]
  F49 : TopFn K mg "_law_share" (topS 49) ["_law_deck_here", "_law_position", "_law_known"]
  F50 : TopFn K mg "_law_side_share" (topS 50) ["_law_deck_here", "_law_position", "_law_side", "_law_known"]
  F51 : TopFn K mg "_law_pool" (topS 51) ["_law_script"]
  F52 : TopFn K mg "_law_pick" (topS 52) ["_law_pool_here", "_law_many"]
  F53 : TopFn K mg "_law_int" (topS 53) ["_law_actual", "_law_due"]
  F54 : TopFn K mg "_law_any_deal" (topS 54) ["_law_pool_here", "_law_most"]
  F55 : TopFn K mg "_law_started" (topS 55) ["_law_pool_here", "_law_most"]
  F56 : TopFn K mg "_law_orders" (topS 56) ["_law_many"]
  FP0P : MakFn K mg "Play" CP "Play.__init__" (inClass (topS 33) 0) ["self", "deck", "hands", "trump", "leader"]
  FP1P : MetFn K CP "begin" "Play.begin" (inClass (topS 33) 1) ["self", "deck", "position"]
  FP1L : MetFn K CL "begin" "Play.begin" (inClass (topS 33) 1) ["self", "deck", "position"]
  FP2P : MetFn K CP "deck" "Play.deck" (inClass (topS 33) 2) ["self"]
  FP7L : MetFn K CL "is_over" "Play.is_over" (inClass (topS 33) 7) ["self"]
  FP8L : MetFn K CL "mover" "Play.mover" (inClass (topS 33) 8) ["self"]
  FP9L : MetFn K CL "turn" "Play.turn" (inClass (topS 33) 9) ["self"]
  FP10L : MetFn K CL "legal" "Play.legal" (inClass (topS 33) 10) ["self"]
  FP11L : MetFn K CL "put" "Play.put" (inClass (topS 33) 11) ["self", "card"]
  FP12L : MetFn K CL "take_back" "Play.take_back" (inClass (topS 33) 12) ["self"]
  FP14L : MetFn K CL "tricks" "Play.tricks" (inClass (topS 33) 14) ["self", "side"]
  FP15L : MetFn K CL "left" "Play.left" (inClass (topS 33) 15) ["self"]
  FP16P : MetFn K CP "position" "Play.position" (inClass (topS 33) 16) ["self"]
  FP16L : MetFn K CL "position" "Play.position" (inClass (topS 33) 16) ["self"]
  FL0L : MakFn K mg "Later" CL "Later.__init__" (inClass (topS 34) 0) ["self", "deck", "position"]
  FS0S : MakFn K mg "Solver" CS "Solver.__init__" (inClass (topS 37) 0) ["self", "deck"]
  FS1S : MetFn K CS "share" "Solver.share" (inClass (topS 37) 1) ["self", "play"]
  FS2S : MetFn K CS "after" "Solver.after" (inClass (topS 37) 2) ["self", "play"]
  cP : ClsP K CP
  cL : ClsP K CL
  cS : ClsS K CS
  n_range : mg "range" = none
  n_len : mg "len" = none
  n_list : mg "list" = none
  n_tuple : mg "tuple" = none
  n_enumerate : mg "enumerate" = none
  n_max : mg "max" = none
  n_min : mg "min" = none
  n_abs : mg "abs" = none
  n_int : mg "int" = none
  n_bool : mg "bool" = none
  n_isinstance : mg "isinstance" = none
  mS : ∃ t, mg "MAX_SUITS" = some (.int 4 t)
  mR : ∃ t, mg "MAX_RANKS" = some (.int 13 t)
  pl : PlayersG K mg
theorem law_ok {P : Program} {w : World} {K : PySem.W.Frag} {mg : Str → Option Value} {base : Heap} {CP CL CS : Addr} (T : Txt K mg CP CL CS) {f : Addr} {fd : FuncData} (F : Fun K "law" "law" (topS 57) f fd) : FnOk P w K mg base CX0 23 f fd ["_law_script"] (spLaw K) := by
  obtain ⟨t1, m1⟩ := T.mS
  obtain ⟨t2, m2⟩ := T.mR
  have c12 : Cal P w K mg base _ _ _ := ok_chkdeck T.F12 m1 m2
  have c13 : Cal P w K mg base _ _ _ := ok_suit T.F13
  have c14 : Cal P w K mg base _ _ _ := ok_rank T.F14
  have c15 : Cal P w K mg base _ _ _ := ok_card T.F15
  have c16 : Cal P w K mg base _ _ _ := ok_cards T.F16 T.n_range
  have c17 : Cal P w K mg base _ _ _ := ok_mask T.F17
  have c18 : Cal P w K mg base _ _ _ := ok_count T.F18 c16 T.n_len
  have c19 : Cal P w K mg base _ _ _ := ok_ofsuit T.F19
  have c22 : Cal P w K mg base _ _ _ := ok_side T.F22
  have c23 : Cal P w K mg base _ _ _ := ok_chkdeal T.F23 c12 c18 T.n_len
  have c24 : Cal P w K mg base _ _ _ := ok_turned T.F24 T.pl T.n_tuple
  have c25 : Cal P w K mg base _ _ _ := ok_squeezed T.F25 c16 c19 c15 c17 T.n_range T.n_len T.n_max T.n_enumerate T.n_tuple
  have c27 : Cal P w K mg base _ _ _ := ok_wsuits T.F27 c15 c13 c14 c16 c17 T.n_tuple
  have c28 : Cal P w K mg base _ _ _ := ok_wtrump T.F28
  have c29 : Cal P w K mg base _ _ _ := ok_orders T.F29 T.n_range T.n_len 5
  have c30 : Cal P w K mg base _ _ _ := ok_standard T.F30 c24 c25 c29 c27 c28 T.n_range T.n_list T.n_min
  have c32 : Cal P w K mg base _ _ _ := ok_win T.F32 c13 T.n_enumerate
  have bP : Met P w K mg base _ _ _ _ := ok_begin (cl := T.cP.cl) T.FP1P T.n_list
  have bL : Met P w K mg base _ _ _ _ := ok_begin (cl := T.cL.cl) T.FP1L T.n_list
  have dP : Met P w K mg base _ _ _ _ := ok_deck T.cP.cl T.FP2P
  have pP : Met P w K mg base _ _ _ _ := ok_posn T.cP.cl T.FP16P T.n_tuple
  have pL : Met P w K mg base _ _ _ _ := ok_posn T.cL.cl T.FP16L T.n_tuple
  have ov : Met P w K mg base _ _ _ _ := ok_over T.cL.cl T.FP7L
  have mo : Met P w K mg base _ _ _ _ := ok_mover T.cL.cl T.FP8L T.n_len
  have tu : Met P w K mg base _ _ _ _ := ok_turn T.cL T.FP9L ov mo
  have tr : Met P w K mg base _ _ _ _ := ok_tricks T.cL.cl T.FP14L
  have le : Met P w K mg base _ _ _ _ := ok_left T.cL.cl T.FP15L c16 T.n_len
  have lg : Met P w K mg base _ _ _ _ := ok_legal T.cL T.FP10L c16 c19 c13 mo T.n_len
  have pu : Met P w K mg base _ _ _ _ := ok_put T.cL T.FP11L tu lg c32 c22 T.n_len T.n_tuple
  have ba : Met P w K mg base _ _ _ _ := ok_back T.cL T.FP12L T.n_len T.n_list
  have se : Met P w K mg base _ _ _ _ := ok_search T.cS T.cL T.FS1S T.FS2S pL tu tr lg pu ba c22 T.n_len T.n_max T.n_min 9
  have iP : Mak P w K mg base _ _ _ _ := ok_playinit T.cP T.FP0P c23 bP T.n_tuple
  have iL : Mak P w K mg base _ _ _ _ := ok_laterinit T.cL T.FL0L bL
  have iS : Mak P w K mg base _ _ _ _ := ok_solinit T.cS T.FS0S
  have c35 : Cal P w K mg base _ _ _ := ok_playat T.F35 iL
  have c38 : Cal P w K mg base _ _ _ := ok_share T.cP T.cL T.F38 dP pP c35 iS se le
  have l40 : Cal P w K mg base _ _ _ := ok_lisint T.F40 T.n_isinstance T.n_int T.n_bool
  have l41 : Cal P w K mg base _ _ _ := ok_lnumbers T.F41 T.n_range T.n_len T.n_abs T.n_int
  have l42 : Cal P w K mg base _ _ _ := ok_ldeal T.F42 T.n_range T.n_len T.n_list T.n_int
  have l43 : Cal P w K mg base _ _ _ := ok_ldeck T.F43 T.n_int
  have l44 : Cal P w K mg base _ _ _ := ok_lcards T.F44 T.n_range
  have l45 : Cal P w K mg base _ _ _ := ok_llegal T.F45 l44 T.n_len
  have l46 : Cal P w K mg base _ _ _ := ok_lwin T.F46 T.n_range T.n_len T.n_int
  have l47 : Cal P w K mg base _ _ _ := ok_lnext T.F47 l46 T.n_len T.n_list
  have l48 : Cal P w K mg base _ _ _ := ok_lleft T.F48 l44 T.n_len
  have l49 : Cal P w K mg base _ _ _ := ok_lshare T.F49 l45 l47 T.n_len T.n_int T.n_max T.n_min 9
  have l50 : Cal P w K mg base _ _ _ := ok_lside T.F50 l49 l48
  have l51 : Cal P w K mg base _ _ _ := ok_lpool T.F51 l41
  have l52 : Cal P w K mg base _ _ _ := ok_lpick T.F52 T.n_len T.n_int
  have l53 : Cal P w K mg base _ _ _ := ok_lint T.F53 l40
  have l54 : Cal P w K mg base _ _ _ := ok_lany T.F54 l52 l43 l42 T.n_range
  have l55 : Cal P w K mg base _ _ _ := ok_lstarted T.F55 l54 l52
  have l56 : Cal P w K mg base _ _ _ := ok_lorders T.F56 T.n_range 5
  exact ok_law F l51 l52 l55 l50 l44 l53 l56 c38 iP c27 c28 c25 c24 c30 T.n_range T.n_len T.n_int
section
variable {K : PySem.W.Frag} {h : Heap} {mg : Str → Option Value}
theorem top_fn {x : Str} {st : Stmt} {ps : List Str} {f : Addr} {oc : Value} {od an : Option Addr} {osl : Array (Option Value)} {kV doc pm cdv ct : Value} (X : K.In h) (G : h.Ns mainGlobals mg) (hb : ∀ (kV doc pm : Value) (an : Option Addr) (cdv ct : Value) (us : List Value), us.length = ps.length → bindArgs (PySem.W.fnOf x x (defArgs st) (defBody st) (defScope st) .none kV doc pm an cdv ct) ⟨us, []⟩ = pure (ps.zip us))
    (a : PySem.W.nsIn K mainGlobals x = some (some (.ref f))) (l : K.lookup f = some ⟨oc, od, .func (PySem.W.fnOf x x (defArgs st) (defBody st) (defScope st) .none kV doc pm an cdv ct), osl⟩) (c : PySem.W.codeIn K cdv x = true) (k : PySem.W.keepIn K (.ref f) = true) : TopFn K mg x st ps :=
  ⟨f, _, fun_mk l c k, PySem.W.mg_of X G a, (fun_mk l c k).binds hb⟩
theorem met_fn {C : Addr} {x qual : Str} {st : Stmt} {ps : List Str} {f : Addr} {oc : Value} {od an : Option Addr} {osl : Array (Option Value)} {kV doc pm cdv ct : Value} (hb : ∀ (kV doc pm : Value) (an : Option Addr) (cdv ct : Value) (us : List Value), us.length = ps.length → bindArgs (PySem.W.fnOf x qual (defArgs st) (defBody st) (defScope st) .none kV doc pm an cdv ct) ⟨us, []⟩ = pure (ps.zip us))
    (a : PySem.W.findIn K (.ref C) x = some (some (.ref f))) (i : PySem.W.isFn K (.ref f) = true) (l : K.lookup f = some ⟨oc, od, .func (PySem.W.fnOf x qual (defArgs st) (defBody st) (defScope st) .none kV doc pm an cdv ct), osl⟩) (c : PySem.W.codeIn K cdv qual = true) (k : PySem.W.keepIn K (.ref f) = true) : MetFn K C x qual st ps :=
  ⟨f, _, fun_mk l c k, ⟨a, i, k⟩, (fun_mk l c k).binds hb⟩
theorem mak_fn {X C : Addr} {y qual : Str} {st : Stmt} {ps : List Str} {f : Addr} {oc : Value} {od an : Option Addr} {osl : Array (Option Value)} {kV doc pm cdv ct : Value} (hb : ∀ (kV doc pm : Value) (an : Option Addr) (cdv ct : Value) (us : List Value), us.length = ps.length → bindArgs (PySem.W.fnOf "__init__" qual (defArgs st) (defBody st) (defScope st) .none kV doc pm an cdv ct) ⟨us, []⟩ = pure (ps.zip us))
    (m : mg y = some (.ref C)) (mk : PySem.W.makesIn K C = true) (kc : PySem.W.keepIn K (.ref C) = true) (a : PySem.W.findIn K (.ref C) "__init__" = some (some (.ref f))) (i : PySem.W.isFn K (.ref f) = true) (l : K.lookup f = some ⟨oc, od, .func (PySem.W.fnOf "__init__" qual (defArgs st) (defBody st) (defScope st) .none kV doc pm an cdv ct), osl⟩) (c : PySem.W.codeIn K cdv qual = true) (k : PySem.W.keepIn K (.ref f) = true) : MakFn K mg y C qual st ps :=
  ⟨f, _, fun_mk l c k, ⟨mk, a, i, kc⟩, m, (fun_mk l c k).binds hb⟩
theorem players_g {pa : Addr} {dd : Option Addr} {n : Nat} {sl : Array (Option Value)} {t0 t1 t2 t3 : Tok} (X : K.In h) (G : h.Ns mainGlobals mg) (a : PySem.W.nsIn K mainGlobals "PLAYERS" = some (some (.ref pa))) (l : K.lookup pa = some ⟨.type "tuple", dd, .seq #[.int 0 t0, .int 1 t1, .int 2 t2, .int 3 t3] n, sl⟩) : PlayersG K mg :=
  ⟨pa, PySem.W.mg_of X G a, fun H => .inr ⟨_, _, n, l, rfl, rfl, small64 (by show 4 ≤ 4096; decide), .cons ⟨_, rfl⟩ (.cons ⟨_, rfl⟩ (.cons ⟨_, rfl⟩ (.cons ⟨_, rfl⟩ .nil)))⟩⟩
end
theorem all_mk {l : PySem.W.OpenLaw} {w : World} {K : PySem.W.Frag} {h : Heap} {mg : Str → Option Value} {fa : Addr} (X : K.In h) (G : h.Ns mainGlobals mg) (hfa : mg "law" = some (.ref fa))
    {CP : Addr}
    {CL : Addr}
    {CS : Addr}
    {f12 : Addr} {od12 an12 : Option Addr} {sl12 : Array (Option Value)} {oc12 kV12 dc12 pm12 cd12 ct12 : Value}
    {f13 : Addr} {od13 an13 : Option Addr} {sl13 : Array (Option Value)} {oc13 kV13 dc13 pm13 cd13 ct13 : Value}
    {f14 : Addr} {od14 an14 : Option Addr} {sl14 : Array (Option Value)} {oc14 kV14 dc14 pm14 cd14 ct14 : Value}
    {f15 : Addr} {od15 an15 : Option Addr} {sl15 : Array (Option Value)} {oc15 kV15 dc15 pm15 cd15 ct15 : Value}
    {f16 : Addr} {od16 an16 : Option Addr} {sl16 : Array (Option Value)} {oc16 kV16 dc16 pm16 cd16 ct16 : Value}
    {f17 : Addr} {od17 an17 : Option Addr} {sl17 : Array (Option Value)} {oc17 kV17 dc17 pm17 cd17 ct17 : Value}
    {f18 : Addr} {od18 an18 : Option Addr} {sl18 : Array (Option Value)} {oc18 kV18 dc18 pm18 cd18 ct18 : Value}
    {f19 : Addr} {od19 an19 : Option Addr} {sl19 : Array (Option Value)} {oc19 kV19 dc19 pm19 cd19 ct19 : Value}
    {f22 : Addr} {od22 an22 : Option Addr} {sl22 : Array (Option Value)} {oc22 kV22 dc22 pm22 cd22 ct22 : Value}
    {f23 : Addr} {od23 an23 : Option Addr} {sl23 : Array (Option Value)} {oc23 kV23 dc23 pm23 cd23 ct23 : Value}
    {f24 : Addr} {od24 an24 : Option Addr} {sl24 : Array (Option Value)} {oc24 kV24 dc24 pm24 cd24 ct24 : Value}
    {f25 : Addr} {od25 an25 : Option Addr} {sl25 : Array (Option Value)} {oc25 kV25 dc25 pm25 cd25 ct25 : Value}
    {f27 : Addr} {od27 an27 : Option Addr} {sl27 : Array (Option Value)} {oc27 kV27 dc27 pm27 cd27 ct27 : Value}
    {f28 : Addr} {od28 an28 : Option Addr} {sl28 : Array (Option Value)} {oc28 kV28 dc28 pm28 cd28 ct28 : Value}
    {f29 : Addr} {od29 an29 : Option Addr} {sl29 : Array (Option Value)} {oc29 kV29 dc29 pm29 cd29 ct29 : Value}
    {f30 : Addr} {od30 an30 : Option Addr} {sl30 : Array (Option Value)} {oc30 kV30 dc30 pm30 cd30 ct30 : Value}
    {f32 : Addr} {od32 an32 : Option Addr} {sl32 : Array (Option Value)} {oc32 kV32 dc32 pm32 cd32 ct32 : Value}
    {f35 : Addr} {od35 an35 : Option Addr} {sl35 : Array (Option Value)} {oc35 kV35 dc35 pm35 cd35 ct35 : Value}
    {f38 : Addr} {od38 an38 : Option Addr} {sl38 : Array (Option Value)} {oc38 kV38 dc38 pm38 cd38 ct38 : Value}
    {f40 : Addr} {od40 an40 : Option Addr} {sl40 : Array (Option Value)} {oc40 kV40 dc40 pm40 cd40 ct40 : Value}
    {f41 : Addr} {od41 an41 : Option Addr} {sl41 : Array (Option Value)} {oc41 kV41 dc41 pm41 cd41 ct41 : Value}
    {f42 : Addr} {od42 an42 : Option Addr} {sl42 : Array (Option Value)} {oc42 kV42 dc42 pm42 cd42 ct42 : Value}
    {f43 : Addr} {od43 an43 : Option Addr} {sl43 : Array (Option Value)} {oc43 kV43 dc43 pm43 cd43 ct43 : Value}
    {f44 : Addr} {od44 an44 : Option Addr} {sl44 : Array (Option Value)} {oc44 kV44 dc44 pm44 cd44 ct44 : Value}
    {f45 : Addr} {od45 an45 : Option Addr} {sl45 : Array (Option Value)} {oc45 kV45 dc45 pm45 cd45 ct45 : Value}
    {f46 : Addr} {od46 an46 : Option Addr} {sl46 : Array (Option Value)} {oc46 kV46 dc46 pm46 cd46 ct46 : Value}
    {f47 : Addr} {od47 an47 : Option Addr} {sl47 : Array (Option Value)} {oc47 kV47 dc47 pm47 cd47 ct47 : Value}
    {f48 : Addr} {od48 an48 : Option Addr} {sl48 : Array (Option Value)} {oc48 kV48 dc48 pm48 cd48 ct48 : Value}
    {f49 : Addr} {od49 an49 : Option Addr} {sl49 : Array (Option Value)} {oc49 kV49 dc49 pm49 cd49 ct49 : Value}
    {f50 : Addr} {od50 an50 : Option Addr} {sl50 : Array (Option Value)} {oc50 kV50 dc50 pm50 cd50 ct50 : Value}
    {f51 : Addr} {od51 an51 : Option Addr} {sl51 : Array (Option Value)} {oc51 kV51 dc51 pm51 cd51 ct51 : Value}
    {f52 : Addr} {od52 an52 : Option Addr} {sl52 : Array (Option Value)} {oc52 kV52 dc52 pm52 cd52 ct52 : Value}
    {f53 : Addr} {od53 an53 : Option Addr} {sl53 : Array (Option Value)} {oc53 kV53 dc53 pm53 cd53 ct53 : Value}
    {f54 : Addr} {od54 an54 : Option Addr} {sl54 : Array (Option Value)} {oc54 kV54 dc54 pm54 cd54 ct54 : Value}
    {f55 : Addr} {od55 an55 : Option Addr} {sl55 : Array (Option Value)} {oc55 kV55 dc55 pm55 cd55 ct55 : Value}
    {f56 : Addr} {od56 an56 : Option Addr} {sl56 : Array (Option Value)} {oc56 kV56 dc56 pm56 cd56 ct56 : Value}
    {f57 : Addr} {od57 an57 : Option Addr} {sl57 : Array (Option Value)} {oc57 kV57 dc57 pm57 cd57 ct57 : Value}
    {fP0 : Addr} {odP0 anP0 : Option Addr} {slP0 : Array (Option Value)} {ocP0 kVP0 dcP0 pmP0 cdP0 ctP0 : Value}
    {fP1 : Addr} {odP1 anP1 : Option Addr} {slP1 : Array (Option Value)} {ocP1 kVP1 dcP1 pmP1 cdP1 ctP1 : Value}
    {fP2 : Addr} {odP2 anP2 : Option Addr} {slP2 : Array (Option Value)} {ocP2 kVP2 dcP2 pmP2 cdP2 ctP2 : Value}
    {fP7 : Addr} {odP7 anP7 : Option Addr} {slP7 : Array (Option Value)} {ocP7 kVP7 dcP7 pmP7 cdP7 ctP7 : Value}
    {fP8 : Addr} {odP8 anP8 : Option Addr} {slP8 : Array (Option Value)} {ocP8 kVP8 dcP8 pmP8 cdP8 ctP8 : Value}
    {fP9 : Addr} {odP9 anP9 : Option Addr} {slP9 : Array (Option Value)} {ocP9 kVP9 dcP9 pmP9 cdP9 ctP9 : Value}
    {fP10 : Addr} {odP10 anP10 : Option Addr} {slP10 : Array (Option Value)} {ocP10 kVP10 dcP10 pmP10 cdP10 ctP10 : Value}
    {fP11 : Addr} {odP11 anP11 : Option Addr} {slP11 : Array (Option Value)} {ocP11 kVP11 dcP11 pmP11 cdP11 ctP11 : Value}
    {fP12 : Addr} {odP12 anP12 : Option Addr} {slP12 : Array (Option Value)} {ocP12 kVP12 dcP12 pmP12 cdP12 ctP12 : Value}
    {fP14 : Addr} {odP14 anP14 : Option Addr} {slP14 : Array (Option Value)} {ocP14 kVP14 dcP14 pmP14 cdP14 ctP14 : Value}
    {fP15 : Addr} {odP15 anP15 : Option Addr} {slP15 : Array (Option Value)} {ocP15 kVP15 dcP15 pmP15 cdP15 ctP15 : Value}
    {fP16 : Addr} {odP16 anP16 : Option Addr} {slP16 : Array (Option Value)} {ocP16 kVP16 dcP16 pmP16 cdP16 ctP16 : Value}
    {fL0 : Addr} {odL0 anL0 : Option Addr} {slL0 : Array (Option Value)} {ocL0 kVL0 dcL0 pmL0 cdL0 ctL0 : Value}
    {fS0 : Addr} {odS0 anS0 : Option Addr} {slS0 : Array (Option Value)} {ocS0 kVS0 dcS0 pmS0 cdS0 ctS0 : Value}
    {fS1 : Addr} {odS1 anS1 : Option Addr} {slS1 : Array (Option Value)} {ocS1 kVS1 dcS1 pmS1 cdS1 ctS1 : Value}
    {fS2 : Addr} {odS2 anS2 : Option Addr} {slS2 : Array (Option Value)} {ocS2 kVS2 dcS2 pmS2 cdS2 ctS2 : Value}
    {tms tmr t0 t1 t2 t3 : Tok} {pa : Addr} {pdd : Option Addr} {pn : Nat} {psl : Array (Option Value)}
    (aP : PySem.W.nsIn K mainGlobals "Play" = some (some (.ref CP)))
    (pgP : PySem.W.plainGet K CP Str.empty = true)
    (hdP : PySem.W.hasDictIn K CP = true)
    (poP : PySem.W.plainOver K CP = true)
    (saP : PySem.W.findIn K (.ref CP) "__setattr__" = some (some (.builtin "object.__setattr__")))
    (mkP : PySem.W.makesIn K CP = true)
    (kcP : PySem.W.keepIn K (.ref CP) = true)
    (naP0 : PySem.W.findIn K (.ref CP) "_deck" = some none)
    (naP1 : PySem.W.findIn K (.ref CP) "_trump" = some none)
    (naP2 : PySem.W.findIn K (.ref CP) "_leader" = some none)
    (naP3 : PySem.W.findIn K (.ref CP) "_hands" = some none)
    (naP4 : PySem.W.findIn K (.ref CP) "_led" = some none)
    (naP5 : PySem.W.findIn K (.ref CP) "_won" = some none)
    (naP6 : PySem.W.findIn K (.ref CP) "_history" = some none)
    (naP7 : PySem.W.findIn K (.ref CP) "_before" = some none)
    (aL : PySem.W.nsIn K mainGlobals "Later" = some (some (.ref CL)))
    (pgL : PySem.W.plainGet K CL Str.empty = true)
    (hdL : PySem.W.hasDictIn K CL = true)
    (poL : PySem.W.plainOver K CL = true)
    (saL : PySem.W.findIn K (.ref CL) "__setattr__" = some (some (.builtin "object.__setattr__")))
    (mkL : PySem.W.makesIn K CL = true)
    (kcL : PySem.W.keepIn K (.ref CL) = true)
    (naL0 : PySem.W.findIn K (.ref CL) "_deck" = some none)
    (naL1 : PySem.W.findIn K (.ref CL) "_trump" = some none)
    (naL2 : PySem.W.findIn K (.ref CL) "_leader" = some none)
    (naL3 : PySem.W.findIn K (.ref CL) "_hands" = some none)
    (naL4 : PySem.W.findIn K (.ref CL) "_led" = some none)
    (naL5 : PySem.W.findIn K (.ref CL) "_won" = some none)
    (naL6 : PySem.W.findIn K (.ref CL) "_history" = some none)
    (naL7 : PySem.W.findIn K (.ref CL) "_before" = some none)
    (aS : PySem.W.nsIn K mainGlobals "Solver" = some (some (.ref CS)))
    (pgS : PySem.W.plainGet K CS Str.empty = true)
    (hdS : PySem.W.hasDictIn K CS = true)
    (poS : PySem.W.plainOver K CS = true)
    (saS : PySem.W.findIn K (.ref CS) "__setattr__" = some (some (.builtin "object.__setattr__")))
    (mkS : PySem.W.makesIn K CS = true)
    (kcS : PySem.W.keepIn K (.ref CS) = true)
    (naS0 : PySem.W.findIn K (.ref CS) "deck" = some none)
    (naS1 : PySem.W.findIn K (.ref CS) "known" = some none)
    (a12 : PySem.W.nsIn K mainGlobals "check_deck" = some (some (.ref f12)))
    (l12 : K.lookup f12 = some ⟨oc12, od12, .func (PySem.W.fnOf "check_deck" "check_deck" (defArgs (topS 12)) (defBody (topS 12)) (defScope (topS 12)) .none kV12 dc12 pm12 an12 cd12 ct12), sl12⟩)
    (c12 : PySem.W.codeIn K cd12 "check_deck" = true)
    (k12 : PySem.W.keepIn K (.ref f12) = true)
    (a13 : PySem.W.nsIn K mainGlobals "suit_of" = some (some (.ref f13)))
    (l13 : K.lookup f13 = some ⟨oc13, od13, .func (PySem.W.fnOf "suit_of" "suit_of" (defArgs (topS 13)) (defBody (topS 13)) (defScope (topS 13)) .none kV13 dc13 pm13 an13 cd13 ct13), sl13⟩)
    (c13 : PySem.W.codeIn K cd13 "suit_of" = true)
    (k13 : PySem.W.keepIn K (.ref f13) = true)
    (a14 : PySem.W.nsIn K mainGlobals "rank_of" = some (some (.ref f14)))
    (l14 : K.lookup f14 = some ⟨oc14, od14, .func (PySem.W.fnOf "rank_of" "rank_of" (defArgs (topS 14)) (defBody (topS 14)) (defScope (topS 14)) .none kV14 dc14 pm14 an14 cd14 ct14), sl14⟩)
    (c14 : PySem.W.codeIn K cd14 "rank_of" = true)
    (k14 : PySem.W.keepIn K (.ref f14) = true)
    (a15 : PySem.W.nsIn K mainGlobals "card_of" = some (some (.ref f15)))
    (l15 : K.lookup f15 = some ⟨oc15, od15, .func (PySem.W.fnOf "card_of" "card_of" (defArgs (topS 15)) (defBody (topS 15)) (defScope (topS 15)) .none kV15 dc15 pm15 an15 cd15 ct15), sl15⟩)
    (c15 : PySem.W.codeIn K cd15 "card_of" = true)
    (k15 : PySem.W.keepIn K (.ref f15) = true)
    (a16 : PySem.W.nsIn K mainGlobals "cards_of" = some (some (.ref f16)))
    (l16 : K.lookup f16 = some ⟨oc16, od16, .func (PySem.W.fnOf "cards_of" "cards_of" (defArgs (topS 16)) (defBody (topS 16)) (defScope (topS 16)) .none kV16 dc16 pm16 an16 cd16 ct16), sl16⟩)
    (c16 : PySem.W.codeIn K cd16 "cards_of" = true)
    (k16 : PySem.W.keepIn K (.ref f16) = true)
    (a17 : PySem.W.nsIn K mainGlobals "mask_of" = some (some (.ref f17)))
    (l17 : K.lookup f17 = some ⟨oc17, od17, .func (PySem.W.fnOf "mask_of" "mask_of" (defArgs (topS 17)) (defBody (topS 17)) (defScope (topS 17)) .none kV17 dc17 pm17 an17 cd17 ct17), sl17⟩)
    (c17 : PySem.W.codeIn K cd17 "mask_of" = true)
    (k17 : PySem.W.keepIn K (.ref f17) = true)
    (a18 : PySem.W.nsIn K mainGlobals "count_cards" = some (some (.ref f18)))
    (l18 : K.lookup f18 = some ⟨oc18, od18, .func (PySem.W.fnOf "count_cards" "count_cards" (defArgs (topS 18)) (defBody (topS 18)) (defScope (topS 18)) .none kV18 dc18 pm18 an18 cd18 ct18), sl18⟩)
    (c18 : PySem.W.codeIn K cd18 "count_cards" = true)
    (k18 : PySem.W.keepIn K (.ref f18) = true)
    (a19 : PySem.W.nsIn K mainGlobals "of_suit" = some (some (.ref f19)))
    (l19 : K.lookup f19 = some ⟨oc19, od19, .func (PySem.W.fnOf "of_suit" "of_suit" (defArgs (topS 19)) (defBody (topS 19)) (defScope (topS 19)) .none kV19 dc19 pm19 an19 cd19 ct19), sl19⟩)
    (c19 : PySem.W.codeIn K cd19 "of_suit" = true)
    (k19 : PySem.W.keepIn K (.ref f19) = true)
    (a22 : PySem.W.nsIn K mainGlobals "side_of" = some (some (.ref f22)))
    (l22 : K.lookup f22 = some ⟨oc22, od22, .func (PySem.W.fnOf "side_of" "side_of" (defArgs (topS 22)) (defBody (topS 22)) (defScope (topS 22)) .none kV22 dc22 pm22 an22 cd22 ct22), sl22⟩)
    (c22 : PySem.W.codeIn K cd22 "side_of" = true)
    (k22 : PySem.W.keepIn K (.ref f22) = true)
    (a23 : PySem.W.nsIn K mainGlobals "check_deal" = some (some (.ref f23)))
    (l23 : K.lookup f23 = some ⟨oc23, od23, .func (PySem.W.fnOf "check_deal" "check_deal" (defArgs (topS 23)) (defBody (topS 23)) (defScope (topS 23)) .none kV23 dc23 pm23 an23 cd23 ct23), sl23⟩)
    (c23 : PySem.W.codeIn K cd23 "check_deal" = true)
    (k23 : PySem.W.keepIn K (.ref f23) = true)
    (a24 : PySem.W.nsIn K mainGlobals "turned" = some (some (.ref f24)))
    (l24 : K.lookup f24 = some ⟨oc24, od24, .func (PySem.W.fnOf "turned" "turned" (defArgs (topS 24)) (defBody (topS 24)) (defScope (topS 24)) .none kV24 dc24 pm24 an24 cd24 ct24), sl24⟩)
    (c24 : PySem.W.codeIn K cd24 "turned" = true)
    (k24 : PySem.W.keepIn K (.ref f24) = true)
    (a25 : PySem.W.nsIn K mainGlobals "squeezed" = some (some (.ref f25)))
    (l25 : K.lookup f25 = some ⟨oc25, od25, .func (PySem.W.fnOf "squeezed" "squeezed" (defArgs (topS 25)) (defBody (topS 25)) (defScope (topS 25)) .none kV25 dc25 pm25 an25 cd25 ct25), sl25⟩)
    (c25 : PySem.W.codeIn K cd25 "squeezed" = true)
    (k25 : PySem.W.keepIn K (.ref f25) = true)
    (a27 : PySem.W.nsIn K mainGlobals "with_suits" = some (some (.ref f27)))
    (l27 : K.lookup f27 = some ⟨oc27, od27, .func (PySem.W.fnOf "with_suits" "with_suits" (defArgs (topS 27)) (defBody (topS 27)) (defScope (topS 27)) .none kV27 dc27 pm27 an27 cd27 ct27), sl27⟩)
    (c27 : PySem.W.codeIn K cd27 "with_suits" = true)
    (k27 : PySem.W.keepIn K (.ref f27) = true)
    (a28 : PySem.W.nsIn K mainGlobals "with_trump" = some (some (.ref f28)))
    (l28 : K.lookup f28 = some ⟨oc28, od28, .func (PySem.W.fnOf "with_trump" "with_trump" (defArgs (topS 28)) (defBody (topS 28)) (defScope (topS 28)) .none kV28 dc28 pm28 an28 cd28 ct28), sl28⟩)
    (c28 : PySem.W.codeIn K cd28 "with_trump" = true)
    (k28 : PySem.W.keepIn K (.ref f28) = true)
    (a29 : PySem.W.nsIn K mainGlobals "orders_of" = some (some (.ref f29)))
    (l29 : K.lookup f29 = some ⟨oc29, od29, .func (PySem.W.fnOf "orders_of" "orders_of" (defArgs (topS 29)) (defBody (topS 29)) (defScope (topS 29)) .none kV29 dc29 pm29 an29 cd29 ct29), sl29⟩)
    (c29 : PySem.W.codeIn K cd29 "orders_of" = true)
    (k29 : PySem.W.keepIn K (.ref f29) = true)
    (a30 : PySem.W.nsIn K mainGlobals "standard" = some (some (.ref f30)))
    (l30 : K.lookup f30 = some ⟨oc30, od30, .func (PySem.W.fnOf "standard" "standard" (defArgs (topS 30)) (defBody (topS 30)) (defScope (topS 30)) .none kV30 dc30 pm30 an30 cd30 ct30), sl30⟩)
    (c30 : PySem.W.codeIn K cd30 "standard" = true)
    (k30 : PySem.W.keepIn K (.ref f30) = true)
    (a32 : PySem.W.nsIn K mainGlobals "winner_of" = some (some (.ref f32)))
    (l32 : K.lookup f32 = some ⟨oc32, od32, .func (PySem.W.fnOf "winner_of" "winner_of" (defArgs (topS 32)) (defBody (topS 32)) (defScope (topS 32)) .none kV32 dc32 pm32 an32 cd32 ct32), sl32⟩)
    (c32 : PySem.W.codeIn K cd32 "winner_of" = true)
    (k32 : PySem.W.keepIn K (.ref f32) = true)
    (a35 : PySem.W.nsIn K mainGlobals "play_at" = some (some (.ref f35)))
    (l35 : K.lookup f35 = some ⟨oc35, od35, .func (PySem.W.fnOf "play_at" "play_at" (defArgs (topS 35)) (defBody (topS 35)) (defScope (topS 35)) .none kV35 dc35 pm35 an35 cd35 ct35), sl35⟩)
    (c35 : PySem.W.codeIn K cd35 "play_at" = true)
    (k35 : PySem.W.keepIn K (.ref f35) = true)
    (a38 : PySem.W.nsIn K mainGlobals "share" = some (some (.ref f38)))
    (l38 : K.lookup f38 = some ⟨oc38, od38, .func (PySem.W.fnOf "share" "share" (defArgs (topS 38)) (defBody (topS 38)) (defScope (topS 38)) .none kV38 dc38 pm38 an38 cd38 ct38), sl38⟩)
    (c38 : PySem.W.codeIn K cd38 "share" = true)
    (k38 : PySem.W.keepIn K (.ref f38) = true)
    (a40 : PySem.W.nsIn K mainGlobals "_law_is_integer" = some (some (.ref f40)))
    (l40 : K.lookup f40 = some ⟨oc40, od40, .func (PySem.W.fnOf "_law_is_integer" "_law_is_integer" (defArgs (topS 40)) (defBody (topS 40)) (defScope (topS 40)) .none kV40 dc40 pm40 an40 cd40 ct40), sl40⟩)
    (c40 : PySem.W.codeIn K cd40 "_law_is_integer" = true)
    (k40 : PySem.W.keepIn K (.ref f40) = true)
    (a41 : PySem.W.nsIn K mainGlobals "_law_numbers" = some (some (.ref f41)))
    (l41 : K.lookup f41 = some ⟨oc41, od41, .func (PySem.W.fnOf "_law_numbers" "_law_numbers" (defArgs (topS 41)) (defBody (topS 41)) (defScope (topS 41)) .none kV41 dc41 pm41 an41 cd41 ct41), sl41⟩)
    (c41 : PySem.W.codeIn K cd41 "_law_numbers" = true)
    (k41 : PySem.W.keepIn K (.ref f41) = true)
    (a42 : PySem.W.nsIn K mainGlobals "_law_deal" = some (some (.ref f42)))
    (l42 : K.lookup f42 = some ⟨oc42, od42, .func (PySem.W.fnOf "_law_deal" "_law_deal" (defArgs (topS 42)) (defBody (topS 42)) (defScope (topS 42)) .none kV42 dc42 pm42 an42 cd42 ct42), sl42⟩)
    (c42 : PySem.W.codeIn K cd42 "_law_deal" = true)
    (k42 : PySem.W.keepIn K (.ref f42) = true)
    (a43 : PySem.W.nsIn K mainGlobals "_law_deck" = some (some (.ref f43)))
    (l43 : K.lookup f43 = some ⟨oc43, od43, .func (PySem.W.fnOf "_law_deck" "_law_deck" (defArgs (topS 43)) (defBody (topS 43)) (defScope (topS 43)) .none kV43 dc43 pm43 an43 cd43 ct43), sl43⟩)
    (c43 : PySem.W.codeIn K cd43 "_law_deck" = true)
    (k43 : PySem.W.keepIn K (.ref f43) = true)
    (a44 : PySem.W.nsIn K mainGlobals "_law_cards" = some (some (.ref f44)))
    (l44 : K.lookup f44 = some ⟨oc44, od44, .func (PySem.W.fnOf "_law_cards" "_law_cards" (defArgs (topS 44)) (defBody (topS 44)) (defScope (topS 44)) .none kV44 dc44 pm44 an44 cd44 ct44), sl44⟩)
    (c44 : PySem.W.codeIn K cd44 "_law_cards" = true)
    (k44 : PySem.W.keepIn K (.ref f44) = true)
    (a45 : PySem.W.nsIn K mainGlobals "_law_legal" = some (some (.ref f45)))
    (l45 : K.lookup f45 = some ⟨oc45, od45, .func (PySem.W.fnOf "_law_legal" "_law_legal" (defArgs (topS 45)) (defBody (topS 45)) (defScope (topS 45)) .none kV45 dc45 pm45 an45 cd45 ct45), sl45⟩)
    (c45 : PySem.W.codeIn K cd45 "_law_legal" = true)
    (k45 : PySem.W.keepIn K (.ref f45) = true)
    (a46 : PySem.W.nsIn K mainGlobals "_law_winner" = some (some (.ref f46)))
    (l46 : K.lookup f46 = some ⟨oc46, od46, .func (PySem.W.fnOf "_law_winner" "_law_winner" (defArgs (topS 46)) (defBody (topS 46)) (defScope (topS 46)) .none kV46 dc46 pm46 an46 cd46 ct46), sl46⟩)
    (c46 : PySem.W.codeIn K cd46 "_law_winner" = true)
    (k46 : PySem.W.keepIn K (.ref f46) = true)
    (a47 : PySem.W.nsIn K mainGlobals "_law_next" = some (some (.ref f47)))
    (l47 : K.lookup f47 = some ⟨oc47, od47, .func (PySem.W.fnOf "_law_next" "_law_next" (defArgs (topS 47)) (defBody (topS 47)) (defScope (topS 47)) .none kV47 dc47 pm47 an47 cd47 ct47), sl47⟩)
    (c47 : PySem.W.codeIn K cd47 "_law_next" = true)
    (k47 : PySem.W.keepIn K (.ref f47) = true)
    (a48 : PySem.W.nsIn K mainGlobals "_law_left" = some (some (.ref f48)))
    (l48 : K.lookup f48 = some ⟨oc48, od48, .func (PySem.W.fnOf "_law_left" "_law_left" (defArgs (topS 48)) (defBody (topS 48)) (defScope (topS 48)) .none kV48 dc48 pm48 an48 cd48 ct48), sl48⟩)
    (c48 : PySem.W.codeIn K cd48 "_law_left" = true)
    (k48 : PySem.W.keepIn K (.ref f48) = true)
    (a49 : PySem.W.nsIn K mainGlobals "_law_share" = some (some (.ref f49)))
    (l49 : K.lookup f49 = some ⟨oc49, od49, .func (PySem.W.fnOf "_law_share" "_law_share" (defArgs (topS 49)) (defBody (topS 49)) (defScope (topS 49)) .none kV49 dc49 pm49 an49 cd49 ct49), sl49⟩)
    (c49 : PySem.W.codeIn K cd49 "_law_share" = true)
    (k49 : PySem.W.keepIn K (.ref f49) = true)
    (a50 : PySem.W.nsIn K mainGlobals "_law_side_share" = some (some (.ref f50)))
    (l50 : K.lookup f50 = some ⟨oc50, od50, .func (PySem.W.fnOf "_law_side_share" "_law_side_share" (defArgs (topS 50)) (defBody (topS 50)) (defScope (topS 50)) .none kV50 dc50 pm50 an50 cd50 ct50), sl50⟩)
    (c50 : PySem.W.codeIn K cd50 "_law_side_share" = true)
    (k50 : PySem.W.keepIn K (.ref f50) = true)
    (a51 : PySem.W.nsIn K mainGlobals "_law_pool" = some (some (.ref f51)))
    (l51 : K.lookup f51 = some ⟨oc51, od51, .func (PySem.W.fnOf "_law_pool" "_law_pool" (defArgs (topS 51)) (defBody (topS 51)) (defScope (topS 51)) .none kV51 dc51 pm51 an51 cd51 ct51), sl51⟩)
    (c51 : PySem.W.codeIn K cd51 "_law_pool" = true)
    (k51 : PySem.W.keepIn K (.ref f51) = true)
    (a52 : PySem.W.nsIn K mainGlobals "_law_pick" = some (some (.ref f52)))
    (l52 : K.lookup f52 = some ⟨oc52, od52, .func (PySem.W.fnOf "_law_pick" "_law_pick" (defArgs (topS 52)) (defBody (topS 52)) (defScope (topS 52)) .none kV52 dc52 pm52 an52 cd52 ct52), sl52⟩)
    (c52 : PySem.W.codeIn K cd52 "_law_pick" = true)
    (k52 : PySem.W.keepIn K (.ref f52) = true)
    (a53 : PySem.W.nsIn K mainGlobals "_law_int" = some (some (.ref f53)))
    (l53 : K.lookup f53 = some ⟨oc53, od53, .func (PySem.W.fnOf "_law_int" "_law_int" (defArgs (topS 53)) (defBody (topS 53)) (defScope (topS 53)) .none kV53 dc53 pm53 an53 cd53 ct53), sl53⟩)
    (c53 : PySem.W.codeIn K cd53 "_law_int" = true)
    (k53 : PySem.W.keepIn K (.ref f53) = true)
    (a54 : PySem.W.nsIn K mainGlobals "_law_any_deal" = some (some (.ref f54)))
    (l54 : K.lookup f54 = some ⟨oc54, od54, .func (PySem.W.fnOf "_law_any_deal" "_law_any_deal" (defArgs (topS 54)) (defBody (topS 54)) (defScope (topS 54)) .none kV54 dc54 pm54 an54 cd54 ct54), sl54⟩)
    (c54 : PySem.W.codeIn K cd54 "_law_any_deal" = true)
    (k54 : PySem.W.keepIn K (.ref f54) = true)
    (a55 : PySem.W.nsIn K mainGlobals "_law_started" = some (some (.ref f55)))
    (l55 : K.lookup f55 = some ⟨oc55, od55, .func (PySem.W.fnOf "_law_started" "_law_started" (defArgs (topS 55)) (defBody (topS 55)) (defScope (topS 55)) .none kV55 dc55 pm55 an55 cd55 ct55), sl55⟩)
    (c55 : PySem.W.codeIn K cd55 "_law_started" = true)
    (k55 : PySem.W.keepIn K (.ref f55) = true)
    (a56 : PySem.W.nsIn K mainGlobals "_law_orders" = some (some (.ref f56)))
    (l56 : K.lookup f56 = some ⟨oc56, od56, .func (PySem.W.fnOf "_law_orders" "_law_orders" (defArgs (topS 56)) (defBody (topS 56)) (defScope (topS 56)) .none kV56 dc56 pm56 an56 cd56 ct56), sl56⟩)
    (c56 : PySem.W.codeIn K cd56 "_law_orders" = true)
    (k56 : PySem.W.keepIn K (.ref f56) = true)
    (a57 : PySem.W.nsIn K mainGlobals "law" = some (some (.ref f57)))
    (l57 : K.lookup f57 = some ⟨oc57, od57, .func (PySem.W.fnOf "law" "law" (defArgs (topS 57)) (defBody (topS 57)) (defScope (topS 57)) .none kV57 dc57 pm57 an57 cd57 ct57), sl57⟩)
    (c57 : PySem.W.codeIn K cd57 "law" = true)
    (k57 : PySem.W.keepIn K (.ref f57) = true)
    (aP0P : PySem.W.findIn K (.ref CP) "__init__" = some (some (.ref fP0)))
    (iP0 : PySem.W.isFn K (.ref fP0) = true)
    (lP0 : K.lookup fP0 = some ⟨ocP0, odP0, .func (PySem.W.fnOf "__init__" "Play.__init__" (defArgs (inClass (topS 33) 0)) (defBody (inClass (topS 33) 0)) (defScope (inClass (topS 33) 0)) .none kVP0 dcP0 pmP0 anP0 cdP0 ctP0), slP0⟩)
    (cP0 : PySem.W.codeIn K cdP0 "Play.__init__" = true)
    (kP0 : PySem.W.keepIn K (.ref fP0) = true)
    (aP1P : PySem.W.findIn K (.ref CP) "begin" = some (some (.ref fP1)))
    (aP1L : PySem.W.findIn K (.ref CL) "begin" = some (some (.ref fP1)))
    (iP1 : PySem.W.isFn K (.ref fP1) = true)
    (lP1 : K.lookup fP1 = some ⟨ocP1, odP1, .func (PySem.W.fnOf "begin" "Play.begin" (defArgs (inClass (topS 33) 1)) (defBody (inClass (topS 33) 1)) (defScope (inClass (topS 33) 1)) .none kVP1 dcP1 pmP1 anP1 cdP1 ctP1), slP1⟩)
    (cP1 : PySem.W.codeIn K cdP1 "Play.begin" = true)
    (kP1 : PySem.W.keepIn K (.ref fP1) = true)
    (aP2P : PySem.W.findIn K (.ref CP) "deck" = some (some (.ref fP2)))
    (iP2 : PySem.W.isFn K (.ref fP2) = true)
    (lP2 : K.lookup fP2 = some ⟨ocP2, odP2, .func (PySem.W.fnOf "deck" "Play.deck" (defArgs (inClass (topS 33) 2)) (defBody (inClass (topS 33) 2)) (defScope (inClass (topS 33) 2)) .none kVP2 dcP2 pmP2 anP2 cdP2 ctP2), slP2⟩)
    (cP2 : PySem.W.codeIn K cdP2 "Play.deck" = true)
    (kP2 : PySem.W.keepIn K (.ref fP2) = true)
    (aP7L : PySem.W.findIn K (.ref CL) "is_over" = some (some (.ref fP7)))
    (iP7 : PySem.W.isFn K (.ref fP7) = true)
    (lP7 : K.lookup fP7 = some ⟨ocP7, odP7, .func (PySem.W.fnOf "is_over" "Play.is_over" (defArgs (inClass (topS 33) 7)) (defBody (inClass (topS 33) 7)) (defScope (inClass (topS 33) 7)) .none kVP7 dcP7 pmP7 anP7 cdP7 ctP7), slP7⟩)
    (cP7 : PySem.W.codeIn K cdP7 "Play.is_over" = true)
    (kP7 : PySem.W.keepIn K (.ref fP7) = true)
    (aP8L : PySem.W.findIn K (.ref CL) "mover" = some (some (.ref fP8)))
    (iP8 : PySem.W.isFn K (.ref fP8) = true)
    (lP8 : K.lookup fP8 = some ⟨ocP8, odP8, .func (PySem.W.fnOf "mover" "Play.mover" (defArgs (inClass (topS 33) 8)) (defBody (inClass (topS 33) 8)) (defScope (inClass (topS 33) 8)) .none kVP8 dcP8 pmP8 anP8 cdP8 ctP8), slP8⟩)
    (cP8 : PySem.W.codeIn K cdP8 "Play.mover" = true)
    (kP8 : PySem.W.keepIn K (.ref fP8) = true)
    (aP9L : PySem.W.findIn K (.ref CL) "turn" = some (some (.ref fP9)))
    (iP9 : PySem.W.isFn K (.ref fP9) = true)
    (lP9 : K.lookup fP9 = some ⟨ocP9, odP9, .func (PySem.W.fnOf "turn" "Play.turn" (defArgs (inClass (topS 33) 9)) (defBody (inClass (topS 33) 9)) (defScope (inClass (topS 33) 9)) .none kVP9 dcP9 pmP9 anP9 cdP9 ctP9), slP9⟩)
    (cP9 : PySem.W.codeIn K cdP9 "Play.turn" = true)
    (kP9 : PySem.W.keepIn K (.ref fP9) = true)
    (aP10L : PySem.W.findIn K (.ref CL) "legal" = some (some (.ref fP10)))
    (iP10 : PySem.W.isFn K (.ref fP10) = true)
    (lP10 : K.lookup fP10 = some ⟨ocP10, odP10, .func (PySem.W.fnOf "legal" "Play.legal" (defArgs (inClass (topS 33) 10)) (defBody (inClass (topS 33) 10)) (defScope (inClass (topS 33) 10)) .none kVP10 dcP10 pmP10 anP10 cdP10 ctP10), slP10⟩)
    (cP10 : PySem.W.codeIn K cdP10 "Play.legal" = true)
    (kP10 : PySem.W.keepIn K (.ref fP10) = true)
    (aP11L : PySem.W.findIn K (.ref CL) "put" = some (some (.ref fP11)))
    (iP11 : PySem.W.isFn K (.ref fP11) = true)
    (lP11 : K.lookup fP11 = some ⟨ocP11, odP11, .func (PySem.W.fnOf "put" "Play.put" (defArgs (inClass (topS 33) 11)) (defBody (inClass (topS 33) 11)) (defScope (inClass (topS 33) 11)) .none kVP11 dcP11 pmP11 anP11 cdP11 ctP11), slP11⟩)
    (cP11 : PySem.W.codeIn K cdP11 "Play.put" = true)
    (kP11 : PySem.W.keepIn K (.ref fP11) = true)
    (aP12L : PySem.W.findIn K (.ref CL) "take_back" = some (some (.ref fP12)))
    (iP12 : PySem.W.isFn K (.ref fP12) = true)
    (lP12 : K.lookup fP12 = some ⟨ocP12, odP12, .func (PySem.W.fnOf "take_back" "Play.take_back" (defArgs (inClass (topS 33) 12)) (defBody (inClass (topS 33) 12)) (defScope (inClass (topS 33) 12)) .none kVP12 dcP12 pmP12 anP12 cdP12 ctP12), slP12⟩)
    (cP12 : PySem.W.codeIn K cdP12 "Play.take_back" = true)
    (kP12 : PySem.W.keepIn K (.ref fP12) = true)
    (aP14L : PySem.W.findIn K (.ref CL) "tricks" = some (some (.ref fP14)))
    (iP14 : PySem.W.isFn K (.ref fP14) = true)
    (lP14 : K.lookup fP14 = some ⟨ocP14, odP14, .func (PySem.W.fnOf "tricks" "Play.tricks" (defArgs (inClass (topS 33) 14)) (defBody (inClass (topS 33) 14)) (defScope (inClass (topS 33) 14)) .none kVP14 dcP14 pmP14 anP14 cdP14 ctP14), slP14⟩)
    (cP14 : PySem.W.codeIn K cdP14 "Play.tricks" = true)
    (kP14 : PySem.W.keepIn K (.ref fP14) = true)
    (aP15L : PySem.W.findIn K (.ref CL) "left" = some (some (.ref fP15)))
    (iP15 : PySem.W.isFn K (.ref fP15) = true)
    (lP15 : K.lookup fP15 = some ⟨ocP15, odP15, .func (PySem.W.fnOf "left" "Play.left" (defArgs (inClass (topS 33) 15)) (defBody (inClass (topS 33) 15)) (defScope (inClass (topS 33) 15)) .none kVP15 dcP15 pmP15 anP15 cdP15 ctP15), slP15⟩)
    (cP15 : PySem.W.codeIn K cdP15 "Play.left" = true)
    (kP15 : PySem.W.keepIn K (.ref fP15) = true)
    (aP16P : PySem.W.findIn K (.ref CP) "position" = some (some (.ref fP16)))
    (aP16L : PySem.W.findIn K (.ref CL) "position" = some (some (.ref fP16)))
    (iP16 : PySem.W.isFn K (.ref fP16) = true)
    (lP16 : K.lookup fP16 = some ⟨ocP16, odP16, .func (PySem.W.fnOf "position" "Play.position" (defArgs (inClass (topS 33) 16)) (defBody (inClass (topS 33) 16)) (defScope (inClass (topS 33) 16)) .none kVP16 dcP16 pmP16 anP16 cdP16 ctP16), slP16⟩)
    (cP16 : PySem.W.codeIn K cdP16 "Play.position" = true)
    (kP16 : PySem.W.keepIn K (.ref fP16) = true)
    (aL0L : PySem.W.findIn K (.ref CL) "__init__" = some (some (.ref fL0)))
    (iL0 : PySem.W.isFn K (.ref fL0) = true)
    (lL0 : K.lookup fL0 = some ⟨ocL0, odL0, .func (PySem.W.fnOf "__init__" "Later.__init__" (defArgs (inClass (topS 34) 0)) (defBody (inClass (topS 34) 0)) (defScope (inClass (topS 34) 0)) .none kVL0 dcL0 pmL0 anL0 cdL0 ctL0), slL0⟩)
    (cL0 : PySem.W.codeIn K cdL0 "Later.__init__" = true)
    (kL0 : PySem.W.keepIn K (.ref fL0) = true)
    (aS0S : PySem.W.findIn K (.ref CS) "__init__" = some (some (.ref fS0)))
    (iS0 : PySem.W.isFn K (.ref fS0) = true)
    (lS0 : K.lookup fS0 = some ⟨ocS0, odS0, .func (PySem.W.fnOf "__init__" "Solver.__init__" (defArgs (inClass (topS 37) 0)) (defBody (inClass (topS 37) 0)) (defScope (inClass (topS 37) 0)) .none kVS0 dcS0 pmS0 anS0 cdS0 ctS0), slS0⟩)
    (cS0 : PySem.W.codeIn K cdS0 "Solver.__init__" = true)
    (kS0 : PySem.W.keepIn K (.ref fS0) = true)
    (aS1S : PySem.W.findIn K (.ref CS) "share" = some (some (.ref fS1)))
    (iS1 : PySem.W.isFn K (.ref fS1) = true)
    (lS1 : K.lookup fS1 = some ⟨ocS1, odS1, .func (PySem.W.fnOf "share" "Solver.share" (defArgs (inClass (topS 37) 1)) (defBody (inClass (topS 37) 1)) (defScope (inClass (topS 37) 1)) .none kVS1 dcS1 pmS1 anS1 cdS1 ctS1), slS1⟩)
    (cS1 : PySem.W.codeIn K cdS1 "Solver.share" = true)
    (kS1 : PySem.W.keepIn K (.ref fS1) = true)
    (aS2S : PySem.W.findIn K (.ref CS) "after" = some (some (.ref fS2)))
    (iS2 : PySem.W.isFn K (.ref fS2) = true)
    (lS2 : K.lookup fS2 = some ⟨ocS2, odS2, .func (PySem.W.fnOf "after" "Solver.after" (defArgs (inClass (topS 37) 2)) (defBody (inClass (topS 37) 2)) (defScope (inClass (topS 37) 2)) .none kVS2 dcS2 pmS2 anS2 cdS2 ctS2), slS2⟩)
    (cS2 : PySem.W.codeIn K cdS2 "Solver.after" = true)
    (kS2 : PySem.W.keepIn K (.ref fS2) = true)
    (z_range : PySem.W.nsIn K mainGlobals "range" = some none)
    (z_len : PySem.W.nsIn K mainGlobals "len" = some none)
    (z_list : PySem.W.nsIn K mainGlobals "list" = some none)
    (z_tuple : PySem.W.nsIn K mainGlobals "tuple" = some none)
    (z_enumerate : PySem.W.nsIn K mainGlobals "enumerate" = some none)
    (z_max : PySem.W.nsIn K mainGlobals "max" = some none)
    (z_min : PySem.W.nsIn K mainGlobals "min" = some none)
    (z_abs : PySem.W.nsIn K mainGlobals "abs" = some none)
    (z_int : PySem.W.nsIn K mainGlobals "int" = some none)
    (z_bool : PySem.W.nsIn K mainGlobals "bool" = some none)
    (z_isinstance : PySem.W.nsIn K mainGlobals "isinstance" = some none)
    (ams : PySem.W.nsIn K mainGlobals "MAX_SUITS" = some (some (.int 4 tms)))
    (amr : PySem.W.nsIn K mainGlobals "MAX_RANKS" = some (some (.int 13 tmr)))
    (apl : PySem.W.nsIn K mainGlobals "PLAYERS" = some (some (.ref pa)))
    (lpl : K.lookup pa = some ⟨.type "tuple", pdd, .seq #[.int 0 t0, .int 1 t1, .int 2 t2, .int 3 t3] pn, psl⟩)
    : ∃ fd : FuncData, (∀ (s : Shared) (v : Value), BindsTo s fd ⟨[v], []⟩ [("_law_script", v)]) ∧ ∀ base : Heap, K.In base → base.Ns mainGlobals mg → FnOk l.prog w K mg base CX0 23 fa fd ["_law_script"] (spLaw K) := by
  have e := hfa.symm.trans (PySem.W.mg_of X G a57)
  cases e
  have T : Txt K mg CP CL CS := {
    F12 := top_fn X G bi_12 a12 l12 c12 k12
    F13 := top_fn X G bi_13 a13 l13 c13 k13
    F14 := top_fn X G bi_14 a14 l14 c14 k14
    F15 := top_fn X G bi_15 a15 l15 c15 k15
    F16 := top_fn X G bi_16 a16 l16 c16 k16
    F17 := top_fn X G bi_17 a17 l17 c17 k17
    F18 := top_fn X G bi_18 a18 l18 c18 k18
    F19 := top_fn X G bi_19 a19 l19 c19 k19
    F22 := top_fn X G bi_22 a22 l22 c22 k22
    F23 := top_fn X G bi_23 a23 l23 c23 k23
    F24 := top_fn X G bi_24 a24 l24 c24 k24
    F25 := top_fn X G bi_25 a25 l25 c25 k25
    F27 := top_fn X G bi_27 a27 l27 c27 k27
    F28 := top_fn X G bi_28 a28 l28 c28 k28
    F29 := top_fn X G bi_29 a29 l29 c29 k29
    F30 := top_fn X G bi_30 a30 l30 c30 k30
    F32 := top_fn X G bi_32 a32 l32 c32 k32
    F35 := top_fn X G bi_35 a35 l35 c35 k35
    F38 := top_fn X G bi_38 a38 l38 c38 k38
    F40 := top_fn X G bi_40 a40 l40 c40 k40
    F41 := top_fn X G bi_41 a41 l41 c41 k41
    F42 := top_fn X G bi_42 a42 l42 c42 k42
    F43 := top_fn X G bi_43 a43 l43 c43 k43
    F44 := top_fn X G bi_44 a44 l44 c44 k44
    F45 := top_fn X G bi_45 a45 l45 c45 k45
    F46 := top_fn X G bi_46 a46 l46 c46 k46
    F47 := top_fn X G bi_47 a47 l47 c47 k47
    F48 := top_fn X G bi_48 a48 l48 c48 k48
    F49 := top_fn X G bi_49 a49 l49 c49 k49
    F50 := top_fn X G bi_50 a50 l50 c50 k50
    F51 := top_fn X G bi_51 a51 l51 c51 k51
    F52 := top_fn X G bi_52 a52 l52 c52 k52
    F53 := top_fn X G bi_53 a53 l53 c53 k53
    F54 := top_fn X G bi_54 a54 l54 c54 k54
    F55 := top_fn X G bi_55 a55 l55 c55 k55
    F56 := top_fn X G bi_56 a56 l56 c56 k56
    FP0P := mak_fn (X := fa) bi_P0 (PySem.W.mg_of X G aP) mkP kcP aP0P iP0 lP0 cP0 kP0
    FP1P := met_fn bi_P1 aP1P iP1 lP1 cP1 kP1
    FP1L := met_fn bi_P1 aP1L iP1 lP1 cP1 kP1
    FP2P := met_fn bi_P2 aP2P iP2 lP2 cP2 kP2
    FP7L := met_fn bi_P7 aP7L iP7 lP7 cP7 kP7
    FP8L := met_fn bi_P8 aP8L iP8 lP8 cP8 kP8
    FP9L := met_fn bi_P9 aP9L iP9 lP9 cP9 kP9
    FP10L := met_fn bi_P10 aP10L iP10 lP10 cP10 kP10
    FP11L := met_fn bi_P11 aP11L iP11 lP11 cP11 kP11
    FP12L := met_fn bi_P12 aP12L iP12 lP12 cP12 kP12
    FP14L := met_fn bi_P14 aP14L iP14 lP14 cP14 kP14
    FP15L := met_fn bi_P15 aP15L iP15 lP15 cP15 kP15
    FP16P := met_fn bi_P16 aP16P iP16 lP16 cP16 kP16
    FP16L := met_fn bi_P16 aP16L iP16 lP16 cP16 kP16
    FL0L := mak_fn (X := fa) bi_L0 (PySem.W.mg_of X G aL) mkL kcL aL0L iL0 lL0 cL0 kL0
    FS0S := mak_fn (X := fa) bi_S0 (PySem.W.mg_of X G aS) mkS kcS aS0S iS0 lS0 cS0 kS0
    FS1S := met_fn bi_S1 aS1S iS1 lS1 cS1 kS1
    FS2S := met_fn bi_S2 aS2S iS2 lS2 cS2 kS2
    cP := ⟨⟨pgP, hdP, poP, saP⟩, naP0, naP1, naP2, naP3, naP4, naP5, naP6, naP7⟩
    cL := ⟨⟨pgL, hdL, poL, saL⟩, naL0, naL1, naL2, naL3, naL4, naL5, naL6, naL7⟩
    cS := ⟨⟨pgS, hdS, poS, saS⟩, naS0, naS1⟩
    n_range := PySem.W.mg_none_of X G z_range
    n_len := PySem.W.mg_none_of X G z_len
    n_list := PySem.W.mg_none_of X G z_list
    n_tuple := PySem.W.mg_none_of X G z_tuple
    n_enumerate := PySem.W.mg_none_of X G z_enumerate
    n_max := PySem.W.mg_none_of X G z_max
    n_min := PySem.W.mg_none_of X G z_min
    n_abs := PySem.W.mg_none_of X G z_abs
    n_int := PySem.W.mg_none_of X G z_int
    n_bool := PySem.W.mg_none_of X G z_bool
    n_isinstance := PySem.W.mg_none_of X G z_isinstance
    mS := ⟨_, PySem.W.mg_of X G ams⟩
    mR := ⟨_, PySem.W.mg_of X G amr⟩
    pl := players_g X G apl lpl }
  exact ⟨_, fun s v => .of_eq rfl, fun base _ _ => law_ok T (fun_mk (st := topS 57) l57 c57 k57)⟩
end KW

open PySem PySem.W PyProof.Rows
set_option maxHeartbeats 0 in
theorem PySem.Challenge.cw_finesse_k70_whole_alike_deals_have_the_s_holds : PySem.Challenge.rw_finesse_k70_whole_alike_deals_have_the_s.Holds := by
  w_on; o_law; k_head; (case hw => w_witness2)
  k_fill
  refine L2.walk_of (l := PySem.Challenge.rw_finesse_k70_whole_alike_deals_have_the_s) (n := 63) (k := 23) (x := "_law_script") (CX := fun _ => L2.CX0) (sp := fun w => KW.spLaw _) rfl (by decide) rfl ⟨rfl, by decide, by decide⟩ (fun w h Y => PySem.W.kIn_of Y) ?F (fun _ _ a ns hl _ hS => ⟨a, ns, rfl, hS, hl, fun _ => rfl⟩) (fun _ _ _ _ _ h => h)
  case F =>
    intro w mg fa h KX G hmg
    refine' KW.all_mk KX G hmg ?aP ?pgP ?hdP ?poP ?saP ?mkP ?kcP ?naP0 ?naP1 ?naP2 ?naP3 ?naP4 ?naP5 ?naP6 ?naP7 ?aL ?pgL ?hdL ?poL ?saL ?mkL ?kcL ?naL0 ?naL1 ?naL2 ?naL3 ?naL4 ?naL5 ?naL6 ?naL7 ?aS ?pgS ?hdS ?poS ?saS ?mkS ?kcS ?naS0 ?naS1 ?a12 ?l12 ?c12 ?k12 ?a13 ?l13 ?c13 ?k13 ?a14 ?l14 ?c14 ?k14 ?a15 ?l15 ?c15 ?k15 ?a16 ?l16 ?c16 ?k16 ?a17 ?l17 ?c17 ?k17 ?a18 ?l18 ?c18 ?k18 ?a19 ?l19 ?c19 ?k19 ?a22 ?l22 ?c22 ?k22 ?a23 ?l23 ?c23 ?k23 ?a24 ?l24 ?c24 ?k24 ?a25 ?l25 ?c25 ?k25 ?a27 ?l27 ?c27 ?k27 ?a28 ?l28 ?c28 ?k28 ?a29 ?l29 ?c29 ?k29 ?a30 ?l30 ?c30 ?k30 ?a32 ?l32 ?c32 ?k32 ?a35 ?l35 ?c35 ?k35 ?a38 ?l38 ?c38 ?k38 ?a40 ?l40 ?c40 ?k40 ?a41 ?l41 ?c41 ?k41 ?a42 ?l42 ?c42 ?k42 ?a43 ?l43 ?c43 ?k43 ?a44 ?l44 ?c44 ?k44 ?a45 ?l45 ?c45 ?k45 ?a46 ?l46 ?c46 ?k46 ?a47 ?l47 ?c47 ?k47 ?a48 ?l48 ?c48 ?k48 ?a49 ?l49 ?c49 ?k49 ?a50 ?l50 ?c50 ?k50 ?a51 ?l51 ?c51 ?k51 ?a52 ?l52 ?c52 ?k52 ?a53 ?l53 ?c53 ?k53 ?a54 ?l54 ?c54 ?k54 ?a55 ?l55 ?c55 ?k55 ?a56 ?l56 ?c56 ?k56 ?a57 ?l57 ?c57 ?k57 ?aP0P ?iP0 ?lP0 ?cP0 ?kP0 ?aP1P ?aP1L ?iP1 ?lP1 ?cP1 ?kP1 ?aP2P ?iP2 ?lP2 ?cP2 ?kP2 ?aP7L ?iP7 ?lP7 ?cP7 ?kP7 ?aP8L ?iP8 ?lP8 ?cP8 ?kP8 ?aP9L ?iP9 ?lP9 ?cP9 ?kP9 ?aP10L ?iP10 ?lP10 ?cP10 ?kP10 ?aP11L ?iP11 ?lP11 ?cP11 ?kP11 ?aP12L ?iP12 ?lP12 ?cP12 ?kP12 ?aP14L ?iP14 ?lP14 ?cP14 ?kP14 ?aP15L ?iP15 ?lP15 ?cP15 ?kP15 ?aP16P ?aP16L ?iP16 ?lP16 ?cP16 ?kP16 ?aL0L ?iL0 ?lL0 ?cL0 ?kL0 ?aS0S ?iS0 ?lS0 ?cS0 ?kS0 ?aS1S ?iS1 ?lS1 ?cS1 ?kS1 ?aS2S ?iS2 ?lS2 ?cS2 ?kS2 ?z_range ?z_len ?z_list ?z_tuple ?z_enumerate ?z_max ?z_min ?z_abs ?z_int ?z_bool ?z_isinstance ?ams ?amr ?apl ?lpl
    (case aP => k_is); (case pgP => k_is); (case hdP => k_is); (case poP => k_is); (case saP => k_is); (case mkP => k_is); (case kcP => k_is); (case naP0 => k_is)
    (case naP1 => k_is); (case naP2 => k_is); (case naP3 => k_is); (case naP4 => k_is); (case naP5 => k_is); (case naP6 => k_is); (case naP7 => k_is); (case aL => k_is)
    (case pgL => k_is); (case hdL => k_is); (case poL => k_is); (case saL => k_is); (case mkL => k_is); (case kcL => k_is); (case naL0 => k_is); (case naL1 => k_is)
    (case naL2 => k_is); (case naL3 => k_is); (case naL4 => k_is); (case naL5 => k_is); (case naL6 => k_is); (case naL7 => k_is); (case aS => k_is); (case pgS => k_is)
    (case hdS => k_is); (case poS => k_is); (case saS => k_is); (case mkS => k_is); (case kcS => k_is); (case naS0 => k_is); (case naS1 => k_is); (case a12 => k_is)
    (case l12 => k_is); (case c12 => k_is); (case k12 => k_is); (case a13 => k_is); (case l13 => k_is); (case c13 => k_is); (case k13 => k_is); (case a14 => k_is)
    (case l14 => k_is); (case c14 => k_is); (case k14 => k_is); (case a15 => k_is); (case l15 => k_is); (case c15 => k_is); (case k15 => k_is); (case a16 => k_is)
    (case l16 => k_is); (case c16 => k_is); (case k16 => k_is); (case a17 => k_is); (case l17 => k_is); (case c17 => k_is); (case k17 => k_is); (case a18 => k_is)
    (case l18 => k_is); (case c18 => k_is); (case k18 => k_is); (case a19 => k_is); (case l19 => k_is); (case c19 => k_is); (case k19 => k_is); (case a22 => k_is)
    (case l22 => k_is); (case c22 => k_is); (case k22 => k_is); (case a23 => k_is); (case l23 => k_is); (case c23 => k_is); (case k23 => k_is); (case a24 => k_is)
    (case l24 => k_is); (case c24 => k_is); (case k24 => k_is); (case a25 => k_is); (case l25 => k_is); (case c25 => k_is); (case k25 => k_is); (case a27 => k_is)
    (case l27 => k_is); (case c27 => k_is); (case k27 => k_is); (case a28 => k_is); (case l28 => k_is); (case c28 => k_is); (case k28 => k_is); (case a29 => k_is)
    (case l29 => k_is); (case c29 => k_is); (case k29 => k_is); (case a30 => k_is); (case l30 => k_is); (case c30 => k_is); (case k30 => k_is); (case a32 => k_is)
    (case l32 => k_is); (case c32 => k_is); (case k32 => k_is); (case a35 => k_is); (case l35 => k_is); (case c35 => k_is); (case k35 => k_is); (case a38 => k_is)
    (case l38 => k_is); (case c38 => k_is); (case k38 => k_is); (case a40 => k_is); (case l40 => k_is); (case c40 => k_is); (case k40 => k_is); (case a41 => k_is)
    (case l41 => k_is); (case c41 => k_is); (case k41 => k_is); (case a42 => k_is); (case l42 => k_is); (case c42 => k_is); (case k42 => k_is); (case a43 => k_is)
    (case l43 => k_is); (case c43 => k_is); (case k43 => k_is); (case a44 => k_is); (case l44 => k_is); (case c44 => k_is); (case k44 => k_is); (case a45 => k_is)
    (case l45 => k_is); (case c45 => k_is); (case k45 => k_is); (case a46 => k_is); (case l46 => k_is); (case c46 => k_is); (case k46 => k_is); (case a47 => k_is)
    (case l47 => k_is); (case c47 => k_is); (case k47 => k_is); (case a48 => k_is); (case l48 => k_is); (case c48 => k_is); (case k48 => k_is); (case a49 => k_is)
    (case l49 => k_is); (case c49 => k_is); (case k49 => k_is); (case a50 => k_is); (case l50 => k_is); (case c50 => k_is); (case k50 => k_is); (case a51 => k_is)
    (case l51 => k_is); (case c51 => k_is); (case k51 => k_is); (case a52 => k_is); (case l52 => k_is); (case c52 => k_is); (case k52 => k_is); (case a53 => k_is)
    (case l53 => k_is); (case c53 => k_is); (case k53 => k_is); (case a54 => k_is); (case l54 => k_is); (case c54 => k_is); (case k54 => k_is); (case a55 => k_is)
    (case l55 => k_is); (case c55 => k_is); (case k55 => k_is); (case a56 => k_is); (case l56 => k_is); (case c56 => k_is); (case k56 => k_is); (case a57 => k_is)
    (case l57 => k_is); (case c57 => k_is); (case k57 => k_is); (case aP0P => k_is); (case iP0 => k_is); (case lP0 => k_is); (case cP0 => k_is); (case kP0 => k_is)
    (case aP1P => k_is); (case aP1L => k_is); (case iP1 => k_is); (case lP1 => k_is); (case cP1 => k_is); (case kP1 => k_is); (case aP2P => k_is); (case iP2 => k_is)
    (case lP2 => k_is); (case cP2 => k_is); (case kP2 => k_is); (case aP7L => k_is); (case iP7 => k_is); (case lP7 => k_is); (case cP7 => k_is); (case kP7 => k_is)
    (case aP8L => k_is); (case iP8 => k_is); (case lP8 => k_is); (case cP8 => k_is); (case kP8 => k_is); (case aP9L => k_is); (case iP9 => k_is); (case lP9 => k_is)
    (case cP9 => k_is); (case kP9 => k_is); (case aP10L => k_is); (case iP10 => k_is); (case lP10 => k_is); (case cP10 => k_is); (case kP10 => k_is); (case aP11L => k_is)
    (case iP11 => k_is); (case lP11 => k_is); (case cP11 => k_is); (case kP11 => k_is); (case aP12L => k_is); (case iP12 => k_is); (case lP12 => k_is); (case cP12 => k_is)
    (case kP12 => k_is); (case aP14L => k_is); (case iP14 => k_is); (case lP14 => k_is); (case cP14 => k_is); (case kP14 => k_is); (case aP15L => k_is); (case iP15 => k_is)
    (case lP15 => k_is); (case cP15 => k_is); (case kP15 => k_is); (case aP16P => k_is); (case aP16L => k_is); (case iP16 => k_is); (case lP16 => k_is); (case cP16 => k_is)
    (case kP16 => k_is); (case aL0L => k_is); (case iL0 => k_is); (case lL0 => k_is); (case cL0 => k_is); (case kL0 => k_is); (case aS0S => k_is); (case iS0 => k_is)
    (case lS0 => k_is); (case cS0 => k_is); (case kS0 => k_is); (case aS1S => k_is); (case iS1 => k_is); (case lS1 => k_is); (case cS1 => k_is); (case kS1 => k_is)
    (case aS2S => k_is); (case iS2 => k_is); (case lS2 => k_is); (case cS2 => k_is); (case kS2 => k_is); (case z_range => k_is); (case z_len => k_is); (case z_list => k_is)
    (case z_tuple => k_is); (case z_enumerate => k_is); (case z_max => k_is); (case z_min => k_is); (case z_abs => k_is); (case z_int => k_is); (case z_bool => k_is); (case z_isinstance => k_is)
    (case ams => k_is); (case amr => k_is); (case apl => k_is); (case lpl => k_is)

