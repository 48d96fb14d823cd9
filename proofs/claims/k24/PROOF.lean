import PyProof.Rows.All
import PySem.Str
import Wide.All
import OpenK.AllK
import Wide.FinOn
import HandS.ForMost
import HandS.Set
import HandS.SetFor
import HandS.Strs
import KE.SortData
import KE.KStateDown
import HandS.Defaults
import HandS.HeadHook1
import HandS.HeadHook2
import PySem.Challenge.RW_beatwright_k24_whole_cubes_cover
import HandS.HeadHook3
import HandS.HeadHook4
import HandS.Head0
import HandS.Head1
import HandS.Head2
import HandS.HeadEnd
import HandS.SetKeys
import HandS.RevRange
import HandS.More
import HandS.IsInst
import HandS.NoneIn
import HandS.Conv
import HandS.TupAny
import HandS.Text
import HandS.Walk
import OpenK.KEqL
import HandS.Codes
set_option Elab.async false
set_option linter.all false
set_option maxRecDepth 100000
set_option maxHeartbeats 4000000
/-! Plain mathematics: half-known words, their worth, the cover. No program here. -/
namespace K24
open PySem

/-! ### marks -/
def tb (m : Nat) : Nat := if m = 0 then 1 else if m = 1 then 0 else 2
def andM (a b : Nat) : Nat := if a = 0 ∨ b = 0 then 0 else max a b
def orM (a b : Nat) : Nat := if a = 1 ∨ b = 1 then 1 else max a b
def xorM (a b : Nat) : Nat := if a = 2 ∨ b = 2 then 2 else if a = b then 0 else 1
def carM (a b c : Nat) : Nat := if 2 ≤ [a, b, c].count 1 then 1 else if 2 ≤ [a, b, c].count 0 then 0 else 2
def sumM : List Nat → List Nat → Nat → List Nat × Nat
  | x :: xs, y :: ys, c => let r := sumM xs ys (carM x y c); (xorM (xorM x y) c :: r.1, r.2)
  | _, _, c => ([], c)
def sameM (xs ys : List Nat) : Nat := let z := List.zipWith xorM xs ys; if 1 ∈ z then 0 else if 2 ∈ z then 2 else 1
/-- marks that are 0, 1, 2; known ones -/
def M2 (ms : List Nat) : Prop := ∀ m ∈ ms, m ≤ 2
def M1 (ms : List Nat) : Prop := ∀ m ∈ ms, m ≤ 1
theorem M1.M2 {ms : List Nat} (h : M1 ms) : M2 ms := fun m hm => Nat.le_succ_of_le (h m hm)
/-- marks and the bits of a word -/
def Ref : List Nat → Nat → Prop
  | [], v => v = 0
  | m :: ms, v => (m = 2 ∨ m = v % 2) ∧ Ref ms (v / 2)
/-- a mark and a bit -/
def RB (m b : Nat) : Prop := b ≤ 1 ∧ (m = 2 ∨ m = b)
theorem RB.le {m b : Nat} (h : RB m b) : m ≤ 2 := by
  obtain ⟨h1, h2 | h2⟩ := h <;> omega
theorem Ref.m2 : ∀ {ms : List Nat} {v : Nat}, Ref ms v → M2 ms
  | [], _, _ => fun m hm => by cases hm
  | m :: ms, v, h => fun x hx => by
    rcases List.mem_cons.mp hx with rfl | hx
    · have := h.1; omega
    · exact Ref.m2 h.2 x hx
theorem Ref.lt : ∀ {ms : List Nat} {v : Nat}, Ref ms v → v < 2 ^ ms.length
  | [], v, h => by
    have h : v = 0 := h
    subst h
    exact Nat.one_pos
  | m :: ms, v, h => by
    have := Ref.lt h.2
    rw [List.length_cons, Nat.pow_succ]
    omega
def bitsN : Nat → Nat → List Nat
  | 0, _ => []
  | w + 1, v => v % 2 :: bitsN w (v / 2)
theorem bitsN_len : ∀ (w v : Nat), (bitsN w v).length = w
  | 0, _ => rfl
  | w + 1, v => by rw [bitsN, List.length_cons, bitsN_len]
theorem bitsN_m1 : ∀ (w v : Nat), M1 (bitsN w v)
  | 0, _ => fun m hm => by cases hm
  | w + 1, v => fun m hm => by
    rcases List.mem_cons.mp hm with rfl | hm
    · omega
    · exact bitsN_m1 w _ m hm
theorem ref_bits : ∀ {w v : Nat}, v < 2 ^ w → Ref (bitsN w v) v
  | 0, v, h => by
    show v = 0
    have : v < 1 := h
    omega
  | w + 1, v, h => ⟨Or.inr rfl, ref_bits (by rw [Nat.pow_succ] at h; omega)⟩
theorem pow_pos2 (n : Nat) : 0 < 2 ^ n := Nat.pow_pos (by decide)
theorem ref_not : ∀ {ms : List Nat} {v : Nat}, Ref ms v → Ref (ms.map tb) (2 ^ ms.length - 1 - v)
  | [], v, h => by
    have h : v = 0 := h
    subst h
    rfl
  | m :: ms, v, h => by
    have h1 := h.1
    have h2 := Ref.lt h.2
    have ih := ref_not h.2
    have hp := pow_pos2 ms.length
    have e : (2 ^ (ms.length + 1) - 1 - v) / 2 = 2 ^ ms.length - 1 - v / 2 := by rw [Nat.pow_succ]; omega
    have e2 : (2 ^ (ms.length + 1) - 1 - v) % 2 = 1 - v % 2 := by rw [Nat.pow_succ]; omega
    show (tb m = 2 ∨ tb m = (2 ^ (ms.length + 1) - 1 - v) % 2) ∧ Ref (ms.map tb) ((2 ^ (ms.length + 1) - 1 - v) / 2)
    rw [e, e2]
    refine ⟨?_, ih⟩
    unfold tb
    rcases h1 with rfl | h1
    · exact Or.inl rfl
    · refine Or.inr ?_
      have : v % 2 < 2 := Nat.mod_lt _ (by decide)
      split
      · omega
      · split
        · omega
        · omega
theorem tb_m2 {m : Nat} : tb m ≤ 2 := by unfold tb; split <;> (try split) <;> omega
theorem tb_m1 {m : Nat} (h : m ≤ 1) : tb m ≤ 1 := by unfold tb; split <;> (try split) <;> omega
/-- two words, bit by bit -/
theorem ref_zip {f g : Nat → Nat → Nat} (hf : ∀ m n a b, RB m a → RB n b → RB (f m n) (g a b)) {G : Nat → Nat → Nat} (h0 : G 0 0 = 0) (hm : ∀ a b, G a b % 2 = g (a % 2) (b % 2)) (hd : ∀ a b, G a b / 2 = G (a / 2) (b / 2)) :
    ∀ {xs ys : List Nat} {v u : Nat}, xs.length = ys.length → Ref xs v → Ref ys u → Ref (List.zipWith f xs ys) (G v u)
  | [], [], v, u, _, h1, h2 => by
    have h1 : v = 0 := h1
    have h2 : u = 0 := h2
    subst h1 h2
    exact h0
  | x :: xs, y :: ys, v, u, hl, h1, h2 => by
    have hl : xs.length = ys.length := by simpa using hl
    refine ⟨?_, ?_⟩
    · rw [hm]
      exact (hf x y _ _ ⟨by omega, h1.1⟩ ⟨by omega, h2.1⟩).2
    · rw [hd]
      exact ref_zip hf h0 hm hd hl h1.2 h2.2
  | [], _ :: _, _, _, hl, _, _ => by cases hl
  | _ :: _, [], _, _, hl, _, _ => by cases hl
theorem rb_cases {m b : Nat} (h : RB m b) : (m = 0 ∧ b = 0) ∨ (m = 1 ∧ b = 1) ∨ (m = 2 ∧ b = 0) ∨ (m = 2 ∧ b = 1) := by
  obtain ⟨h1, h2 | h2⟩ := h <;> omega
theorem rb_and {m n a b : Nat} (h1 : RB m a) (h2 : RB n b) : RB (andM m n) (a &&& b) := by
  rcases rb_cases h1 with ⟨rfl, rfl⟩ | ⟨rfl, rfl⟩ | ⟨rfl, rfl⟩ | ⟨rfl, rfl⟩ <;> rcases rb_cases h2 with ⟨rfl, rfl⟩ | ⟨rfl, rfl⟩ | ⟨rfl, rfl⟩ | ⟨rfl, rfl⟩ <;> (unfold RB andM; decide)
theorem rb_or {m n a b : Nat} (h1 : RB m a) (h2 : RB n b) : RB (orM m n) (a ||| b) := by
  rcases rb_cases h1 with ⟨rfl, rfl⟩ | ⟨rfl, rfl⟩ | ⟨rfl, rfl⟩ | ⟨rfl, rfl⟩ <;> rcases rb_cases h2 with ⟨rfl, rfl⟩ | ⟨rfl, rfl⟩ | ⟨rfl, rfl⟩ | ⟨rfl, rfl⟩ <;> (unfold RB orM; decide)
theorem ref_and {xs ys : List Nat} {v u : Nat} (hl : xs.length = ys.length) (h1 : Ref xs v) (h2 : Ref ys u) : Ref (List.zipWith andM xs ys) (v &&& u) :=
  ref_zip (f := andM) (g := fun a b => a &&& b) (G := fun a b => a &&& b) (fun _ _ _ _ => rb_and) rfl
    (fun a b => by
      have := Nat.and_mod_two_pow (a := a) (b := b) (n := 1)
      simpa using this) (fun a b => Nat.and_div_two) hl h1 h2
theorem ref_or {xs ys : List Nat} {v u : Nat} (hl : xs.length = ys.length) (h1 : Ref xs v) (h2 : Ref ys u) : Ref (List.zipWith orM xs ys) (v ||| u) :=
  ref_zip (f := orM) (g := fun a b => a ||| b) (G := fun a b => a ||| b) (fun _ _ _ _ => rb_or) rfl
    (fun a b => by
      have := Nat.or_mod_two_pow (a := a) (b := b) (n := 1)
      simpa using this) (fun a b => Nat.or_div_two) hl h1 h2
/-- one place of a sum -/
theorem rb_sum {m n k a b c : Nat} (h1 : RB m a) (h2 : RB n b) (h3 : RB k c) : RB (xorM (xorM m n) k) ((a + b + c) % 2) ∧ RB (carM m n k) ((a + b + c) / 2) := by
  rcases rb_cases h1 with ⟨rfl, rfl⟩ | ⟨rfl, rfl⟩ | ⟨rfl, rfl⟩ | ⟨rfl, rfl⟩ <;> rcases rb_cases h2 with ⟨rfl, rfl⟩ | ⟨rfl, rfl⟩ | ⟨rfl, rfl⟩ | ⟨rfl, rfl⟩ <;>
    rcases rb_cases h3 with ⟨rfl, rfl⟩ | ⟨rfl, rfl⟩ | ⟨rfl, rfl⟩ | ⟨rfl, rfl⟩ <;> (unfold RB xorM carM; decide)
theorem ref_sum : ∀ {xs ys : List Nat} {v u k c : Nat}, xs.length = ys.length → Ref xs v → Ref ys u → RB k c →
    Ref (sumM xs ys k).1 ((v + u + c) % 2 ^ xs.length) ∧ RB (sumM xs ys k).2 ((v + u + c) / 2 ^ xs.length)
  | [], [], v, u, k, c, _, h1, h2, h3 => by
    have h1 : v = 0 := h1
    have h2 : u = 0 := h2
    subst h1 h2
    refine ⟨?_, ?_⟩
    · show (0 + 0 + c) % 1 = 0
      exact Nat.mod_one _
    · show RB k ((0 + 0 + c) / 1)
      rw [Nat.div_one, Nat.zero_add]
      exact h3
  | x :: xs, y :: ys, v, u, k, c, hl, h1, h2, h3 => by
    have hl : xs.length = ys.length := by simpa using hl
    obtain ⟨s1, s2⟩ := rb_sum (m := x) (n := y) (k := k) (a := v % 2) (b := u % 2) (c := c) ⟨by omega, h1.1⟩ ⟨by omega, h2.1⟩ h3
    obtain ⟨i1, i2⟩ := ref_sum hl h1.2 h2.2 s2
    have hc : c ≤ 1 := h3.1
    have e : v / 2 + u / 2 + (v % 2 + u % 2 + c) / 2 = (v + u + c) / 2 := by omega
    have em : (v % 2 + u % 2 + c) % 2 = (v + u + c) % 2 := by omega
    rw [e] at i1 i2
    rw [em] at s1
    have ep : (2 : Nat) ^ (xs.length + 1) = 2 * 2 ^ xs.length := by rw [Nat.pow_succ, Nat.mul_comm]
    refine ⟨⟨?_, ?_⟩, ?_⟩
    · show xorM (xorM x y) k = 2 ∨ xorM (xorM x y) k = (v + u + c) % 2 ^ (xs.length + 1) % 2
      rw [ep, Nat.mod_mul_right_mod]
      exact s1.2
    · show Ref (sumM xs ys (carM x y k)).1 ((v + u + c) % 2 ^ (xs.length + 1) / 2)
      rw [ep, Nat.mod_mul_right_div_self]
      exact i1
    · show RB (sumM xs ys (carM x y k)).2 ((v + u + c) / 2 ^ (xs.length + 1))
      rw [ep, ← Nat.div_div_eq_div_mul]
      exact i2
  | [], _ :: _, _, _, _, _, hl, _, _, _ => by cases hl
  | _ :: _, [], _, _, _, _, hl, _, _, _ => by cases hl
theorem sumM_len : ∀ {xs ys : List Nat} {k : Nat}, xs.length = ys.length → (sumM xs ys k).1.length = xs.length
  | [], [], _, _ => rfl
  | x :: xs, y :: ys, k, hl => by
    have hl : xs.length = ys.length := by simpa using hl
    show (sumM xs ys (carM x y k)).1.length + 1 = _
    rw [sumM_len hl]
    rfl
  | [], _ :: _, _, hl => by cases hl
  | _ :: _, [], _, hl => by cases hl
theorem ref_less {xs ys : List Nat} {v u : Nat} (hl : xs.length = ys.length) (h1 : Ref xs v) (h2 : Ref ys u) : Ref [tb (sumM xs (ys.map tb) 1).2] (if v < u then 1 else 0) := by
  have hv := h1.lt
  have hu := h2.lt
  obtain ⟨_, s2⟩ := ref_sum (k := 1) (c := 1) (by rw [List.length_map]; exact hl) h1 (ref_not h2) ⟨Nat.le_refl _, Or.inr rfl⟩
  rw [← hl] at s2 hu
  have hp := pow_pos2 xs.length
  refine ⟨?_, ?_⟩
  · by_cases h : v < u
    · have e : (v + (2 ^ xs.length - 1 - u) + 1) / 2 ^ xs.length = 0 := Nat.div_eq_of_lt (by omega)
      rw [e] at s2
      rw [if_pos h]
      rcases s2.2 with q | q
      · rw [q]
        exact Or.inl rfl
      · rw [q]
        exact Or.inr rfl
    · have e : (v + (2 ^ xs.length - 1 - u) + 1) / 2 ^ xs.length = 1 := by
        rw [show v + (2 ^ xs.length - 1 - u) + 1 = (v - u) + 2 ^ xs.length by omega, Nat.add_div_right _ hp, Nat.div_eq_of_lt (by omega)]
      rw [e] at s2
      rw [if_neg h]
      rcases s2.2 with q | q
      · rw [q]
        exact Or.inl rfl
      · rw [q]
        exact Or.inr rfl
  · show (if v < u then 1 else 0) / 2 = 0
    split <;> decide
theorem xor_ref : ∀ {xs ys : List Nat} {v u : Nat}, xs.length = ys.length → Ref xs v → Ref ys u →
    (1 ∈ List.zipWith xorM xs ys → v ≠ u) ∧ (1 ∉ List.zipWith xorM xs ys → 2 ∉ List.zipWith xorM xs ys → v = u)
  | [], [], v, u, _, h1, h2 => by
    have h1 : v = 0 := h1
    have h2 : u = 0 := h2
    subst h1 h2
    exact ⟨fun h => (by cases h), fun _ _ => rfl⟩
  | x :: xs, y :: ys, v, u, hl, h1, h2 => by
    have hl : xs.length = ys.length := by simpa using hl
    obtain ⟨i1, i2⟩ := xor_ref hl h1.2 h2.2
    have a1 := h1.1
    have a2 := h2.1
    rw [List.zipWith_cons_cons]
    refine ⟨fun h => ?_, fun h h' => ?_⟩
    · rcases List.mem_cons.mp h with h | h
      · unfold xorM at h
        split at h
        · cases h
        · split at h
          · cases h
          · rename_i q1 q2
            intro e
            subst e
            omega
      · have := i1 h
        intro e
        subst e
        exact this rfl
    · rw [List.mem_cons, not_or] at h h'
      have e := i2 h.2 h'.2
      have n1 := h.1
      have n2 := h'.1
      unfold xorM at n1 n2
      split at n1
      · exact absurd (by rename_i q; rw [if_pos q]) n2
      · split at n1
        · rename_i q1 q2
          omega
        · exact absurd rfl n1
  | [], _ :: _, _, _, hl, _, _ => by cases hl
  | _ :: _, [], _, _, hl, _, _ => by cases hl
theorem ref_same {xs ys : List Nat} {v u : Nat} (hl : xs.length = ys.length) (h1 : Ref xs v) (h2 : Ref ys u) : Ref [sameM xs ys] (if v = u then 1 else 0) := by
  obtain ⟨i1, i2⟩ := xor_ref hl h1 h2
  refine ⟨?_, ?_⟩
  · show sameM xs ys = 2 ∨ sameM xs ys = (if v = u then 1 else 0) % 2
    unfold sameM
    by_cases a : 1 ∈ List.zipWith xorM xs ys
    · rw [if_neg (i1 a)]
      refine Or.inr ?_
      show (if 1 ∈ List.zipWith xorM xs ys then 0 else _) = _
      rw [if_pos a]
    · by_cases b : 2 ∈ List.zipWith xorM xs ys
      · refine Or.inl ?_
        show (if 1 ∈ List.zipWith xorM xs ys then 0 else if 2 ∈ List.zipWith xorM xs ys then 2 else 1) = 2
        rw [if_neg a, if_pos b]
      · refine Or.inr ?_
        show (if 1 ∈ List.zipWith xorM xs ys then 0 else if 2 ∈ List.zipWith xorM xs ys then 2 else 1) = _
        rw [if_neg a, if_neg b, if_pos (i2 a b)]
  · show (if v = u then 1 else 0) / 2 = 0
    split <;> decide
theorem ref_join : ∀ {ys xs : List Nat} {v u : Nat}, Ref ys u → Ref xs v → Ref (ys ++ xs) (v * 2 ^ ys.length + u)
  | [], xs, v, u, h1, h2 => by
    have h1 : u = 0 := h1
    subst h1
    show Ref xs (v * 1 + 0)
    rw [Nat.mul_one, Nat.add_zero]
    exact h2
  | y :: ys, xs, v, u, h1, h2 => by
    have ih := ref_join h1.2 h2
    have e1 : v * 2 ^ (ys.length + 1) = 2 * (v * 2 ^ ys.length) := by rw [Nat.pow_succ, ← Nat.mul_assoc, Nat.mul_comm]
    refine ⟨?_, ?_⟩
    · show y = 2 ∨ y = (v * 2 ^ (ys.length + 1) + u) % 2
      rw [e1, Nat.mul_add_mod]
      exact h1.1
    · show Ref (ys ++ xs) ((v * 2 ^ (ys.length + 1) + u) / 2)
      rw [e1, Nat.mul_add_div (by decide)]
      exact ih
theorem ref_drop : ∀ {ms : List Nat} {v : Nat} (k : Nat), Ref ms v → Ref (ms.drop k) (v / 2 ^ k)
  | ms, v, 0, h => by
    rw [Nat.pow_zero, Nat.div_one]
    exact h
  | [], v, k + 1, h => by
    have h : v = 0 := h
    subst h
    show 0 / _ = 0
    exact Nat.zero_div _
  | m :: ms, v, k + 1, h => by
    show Ref (ms.drop k) _
    rw [Nat.pow_succ, Nat.mul_comm, ← Nat.div_div_eq_div_mul]
    exact ref_drop k h.2
theorem ref_take : ∀ {ms : List Nat} {v : Nat} (k : Nat), Ref ms v → Ref (ms.take k) (v % 2 ^ k)
  | ms, v, 0, h => by
    rw [List.take_zero]
    show v % 1 = 0
    exact Nat.mod_one _
  | [], v, k + 1, h => by
    have h : v = 0 := h
    subst h
    show 0 % _ = 0
    exact Nat.zero_mod _
  | m :: ms, v, k + 1, h => by
    have ep : (2 : Nat) ^ (k + 1) = 2 * 2 ^ k := by rw [Nat.pow_succ, Nat.mul_comm]
    refine ⟨?_, ?_⟩
    · show m = 2 ∨ m = v % 2 ^ (k + 1) % 2
      rw [ep, Nat.mod_mul_right_mod]
      exact h.1
    · show Ref (ms.take k) (v % 2 ^ (k + 1) / 2)
      rw [ep, Nat.mod_mul_right_div_self]
      exact ref_take k h.2
end K24

set_option Elab.async false
set_option linter.all false
set_option maxRecDepth 100000
set_option maxHeartbeats 4000000
/-! Terms, their widths, half-known worths and worths. -/
namespace K24
open PySem
inductive Op where
  | and | or | plus | less | same | join
  deriving DecidableEq
inductive Sr where
  | box | late | door
  deriving DecidableEq
inductive Tm where
  | num (w v : Nat)
  | leaf (s : Sr) (n : Str)
  | not (t : Tm)
  | bin (o : Op) (t u : Tm)
  | part (t : Tm) (low many : Nat)
structure Ws where
  bw : Str → Option Nat
  dw : Str → Option Nat
def Ws.of (W : Ws) : Sr → Str → Option Nat
  | .door, n => W.dw n
  | .box, n => W.bw n
  | .late, n => W.bw n
def WsOk (W : Ws) : Prop := ∀ s n w, W.of s n = some w → 1 ≤ w ∧ w ≤ 64
def Wd (W : Ws) : Tm → Nat → Prop
  | .num w v, k => k = w ∧ 1 ≤ w ∧ w ≤ 64 ∧ v < 2 ^ w
  | .leaf s n, k => W.of s n = some k
  | .not t, k => Wd W t k
  | .bin .and t u, k => Wd W t k ∧ Wd W u k
  | .bin .or t u, k => Wd W t k ∧ Wd W u k
  | .bin .plus t u, k => Wd W t k ∧ Wd W u k
  | .bin .less t u, k => k = 1 ∧ ∃ j, Wd W t j ∧ Wd W u j
  | .bin .same t u, k => k = 1 ∧ ∃ j, Wd W t j ∧ Wd W u j
  | .bin .join t u, k => ∃ i j, Wd W t i ∧ Wd W u j ∧ k = i + j ∧ k ≤ 64
  | .part t low many, k => k = many ∧ 1 ≤ many ∧ ∃ j, Wd W t j ∧ low + many ≤ j
theorem wd_bounds {W : Ws} (ok : WsOk W) : ∀ {t : Tm} {k : Nat}, Wd W t k → 1 ≤ k ∧ k ≤ 64
  | .num w v, k, h => by obtain ⟨rfl, h1, h2, _⟩ := h; exact ⟨h1, h2⟩
  | .leaf s n, k, h => ok s n k h
  | .not t, k, h => wd_bounds ok (t := t) h
  | .bin .and t u, k, h => wd_bounds ok (t := t) h.1
  | .bin .or t u, k, h => wd_bounds ok (t := t) h.1
  | .bin .plus t u, k, h => wd_bounds ok (t := t) h.1
  | .bin .less t u, k, h => by obtain ⟨rfl, _⟩ := h; exact ⟨Nat.le_refl _, by decide⟩
  | .bin .same t u, k, h => by obtain ⟨rfl, _⟩ := h; exact ⟨Nat.le_refl _, by decide⟩
  | .bin .join t u, k, h => by
    obtain ⟨i, j, h1, h2, rfl, h3⟩ := h
    have := wd_bounds ok h1
    exact ⟨by omega, h3⟩
  | .part t low many, k, h => by
    obtain ⟨rfl, h1, j, h2, h3⟩ := h
    have := wd_bounds ok h2
    exact ⟨h1, by omega⟩
theorem wd_uniq {W : Ws} : ∀ {t : Tm} {k j : Nat}, Wd W t k → Wd W t j → k = j
  | .num w v, k, j, h, h' => by obtain ⟨rfl, _⟩ := h; obtain ⟨rfl, _⟩ := h'; rfl
  | .leaf s n, k, j, h, h' => by
    have h : W.of s n = some k := h
    have h' : W.of s n = some j := h'
    rw [h] at h'
    exact Option.some.inj h'
  | .not t, k, j, h, h' => wd_uniq (t := t) h h'
  | .bin .and t u, k, j, h, h' => wd_uniq (t := t) h.1 h'.1
  | .bin .or t u, k, j, h, h' => wd_uniq (t := t) h.1 h'.1
  | .bin .plus t u, k, j, h, h' => wd_uniq (t := t) h.1 h'.1
  | .bin .less t u, k, j, h, h' => by rw [h.1, h'.1]
  | .bin .same t u, k, j, h, h' => by rw [h.1, h'.1]
  | .bin .join t u, k, j, h, h' => by
    obtain ⟨i1, j1, h1, h2, rfl, h3⟩ := h
    obtain ⟨i2, j2, h4, h5, rfl, h6⟩ := h'
    rw [wd_uniq h1 h4, wd_uniq h2 h5]
  | .part t low many, k, j, h, h' => by rw [h.1, h'.1]
/-- the names behind one sort, as often as they stand -/
def nms (s : Sr) : Tm → List Str
  | .num _ _ => []
  | .leaf s' n => if s' = s then [n] else []
  | .not t => nms s t
  | .bin _ t u => nms s t ++ nms s u
  | .part t _ _ => nms s t
def sz : Tm → Nat
  | .num _ _ => 1
  | .leaf _ _ => 1
  | .not t => sz t + 1
  | .bin _ t u => sz t + sz u + 1
  | .part t _ _ => sz t + 1
def dp : Tm → Nat
  | .num _ _ => 1
  | .leaf _ _ => 1
  | .not t => dp t + 1
  | .bin _ t u => max (dp t) (dp u) + 1
  | .part t _ _ => dp t + 1
theorem nms_le (s : Sr) : ∀ t : Tm, (nms s t).length ≤ sz t
  | .num _ _ => by show 0 ≤ 1; decide
  | .leaf s' n => by
    show (if s' = s then [n] else []).length ≤ 1
    split
    · exact Nat.le_refl _
    · exact Nat.zero_le _
  | .not t => Nat.le_succ_of_le (nms_le s t)
  | .bin _ t u => by
    have h1 := nms_le s t
    have h2 := nms_le s u
    show (nms s t ++ nms s u).length ≤ sz t + sz u + 1
    rw [List.length_append]
    omega
  | .part t _ _ => Nat.le_succ_of_le (nms_le s t)
theorem wd_named {W : Ws} : ∀ {t : Tm} {k : Nat} {s : Sr} {n : Str}, Wd W t k → n ∈ nms s t → ∃ w, W.of s n = some w
  | .num _ _, _, _, _, _, hn => by cases hn
  | .leaf s' m, k, s, n, h, hn => by
    have hn2 : n ∈ (if s' = s then [m] else []) := hn
    by_cases e : s' = s
    · rw [if_pos e] at hn2
      subst e
      cases List.mem_singleton.mp hn2
      exact ⟨k, h⟩
    · rw [if_neg e] at hn2
      cases hn2
  | .not t, k, s, n, h, hn => wd_named (t := t) h hn
  | .bin o t u, k, s, n, h, hn => by
    have hh : ∃ i j, Wd W t i ∧ Wd W u j := by
      cases o with
      | and => exact ⟨_, _, h.1, h.2⟩
      | or => exact ⟨_, _, h.1, h.2⟩
      | plus => exact ⟨_, _, h.1, h.2⟩
      | less => obtain ⟨_, j, a, b⟩ := h; exact ⟨_, _, a, b⟩
      | same => obtain ⟨_, j, a, b⟩ := h; exact ⟨_, _, a, b⟩
      | join => obtain ⟨i, j, a, b, _⟩ := h; exact ⟨_, _, a, b⟩
    obtain ⟨i, j, a, b⟩ := hh
    rcases List.mem_append.mp hn with q | q
    · exact wd_named a q
    · exact wd_named b q
  | .part t _ _, k, s, n, h, hn => by
    obtain ⟨_, _, j, a, _⟩ := h
    exact wd_named (t := t) a hn
/-- half-known worth -/
def dimT (e : Sr → Str → List Nat) : Tm → List Nat
  | .num w v => bitsN w v
  | .leaf s n => e s n
  | .not t => (dimT e t).map tb
  | .bin .and t u => List.zipWith andM (dimT e t) (dimT e u)
  | .bin .or t u => List.zipWith orM (dimT e t) (dimT e u)
  | .bin .plus t u => (sumM (dimT e t) (dimT e u) 0).1
  | .bin .less t u => [tb (sumM (dimT e t) ((dimT e u).map tb) 1).2]
  | .bin .same t u => [sameM (dimT e t) (dimT e u)]
  | .bin .join t u => dimT e u ++ dimT e t
  | .part t low many => ((dimT e t).drop low).take many
/-- width and worth -/
def val (W : Ws) (e : Sr → Str → Nat) : Tm → Nat × Nat
  | .num w v => (w, v)
  | .leaf s n => ((W.of s n).getD 0, e s n)
  | .not t => ((val W e t).1, 2 ^ (val W e t).1 - 1 - (val W e t).2)
  | .bin .and t u => ((val W e t).1, (val W e t).2 &&& (val W e u).2)
  | .bin .or t u => ((val W e t).1, (val W e t).2 ||| (val W e u).2)
  | .bin .plus t u => ((val W e t).1, ((val W e t).2 + (val W e u).2) % 2 ^ (val W e t).1)
  | .bin .less t u => (1, if (val W e t).2 < (val W e u).2 then 1 else 0)
  | .bin .same t u => (1, if (val W e t).2 = (val W e u).2 then 1 else 0)
  | .bin .join t u => ((val W e t).1 + (val W e u).1, (val W e t).2 * 2 ^ (val W e u).1 + (val W e u).2)
  | .part t low many => (many, (val W e t).2 / 2 ^ low % 2 ^ many)
theorem val_w {W : Ws} {e : Sr → Str → Nat} : ∀ {t : Tm} {k : Nat}, Wd W t k → (val W e t).1 = k
  | .num w v, k, h => h.1.symm
  | .leaf s n, k, h => by
    have h : W.of s n = some k := h
    show (W.of s n).getD 0 = k
    rw [h]
    rfl
  | .not t, k, h => val_w (t := t) h
  | .bin .and t u, k, h => val_w (t := t) h.1
  | .bin .or t u, k, h => val_w (t := t) h.1
  | .bin .plus t u, k, h => val_w (t := t) h.1
  | .bin .less t u, k, h => h.1.symm
  | .bin .same t u, k, h => h.1.symm
  | .bin .join t u, k, h => by
    obtain ⟨i, j, h1, h2, rfl, _⟩ := h
    show (val W e t).1 + (val W e u).1 = i + j
    rw [val_w h1, val_w h2]
  | .part t low many, k, h => h.1.symm
/-- the half-known worth's length -/
theorem dim_len {W : Ws} {e : Sr → Str → List Nat} : ∀ {t : Tm} {k : Nat}, Wd W t k → (∀ s n w, n ∈ nms s t → W.of s n = some w → (e s n).length = w) → (dimT e t).length = k
  | .num w v, k, h, _ => by
    obtain ⟨rfl, _⟩ := h
    exact bitsN_len _ _
  | .leaf s n, k, h, he => he s n k (by show n ∈ (if s = s then [n] else []); rw [if_pos rfl]; exact List.mem_singleton.mpr rfl) h
  | .not t, k, h, he => by
    show ((dimT e t).map tb).length = k
    rw [List.length_map]
    exact dim_len (t := t) h he
  | .bin .and t u, k, h, he => by
    show (List.zipWith andM (dimT e t) (dimT e u)).length = k
    rw [List.length_zipWith, dim_len (t := t) h.1 fun s n w q => he s n w (List.mem_append_left _ q), dim_len (t := u) h.2 fun s n w q => he s n w (List.mem_append_right _ q), Nat.min_self]
  | .bin .or t u, k, h, he => by
    show (List.zipWith orM (dimT e t) (dimT e u)).length = k
    rw [List.length_zipWith, dim_len (t := t) h.1 fun s n w q => he s n w (List.mem_append_left _ q), dim_len (t := u) h.2 fun s n w q => he s n w (List.mem_append_right _ q), Nat.min_self]
  | .bin .plus t u, k, h, he => by
    have a := dim_len (t := t) h.1 fun s n w q => he s n w (List.mem_append_left _ q)
    have b := dim_len (t := u) h.2 fun s n w q => he s n w (List.mem_append_right _ q)
    show (sumM (dimT e t) (dimT e u) 0).1.length = k
    rw [sumM_len (by rw [a, b]), a]
  | .bin .less t u, k, h, he => h.1.symm
  | .bin .same t u, k, h, he => h.1.symm
  | .bin .join t u, k, h, he => by
    obtain ⟨i, j, h1, h2, rfl, _⟩ := h
    show (dimT e u ++ dimT e t).length = i + j
    rw [List.length_append, dim_len (t := t) h1 fun s n w q => he s n w (List.mem_append_left _ q), dim_len (t := u) h2 fun s n w q => he s n w (List.mem_append_right _ q), Nat.add_comm]
  | .part t low many, k, h, he => by
    obtain ⟨rfl, _, j, h2, h3⟩ := h
    show (((dimT e t).drop low).take k).length = k
    rw [List.length_take, List.length_drop, dim_len (t := t) h2 he]
    omega
theorem dim_len2 {W : Ws} {e : Sr → Str → List Nat} {o : Op} {t u : Tm} {k : Nat} (h : Wd W (.bin o t u) k) (ho : o ≠ .join) (he : ∀ s n w, n ∈ nms s (.bin o t u) → W.of s n = some w → (e s n).length = w) : ∃ j, Wd W t j ∧ Wd W u j ∧ (dimT e t).length = j ∧ (dimT e u).length = j := by
  have hh : ∃ j, Wd W t j ∧ Wd W u j := by
    cases o with
    | and => exact ⟨_, h.1, h.2⟩
    | or => exact ⟨_, h.1, h.2⟩
    | plus => exact ⟨_, h.1, h.2⟩
    | less => obtain ⟨_, j, a, b⟩ := h; exact ⟨_, a, b⟩
    | same => obtain ⟨_, j, a, b⟩ := h; exact ⟨_, a, b⟩
    | join => exact absurd rfl ho
  obtain ⟨j, a, b⟩ := hh
  exact ⟨j, a, b, dim_len a fun s n w q => he s n w (List.mem_append_left _ q), dim_len b fun s n w q => he s n w (List.mem_append_right _ q)⟩
/-- SOUND: the worth has the bits that the half-known worth tells -/
theorem dim_ref {W : Ws} {e : Sr → Str → List Nat} {v : Sr → Str → Nat} : ∀ {t : Tm} {k : Nat}, Wd W t k → (∀ s n w, n ∈ nms s t → W.of s n = some w → (e s n).length = w) → (∀ s n, n ∈ nms s t → Ref (e s n) (v s n)) → Ref (dimT e t) (val W v t).2
  | .num w x, k, h, _, _ => ref_bits h.2.2.2
  | .leaf s n, k, h, _, hr => hr s n (by show n ∈ (if s = s then [n] else []); rw [if_pos rfl]; exact List.mem_singleton.mpr rfl)
  | .not t, k, h, he, hr => by
    have ih := dim_ref (t := t) h he hr
    have l := dim_len (t := t) h he
    have q := ref_not ih
    rw [l] at q
    show Ref ((dimT e t).map tb) (2 ^ (val W v t).1 - 1 - (val W v t).2)
    rw [val_w (t := t) h]
    exact q
  | .bin .and t u, k, h, he, hr => by
    obtain ⟨j, a, b, la, lb⟩ := dim_len2 h (by decide) he
    exact ref_and (by rw [la, lb]) (dim_ref a (fun s n w q => he s n w (List.mem_append_left _ q)) fun s n q => hr s n (List.mem_append_left _ q)) (dim_ref b (fun s n w q => he s n w (List.mem_append_right _ q)) fun s n q => hr s n (List.mem_append_right _ q))
  | .bin .or t u, k, h, he, hr => by
    obtain ⟨j, a, b, la, lb⟩ := dim_len2 h (by decide) he
    exact ref_or (by rw [la, lb]) (dim_ref a (fun s n w q => he s n w (List.mem_append_left _ q)) fun s n q => hr s n (List.mem_append_left _ q)) (dim_ref b (fun s n w q => he s n w (List.mem_append_right _ q)) fun s n q => hr s n (List.mem_append_right _ q))
  | .bin .plus t u, k, h, he, hr => by
    obtain ⟨j, a, b, la, lb⟩ := dim_len2 h (by decide) he
    have q := (ref_sum (k := 0) (c := 0) (by rw [la, lb]) (dim_ref a (fun s n w q => he s n w (List.mem_append_left _ q)) fun s n q => hr s n (List.mem_append_left _ q)) (dim_ref b (fun s n w q => he s n w (List.mem_append_right _ q)) fun s n q => hr s n (List.mem_append_right _ q)) ⟨by decide, Or.inr rfl⟩).1
    rw [la, Nat.add_zero] at q
    show Ref (sumM (dimT e t) (dimT e u) 0).1 (((val W v t).2 + (val W v u).2) % 2 ^ (val W v t).1)
    rw [val_w a]
    exact q
  | .bin .less t u, k, h, he, hr => by
    obtain ⟨j, a, b, la, lb⟩ := dim_len2 h (by decide) he
    exact ref_less (by rw [la, lb]) (dim_ref a (fun s n w q => he s n w (List.mem_append_left _ q)) fun s n q => hr s n (List.mem_append_left _ q)) (dim_ref b (fun s n w q => he s n w (List.mem_append_right _ q)) fun s n q => hr s n (List.mem_append_right _ q))
  | .bin .same t u, k, h, he, hr => by
    obtain ⟨j, a, b, la, lb⟩ := dim_len2 h (by decide) he
    exact ref_same (by rw [la, lb]) (dim_ref a (fun s n w q => he s n w (List.mem_append_left _ q)) fun s n q => hr s n (List.mem_append_left _ q)) (dim_ref b (fun s n w q => he s n w (List.mem_append_right _ q)) fun s n q => hr s n (List.mem_append_right _ q))
  | .bin .join t u, k, h, he, hr => by
    obtain ⟨i, j, a, b, rfl, _⟩ := h
    have lb := dim_len (e := e) b fun s n w q => he s n w (List.mem_append_right _ q)
    have q := ref_join (dim_ref b (fun s n w q => he s n w (List.mem_append_right _ q)) fun s n q => hr s n (List.mem_append_right _ q)) (dim_ref a (fun s n w q => he s n w (List.mem_append_left _ q)) fun s n q => hr s n (List.mem_append_left _ q))
    rw [lb] at q
    show Ref (dimT e u ++ dimT e t) ((val W v t).2 * 2 ^ (val W v u).1 + (val W v u).2)
    rw [val_w b]
    exact q
  | .part t low many, k, h, he, hr => by
    obtain ⟨rfl, _, j, a, _⟩ := h
    exact ref_take _ (ref_drop _ (dim_ref (t := t) a he hr))
/-- a word fits its width -/
theorem val_lt {W : Ws} {v : Sr → Str → Nat} : ∀ {t : Tm} {k : Nat}, Wd W t k → (∀ s n w, n ∈ nms s t → W.of s n = some w → v s n < 2 ^ w) → (val W v t).2 < 2 ^ k := fun {t k} h hv => by
  have hr : ∀ s n, n ∈ nms s t → Ref (bitsN ((W.of s n).getD 0) (v s n)) (v s n) := fun s n hn => by
    obtain ⟨w, e⟩ := wd_named h hn
    rw [e]
    exact ref_bits (hv s n w hn e)
  have he : ∀ s n w, n ∈ nms s t → W.of s n = some w → (bitsN ((W.of s n).getD 0) (v s n)).length = w := fun s n w _ e => by
    rw [e]
    exact bitsN_len _ _
  have q := (dim_ref (e := fun s n => bitsN ((W.of s n).getD 0) (v s n)) h he hr).lt
  rw [dim_len h he] at q
  exact q
/-! ### marks stay marks, known ones known -/
theorem m_zip {b : Nat} {f : Nat → Nat → Nat} (hf : ∀ x y, x ≤ b → y ≤ b → f x y ≤ b) : ∀ {xs ys : List Nat}, (∀ m ∈ xs, m ≤ b) → (∀ m ∈ ys, m ≤ b) → ∀ m ∈ List.zipWith f xs ys, m ≤ b
  | [], _, _, _ => fun m hm => by cases hm
  | _ :: _, [], _, _ => fun m hm => by cases hm
  | x :: xs, y :: ys, h1, h2 => fun m hm => by
    rw [List.zipWith_cons_cons] at hm
    rcases List.mem_cons.mp hm with rfl | hm
    · exact hf _ _ (h1 x List.mem_cons_self) (h2 y List.mem_cons_self)
    · exact m_zip hf (fun m q => h1 m (List.mem_cons_of_mem _ q)) (fun m q => h2 m (List.mem_cons_of_mem _ q)) m hm
theorem le2_cases {m : Nat} (h : m ≤ 2) : m = 0 ∨ m = 1 ∨ m = 2 := by omega
theorem le1_cases {m : Nat} (h : m ≤ 1) : m = 0 ∨ m = 1 := by omega
theorem and2 (x y : Nat) (h1 : x ≤ 2) (h2 : y ≤ 2) : andM x y ≤ 2 := by rcases le2_cases h1 with rfl | rfl | rfl <;> rcases le2_cases h2 with rfl | rfl | rfl <;> decide
theorem or2 (x y : Nat) (h1 : x ≤ 2) (h2 : y ≤ 2) : orM x y ≤ 2 := by rcases le2_cases h1 with rfl | rfl | rfl <;> rcases le2_cases h2 with rfl | rfl | rfl <;> decide
theorem xor2 (x y : Nat) (h1 : x ≤ 2) (h2 : y ≤ 2) : xorM x y ≤ 2 := by rcases le2_cases h1 with rfl | rfl | rfl <;> rcases le2_cases h2 with rfl | rfl | rfl <;> decide
theorem car2 (x y z : Nat) : carM x y z ≤ 2 := by unfold carM; split <;> (try split) <;> decide
theorem and1 (x y : Nat) (h1 : x ≤ 1) (h2 : y ≤ 1) : andM x y ≤ 1 := by rcases le1_cases h1 with rfl | rfl <;> rcases le1_cases h2 with rfl | rfl <;> decide
theorem or1 (x y : Nat) (h1 : x ≤ 1) (h2 : y ≤ 1) : orM x y ≤ 1 := by rcases le1_cases h1 with rfl | rfl <;> rcases le1_cases h2 with rfl | rfl <;> decide
theorem xor1 (x y : Nat) (h1 : x ≤ 1) (h2 : y ≤ 1) : xorM x y ≤ 1 := by rcases le1_cases h1 with rfl | rfl <;> rcases le1_cases h2 with rfl | rfl <;> decide
theorem car1 (x y z : Nat) (h1 : x ≤ 1) (h2 : y ≤ 1) (h3 : z ≤ 1) : carM x y z ≤ 1 := by rcases le1_cases h1 with rfl | rfl <;> rcases le1_cases h2 with rfl | rfl <;> rcases le1_cases h3 with rfl | rfl <;> decide
theorem sum_b {b : Nat} (hx : ∀ x y, x ≤ b → y ≤ b → xorM x y ≤ b) (hc : ∀ x y z, x ≤ b → y ≤ b → z ≤ b → carM x y z ≤ b) : ∀ {xs ys : List Nat} {k : Nat}, (∀ m ∈ xs, m ≤ b) → (∀ m ∈ ys, m ≤ b) → k ≤ b → (∀ m ∈ (sumM xs ys k).1, m ≤ b) ∧ (sumM xs ys k).2 ≤ b
  | [], _, k, _, _, hk => ⟨fun m hm => (by cases hm), hk⟩
  | _ :: _, [], k, _, _, hk => ⟨fun m hm => (by cases hm), hk⟩
  | x :: xs, y :: ys, k, h1, h2, hk => by
    have a1 := h1 x List.mem_cons_self
    have a2 := h2 y List.mem_cons_self
    obtain ⟨i1, i2⟩ := sum_b hx hc (xs := xs) (ys := ys) (fun m q => h1 m (List.mem_cons_of_mem _ q)) (fun m q => h2 m (List.mem_cons_of_mem _ q)) (hc x y k a1 a2 hk)
    refine ⟨fun m hm => ?_, i2⟩
    rcases List.mem_cons.mp (show m ∈ xorM (xorM x y) k :: (sumM xs ys (carM x y k)).1 from hm) with rfl | hm
    · exact hx _ _ (hx _ _ a1 a2) hk
    · exact i1 m hm
theorem tb_b {b : Nat} (hb : ∀ m, m ≤ b → tb m ≤ b) {ms : List Nat} (h : ∀ m ∈ ms, m ≤ b) : ∀ m ∈ ms.map tb, m ≤ b := fun m hm => by
  obtain ⟨x, hx, rfl⟩ := List.mem_map.mp hm
  exact hb x (h x hx)
theorem same_b {b : Nat} (h1 : 1 ≤ b) {xs ys : List Nat} (h : ∀ m ∈ List.zipWith xorM xs ys, m ≤ b) : sameM xs ys ≤ b := by
  unfold sameM
  show (if 1 ∈ List.zipWith xorM xs ys then 0 else if 2 ∈ List.zipWith xorM xs ys then 2 else 1) ≤ b
  split
  · exact Nat.zero_le _
  · split
    · rename_i q
      exact h 2 q
    · exact h1
theorem dim_b {b : Nat} (h1 : 1 ≤ b) (hb : ∀ m, m ≤ b → tb m ≤ b) (ha : ∀ x y, x ≤ b → y ≤ b → andM x y ≤ b) (ho : ∀ x y, x ≤ b → y ≤ b → orM x y ≤ b) (hx : ∀ x y, x ≤ b → y ≤ b → xorM x y ≤ b) (hc : ∀ x y z, x ≤ b → y ≤ b → z ≤ b → carM x y z ≤ b)
    {e : Sr → Str → List Nat} : ∀ {t : Tm}, (∀ s n, n ∈ nms s t → ∀ m ∈ e s n, m ≤ b) → ∀ m ∈ dimT e t, m ≤ b
  | .num w v, _ => fun m hm => Nat.le_trans (bitsN_m1 w v m hm) h1
  | .leaf s n, h => h s n (by show n ∈ (if s = s then [n] else []); rw [if_pos rfl]; exact List.mem_singleton.mpr rfl)
  | .not t, h => tb_b hb (dim_b h1 hb ha ho hx hc (t := t) h)
  | .bin .and t u, h => m_zip ha (dim_b h1 hb ha ho hx hc (t := t) fun s n q => h s n (List.mem_append_left _ q)) (dim_b h1 hb ha ho hx hc (t := u) fun s n q => h s n (List.mem_append_right _ q))
  | .bin .or t u, h => m_zip ho (dim_b h1 hb ha ho hx hc (t := t) fun s n q => h s n (List.mem_append_left _ q)) (dim_b h1 hb ha ho hx hc (t := u) fun s n q => h s n (List.mem_append_right _ q))
  | .bin .plus t u, h => (sum_b hx hc (dim_b h1 hb ha ho hx hc (t := t) fun s n q => h s n (List.mem_append_left _ q)) (dim_b h1 hb ha ho hx hc (t := u) fun s n q => h s n (List.mem_append_right _ q)) (Nat.zero_le _)).1
  | .bin .less t u, h => fun m hm => by
    cases List.mem_singleton.mp hm
    exact hb _ (sum_b hx hc (dim_b h1 hb ha ho hx hc (t := t) fun s n q => h s n (List.mem_append_left _ q)) (tb_b hb (dim_b h1 hb ha ho hx hc (t := u) fun s n q => h s n (List.mem_append_right _ q))) h1).2
  | .bin .same t u, h => fun m hm => by
    cases List.mem_singleton.mp hm
    exact same_b h1 (m_zip hx (dim_b h1 hb ha ho hx hc (t := t) fun s n q => h s n (List.mem_append_left _ q)) (dim_b h1 hb ha ho hx hc (t := u) fun s n q => h s n (List.mem_append_right _ q)))
  | .bin .join t u, h => fun m hm => by
    rcases List.mem_append.mp hm with q | q
    · exact dim_b h1 hb ha ho hx hc (t := u) (fun s n q => h s n (List.mem_append_right _ q)) m q
    · exact dim_b h1 hb ha ho hx hc (t := t) (fun s n q => h s n (List.mem_append_left _ q)) m q
  | .part t low many, h => fun m hm => dim_b h1 hb ha ho hx hc (t := t) h m (List.mem_of_mem_drop (List.mem_of_mem_take hm))
theorem dim_m2 {e : Sr → Str → List Nat} {t : Tm} (h : ∀ s n, n ∈ nms s t → M2 (e s n)) : M2 (dimT e t) := dim_b (b := 2) (by decide) (fun _ _ => tb_m2) and2 or2 xor2 (fun _ _ _ _ _ _ => car2 _ _ _) h
theorem dim_m1 {e : Sr → Str → List Nat} {t : Tm} (h : ∀ s n, n ∈ nms s t → M1 (e s n)) : M1 (dimT e t) := dim_b (b := 1) (by decide) (fun _ => tb_m1) and1 or1 xor1 car1 h
/-- only what is read counts -/
theorem dim_congr {e e' : Sr → Str → List Nat} : ∀ {t : Tm}, (∀ s n, n ∈ nms s t → e s n = e' s n) → dimT e t = dimT e' t
  | .num w v, _ => rfl
  | .leaf s n, h => h s n (by show n ∈ (if s = s then [n] else []); rw [if_pos rfl]; exact List.mem_singleton.mpr rfl)
  | .not t, h => by rw [dimT, dimT, dim_congr (t := t) h]
  | .bin o t u, h => by
    have h1 := dim_congr (t := t) fun s n q => h s n (List.mem_append_left _ q)
    have h2 := dim_congr (t := u) fun s n q => h s n (List.mem_append_right _ q)
    cases o <;> rw [dimT, dimT, h1, h2]
  | .part t low many, h => by rw [dimT, dimT, dim_congr (t := t) h]
end K24

set_option Elab.async false
set_option linter.all false
set_option maxRecDepth 100000
set_option maxHeartbeats 4000000
/-! The cover by cubes; the bits asked. -/
namespace K24
open PySem
/-! ### cubes -/
def bef : List Nat → List Nat → Bool
  | [], _ => false
  | m :: ms, b :: bs => if b < m then true else if m < b then false else bef ms bs
  | _ :: _, [] => false
def pre (ms bs : List Nat) : Bool := decide (ms = bs.take ms.length)
theorem pre_nil (bs : List Nat) : pre [] bs = true := rfl
theorem pre_cons (m b : Nat) (ms bs : List Nat) : pre (m :: ms) (b :: bs) = (decide (m = b) && pre ms bs) := by
  unfold pre
  rw [List.length_cons, List.take_succ_cons, ← Bool.decide_and]
  by_cases h : m = b ∧ ms = bs.take ms.length
  · rw [decide_eq_true h, decide_eq_true (by rw [h.1, ← h.2])]
  · rw [decide_eq_false h, decide_eq_false fun e => h (List.cons_eq_cons.mp e)]
theorem pre_cons_nil (m : Nat) (ms : List Nat) : pre (m :: ms) [] = false := by
  unfold pre
  rw [List.take_nil]
  exact decide_eq_false fun e => by cases e
theorem bef_pre : ∀ (ms bs : List Nat), bef ms bs = true → pre ms bs = false
  | [], bs, h => by cases h
  | m :: ms, [], h => by cases h
  | m :: ms, b :: bs, h => by
    have h : (if b < m then true else if m < b then false else bef ms bs) = true := h
    rw [pre_cons]
    by_cases h1 : b < m
    · rw [decide_eq_false (by omega), Bool.false_and]
    · rw [if_neg h1] at h
      by_cases h2 : m < b
      · rw [if_pos h2] at h
        cases h
      · rw [if_neg h2] at h
        rw [bef_pre ms bs h, Bool.and_false]
theorem bef_snoc0 : ∀ (ms bs : List Nat), bef (ms ++ [0]) bs = bef ms bs
  | [], [] => rfl
  | [], b :: bs => by
    show (if b < 0 then true else if 0 < b then false else bef [] bs) = false
    rw [if_neg (by omega)]
    split <;> rfl
  | m :: ms, [] => rfl
  | m :: ms, b :: bs => by
    show (if b < m then true else if m < b then false else bef (ms ++ [0]) bs) = (if b < m then true else if m < b then false else bef ms bs)
    rw [bef_snoc0 ms bs]
theorem bef_last : ∀ (k : Nat) (bs : List Nat), k ≤ bs.length → M1 bs → (bef (List.replicate k 1) bs || pre (List.replicate k 1) bs) = true
  | 0, bs, _, _ => rfl
  | k + 1, [], h, _ => by cases h
  | k + 1, b :: bs, h, hb => by
    have ih := bef_last k bs (by simpa using h) fun m q => hb m (List.mem_cons_of_mem _ q)
    have h1 : b ≤ 1 := hb b List.mem_cons_self
    rw [List.replicate_succ, pre_cons]
    show ((if b < 1 then true else if 1 < b then false else bef (List.replicate k 1) bs) || _) = true
    by_cases q : b < 1
    · rw [if_pos q]
      rfl
    · rw [if_neg q, if_neg (by omega), decide_eq_true (by omega), Bool.true_and]
      exact ih
theorem bef_next : ∀ (p : List Nat) (k : Nat) (bs : List Nat), (p ++ 0 :: List.replicate k 1).length ≤ bs.length → M1 bs →
    bef (p ++ [1]) bs = (bef (p ++ 0 :: List.replicate k 1) bs || pre (p ++ 0 :: List.replicate k 1) bs)
  | [], k, [], h, _ => by simp at h
  | [], k, b :: bs, h, hb => by
    have h1 : b ≤ 1 := hb b List.mem_cons_self
    have l := bef_last k bs (by simpa using h) fun m q => hb m (List.mem_cons_of_mem _ q)
    show (if b < 1 then true else if 1 < b then false else bef [] bs) = ((if b < 0 then true else if 0 < b then false else bef (List.replicate k 1) bs) || pre (0 :: List.replicate k 1) (b :: bs))
    rw [pre_cons, if_neg (show ¬ b < 0 by omega)]
    rcases le1_cases h1 with rfl | rfl
    · rw [if_pos (by decide), if_neg (by decide), decide_eq_true rfl, Bool.true_and, l]
    · rw [if_neg (by decide), if_neg (by decide), if_pos (by decide), decide_eq_false (by decide)]
      rfl
  | m :: p, k, [], h, _ => by simp at h
  | m :: p, k, b :: bs, h, hb => by
    have ih := bef_next p k bs (by simpa using h) fun m q => hb m (List.mem_cons_of_mem _ q)
    show (if b < m then true else if m < b then false else bef (p ++ [1]) bs) = ((if b < m then true else if m < b then false else bef (p ++ 0 :: List.replicate k 1) bs) || pre (m :: (p ++ 0 :: List.replicate k 1)) (b :: bs))
    rw [pre_cons, ih]
    by_cases h1 : b < m
    · rw [if_pos h1, if_pos h1]
      rfl
    · rw [if_neg h1, if_neg h1]
      by_cases h2 : m < b
      · rw [if_pos h2, if_pos h2, decide_eq_false (by omega)]
        rfl
      · rw [if_neg h2, if_neg h2, decide_eq_true (by omega), Bool.true_and]
def cov (cs : List (List Nat × Nat)) (bs : List Nat) : List (List Nat × Nat) := cs.filter fun c => pre c.1 bs
def befO : Option (List Nat) → List Nat → Bool
  | none, _ => true
  | some ms, bs => bef ms bs
def Cov (N : Nat) (cs : List (List Nat × Nat)) (o : Option (List Nat)) : Prop := ∀ bs : List Nat, bs.length = N → M1 bs → (cov cs bs).length = if befO o bs = true then 1 else 0
theorem cov_start (N : Nat) : Cov N [] (some []) := fun bs _ _ => rfl
theorem cov_snoc0 {N : Nat} {cs : List (List Nat × Nat)} {ms : List Nat} (h : Cov N cs (some ms)) : Cov N cs (some (ms ++ [0])) := fun bs hl hb => by
  rw [h bs hl hb]
  show (if bef ms bs = true then 1 else 0) = if bef (ms ++ [0]) bs = true then 1 else 0
  rw [bef_snoc0]
theorem cov_add (cs : List (List Nat × Nat)) (c : List Nat × Nat) (bs : List Nat) : (cov (cs ++ [c]) bs).length = (cov cs bs).length + if pre c.1 bs = true then 1 else 0 := by
  unfold cov
  rw [List.filter_append, List.length_append, List.filter_cons]
  split <;> rfl
theorem cov_next {N : Nat} {cs : List (List Nat × Nat)} {p : List Nat} {k a : Nat} (h : Cov N cs (some (p ++ 0 :: List.replicate k 1))) (hN : (p ++ 0 :: List.replicate k 1).length ≤ N) : Cov N (cs ++ [(p ++ 0 :: List.replicate k 1, a)]) (some (p ++ [1])) := fun bs hl hb => by
  have e := bef_next p k bs (by rw [hl]; exact hN) hb
  have x := bef_pre (p ++ 0 :: List.replicate k 1) bs
  rw [cov_add, h bs hl hb]
  show ((if bef (p ++ 0 :: List.replicate k 1) bs = true then 1 else 0) + if pre (p ++ 0 :: List.replicate k 1) bs = true then 1 else 0) = if bef (p ++ [1]) bs = true then 1 else 0
  rw [e]
  cases h1 : bef (p ++ 0 :: List.replicate k 1) bs with
  | true =>
    rw [x h1]
    rfl
  | false => cases pre (p ++ 0 :: List.replicate k 1) bs <;> rfl
theorem cov_end {N : Nat} {cs : List (List Nat × Nat)} {k a : Nat} (h : Cov N cs (some (List.replicate k 1))) (hN : k ≤ N) : Cov N (cs ++ [(List.replicate k 1, a)]) none := fun bs hl hb => by
  have e := bef_last k bs (by rw [hl]; exact hN) hb
  have x := bef_pre (List.replicate k 1) bs
  rw [cov_add, h bs hl hb]
  show ((if bef (List.replicate k 1) bs = true then 1 else 0) + if pre (List.replicate k 1) bs = true then 1 else 0) = 1
  cases h1 : bef (List.replicate k 1) bs with
  | true =>
    rw [x h1]
    rfl
  | false =>
    rw [h1, Bool.false_or] at e
    rw [e]
    rfl
/-! ### the bits asked -/
inductive S4 where
  | box | door | one | other
  deriving DecidableEq
abbrev Ask := S4 × Str × Nat
def dn (W : Str → Nat) (s : S4) (ns : List Str) : List Ask := ns.flatMap fun n => (List.range (W n)).reverse.map fun p => (s, n, p)
abbrev key (s : S4) (n : Str) (e : Ask) : Bool := decide (e.1 = s) && decide (e.2.1 = n)
/-- the asked bits, each with a number -/
def zm (ask : List Ask) (f : Nat → Nat) : List (Ask × Nat) := ask.mapIdx fun k a => (a, f k)
def col (s : S4) (n : Str) (l : List (Ask × Nat)) : List Nat := ((l.filter fun e => key s n e.1).map (·.2)).reverse
def wrd (s : S4) (n : Str) (l : List (Ask × Nat)) : Nat := ((l.filter fun e => key s n e.1).map fun e => e.2 * 2 ^ e.1.2.2).sum
/-- mark k of a beginning -/
def mk2 (ms : List Nat) (k : Nat) : Nat := (ms[k]?).getD 2
def hk (ask : List Ask) (ms : List Nat) (s : S4) (n : Str) : List Nat := col s n (zm ask (mk2 ms))
def wk (ask : List Ask) (bs : List Nat) (s : S4) (n : Str) : Nat := wrd s n (zm ask fun k => (bs[k]?).getD 0)
theorem zm_len (ask : List Ask) (f : Nat → Nat) : (zm ask f).length = ask.length := List.length_mapIdx
theorem zm_get {ask : List Ask} {f : Nat → Nat} {k : Nat} {a : Ask} (h : ask[k]? = some a) : (zm ask f)[k]? = some (a, f k) := by
  unfold zm
  rw [List.getElem?_mapIdx, h]
  rfl
theorem zm_take {ask : List Ask} {f : Nat → Nat} {k : Nat} {a : Ask} (h : ask[k]? = some a) : (zm ask f).take (k + 1) = (zm ask f).take k ++ [(a, f k)] := by
  rw [List.take_succ, zm_get h]
  rfl
theorem zm_all (ask : List Ask) (f : Nat → Nat) : (zm ask f).take ask.length = zm ask f := by
  rw [← zm_len ask f, List.take_length]
theorem col_snoc (s : S4) (n : Str) (l : List (Ask × Nat)) (a : Ask) (m : Nat) : col s n (l ++ [(a, m)]) = if key s n a = true then m :: col s n l else col s n l := by
  unfold col
  rw [List.filter_append, List.map_append, List.reverse_append, List.filter_cons]
  split <;> rfl
theorem wrd_snoc (s : S4) (n : Str) (l : List (Ask × Nat)) (a : Ask) (m : Nat) : wrd s n (l ++ [(a, m)]) = if key s n a = true then wrd s n l + m * 2 ^ a.2.2 else wrd s n l := by
  unfold wrd
  rw [List.filter_append, List.map_append, List.sum_append, List.filter_cons]
  split
  · simp
  · simp
theorem map_mapIdx {α β γ : Type} (f : Nat → α → β) (g : β → γ) (l : List α) : (l.mapIdx f).map g = l.mapIdx fun i a => g (f i a) := by
  refine List.ext_getElem? fun i => ?_
  rw [List.getElem?_map, List.getElem?_mapIdx, List.getElem?_mapIdx]
  cases l[i]? <;> rfl
/-- three in one -/
def zt (ask : List Ask) (f g : Nat → Nat) : List (Ask × Nat × Nat) := ask.mapIdx fun k a => (a, f k, g k)
theorem zt_f (ask : List Ask) (f g : Nat → Nat) : (zt ask f g).map (fun e => (e.1, e.2.1)) = zm ask f := by
  unfold zt zm
  rw [map_mapIdx]
theorem zt_g (ask : List Ask) (f g : Nat → Nat) : (zt ask f g).map (fun e => (e.1, e.2.2)) = zm ask g := by
  unfold zt zm
  rw [map_mapIdx]
theorem zt_a (ask : List Ask) (f g : Nat → Nat) : (zt ask f g).map (fun e => e.1) = ask := by
  unfold zt
  rw [map_mapIdx]
  exact List.mapIdx_eq_iff.mpr fun i => by cases ask[i]? <;> rfl
theorem ref_down : ∀ (w : Nat) (l : List (Ask × Nat × Nat)), l.map (fun e => e.1.2.2) = (List.range w).reverse → (∀ e ∈ l, (e.2.1 = 2 ∨ e.2.1 = e.2.2) ∧ e.2.2 ≤ 1) →
    Ref ((l.map fun e => e.2.1).reverse) ((l.map fun e => e.2.2 * 2 ^ e.1.2.2).sum)
  | 0, l, hl, _ => by
    have e : l = [] := by
      cases l with
      | nil => rfl
      | cons a r => simp at hl
    subst e
    rfl
  | w + 1, l, hl, h => by
    rw [List.range_succ, List.reverse_append] at hl
    cases l with
    | nil => simp at hl
    | cons a r =>
      rw [List.map_cons] at hl
      obtain ⟨h1, h2⟩ := List.cons_eq_cons.mp (show a.1.2.2 :: r.map (fun e => e.1.2.2) = w :: (List.range w).reverse from hl)
      have ih := ref_down w r h2 fun e he => h e (List.mem_cons_of_mem _ he)
      obtain ⟨q1, q2⟩ := h a List.mem_cons_self
      have one : Ref [a.2.1] a.2.2 := ⟨by omega, by show a.2.2 / 2 = 0; omega⟩
      have hw : ((r.map fun e => e.2.1).reverse).length = w := by
        rw [List.length_reverse, List.length_map, ← List.length_map (f := fun e : Ask × Nat × Nat => e.1.2.2), h2, List.length_reverse, List.length_range]
      have j := ref_join ih one
      rw [hw] at j
      rw [List.map_cons, List.reverse_cons, List.map_cons, List.sum_cons, h1]
      exact j
theorem map_filter_fst {α β : Type} (l : List (α × β)) (p : α → Bool) : (l.filter fun e => p e.1).map (·.1) = (l.map (·.1)).filter p := by
  induction l with
  | nil => rfl
  | cons a r ih =>
    rw [List.map_cons, List.filter_cons, List.filter_cons]
    cases p a.1 with
    | true =>
      rw [if_pos rfl, if_pos rfl, List.map_cons, ih]
    | false =>
      rw [if_neg (by decide), if_neg (by decide), ih]
theorem filter_map_c {α β : Type} (g : α → β) (p : β → Bool) : ∀ l : List α, (l.map g).filter p = (l.filter fun a => p (g a)).map g
  | [] => rfl
  | a :: r => by
    rw [List.map_cons, List.filter_cons, List.filter_cons, filter_map_c g p r]
    cases p (g a) <;> rfl
/-- the marks that a beginning of the bits tells, and the bits' word -/
theorem ref_hk {ask : List Ask} {ms bs : List Nat} {s : S4} {n : Str} {w : Nat} (hk1 : (ask.filter (key s n)).map (fun e => e.2.2) = (List.range w).reverse) (hb : M1 bs) (hl : bs.length = ask.length) (hp : ms = bs.take ms.length) :
    (hk ask ms s n).length = w ∧ Ref (hk ask ms s n) (wk ask bs s n) := by
  have ea : ((zt ask (mk2 ms) fun k => (bs[k]?).getD 0).filter fun e => key s n e.1).map (fun e => e.1.2.2) = (List.range w).reverse := by
    have z := map_filter_fst (zt ask (mk2 ms) fun k => (bs[k]?).getD 0) (key s n)
    rw [zt_a] at z
    rw [← hk1, ← z, List.map_map]
    rfl
  have ec : hk ask ms s n = (((zt ask (mk2 ms) fun k => (bs[k]?).getD 0).filter fun e => key s n e.1).map fun e => e.2.1).reverse := by
    show ((((zm ask (mk2 ms)).filter fun e => key s n e.1).map (·.2)).reverse) = _
    rw [← zt_f ask (mk2 ms) fun k => (bs[k]?).getD 0, filter_map_c, List.map_map]
    rfl
  have ew : wk ask bs s n = (((zt ask (mk2 ms) fun k => (bs[k]?).getD 0).filter fun e => key s n e.1).map fun e => e.2.2 * 2 ^ e.1.2.2).sum := by
    show ((((zm ask fun k => (bs[k]?).getD 0).filter fun e => key s n e.1).map fun e => e.2 * 2 ^ e.1.2.2).sum) = _
    rw [← zt_g ask (mk2 ms) fun k => (bs[k]?).getD 0, filter_map_c, List.map_map]
    rfl
  refine ⟨?_, ?_⟩
  · rw [ec, List.length_reverse, List.length_map, ← List.length_map (f := fun e : Ask × Nat × Nat => e.1.2.2), ea, List.length_reverse, List.length_range]
  · rw [ec, ew]
    refine ref_down w _ ea fun e he => ?_
    have he := (List.mem_filter.mp he).1
    unfold zt at he
    obtain ⟨i, hi, e1⟩ := List.mem_mapIdx.mp he
    subst e1
    show (mk2 ms i = 2 ∨ mk2 ms i = (bs[i]?).getD 0) ∧ (bs[i]?).getD 0 ≤ 1
    have hib : i < bs.length := by rw [hl]; exact hi
    have eb : bs[i]? = some bs[i] := List.getElem?_eq_getElem hib
    have b1 : bs[i] ≤ 1 := hb _ (List.getElem_mem hib)
    refine ⟨?_, by rw [eb]; exact b1⟩
    unfold mk2
    by_cases him : i < ms.length
    · refine Or.inr ?_
      have e2 : ms[i]? = bs[i]? := by
        rw [hp, List.getElem?_take, if_pos]
        exact him
      rw [e2, eb]
      rfl
    · refine Or.inl ?_
      rw [List.getElem?_eq_none (by omega)]
      rfl
/-- with any marks -/
theorem hk_len {ask : List Ask} {ms : List Nat} {s : S4} {n : Str} {w : Nat} (hk1 : (ask.filter (key s n)).map (fun e => e.2.2) = (List.range w).reverse) : (hk ask ms s n).length = w := by
  have z := map_filter_fst (zm ask (mk2 ms)) (key s n)
  have e0 : (zm ask (mk2 ms)).map (·.1) = ask := by
    unfold zm
    rw [map_mapIdx]
    exact List.mapIdx_eq_iff.mpr fun i => by cases ask[i]? <;> rfl
  rw [e0] at z
  have h2 : (ask.filter (key s n)).length = w := by
    rw [← List.length_map (f := fun e : Ask => e.2.2), hk1, List.length_reverse, List.length_range]
  unfold hk col
  rw [List.length_reverse, List.length_map, ← List.length_map (f := fun e : Ask × Nat => e.1), z, h2]
theorem hk_b {b : Nat} {ask : List Ask} {ms : List Nat} {s : S4} {n : Str} (h : ∀ k, k < ask.length → mk2 ms k ≤ b) : ∀ m ∈ hk ask ms s n, m ≤ b := fun m hm => by
  unfold hk col at hm
  obtain ⟨e, he, rfl⟩ := List.mem_map.mp (List.mem_reverse.mp hm)
  have he := (List.mem_filter.mp he).1
  unfold zm at he
  obtain ⟨i, hi, e1⟩ := List.mem_mapIdx.mp he
  subst e1
  exact h i hi
theorem mk2_2 {ms : List Nat} (h : M1 ms) (k : Nat) : mk2 ms k ≤ 2 := by
  unfold mk2
  cases e : ms[k]? with
  | none => exact Nat.le_refl _
  | some m => exact Nat.le_succ_of_le (h m (List.mem_of_getElem? e))
theorem mk2_1 {ms : List Nat} (h : M1 ms) {k : Nat} (hk : k < ms.length) : mk2 ms k ≤ 1 := by
  unfold mk2
  rw [List.getElem?_eq_getElem hk]
  exact h _ (List.getElem_mem hk)
theorem hk_m2 {ask : List Ask} {ms : List Nat} (h : M1 ms) (s : S4) (n : Str) : M2 (hk ask ms s n) := hk_b fun k _ => mk2_2 h k
theorem hk_m1 {ask : List Ask} {ms : List Nat} (h : M1 ms) (hl : ms.length = ask.length) (s : S4) (n : Str) : M1 (hk ask ms s n) := hk_b fun k hk => mk2_1 h (by omega)
/-! ### which bits, in which order -/
def Lt (a b : Str) : Prop := a.cps.toList < b.cps.toList
def Srt (l : List Str) : Prop := l.Pairwise Lt
theorem lt_irr (a : Str) : ¬ Lt a a := List.lt_irrefl _
theorem lt_tr {a b c : Str} (h : Lt a b) (h' : Lt b c) : Lt a c := List.lt_trans h h'
theorem srt_nodup {l : List Str} (h : Srt l) : l.Nodup := List.Pairwise.imp (fun {a b} (q : Lt a b) => (fun e => lt_irr a (by subst e; exact q) : a ≠ b)) h
theorem srt_uniq : ∀ {l1 l2 : List Str}, Srt l1 → Srt l2 → (∀ x, x ∈ l1 ↔ x ∈ l2) → l1 = l2
  | [], [], _, _, _ => rfl
  | [], b :: l2, _, _, h => by
    have := (h b).mpr List.mem_cons_self
    cases this
  | a :: l1, [], _, _, h => by
    have := (h a).mp List.mem_cons_self
    cases this
  | a :: l1, b :: l2, s1, s2, h => by
    obtain ⟨p1, q1⟩ := List.pairwise_cons.mp s1
    obtain ⟨p2, q2⟩ := List.pairwise_cons.mp s2
    have e : a = b := by
      rcases List.mem_cons.mp ((h a).mp List.mem_cons_self) with e | e
      · exact e
      · rcases List.mem_cons.mp ((h b).mpr List.mem_cons_self) with e2 | e2
        · exact e2.symm
        · exact absurd (lt_tr (p1 b e2) (p2 a e)) (lt_irr a)
    subst e
    congr 1
    refine srt_uniq q1 q2 fun x => ⟨fun hx => ?_, fun hx => ?_⟩
    · rcases List.mem_cons.mp ((h x).mp (List.mem_cons_of_mem _ hx)) with e | e
      · subst e
        exact absurd (p1 x hx) (lt_irr x)
      · exact e
    · rcases List.mem_cons.mp ((h x).mpr (List.mem_cons_of_mem _ hx)) with e | e
      · subst e
        exact absurd (p2 x hx) (lt_irr x)
      · exact e
structure SixOk (g1 g2 : Tm) (A1 A2 A3 A4 A5 A6 : List Str) : Prop where
  s1 : Srt A1
  s2 : Srt A2
  s3 : Srt A3
  s4 : Srt A4
  s5 : Srt A5
  s6 : Srt A6
  m1 : ∀ n, n ∈ A1 ↔ n ∈ nms .box g1 ∧ n ∈ nms .box g2
  m2 : ∀ n, n ∈ A2 ↔ n ∈ nms .door g1 ∧ n ∈ nms .door g2
  m3 : ∀ n, n ∈ A3 ↔ (n ∈ nms .box g1 ∨ n ∈ nms .box g2) ∧ ¬ (n ∈ nms .box g1 ∧ n ∈ nms .box g2)
  m4 : ∀ n, n ∈ A4 ↔ (n ∈ nms .door g1 ∨ n ∈ nms .door g2) ∧ ¬ (n ∈ nms .door g1 ∧ n ∈ nms .door g2)
  m5 : ∀ n, n ∈ A5 ↔ n ∈ nms .late g1
  m6 : ∀ n, n ∈ A6 ↔ n ∈ nms .late g2
def six (bw dw : Str → Nat) (A1 A2 A3 A4 A5 A6 : List Str) : List Ask := dn bw .box A1 ++ dn dw .door A2 ++ (dn bw .box A3 ++ dn dw .door A4) ++ (dn bw .one A5 ++ dn bw .other A6)
def AskedOk (bw dw : Str → Nat) (g1 g2 : Tm) (ask : List Ask) : Prop := ∃ A1 A2 A3 A4 A5 A6, SixOk g1 g2 A1 A2 A3 A4 A5 A6 ∧ ask = six bw dw A1 A2 A3 A4 A5 A6
theorem AskedOk.uniq {bw dw : Str → Nat} {g1 g2 : Tm} {a b : List Ask} (h : AskedOk bw dw g1 g2 a) (h' : AskedOk bw dw g1 g2 b) : a = b := by
  obtain ⟨A1, A2, A3, A4, A5, A6, h, rfl⟩ := h
  obtain ⟨B1, B2, B3, B4, B5, B6, h', rfl⟩ := h'
  rw [srt_uniq h.s1 h'.s1 fun x => (h.m1 x).trans (h'.m1 x).symm, srt_uniq h.s2 h'.s2 fun x => (h.m2 x).trans (h'.m2 x).symm, srt_uniq h.s3 h'.s3 fun x => (h.m3 x).trans (h'.m3 x).symm,
    srt_uniq h.s4 h'.s4 fun x => (h.m4 x).trans (h'.m4 x).symm, srt_uniq h.s5 h'.s5 fun x => (h.m5 x).trans (h'.m5 x).symm, srt_uniq h.s6 h'.s6 fun x => (h.m6 x).trans (h'.m6 x).symm]
theorem key_blk (s s' : S4) (n n' : Str) (w : Nat) : ((List.range w).reverse.map fun p => ((s, n, p) : Ask)).filter (key s' n') = if s = s' ∧ n = n' then (List.range w).reverse.map fun p => ((s, n, p) : Ask) else [] := by
  rw [filter_map_c]
  by_cases h : s = s' ∧ n = n'
  · rw [if_pos h]
    obtain ⟨rfl, rfl⟩ := h
    congr 1
    rw [List.filter_eq_self]
    intro a _
    show (decide (s = s) && decide (n = n)) = true
    rw [decide_eq_true rfl, decide_eq_true rfl]
    rfl
  · rw [if_neg h]
    have e : (List.range w).reverse.filter (fun p => key s' n' (s, n, p)) = [] := by
      rw [List.filter_eq_nil_iff]
      intro a _ q
      have q : (decide (s = s') && decide (n = n')) = true := q
      rw [Bool.and_eq_true, decide_eq_true_eq, decide_eq_true_eq] at q
      exact h q
    rw [e]
    rfl
theorem key_dn (W : Str → Nat) (s s' : S4) (n' : Str) : ∀ ns : List Str, ns.Nodup → (dn W s ns).filter (key s' n') = if s = s' ∧ n' ∈ ns then (List.range (W n')).reverse.map fun p => ((s, n', p) : Ask) else []
  | [], _ => by
    rw [if_neg fun h => by cases h.2]
    rfl
  | n :: ns, h => by
    obtain ⟨h1, h2⟩ := List.nodup_cons.mp h
    have e : dn W s (n :: ns) = ((List.range (W n)).reverse.map fun p => ((s, n, p) : Ask)) ++ dn W s ns := rfl
    rw [e, List.filter_append, key_blk, key_dn W s s' n' ns h2]
    by_cases hs : s = s'
    · by_cases hn : n = n'
      · subst hn
        rw [if_pos ⟨hs, rfl⟩, if_neg fun q => h1 q.2, if_pos ⟨hs, List.mem_cons_self⟩, List.append_nil]
      · rw [if_neg fun q => hn q.2, List.nil_append]
        by_cases hm : n' ∈ ns
        · rw [if_pos ⟨hs, hm⟩, if_pos ⟨hs, List.mem_cons_of_mem _ hm⟩]
        · rw [if_neg fun q => hm q.2, if_neg fun q => (List.mem_cons.mp q.2).elim (fun z => hn z.symm) hm]
    · rw [if_neg fun q => hs q.1, if_neg fun q => hs q.1, if_neg fun q => hs q.1]
      rfl
theorem place_blk (s : S4) (n : Str) (w : Nat) : ((List.range w).reverse.map fun p => ((s, n, p) : Ask)).map (fun e => e.2.2) = (List.range w).reverse := by
  rw [List.map_map]
  exact List.map_id _
section
variable {bw dw : Str → Nat} {g1 g2 : Tm} {ask : List Ask} {n : Str}
theorem AskedOk.box (h : AskedOk bw dw g1 g2 ask) (hn : n ∈ nms .box g1 ∨ n ∈ nms .box g2) : (ask.filter (key .box n)).map (fun e => e.2.2) = (List.range (bw n)).reverse := by
  obtain ⟨A1, A2, A3, A4, A5, A6, h, rfl⟩ := h
  unfold six
  rw [List.filter_append, List.filter_append, List.filter_append, List.filter_append, List.filter_append, key_dn _ _ _ _ _ (srt_nodup h.s1), key_dn _ _ _ _ _ (srt_nodup h.s2), key_dn _ _ _ _ _ (srt_nodup h.s3), key_dn _ _ _ _ _ (srt_nodup h.s4), key_dn _ _ _ _ _ (srt_nodup h.s5), key_dn _ _ _ _ _ (srt_nodup h.s6)]
  rw [if_neg (c := S4.door = S4.box ∧ n ∈ A2) (fun q => nomatch q.1), if_neg (c := S4.door = S4.box ∧ n ∈ A4) (fun q => nomatch q.1), if_neg (c := S4.one = S4.box ∧ n ∈ A5) (fun q => nomatch q.1), if_neg (c := S4.other = S4.box ∧ n ∈ A6) (fun q => nomatch q.1)]
  by_cases b : n ∈ nms .box g1 ∧ n ∈ nms .box g2
  · rw [if_pos ⟨rfl, (h.m1 n).mpr b⟩, if_neg fun q => ((h.m3 n).mp q.2).2 b]
    simp only [List.append_nil]
    exact place_blk _ _ _
  · rw [if_neg fun q => b ((h.m1 n).mp q.2), if_pos ⟨rfl, (h.m3 n).mpr ⟨hn, b⟩⟩]
    simp only [List.append_nil, List.nil_append]
    exact place_blk _ _ _
theorem AskedOk.door (h : AskedOk bw dw g1 g2 ask) (hn : n ∈ nms .door g1 ∨ n ∈ nms .door g2) : (ask.filter (key .door n)).map (fun e => e.2.2) = (List.range (dw n)).reverse := by
  obtain ⟨A1, A2, A3, A4, A5, A6, h, rfl⟩ := h
  unfold six
  rw [List.filter_append, List.filter_append, List.filter_append, List.filter_append, List.filter_append, key_dn _ _ _ _ _ (srt_nodup h.s1), key_dn _ _ _ _ _ (srt_nodup h.s2), key_dn _ _ _ _ _ (srt_nodup h.s3), key_dn _ _ _ _ _ (srt_nodup h.s4), key_dn _ _ _ _ _ (srt_nodup h.s5), key_dn _ _ _ _ _ (srt_nodup h.s6)]
  rw [if_neg (c := S4.box = S4.door ∧ n ∈ A1) (fun q => nomatch q.1), if_neg (c := S4.box = S4.door ∧ n ∈ A3) (fun q => nomatch q.1), if_neg (c := S4.one = S4.door ∧ n ∈ A5) (fun q => nomatch q.1), if_neg (c := S4.other = S4.door ∧ n ∈ A6) (fun q => nomatch q.1)]
  by_cases b : n ∈ nms .door g1 ∧ n ∈ nms .door g2
  · rw [if_pos ⟨rfl, (h.m2 n).mpr b⟩, if_neg fun q => ((h.m4 n).mp q.2).2 b]
    simp only [List.append_nil, List.nil_append]
    exact place_blk _ _ _
  · rw [if_neg fun q => b ((h.m2 n).mp q.2), if_pos ⟨rfl, (h.m4 n).mpr ⟨hn, b⟩⟩]
    simp only [List.append_nil, List.nil_append]
    exact place_blk _ _ _
theorem AskedOk.one (h : AskedOk bw dw g1 g2 ask) (hn : n ∈ nms .late g1) : (ask.filter (key .one n)).map (fun e => e.2.2) = (List.range (bw n)).reverse := by
  obtain ⟨A1, A2, A3, A4, A5, A6, h, rfl⟩ := h
  unfold six
  rw [List.filter_append, List.filter_append, List.filter_append, List.filter_append, List.filter_append, key_dn _ _ _ _ _ (srt_nodup h.s1), key_dn _ _ _ _ _ (srt_nodup h.s2), key_dn _ _ _ _ _ (srt_nodup h.s3), key_dn _ _ _ _ _ (srt_nodup h.s4), key_dn _ _ _ _ _ (srt_nodup h.s5), key_dn _ _ _ _ _ (srt_nodup h.s6)]
  rw [if_neg (c := S4.box = S4.one ∧ n ∈ A1) (fun q => nomatch q.1), if_neg (c := S4.door = S4.one ∧ n ∈ A2) (fun q => nomatch q.1), if_neg (c := S4.box = S4.one ∧ n ∈ A3) (fun q => nomatch q.1), if_neg (c := S4.door = S4.one ∧ n ∈ A4) (fun q => nomatch q.1), if_neg (c := S4.other = S4.one ∧ n ∈ A6) (fun q => nomatch q.1)]
  rw [if_pos ⟨rfl, (h.m5 n).mpr hn⟩]
  simp only [List.append_nil, List.nil_append]
  exact place_blk _ _ _
theorem AskedOk.other (h : AskedOk bw dw g1 g2 ask) (hn : n ∈ nms .late g2) : (ask.filter (key .other n)).map (fun e => e.2.2) = (List.range (bw n)).reverse := by
  obtain ⟨A1, A2, A3, A4, A5, A6, h, rfl⟩ := h
  unfold six
  rw [List.filter_append, List.filter_append, List.filter_append, List.filter_append, List.filter_append, key_dn _ _ _ _ _ (srt_nodup h.s1), key_dn _ _ _ _ _ (srt_nodup h.s2), key_dn _ _ _ _ _ (srt_nodup h.s3), key_dn _ _ _ _ _ (srt_nodup h.s4), key_dn _ _ _ _ _ (srt_nodup h.s5), key_dn _ _ _ _ _ (srt_nodup h.s6)]
  rw [if_neg (c := S4.box = S4.other ∧ n ∈ A1) (fun q => nomatch q.1), if_neg (c := S4.door = S4.other ∧ n ∈ A2) (fun q => nomatch q.1), if_neg (c := S4.box = S4.other ∧ n ∈ A3) (fun q => nomatch q.1), if_neg (c := S4.door = S4.other ∧ n ∈ A4) (fun q => nomatch q.1), if_neg (c := S4.one = S4.other ∧ n ∈ A5) (fun q => nomatch q.1)]
  rw [if_pos ⟨rfl, (h.m6 n).mpr hn⟩]
  simp only [List.append_nil, List.nil_append]
  exact place_blk _ _ _
end
/-! ### the two guards' readings -/
/-- which part of the row a guard's sort looks at (l: its late names) -/
def s4 (l : S4) : Sr → S4
  | .box => .box
  | .late => l
  | .door => .door
def Ws.get (W : Ws) : Sr → Str → Nat := fun s n => (W.of s n).getD 0
/-- a guard and the row of bits asked: all that it reads stands there, each from its highest place down -/
def Reads1 (W : Ws) (l : S4) (g : Tm) (ask : List Ask) : Prop := ∀ s n w, n ∈ nms s g → W.of s n = some w → (ask.filter (key (s4 l s) n)).map (fun e => e.2.2) = (List.range w).reverse
theorem AskedOk.reads1 {W : Ws} {g1 g2 : Tm} {ask : List Ask} (h : AskedOk (fun n => (W.bw n).getD 0) (fun n => (W.dw n).getD 0) g1 g2 ask) : Reads1 W .one g1 ask := fun s n w hn hw => by
  cases s with
  | box =>
    have e := h.box (Or.inl hn)
    rw [show W.bw n = some w from hw] at e
    exact e
  | late =>
    have e := h.one hn
    rw [show W.bw n = some w from hw] at e
    exact e
  | door =>
    have e := h.door (Or.inl hn)
    rw [show W.dw n = some w from hw] at e
    exact e
theorem AskedOk.reads2 {W : Ws} {g1 g2 : Tm} {ask : List Ask} (h : AskedOk (fun n => (W.bw n).getD 0) (fun n => (W.dw n).getD 0) g1 g2 ask) : Reads1 W .other g2 ask := fun s n w hn hw => by
  cases s with
  | box =>
    have e := h.box (Or.inr hn)
    rw [show W.bw n = some w from hw] at e
    exact e
  | late =>
    have e := h.other hn
    rw [show W.bw n = some w from hw] at e
    exact e
  | door =>
    have e := h.door (Or.inr hn)
    rw [show W.dw n = some w from hw] at e
    exact e
/-- the half-known worth of a guard behind a beginning of the row -/
def dimA (l : S4) (g : Tm) (ask : List Ask) (ms : List Nat) : List Nat := dimT (fun s n => hk ask ms (s4 l s) n) g
theorem dimA_len {W : Ws} {l : S4} {g : Tm} {ask : List Ask} {ms : List Nat} {k : Nat} (hg : Wd W g k) (hr : Reads1 W l g ask) : (dimA l g ask ms).length = k :=
  dim_len hg fun s n w hn hw => hk_len (hr s n w hn hw)
theorem dimA_m2 {l : S4} {g : Tm} {ask : List Ask} {ms : List Nat} (h : M1 ms) : M2 (dimA l g ask ms) := dim_m2 fun s n _ => hk_m2 h _ _
theorem dimA_m1 {l : S4} {g : Tm} {ask : List Ask} {ms : List Nat} (h : M1 ms) (hl : ms.length = ask.length) : M1 (dimA l g ask ms) := dim_m1 fun s n _ => hk_m1 h hl _ _
/-- THE CUBE: where a beginning's half-known worth is 0, the guard is 0 for each row that goes on from it -/
theorem cube_sound {W : Ws} {l : S4} {g : Tm} {ask : List Ask} {ms bs : List Nat} (hg : Wd W g 1) (hr : Reads1 W l g ask) (hb : M1 bs) (hl : bs.length = ask.length) (hp : ms = bs.take ms.length) (h0 : dimA l g ask ms = [0]) :
    val W (fun s n => wk ask bs (s4 l s) n) g = (1, 0) := by
  have q := dim_ref (W := W) (e := fun s n => hk ask ms (s4 l s) n) (v := fun s n => wk ask bs (s4 l s) n) hg (fun s n w hn hw => hk_len (hr s n w hn hw)) fun s n hn => by
    obtain ⟨w, hw⟩ := wd_named hg hn
    exact (ref_hk (hr s n w hn hw) hb hl hp).2
  have h0 : dimT (fun s n => hk ask ms (s4 l s) n) g = [0] := h0
  rw [h0] at q
  have q1 : (0 = 2 ∨ 0 = (val W (fun s n => wk ask bs (s4 l s) n) g).2 % 2) ∧ (val W (fun s n => wk ask bs (s4 l s) n) g).2 / 2 = 0 := q
  have e1 := val_w (e := fun s n => wk ask bs (s4 l s) n) hg
  have e2 : (val W (fun s n => wk ask bs (s4 l s) n) g).2 = 0 := by omega
  exact Prod.ext e1 e2
end K24

set_option Elab.async false
set_option linter.all false
set_option maxRecDepth 100000
set_option maxHeartbeats 4000000
/-! sorted(set(xs)), xs a list of texts: one rule. -/
namespace K24
open PySem PySem.Spec PyProof.Rows L2
/-- the text of a set's entry -/
def txt (e : Int × Value) : Str := strOf e.2
def IsTx (w : World) (e : Int × Value) : Prop := ∃ x tk, e.2 = Value.str x tk ∧ e.1 = hashStr w x
/-- a set object of texts, its members in L, that can be walked -/
structure TxSet (w : World) (h : Heap) (a : Addr) (L : List Str) : Prop where
  ex : ∃ o es ep t, h.get? a = some o ∧ o.ExactSet ∧ o.data = .set es ep t ∧ (∀ e ∈ es.toList, IsTx w e) ∧ (es.toList.map txt).Nodup ∧ (∀ x, x ∈ L ↔ x ∈ es.toList.map txt) ∧
    es.size ≤ L.length ∧ es.size < scanBound ∧ t.fits es.size = true ∧ Ris t.place.toList ∧ (w.params.followText "set-order" = true ∨ t.led = true)
section
variable {P : Program} {w : World} {h h' : Heap} {a : Addr} {L : List Str}
theorem TxSet.at (R : TxSet w h a L) (k : ∀ o, h.get? a = some o → h'.get? a = some o) : TxSet w h' a L := by
  obtain ⟨o, es, ep, t, ho, r⟩ := R.ex
  exact ⟨⟨o, es, ep, t, k o ho, r⟩⟩
theorem tx_scan {e : Int × Value} (g : IsTx w e) : e.2.scannable = true := by
  obtain ⟨x, tk, h1, _⟩ := g
  rw [h1]
  rfl
theorem tx_elems {l : List (Int × Value)} (g : ∀ e ∈ l, IsTx w e) : ElemsOf (PySem.strKind P w) l := fun e he => by
  obtain ⟨x, tk, h1, h2⟩ := g e he
  exact ⟨⟨x, by rw [h1]; exact strKind_is P w x tk, h2⟩, tx_scan (g e he)⟩
theorem tx_is {e : Int × Value} (g : IsTx w e) (x : Str) : (PySem.strKind P w).is x e.2 = true ↔ txt e = x := by
  obtain ⟨y, tk, h1, _⟩ := g
  unfold txt
  rw [h1]
  constructor
  · intro q
    exact (PySem.strKind P w).inj (.str y tk) y x (strKind_is P w y tk) q
  · intro q
    have q : y = x := q
    rw [q]
    exact strKind_is P w x tk
theorem tx_mem {l : List (Int × Value)} (g : ∀ e ∈ l, IsTx w e) (x : Str) : x ∈ l.map txt ↔ ∃ e ∈ l, (PySem.strKind P w).is x e.2 = true := by
  rw [List.mem_map]
  exact ⟨fun ⟨e, he, q⟩ => ⟨e, he, (tx_is (g e he) x).2 q⟩, fun ⟨e, he, q⟩ => ⟨e, he, (tx_is (g e he) x).1 q⟩⟩
end
section
variable {P : Program} {w : World} {A : Around} {E : Value → Shared → Prop} {s : Shared} {a : Addr} {L : List Str}
/-- the end of an add: the new table is stored, laid anew where it is too full -/
theorem tx_store {g : Bool → Sem Unit} (hg : ∀ (b : Bool) (s1 : Shared) (Q : Unit → Shared → Prop), Q () s1 → wpAny (model P w) A (g b) Q E s1) {o : Obj} {es es1 : Array (Int × Value)} {ep : Nat} {t t2 : SetTable} {L' : List Str}
    (ho : s.heap.get? a = some o) (hex : o.ExactSet) (hd : o.data = .set es ep t) (g1 : ∀ e ∈ es1.toList, IsTx w e) (nd : (es1.toList.map txt).Nodup) (mm : ∀ x, x ∈ L' ↔ x ∈ es1.toList.map txt) (hn : es1.size ≤ L'.length)
    (hb : es1.size < scanBound) (hf : t2.fits es1.size = true) (hr : Ris t2.place.toList) (hl : w.params.followText "set-order" = true ∨ t2.led = true) {was : Bool} {R : Option Bool → Shared → Prop}
    (hR : ∀ h', Heap.SameBut a s.heap h' → TxSet w h' a L' → R (some true) { s with heap := h' }) :
    wpAny (model P w) A (do
      storeSet a es1 t2
      if (!was && t2.tooFull) = true then do
        g (relayAll t2 es1 (SetTable.grown es1.size)).2.2
        storeSet a (relayAll t2 es1 (SetTable.grown es1.size)).1 (relayAll t2 es1 (SetTable.grown es1.size)).2.1
        pure (some true)
      else pure (some true)) R E s := by
  have stored1 := store_at (es' := es1) (t' := t2) ho hd
  have but1 := Heap.SameBut.update s.heap a (Obj.putSet es1 t2)
  refine wpAny_bind (wpAny_storeSet_of ho hd ?_ (fits_of_scanBound hb))
  by_cases full : (!was && t2.tooFull) = true
  · rw [if_pos full]
    have pm := relayAll_perm t2 es1 (SetTable.grown es1.size)
    have fit3 := relayAll_fits t2 es1 (SetTable.grown es1.size)
    have ris3 := relayAll_ris t2 es1 (SetTable.grown es1.size)
    have led3 := relayAll_led t2 es1 (SetTable.grown es1.size)
    generalize relayAll t2 es1 (SetTable.grown es1.size) = Z at pm fit3 ris3 led3 ⊢
    obtain ⟨es2, t3, way⟩ := Z
    dsimp only at pm fit3 ris3 led3 ⊢
    have sz2 : es2.size = es1.size := by
      have q := pm.length_eq
      rw [Array.length_toList, Array.length_toList] at q
      exact q
    refine wpAny_bind (hg _ _ _ (wpAny_bind (wpAny_storeSet_of stored1 rfl ?_ (fits_of_scanBound (by rw [sz2]; exact hb)))))
    have stored2 := store_at (es' := es2) (t' := t3) stored1 rfl
    have pk := pm.map txt
    exact wpAny_pure (hR _ (but1.trans (Heap.SameBut.update _ a _)) ⟨⟨_, es2, _, t3, stored2, hex, rfl, fun e he => g1 e (pm.mem_iff.mp he), pk.nodup_iff.mpr nd, fun x => (mm x).trans pk.mem_iff.symm, by rw [sz2]; exact hn, by rw [sz2]; exact hb, fit3, ris3,
      hl.imp id fun z => led3.trans z⟩⟩)
  · rw [if_neg full]
    exact wpAny_pure (hR _ but1 ⟨⟨_, es1, _, t2, stored1, hex, rfl, g1, nd, mm, hn, hb, hf, hr, hl⟩⟩)
/-- a text is added -/
theorem tx_add {x : Str} {tk : Tok} {Q : Bool → Shared → Prop} (R : TxSet w s.heap a L) (room : L.length + 1 < scanBound)
    (hQ : ∀ b h', Heap.SameBut a s.heap h' → TxSet w h' a (L ++ [x]) → Q b { s with heap := h' }) : wpAny (model P w) A (setAddHashed a (.str x tk) ((PySem.strKind P w).hash x)) Q E s := by
  obtain ⟨o, es, ep, t, ho, hex, hd, g, nd, hm, hn, hb, hf, hr, hl⟩ := R.ex
  have isx : (PySem.strKind P w).is x (.str x tk) = true := strKind_is P w x tk
  have scx : (Value.str x tk).scannable = true := rfl
  have els : ElemsOf (PySem.strKind P w) es.toList := tx_elems g
  unfold setAddHashed setAddHashedIn
  refine wpAny_holding (wpAny_bind (wpAny_setState_of ho hd hf ?_))
  dsimp only
  rw [byScan_of scx hb els]
  simp only [↓reduceIte]
  unfold setAddByScan
  refine wpAny_bind (wpAny_bind (wpAny_rule (wpAny_bind (wpAny_setScan_of isx ho hd hf els ?_))))
  cases place : List.findIdx? (fun e => (PySem.strKind P w).is x e.2) es.toList with
  | some j =>
    dsimp only
    obtain ⟨hj, pj, _⟩ := List.findIdx?_eq_some_iff_getElem.mp place
    have there : x ∈ es.toList.map txt := (tx_mem (P := P) (w := w) g x).2 ⟨es.toList[j], List.getElem_mem hj, pj⟩
    refine wpAny_pure (wpAny_pure (hQ _ s.heap (Heap.SameBut.refl a s.heap) ⟨⟨o, es, ep, t, ho, hex, hd, g, nd, fun y => ?_, by rw [List.length_append]; omega, hb, hf, hr, hl⟩⟩))
    rw [List.mem_append, List.mem_singleton, hm y]
    exact ⟨fun z => z.elim id fun e => e ▸ there, Or.inl⟩
  | none =>
    dsimp only
    have lacks : x ∉ es.toList.map txt := fun z => by
      obtain ⟨e, he, q⟩ := (tx_mem (P := P) (w := w) g x).1 z
      have c := List.findIdx?_eq_none_iff.mp place e he
      rw [q] at c
      cases c
    have gw : ∀ (b : Bool) {s1 : Shared} {Q1 : Unit → Shared → Prop}, Q1 () s1 → wpAny (model P w) A (match b with | true => rule "set.scan.the-table-gave-way" | false => pure ()) Q1 E s1 :=
      fun b s1 Q1 q => by cases b <;> first | exact wpAny_pure q | exact wpAny_rule q
    have pm := layNew_perm t es ((PySem.strKind P w).hash x) (.str x tk)
    have fit1 := layNew_fits t es ((PySem.strKind P w).hash x) (.str x tk)
    have ris1 := layNew_ris t es ((PySem.strKind P w).hash x) (.str x tk) hr
    have led1 := layNew_led t es ((PySem.strKind P w).hash x) (.str x tk)
    generalize layNew t es ((PySem.strKind P w).hash x) (.str x tk) = Z at pm fit1 ris1 led1 ⊢
    obtain ⟨es1, t1, was, way⟩ := Z
    dsimp only at pm fit1 ris1 led1 ⊢
    rw [Array.toList_push] at pm
    have pc : es1.toList.Perm (((PySem.strKind P w).hash x, Value.str x tk) :: es.toList) := pm.trans (List.perm_append_singleton _ _)
    have pk : (es1.toList.map txt).Perm (x :: es.toList.map txt) := pc.map txt
    have g1 : ∀ e ∈ es1.toList, IsTx w e := fun e he => by
      rcases List.mem_cons.mp (pc.mem_iff.mp he) with z | z
      · rw [z]
        exact ⟨x, tk, rfl, rfl⟩
      · exact g e z
    have nd1 : (es1.toList.map txt).Nodup := pk.nodup_iff.mpr (List.nodup_cons.mpr ⟨lacks, nd⟩)
    have m1 : ∀ y, y ∈ L ++ [x] ↔ y ∈ es1.toList.map txt := fun y => by
      rw [List.mem_append, List.mem_singleton, hm y, pk.mem_iff, List.mem_cons]
      exact Or.comm
    have sz : es1.size = es.size + 1 := by
      have q := pc.length_eq
      rw [List.length_cons, Array.length_toList, Array.length_toList] at q
      exact q
    have n1 : es1.size ≤ (L ++ [x]).length := by
      rw [List.length_append, List.length_singleton, sz]
      omega
    have b1 : es1.size < scanBound := by rw [sz]; omega
    have ledw : w.params.followText "set-order" = true ∨ t1.led = true := hl.imp id fun z => led1.trans z
    have fin : ∀ h', Heap.SameBut a s.heap h' → TxSet w h' a (L ++ [x]) → Q true { s with heap := h' } := fun h' sb r => hQ true h' sb r
    refine wpAny_bind (gw _ ?_)
    split
    · refine wpAny_bind ?_
      rw [hashByValue_scannable 8 scx]
      refine wpAny_pure (tx_store ?_ ho hex hd g1 nd1 m1 n1 b1 ?_ ?_ ?_ ?_)
      · intro b s1 Q1 q
        cases b <;> first | exact wpAny_pure q | exact wpAny_rule q
      · first | (split <;> first | exact fit1 | exact SetTable.fits_plain_off fit1) | exact fit1
      · first | (split <;> exact ris1) | exact ris1
      · first | (split <;> exact ledw) | exact ledw
      · intro h' sb r
        dsimp only
        exact wpAny_pure (fin h' sb r)
    · refine wpAny_bind (wpAny_pure ?_)
      simp only [↓reduceIte]
      refine tx_store ?_ ho hex hd g1 nd1 m1 n1 b1 fit1 ris1 ledw ?_
      · intro b s1 Q1 q
        cases b <;> first | exact wpAny_pure q | exact wpAny_rule q
      · intro h' sb r
        dsimp only
        exact wpAny_pure (fin h' sb r)
/-- the loop that takes a list's texts into the set -/
theorem tx_loop {I : Addr} {fp wr : List Addr} {G : Array GenState → Array GenState → Prop} {n : Nat} {Pv : Nat → Value → Prop} {St : Nat → Shared → Prop} {R : Result → Shared → Prop} (W : WalksS P w A.in1 I fp wr G n Pv St)
    (a : Addr) (out : a ∉ fp) (L : List Str) (hn : n = L.length) (hb : L.length + 1 < scanBound) (hval : ∀ i v, Pv i v → ∃ x t, L[i]? = some x ∧ v = .str x t) :
    ∀ (k i : Nat) (s : Shared), n - i = k → i ≤ n → St i s → TxSet w s.heap a (L.take i) →
      (∀ s', Moved (a :: wr) G s s' → TxSet w s'.heap a L → R (.ok (.ret .none)) s') → codeAny (model P w) A (.builtin "set.update.loop" ⟨[.ref a, .ref I], []⟩) R s := by
  have nwr : a ∉ wr := fun z => out (W.sub _ z)
  have more : ∀ b ∈ wr, b ∈ a :: wr := fun b hb => List.mem_cons_of_mem _ hb
  intro k
  induction k with
  | zero =>
    intro i s e0 hi st have0 fin
    have ei : i = L.length := by omega
    refine codeAny_builtin F.entry_set_update_loop ?_
    rw [Around.under_plainId F.plain_set_update_loop _]
    refine wpAny_bind (W.done s _ _ (by rw [show n = i by omega]; exact st) fun s' mv => ?_)
    rw [ei, List.take_length] at have0
    exact wpAny_pure (fin s' (mv.mono more) (have0.at fun o q => mv.heap a o nwr q))
  | succ k ih =>
    intro i s e0 hi st have0 fin
    have lt : i < n := by omega
    refine codeAny_builtin F.entry_set_update_loop ?_
    rw [Around.under_plainId F.plain_set_update_loop _]
    refine wpAny_bind (W.item i s _ _ lt st fun v s' pv st' mv => ?_)
    obtain ⟨x, t, hx, rfl⟩ := hval i v pv
    have have1 : TxSet w s'.heap a (L.take i) := have0.at fun o q => mv.heap a o nwr q
    show wpAny _ A.in1 (holding [Value.str x t] (setAdd a (.str x t)) >>= _) _ _ s'
    refine wpAny_bind (wpAny_holding ?_)
    unfold setAdd
    refine wpAny_holding (wpAny_bind ((PySem.strKind P w).pyHash (k := x) (strKind_is P w x t) ?_))
    refine tx_add (s := { s' with toks := s'.toks + 1 }) have1 (by rw [List.length_take]; omega) fun b h' but have2 => ?_
    have e2 : L.take i ++ [x] = L.take (i + 1) := by rw [List.take_add_one, hx] <;> rfl
    rw [e2] at have2
    refine wpAny_pure ⟨plainId_quiet F.plain_set_update_loop _, ih (i + 1) _ (by omega) lt (W.frame _ s' _ _ st' (Nat.le_succ _) fun c hc o q => ?_) have2 fun s3 mv3 have3 => fin s3 (Moved.trans W.gtrans ((mv.mono more).then_heap (Nat.le_succ _) fun c o hc q => ?_) mv3) have3⟩
    · rw [but.2 c fun z : c = a => out (z ▸ hc)]
      exact q
    · rw [but.2 c fun z : c = a => hc (z ▸ List.mem_cons_self)]
      exact q
/-- a set object that was just laid -/
abbrev newSet (w : World) : Obj := { cls := .type "set", dict := none, data := .set #[] 0 (.fresh 0 0 (!w.params.followText "set-order")) }
theorem tx_new {h : Heap} (ho : h.get? a = some (newSet w)) : TxSet w h a [] :=
  ⟨⟨_, #[], 0, _, ho, ⟨rfl, rfl, rfl⟩, rfl, (fun e he => by simp at he), (by simp), (fun x => by simp), Nat.le_refl _, (by decide), (by rfl), List.Pairwise.nil, by
    show _ ∨ (!w.params.followText "set-order") = true
    cases w.params.followText "set-order"
    · exact Or.inr rfl
    · exact Or.inl rfl⟩⟩
set_option maxHeartbeats 8000000 in
/-- set(xs) -/
theorem set_of_list {l : Addr} {vs : List Value} {L : List Str} {Q : Value → Shared → Prop} (hh : A.handled = none) (hl : s.heap.IsList l vs.toArray) (hv : StrsAre vs L) (hb : L.length + 1 < scanBound)
    (hQ : ∀ (h' : Heap) (tk : Nat), TxSet w h' s.heap.objs.size L → (∀ b o, s.heap.get? b = some o → h'.get? b = some o) → Q (.ref s.heap.objs.size) { s with heap := h', toks := tk }) :
    wpAny (model P w) A (call (.type "set") [.ref l]) Q E s := by
  have len : vs.length = L.length := StrsAre.len_eq hv
  obtain ⟨_, _, hmro⟩ := F.called_set.mro
  have hmade := F.called_set.made
  have hsub := F.called_set.sub
  refine wpAny_call (codeAny_of_tree ?_)
  show wpAny _ _ (callAny (.type "set") _) _ _ _
  refine wpAny_pure ⟨Code.quiet_builtin _ (by decide +kernel), codeAny_builtin F.entry_type_call ?_⟩
  rw [Around.under_plain (weight_type_call_type "set" [.ref l] []) rfl]
  have q1 := F.called_set.notType
  have q2 := F.called_set.canCreate
  have q3 := F.typeCall_set_1 (.ref l)
  repeat (any_goals (first | assumption | wp_step))
  refine codeAny_mono (code_set_led1 (.ref l) (E := E) (Q₁ := fun obj s1 => obj = .ref s.heap.objs.size ∧ s1 = { s with heap := s.heap.push (newSet w) }) ⟨rfl, rfl⟩) fun r s1 hr => ?_
  cases r with
  | error e => exact hr
  | ok fl =>
    cases fl with
    | ret obj =>
      obtain ⟨rfl, rfl⟩ := hr
      have at0 : (s.heap.push (newSet w)).get? s.heap.objs.size = some (newSet w) := Heap.get?_push_size _ rfl
      have ty0 : Shared.TypeIs { s with heap := s.heap.push (newSet w) } (.ref s.heap.objs.size) "set" := ⟨_, at0, rfl⟩
      have q4 := F.called_set.init.lookup
      have q5 := F.called_set.init.bind (.ref s.heap.objs.size)
      repeat (any_goals (first | assumption | wp_step))
      refine codeAny_mono (codeAny_call_builtin (R := wants (fun r s2 => r = .none ∧ ∃ h' tk, s2 = { s with heap := h', toks := tk } ∧ TxSet w h' s.heap.objs.size L ∧ (∀ b o, s.heap.get? b = some o → h'.get? b = some o)) E)
        F.called_set.init.plain F.entry_set_init (check_set_init_1 ty0 ?_)) fun r2 s2 hr2 => ?_
      · obtain ⟨⟨oc, od, dt, sl⟩, hol, hcl, nl, hdl⟩ := hl
        simp only at hcl hdl
        subst hcl hdl
        have at1 : (s.heap.push (newSet w)).get? l = some { cls := .type "list", dict := od, data := .seq vs.toArray nl, slots := sl } := Heap.get?_push_of_some _ hol
        have q6 := F.sub_list_set
        have q7 := F.sub_list_frozenset
        have q8 : (Value.type "list" == Value.type "dict") = false := by decide
        have isl : (s.heap.push (newSet w)).IsList l vs.toArray := ⟨_, at1, rfl, nl, rfl⟩
        unfold Builtin.«set.__init__» noKeywords Builtin.Frozenset.updateFrom
        generalize hPI : pyIter = PI
        wp_walk
        subst hPI
        refine wpAny_pyIter_list isl (wpAny_bind (wpAny_runValue ?_))
        have lt0 : l < s.heap.objs.size := Heap.lt_size hol
        have nohd : A.in1.in1.in1.handled = none := by simp [hh]
        have sz0 : (s.heap.push (newSet w)).objs.size = s.heap.objs.size + 1 := Heap.size_push ..
        have ne0 : l ≠ (s.heap.push (newSet w)).objs.size := by
          rw [sz0]
          exact Nat.ne_of_lt (Nat.lt_succ_of_lt lt0)
        have nin : s.heap.objs.size ∉ [(s.heap.push (newSet w)).objs.size, l] := by
          rw [sz0]
          simp only [List.mem_cons, List.mem_singleton, List.not_mem_nil, or_false, not_or]
          exact ⟨Nat.ne_of_lt (Nat.lt_succ_self _), Nat.ne_of_gt lt0⟩
        have vals : ∀ (i : Nat) (v : Value), vs.toArray[i]? = some v → ∃ x t, L[i]? = some x ∧ v = .str x t := fun i v hiv => by
          have hiv : vs[i]? = some v := by rw [List.getElem?_toArray] at hiv; exact hiv
          have hi : i < L.length := by
            rw [← len]
            exact (List.getElem?_eq_some_iff.mp hiv).1
          obtain ⟨t, e⟩ := SS.strs_at hv i v hiv
          refine ⟨L[i], t, List.getElem?_eq_getElem hi, ?_⟩
          rw [e, List.getD_eq_getElem?_getD, List.getElem?_eq_getElem hi] <;> rfl
        refine tx_loop ((Walks.list nohd _ l ne0 vs.toArray).toS) s.heap.objs.size nin L (by rw [List.size_toArray]; exact len) hb vals (vs.toArray.size - 0) 0 _ (by omega) (Nat.zero_le _) ⟨⟨_, Heap.get?_push_size _ rfl, rfl, rfl⟩, isl.push _⟩ ?h0 ?hR
        case h0 => exact tx_new (Heap.get?_push_of_some _ at0)
        case hR =>
          intro s' mv have1
          obtain ⟨h', g2, d', tk', os'⟩ := s'
          obtain rfl : g2 = s.gens := mv.gens
          obtain rfl : d' = s.drawn := mv.drawn
          obtain rfl : os' = s.os := mv.os
          show wpAny _ _ _ _ _ _
          refine wpAny_pure ?_
          show wpAny _ _ (ret Value.none) _ _ _
          refine wpAny_pure ⟨rfl, h', tk', rfl, have1, fun b o e => ?_⟩
          have b0 : b < s.heap.objs.size := Heap.lt_size e
          have b1 : b ≠ s.heap.objs.size := Nat.ne_of_lt b0
          have b2 : b ≠ (s.heap.push (newSet w)).objs.size := by
            rw [sz0]
            exact Nat.ne_of_lt (Nat.lt_succ_of_lt b0)
          exact mv.heap b o (by simp only [List.mem_cons, List.mem_singleton, List.not_mem_nil, or_false, not_or]; exact ⟨b1, b2⟩) (Heap.get?_push_of_some _ (Heap.get?_push_of_some _ e))
      · cases r2 with
        | error e => exact hr2
        | ok fl2 =>
          cases fl2 with
          | ret r =>
            obtain ⟨rfl, h', tk, rfl, h1, h2⟩ := hr2
            repeat (any_goals (first | assumption | wp_step))
            exact hQ _ _ h1 h2
          | _ => exact hr2.elim
    | _ => exact hr.elim
/-- sorted(a set of texts) -/
theorem sorted_tx {Q : Value → Shared → Prop} (R : TxSet w s.heap a L) (hh : A.handled = none) (h64 : L.length < 64)
    (hQ : ∀ s' p (out : Array Value) (c : Nat) (ys : List Str), (∀ b o, s.heap.get? b = some o → s'.heap.get? b = some o) → s'.gens = s.gens → s'.os = s.os → s.heap.objs.size ≤ p →
      s'.heap.get? p = some (seqObj "list" out c) → StrsAre out.toList ys → sortedS ys = true → ys.Nodup → (∀ x, x ∈ ys ↔ x ∈ L) → ys.length ≤ L.length → Q (.ref p) s') :
    wpAny (model P w) A (call (.builtin "sorted") [.ref a]) Q E s := by
  obtain ⟨o, es, ep, t, ho, hex, hd, g, nd, hm, hn, hb, hf, hr, hl⟩ := R.ex
  refine Calls.call_function_entry kind_sorted plain_sorted entry_sorted (args_sorted1 _) ?_
  unfold Builtin.«sorted»
  refine wpAny_bind (m := checkCount "sorted" 1 1 _) (wpAny_pure ?_)
  refine wpAny_bind (collect_set (A := A.in1) hh ⟨o, ho, hex.1, hd⟩ hf hb hr hl fun s1 vs keep hz g1 o1 pm => ?_)
  have hvl : vs.length ≤ L.length := by
    rw [pm.length_eq, List.length_map, Array.length_toList]
    exact hn
  have all : ∀ v ∈ vs, ∃ x tk, v = Value.str x tk := fun v hv => by
    obtain ⟨e, he, q⟩ := List.mem_map.mp (pm.mem_iff.mp hv)
    obtain ⟨x, tk, h1, _⟩ := g e he
    exact ⟨x, tk, by rw [← q]; exact h1⟩
  have isS : StrsAre vs (vs.map strOf) := strsAre_map vs all
  have pk : (vs.map strOf).Perm (es.toList.map txt) := by
    have q := pm.map strOf
    rw [List.map_map] at q
    exact q
  refine wpAny_bind (wpAny_newList ?_ (by rw [sizeLine_eq]; omega))
  have atL : (s1.heap.push (seqObj "list" vs.toArray 0)).get? s1.heap.objs.size = some (seqObj "list" vs.toArray 0) := Heap.get?_push_size _ rfl
  refine wpAny_bind (wpAny_holding (wpAny_call_entry slot_list_sort ⟨_, atL, rfl⟩ entry_list_sort (list_sort_treeK PyProof.Rows.strKind_oneLt atL isS.keysOf (fun v1 v2 rest e => keyKind_strs (by rw [← e]; exact isS)) (by omega) fun st' p1 p2 => ?_) (args_list_sort _)))
  obtain ⟨ys, r1, r2, r3⟩ := sorted_out_str isS p1 p2
  refine ⟨_, rfl, ?_⟩
  obtain ⟨c, hc⟩ := sortedHeap_at (vs := vs) (out := (arrOf st').map (·.2)) atL
  have py : ys.Perm (es.toList.map txt) := r2.trans pk
  refine wpAny_pure ⟨_, rfl, hQ _ s1.heap.objs.size _ c ys (fun b u e => ?_) g1 o1 hz hc r1 r3 (py.nodup_iff.mpr nd) (fun x => by rw [py.mem_iff, ← hm x]) (by rw [py.length_eq, List.length_map, Array.length_toList]; exact hn)⟩
  have q := keep b u e
  have lt1 := Heap.lt_size q
  show (sortedHeap (s1.heap.push (seqObj "list" vs.toArray 0)) s1.heap.objs.size vs _).get? b = some u
  rw [sortedHeap_old (Nat.ne_of_lt lt1) (by rw [size_push']; exact Nat.lt_succ_of_lt lt1)]
  exact Heap.get?_push_of_some _ q
end
/-! ### texts in order -/
theorem ltCps_iff (a b : Str) : ltCps a.cps.toList b.cps.toList = true ↔ Lt a b := by
  rw [ltCps_eq, decide_eq_true_eq] <;> rfl
theorem lt_total {a b : Str} (h1 : ¬ Lt a b) (h2 : ¬ Lt b a) : a = b := by
  have e : a.cps.toList = b.cps.toList := List.le_antisymm (List.not_lt.mp h2) (List.not_lt.mp h1)
  have e2 : a.cps = b.cps := by
    have q := congrArg List.toArray e
    simpa using q
  cases a
  cases b
  exact congrArg Str.mk e2
theorem rising_lt : ∀ {p : Str} {l : List Str}, risingS p l = true → (p :: l).Nodup → Srt (p :: l)
  | p, [], _, _ => List.pairwise_cons.mpr ⟨fun x hx => (by cases hx), List.Pairwise.nil⟩
  | p, x :: r, h, hn => by
    have h : (!ltCps x.cps.toList p.cps.toList && risingS x r) = true := h
    obtain ⟨h1, h2⟩ := Bool.and_eq_true_iff.mp h
    obtain ⟨n1, n2⟩ := List.nodup_cons.mp hn
    have ih := rising_lt h2 n2
    have npx : ¬ Lt x p := fun q => by
      rw [(ltCps_iff x p).mpr q] at h1
      cases h1
    have lpx : Lt p x := Classical.byContradiction fun q => n1 (by rw [lt_total q npx]; exact List.mem_cons_self)
    refine List.pairwise_cons.mpr ⟨fun y hy => ?_, ih⟩
    rcases List.mem_cons.mp hy with e | e
    · rw [e]
      exact lpx
    · exact lt_tr lpx ((List.pairwise_cons.mp ih).1 y e)
theorem srt_of {l : List Str} (h : sortedS l = true) (hn : l.Nodup) : Srt l := by
  cases l with
  | nil => exact List.Pairwise.nil
  | cons p r => exact rising_lt h hn
/-! ### the rules -/
/-- the set of texts at a -/
def SetTx (w : World) (a : Addr) (L : List Str) : HO := .ext fun h => TxSet w h a L
def rSetOf (K : PySem.W.Frag) (w : World) : List V → Hp → VK → Prop := fun xs H Q => ∃ (a : Addr) (L : List Str), xs = [.ref a] ∧ SqL K H a (L.map V.str) ∧ L.length < 1000 ∧ ∀ p, H p = none → Q (.ref p) (upd H p (SetTx w p L))
def rSortTx (w : World) : List V → Hp → VK → Prop := fun xs H Q => ∃ (a : Addr) (L : List Str), xs = [.ref a] ∧ H a = some (SetTx w a L) ∧ L.length < 64 ∧
  ∀ (ys : List Str) (p : Addr), Srt ys → (∀ n, n ∈ ys ↔ n ∈ L) → ys.length ≤ L.length → H p = none → Q (.ref p) (upd H p (.lst (ys.map V.str)))
section
variable {X : Cx}
theorem tx_ok {P : Program} {w : World} {H : Hp} {h : Heap} {a : Addr} {L : List Str} (R : TxSet w h a L) : ObjOk P w H h a (SetTx w a L) := by
  have ⟨o, _, _, _, ho, _⟩ := R.ex
  exact ⟨R, ⟨o, ho⟩, fun h1 h2 p k => TxSet.at p k⟩
theorem cr_setOf (hc : X.calm = true) : CallR X (.type "set") (rSetOf X.K X.w) := by
  intro pins s σ H xs us Q I r h
  obtain ⟨a, L, rfl, hq, hz, q⟩ := h
  rw [Vals.ref1 r]
  obtain ⟨its, rv, pl, _⟩ := I.list hq
  refine set_of_list (I.ok.hd hc) pl.isList (strs_of_vals rv) (by unfold scanBound; omega) fun h' tk R1 keep => ?_
  exact ⟨.ref _, upd H s.heap.objs.size (SetTx X.w s.heap.objs.size L), I.laid keep (Nat.le_refl _) (tx_ok R1), rfl, q _ (I.hok.fresh (Nat.le_refl _))⟩
theorem cr_sortTx (hc : X.calm = true) : CallR X (.builtin "sorted") (rSortTx X.w) := by
  intro pins s σ H xs us Q I r h
  obtain ⟨a, L, rfl, ha, h64, q⟩ := h
  rw [Vals.ref1 r]
  have R1 : TxSet X.w s.heap a L := (I.hok a _ ha).1
  refine sorted_tx R1 (I.ok.hd hc) h64 fun s3 p out c ys keep g3 o3 hp at3 st3 so3 nd3 mem3 len3 => ?_
  have hlen : (ys.map V.str).length ≤ sizeLine := by
    rw [List.length_map, sizeLine_eq]
    omega
  have fr : H p = none := I.hok.fresh hp
  obtain ⟨h3, gs3, d3, t3, os3⟩ := s3
  have new : ObjOk X.prog X.w (upd H p (.lst (ys.map V.str))) h3 p (.lst (ys.map V.str)) := ⟨hlen, out.toList, c, vals_of_strs st3, at3⟩
  exact ⟨.ref p, _, I.call' (s' := ⟨h3, gs3, d3, t3, os3⟩) (H' := upd H p (.lst (ys.map V.str))) (ch := []) o3 (Un.laid keep hp fr) (I.hok.laid keep hp new) (by rw [show gs3 = _ from g3]; exact I.bare) (fun _ z => nomatch z), rfl,
    q ys p (srt_of so3 nd3) mem3 len3 fr⟩
end
end K24

set_option Elab.async false
set_option linter.all false
set_option maxRecDepth 100000
set_option maxHeartbeats 4000000
/-! sorted(xs), xs a list of tuples (a text, ints), no text twice: one rule. -/
namespace K24
open PySem PySem.Spec PyProof.Rows L2
/-- a thing: where its tuple stands, its name, its numbers -/
abbrev Th := Addr × Str × List Int
def thD (t : Th) : PyData := .tuple (.str t.2.1 :: t.2.2.map .int)
def thV (t : Th) : List V := .str t.2.1 :: t.2.2.map V.int
theorem th_alike (a b : Th) : PySem.W.alike (thD a) (thD b) = true := by
  show PySem.W.alike (.tuple (.str a.2.1 :: a.2.2.map .int)) (.tuple (.str b.2.1 :: b.2.2.map .int)) = true
  rw [PySem.W.alike, PySem.W.alikeAll, PySem.W.alike_ints]
  rfl
theorem th_depth (a : Th) : (thD a).depth ≤ 1 := by
  show PyData.depth (.tuple (.str a.2.1 :: a.2.2.map .int)) ≤ 1
  rw [PyData.depth, PyData.depthAll, PySem.W.depth_ints]
  simp [PyData.depth]
theorem th_lt {a b : Th} (h : a.2.1 ≠ b.2.1) : PySem.W.dataLt (thD a) (thD b) = decide (a.2.1.cps.toList < b.2.1.cps.toList) := by
  show PySem.W.dataLt (.tuple (.str a.2.1 :: a.2.2.map .int)) (.tuple (.str b.2.1 :: b.2.2.map .int)) = _
  rw [PySem.W.dataLt_tuple, PySem.W.dataLt_cons (by rfl), if_neg, PySem.W.dataLt_str]
  intro q
  simp only [PyData.eqv, beq_iff_eq] at q
  exact h q
theorem lt_total' {a b : Str} (h1 : ¬ Lt a b) (h2 : ¬ Lt b a) : a = b := by
  have e : a.cps.toList = b.cps.toList := List.le_antisymm (List.not_lt.mp h2) (List.not_lt.mp h1)
  have e2 : a.cps = b.cps := by
    have q := congrArg List.toArray e
    simpa using q
  cases a
  cases b
  exact congrArg Str.mk e2
theorem th_srt {ts : List Th} (hn : (ts.map (·.2.1)).Nodup) : Srt ((ts.mergeSort (PySem.W.dataLe false thD)).map (·.2.1)) := by
  have pw := PySem.W.sort_pairwise (PySem.W.sortLe_total (PyProof.Rows.listOrd PyProof.Rows.itemOrd) false fun b : Th => PySem.W.keyToks (thD b)) ts
  have pm := List.mergeSort_perm ts (PySem.W.dataLe false thD)
  have nd : ((ts.mergeSort (PySem.W.dataLe false thD)).map (·.2.1)).Nodup := (pm.map (·.2.1)).nodup_iff.mpr hn
  unfold Srt
  rw [List.pairwise_map]
  have nd2 := List.pairwise_map.mp nd
  refine List.Pairwise.imp₂ (R := fun a b : Th => PySem.W.dataLe false thD a b = true) (S := fun a b : Th => a.2.1 ≠ b.2.1) ?_ pw nd2
  intro a b q ne
  have q : (!PySem.W.dataLt (thD b) (thD a)) = true := q
  rw [th_lt (Ne.symm ne)] at q
  have q2 : ¬ Lt b.2.1 a.2.1 := fun z => by
    rw [decide_eq_true (show b.2.1.cps.toList < a.2.1.cps.toList from z)] at q
    cases q
  exact Classical.byContradiction fun z => ne (lt_total' z q2)
def rSortTh (K : PySem.W.Frag) : List V → Hp → VK → Prop := fun xs H Q => ∃ (a : Addr) (ts : List Th), xs = [.ref a] ∧ SqL K H a (ts.map fun t => V.ref t.1) ∧ ts.length < 1000 ∧ (∀ t ∈ ts, H t.1 = some (.tup (thV t))) ∧ (ts.map (·.2.1)).Nodup ∧
  ∀ (us : List Th) (p : Addr), us.Perm ts → Srt (us.map (·.2.1)) → H p = none → Q (.ref p) (upd H p (.lst (us.map fun t => V.ref t.1)))
section
variable {X : Cx}
theorem vals_refs : ∀ {ts : List Th} {us : List Value}, Vals (ts.map fun t => V.ref t.1) us → PySem.W.EachIs (fun (v : Value) (t : Th) => v = .ref t.1) us ts
  | [], _, r => by
    cases r
    exact .nil
  | t :: ts, _, r => by
    cases r with
    | cons r1 r2 => exact .cons r1 (vals_refs r2)
theorem refs_vals : ∀ {ts : List Th} {us : List Value}, PySem.W.EachIs (fun (v : Value) (t : Th) => v = .ref t.1) us ts → Vals (ts.map fun t => V.ref t.1) us
  | [], _, r => by
    cases r
    exact .nil
  | t :: ts, _, r => by
    cases r with
    | cons r1 r2 => exact .cons r1 (refs_vals r2)
theorem dp_ints {K : PySem.W.Frag} {H : Hp} : ∀ ns : List Int, DpAll K H (ns.map V.int) (ns.map .int)
  | [] => .nil
  | n :: ns => .cons (.int n) (dp_ints ns)
theorem dp_th {K : PySem.W.Frag} {H : Hp} {t : Th} (h : H t.1 = some (.tup (thV t))) : Dp K H (.ref t.1) (thD t) := .tup (SqT.of h) (.cons (.str _) (dp_ints _))
theorem cr_sortTh (hu : X.A.units + 64 < cLine) : CallR X (.builtin "sorted") (rSortTh X.K) := by
  intro pins s σ H xs us Q I r h
  obtain ⟨a, ts, rfl, hq, hz, hts, hn, q⟩ := h
  rw [Vals.ref1 r]
  obtain ⟨its, rv, pl, _⟩ := I.list hq
  have er0 := vals_refs rv
  have reads : ∀ {ts : List Th} {us : List Value}, PySem.W.EachIs (fun (v : Value) (t : Th) => v = .ref t.1) us ts → (∀ t ∈ ts, H t.1 = some (.tup (thV t))) → PySem.W.EachIs (fun v b => ∃ as, PySem.Reads s.heap v (thD b) as) us ts := by
    intro ts us e hh
    induction e with
    | nil => exact .nil
    | @cons v t vs ts r1 r2 ih => exact .cons (Dp.reads I _ _ _ (dp_th (hh t List.mem_cons_self)) r1) (ih fun t ht => hh t (List.mem_cons_of_mem _ ht))
  refine PySem.W.sorted_data (enc := thD) (bs := ts) pl.isList er0 (reads er0 hts) (PySem.W.AllAlike.of th_alike) (PySem.W.Sortable.tuples fun b => ⟨_, _, rfl⟩) (by rw [sizeLine_eq]; omega) (fun b _ => by have := th_depth b; omega) fun out ho eo => ?_
  obtain ⟨ep, he⟩ := PyProof.Rows.sortedAll_at s.heap its out.toArray
  have len : (ts.mergeSort (PySem.W.dataLe false thD)).length = ts.length := (List.mergeSort_perm ts _).length_eq
  have hlen : ((ts.mergeSort (PySem.W.dataLe false thD)).map fun t => V.ref t.1).length ≤ sizeLine := by
    rw [List.length_map, len, sizeLine_eq]
    omega
  exact ⟨.ref _, upd H (s.heap.objs.size + 1) (.lst ((ts.mergeSort (PySem.W.dataLe false thD)).map fun t => V.ref t.1)), I.laid (t' := s.toks) (fun _ _ => PyProof.Rows.sortedAll_old) (Nat.le_succ _) ⟨hlen, out, ep, refs_vals eo, by simpa using he⟩, rfl,
    q _ _ (List.mergeSort_perm ts _) (th_srt hn) (I.hok.fresh (Nat.le_succ _))⟩
end
end K24

set_option Elab.async false
set_option linter.all false
set_option maxRecDepth 100000
set_option maxHeartbeats 4000000
/-! The text by places (printed by gen_txt.py). -/
namespace K24
open PySem PySem.Spec PyProof.Rows L2
def top (i : Nat) : Stmt := PySem.Challenge.pw_beatwright_k24_whole_cubes_cover.main.body.getD i (.Pass ⟨0, 0, 0, 0⟩)
abbrev s_is_width : Stmt := top 1
abbrev s_fits : Stmt := top 2
abbrev s_cut : Stmt := top 3
abbrev s_bits_of : Stmt := top 4
abbrev s_word_of : Stmt := top 5
abbrev s_dim : Stmt := top 7
abbrev s_two_dims : Stmt := top 8
abbrev s_turned : Stmt := top 9
abbrev s_and_mark : Stmt := top 10
abbrev s_or_mark : Stmt := top 11
abbrev s_xor_mark : Stmt := top 12
abbrev s_carried : Stmt := top 13
abbrev s_summed : Stmt := top 14
abbrev s_same_mark : Stmt := top 15
abbrev s_picked : Stmt := top 16
abbrev s_inner : Stmt := top 30
abbrev s_size_of : Stmt := top 31
abbrev s_width_of : Stmt := top 32
abbrev s_small_width : Stmt := top 33
abbrev s_num_width : Stmt := top 34
abbrev s_named_width : Stmt := top 35
abbrev s_part_width : Stmt := top 36
abbrev s_several_width : Stmt := top 37
abbrev s_names_by : Stmt := top 38
abbrev s_reads : Stmt := top 39
abbrev s_worth : Stmt := top 40
abbrev s_wide_worth : Stmt := top 41
abbrev s_pair_worth : Stmt := top 42
abbrev s_is_name : Stmt := top 45
abbrev s_need_name : Stmt := top 46
abbrev s_need_width : Stmt := top 47
abbrev s_made : Stmt := top 48
abbrev s_need_writes : Stmt := top 49
abbrev s_rule_of : Stmt := top 50
abbrev s_widths_of : Stmt := top 51
abbrev s_shared_and_alone : Stmt := top 54
abbrev s_bits_down : Stmt := top 55
abbrev s_asked_bits : Stmt := top 56
abbrev s_half_known : Stmt := top 57
abbrev s_behind_cube : Stmt := top 58
abbrev s_filled : Stmt := top 59
abbrev s_never_both : Stmt := top 60
abbrev s__law_cell : Stmt := top 62
abbrev s__law_mix : Stmt := top 63
abbrev s__law_names : Stmt := top 64
abbrev s__law_word : Stmt := top 65
abbrev s__law_leaf : Stmt := top 66
abbrev s__law_guard : Stmt := top 67
abbrev s__law_boxes : Stmt := top 68
abbrev s__law_early : Stmt := top 69
abbrev s__law_writes : Stmt := top 70
abbrev s__law_pair : Stmt := top 71
abbrev s__law_found : Stmt := top 72
abbrev s__law_bits : Stmt := top 73
abbrev s__law_row : Stmt := top 74
abbrev s__law_words : Stmt := top 75
abbrev s__law_widths : Stmt := top 76
abbrev s__law_holds : Stmt := top 77
abbrev s__law_cubes : Stmt := top 78
abbrev s_law : Stmt := top 79
abbrev FnP (K : PySem.W.Frag) (x : Str) (st : Stmt) (f : Addr) (fd : FuncData) : Prop := FunD K x x (defArgs st) (defBody st) (defScope st) [] [] f fd
/-- a def of the top, by its name -/
def dD (x : Str) (st : Stmt) : He.DefD := ⟨(x, none), x, x, defArgs st, defBody st, defScope st, [], []⟩
def fn0 : List He.DefD := [dD "is_width" s_is_width, dD "fits" s_fits, dD "cut" s_cut, dD "bits_of" s_bits_of, dD "word_of" s_word_of, dD "dim" s_dim, dD "two_dims" s_two_dims, dD "turned" s_turned, dD "and_mark" s_and_mark, dD "or_mark" s_or_mark, dD "xor_mark" s_xor_mark, dD "carried" s_carried, dD "summed" s_summed, dD "same_mark" s_same_mark]
def fn1 : List He.DefD := [dD "picked" s_picked, dD "inner" s_inner, dD "size_of" s_size_of, dD "width_of" s_width_of, dD "small_width" s_small_width, dD "num_width" s_num_width, dD "named_width" s_named_width, dD "part_width" s_part_width, dD "several_width" s_several_width, dD "names_by" s_names_by, dD "reads" s_reads, dD "worth" s_worth, dD "wide_worth" s_wide_worth, dD "pair_worth" s_pair_worth]
def fn2 : List He.DefD := [dD "is_name" s_is_name, dD "need_name" s_need_name, dD "need_width" s_need_width, dD "made" s_made, dD "need_writes" s_need_writes, dD "rule_of" s_rule_of, dD "widths_of" s_widths_of, dD "shared_and_alone" s_shared_and_alone, dD "bits_down" s_bits_down, dD "asked_bits" s_asked_bits, dD "half_known" s_half_known, dD "behind_cube" s_behind_cube, dD "filled" s_filled, dD "never_both" s_never_both]
def fn3 : List He.DefD := [dD "_law_cell" s__law_cell, dD "_law_mix" s__law_mix, dD "_law_names" s__law_names, dD "_law_word" s__law_word, dD "_law_leaf" s__law_leaf, dD "_law_guard" s__law_guard, dD "_law_boxes" s__law_boxes, dD "_law_early" s__law_early, dD "_law_writes" s__law_writes, dD "_law_pair" s__law_pair, dD "_law_found" s__law_found, dD "_law_bits" s__law_bits, dD "_law_row" s__law_row, dD "_law_words" s__law_words]
def fn4 : List He.DefD := [dD "_law_widths" s__law_widths, dD "_law_holds" s__law_holds, dD "_law_cubes" s__law_cubes, dD "law" s_law]
def fn : List He.DefD := fn0 ++ fn1 ++ fn2 ++ fn3 ++ fn4
def fa0 : List He.Fa := [.glo "is_width", .glo "fits", .glo "cut", .glo "bits_of", .glo "word_of", .glo "dim", .glo "two_dims", .glo "turned", .glo "and_mark", .glo "or_mark", .glo "xor_mark", .glo "carried", .glo "summed", .glo "same_mark"]
def fa1 : List He.Fa := [.glo "picked", .glo "inner", .glo "size_of", .glo "width_of", .glo "small_width", .glo "num_width", .glo "named_width", .glo "part_width", .glo "several_width", .glo "names_by", .glo "reads", .glo "worth", .glo "wide_worth", .glo "pair_worth"]
def fa2 : List He.Fa := [.glo "is_name", .glo "need_name", .glo "need_width", .glo "made", .glo "need_writes", .glo "rule_of", .glo "widths_of", .glo "shared_and_alone", .glo "bits_down", .glo "asked_bits", .glo "half_known", .glo "behind_cube", .glo "filled", .glo "never_both"]
def fa3 : List He.Fa := [.glo "_law_cell", .glo "_law_mix", .glo "_law_names", .glo "_law_word", .glo "_law_leaf", .glo "_law_guard", .glo "_law_boxes", .glo "_law_early", .glo "_law_writes", .glo "_law_pair", .glo "_law_found", .glo "_law_bits", .glo "_law_row", .glo "_law_words"]
def fa4 : List He.Fa := [.glo "_law_widths", .glo "_law_holds", .glo "_law_cubes", .glo "law"]
def faB : List He.Fa := [.free "ValueError", .free "bool", .free "int", .free "isinstance", .free "len", .free "list", .free "max", .free "range", .free "reversed", .free "set", .free "sorted", .free "tuple"]
def faC : List He.Fa := [.glo "LEAVES", .int "MOST_PARTS" 100, .int "MOST_DEEP" 12, .int "MOST_CUBES" 64, .str "LETTERS" "abcdefghijklmnopqrstuvwxyz"]
def fa : List He.Fa := fa0 ++ fa1 ++ fa2 ++ fa3 ++ fa4 ++ faB ++ faC
def loose0 : List PySem.Str := ["is_width", "fits", "cut", "bits_of", "word_of", "dim", "two_dims", "turned", "and_mark", "or_mark", "xor_mark", "carried", "summed", "same_mark"]
def loose1 : List PySem.Str := ["picked", "inner", "size_of", "width_of", "small_width", "num_width", "named_width", "part_width", "several_width", "names_by", "reads", "worth", "wide_worth", "pair_worth"]
def loose2 : List PySem.Str := ["is_name", "need_name", "need_width", "made", "need_writes", "rule_of", "widths_of", "shared_and_alone", "bits_down", "asked_bits", "half_known", "behind_cube", "filled", "never_both"]
def loose3 : List PySem.Str := ["_law_cell", "_law_mix", "_law_names", "_law_word", "_law_leaf", "_law_guard", "_law_boxes", "_law_early", "_law_writes", "_law_pair", "_law_found", "_law_bits", "_law_row", "_law_words"]
def loose4 : List PySem.Str := ["_law_widths", "_law_holds", "_law_cubes", "BeatError", "NoName", "Twice", "NoWidth", "NoWord", "TooMany", "Unknown", "Unlike", "MOST_PARTS", "MOST_DEEP", "LEAVES"]
def loose5 : List PySem.Str := ["LETTERS", "MOST_CUBES"]
def loose : List PySem.Str := loose0 ++ loose1 ++ loose2 ++ loose3 ++ loose4 ++ loose5
def lawAt : Nat := 79
abbrev N_is_width : List Str := ["number"]
theorem sc_is_width : FnScope N_is_width ["number"] (defScope s_is_width) := ⟨rfl, rfl, rfl, by decide +kernel, rfl, by decide +kernel, by decide +kernel⟩
abbrev N_fits : List Str := ["width", "number"]
theorem sc_fits : FnScope N_fits ["width", "number"] (defScope s_fits) := ⟨rfl, rfl, rfl, by decide +kernel, rfl, by decide +kernel, by decide +kernel⟩
abbrev N_cut : List Str := ["width", "number"]
theorem sc_cut : FnScope N_cut ["width", "number"] (defScope s_cut) := ⟨rfl, rfl, rfl, by decide +kernel, rfl, by decide +kernel, by decide +kernel⟩
abbrev N_bits_of : List Str := ["width", "word", "bits", "place"]
theorem sc_bits_of : FnScope N_bits_of ["width", "word"] (defScope s_bits_of) := ⟨rfl, rfl, rfl, by decide +kernel, rfl, by decide +kernel, by decide +kernel⟩
abbrev N_word_of : List Str := ["bits", "word", "bit"]
theorem sc_word_of : FnScope N_word_of ["bits"] (defScope s_word_of) := ⟨rfl, rfl, rfl, by decide +kernel, rfl, by decide +kernel, by decide +kernel⟩
abbrev N_dim : List Str := ["term", "early", "late", "doors", "one", "other"]
theorem sc_dim : FnScope N_dim ["term", "early", "late", "doors"] (defScope s_dim) := ⟨rfl, rfl, rfl, by decide +kernel, rfl, by decide +kernel, by decide +kernel⟩
abbrev N_two_dims : List Str := ["form", "one", "other", "k"]
theorem sc_two_dims : FnScope N_two_dims ["form", "one", "other"] (defScope s_two_dims) := ⟨rfl, rfl, rfl, by decide +kernel, rfl, by decide +kernel, by decide +kernel⟩
abbrev N_turned : List Str := ["marks", "mark"]
theorem sc_turned : FnScope N_turned ["marks"] (defScope s_turned) := ⟨rfl, rfl, rfl, by decide +kernel, rfl, by decide +kernel, by decide +kernel⟩
abbrev N_and_mark : List Str := ["one", "other"]
theorem sc_and_mark : FnScope N_and_mark ["one", "other"] (defScope s_and_mark) := ⟨rfl, rfl, rfl, by decide +kernel, rfl, by decide +kernel, by decide +kernel⟩
abbrev N_or_mark : List Str := ["one", "other"]
theorem sc_or_mark : FnScope N_or_mark ["one", "other"] (defScope s_or_mark) := ⟨rfl, rfl, rfl, by decide +kernel, rfl, by decide +kernel, by decide +kernel⟩
abbrev N_xor_mark : List Str := ["one", "other"]
theorem sc_xor_mark : FnScope N_xor_mark ["one", "other"] (defScope s_xor_mark) := ⟨rfl, rfl, rfl, by decide +kernel, rfl, by decide +kernel, by decide +kernel⟩
abbrev N_carried : List Str := ["three"]
theorem sc_carried : FnScope N_carried ["three"] (defScope s_carried) := ⟨rfl, rfl, rfl, by decide +kernel, rfl, by decide +kernel, by decide +kernel⟩
abbrev N_summed : List Str := ["one", "other", "carry", "marks", "k"]
theorem sc_summed : FnScope N_summed ["one", "other", "carry"] (defScope s_summed) := ⟨rfl, rfl, rfl, by decide +kernel, rfl, by decide +kernel, by decide +kernel⟩
abbrev N_same_mark : List Str := ["one", "other", "unlike", "k"]
theorem sc_same_mark : FnScope N_same_mark ["one", "other"] (defScope s_same_mark) := ⟨rfl, rfl, rfl, by decide +kernel, rfl, by decide +kernel, by decide +kernel⟩
abbrev N_picked : List Str := ["mark", "one", "other", "k"]
theorem sc_picked : FnScope N_picked ["mark", "one", "other"] (defScope s_picked) := ⟨rfl, rfl, rfl, by decide +kernel, rfl, by decide +kernel, by decide +kernel⟩
abbrev N_inner : List Str := ["term"]
theorem sc_inner : FnScope N_inner ["term"] (defScope s_inner) := ⟨rfl, rfl, rfl, by decide +kernel, rfl, by decide +kernel, by decide +kernel⟩
abbrev N_size_of : List Str := ["term", "parts", "deep", "one", "size"]
theorem sc_size_of : FnScope N_size_of ["term"] (defScope s_size_of) := ⟨rfl, rfl, rfl, by decide +kernel, rfl, by decide +kernel, by decide +kernel⟩
abbrev N_width_of : List Str := ["term", "boxes", "doors", "size"]
theorem sc_width_of : FnScope N_width_of ["term", "boxes", "doors"] (defScope s_width_of) := ⟨rfl, rfl, rfl, by decide +kernel, rfl, by decide +kernel, by decide +kernel⟩
abbrev N_small_width : List Str := ["term", "boxes", "doors", "widths", "one"]
theorem sc_small_width : FnScope N_small_width ["term", "boxes", "doors"] (defScope s_small_width) := ⟨rfl, rfl, rfl, by decide +kernel, rfl, by decide +kernel, by decide +kernel⟩
abbrev N_num_width : List Str := ["width", "word"]
theorem sc_num_width : FnScope N_num_width ["width", "word"] (defScope s_num_width) := ⟨rfl, rfl, rfl, by decide +kernel, rfl, by decide +kernel, by decide +kernel⟩
abbrev N_named_width : List Str := ["name", "widths"]
theorem sc_named_width : FnScope N_named_width ["name", "widths"] (defScope s_named_width) := ⟨rfl, rfl, rfl, by decide +kernel, rfl, by decide +kernel, by decide +kernel⟩
abbrev N_part_width : List Str := ["low", "many", "width"]
theorem sc_part_width : FnScope N_part_width ["low", "many", "width"] (defScope s_part_width) := ⟨rfl, rfl, rfl, by decide +kernel, rfl, by decide +kernel, by decide +kernel⟩
abbrev N_several_width : List Str := ["form", "widths"]
theorem sc_several_width : FnScope N_several_width ["form", "widths"] (defScope s_several_width) := ⟨rfl, rfl, rfl, by decide +kernel, rfl, by decide +kernel, by decide +kernel⟩
abbrev N_names_by : List Str := ["form", "term", "names", "one"]
theorem sc_names_by : FnScope N_names_by ["form", "term"] (defScope s_names_by) := ⟨rfl, rfl, rfl, by decide +kernel, rfl, by decide +kernel, by decide +kernel⟩
abbrev N_reads : List Str := ["term", "early", "late"]
theorem sc_reads : FnScope N_reads ["term"] (defScope s_reads) := ⟨rfl, rfl, rfl, by decide +kernel, rfl, by decide +kernel, by decide +kernel⟩
abbrev N_worth : List Str := ["term", "widths", "early", "late", "doors"]
theorem sc_worth : FnScope N_worth ["term", "widths", "early", "late", "doors"] (defScope s_worth) := ⟨rfl, rfl, rfl, by decide +kernel, rfl, by decide +kernel, by decide +kernel⟩
abbrev N_wide_worth : List Str := ["term", "widths", "words", "some", "width", "word", "one"]
theorem sc_wide_worth : FnScope N_wide_worth ["term", "widths", "words"] (defScope s_wide_worth) := ⟨rfl, rfl, rfl, by decide +kernel, rfl, by decide +kernel, by decide +kernel⟩
abbrev N_pair_worth : List Str := ["form", "one", "other", "width", "word"]
theorem sc_pair_worth : FnScope N_pair_worth ["form", "one", "other"] (defScope s_pair_worth) := ⟨rfl, rfl, rfl, by decide +kernel, rfl, by decide +kernel, by decide +kernel⟩
abbrev N_is_name : List Str := ["name", "sign"]
theorem sc_is_name : FnScope N_is_name ["name"] (defScope s_is_name) := ⟨rfl, rfl, rfl, by decide +kernel, rfl, by decide +kernel, by decide +kernel⟩
abbrev N_need_name : List Str := ["name", "taken"]
theorem sc_need_name : FnScope N_need_name ["name", "taken"] (defScope s_need_name) := ⟨rfl, rfl, rfl, by decide +kernel, rfl, by decide +kernel, by decide +kernel⟩
abbrev N_need_width : List Str := ["width"]
theorem sc_need_width : FnScope N_need_width ["width"] (defScope s_need_width) := ⟨rfl, rfl, rfl, by decide +kernel, rfl, by decide +kernel, by decide +kernel⟩
abbrev N_made : List Str := ["boxes", "doors", "rules", "taken", "inside", "outside", "name", "width", "first", "told", "guard", "writes"]
theorem sc_made : FnScope N_made ["boxes", "doors", "rules"] (defScope s_made) := ⟨rfl, rfl, rfl, by decide +kernel, rfl, by decide +kernel, by decide +kernel⟩
abbrev N_need_writes : List Str := ["writes", "inside", "outside", "taken", "box", "term"]
theorem sc_need_writes : FnScope N_need_writes ["writes", "inside", "outside"] (defScope s_need_writes) := ⟨rfl, rfl, rfl, by decide +kernel, rfl, by decide +kernel, by decide +kernel⟩
abbrev N_rule_of : List Str := ["works", "name", "rule"]
theorem sc_rule_of : FnScope N_rule_of ["works", "name"] (defScope s_rule_of) := ⟨rfl, rfl, rfl, by decide +kernel, rfl, by decide +kernel, by decide +kernel⟩
abbrev N_widths_of : List Str := ["works", "inside", "name", "width", "first", "outside"]
theorem sc_widths_of : FnScope N_widths_of ["works"] (defScope s_widths_of) := ⟨rfl, rfl, rfl, by decide +kernel, rfl, by decide +kernel, by decide +kernel⟩
abbrev N_shared_and_alone : List Str := ["one", "other", "shared", "alone", "name"]
theorem sc_shared_and_alone : FnScope N_shared_and_alone ["one", "other"] (defScope s_shared_and_alone) := ⟨rfl, rfl, rfl, by decide +kernel, rfl, by decide +kernel, by decide +kernel⟩
abbrev N_bits_down : List Str := ["sort", "names", "widths", "found", "name", "place"]
theorem sc_bits_down : FnScope N_bits_down ["sort", "names", "widths"] (defScope s_bits_down) := ⟨rfl, rfl, rfl, by decide +kernel, rfl, by decide +kernel, by decide +kernel⟩
abbrev N_asked_bits : List Str := ["works", "one", "other", "inside", "outside", "first", "second", "boxes", "doors", "found"]
theorem sc_asked_bits : FnScope N_asked_bits ["works", "one", "other"] (defScope s_asked_bits) := ⟨rfl, rfl, rfl, by decide +kernel, rfl, by decide +kernel, by decide +kernel⟩
abbrev N_half_known : List Str := ["asked", "marks", "found", "k", "sort", "name", "place", "mark"]
theorem sc_half_known : FnScope N_half_known ["asked", "marks"] (defScope s_half_known) := ⟨rfl, rfl, rfl, by decide +kernel, rfl, by decide +kernel, by decide +kernel⟩
abbrev N_behind_cube : List Str := ["marks", "left"]
theorem sc_behind_cube : FnScope N_behind_cube ["marks"] (defScope s_behind_cube) := ⟨rfl, rfl, rfl, by decide +kernel, rfl, by decide +kernel, by decide +kernel⟩
abbrev N_filled : List Str := ["dims", "words", "name", "mark"]
theorem sc_filled : FnScope N_filled ["dims"] (defScope s_filled) := ⟨rfl, rfl, rfl, by decide +kernel, rfl, by decide +kernel, by decide +kernel⟩
abbrev N_never_both : List Str := ["works", "one", "other", "first", "second", "asked", "marks", "cubes", "known", "holds"]
theorem sc_never_both : FnScope N_never_both ["works", "one", "other"] (defScope s_never_both) := ⟨rfl, rfl, rfl, by decide +kernel, rfl, by decide +kernel, by decide +kernel⟩
abbrev N__law_cell : List Str := ["script", "k"]
theorem sc_law_cell : FnScope N__law_cell ["script", "k"] (defScope s__law_cell) := ⟨rfl, rfl, rfl, by decide +kernel, rfl, by decide +kernel, by decide +kernel⟩
abbrev N__law_mix : List Str := ["number", "salt", "mixed"]
theorem sc_law_mix : FnScope N__law_mix ["number", "salt"] (defScope s__law_mix) := ⟨rfl, rfl, rfl, by decide +kernel, rfl, by decide +kernel, by decide +kernel⟩
abbrev N__law_names : List Str := ["number", "many", "letters", "first", "step", "size", "at", "k", "stem", "names", "sign"]
theorem sc_law_names : FnScope N__law_names ["number", "many"] (defScope s__law_names) := ⟨rfl, rfl, rfl, by decide +kernel, rfl, by decide +kernel, by decide +kernel⟩
abbrev N__law_word : List Str := ["number", "width", "far"]
theorem sc_law_word : FnScope N__law_word ["number", "width"] (defScope s__law_word) := ⟨rfl, rfl, rfl, by decide +kernel, rfl, by decide +kernel, by decide +kernel⟩
abbrev N__law_leaf : List Str := ["number", "width", "boxes", "doors", "at", "more", "leaf", "has"]
theorem sc_law_leaf : FnScope N__law_leaf ["number", "width", "boxes", "doors"] (defScope s__law_leaf) := ⟨rfl, rfl, rfl, by decide +kernel, rfl, by decide +kernel, by decide +kernel⟩
abbrev N__law_guard : List Str := ["number", "boxes", "doors", "way", "wide", "one", "two"]
theorem sc_law_guard : FnScope N__law_guard ["number", "boxes", "doors"] (defScope s__law_guard) := ⟨rfl, rfl, rfl, by decide +kernel, rfl, by decide +kernel, by decide +kernel⟩
abbrev N__law_boxes : List Str := ["script", "wide", "head", "names", "more", "boxes", "k", "width", "doors"]
theorem sc_law_boxes : FnScope N__law_boxes ["script", "wide"] (defScope s__law_boxes) := ⟨rfl, rfl, rfl, by decide +kernel, rfl, by decide +kernel, by decide +kernel⟩
abbrev N__law_early : List Str := ["term", "some", "part"]
theorem sc_law_early : FnScope N__law_early ["term"] (defScope s__law_early) := ⟨rfl, rfl, rfl, by decide +kernel, rfl, by decide +kernel, by decide +kernel⟩
abbrev N__law_writes : List Str := ["number", "boxes", "doors", "writes", "k", "term"]
theorem sc_law_writes : FnScope N__law_writes ["number", "boxes", "doors"] (defScope s__law_writes) := ⟨rfl, rfl, rfl, by decide +kernel, rfl, by decide +kernel, by decide +kernel⟩
abbrev N__law_pair : List Str := ["script", "wide", "boxes", "doors", "names", "first", "second", "way", "width", "writes", "k"]
theorem sc_law_pair : FnScope N__law_pair ["script", "wide"] (defScope s__law_pair) := ⟨rfl, rfl, rfl, by decide +kernel, rfl, by decide +kernel, by decide +kernel⟩
abbrev N__law_found : List Str := ["term", "sort", "found", "part"]
theorem sc_law_found : FnScope N__law_found ["term", "sort"] (defScope s__law_found) := ⟨rfl, rfl, rfl, by decide +kernel, rfl, by decide +kernel, by decide +kernel⟩
abbrev N__law_bits : List Str := ["sort", "thing", "k"]
theorem sc_law_bits : FnScope N__law_bits ["sort", "thing"] (defScope s__law_bits) := ⟨rfl, rfl, rfl, by decide +kernel, rfl, by decide +kernel, by decide +kernel⟩
abbrev N__law_row : List Str := ["boxes", "doors", "one", "other", "row", "many", "sort", "things", "thing", "count", "guard"]
theorem sc_law_row : FnScope N__law_row ["boxes", "doors", "one", "other"] (defScope s__law_row) := ⟨rfl, rfl, rfl, by decide +kernel, rfl, by decide +kernel, by decide +kernel⟩
abbrev N__law_words : List Str := ["row", "bits", "words", "k", "sort", "name", "place"]
theorem sc_law_words : FnScope N__law_words ["row", "bits"] (defScope s__law_words) := ⟨rfl, rfl, rfl, by decide +kernel, rfl, by decide +kernel, by decide +kernel⟩
abbrev N__law_widths : List Str := ["boxes", "doors", "widths", "thing"]
theorem sc_law_widths : FnScope N__law_widths ["boxes", "doors"] (defScope s__law_widths) := ⟨rfl, rfl, rfl, by decide +kernel, rfl, by decide +kernel, by decide +kernel⟩
abbrev N__law_holds : List Str := ["guard", "widths", "words", "late"]
theorem sc_law_holds : FnScope N__law_holds ["guard", "widths", "words", "late"] (defScope s__law_holds) := ⟨rfl, rfl, rfl, by decide +kernel, rfl, by decide +kernel, by decide +kernel⟩
abbrev N__law_cubes : List Str := ["reply", "cube", "mark"]
theorem sc_law_cubes : FnScope N__law_cubes ["reply"] (defScope s__law_cubes) := ⟨rfl, rfl, rfl, by decide +kernel, rfl, by decide +kernel, by decide +kernel⟩
abbrev N_law : List Str := ["script", "boxes", "doors", "rules", "works", "one", "other", "reply", "row", "widths", "some", "cell", "number", "bits", "fine", "at", "bit", "cube", "k"]
theorem sc_law : FnScope N_law ["script"] (defScope s_law) := ⟨rfl, rfl, rfl, by decide +kernel, rfl, by decide +kernel, by decide +kernel⟩
/-- the function object of a def, out of the written part -/
def fdOf (K : PySem.W.Frag) (x : Str) : FuncData := match K.lookup (He.ga K x) with
  | some ⟨_, _, .func fd, _⟩ => fd
  | _ => PySem.W.fnOf x x { posonlyargs := [], args := [], vararg := none, kwonlyargs := [], kw_defaults := [], kwarg := none, defaults := [] } [] { kind := .function, names := [], isGenerator := false, isCoroutine := false } .none .none .none .none none .none .none
theorem fd_eq {K : PySem.W.Frag} {x : Str} {st : Stmt} {fd : FuncData} (F : FnP K x st (He.ga K x) fd) : fdOf K x = fd := by
  obtain ⟨oc, od, dV, kV, doc, pm, an, cdv, ct, osl, _, lk, _⟩ := F.ex
  unfold fdOf
  rw [lk]
/-- a def of the top: its function object, its name, its parameters -/
structure Df (K : PySem.W.Frag) (mg : Str → Option Value) (x : Str) (st : Stmt) (ps : List Str) : Prop where
  F : FnP K x st (He.ga K x) (fdOf K x)
  g : mg x = some (.ref (He.ga K x))
  b : Binds K (fdOf K x) ps []
abbrev letters : Str := "abcdefghijklmnopqrstuvwxyz"
/-- all that the walks ask of the text behind its top -/
structure Txt (K : PySem.W.Frag) (mg : Str → Option Value) : Prop where
  d_is_width : Df K mg "is_width" s_is_width ["number"]
  d_fits : Df K mg "fits" s_fits ["width", "number"]
  d_cut : Df K mg "cut" s_cut ["width", "number"]
  d_bits_of : Df K mg "bits_of" s_bits_of ["width", "word"]
  d_word_of : Df K mg "word_of" s_word_of ["bits"]
  d_dim : Df K mg "dim" s_dim ["term", "early", "late", "doors"]
  d_two_dims : Df K mg "two_dims" s_two_dims ["form", "one", "other"]
  d_turned : Df K mg "turned" s_turned ["marks"]
  d_and_mark : Df K mg "and_mark" s_and_mark ["one", "other"]
  d_or_mark : Df K mg "or_mark" s_or_mark ["one", "other"]
  d_xor_mark : Df K mg "xor_mark" s_xor_mark ["one", "other"]
  d_carried : Df K mg "carried" s_carried ["three"]
  d_summed : Df K mg "summed" s_summed ["one", "other", "carry"]
  d_same_mark : Df K mg "same_mark" s_same_mark ["one", "other"]
  d_picked : Df K mg "picked" s_picked ["mark", "one", "other"]
  d_inner : Df K mg "inner" s_inner ["term"]
  d_size_of : Df K mg "size_of" s_size_of ["term"]
  d_width_of : Df K mg "width_of" s_width_of ["term", "boxes", "doors"]
  d_small_width : Df K mg "small_width" s_small_width ["term", "boxes", "doors"]
  d_num_width : Df K mg "num_width" s_num_width ["width", "word"]
  d_named_width : Df K mg "named_width" s_named_width ["name", "widths"]
  d_part_width : Df K mg "part_width" s_part_width ["low", "many", "width"]
  d_several_width : Df K mg "several_width" s_several_width ["form", "widths"]
  d_names_by : Df K mg "names_by" s_names_by ["form", "term"]
  d_reads : Df K mg "reads" s_reads ["term"]
  d_worth : Df K mg "worth" s_worth ["term", "widths", "early", "late", "doors"]
  d_wide_worth : Df K mg "wide_worth" s_wide_worth ["term", "widths", "words"]
  d_pair_worth : Df K mg "pair_worth" s_pair_worth ["form", "one", "other"]
  d_is_name : Df K mg "is_name" s_is_name ["name"]
  d_need_name : Df K mg "need_name" s_need_name ["name", "taken"]
  d_need_width : Df K mg "need_width" s_need_width ["width"]
  d_made : Df K mg "made" s_made ["boxes", "doors", "rules"]
  d_need_writes : Df K mg "need_writes" s_need_writes ["writes", "inside", "outside"]
  d_rule_of : Df K mg "rule_of" s_rule_of ["works", "name"]
  d_widths_of : Df K mg "widths_of" s_widths_of ["works"]
  d_shared_and_alone : Df K mg "shared_and_alone" s_shared_and_alone ["one", "other"]
  d_bits_down : Df K mg "bits_down" s_bits_down ["sort", "names", "widths"]
  d_asked_bits : Df K mg "asked_bits" s_asked_bits ["works", "one", "other"]
  d_half_known : Df K mg "half_known" s_half_known ["asked", "marks"]
  d_behind_cube : Df K mg "behind_cube" s_behind_cube ["marks"]
  d_filled : Df K mg "filled" s_filled ["dims"]
  d_never_both : Df K mg "never_both" s_never_both ["works", "one", "other"]
  d__law_cell : Df K mg "_law_cell" s__law_cell ["script", "k"]
  d__law_mix : Df K mg "_law_mix" s__law_mix ["number", "salt"]
  d__law_names : Df K mg "_law_names" s__law_names ["number", "many"]
  d__law_word : Df K mg "_law_word" s__law_word ["number", "width"]
  d__law_leaf : Df K mg "_law_leaf" s__law_leaf ["number", "width", "boxes", "doors"]
  d__law_guard : Df K mg "_law_guard" s__law_guard ["number", "boxes", "doors"]
  d__law_boxes : Df K mg "_law_boxes" s__law_boxes ["script", "wide"]
  d__law_early : Df K mg "_law_early" s__law_early ["term"]
  d__law_writes : Df K mg "_law_writes" s__law_writes ["number", "boxes", "doors"]
  d__law_pair : Df K mg "_law_pair" s__law_pair ["script", "wide"]
  d__law_found : Df K mg "_law_found" s__law_found ["term", "sort"]
  d__law_bits : Df K mg "_law_bits" s__law_bits ["sort", "thing"]
  d__law_row : Df K mg "_law_row" s__law_row ["boxes", "doors", "one", "other"]
  d__law_words : Df K mg "_law_words" s__law_words ["row", "bits"]
  d__law_widths : Df K mg "_law_widths" s__law_widths ["boxes", "doors"]
  d__law_holds : Df K mg "_law_holds" s__law_holds ["guard", "widths", "words", "late"]
  d__law_cubes : Df K mg "_law_cubes" s__law_cubes ["reply"]
  d_law : Df K mg "law" s_law ["script"]
  z_bool : mg "bool" = none
  z_int : mg "int" = none
  z_isinstance : mg "isinstance" = none
  z_len : mg "len" = none
  z_list : mg "list" = none
  z_max : mg "max" = none
  z_range : mg "range" = none
  z_reversed : mg "reversed" = none
  z_set : mg "set" = none
  z_sorted : mg "sorted" = none
  z_tuple : mg "tuple" = none
  c_MOST_PARTS : ∃ t, mg "MOST_PARTS" = some (.int 100 t)
  c_MOST_DEEP : ∃ t, mg "MOST_DEEP" = some (.int 12 t)
  c_MOST_CUBES : ∃ t, mg "MOST_CUBES" = some (.int 64 t)
  c_LETTERS : ∃ t, mg "LETTERS" = some (.str letters t)
  c_LEAVES : mg "LEAVES" = some (.ref (He.ga K "LEAVES"))
  leaves : ∀ H : Hp, SqT K H (He.ga K "LEAVES") [.str "num", .str "box", .str "late", .str "door"]
end K24

set_option Elab.async false
set_option linter.all false
set_option maxRecDepth 100000
set_option maxHeartbeats 0
namespace K24
open PySem PySem.Spec PyProof.Rows L2
abbrev R : PySem.W.OpenRow := PySem.W.OpenLaw.row PySem.Challenge.rw_beatwright_k24_whole_cubes_cover
def leavesB (K : PySem.W.Frag) : Bool := He.tupB K "LEAVES" [.str "num", .str "box", .str "late", .str "door"]
abbrev hookK : PySem.W.Hook := He.hookX 4 fa fn [] [] leavesB
def ob (s : PySem.W.SharedT) : He.AlX := He.obsX 4 fa fn [] [] leavesB (HandSHeadRun.getT s)
theorem ob_eq (s : PySem.W.SharedT) : ob s = hookK.obs s.abs := He.obsX_eq (HandSHeadRun.getT_eq s)
theorem run (w : World) : HandSHeadRun.RunEq R (PySem.W.view R.prog [79]) hookK ob 4000 loose w := by
  intro os
  kernel_rfl
end K24

set_option Elab.async false
set_option linter.all false
set_option maxRecDepth 100000
set_option maxHeartbeats 4000000
/-! Short words of this proof. -/
namespace K24
open PySem PySem.Spec PyProof.Rows L2
section
variable {X : Cx} {x : Str} {p pos : Pos} {e : Expr} {es : List Expr} {t : TA}
/-- a def of the top is called -/
theorem pe_c {st : Stmt} {ps : List Str} {k : Nat} {sp : Sp} (D : Df X.K X.mg x st ps) (G : FnOk X.prog X.w X.K X.mg X.base CX0 k (He.ga X.K x) (fdOf X.K x) ps sp) (hr : Room k X.A) (hg : Gl X x) (ha : PA X (e :: es) t)
    (hdb : (x == ("__debug__" : Str)) = false := by decide) (he : starEach (e :: es) X.env = (false, eval e X.env) :: starEach es X.env := by rfl) (hpl : (backTo pos (starEach es X.env)).any (·.1) = false := by rfl) :
    PE X (.Call (.Name x p) (e :: es) [] pos) (tCall sp [] E0 t) := pe_call G hr hg D.g D.F.kp D.b .nil pass0 ha hdb he hpl
/-- one sign * a small int -/
theorem op_mulS : OpR X (binaryOp .Mult) (fun x y H Q => ∃ c k : Nat, x = .str ⟨#[c]⟩ ∧ y = .int (k : Int) ∧ k ≤ 3 ∧ ∀ z : Str, z.cps.toList = List.replicate k c → Q (.str z) H) := by
  intro pins s σ H x y v u Q I rx ry h
  obtain ⟨c, k, rfl, rfl, hk, q⟩ := h
  obtain ⟨t, rfl⟩ := rx
  obtain ⟨t', rfl⟩ := ry
  have ok : MulOk ⟨#[c]⟩ (k : Int) := by
    have e : (⟨#[c]⟩ : Str).length = 1 := rfl
    obtain rfl | rfl | rfl | rfl : k = 0 ∨ k = 1 ∨ k = 2 ∨ k = 3 := by omega
    all_goals
      unfold MulOk
      rw [e]
      decide
  have e : (Txt.mul ⟨#[c]⟩ (k : Int)).cps.toList = List.replicate k c := by
    obtain rfl | rfl | rfl | rfl : k = 0 ∨ k = 1 ∨ k = 2 ∨ k = 3 := by omega
    all_goals rfl
  exact SB.mul ok fun t2 k2 => ⟨.str _, H, I.tok _, ⟨t2, rfl⟩, q _ e⟩
end
section
variable {P : Program} {w : World} {K : PySem.W.Frag} {mg : Str → Option Value} {base : Heap}
/-- the promise of a def of the top -/
abbrev Ok (P : Program) (w : World) (K : PySem.W.Frag) (mg : Str → Option Value) (base : Heap) (x : Str) (ps : List Str) (k : Nat) (sp : Sp) : Prop := FnOk P w K mg base CX0 k (He.ga K x) (fdOf K x) ps sp
/-- THE RULE for a def: its body as a term of rules, and that term's reading -/
theorem Df.ok {x : Str} {st : Stmt} {N ps : List Str} {k : Nat} {sp : Sp} (D : Df K mg x st ps) (S : FnScope N ps (defScope st)) (len : ∀ vs H Q E, sp vs H Q E → vs.length = ps.length)
    (body : ∀ (cdv : Value) (A : Around) (outer : List Env) (s : Shared) (H : Hp) (vs : List V) (Q : VK) (E : XK), Room k (A.deeper (envOfC x (defScope st) s.heap.objs.size (He.ga K x) cdv)) → sp vs H Q E →
      ∃ t, PSs (cxOf CX0 P w K mg base N x (defScope st) (He.ga K x) cdv A outer s H E).nox (defBody st) t ∧ t { nx := fun _ H' => Q .non H', rt := Q } (start N vs) H) : Ok P w K mg base x ps (k + 1) sp :=
  FunD.ok D.F S len fun cdv A outer s H vs Q E hr h => by
    obtain ⟨t, h1, h2⟩ := body cdv A outer s H vs Q E hr h
    exact ⟨t, h1.nox, h2⟩
end
/-! ### readings of calls, by names -/
def rLn (K : PySem.W.Frag) : List V → Hp → VK → Prop := fun xs H Q => ∃ p ys, xs = [.ref p] ∧ (SqL K H p ys ∨ SqT K H p ys) ∧ Q (.int ys.length) H
def rLo (K : PySem.W.Frag) : List V → Hp → VK → Prop := fun xs H Q => ∃ p ys, xs = [.ref p] ∧ (SqL K H p ys ∨ SqT K H p ys) ∧ ∀ l, H l = none → Q (.ref l) (upd H l (.lst ys))
def rTo (K : PySem.W.Frag) : List V → Hp → VK → Prop := fun xs H Q => ∃ p ys, xs = [.ref p] ∧ ((SqL K H p ys ∧ ∀ l, H l = none → Q (.ref l) (upd H l (.tup ys))) ∨ (SqT K H p ys ∧ Q (.ref p) H))
/-! ### heaps -/
theorem _root_.L2.Same.new {H : Hp} {p : Addr} {o : HO} (h : H p = none) : Same H (upd H p o) := fun b u e => by
  rw [upd_ne (ne_of_none e h)]
  exact e
/-- an object that H does not know may change -/
theorem _root_.L2.Same.mut {H H' : Hp} {p : Addr} {o : HO} (e : Same H H') (h : H p = none) : Same H (upd H' p o) := fun b u q => by
  rw [upd_ne (ne_of_none q h)]
  exact e b u q
theorem _root_.L2.Same.newT {H H' : Hp} {p : Addr} {o : HO} (e : Same H H') (h : H' p = none) : Same H (upd H' p o) := e.trans (Same.new h)
/-- what a def hands back: a value and a heap that keeps what stood -/
def Ret (H : Hp) (Q : VK) (R : V → Hp → Prop) : Prop := ∀ v H', Same H H' → R v H' → Q v H'
theorem q_bl {Q : VK} {H : Hp} {b c : Bool} (q : Q (.bl c) H) (e : b = c) : Q (.bl b) H := e ▸ q
theorem q_of {Q : VK} {H : Hp} {v u : V} (q : Q v H) (e : u = v) : Q u H := e ▸ q
abbrev vN (n : Nat) : V := V.int (n : Int)
theorem vN_eq {a : Nat} {i : Int} (h : decide (vN a = V.int i) = true) : (a : Int) = i := by
  have h := of_decide_eq_true h
  injection h
theorem vN_ne {a : Nat} {i : Int} (h : ¬ decide (vN a = V.int i) = true) : (a : Int) ≠ i := fun e => h (decide_eq_true (congrArg V.int e))
abbrev vs (ms : List Nat) : List V := ms.map vN
theorem vs_get {ms : List Nat} {i m : Nat} (h : ms[i]? = some m) : (vs ms)[i]? = some (vN m) := by
  rw [List.getElem?_map, h]
  rfl
theorem vs_of {ms : List Nat} {i : Nat} {x : V} (h : (vs ms)[i]? = some x) : ∃ m, ms[i]? = some m ∧ x = vN m := by
  rw [List.getElem?_map] at h
  cases e : ms[i]? with
  | none =>
    rw [e] at h
    cases h
  | some m =>
    rw [e] at h
    exact ⟨m, rfl, (Option.some.inj h).symm⟩
/-! ### a tag's test -/
section
variable {K : PySem.W.Frag} {i : Nat} {a : Addr} {x y : Str} {r : List V} {t u : TS} {D : Ends} {σ : L2.St} {H : Hp}
/-- if term[0] == y, where it is -/
theorem rd_yes (hσ : σ[i]? = some (some (.ref a))) (hT : H a = some (.tup (.str x :: r))) (e : x = y) (h : t D σ H) : tIfS (tTest (tOp rEq (tOp (rIxT K) (tVar i) (tC (.int 0))) (tC (.str y)))) t u D σ H := by
  refine ⟨_, hσ, a, _, 0, .str x, rfl, rfl, SqT.of hT, atI_nat (j := 0) rfl, rfl, _, rfl, ?_⟩
  rw [decide_eq_true (by rw [e])]
  exact iteT h
theorem rd_no (hσ : σ[i]? = some (some (.ref a))) (hT : H a = some (.tup (.str x :: r))) (e : x ≠ y) (h : u D σ H) : tIfS (tTest (tOp rEq (tOp (rIxT K) (tVar i) (tC (.int 0))) (tC (.str y)))) t u D σ H := by
  refine ⟨_, hσ, a, _, 0, .str x, rfl, rfl, SqT.of hT, atI_nat (j := 0) rfl, rfl, _, rfl, ?_⟩
  rw [decide_eq_false fun z => e (by injection z)]
  exact iteF h
/-- if form == y -/
theorem rf_yes (hσ : σ[i]? = some (some (.str x))) (e : x = y) (h : t D σ H) : tIfS (tTest (tOp rEq (tVar i) (tC (.str y)))) t u D σ H := by
  refine ⟨_, hσ, rfl, _, rfl, ?_⟩
  rw [decide_eq_true (by rw [e])]
  exact iteT h
theorem rf_no (hσ : σ[i]? = some (some (.str x))) (e : x ≠ y) (h : u D σ H) : tIfS (tTest (tOp rEq (tVar i) (tC (.str y)))) t u D σ H := by
  refine ⟨_, hσ, rfl, _, rfl, ?_⟩
  rw [decide_eq_false fun z => e (by injection z)]
  exact iteF h
end
theorem line_of {n : Nat} (h : n ≤ 100000) : n ≤ sizeLine := Nat.le_trans h (by decide)
theorem line_lt {n : Nat} (h : n ≤ 100000) : n < sizeLine := Nat.lt_of_le_of_lt h (by decide)
end K24

set_option Elab.async false
set_option linter.all false
set_option maxRecDepth 100000
set_option maxHeartbeats 4000000
/-! Words. -/
namespace K24
open PySem PySem.Spec PyProof.Rows L2
section
variable {P : Program} {w : World} {K : PySem.W.Frag} {mg : Str → Option Value} {base : Heap}
def sp_is_width : Sp := fun vs H Q _ => ∃ n : Int, vs = [.int n] ∧ 1 ≤ n ∧ n ≤ 64 ∧ Q (.bl true) H
theorem ok_is_width (T : Txt K mg) : Ok P w K mg base "is_width" ["number"] 1 sp_is_width := by
  refine T.d_is_width.ok sc_is_width (fun vs H Q E h => ?_) (fun cdv A outer s H vs Q E hr h => ?_)
  · obtain ⟨n, rfl, _⟩ := h
    rfl
  · obtain ⟨n, rfl, h1, h2, q⟩ := h
    refine ⟨_, (pss_one (ps_ret (pe_chain op_le op_le pe_int (pv 0) pe_int))), ?_⟩
    refine ⟨_, rfl, _, _, rfl, rfl, _, rfl, ?_⟩
    rw [decide_eq_true h1]
    refine iteT ⟨_, _, rfl, rfl, ?_⟩
    exact q_bl q (decide_eq_true h2)
def sp_fits : Sp := fun vs H Q _ => ∃ k v : Nat, vs = [vN k, vN v] ∧ k ≤ 64 ∧ v < 2 ^ k ∧ Q (.bl true) H
theorem shl_nat (k : Nat) : (1 : Int) * 2 ^ (k : Int).toNat = ((2 ^ k : Nat) : Int) := by
  rw [Int.toNat_natCast, Int.one_mul]
  exact (Int.natCast_pow 2 k).symm
theorem ok_fits (T : Txt K mg) : Ok P w K mg base "fits" ["width", "number"] 1 sp_fits := by
  refine T.d_fits.ok sc_fits (fun vs H Q E h => ?_) (fun cdv A outer s H vs Q E hr h => ?_)
  · obtain ⟨k, v, rfl, _⟩ := h
    rfl
  · obtain ⟨k, v, rfl, h1, h2, q⟩ := h
    refine ⟨_, (pss_one (ps_ret (pe_chain op_le op_lt pe_int (pv 1) (pe_op op_shl pe_int (pv 0))))), ?_⟩
    refine ⟨_, rfl, _, _, rfl, rfl, _, rfl, ?_⟩
    rw [decide_eq_true (show (0 : Int) ≤ (v : Int) by omega)]
    refine iteT ⟨_, rfl, _, _, rfl, rfl, ⟨by omega, by omega, by decide⟩, _, _, rfl, rfl, ?_⟩
    rw [shl_nat]
    exact q_bl q (decide_eq_true (show (v : Int) < ((2 ^ k : Nat) : Int) by omega))
def sp_cut : Sp := fun vs H Q _ => ∃ (k : Nat) (n : Int), vs = [vN k, .int n] ∧ k ≤ 64 ∧ Q (.int (n % ((2 ^ k : Nat) : Int))) H
theorem ok_cut (T : Txt K mg) : Ok P w K mg base "cut" ["width", "number"] 1 sp_cut := by
  refine T.d_cut.ok sc_cut (fun vs H Q E h => ?_) (fun cdv A outer s H vs Q E hr h => ?_)
  · obtain ⟨k, n, rfl, _⟩ := h
    rfl
  · obtain ⟨k, n, rfl, h1, q⟩ := h
    refine ⟨_, (pss_one (ps_ret (pe_op op_mod (pv 1) (pe_op op_shl pe_int (pv 0))))), ?_⟩
    refine ⟨_, rfl, _, rfl, _, _, rfl, rfl, ⟨by omega, by omega, by decide⟩, _, _, rfl, rfl, ?_, ?_⟩
    · rw [shl_nat]
      have := pow_pos2 k
      omega
    · rw [shl_nat]
      exact q
def sp_bits_of : Sp := fun vs_ H Q _ => ∃ k v : Nat, vs_ = [vN k, vN v] ∧ k ≤ 64 ∧ Ret H Q fun r H' => ∃ p, r = .ref p ∧ H p = none ∧ H' p = some (.lst (vs (bitsN k v)))
theorem bitsN_snoc : ∀ (i v : Nat), bitsN (i + 1) v = bitsN i v ++ [v / 2 ^ i % 2]
  | 0, v => by
    show [v % 2] = [v / 1 % 2]
    rw [Nat.div_one]
  | i + 1, v => by
    show v % 2 :: bitsN (i + 1) (v / 2) = (v % 2 :: bitsN i (v / 2)) ++ [v / 2 ^ (i + 1) % 2]
    rw [bitsN_snoc i (v / 2), Nat.div_div_eq_div_mul, Nat.pow_succ, Nat.mul_comm 2]
    rfl
theorem ok_bits_of (T : Txt K mg) : Ok P w K mg base "bits_of" ["width", "word"] 1 sp_bits_of := by
  refine T.d_bits_of.ok sc_bits_of (fun vs H Q E h => ?_) (fun cdv A outer s H vs_ Q E hr h => ?_)
  · obtain ⟨k, v, rfl, _⟩ := h
    rfl
  · obtain ⟨k, v, rfl, h1, q⟩ := h
    refine ⟨_, (pss_cons (ps_set (i := 2) sc_bits_of.nd rfl (Or.inl rfl) (pe_lst pa_nil))
      (pss_cons (ps_for PassesOwn.never (by rfl) (pi_range1 (by rfl) T.z_range (pa_cons (pv 0) pa_nil)) (pg_name (i := 3) sc_bits_of.nd rfl (Or.inl rfl)) (pss_cons (ps_expr (pe_bm PySem.F.plainAttrs_list PySem.F.slot_list_append PySem.F.type_list_append mt_append (pv 2) (pa_cons (pe_op op_mod (pv 1) pe_int) pa_nil)))
      (pss_one (ps_set (i := 1) sc_bits_of.nd rfl (Or.inl rfl) (pe_op op_fdiv (pv 1) pe_int)))))
      (pss_one (ps_ret (pv 2))))), ?_⟩
    refine ⟨Nat.zero_le _, fun p np => ?_⟩
    refine ⟨_, rfl, _, rfl, by omega, by omega, for_range (lo := 0) (n := (k : Int).toNat) (fun i σ H' => ∃ x, σ = [some (vN k), some (vN (v / 2 ^ i)), some (.ref p), x] ∧ Same H H' ∧ H' p = some (.lst (vs (bitsN i v)))) ?_ ?_ ?_⟩
    · exact ⟨none, by rw [Nat.pow_zero, Nat.div_one]; rfl, Same.new np, upd_same⟩
    · rintro i σ H' hi ⟨x, rfl, s0, hp⟩
      refine ⟨_, rfl, .inl ⟨rfl, _, SqL.of hp⟩, _, rfl, _, _, rfl, rfl, by show (0 : Int) < 2; decide, p, _, _, rfl, rfl, hp, ?_, ?_⟩
      · rw [List.length_map, bitsN_len]
        exact line_lt (by omega)
      · refine ⟨_, rfl, _, _, rfl, rfl, ⟨by decide, by decide⟩, some (.int (0 + (i : Int))), ?_, s0.mut np, ?_⟩
        · show [some (vN k), some (V.int (((v / 2 ^ i : Nat) : Int) / 2)), some (V.ref p), some (V.int (0 + (i : Int)))] = _
          rw [show (((v / 2 ^ i : Nat) : Int) / 2) = ((v / 2 ^ (i + 1) : Nat) : Int) by rw [Nat.pow_succ, ← Nat.div_div_eq_div_mul]; rfl]
        · rw [upd_same, bitsN_snoc]
          show some (HO.lst (vs (bitsN i v) ++ [V.int (((v / 2 ^ i : Nat) : Int) % 2)])) = some (HO.lst (vs (bitsN i v ++ [v / 2 ^ i % 2])))
          rw [show vs (bitsN i v ++ [v / 2 ^ i % 2]) = vs (bitsN i v) ++ [vN (v / 2 ^ i % 2)] from List.map_append]
          rfl
    · rintro σ H' ⟨x, rfl, s0, hp⟩
      refine ⟨_, rfl, q _ _ s0 ⟨p, rfl, np, ?_⟩⟩
      rw [Int.toNat_natCast] at hp
      exact hp
def sp_word_of (K : PySem.W.Frag) : Sp := fun vs_ H Q _ => ∃ (a : Addr) (ms : List Int), vs_ = [.ref a] ∧ SqL K H a (ms.map V.int) ∧ ms.length ≤ 10000 ∧ ∀ n : Int, Q (.int n) H
theorem ok_word_of (T : Txt K mg) : Ok P w K mg base "word_of" ["bits"] 1 (sp_word_of K) := by
  refine T.d_word_of.ok sc_word_of (fun vs H Q E h => ?_) (fun cdv A outer s H vs_ Q E hr h => ?_)
  · obtain ⟨a, ms, rfl, _⟩ := h
    rfl
  · obtain ⟨a, ms, rfl, hq, hl, q⟩ := h
    refine ⟨_, (pss_cons (ps_set (i := 1) sc_word_of.nd rfl (Or.inl rfl) pe_int)
      (pss_cons (ps_for PassesOwn.never (by rfl) (pi_reversed (by rfl) T.z_reversed (pa_cons (pv 0) pa_nil)) (pg_name (i := 2) sc_word_of.nd rfl (Or.inl rfl)) (pss_one (ps_set (i := 1) sc_word_of.nd rfl (Or.inl rfl) (pe_op op_add (pe_op op_mul pe_int (pv 1)) (pv 2)))))
      (pss_one (ps_ret (pv 1))))), ?_⟩
    refine ⟨_, rfl, a, _, rfl, hq, fun i m σ H' => m = ms.length - i ∧ i ≤ ms.length ∧ H' = H ∧ ∃ n x, σ = [some (.ref a), some (.int n), x], ⟨_, rfl, Nat.zero_le _, rfl, 0, none, rfl⟩, ?_⟩
    rintro i m σ H' ⟨rfl, hi, rfl, n, x, rfl⟩
    by_cases hlt : i < ms.length
    · have hx : (ms.map V.int)[ms.length - 1 - i]? = some (V.int ms[ms.length - 1 - i]) := by rw [List.getElem?_map, List.getElem?_eq_getElem (by omega)]; rfl
      refine .inr ⟨⟨by rw [List.length_map]; exact hlt, _, _, hq, by rw [List.length_map]; exact hx⟩, fun σ2 H2 => H2 = H' ∧ ∃ n x, σ2 = [some (.ref a), some (.int n), x], fun σ2 H2 ⟨e, n, x, e2⟩ => ⟨ms.length - (i + 1), by omega, rfl, hlt, e, n, x, e2⟩, fun y H2 hy => ?_⟩
      obtain ⟨rfl, hy⟩ := hy
      have ey := hy _ hq
      rw [List.length_map, hx] at ey
      cases ey
      refine ⟨_, rfl, _, _, rfl, rfl, .inl ⟨by decide, by decide⟩, _, rfl, _, _, rfl, rfl, rfl, _, _, rfl⟩
    · exact .inl ⟨by show (ms.map V.int).length ≤ i; rw [List.length_map]; omega, _, rfl, q _⟩
end
end K24

set_option Elab.async false
set_option linter.all false
set_option maxRecDepth 100000
set_option maxHeartbeats 4000000
/-! Half-known words. -/
namespace K24
open PySem PySem.Spec PyProof.Rows L2
section
variable {P : Program} {w : World} {K : PySem.W.Frag} {mg : Str → Option Value} {base : Heap}
/-! ### marks -/
def sp_and_mark : Sp := fun vs_ H Q _ => ∃ a b : Nat, vs_ = [vN a, vN b] ∧ Q (vN (andM a b)) H
def sp_or_mark : Sp := fun vs_ H Q _ => ∃ a b : Nat, vs_ = [vN a, vN b] ∧ Q (vN (orM a b)) H
def sp_xor_mark : Sp := fun vs_ H Q _ => ∃ a b : Nat, vs_ = [vN a, vN b] ∧ Q (vN (xorM a b)) H
theorem dec_vN (a b : Nat) : decide (vN a = V.int (b : Int)) = decide (a = b) := by
  by_cases h : a = b
  · rw [decide_eq_true h, decide_eq_true (by rw [h])]
  · rw [decide_eq_false h, decide_eq_false]
    intro e
    injection e with e
    exact h (by omega)
theorem ok_and_mark (T : Txt K mg) : Ok P w K mg base "and_mark" ["one", "other"] 1 sp_and_mark := by
  refine T.d_and_mark.ok sc_and_mark (fun vs H Q E h => ?_) (fun cdv A outer s H vs Q E hr h => ?_)
  · obtain ⟨a, b, rfl, _⟩ := h
    rfl
  · obtain ⟨a, b, rfl, q⟩ := h
    refine ⟨_, (pss_cons (ps_if (PW.pt (pw_or (pt_cmpR op_eq (pv 0) pe_int (nomark _)) (pw_or1 (pt_cmpR op_eq (pv 1) pe_int (nomark _))))) (pss_one (ps_ret pe_int)) pss_nil)
      (pss_one (ps_ret (pe_callB (call_max2 (by rfl)) (by rfl) T.z_max PyProof.Rows.boot_max (pa_cons (pv 0) (pa_cons (pv 1) pa_nil)))))), ?_⟩
    refine ⟨_, rfl, rfl, _, rfl, ?_⟩
    refine ite2 (fun h => ?_) (fun h => ⟨_, rfl, rfl, _, rfl, ite2 (fun h2 => ?_) (fun h2 => ?_)⟩)
    · have h := vN_eq h
      exact q_of q (by rw [andM, if_pos (Or.inl (by omega))]; rfl)
    · have h2 := vN_eq h2
      exact q_of q (by rw [andM, if_pos (Or.inr (by omega))]; rfl)
    · have h := vN_ne h
      have h2 := vN_ne h2
      refine ⟨_, rfl, _, rfl, _, _, rfl, ?_⟩
      refine q_of q ?_
      rw [andM, if_neg (show ¬ (a = 0 ∨ b = 0) by omega)]
      show V.int (if (b : Int) > (a : Int) then (b : Int) else (a : Int)) = V.int ((max a b : Nat) : Int)
      congr 1
      split <;> omega
theorem ok_or_mark (T : Txt K mg) : Ok P w K mg base "or_mark" ["one", "other"] 1 sp_or_mark := by
  refine T.d_or_mark.ok sc_or_mark (fun vs H Q E h => ?_) (fun cdv A outer s H vs Q E hr h => ?_)
  · obtain ⟨a, b, rfl, _⟩ := h
    rfl
  · obtain ⟨a, b, rfl, q⟩ := h
    refine ⟨_, (pss_cons (ps_if (PW.pt (pw_or (pt_cmpR op_eq (pv 0) pe_int (nomark _)) (pw_or1 (pt_cmpR op_eq (pv 1) pe_int (nomark _))))) (pss_one (ps_ret pe_int)) pss_nil)
      (pss_one (ps_ret (pe_callB (call_max2 (by rfl)) (by rfl) T.z_max PyProof.Rows.boot_max (pa_cons (pv 0) (pa_cons (pv 1) pa_nil)))))), ?_⟩
    refine ⟨_, rfl, rfl, _, rfl, ?_⟩
    refine ite2 (fun h => ?_) (fun h => ⟨_, rfl, rfl, _, rfl, ite2 (fun h2 => ?_) (fun h2 => ?_)⟩)
    · have h := vN_eq h
      exact q_of q (by rw [orM, if_pos (Or.inl (by omega))]; rfl)
    · have h2 := vN_eq h2
      exact q_of q (by rw [orM, if_pos (Or.inr (by omega))]; rfl)
    · have h := vN_ne h
      have h2 := vN_ne h2
      refine ⟨_, rfl, _, rfl, _, _, rfl, ?_⟩
      refine q_of q ?_
      rw [orM, if_neg (show ¬ (a = 1 ∨ b = 1) by omega)]
      show V.int (if (b : Int) > (a : Int) then (b : Int) else (a : Int)) = V.int ((max a b : Nat) : Int)
      congr 1
      split <;> omega
theorem ok_xor_mark (T : Txt K mg) : Ok P w K mg base "xor_mark" ["one", "other"] 1 sp_xor_mark := by
  refine T.d_xor_mark.ok sc_xor_mark (fun vs H Q E h => ?_) (fun cdv A outer s H vs Q E hr h => ?_)
  · obtain ⟨a, b, rfl, _⟩ := h
    rfl
  · obtain ⟨a, b, rfl, q⟩ := h
    refine ⟨_, (pss_cons (ps_if (PW.pt (pw_or (pt_cmpR op_eq (pv 0) pe_int (nomark _)) (pw_or1 (pt_cmpR op_eq (pv 1) pe_int (nomark _))))) (pss_one (ps_ret pe_int)) pss_nil)
      (pss_one (ps_ret (pe_callTy call_int1 (by rfl) T.z_int PyProof.Rows.boot_int (pa_cons (pe_cmpR op_ne (pv 0) (pv 1) (nomark _)) pa_nil))))), ?_⟩
    refine ⟨_, rfl, rfl, _, rfl, ?_⟩
    refine ite2 (fun h => ?_) (fun h => ⟨_, rfl, rfl, _, rfl, ite2 (fun h2 => ?_) (fun h2 => ?_)⟩)
    · have h := vN_eq h
      exact q_of q (by rw [xorM, if_pos (Or.inl (by omega))]; rfl)
    · have h2 := vN_eq h2
      exact q_of q (by rw [xorM, if_pos (Or.inr (by omega))]; rfl)
    · have h := vN_ne h
      have h2 := vN_ne h2
      refine ⟨_, rfl, _, rfl, rfl, Or.inr ⟨_, rfl, ?_⟩⟩
      refine q_of q ?_
      rw [xorM, if_neg (show ¬ (a = 2 ∨ b = 2) by omega), dec_vN]
      by_cases e : a = b
      · rw [if_pos e, decide_eq_true e]
        rfl
      · rw [if_neg e, decide_eq_false e]
        rfl
def sp_carried (K : PySem.W.Frag) : Sp := fun vs_ H Q _ => ∃ (p : Addr) (a b c : Nat), vs_ = [.ref p] ∧ SqL K H p [vN a, vN b, vN c] ∧ Q (vN (carM a b c)) H
theorem cnt_int (k : Nat) : ∀ ms : List Nat, ((ms.map fun m : Nat => (m : Int)).count (k : Int)) = ms.count k
  | [] => rfl
  | m :: ms => by
    rw [List.map_cons, List.count_cons, List.count_cons, cnt_int k ms]
    congr 1
    by_cases e : m = k
    · subst e
      simp
    · have e2 : ¬ ((m : Int) = (k : Int)) := by omega
      simp [e, e2]
theorem ok_carried (T : Txt K mg) : Ok P w K mg base "carried" ["three"] 1 (sp_carried K) := by
  refine T.d_carried.ok sc_carried (fun vs H Q E h => ?_) (fun cdv A outer s H vs Q E hr h => ?_)
  · obtain ⟨p, a, b, c, rfl, _⟩ := h
    rfl
  · obtain ⟨p, a, b, c, rfl, hp, q⟩ := h
    have hp2 : SqL K H p (([a, b, c].map fun m : Nat => (m : Int)).map V.int) := hp
    have c1 : ([a, b, c].map fun m : Nat => (m : Int)).count (1 : Int) = [a, b, c].count 1 := cnt_int 1 _
    have c0 : ([a, b, c].map fun m : Nat => (m : Int)).count (0 : Int) = [a, b, c].count 0 := cnt_int 0 _
    refine ⟨_, (pss_cons (ps_if (pt_cmpR op_ge (pe_bm PySem.F.plainAttrs_list PySem.F.slot_list_count PySem.F.type_list_count mt_lcount (pv 0) (pa_cons pe_int pa_nil)) pe_int (nomark _)) (pss_one (ps_ret pe_int)) pss_nil)
      (pss_cons (ps_if (pt_cmpR op_ge (pe_bm PySem.F.plainAttrs_list PySem.F.slot_list_count PySem.F.type_list_count mt_lcount (pv 0) (pa_cons pe_int pa_nil)) pe_int (nomark _)) (pss_one (ps_ret pe_int)) pss_nil)
      (pss_one (ps_ret pe_int)))), ?_⟩
    refine ⟨_, rfl, .inl ⟨rfl, _, hp⟩, p, _, _, rfl, rfl, hp2, _, _, rfl, rfl, _, rfl, ite2 (fun h => ?_) (fun h => ?_)⟩
    · have h := of_decide_eq_true h
      rw [c1] at h
      exact q_of q (by rw [carM, if_pos (by omega)]; rfl)
    · have h : ¬ (2 : Int) ≤ _ := fun z => h (decide_eq_true z)
      rw [c1] at h
      refine ⟨_, rfl, .inl ⟨rfl, _, hp⟩, p, _, _, rfl, rfl, hp2, _, _, rfl, rfl, _, rfl, ite2 (fun h2 => ?_) (fun h2 => ?_)⟩
      · have h2 := of_decide_eq_true h2
        rw [c0] at h2
        exact q_of q (by rw [carM, if_neg (by omega), if_pos (by omega)]; rfl)
      · have h2 : ¬ (2 : Int) ≤ _ := fun z => h2 (decide_eq_true z)
        rw [c0] at h2
        exact q_of q (by rw [carM, if_neg (by omega), if_neg (by omega)]; rfl)
/-! ### turned -/
def sp_turned (K : PySem.W.Frag) : Sp := fun vs_ H Q _ => ∃ (a : Addr) (ms : List Nat), vs_ = [.ref a] ∧ SqL K H a (vs ms) ∧ M2 ms ∧ ms.length ≤ 1000 ∧ Ret H Q fun r H' => ∃ p, r = .ref p ∧ H p = none ∧ H' p = some (.lst (vs (ms.map tb)))
theorem take_snoc {α : Type} {l : List α} {i : Nat} {x : α} (h : l[i]? = some x) : l.take (i + 1) = l.take i ++ [x] := by
  rw [List.take_succ, h]
  rfl
theorem vs_app (xs ys : List Nat) : vs (xs ++ ys) = vs xs ++ vs ys := List.map_append
theorem ok_turned (T : Txt K mg) : Ok P w K mg base "turned" ["marks"] 1 (sp_turned K) := by
  refine T.d_turned.ok sc_turned (fun vs H Q E h => ?_) (fun cdv A outer s H vs_ Q E hr h => ?_)
  · obtain ⟨a, ms, rfl, _⟩ := h
    rfl
  · obtain ⟨a, ms, rfl, ha, h2, hl, q⟩ := h
    refine ⟨_, (pss_one (ps_ret (pe_lc (own := [("mark", 1)]) (g := gName 1) (by rfl) sc_turned.nd (pi_list (pv 0)) (blkOk_by (N := N_turned) (sc := defScope s_turned) (by decide +kernel)) (fun _ _ _ _ _ => pg_name (i := 1) sc_turned.nd rfl (Or.inl rfl)) (fun _ _ _ _ _ => pts_nil) (fun _ _ _ _ _ => (pe_ix (r := rIxT K) ix_tup (pe_tup (pa_cons pe_int (pa_cons pe_int (pa_cons pe_int pa_nil)))) (pv 1) (fun _ _ => rfl)))))), ?_⟩
    refine ⟨_, rfl, a, rfl, ⟨_, ha⟩, fun D hD => lc_list (K := K) (a := a) (xs := vs ms) (fun i H' => Same H H' ∧ H' D = some (.lst (vs ((ms.take i).map tb)))) ⟨Same.new hD, upd_same⟩ (fun i H' _ p => p.1.seq ha) ?_ ?_⟩
    · rintro i x H' hi ⟨s0, hp⟩
      obtain ⟨m, hm, rfl⟩ := vs_of hi
      have m2 : m ≤ 2 := h2 m (List.mem_of_getElem? hm)
      refine ⟨rfl, by show 3 ≤ sizeLine; decide, fun t ht => ⟨_, rfl, t, _, _, vN (tb m), rfl, rfl, SqT.of upd_same, ?_, vs ((ms.take i).map tb), ?_, ?_, ?_, ?_⟩⟩
      · rcases le2_cases m2 with rfl | rfl | rfl <;> rfl
      · rw [upd_ne (ne_of_none hp ht)]
        exact hp
      · rw [List.length_map, List.length_map, List.length_take]
        exact line_lt (by omega)
      · exact (s0.newT ht).mut hD
      · rw [upd_same, take_snoc hm, List.map_append, vs_app]
        rfl
    · rintro H' ⟨s0, hp⟩
      rw [List.length_map, List.take_length] at hp
      exact q _ _ s0 ⟨D, rfl, hD, hp⟩
/-! ### summed -/
def sp_summed (K : PySem.W.Frag) : Sp := fun vs_ H Q _ => ∃ (a b : Addr) (xs ys : List Nat) (c : Nat), vs_ = [.ref a, .ref b, vN c] ∧ SqL K H a (vs xs) ∧ SqL K H b (vs ys) ∧ xs.length = ys.length ∧ xs.length ≤ 1000 ∧
  Ret H Q fun r H' => ∃ t p, r = .ref t ∧ H t = none ∧ H p = none ∧ H' t = some (.tup [.ref p, vN (sumM xs ys c).2]) ∧ H' p = some (.lst (vs (sumM xs ys c).1))
theorem sumM_snoc : ∀ {xs ys : List Nat} {x y c : Nat}, xs.length = ys.length → sumM (xs ++ [x]) (ys ++ [y]) c = ((sumM xs ys c).1 ++ [xorM (xorM x y) (sumM xs ys c).2], carM x y (sumM xs ys c).2)
  | [], [], x, y, c, _ => rfl
  | x' :: xs, y' :: ys, x, y, c, hl => by
    have hl : xs.length = ys.length := by simpa using hl
    show (xorM (xorM x' y') c :: (sumM (xs ++ [x]) (ys ++ [y]) (carM x' y' c)).1, (sumM (xs ++ [x]) (ys ++ [y]) (carM x' y' c)).2) = _
    rw [sumM_snoc hl]
    rfl
  | [], _ :: _, _, _, _, hl => by cases hl
  | _ :: _, [], _, _, _, hl => by cases hl
theorem ok_summed (T : Txt K mg) : Ok P w K mg base "summed" ["one", "other", "carry"] 2 (sp_summed K) := by
  have G_xor_mark : Ok P w K mg base "xor_mark" _ 1 _ := ok_xor_mark T
  have G_carried : Ok P w K mg base "carried" _ 1 _ := ok_carried T
  refine T.d_summed.ok sc_summed (fun vs H Q E h => ?_) (fun cdv A outer s H vs_ Q E hr h => ?_)
  · obtain ⟨a, b, xs, ys, c, rfl, _⟩ := h
    rfl
  · obtain ⟨a, b, xs, ys, c, rfl, ha, hb, hl, hz, q⟩ := h
    refine ⟨_, (pss_cons (ps_set (i := 3) sc_summed.nd rfl (Or.inl rfl) (pe_lst pa_nil))
      (pss_cons (ps_for PassesOwn.never (by rfl) (pi_range1 (by rfl) T.z_range (pa_cons (pe_callB (r := rLn K) call_len_seq (by rfl) T.z_len PySem.boot_len (pa_cons (pv 0) pa_nil)) pa_nil)) (pg_name (i := 4) sc_summed.nd rfl (Or.inl rfl)) (pss_cons (ps_expr (pe_bm PySem.F.plainAttrs_list PySem.F.slot_list_append PySem.F.type_list_append mt_append (pv 3) (pa_cons (pe_c T.d_xor_mark G_xor_mark (hr.mono (by omega)) (by rfl) (pa_cons (pe_c T.d_xor_mark G_xor_mark (hr.mono (by omega)) (by rfl) (pa_cons (pe_ix (r := rIxL K) ix_list (pv 0) (pv 4) (fun _ _ => rfl)) (pa_cons (pe_ix (r := rIxL K) ix_list (pv 1) (pv 4) (fun _ _ => rfl)) pa_nil))) (pa_cons (pv 2) pa_nil))) pa_nil)))
      (pss_one (ps_set (i := 2) sc_summed.nd rfl (Or.inl rfl) (pe_c T.d_carried G_carried (hr.mono (by omega)) (by rfl) (pa_cons (pe_lst (pa_cons (pe_ix (r := rIxL K) ix_list (pv 0) (pv 4) (fun _ _ => rfl)) (pa_cons (pe_ix (r := rIxL K) ix_list (pv 1) (pv 4) (fun _ _ => rfl)) (pa_cons (pv 2) pa_nil)))) pa_nil))))))
      (pss_one (ps_ret (pe_tup (pa_cons (pv 3) (pa_cons (pv 2) pa_nil))))))), ?_⟩
    refine ⟨Nat.zero_le _, fun p np => ?_⟩
    refine ⟨_, rfl, a, _, rfl, .inl ((Same.new np).seq ha), _, rfl, by omega, by rw [List.length_map]; omega, for_range (lo := 0) (n := ((vs xs).length : Int).toNat) (fun i σ H' => ∃ x, σ = [some (.ref a), some (.ref b), some (vN (sumM (xs.take i) (ys.take i) c).2), some (.ref p), x] ∧ Same H H' ∧ H' p = some (.lst (vs (sumM (xs.take i) (ys.take i) c).1))) ?_ ?_ ?_⟩
    · exact ⟨none, rfl, Same.new np, upd_same⟩
    · rintro i σ H' hi ⟨x0, rfl, s0, hp⟩
      have hi : i < xs.length := by rw [Int.toNat_natCast, List.length_map] at hi; exact hi
      have ex : xs[i]? = some xs[i] := List.getElem?_eq_getElem hi
      have ey : ys[i]? = some (ys[i]'(by omega)) := List.getElem?_eq_getElem (by omega)
      generalize xs[i] = x at ex
      generalize ys[i]'(by omega) = y at ey
      have e1 : atI (vs xs) (0 + (i : Int)) = some (vN x) := at_of (by omega) (vs_get ex)
      have e2 : atI (vs ys) (0 + (i : Int)) = some (vN y) := at_of (by omega) (vs_get ey)
      have hl2 : (xs.take i).length = (ys.take i).length := by rw [List.length_take, List.length_take]; omega
      refine ⟨_, rfl, .inl ⟨rfl, _, SqL.of hp⟩, ?_⟩
      refine ⟨_, rfl, _, rfl, a, _, _, _, rfl, rfl, s0.seq ha, e1, _, rfl, _, rfl, b, _, _, _, rfl, rfl, s0.seq hb, e2, x, y, rfl, _, rfl, _, _, rfl, p, _, _, rfl, rfl, hp, ?_, ?_⟩
      · rw [List.length_map, sumM_len hl2, List.length_take]
        exact line_lt (by omega)
      have s1 := s0.mut (o := .lst (vs (sumM (xs.take i) (ys.take i) c).1 ++ [vN (xorM (xorM x y) (sumM (xs.take i) (ys.take i) c).2)])) np
      refine ⟨_, rfl, _, rfl, a, _, _, _, rfl, rfl, s1.seq ha, e1, _, rfl, _, rfl, b, _, _, _, rfl, rfl, s1.seq hb, e2, _, rfl, by show 3 ≤ sizeLine; decide, fun l nl => ?_⟩
      refine ⟨l, x, y, _, rfl, SqL.of upd_same, some (.int (0 + (i : Int))), ?_, s1.newT nl, ?_⟩
      · rw [take_snoc ex, take_snoc ey, sumM_snoc hl2]
        rfl
      · have npl : p ≠ l := ne_of_none upd_same nl
        rw [upd_ne npl, upd_same, take_snoc ex, take_snoc ey, sumM_snoc hl2, vs_app]
        rfl
    · rintro σ H' ⟨x0, rfl, s0, hp⟩
      rw [Int.toNat_natCast, List.length_map, List.take_length, show xs.length = ys.length from hl, List.take_length] at hp ⊢
      refine ⟨_, rfl, _, rfl, by show 2 ≤ sizeLine; decide, fun t nt => q _ _ (s0.newT nt) ⟨t, p, rfl, s0.free nt, np, upd_same, ?_⟩⟩
      rw [upd_ne (ne_of_none hp nt)]
      exact hp
end
end K24

set_option Elab.async false
set_option linter.all false
set_option maxRecDepth 100000
set_option maxHeartbeats 4000000
/-! Half-known words: same, two_dims, dim. -/
namespace K24
open PySem PySem.Spec PyProof.Rows L2
section
variable {P : Program} {w : World} {K : PySem.W.Frag} {mg : Str → Option Value} {base : Heap}
theorem flat_vs (ms : List Nat) : (vs ms).all flatV = true := by
  rw [List.all_eq_true]
  intro x hx
  obtain ⟨m, _, rfl⟩ := List.mem_map.mp hx
  rfl
theorem in_vs (k : Nat) : ∀ ms : List Nat, inV (vN k) (vs ms) = decide (k ∈ ms)
  | [] => rfl
  | m :: ms => by
    have ih := in_vs k ms
    have e : inV (vN k) (vs (m :: ms)) = (eqV (vN m) (vN k) || inV (vN k) (vs ms)) := rfl
    rw [e, ih]
    have e2 : eqV (vN m) (vN k) = decide (k = m) := by
      show ((m : Int) == (k : Int)) = decide (k = m)
      by_cases h : k = m
      · subst h
        simp
      · rw [decide_eq_false h, beq_eq_false_iff_ne]
        omega
    rw [e2, ← Bool.decide_or]
    simp only [List.mem_cons]
/-- over two lists of one length, place by place -/
theorem zip_take {f : Nat → Nat → Nat} {xs ys : List Nat} {i x y : Nat} (hx : xs[i]? = some x) (hy : ys[i]? = some y) : (List.zipWith f xs ys).take (i + 1) = (List.zipWith f xs ys).take i ++ [f x y] := by
  refine take_snoc ?_
  rw [List.getElem?_zipWith, hx, hy]
theorem yes_of {σ : L2.St} {H : Hp} {Q : Bool → Hp → Prop} (h : Q true H) : tYes σ H Q := h
/-- the turn of a comprehension that calls a def upon two lists -/
theorem lc_zip {K : PySem.W.Frag} {H H1 : Hp} {D a b : Addr} {xs ys : List Nat} {f : Nat → Nat → Nat} {sp : Sp} {σ : L2.St} {i1 i2 ik : Nat} {vs_ : List Nat} {Qd : Hp → Prop}
    (hsp : ∀ (x y : Nat) (H : Hp) (Q : VK) (E : XK), Q (vN (f x y)) H → sp ([vN x, vN y] ++ []) H Q E) (s0 : Same H H1) (hD : H1 D = none) (ha : SqL K H a (vs xs)) (hb : SqL K H b (vs ys)) (hl : xs.length = ys.length) (hz : xs.length ≤ 1000)
    (e1 : ∀ x, ((wipe σ vs_).set ik (some x))[i1]? = some (some (.ref a))) (e2 : ∀ x, ((wipe σ vs_).set ik (some x))[i2]? = some (some (.ref b))) (e3 : ∀ x, ((wipe σ vs_).set ik (some x))[ik]? = some (some x)) (ew : ∀ x, wipe ((wipe σ vs_).set ik (some x)) vs_ = wipe σ vs_)
    (k : ∀ H', Same H H' → H' D = some (.lst (vs (List.zipWith f xs ys))) → Qd H') :
    ∃ W : Nat → Nat → Hp → Prop, (∃ m, W 0 m (upd H1 D (.lst []))) ∧ ∀ i m H, W i m H →
      ((Itr 0 ((vs xs).length : Int).toNat).stop i H ∧ Qd H) ∨ ((Itr 0 ((vs xs).length : Int).toNat).go i H ∧ ∃ Nx : Hp → Prop, (∀ H', Nx H' → ∃ m', m' < m ∧ W (i + 1) m' H') ∧ ∀ x H', (Itr 0 ((vs xs).length : Int).toNat).yld i H x H' → gName ik x (wipe σ vs_) H' fun σ2 H2 => wipe σ2 vs_ = wipe σ vs_ ∧ tYes σ2 H2 fun b H3 =>
        if b = true then tCall sp [] E0 (tCons (tOp (rIxL K) (tVar i1) (tVar ik)) (tCons (tOp (rIxL K) (tVar i2) (tVar ik)) tNil)) σ2 H3 fun y H4 => ∃ acc, H4 D = some (.lst acc) ∧ acc.length < sizeLine ∧ Nx (upd H4 D (.lst (acc ++ [y]))) else Nx H3) := by
  refine lc_range (lo := 0) (n := ((vs xs).length : Int).toNat) (fun i H' => Same H H' ∧ H' D = some (.lst (vs ((List.zipWith f xs ys).take i)))) ⟨s0.newT hD, upd_same⟩ ?_ ?_
  · rintro i H' hi ⟨s1, hp⟩
    have hi : i < xs.length := by rw [Int.toNat_natCast, List.length_map] at hi; exact hi
    have ex : xs[i]? = some xs[i] := List.getElem?_eq_getElem hi
    have ey : ys[i]? = some (ys[i]'(by omega)) := List.getElem?_eq_getElem (by omega)
    generalize xs[i] = x at ex
    generalize ys[i]'(by omega) = y at ey
    have g1 : atI (vs xs) (0 + (i : Int)) = some (vN x) := at_of (by omega) (vs_get ex)
    have g2 : atI (vs ys) (0 + (i : Int)) = some (vN y) := at_of (by omega) (vs_get ey)
    refine ⟨ew _, ?_⟩
    refine yes_of (iteT ?_)
    refine ⟨_, e1 _, _, e3 _, a, _, _, _, rfl, rfl, s1.seq ha, g1, _, e2 _, _, e3 _, b, _, _, _, rfl, rfl, s1.seq hb, g2, ?_⟩
    refine hsp x y H' _ _ ⟨_, hp, ?_, s1.mut (s0.free hD), ?_⟩
    · rw [List.length_map, List.length_take, List.length_zipWith]
      exact line_lt (by omega)
    · rw [upd_same, zip_take ex ey, vs_app]
      rfl
  · rintro H' ⟨s1, hp⟩
    rw [Int.toNat_natCast, List.length_map] at hp
    rw [show xs.length = (List.zipWith f xs ys).length by rw [List.length_zipWith]; omega, List.take_length] at hp
    exact k H' s1 hp
def sp_same_mark (K : PySem.W.Frag) : Sp := fun vs_ H Q _ => ∃ (a b : Addr) (xs ys : List Nat), vs_ = [.ref a, .ref b] ∧ SqL K H a (vs xs) ∧ SqL K H b (vs ys) ∧ xs.length = ys.length ∧ xs.length ≤ 1000 ∧ Ret H Q fun r _ => r = vN (sameM xs ys)
theorem ok_same_mark (T : Txt K mg) : Ok P w K mg base "same_mark" ["one", "other"] 2 (sp_same_mark K) := by
  have G_xor_mark : Ok P w K mg base "xor_mark" _ 1 _ := ok_xor_mark T
  refine T.d_same_mark.ok sc_same_mark (fun vs H Q E h => ?_) (fun cdv A outer s H vs_ Q E hr h => ?_)
  · obtain ⟨a, b, xs, ys, rfl, _⟩ := h
    rfl
  · obtain ⟨a, b, xs, ys, rfl, ha, hb, hl, hz, q⟩ := h
    refine ⟨_, (pss_cons (ps_setLc (i := 2) (own := [("k", 3)]) (g := gName 3) (by rfl) sc_same_mark.nd rfl rfl (sw_true rfl rfl rfl (by decide +kernel)) (pi_range1 (by rfl) T.z_range (pa_cons (pe_callB (r := rLn K) call_len_seq (by rfl) T.z_len PySem.boot_len (pa_cons (pv 0) pa_nil)) pa_nil)) (blkOk_by (N := N_same_mark) (sc := defScope s_same_mark) (by decide +kernel)) (fun _ _ _ _ _ => pg_name (i := 3) sc_same_mark.nd rfl (Or.inl rfl)) (fun _ _ _ _ _ => pts_nil) (fun _ _ _ _ _ => (pe_c T.d_xor_mark G_xor_mark (hr.mono (by omega)) (by rfl) (pa_cons (pe_ix (r := rIxL K) ix_list (pv 0) (pv 3) (fun _ _ => rfl)) (pa_cons (pe_ix (r := rIxL K) ix_list (pv 1) (pv 3) (fun _ _ => rfl)) pa_nil)))))
      (pss_cons (ps_if (pt_cmpR (r := rIn K false) op_in_seq pe_int (pv 2) (by rfl)) (pss_one (ps_ret pe_int)) pss_nil)
      (pss_cons (ps_if (pt_cmpR (r := rIn K false) op_in_seq pe_int (pv 2) (by rfl)) (pss_one (ps_ret pe_int)) pss_nil)
      (pss_one (ps_ret pe_int))))), ?_⟩
    refine ⟨_, rfl, a, _, rfl, .inl ha, _, rfl, by omega, by rw [List.length_map]; omega, fun D hD => ?_⟩
    refine lc_zip (K := K) (f := xorM) (fun x y H Q E q => ⟨x, y, rfl, q⟩) (Same.refl H) hD ha hb hl hz (fun _ => rfl) (fun _ => rfl) (fun _ => rfl) (fun _ => rfl) ?_
    intro H' s1 hp
    refine ⟨_, rfl, D, _, rfl, .inl (SqL.of hp), rfl, flat_vs _, _, rfl, ?_⟩
    have e1 : inV (V.int 1) (vs (List.zipWith xorM xs ys)) = decide (1 ∈ List.zipWith xorM xs ys) := in_vs 1 _
    have e2 : inV (V.int 2) (vs (List.zipWith xorM xs ys)) = decide (2 ∈ List.zipWith xorM xs ys) := in_vs 2 _
    have ed : sameM xs ys = if 1 ∈ List.zipWith xorM xs ys then 0 else if 2 ∈ List.zipWith xorM xs ys then 2 else 1 := rfl
    refine ite2 (fun h => ?_) (fun h => ?_)
    · have h : 1 ∈ List.zipWith xorM xs ys := of_decide_eq_true (e1.symm.trans h)
      refine q _ _ s1 ?_
      rw [ed, if_pos h]
      rfl
    · have h : ¬ 1 ∈ List.zipWith xorM xs ys := fun z => h (e1.trans (decide_eq_true z))
      refine ⟨_, rfl, D, _, rfl, .inl (SqL.of hp), rfl, flat_vs _, _, rfl, ?_⟩
      refine ite2 (fun h2 => ?_) (fun h2 => ?_)
      · have h2 : 2 ∈ List.zipWith xorM xs ys := of_decide_eq_true (e2.symm.trans h2)
        refine q _ _ s1 ?_
        rw [ed, if_neg h, if_pos h2]
        rfl
      · have h2 : ¬ 2 ∈ List.zipWith xorM xs ys := fun z => h2 (e2.trans (decide_eq_true z))
        refine q _ _ s1 ?_
        rw [ed, if_neg h, if_neg h2]
        rfl
/-! ### two_dims -/
def formS : Op → Str
  | .and => "and"
  | .or => "or"
  | .plus => "plus"
  | .less => "less"
  | .same => "same"
  | .join => "join"
def opM : Op → List Nat → List Nat → List Nat
  | .and, xs, ys => List.zipWith andM xs ys
  | .or, xs, ys => List.zipWith orM xs ys
  | .plus, xs, ys => (sumM xs ys 0).1
  | .less, xs, ys => [tb (sumM xs (ys.map tb) 1).2]
  | .same, xs, ys => [sameM xs ys]
  | .join, xs, ys => ys ++ xs
theorem dimT_bin (e : Sr → Str → List Nat) (o : Op) (t u : Tm) : dimT e (.bin o t u) = opM o (dimT e t) (dimT e u) := by cases o <;> rfl
def sp_two_dims (K : PySem.W.Frag) : Sp := fun vs_ H Q _ => ∃ (o : Op) (a b : Addr) (xs ys : List Nat), vs_ = [.str (formS o), .ref a, .ref b] ∧ o ≠ .join ∧ SqL K H a (vs xs) ∧ SqL K H b (vs ys) ∧ xs.length = ys.length ∧ xs.length ≤ 1000 ∧ M2 xs ∧ M2 ys ∧
  Ret H Q fun r H' => ∃ p, r = .ref p ∧ H p = none ∧ H' p = some (.lst (vs (opM o xs ys)))
theorem sum_m2 {xs ys : List Nat} {c : Nat} (h1 : M2 xs) (h2 : M2 ys) (hc : c ≤ 2) : (sumM xs ys c).2 ≤ 2 := (sum_b (b := 2) xor2 (fun _ _ _ _ _ _ => car2 _ _ _) h1 h2 hc).2
theorem ok_two_dims (T : Txt K mg) : Ok P w K mg base "two_dims" ["form", "one", "other"] 3 (sp_two_dims K) := by
  have G_and_mark : Ok P w K mg base "and_mark" _ 1 _ := ok_and_mark T
  have G_or_mark : Ok P w K mg base "or_mark" _ 1 _ := ok_or_mark T
  have G_summed : Ok P w K mg base "summed" _ 2 _ := ok_summed T
  have G_turned : Ok P w K mg base "turned" _ 1 _ := ok_turned T
  have G_same_mark : Ok P w K mg base "same_mark" _ 2 _ := ok_same_mark T
  refine T.d_two_dims.ok sc_two_dims (fun vs H Q E h => ?_) (fun cdv A outer s H vs_ Q E hr h => ?_)
  · obtain ⟨o, a, b, xs, ys, rfl, _⟩ := h
    rfl
  · obtain ⟨o, a, b, xs, ys, rfl, ho, ha, hb, hl, hz, m1, m2, q⟩ := h
    refine ⟨_, (pss_cons (ps_if (pt_cmpR op_eq (pv 0) pe_str (nomark _)) (pss_one (ps_ret (pe_lc (own := [("k", 3)]) (g := gName 3) (by rfl) sc_two_dims.nd (pi_range1 (by rfl) T.z_range (pa_cons (pe_callB (r := rLn K) call_len_seq (by rfl) T.z_len PySem.boot_len (pa_cons (pv 1) pa_nil)) pa_nil)) (blkOk_by (N := N_two_dims) (sc := defScope s_two_dims) (by decide +kernel)) (fun _ _ _ _ _ => pg_name (i := 3) sc_two_dims.nd rfl (Or.inl rfl)) (fun _ _ _ _ _ => pts_nil) (fun _ _ _ _ _ => (pe_c T.d_and_mark G_and_mark (hr.mono (by omega)) (by rfl) (pa_cons (pe_ix (r := rIxL K) ix_list (pv 1) (pv 3) (fun _ _ => rfl)) (pa_cons (pe_ix (r := rIxL K) ix_list (pv 2) (pv 3) (fun _ _ => rfl)) pa_nil))))))) pss_nil)
      (pss_cons (ps_if (pt_cmpR op_eq (pv 0) pe_str (nomark _)) (pss_one (ps_ret (pe_lc (own := [("k", 3)]) (g := gName 3) (by rfl) sc_two_dims.nd (pi_range1 (by rfl) T.z_range (pa_cons (pe_callB (r := rLn K) call_len_seq (by rfl) T.z_len PySem.boot_len (pa_cons (pv 1) pa_nil)) pa_nil)) (blkOk_by (N := N_two_dims) (sc := defScope s_two_dims) (by decide +kernel)) (fun _ _ _ _ _ => pg_name (i := 3) sc_two_dims.nd rfl (Or.inl rfl)) (fun _ _ _ _ _ => pts_nil) (fun _ _ _ _ _ => (pe_c T.d_or_mark G_or_mark (hr.mono (by omega)) (by rfl) (pa_cons (pe_ix (r := rIxL K) ix_list (pv 1) (pv 3) (fun _ _ => rfl)) (pa_cons (pe_ix (r := rIxL K) ix_list (pv 2) (pv 3) (fun _ _ => rfl)) pa_nil))))))) pss_nil)
      (pss_cons (ps_if (pt_cmpR op_eq (pv 0) pe_str (nomark _)) (pss_one ps_never) pss_nil)
      (pss_cons (ps_if (pt_cmpR op_eq (pv 0) pe_str (nomark _)) (pss_one (ps_ret (pe_ix (r := rIxT K) ix_tup (pe_c T.d_summed G_summed (hr.mono (by omega)) (by rfl) (pa_cons (pv 1) (pa_cons (pv 2) (pa_cons pe_int pa_nil)))) pe_int (fun _ _ => rfl)))) pss_nil)
      (pss_cons (ps_if (pt_cmpR op_eq (pv 0) pe_str (nomark _)) (pss_one ps_never) pss_nil)
      (pss_cons (ps_if (pt_cmpR op_eq (pv 0) pe_str (nomark _)) (pss_one (ps_ret (pe_c T.d_turned G_turned (hr.mono (by omega)) (by rfl) (pa_cons (pe_lst (pa_cons (pe_ix (r := rIxT K) ix_tup (pe_c T.d_summed G_summed (hr.mono (by omega)) (by rfl) (pa_cons (pv 1) (pa_cons (pe_c T.d_turned G_turned (hr.mono (by omega)) (by rfl) (pa_cons (pv 2) pa_nil)) (pa_cons pe_int pa_nil)))) pe_int (fun _ _ => rfl)) pa_nil)) pa_nil)))) pss_nil)
      (pss_one (ps_ret (pe_lst (pa_cons (pe_c T.d_same_mark G_same_mark (hr.mono (by omega)) (by rfl) (pa_cons (pv 1) (pa_cons (pv 2) pa_nil))) pa_nil)))))))))), ?_⟩
    have tn : (ys.map tb).length = ys.length := List.length_map ..
    cases o with
    | and =>
      refine rf_yes rfl rfl ?_
      refine ⟨_, rfl, a, _, rfl, .inl ha, _, rfl, by omega, by rw [List.length_map]; omega, fun D hD => ?_⟩
      exact lc_zip (K := K) (f := andM) (fun x y H Q E q => ⟨x, y, rfl, q⟩) (Same.refl H) hD ha hb hl hz (fun _ => rfl) (fun _ => rfl) (fun _ => rfl) (fun _ => rfl) fun H' s1 hp => q _ _ s1 ⟨D, rfl, hD, hp⟩
    | or =>
      refine rf_no rfl (by decide +kernel) (rf_yes rfl rfl ?_)
      refine ⟨_, rfl, a, _, rfl, .inl ha, _, rfl, by omega, by rw [List.length_map]; omega, fun D hD => ?_⟩
      exact lc_zip (K := K) (f := orM) (fun x y H Q E q => ⟨x, y, rfl, q⟩) (Same.refl H) hD ha hb hl hz (fun _ => rfl) (fun _ => rfl) (fun _ => rfl) (fun _ => rfl) fun H' s1 hp => q _ _ s1 ⟨D, rfl, hD, hp⟩
    | plus =>
      refine rf_no rfl (by decide +kernel) (rf_no rfl (by decide +kernel) (rf_no rfl (by decide +kernel) (rf_yes rfl rfl ?_)))
      refine ⟨_, rfl, _, rfl, a, b, xs, ys, 0, rfl, ha, hb, hl, hz, fun v H1 s1 ⟨t, p, ev, nt, np, ht, hp⟩ => ?_⟩
      subst ev
      exact ⟨t, _, 0, _, rfl, rfl, SqT.of ht, rfl, q _ _ s1 ⟨p, rfl, np, hp⟩⟩
    | less =>
      refine rf_no rfl (by decide +kernel) (rf_no rfl (by decide +kernel) (rf_no rfl (by decide +kernel) (rf_no rfl (by decide +kernel) (rf_no rfl (by decide +kernel) (rf_yes rfl rfl ?_)))))
      refine ⟨_, rfl, _, rfl, b, ys, rfl, hb, m2, by omega, fun v H1 s1 ⟨p1, ev, np1, hp1⟩ => ?_⟩
      subst ev
      refine ⟨a, p1, xs, ys.map tb, 1, rfl, s1.seq ha, SqL.of hp1, by omega, hz, fun v H2 s2 ⟨t, p, ev, nt, np, ht, hp⟩ => ?_⟩
      subst ev
      refine ⟨t, _, 1, _, rfl, rfl, SqT.of ht, rfl, by show 1 ≤ sizeLine; decide, fun l nl => ?_⟩
      have s3 := (s1.trans s2).newT (o := .lst [vN (sumM xs (ys.map tb) 1).2]) nl
      refine ⟨l, [(sumM xs (ys.map tb) 1).2], rfl, SqL.of upd_same, ?_, by show 1 ≤ 1000; decide, fun v H3 s4 ⟨p3, ev, np3, hp3⟩ => ?_⟩
      · intro m hm
        cases List.mem_singleton.mp hm
        exact sum_m2 m1 (tb_b (fun _ _ => tb_m2) m2) (by decide)
      · subst ev
        exact q _ _ (s3.trans s4) ⟨p3, rfl, s3.free np3, hp3⟩
    | same =>
      refine rf_no rfl (by decide +kernel) (rf_no rfl (by decide +kernel) (rf_no rfl (by decide +kernel) (rf_no rfl (by decide +kernel) (rf_no rfl (by decide +kernel) (rf_no rfl (by decide +kernel) ?_)))))
      refine ⟨_, rfl, _, rfl, a, b, xs, ys, rfl, ha, hb, hl, hz, fun v H1 s1 ev => ?_⟩
      subst ev
      exact ⟨by show 1 ≤ sizeLine; decide, fun l nl => q _ _ (s1.newT nl) ⟨l, rfl, s1.free nl, upd_same⟩⟩
    | join => exact absurd rfl ho
end
end K24

set_option Elab.async false
set_option linter.all false
set_option maxRecDepth 100000
set_option maxHeartbeats 4000000
/-! Terms in the heap; dim. -/
namespace K24
open PySem PySem.Spec PyProof.Rows L2
/-! ### terms in the heap -/
def srS : Sr → Str
  | .box => "box"
  | .late => "late"
  | .door => "door"
def TmAt (H : Hp) : Tm → V → Prop
  | .num w x, v => ∃ a, v = .ref a ∧ H a = some (.tup [.str "num", vN w, vN x])
  | .leaf s n, v => ∃ a, v = .ref a ∧ H a = some (.tup [.str (srS s), .str n])
  | .not t, v => ∃ a u, v = .ref a ∧ H a = some (.tup [.str "not", u]) ∧ TmAt H t u
  | .bin o t u, v => ∃ a x y, v = .ref a ∧ H a = some (.tup [.str (formS o), x, y]) ∧ TmAt H t x ∧ TmAt H u y
  | .part t low many, v => ∃ a u, v = .ref a ∧ H a = some (.tup [.str "part", u, vN low, vN many]) ∧ TmAt H t u
theorem TmAt.same {H H' : Hp} (s0 : Same H H') : ∀ {t : Tm} {v : V}, TmAt H t v → TmAt H' t v
  | .num w x, v, h => by
    obtain ⟨a, rfl, h1⟩ := h
    exact ⟨a, rfl, s0 _ _ h1⟩
  | .leaf s n, v, h => by
    obtain ⟨a, rfl, h1⟩ := h
    exact ⟨a, rfl, s0 _ _ h1⟩
  | .not t, v, h => by
    obtain ⟨a, u, rfl, h1, h2⟩ := h
    exact ⟨a, u, rfl, s0 _ _ h1, TmAt.same s0 (t := t) h2⟩
  | .bin o t u, v, h => by
    obtain ⟨a, x, y, rfl, h1, h2, h3⟩ := h
    exact ⟨a, x, y, rfl, s0 _ _ h1, TmAt.same s0 (t := t) h2, TmAt.same s0 (t := u) h3⟩
  | .part t low many, v, h => by
    obtain ⟨a, u, rfl, h1, h2⟩ := h
    exact ⟨a, u, rfl, s0 _ _ h1, TmAt.same s0 (t := t) h2⟩
/-- a term stands where all but lists is kept -/
theorem tm_keep {H H' : Hp} (k : ∀ b o, H b = some o → (∀ xs, o ≠ .lst xs) → H' b = some o) : ∀ {t : Tm} {v : V}, TmAt H t v → TmAt H' t v
  | .num w x, v, h => by
    obtain ⟨a, rfl, h1⟩ := h
    exact ⟨a, rfl, k _ _ h1 nofun⟩
  | .leaf s n, v, h => by
    obtain ⟨a, rfl, h1⟩ := h
    exact ⟨a, rfl, k _ _ h1 nofun⟩
  | .not t, v, h => by
    obtain ⟨a, u, rfl, h1, h2⟩ := h
    exact ⟨a, u, rfl, k _ _ h1 nofun, tm_keep k (t := t) h2⟩
  | .bin o t u, v, h => by
    obtain ⟨a, x, y, rfl, h1, h2, h3⟩ := h
    exact ⟨a, x, y, rfl, k _ _ h1 nofun, tm_keep k (t := t) h2, tm_keep k (t := u) h3⟩
  | .part t low many, v, h => by
    obtain ⟨a, u, rfl, h1, h2⟩ := h
    exact ⟨a, u, rfl, k _ _ h1 nofun, tm_keep k (t := t) h2⟩
/-- a dict from names to lists of marks: what e says, for the names ns -/
def DLs (H : Hp) (d : Addr) (ns : List Str) (e : Str → List Nat) : Prop := ∃ kvs : List (Key × V), H d = some (.dK kvs) ∧ ∀ n ∈ ns, ∃ a, valV kvs (.inr n) = some (.ref a) ∧ H a = some (.lst (vs (e n)))
theorem DLs.same {H H' : Hp} {d : Addr} {ns : List Str} {e : Str → List Nat} (h : DLs H d ns e) (s0 : Same H H') : DLs H' d ns e := by
  obtain ⟨kvs, h1, h2⟩ := h
  exact ⟨kvs, s0 _ _ h1, fun n hn => let ⟨a, q1, q2⟩ := h2 n hn; ⟨a, q1, s0 _ _ q2⟩⟩
theorem DLs.sub {H : Hp} {d : Addr} {ns ns' : List Str} {e : Str → List Nat} (h : DLs H d ns e) (k : ∀ n ∈ ns', n ∈ ns) : DLs H d ns' e := by
  obtain ⟨kvs, h1, h2⟩ := h
  exact ⟨kvs, h1, fun n hn => h2 n (k n hn)⟩
/-- the three dicts that a term reads -/
structure Env3 (H : Hp) (de dl dd : Addr) (t : Tm) (e : Sr → Str → List Nat) : Prop where
  box : DLs H de (nms .box t) (e .box)
  late : DLs H dl (nms .late t) (e .late)
  door : DLs H dd (nms .door t) (e .door)
theorem Env3.same {H H' : Hp} {de dl dd : Addr} {t : Tm} {e : Sr → Str → List Nat} (h : Env3 H de dl dd t e) (s0 : Same H H') : Env3 H' de dl dd t e := ⟨h.box.same s0, h.late.same s0, h.door.same s0⟩
theorem Env3.sub {H : Hp} {de dl dd : Addr} {t u : Tm} {e : Sr → Str → List Nat} (h : Env3 H de dl dd t e) (k : ∀ s, ∀ n ∈ nms s u, n ∈ nms s t) : Env3 H de dl dd u e := ⟨h.box.sub (k _), h.late.sub (k _), h.door.sub (k _)⟩
/-- the marks fit the widths -/
def EnvW (W : Ws) (t : Tm) (e : Sr → Str → List Nat) : Prop := (∀ s n w, n ∈ nms s t → W.of s n = some w → (e s n).length = w) ∧ ∀ s n, n ∈ nms s t → M2 (e s n)
theorem EnvW.sub {W : Ws} {t u : Tm} {e : Sr → Str → List Nat} (h : EnvW W t e) (k : ∀ s, ∀ n ∈ nms s u, n ∈ nms s t) : EnvW W u e := ⟨fun s n w hn => h.1 s n w (k s n hn), fun s n hn => h.2 s n (k s n hn)⟩
def sp_dim (d : Nat) : Sp := fun vs_ H Q _ => ∃ (v : V) (de dl dd : Addr) (t : Tm) (W : Ws) (k : Nat) (e : Sr → Str → List Nat), vs_ = [v, .ref de, .ref dl, .ref dd] ∧ TmAt H t v ∧ dp t ≤ d ∧ WsOk W ∧ Wd W t k ∧ Env3 H de dl dd t e ∧ EnvW W t e ∧
  Ret H Q fun r H' => ∃ p, r = .ref p ∧ H p = none ∧ H' p = some (.lst (vs (dimT e t)))
section
variable {P : Program} {w : World} {K : PySem.W.Frag} {mg : Str → Option Value} {base : Heap}
theorem cut_vs (ms : List Nat) (low many : Nat) : cutV (vs ms) (some (low : Int)) (some ((low : Int) + (many : Int))) = vs ((ms.drop low).take many) := by
  unfold cutV
  have e1 : HT.sIx (vs ms).length 0 (some (low : Int)) = min low ms.length := by rw [HT.sIx_nat, List.length_map]
  have e2 : HT.sIx (vs ms).length (vs ms).length (some ((low : Int) + (many : Int))) = min (low + many) ms.length := by
    rw [show (low : Int) + (many : Int) = ((low + many : Nat) : Int) by omega, HT.sIx_nat, List.length_map]
  rw [e1, e2]
  show (((ms.map vN).drop (min low ms.length)).take (min (low + many) ms.length - min low ms.length)) = ((ms.drop low).take many).map vN
  rw [List.map_take, List.map_drop]
  by_cases h : low ≤ ms.length
  · rw [Nat.min_eq_left h]
    by_cases h2 : low + many ≤ ms.length
    · rw [Nat.min_eq_left h2, Nat.add_sub_cancel_left]
    · rw [Nat.min_eq_right (by omega), List.take_of_length_le (by rw [List.length_drop, List.length_map]; omega), List.take_of_length_le (by rw [List.length_drop, List.length_map]; omega)]
  · rw [Nat.min_eq_right (by omega), List.drop_of_length_le (by rw [List.length_map]; omega), List.drop_of_length_le (by rw [List.length_map]; omega), List.take_nil, List.take_nil]
/-- list(d[n]) of such a dict -/
theorem rd_copy {H : Hp} {d : Addr} {ns : List Str} {e : Str → List Nat} (h : DLs H d ns e) {n : Str} (hn : n ∈ ns) : ∃ a, DGet H d (.str n) (some (.ref a)) ∧ H a = some (.lst (vs (e n))) := by
  obtain ⟨kvs, h1, h2⟩ := h
  obtain ⟨a, q1, q2⟩ := h2 n hn
  refine ⟨a, ?_, q2⟩
  have g := DGet.k (k := Sum.inr n) h1
  rw [q1] at g
  exact g
theorem mem_leaf (s : Sr) (n : Str) : n ∈ nms s (.leaf s n) := by
  show n ∈ (if s = s then [n] else [])
  rw [if_pos rfl]
  exact List.mem_singleton.mpr rfl
theorem ok_dim (T : Txt K mg) : ∀ d : Nat, Ok P w K mg base "dim" ["term", "early", "late", "doors"] (4 + d) (sp_dim d)
  | 0 => by
    refine T.d_dim.ok (k := 3) sc_dim (fun vs H Q E h => ?_) (fun cdv A outer s H vs_ Q E hr h => ?_)
    · obtain ⟨v, de, dl, dd, t, W, k, e, rfl, _⟩ := h
      rfl
    · obtain ⟨v, de, dl, dd, t, W, k, e, rfl, _, hd, _⟩ := h
      cases t <;> cases hd
  | d + 1 => by
    have G_dim : Ok P w K mg base "dim" _ (4 + d) _ := ok_dim T d
    have G_bits_of : Ok P w K mg base "bits_of" _ 1 _ := ok_bits_of T
    have G_turned : Ok P w K mg base "turned" _ 1 _ := ok_turned T
    have G_two_dims : Ok P w K mg base "two_dims" _ 3 _ := ok_two_dims T
    refine T.d_dim.ok (k := 4 + d) sc_dim (fun vs H Q E h => ?_) (fun cdv A outer s H vs_ Q E hr h => ?_)
    · obtain ⟨v, de, dl, dd, t, W, k, e, rfl, _⟩ := h
      rfl
    · obtain ⟨v, de, dl, dd, t, W, k, e, rfl, ht, hd, ok, hw, he, hm, q⟩ := h
      refine ⟨_, (pss_cons (ps_if (pt_cmpR op_eq (pe_ix (r := rIxT K) ix_tup (pv 0) pe_int (fun _ _ => rfl)) pe_str (nomark _)) (pss_one (ps_ret (pe_c T.d_bits_of G_bits_of (hr.mono (by omega)) (by rfl) (pa_cons (pe_ix (r := rIxT K) ix_tup (pv 0) pe_int (fun _ _ => rfl)) (pa_cons (pe_ix (r := rIxT K) ix_tup (pv 0) pe_int (fun _ _ => rfl)) pa_nil))))) pss_nil)
      (pss_cons (ps_if (pt_cmpR op_eq (pe_ix (r := rIxT K) ix_tup (pv 0) pe_int (fun _ _ => rfl)) pe_str (nomark _)) (pss_one (ps_ret (pe_callTy (r := rLo K) call_list_of (by rfl) T.z_list PyProof.Rows.boot_list (pa_cons (pe_dget (hu_of hr) (pv 1) (pe_ix (r := rIxT K) ix_tup (pv 0) pe_int (fun _ _ => rfl)) (fun _ _ => rfl)) pa_nil)))) pss_nil)
      (pss_cons (ps_if (pt_cmpR op_eq (pe_ix (r := rIxT K) ix_tup (pv 0) pe_int (fun _ _ => rfl)) pe_str (nomark _)) (pss_one (ps_ret (pe_callTy (r := rLo K) call_list_of (by rfl) T.z_list PyProof.Rows.boot_list (pa_cons (pe_dget (hu_of hr) (pv 2) (pe_ix (r := rIxT K) ix_tup (pv 0) pe_int (fun _ _ => rfl)) (fun _ _ => rfl)) pa_nil)))) pss_nil)
      (pss_cons (ps_if (pt_cmpR op_eq (pe_ix (r := rIxT K) ix_tup (pv 0) pe_int (fun _ _ => rfl)) pe_str (nomark _)) (pss_one (ps_ret (pe_callTy (r := rLo K) call_list_of (by rfl) T.z_list PyProof.Rows.boot_list (pa_cons (pe_dget (hu_of hr) (pv 3) (pe_ix (r := rIxT K) ix_tup (pv 0) pe_int (fun _ _ => rfl)) (fun _ _ => rfl)) pa_nil)))) pss_nil)
      (pss_cons (ps_set (i := 4) sc_dim.nd rfl (Or.inl rfl) (pe_c T.d_dim G_dim (hr.mono (by omega)) (by rfl) (pa_cons (pe_ix (r := rIxT K) ix_tup (pv 0) pe_int (fun _ _ => rfl)) (pa_cons (pv 1) (pa_cons (pv 2) (pa_cons (pv 3) pa_nil))))))
      (pss_cons (ps_if (pt_cmpR op_eq (pe_ix (r := rIxT K) ix_tup (pv 0) pe_int (fun _ _ => rfl)) pe_str (nomark _)) (pss_one (ps_ret (pe_c T.d_turned G_turned (hr.mono (by omega)) (by rfl) (pa_cons (pv 4) pa_nil)))) pss_nil)
      (pss_cons (ps_if (pt_cmpR op_eq (pe_ix (r := rIxT K) ix_tup (pv 0) pe_int (fun _ _ => rfl)) pe_str (nomark _)) (pss_one (ps_ret (pe_slice (r := rSlL K) sl_list (pv 4) (po_some (pe_ix (r := rIxT K) ix_tup (pv 0) pe_int (fun _ _ => rfl))) (po_some (pe_op op_add (pe_ix (r := rIxT K) ix_tup (pv 0) pe_int (fun _ _ => rfl)) (pe_ix (r := rIxT K) ix_tup (pv 0) pe_int (fun _ _ => rfl))))))) pss_nil)
      (pss_cons (ps_set (i := 5) sc_dim.nd rfl (Or.inl rfl) (pe_c T.d_dim G_dim (hr.mono (by omega)) (by rfl) (pa_cons (pe_ix (r := rIxT K) ix_tup (pv 0) pe_int (fun _ _ => rfl)) (pa_cons (pv 1) (pa_cons (pv 2) (pa_cons (pv 3) pa_nil))))))
      (pss_cons (ps_if (pt_cmpR op_eq (pe_ix (r := rIxT K) ix_tup (pv 0) pe_int (fun _ _ => rfl)) pe_str (nomark _)) (pss_one ps_never) pss_nil)
      (pss_cons (ps_if (pt_cmpR op_eq (pe_ix (r := rIxT K) ix_tup (pv 0) pe_int (fun _ _ => rfl)) pe_str (nomark _)) (pss_one (ps_ret (pe_op op_cat (pv 5) (pv 4)))) pss_nil)
      (pss_one (ps_ret (pe_c T.d_two_dims G_two_dims (hr.mono (by omega)) (by rfl) (pa_cons (pe_ix (r := rIxT K) ix_tup (pv 0) pe_int (fun _ _ => rfl)) (pa_cons (pv 4) (pa_cons (pv 5) pa_nil)))))))))))))))), ?_⟩
      have wb := wd_bounds ok hw
      have len := dim_len hw hm.1
      cases t with
      | num w' x =>
        obtain ⟨a, rfl, ha⟩ := ht
        refine rd_yes rfl ha rfl ?_
        refine ⟨_, rfl, a, _, 1, _, rfl, rfl, SqT.of ha, rfl, _, rfl, a, _, 2, _, rfl, rfl, SqT.of ha, rfl, w', x, rfl, ?_, q⟩
        obtain ⟨_, _, h64, _⟩ := hw
        exact h64
      | leaf s n =>
        obtain ⟨a, rfl, ha⟩ := ht
        have wl : W.of s n = some k := hw
        have el : (e s n).length = k := hm.1 s n k (mem_leaf s n) wl
        cases s with
        | box =>
          obtain ⟨b, g, hb⟩ := rd_copy he.box (mem_leaf .box n)
          refine rd_no rfl ha (by decide +kernel) (rd_yes rfl ha rfl ?_)
          refine ⟨_, rfl, _, rfl, a, _, 1, _, rfl, rfl, SqT.of ha, rfl, de, _, rfl, g, b, _, rfl, .inl (SqL.of hb), fun l nl => ?_⟩
          exact q _ _ (Same.new nl) ⟨l, rfl, nl, upd_same⟩
        | late =>
          obtain ⟨b, g, hb⟩ := rd_copy he.late (mem_leaf .late n)
          refine rd_no rfl ha (by decide +kernel) (rd_no rfl ha (by decide +kernel) (rd_yes rfl ha rfl ?_))
          refine ⟨_, rfl, _, rfl, a, _, 1, _, rfl, rfl, SqT.of ha, rfl, dl, _, rfl, g, b, _, rfl, .inl (SqL.of hb), fun l nl => ?_⟩
          exact q _ _ (Same.new nl) ⟨l, rfl, nl, upd_same⟩
        | door =>
          obtain ⟨b, g, hb⟩ := rd_copy he.door (mem_leaf .door n)
          refine rd_no rfl ha (by decide +kernel) (rd_no rfl ha (by decide +kernel) (rd_no rfl ha (by decide +kernel) (rd_yes rfl ha rfl ?_)))
          refine ⟨_, rfl, _, rfl, a, _, 1, _, rfl, rfl, SqT.of ha, rfl, dd, _, rfl, g, b, _, rfl, .inl (SqL.of hb), fun l nl => ?_⟩
          exact q _ _ (Same.new nl) ⟨l, rfl, nl, upd_same⟩
      | not t =>
        obtain ⟨a, u, rfl, ha, hu⟩ := ht
        refine rd_no rfl ha (by decide +kernel) (rd_no rfl ha (by decide +kernel) (rd_no rfl ha (by decide +kernel) (rd_no rfl ha (by decide +kernel) ?_)))
        refine ⟨_, rfl, a, _, 1, _, rfl, rfl, SqT.of ha, rfl, _, rfl, _, rfl, _, rfl, u, de, dl, dd, t, W, k, e, rfl, hu, by have : dp t + 1 ≤ d + 1 := hd; omega, ok, hw, he.sub fun _ _ h => h, hm.sub fun _ _ h => h, fun v H1 s1 ⟨p, ev, np, hp⟩ => ?_⟩
        subst ev
        refine rd_yes rfl (s1 _ _ ha) rfl ?_
        have l1 := dim_len (t := t) hw hm.1
        refine ⟨_, rfl, p, dimT e t, rfl, SqL.of hp, dim_m2 hm.2, by omega, fun v H2 s2 ⟨p2, ev, np2, hp2⟩ => ?_⟩
        subst ev
        exact q _ _ (s1.trans s2) ⟨p2, rfl, s1.free np2, hp2⟩
      | part t low many =>
        obtain ⟨a, u, rfl, ha, hu⟩ := ht
        obtain ⟨_, _, j, hj, hlm⟩ := hw
        refine rd_no rfl ha (by decide +kernel) (rd_no rfl ha (by decide +kernel) (rd_no rfl ha (by decide +kernel) (rd_no rfl ha (by decide +kernel) ?_)))
        refine ⟨_, rfl, a, _, 1, _, rfl, rfl, SqT.of ha, rfl, _, rfl, _, rfl, _, rfl, u, de, dl, dd, t, W, j, e, rfl, hu, by have : dp t + 1 ≤ d + 1 := hd; omega, ok, hj, he.sub fun _ _ h => h, hm.sub fun _ _ h => h, fun v H1 s1 ⟨p, ev, np, hp⟩ => ?_⟩
        subst ev
        have h1 := s1 _ _ ha
        refine rd_no rfl h1 (by decide +kernel) (rd_yes rfl h1 rfl ?_)
        refine ⟨_, rfl, _, rfl, a, _, 2, _, rfl, rfl, SqT.of h1, rfl, _, rfl, _, rfl, a, _, 2, _, rfl, rfl, SqT.of h1, rfl, _, rfl, a, _, 3, _, rfl, rfl, SqT.of h1, rfl, _, _, rfl, rfl, _, rfl, p, _, rfl, SqL.of hp, fun l nl => ?_⟩
        refine q _ _ (s1.newT nl) ⟨l, rfl, s1.free nl, ?_⟩
        rw [upd_same, cut_vs]
        rfl
      | bin o t u =>
        obtain ⟨a, x, y, rfl, ha, hx, hy⟩ := ht
        have dle : max (dp t) (dp u) + 1 ≤ d + 1 := hd
        have hh : ∃ i j, Wd W t i ∧ Wd W u j := by
          cases o with
          | and => exact ⟨_, _, hw.1, hw.2⟩
          | or => exact ⟨_, _, hw.1, hw.2⟩
          | plus => exact ⟨_, _, hw.1, hw.2⟩
          | less => obtain ⟨_, j, a, b⟩ := hw; exact ⟨_, _, a, b⟩
          | same => obtain ⟨_, j, a, b⟩ := hw; exact ⟨_, _, a, b⟩
          | join => obtain ⟨i, j, a, b, _⟩ := hw; exact ⟨_, _, a, b⟩
        obtain ⟨i, j, wt, wu⟩ := hh
        have ms : ∀ s, ∀ n ∈ nms s t, n ∈ nms s (.bin o t u) := fun s n h => List.mem_append_left _ h
        have mu : ∀ s, ∀ n ∈ nms s u, n ∈ nms s (.bin o t u) := fun s n h => List.mem_append_right _ h
        have lt := dim_len wt (hm.sub ms).1
        have lu := dim_len wu (hm.sub mu).1
        have bt := wd_bounds ok wt
        have bu := wd_bounds ok wu
        have no : ∀ z : Str, z ∈ (["num", "box", "late", "door", "not", "part", "pick"] : List Str) → formS o ≠ z := by
          cases o <;> decide +kernel
        refine rd_no rfl ha (no _ (by decide +kernel)) (rd_no rfl ha (no _ (by decide +kernel)) (rd_no rfl ha (no _ (by decide +kernel)) (rd_no rfl ha (no _ (by decide +kernel)) ?_)))
        refine ⟨_, rfl, a, _, 1, _, rfl, rfl, SqT.of ha, rfl, _, rfl, _, rfl, _, rfl, x, de, dl, dd, t, W, i, e, rfl, hx, by omega, ok, wt, he.sub ms, hm.sub ms, fun v H1 s1 ⟨p, ev, np, hp⟩ => ?_⟩
        subst ev
        have h1 := s1 _ _ ha
        refine rd_no rfl h1 (no _ (by decide +kernel)) (rd_no rfl h1 (no _ (by decide +kernel)) ?_)
        refine ⟨_, rfl, a, _, 2, _, rfl, rfl, SqT.of h1, rfl, _, rfl, _, rfl, _, rfl, y, de, dl, dd, u, W, j, e, rfl, TmAt.same s1 hy, by omega, ok, wu, (he.same s1).sub mu, hm.sub mu, fun v H2 s2 ⟨p2, ev, np2, hp2⟩ => ?_⟩
        subst ev
        have h2 := s2 _ _ h1
        refine rd_no rfl h2 (no _ (by decide +kernel)) ?_
        have hp1 := s2 _ _ hp
        by_cases ho : o = .join
        · subst ho
          refine rd_yes rfl h2 rfl ?_
          refine ⟨_, rfl, _, rfl, p2, p, _, _, rfl, rfl, hp2, hp1, ?_, fun l nl => ?_⟩
          · rw [List.length_map, List.length_map, lt, lu]
            exact line_of (by omega)
          · refine q _ _ ((s1.trans s2).newT nl) ⟨l, rfl, (s1.trans s2).free nl, ?_⟩
            rw [upd_same, ← vs_app]
            rfl
        · have eij : i = j := by
            obtain ⟨m, w1, w2, _⟩ := dim_len2 hw ho hm.1
            exact (wd_uniq wt w1).trans (wd_uniq wu w2).symm
          refine rd_no rfl h2 (by cases o <;> first | decide +kernel | exact absurd rfl ho) ?_
          refine ⟨_, rfl, a, _, 0, _, rfl, rfl, SqT.of h2, rfl, _, rfl, _, rfl, o, p, p2, dimT e t, dimT e u, rfl, ho, SqL.of hp1, SqL.of hp2, by omega, by omega, dim_m2 (hm.sub ms).2, dim_m2 (hm.sub mu).2, fun v H3 s3 ⟨p3, ev, np3, hp3⟩ => ?_⟩
          subst ev
          refine q _ _ ((s1.trans s2).trans s3) ⟨p3, rfl, (s1.trans s2).free np3, ?_⟩
          rw [dimT_bin]
          exact hp3
end
end K24

set_option Elab.async false
set_option linter.all false
set_option maxRecDepth 100000
set_option maxHeartbeats 4000000
/-! Terms: inner, sizes, widths. -/
namespace K24
open PySem PySem.Spec PyProof.Rows L2
/-- a tag among some -/
theorem rd_in {K : PySem.W.Frag} {i : Nat} {a L : Addr} {x : Str} {r ls : List V} {t u : TS} {D : Ends} {σ : L2.St} {H : Hp} (hσ : σ[i]? = some (some (.ref a))) (hT : H a = some (.tup (.str x :: r))) (hL : SqT K H L ls) (hf : ls.all flatV = true) {b : Bool}
    (hb : inV (.str x) ls = b) (h : if b = true then t D σ H else u D σ H) : tIfS (tTest (tOp (rIn K false) (tOp (rIxT K) (tVar i) (tC (.int 0))) (tC (.ref L)))) t u D σ H := by
  refine ⟨_, hσ, a, _, 0, .str x, rfl, rfl, SqT.of hT, atI_nat (j := 0) rfl, L, ls, rfl, .inr hL, rfl, hf, _, rfl, ?_⟩
  show if inV (.str x) ls = true then _ else _
  rw [hb]
  exact h
def kids : Tm → List Tm
  | .num _ _ => []
  | .leaf _ _ => []
  | .not t => [t]
  | .bin _ t u => [t, u]
  | .part t _ _ => [t]
def KidsAt (H : Hp) (us : List V) (t : Tm) : Prop := us.length = (kids t).length ∧ ∀ (i : Nat) (u : V) (k : Tm), us[i]? = some u → (kids t)[i]? = some k → TmAt H k u
theorem KidsAt.same {H H' : Hp} {us : List V} {t : Tm} (h : KidsAt H us t) (s0 : Same H H') : KidsAt H' us t := ⟨h.1, fun i u k h1 h2 => TmAt.same s0 (h.2 i u k h1 h2)⟩
theorem KidsAt.get {H : Hp} {us : List V} {t : Tm} (h : KidsAt H us t) {i : Nat} {u : V} (hi : us[i]? = some u) : ∃ k, (kids t)[i]? = some k ∧ TmAt H k u := by
  have h1 := (List.getElem?_eq_some_iff.mp hi).1
  rw [h.1] at h1
  exact ⟨_, List.getElem?_eq_getElem h1, h.2 i u _ hi (List.getElem?_eq_getElem h1)⟩
theorem kids0 {H : Hp} {t : Tm} (h : kids t = []) : KidsAt H [] t := ⟨by rw [h]; rfl, fun i u k h1 _ => by cases h1⟩
theorem kids1 {H : Hp} {t k : Tm} {u : V} (h : kids t = [k]) (hu : TmAt H k u) : KidsAt H [u] t := ⟨by rw [h]; rfl, fun i u' k' h1 h2 => by
  rw [h] at h2
  match i, h1, h2 with
  | 0, h1, h2 =>
    cases h1
    cases h2
    exact hu⟩
theorem kids2 {H : Hp} {t k l : Tm} {u v : V} (h : kids t = [k, l]) (hu : TmAt H k u) (hv : TmAt H l v) : KidsAt H [u, v] t := ⟨by rw [h]; rfl, fun i u' k' h1 h2 => by
  rw [h] at h2
  match i, h1, h2 with
  | 0, h1, h2 =>
    cases h1
    cases h2
    exact hu
  | 1, h1, h2 =>
    cases h1
    cases h2
    exact hv⟩
theorem kids_dp {t k : Tm} {d : Nat} (h : k ∈ kids t) (hd : dp t ≤ d + 1) : dp k ≤ d := by
  cases t with
  | num _ _ => cases h
  | leaf _ _ => cases h
  | not t =>
    rw [List.mem_singleton.mp h]
    have : dp t + 1 ≤ d + 1 := hd
    omega
  | part t _ _ =>
    rw [List.mem_singleton.mp h]
    have : dp t + 1 ≤ d + 1 := hd
    omega
  | bin o t u =>
    have : max (dp t) (dp u) + 1 ≤ d + 1 := hd
    rcases List.mem_cons.mp h with rfl | h
    · omega
    · rw [List.mem_singleton.mp h]
      omega
section
variable {P : Program} {w : World} {K : PySem.W.Frag} {mg : Str → Option Value} {base : Heap}
def sp_inner : Sp := fun vs_ H Q _ => ∃ (v : V) (t : Tm), vs_ = [v] ∧ TmAt H t v ∧ Ret H Q fun r H' => ∃ p us, r = .ref p ∧ H p = none ∧ H' p = some (.lst us) ∧ KidsAt H' us t
theorem ok_inner (T : Txt K mg) : Ok P w K mg base "inner" ["term"] 1 sp_inner := by
  refine T.d_inner.ok sc_inner (fun vs H Q E h => ?_) (fun cdv A outer s H vs_ Q E hr h => ?_)
  · obtain ⟨v, t, rfl, _⟩ := h
    rfl
  · obtain ⟨v, t, rfl, ht, q⟩ := h
    refine ⟨_, (pss_cons (ps_if (pt_cmpR (r := rIn K false) op_in_seq (pe_ix (r := rIxT K) ix_tup (pv 0) pe_int (fun _ _ => rfl)) (pe_glob (v := .ref (He.ga K "LEAVES")) (by rfl) T.c_LEAVES rfl) (by rfl)) (pss_one (ps_ret (pe_lst pa_nil))) pss_nil)
      (pss_cons (ps_if (pt_cmpR op_eq (pe_ix (r := rIxT K) ix_tup (pv 0) pe_int (fun _ _ => rfl)) pe_str (nomark _)) (pss_one (ps_ret (pe_lst (pa_cons (pe_ix (r := rIxT K) ix_tup (pv 0) pe_int (fun _ _ => rfl)) pa_nil)))) pss_nil)
      (pss_one (ps_ret (pe_callTy (r := rLo K) call_list_of (by rfl) T.z_list PyProof.Rows.boot_list (pa_cons (pe_slice (r := rSlT K) sl_tup (pv 0) (po_some pe_int) po_none) pa_nil)))))), ?_⟩
    cases t with
    | num w' x =>
      obtain ⟨a, rfl, ha⟩ := ht
      refine rd_in rfl ha (T.leaves H) rfl (b := true) (by decide +kernel) (iteT ⟨Nat.zero_le _, fun p np => q _ _ (Same.new np) ⟨p, [], rfl, np, upd_same, kids0 rfl⟩⟩)
    | leaf s n =>
      obtain ⟨a, rfl, ha⟩ := ht
      refine rd_in rfl ha (T.leaves H) rfl (b := true) (by cases s <;> decide +kernel) (iteT ⟨Nat.zero_le _, fun p np => q _ _ (Same.new np) ⟨p, [], rfl, np, upd_same, kids0 rfl⟩⟩)
    | not t =>
      obtain ⟨a, u, rfl, ha, hu⟩ := ht
      refine rd_in rfl ha (T.leaves H) rfl (b := false) (by decide +kernel) (iteF (rd_no rfl ha (by decide +kernel) ?_))
      refine ⟨_, rfl, _, rfl, a, _, rfl, SqT.of ha, (by show ¬ (HT.sIx 2 0 (some 1) = 0 ∧ HT.sIx 2 2 none = 2); decide), fun p np => ?_⟩
      refine ⟨p, _, rfl, .inr (SqT.of upd_same), fun l nl => ?_⟩
      have s0 := (Same.new np).newT (o := .lst (cutV [V.str "not", u] (some 1) none)) nl
      exact q _ _ s0 ⟨l, [u], rfl, (Same.new np).free nl, upd_same, kids1 rfl (TmAt.same s0 hu)⟩
    | part t low many =>
      obtain ⟨a, u, rfl, ha, hu⟩ := ht
      refine rd_in rfl ha (T.leaves H) rfl (b := false) (by decide +kernel) (iteF (rd_yes rfl ha rfl ?_))
      refine ⟨_, rfl, a, _, 1, _, rfl, rfl, SqT.of ha, rfl, by show 1 ≤ sizeLine; decide, fun p np => ?_⟩
      exact q _ _ (Same.new np) ⟨p, [u], rfl, np, upd_same, kids1 rfl (TmAt.same (Same.new np) hu)⟩
    | bin o t u =>
      obtain ⟨a, x, y, rfl, ha, hx, hy⟩ := ht
      refine rd_in rfl ha (T.leaves H) rfl (b := false) (by cases o <;> decide +kernel) (iteF (rd_no rfl ha (by cases o <;> decide +kernel) ?_))
      refine ⟨_, rfl, _, rfl, a, _, rfl, SqT.of ha, (by show ¬ (HT.sIx 3 0 (some 1) = 0 ∧ HT.sIx 3 3 none = 3); decide), fun p np => ?_⟩
      refine ⟨p, _, rfl, .inr (SqT.of upd_same), fun l nl => ?_⟩
      have s0 := (Same.new np).newT (o := .lst (cutV [V.str (formS o), x, y] (some 1) none)) nl
      exact q _ _ s0 ⟨l, [x, y], rfl, (Same.new np).free nl, upd_same, kids2 rfl (TmAt.same s0 hx) (TmAt.same s0 hy)⟩
/-! ### size_of -/
def sp_size_of (d : Nat) : Sp := fun vs_ H Q _ => ∃ (v : V) (t : Tm), vs_ = [v] ∧ TmAt H t v ∧ dp t ≤ d ∧ Ret H Q fun r H' => ∃ p, r = .ref p ∧ H' p = some (.tup [vN (sz t), vN (dp t)])
theorem sz_kids (t : Tm) : sz t = 1 + ((kids t).map sz).sum := by
  cases t with
  | num _ _ => rfl
  | leaf _ _ => rfl
  | not t => show sz t + 1 = 1 + (sz t + 0); omega
  | part t _ _ => show sz t + 1 = 1 + (sz t + 0); omega
  | bin o t u => show sz t + sz u + 1 = 1 + (sz t + (sz u + 0)); omega
theorem dp_kids (t : Tm) : dp t = ((kids t).map dp).foldl max 0 + 1 := by
  cases t with
  | num _ _ => rfl
  | leaf _ _ => rfl
  | not t => show dp t + 1 = max 0 (dp t) + 1; omega
  | part t _ _ => show dp t + 1 = max 0 (dp t) + 1; omega
  | bin o t u => show max (dp t) (dp u) + 1 = max (max 0 (dp t)) (dp u) + 1; omega
theorem ok_size_of (T : Txt K mg) : ∀ d : Nat, Ok P w K mg base "size_of" ["term"] (2 + d) (sp_size_of d)
  | 0 => by
    refine T.d_size_of.ok (k := 1) sc_size_of (fun vs H Q E h => ?_) (fun cdv A outer s H vs_ Q E hr h => ?_)
    · obtain ⟨v, t, rfl, _⟩ := h
      rfl
    · obtain ⟨v, t, rfl, _, hd, _⟩ := h
      cases t <;> cases hd
  | d + 1 => by
    have G_size_of : Ok P w K mg base "size_of" _ (2 + d) _ := ok_size_of T d
    have G_inner : Ok P w K mg base "inner" _ 1 _ := ok_inner T
    refine T.d_size_of.ok (k := 2 + d) sc_size_of (fun vs H Q E h => ?_) (fun cdv A outer s H vs_ Q E hr h => ?_)
    · obtain ⟨v, t, rfl, _⟩ := h
      rfl
    · obtain ⟨v, t, rfl, ht, hd, q⟩ := h
      refine ⟨_, (pss_cons (ps_set (i := 1) sc_size_of.nd rfl (Or.inl rfl) pe_int)
      (pss_cons (ps_set (i := 2) sc_size_of.nd rfl (Or.inl rfl) pe_int)
      (pss_cons (ps_for PassesOwn.never (by rfl) (pi_list (pe_c T.d_inner G_inner (hr.mono (by omega)) (by rfl) (pa_cons (pv 0) pa_nil))) (pg_name (i := 3) sc_size_of.nd rfl (Or.inl rfl)) (pss_cons (ps_set (i := 4) sc_size_of.nd rfl (Or.inl rfl) (pe_c T.d_size_of G_size_of (hr.mono (by omega)) (by rfl) (pa_cons (pv 3) pa_nil)))
      (pss_cons (ps_set (i := 1) sc_size_of.nd rfl (Or.inl rfl) (pe_op op_add (pv 1) (pe_ix (r := rIxT K) ix_tup (pv 4) pe_int (fun _ _ => rfl))))
      (pss_one (ps_set (i := 2) sc_size_of.nd rfl (Or.inl rfl) (pe_callB (call_max2 (by rfl)) (by rfl) T.z_max PyProof.Rows.boot_max (pa_cons (pv 2) (pa_cons (pe_ix (r := rIxT K) ix_tup (pv 4) pe_int (fun _ _ => rfl)) pa_nil))))))))
      (pss_one (ps_ret (pe_tup (pa_cons (pv 1) (pa_cons (pe_op op_add (pv 2) pe_int) pa_nil)))))))), ?_⟩
      refine ⟨_, rfl, v, t, rfl, ht, fun r H1 s1 ⟨p, us, er, np, hp, hk⟩ => ?_⟩
      subst er
      refine ⟨p, rfl, ⟨_, SqL.of hp⟩, for_list (K := K) (a := p) (xs := us) (fun i σ H' => ∃ x y, σ = [some v, some (vN (1 + (((kids t).take i).map sz).sum)), some (vN ((((kids t).take i).map dp).foldl max 0)), x, y] ∧ Same H1 H') ⟨none, none, rfl, Same.refl _⟩ (fun i σ H' _ ⟨_, _, _, s2⟩ => s2.seq (SqL.of hp)) ?_ ?_⟩
      · rintro i u σ H' hi ⟨x, y, rfl, s2⟩
        obtain ⟨k, ek, hku⟩ := hk.get hi
        refine ⟨_, rfl, u, k, rfl, TmAt.same s2 hku, kids_dp (List.mem_of_getElem? ek) hd, fun r H2 s3 ⟨p2, er, hp2⟩ => ?_⟩
        subst er
        refine ⟨_, rfl, _, rfl, p2, _, 0, _, rfl, rfl, SqT.of hp2, rfl, _, _, rfl, rfl, ?_⟩
        refine ⟨_, rfl, _, rfl, p2, _, 1, _, rfl, rfl, SqT.of hp2, rfl, _, _, rfl, some u, some (.ref p2), ?_, s2.trans s3⟩
        rw [take_snoc ek, List.map_append, List.map_append, List.sum_append, List.foldl_append]
        show [some v, some (V.int (((1 + (((kids t).take i).map sz).sum : Nat) : Int) + (sz k : Int))), some (V.int (if ((dp k : Nat) : Int) > (((((kids t).take i).map dp).foldl max 0 : Nat) : Int) then ((dp k : Nat) : Int) else (((((kids t).take i).map dp).foldl max 0 : Nat) : Int))), some u, some (V.ref p2)] =
          [some v, some (V.int ((1 + ((((kids t).take i).map sz).sum + (sz k + 0)) : Nat) : Int)), some (V.int ((max ((((kids t).take i).map dp).foldl max 0) (dp k) : Nat) : Int)), some u, some (V.ref p2)]
        have e1 : (((1 + (((kids t).take i).map sz).sum : Nat) : Int) + (sz k : Int)) = ((1 + ((((kids t).take i).map sz).sum + (sz k + 0)) : Nat) : Int) := by omega
        have e2 : (if ((dp k : Nat) : Int) > (((((kids t).take i).map dp).foldl max 0 : Nat) : Int) then ((dp k : Nat) : Int) else (((((kids t).take i).map dp).foldl max 0 : Nat) : Int)) = ((max ((((kids t).take i).map dp).foldl max 0) (dp k) : Nat) : Int) := by
          split <;> omega
        rw [e1, e2]
      · rintro σ H' ⟨x, y, rfl, s2⟩
        rw [hk.1, List.take_length]
        refine ⟨_, rfl, _, rfl, _, _, rfl, rfl, by show 2 ≤ sizeLine; decide, fun l nl => q _ _ ((s1.trans s2).newT nl) ⟨l, rfl, ?_⟩⟩
        rw [upd_same, sz_kids t, dp_kids t]
        rfl
/-! ### widths -/
def sp_num_width : Sp := fun vs_ H Q _ => ∃ k v : Nat, vs_ = [vN k, vN v] ∧ 1 ≤ k ∧ k ≤ 64 ∧ v < 2 ^ k ∧ Ret H Q fun r _ => r = vN k
theorem ok_num_width (T : Txt K mg) : Ok P w K mg base "num_width" ["width", "word"] 2 sp_num_width := by
  have G_is_width : Ok P w K mg base "is_width" _ 1 _ := ok_is_width T
  have G_fits : Ok P w K mg base "fits" _ 1 _ := ok_fits T
  refine T.d_num_width.ok sc_num_width (fun vs H Q E h => ?_) (fun cdv A outer s H vs_ Q E hr h => ?_)
  · obtain ⟨k, v, rfl, _⟩ := h
    rfl
  · obtain ⟨k, v, rfl, h1, h2, h3, q⟩ := h
    refine ⟨_, (pss_cons (ps_if (pt_not (pt_val (pe_c T.d_is_width G_is_width (hr.mono (by omega)) (by rfl) (pa_cons (pv 0) pa_nil)))) (pss_one ps_never) pss_nil)
      (pss_cons (ps_if (pt_not (pt_val (pe_c T.d_fits G_fits (hr.mono (by omega)) (by rfl) (pa_cons (pv 0) (pa_cons (pv 1) pa_nil))))) (pss_one ps_never) pss_nil)
      (pss_one (ps_ret (pv 0))))), ?_⟩
    refine ⟨_, rfl, _, rfl, by omega, by omega, true, rfl, iteF ?_⟩
    refine ⟨_, rfl, _, rfl, k, v, rfl, h2, h3, true, rfl, iteF ?_⟩
    exact ⟨_, rfl, q _ _ (Same.refl H) rfl⟩
/-- a dict from names to numbers: f in full -/
def DIs (H : Hp) (d : Addr) (f : Str → Option Nat) : Prop := ∃ kvs : List (Key × V), H d = some (.dK kvs) ∧ ∀ n, valV kvs (.inr n) = (f n).map vN
theorem DIs.same {H H' : Hp} {d : Addr} {f : Str → Option Nat} (h : DIs H d f) (s0 : Same H H') : DIs H' d f := by
  obtain ⟨kvs, h1, h2⟩ := h
  exact ⟨kvs, s0 _ _ h1, h2⟩
theorem DIs.get {H : Hp} {d : Addr} {f : Str → Option Nat} (h : DIs H d f) (n : Str) : DGet H d (.str n) ((f n).map vN) := by
  obtain ⟨kvs, h1, h2⟩ := h
  have g := DGet.k (k := Sum.inr n) h1
  rw [h2 n] at g
  exact g
theorem DIs.at {H : Hp} {d : Addr} {f : Str → Option Nat} (h : DIs H d f) {n : Str} {k : Nat} (e : f n = some k) : DGet H d (.str n) (some (vN k)) := by
  have g := h.get n
  rw [e] at g
  exact g
def sp_named_width : Sp := fun vs_ H Q _ => ∃ (n : Str) (d : Addr) (f : Str → Option Nat) (k : Nat), vs_ = [.str n, .ref d] ∧ DIs H d f ∧ f n = some k ∧ Ret H Q fun r _ => r = vN k
theorem ok_named_width (T : Txt K mg) : Ok P w K mg base "named_width" ["name", "widths"] 1 sp_named_width := by
  refine T.d_named_width.ok sc_named_width (fun vs H Q E h => ?_) (fun cdv A outer s H vs_ Q E hr h => ?_)
  · obtain ⟨n, d, f, k, rfl, _⟩ := h
    rfl
  · obtain ⟨n, d, f, k, rfl, hd, e, q⟩ := h
    refine ⟨_, (pss_cons (ps_if (pt_cmp (pc_dnotin (hu_of hr) (pv 0) (pv 1)) (by rfl)) (pss_one ps_never) pss_nil)
      (pss_one (ps_ret (pe_dget (hu_of hr) (pv 1) (pv 0) (fun _ _ => rfl))))), ?_⟩
    refine ⟨_, rfl, _, rfl, d, _, rfl, hd.at e, _, rfl, iteF ?_⟩
    exact ⟨_, rfl, _, rfl, d, _, rfl, hd.at e, q _ _ (Same.refl H) rfl⟩
def sp_part_width : Sp := fun vs_ H Q _ => ∃ low many k : Nat, vs_ = [vN low, vN many, vN k] ∧ 1 ≤ many ∧ low + many ≤ k ∧ Ret H Q fun r _ => r = vN many
theorem ok_part_width (T : Txt K mg) : Ok P w K mg base "part_width" ["low", "many", "width"] 1 sp_part_width := by
  refine T.d_part_width.ok sc_part_width (fun vs H Q E h => ?_) (fun cdv A outer s H vs_ Q E hr h => ?_)
  · obtain ⟨low, many, k, rfl, _⟩ := h
    rfl
  · obtain ⟨low, many, k, rfl, h1, h2, q⟩ := h
    refine ⟨_, (pss_cons (ps_if (PW.pt (pw_or (pt_cmpR op_lt (pv 0) pe_int (nomark _)) (pw_or (pt_cmpR op_lt (pv 1) pe_int (nomark _)) (pw_or1 (pt_cmpR op_gt (pe_op op_add (pv 0) (pv 1)) (pv 2) (nomark _)))))) (pss_one ps_never) pss_nil)
      (pss_one (ps_ret (pv 1)))), ?_⟩
    refine ⟨_, rfl, _, _, rfl, rfl, _, rfl, ?_⟩
    rw [decide_eq_false (show ¬ ((low : Int) < 0) by omega)]
    refine iteF ⟨_, rfl, _, _, rfl, rfl, _, rfl, ?_⟩
    rw [decide_eq_false (show ¬ ((many : Int) < 1) by omega)]
    refine iteF ⟨_, rfl, _, rfl, _, _, rfl, rfl, _, rfl, _, _, rfl, rfl, _, rfl, ?_⟩
    rw [decide_eq_false (show ¬ ((k : Int) < (low : Int) + (many : Int)) by omega)]
    exact iteF ⟨_, rfl, q _ _ (Same.refl H) rfl⟩
/-- the width of two terms together -/
def W2 (o : Op) (i j k : Nat) : Prop := match o with
  | .join => k = i + j ∧ k ≤ 64
  | .less => i = j ∧ k = 1
  | .same => i = j ∧ k = 1
  | _ => i = j ∧ k = i
def sp_several_width (K : PySem.W.Frag) : Sp := fun vs_ H Q _ => ∃ (o : Op) (a : Addr) (i j k : Nat), vs_ = [.str (formS o), .ref a] ∧ SqL K H a [vN i, vN j] ∧ 1 ≤ i ∧ W2 o i j k ∧ Ret H Q fun r _ => r = vN k
theorem ok_several_width (T : Txt K mg) : Ok P w K mg base "several_width" ["form", "widths"] 2 (sp_several_width K) := by
  have G_is_width : Ok P w K mg base "is_width" _ 1 _ := ok_is_width T
  refine T.d_several_width.ok sc_several_width (fun vs H Q E h => ?_) (fun cdv A outer s H vs_ Q E hr h => ?_)
  · obtain ⟨o, a, i, j, k, rfl, _⟩ := h
    rfl
  · obtain ⟨o, a, i, j, k, rfl, ha, h1, h2, q⟩ := h
    refine ⟨_, (pss_cons (ps_if (pt_cmpR op_eq (pv 0) pe_str (nomark _)) (pss_cons (ps_if (pt_not (pt_val (pe_c T.d_is_width G_is_width (hr.mono (by omega)) (by rfl) (pa_cons (pe_op op_add (pe_ix (r := rIxL K) ix_list (pv 1) pe_int (fun _ _ => rfl)) (pe_ix (r := rIxL K) ix_list (pv 1) pe_int (fun _ _ => rfl))) pa_nil)))) (pss_one ps_never) pss_nil)
      (pss_one (ps_ret (pe_op op_add (pe_ix (r := rIxL K) ix_list (pv 1) pe_int (fun _ _ => rfl)) (pe_ix (r := rIxL K) ix_list (pv 1) pe_int (fun _ _ => rfl)))))) pss_nil)
      (pss_cons (ps_if (PW.pt (pw_and (pt_cmpR op_eq (pv 0) pe_str (nomark _)) (pw_and1 (pt_cmpR op_ne (pe_ix (r := rIxL K) ix_list (pv 1) pe_int (fun _ _ => rfl)) pe_int (nomark _))))) (pss_one ps_never) pss_nil)
      (pss_cons (ps_if (pt_cmpR op_ne (pe_ix (r := rIxL K) ix_list (pv 1) (pe_un un_neg pe_int) (fun _ _ => rfl)) (pe_ix (r := rIxL K) ix_list (pv 1) (pe_un un_neg pe_int) (fun _ _ => rfl)) (nomark _)) (pss_one ps_never) pss_nil)
      (pss_cons (ps_if (pt_cmpR (r := rIn K false) op_in_seq (pv 0) (pe_tup (pa_cons pe_str (pa_cons pe_str pa_nil))) (by rfl)) (pss_one (ps_ret pe_int)) pss_nil)
      (pss_one (ps_ret (pe_ix (r := rIxL K) ix_list (pv 1) (pe_un un_neg pe_int) (fun _ _ => rfl)))))))), ?_⟩
    by_cases ho : o = .join
    · subst ho
      obtain ⟨rfl, h64⟩ := h2
      refine rf_yes rfl rfl ?_
      refine ⟨_, rfl, a, _, 0, _, rfl, rfl, ha, rfl, _, rfl, a, _, 1, _, rfl, rfl, ha, rfl, _, _, rfl, rfl, _, rfl, by omega, by omega, true, rfl, iteF ?_⟩
      refine ⟨_, rfl, a, _, 0, _, rfl, rfl, ha, rfl, _, rfl, a, _, 1, _, rfl, rfl, ha, rfl, _, _, rfl, rfl, q _ _ (Same.refl H) ?_⟩
      show V.int ((i : Int) + (j : Int)) = V.int ((i + j : Nat) : Int)
      congr 1
    · have eij : i = j := by
        cases o <;> first | exact h2.1 | exact absurd rfl ho
      subst eij
      refine rf_no rfl (by cases o <;> first | decide +kernel | exact absurd rfl ho) ?_
      refine ⟨_, rfl, rfl, _, rfl, ?_⟩
      rw [decide_eq_false (show ¬ V.str (formS o) = V.str "pick" by intro z; injection z with z; revert z; cases o <;> decide +kernel)]
      refine iteF (iteF ?_)
      refine ⟨_, rfl, _, rfl, a, _, -2, _, rfl, rfl, ha, rfl, _, rfl, _, rfl, a, _, -1, _, rfl, rfl, ha, rfl, rfl, _, rfl, ?_⟩
      rw [decide_eq_true rfl]
      refine iteF ?_
      refine ⟨_, rfl, by show 2 ≤ sizeLine; decide, fun t nt => ?_⟩
      refine ⟨t, _, rfl, .inr (SqT.of upd_same), rfl, rfl, _, rfl, ?_⟩
      have s0 := Same.new (o := .tup [V.str "less", V.str "same"]) nt
      show if inV (V.str (formS o)) [V.str "less", V.str "same"] = true then _ else _
      cases o with
      | less =>
        rw [show inV (V.str (formS .less)) [V.str "less", V.str "same"] = true by decide +kernel]
        obtain ⟨_, rfl⟩ := h2
        exact iteT (q _ _ s0 rfl)
      | same =>
        rw [show inV (V.str (formS .same)) [V.str "less", V.str "same"] = true by decide +kernel]
        obtain ⟨_, rfl⟩ := h2
        exact iteT (q _ _ s0 rfl)
      | join => exact absurd rfl ho
      | and =>
        rw [show inV (V.str (formS .and)) [V.str "less", V.str "same"] = false by decide +kernel]
        obtain ⟨_, rfl⟩ := h2
        exact iteF ⟨_, rfl, _, rfl, a, _, -1, _, rfl, rfl, s0.seq ha, rfl, q _ _ s0 rfl⟩
      | or =>
        rw [show inV (V.str (formS .or)) [V.str "less", V.str "same"] = false by decide +kernel]
        obtain ⟨_, rfl⟩ := h2
        exact iteF ⟨_, rfl, _, rfl, a, _, -1, _, rfl, rfl, s0.seq ha, rfl, q _ _ s0 rfl⟩
      | plus =>
        rw [show inV (V.str (formS .plus)) [V.str "less", V.str "same"] = false by decide +kernel]
        obtain ⟨_, rfl⟩ := h2
        exact iteF ⟨_, rfl, _, rfl, a, _, -1, _, rfl, rfl, s0.seq ha, rfl, q _ _ s0 rfl⟩
end
end K24

set_option Elab.async false
set_option linter.all false
set_option maxRecDepth 100000
set_option maxHeartbeats 4000000
/-! Terms: the width, the names. -/
namespace K24
open PySem PySem.Spec PyProof.Rows L2
theorem wd_bin {W : Ws} {o : Op} {t u : Tm} {k : Nat} (h : Wd W (.bin o t u) k) : ∃ i j, Wd W t i ∧ Wd W u j ∧ W2 o i j k := by
  cases o with
  | and => exact ⟨k, k, h.1, h.2, rfl, rfl⟩
  | or => exact ⟨k, k, h.1, h.2, rfl, rfl⟩
  | plus => exact ⟨k, k, h.1, h.2, rfl, rfl⟩
  | less => obtain ⟨e, j, a, b⟩ := h; exact ⟨j, j, a, b, rfl, e⟩
  | same => obtain ⟨e, j, a, b⟩ := h; exact ⟨j, j, a, b, rfl, e⟩
  | join => obtain ⟨i, j, a, b, e, l⟩ := h; exact ⟨i, j, a, b, e, l⟩
theorem kids_le (t : Tm) : (kids t).length ≤ 2 := by
  cases t with
  | num _ _ => exact Nat.zero_le _
  | leaf _ _ => exact Nat.zero_le _
  | not _ => exact Nat.le_succ 1
  | part _ _ _ => exact Nat.le_succ 1
  | bin _ _ _ => exact Nat.le_refl 2
/-- the widths of what stands right within -/
def KW (W : Ws) (t : Tm) (ks : List Nat) : Prop := ks.length = (kids t).length ∧ ∀ (i : Nat) (c : Tm) (k : Nat), (kids t)[i]? = some c → ks[i]? = some k → Wd W c k
section
variable {P : Program} {w : World} {K : PySem.W.Frag} {mg : Str → Option Value} {base : Heap}
def sp_small_width (d : Nat) : Sp := fun vs_ H Q _ => ∃ (v : V) (di dq : Addr) (t : Tm) (W : Ws) (k : Nat), vs_ = [v, .ref di, .ref dq] ∧ TmAt H t v ∧ dp t ≤ d ∧ WsOk W ∧ Wd W t k ∧ DIs H di W.bw ∧ DIs H dq W.dw ∧ Ret H Q fun r _ => r = vN k
theorem ok_small_width (T : Txt K mg) : ∀ d : Nat, Ok P w K mg base "small_width" ["term", "boxes", "doors"] (3 + d) (sp_small_width d)
  | 0 => by
    refine T.d_small_width.ok (k := 2) sc_small_width (fun vs H Q E h => ?_) (fun cdv A outer s H vs_ Q E hr h => ?_)
    · obtain ⟨v, di, dq, t, W, k, rfl, _⟩ := h
      rfl
    · obtain ⟨v, di, dq, t, W, k, rfl, _, hd, _⟩ := h
      cases t <;> cases hd
  | d + 1 => by
    have G_small_width : Ok P w K mg base "small_width" _ (3 + d) _ := ok_small_width T d
    have G_inner : Ok P w K mg base "inner" _ 1 _ := ok_inner T
    have G_num_width : Ok P w K mg base "num_width" _ 2 _ := ok_num_width T
    have G_named_width : Ok P w K mg base "named_width" _ 1 _ := ok_named_width T
    have G_part_width : Ok P w K mg base "part_width" _ 1 _ := ok_part_width T
    have G_several_width : Ok P w K mg base "several_width" _ 2 _ := ok_several_width T
    refine T.d_small_width.ok (k := 3 + d) sc_small_width (fun vs H Q E h => ?_) (fun cdv A outer s H vs_ Q E hr h => ?_)
    · obtain ⟨v, di, dq, t, W, k, rfl, _⟩ := h
      rfl
    · obtain ⟨v, di, dq, t, W, k, rfl, ht, hd, ok, hw, hi, ho, q⟩ := h
      refine ⟨_, (pss_cons (ps_if (pt_cmpR op_eq (pe_ix (r := rIxT K) ix_tup (pv 0) pe_int (fun _ _ => rfl)) pe_str (nomark _)) (pss_one (ps_ret (pe_c T.d_num_width G_num_width (hr.mono (by omega)) (by rfl) (pa_cons (pe_ix (r := rIxT K) ix_tup (pv 0) pe_int (fun _ _ => rfl)) (pa_cons (pe_ix (r := rIxT K) ix_tup (pv 0) pe_int (fun _ _ => rfl)) pa_nil))))) pss_nil)
      (pss_cons (ps_if (pt_cmpR op_eq (pe_ix (r := rIxT K) ix_tup (pv 0) pe_int (fun _ _ => rfl)) pe_str (nomark _)) (pss_one (ps_ret (pe_c T.d_named_width G_named_width (hr.mono (by omega)) (by rfl) (pa_cons (pe_ix (r := rIxT K) ix_tup (pv 0) pe_int (fun _ _ => rfl)) (pa_cons (pv 2) pa_nil))))) pss_nil)
      (pss_cons (ps_if (pt_cmpR (r := rIn K false) op_in_seq (pe_ix (r := rIxT K) ix_tup (pv 0) pe_int (fun _ _ => rfl)) (pe_glob (v := .ref (He.ga K "LEAVES")) (by rfl) T.c_LEAVES rfl) (by rfl)) (pss_one (ps_ret (pe_c T.d_named_width G_named_width (hr.mono (by omega)) (by rfl) (pa_cons (pe_ix (r := rIxT K) ix_tup (pv 0) pe_int (fun _ _ => rfl)) (pa_cons (pv 1) pa_nil))))) pss_nil)
      (pss_cons (ps_setLc (i := 3) (own := [("one", 4)]) (g := gName 4) (by rfl) sc_small_width.nd rfl rfl (sw_true rfl rfl rfl (by decide +kernel)) (pi_list (pe_c T.d_inner G_inner (hr.mono (by omega)) (by rfl) (pa_cons (pv 0) pa_nil))) (blkOk_by (N := N_small_width) (sc := defScope s_small_width) (by decide +kernel)) (fun _ _ _ _ _ => pg_name (i := 4) sc_small_width.nd rfl (Or.inl rfl)) (fun _ _ _ _ _ => pts_nil) (fun _ _ _ _ _ => (pe_c T.d_small_width G_small_width (hr.mono (by omega)) (by rfl) (pa_cons (pv 4) (pa_cons (pv 1) (pa_cons (pv 2) pa_nil))))))
      (pss_cons (ps_if (pt_cmpR op_eq (pe_ix (r := rIxT K) ix_tup (pv 0) pe_int (fun _ _ => rfl)) pe_str (nomark _)) (pss_one (ps_ret (pe_c T.d_part_width G_part_width (hr.mono (by omega)) (by rfl) (pa_cons (pe_ix (r := rIxT K) ix_tup (pv 0) pe_int (fun _ _ => rfl)) (pa_cons (pe_ix (r := rIxT K) ix_tup (pv 0) pe_int (fun _ _ => rfl)) (pa_cons (pe_ix (r := rIxL K) ix_list (pv 3) pe_int (fun _ _ => rfl)) pa_nil)))))) pss_nil)
      (pss_cons (ps_if (pt_cmpR op_eq (pe_ix (r := rIxT K) ix_tup (pv 0) pe_int (fun _ _ => rfl)) pe_str (nomark _)) (pss_one (ps_ret (pe_ix (r := rIxL K) ix_list (pv 3) pe_int (fun _ _ => rfl)))) pss_nil)
      (pss_one (ps_ret (pe_c T.d_several_width G_several_width (hr.mono (by omega)) (by rfl) (pa_cons (pe_ix (r := rIxT K) ix_tup (pv 0) pe_int (fun _ _ => rfl)) (pa_cons (pv 3) pa_nil))))))))))), ?_⟩
      -- the comprehension over what stands right within
      have inn : ∀ (a : Addr) (xs : List V) (ks : List Nat) (D : Ends) (tz : TS), TmAt H t (.ref a) → KW W t ks →
          (∀ H' p, Same H H' → H' p = some (.lst (vs ks)) → tz D [some (.ref a), some (.ref di), some (.ref dq), some (.ref p), none] H') →
          tSeq (tAsg (tLc (iList K (tCall sp_inner [] E0 (tCons (tVar 0) tNil))) (gName 4) tYes (tCall (sp_small_width d) [] E0 (tCons (tVar 4) (tCons (tVar 1) (tCons (tVar 2) tNil)))) [4]) (gName 3)) tz D [some (.ref a), some (.ref di), some (.ref dq), none, none] H := by
        intro a xs ks D tz ht hk fin
        refine ⟨_, rfl, _, t, rfl, ht, fun r H1 s1 ⟨p, us, er, np, hp, hu⟩ => ?_⟩
        subst er
        refine ⟨p, rfl, ⟨_, SqL.of hp⟩, fun L hL => lc_list (K := K) (a := p) (xs := us) (fun i H' => Same H1 H' ∧ H' L = some (.lst (vs (ks.take i)))) ⟨Same.new hL, upd_same⟩ (fun i H' _ p => p.1.seq (SqL.of hp)) ?_ ?_⟩
        · rintro i x H' hi' ⟨s2, h2⟩
          obtain ⟨c, ec, hc⟩ := hu.get hi'
          have hik : i < ks.length := by
            rw [hk.1]
            exact (List.getElem?_eq_some_iff.mp ec).1
          have ek : ks[i]? = some ks[i] := List.getElem?_eq_getElem hik
          generalize ks[i] = kk at ek
          have s02 := s1.trans s2
          refine ⟨rfl, yes_of (iteT ?_)⟩
          refine ⟨_, rfl, _, rfl, _, rfl, x, di, dq, c, W, kk, rfl, TmAt.same s2 hc, kids_dp (List.mem_of_getElem? ec) hd, ok, hk.2 i c kk ec ek, hi.same s02, ho.same s02, fun r H3 s3 er => ?_⟩
          subst er
          refine ⟨_, s3 _ _ h2, ?_, (s2.trans s3).mut hL, ?_⟩
          · rw [List.length_map, List.length_take]
            have h2 := kids_le t
            have h3 := hk.1
            exact line_lt (by omega)
          · rw [upd_same, take_snoc ek, vs_app]
            rfl
        · rintro H' ⟨s2, h2⟩
          rw [hu.1, ← hk.1, List.take_length] at h2
          exact fin H' L (s1.trans s2) h2
      cases t with
      | num w' x =>
        obtain ⟨a, rfl, ha⟩ := ht
        obtain ⟨rfl, h1, h2, h3⟩ := hw
        refine rd_yes rfl ha rfl ?_
        exact ⟨_, rfl, a, _, 1, _, rfl, rfl, SqT.of ha, rfl, _, rfl, a, _, 2, _, rfl, rfl, SqT.of ha, rfl, k, x, rfl, h1, h2, h3, q⟩
      | leaf s n =>
        obtain ⟨a, rfl, ha⟩ := ht
        have wl : W.of s n = some k := hw
        cases s with
        | box =>
          refine rd_no rfl ha (by decide +kernel) (rd_no rfl ha (by decide +kernel) (rd_in rfl ha (T.leaves H) rfl (b := true) (by decide +kernel) (iteT ?_)))
          exact ⟨_, rfl, a, _, 1, _, rfl, rfl, SqT.of ha, rfl, _, rfl, n, di, _, k, rfl, hi, wl, q⟩
        | late =>
          refine rd_no rfl ha (by decide +kernel) (rd_no rfl ha (by decide +kernel) (rd_in rfl ha (T.leaves H) rfl (b := true) (by decide +kernel) (iteT ?_)))
          exact ⟨_, rfl, a, _, 1, _, rfl, rfl, SqT.of ha, rfl, _, rfl, n, di, _, k, rfl, hi, wl, q⟩
        | door =>
          refine rd_no rfl ha (by decide +kernel) (rd_yes rfl ha rfl ?_)
          exact ⟨_, rfl, a, _, 1, _, rfl, rfl, SqT.of ha, rfl, _, rfl, n, dq, _, k, rfl, ho, wl, q⟩
      | not t =>
        obtain ⟨a, u, rfl, ha, hu⟩ := id ht
        refine rd_no rfl ha (by decide +kernel) (rd_no rfl ha (by decide +kernel) (rd_in rfl ha (T.leaves H) rfl (b := false) (by decide +kernel) (iteF ?_)))
        refine inn a [] [k] _ _ ht ⟨rfl, fun i c kk h1 h2 => ?_⟩ fun H' p s1 hp => ?_
        · match i, h1, h2 with
          | 0, h1, h2 =>
            cases h1
            cases h2
            exact hw
        · have ha1 := s1 _ _ ha
          refine rd_no rfl ha1 (by decide +kernel) (rd_yes rfl ha1 rfl ?_)
          exact ⟨_, rfl, p, _, 0, _, rfl, rfl, SqL.of hp, rfl, q _ _ s1 rfl⟩
      | part t low many =>
        obtain ⟨a, u, rfl, ha, hu⟩ := id ht
        obtain ⟨rfl, h1, j, hj, hlm⟩ := hw
        refine rd_no rfl ha (by decide +kernel) (rd_no rfl ha (by decide +kernel) (rd_in rfl ha (T.leaves H) rfl (b := false) (by decide +kernel) (iteF ?_)))
        refine inn a [] [j] _ _ ht ⟨rfl, fun i c kk h1 h2 => ?_⟩ fun H' p s1 hp => ?_
        · match i, h1, h2 with
          | 0, h1, h2 =>
            cases h1
            cases h2
            exact hj
        · have ha1 := s1 _ _ ha
          refine rd_yes rfl ha1 rfl ?_
          exact ⟨_, rfl, a, _, 2, _, rfl, rfl, SqT.of ha1, rfl, _, rfl, a, _, 3, _, rfl, rfl, SqT.of ha1, rfl, _, rfl, p, _, 0, _, rfl, rfl, SqL.of hp, rfl, low, k, j, rfl, h1, hlm, fun r H2 s2 er => q _ _ (s1.trans s2) er⟩
      | bin o t u =>
        obtain ⟨a, x, y, rfl, ha, hx, hy⟩ := id ht
        obtain ⟨i0, j0, wt, wu, w2⟩ := wd_bin hw
        refine rd_no rfl ha (by cases o <;> decide +kernel) (rd_no rfl ha (by cases o <;> decide +kernel) (rd_in rfl ha (T.leaves H) rfl (b := false) (by cases o <;> decide +kernel) (iteF ?_)))
        refine inn a [] [i0, j0] _ _ ht ⟨rfl, fun i c kk h1 h2 => ?_⟩ fun H' p s1 hp => ?_
        · match i, h1, h2 with
          | 0, h1, h2 =>
            cases h1
            cases h2
            exact wt
          | 1, h1, h2 =>
            cases h1
            cases h2
            exact wu
        · have ha1 := s1 _ _ ha
          refine rd_no rfl ha1 (by cases o <;> decide +kernel) (rd_no rfl ha1 (by cases o <;> decide +kernel) ?_)
          exact ⟨_, rfl, a, _, 0, _, rfl, rfl, SqT.of ha1, rfl, _, rfl, o, p, i0, j0, k, rfl, SqL.of hp, (wd_bounds ok wt).1, w2, fun r H2 s2 er => q _ _ (s1.trans s2) er⟩
def sp_width_of (d : Nat) : Sp := fun vs_ H Q _ => ∃ (v : V) (di dq : Addr) (t : Tm) (W : Ws) (k : Nat), vs_ = [v, .ref di, .ref dq] ∧ TmAt H t v ∧ dp t ≤ d ∧ sz t ≤ 100 ∧ WsOk W ∧ Wd W t k ∧ DIs H di W.bw ∧ DIs H dq W.dw ∧ Ret H Q fun r _ => r = vN k
theorem ok_width_of (T : Txt K mg) {d : Nat} (hd12 : d ≤ 12) : Ok P w K mg base "width_of" ["term", "boxes", "doors"] (4 + d) (sp_width_of d) := by
  have G_size_of : Ok P w K mg base "size_of" _ (2 + d) _ := ok_size_of T d
  have G_small_width : Ok P w K mg base "small_width" _ (3 + d) _ := ok_small_width T d
  have e : 4 + d = 3 + d + 1 := by omega
  rw [e]
  refine T.d_width_of.ok sc_width_of (fun vs H Q E h => ?_) (fun cdv A outer s H vs_ Q E hr h => ?_)
  · obtain ⟨v, di, dq, t, W, k, rfl, _⟩ := h
    rfl
  · obtain ⟨v, di, dq, t, W, k, rfl, ht, hd, hs, ok, hw, hi, ho, q⟩ := h
    refine ⟨_, (pss_cons (ps_set (i := 3) sc_width_of.nd rfl (Or.inl rfl) (pe_c T.d_size_of G_size_of (hr.mono (by omega)) (by rfl) (pa_cons (pv 0) pa_nil)))
      (pss_cons (ps_if (PW.pt (pw_or (pt_cmpR op_gt (pe_ix (r := rIxT K) ix_tup (pv 3) pe_int (fun _ _ => rfl)) (pe_glob (v := .int 100) (by rfl) T.c_MOST_PARTS.choose_spec ⟨_, rfl⟩) (nomark _)) (pw_or1 (pt_cmpR op_gt (pe_ix (r := rIxT K) ix_tup (pv 3) pe_int (fun _ _ => rfl)) (pe_glob (v := .int 12) (by rfl) T.c_MOST_DEEP.choose_spec ⟨_, rfl⟩) (nomark _))))) (pss_one ps_never) pss_nil)
      (pss_one (ps_ret (pe_c T.d_small_width G_small_width (hr.mono (by omega)) (by rfl) (pa_cons (pv 0) (pa_cons (pv 1) (pa_cons (pv 2) pa_nil)))))))), ?_⟩
    refine ⟨_, rfl, v, t, rfl, ht, hd, fun r H1 s1 ⟨p, er, hp⟩ => ?_⟩
    subst er
    refine ⟨_, rfl, p, _, 0, _, rfl, rfl, SqT.of hp, rfl, _, _, rfl, rfl, _, rfl, ?_⟩
    rw [decide_eq_false (show ¬ ((100 : Int) < (sz t : Int)) by omega)]
    refine iteF ⟨_, rfl, p, _, 1, _, rfl, rfl, SqT.of hp, rfl, _, _, rfl, rfl, _, rfl, ?_⟩
    rw [decide_eq_false (show ¬ ((12 : Int) < (dp t : Int)) by omega)]
    refine iteF ⟨_, rfl, _, rfl, _, rfl, v, di, dq, t, W, k, rfl, TmAt.same s1 ht, hd, ok, hw, hi.same s1, ho.same s1, fun r H2 s2 er => q _ _ (s1.trans s2) er⟩
/-! ### names -/
def sp_names_by (d : Nat) : Sp := fun vs_ H Q _ => ∃ (s : Sr) (v : V) (t : Tm), vs_ = [.str (srS s), v] ∧ TmAt H t v ∧ dp t ≤ d ∧ sz t ≤ 1000 ∧ Ret H Q fun r H' => ∃ p, r = .ref p ∧ H p = none ∧ H' p = some (.lst ((nms s t).map V.str))
theorem nms_kids {s : Sr} {t : Tm} (h : ∀ s' n, t ≠ .leaf s' n) : nms s t = (kids t).flatMap (nms s) := by
  cases t with
  | num _ _ => rfl
  | leaf s' n => exact absurd rfl (h s' n)
  | not t => exact (List.append_nil _).symm
  | part t _ _ => exact (List.append_nil _).symm
  | bin o t u =>
    show nms s t ++ nms s u = nms s t ++ (nms s u ++ [])
    rw [List.append_nil]
theorem sz_kid {t k : Tm} (h : k ∈ kids t) : sz k ≤ sz t := by
  cases t with
  | num _ _ => cases h
  | leaf _ _ => cases h
  | not t =>
    rw [List.mem_singleton.mp h]
    exact Nat.le_succ _
  | part t _ _ =>
    rw [List.mem_singleton.mp h]
    exact Nat.le_succ _
  | bin o t u =>
    show sz k ≤ sz t + sz u + 1
    rcases List.mem_cons.mp h with rfl | h
    · omega
    · rw [List.mem_singleton.mp h]
      omega
theorem flat_sz (s : Sr) : ∀ ks : List Tm, (ks.flatMap (nms s)).length ≤ (ks.map sz).sum
  | [] => Nat.le_refl _
  | k :: ks => by
    have h1 := nms_le s k
    have h2 := flat_sz s ks
    rw [List.flatMap_cons, List.length_append, List.map_cons, List.sum_cons]
    omega
theorem sum_take_le (f : Tm → Nat) : ∀ (ks : List Tm) (i : Nat), ((ks.take i).map f).sum ≤ (ks.map f).sum
  | [], i => by rw [List.take_nil]; exact Nat.le_refl _
  | k :: ks, 0 => Nat.zero_le _
  | k :: ks, i + 1 => by
    have := sum_take_le f ks i
    rw [List.take_succ_cons, List.map_cons, List.map_cons, List.sum_cons, List.sum_cons]
    omega
/-- the tag of what is no leaf of the sort asked -/
theorem rt_yes {K : PySem.W.Frag} {i j : Nat} {a : Addr} {x y : Str} {r : List V} {t u : TS} {D : Ends} {σ : L2.St} {H : Hp} (hσ : σ[i]? = some (some (.ref a))) (hσ2 : σ[j]? = some (some (.str y))) (hT : H a = some (.tup (.str x :: r))) (e : x = y) (h : t D σ H) : tIfS (tTest (tOp rEq (tOp (rIxT K) (tVar i) (tC (.int 0))) (tVar j))) t u D σ H := by
  refine ⟨_, hσ, a, _, 0, .str x, rfl, rfl, SqT.of hT, atI_nat (j := 0) rfl, _, hσ2, rfl, _, rfl, ?_⟩
  rw [decide_eq_true (by rw [e])]
  exact iteT h
theorem rt_no {K : PySem.W.Frag} {i j : Nat} {a : Addr} {x y : Str} {r : List V} {t u : TS} {D : Ends} {σ : L2.St} {H : Hp} (hσ : σ[i]? = some (some (.ref a))) (hσ2 : σ[j]? = some (some (.str y))) (hT : H a = some (.tup (.str x :: r))) (e : x ≠ y) (h : u D σ H) : tIfS (tTest (tOp rEq (tOp (rIxT K) (tVar i) (tC (.int 0))) (tVar j))) t u D σ H := by
  refine ⟨_, hσ, a, _, 0, .str x, rfl, rfl, SqT.of hT, atI_nat (j := 0) rfl, _, hσ2, rfl, _, rfl, ?_⟩
  rw [decide_eq_false fun z => e (by injection z)]
  exact iteF h
theorem ok_names_by (T : Txt K mg) : ∀ d : Nat, Ok P w K mg base "names_by" ["form", "term"] (2 + d) (sp_names_by d)
  | 0 => by
    refine T.d_names_by.ok (k := 1) sc_names_by (fun vs H Q E h => ?_) (fun cdv A outer s H vs_ Q E hr h => ?_)
    · obtain ⟨s, v, t, rfl, _⟩ := h
      rfl
    · obtain ⟨s, v, t, rfl, _, hd, _⟩ := h
      cases t <;> cases hd
  | d + 1 => by
    have G_names_by : Ok P w K mg base "names_by" _ (2 + d) _ := ok_names_by T d
    have G_inner : Ok P w K mg base "inner" _ 1 _ := ok_inner T
    refine T.d_names_by.ok (k := 2 + d) sc_names_by (fun vs H Q E h => ?_) (fun cdv A outer s H vs_ Q E hr h => ?_)
    · obtain ⟨s, v, t, rfl, _⟩ := h
      rfl
    · obtain ⟨s', v, t, rfl, ht, hd, hz, q⟩ := h
      refine ⟨_, (pss_cons (ps_if (pt_cmpR op_eq (pe_ix (r := rIxT K) ix_tup (pv 1) pe_int (fun _ _ => rfl)) (pv 0) (nomark _)) (pss_one (ps_ret (pe_lst (pa_cons (pe_ix (r := rIxT K) ix_tup (pv 1) pe_int (fun _ _ => rfl)) pa_nil)))) pss_nil)
      (pss_cons (ps_set (i := 2) sc_names_by.nd rfl (Or.inl rfl) (pe_lst pa_nil))
      (pss_cons (ps_for PassesOwn.never (by rfl) (pi_list (pe_c T.d_inner G_inner (hr.mono (by omega)) (by rfl) (pa_cons (pv 1) pa_nil))) (pg_name (i := 3) sc_names_by.nd rfl (Or.inl rfl)) (pss_one (ps_expr (pe_bm PySem.F.plainAttrs_list PySem.F.slot_list_extend PySem.F.type_list_extend mt_extend (pv 2) (pa_cons (pe_c T.d_names_by G_names_by (hr.mono (by omega)) (by rfl) (pa_cons (pv 0) (pa_cons (pv 3) pa_nil))) pa_nil)))))
      (pss_one (ps_ret (pv 2)))))), ?_⟩
      -- what is no leaf of this sort: the names of what stands right within
      have go : ∀ (a : Addr), v = .ref a → nms s' t = (kids t).flatMap (nms s') → ∀ (tl : TS), (∀ D σ H', tl D σ H' ↔ ∃ x, σ[2]? = some (some x) ∧ D.rt x H') →
          tSeq (tAsg (tLst tNil) (gName 2)) (tSeq (tFor (iList K (tCall sp_inner [] E0 (tCons (tVar 1) tNil))) (gName 3) (tDrop (tBM K "list" rExtend (tVar 2) (tCons (tCall (sp_names_by d) [] E0 (tCons (tVar 0) (tCons (tVar 3) tNil))) tNil)))) tl)
            { nx := fun _ H' => Q .non H', rt := Q } [some (.str (srS s')), some v, none, none] H := by
        intro a ev en tl htl
        refine ⟨Nat.zero_le _, fun L nL => ?_⟩
        have s0 := Same.new (o := .lst []) nL
        refine ⟨_, rfl, v, t, rfl, TmAt.same s0 ht, fun r H1 s1 ⟨p, us, er, np, hp, hu⟩ => ?_⟩
        subst er
        have npL : p ≠ L := fun z => by
          rw [z, upd_same] at np
          cases np
        have hL1 : H1 L = some (.lst []) := s1 _ _ upd_same
        refine ⟨p, rfl, ⟨_, SqL.of hp⟩, for_list (K := K) (a := p) (xs := us) (fun i σ H' => ∃ x, σ = [some (.str (srS s')), some v, some (.ref L), x] ∧ Same H H' ∧ H' p = some (.lst us) ∧ KidsAt H' us t ∧ H' L = some (.lst ((((kids t).take i).flatMap (nms s')).map V.str))) ⟨none, rfl, s0.trans s1, hp, hu, hL1⟩ (fun i σ H' _ ⟨_, _, _, h, _⟩ => SqL.of h) ?_ ?_⟩
        · rintro i u σ H' hi ⟨x, rfl, s2, hp2, hu2, hL2⟩
          obtain ⟨c, ec, hc⟩ := hu2.get hi
          have hcm := List.mem_of_getElem? ec
          refine ⟨_, rfl, .inl ⟨rfl, _, SqL.of hL2⟩, _, rfl, _, rfl, s', u, c, rfl, hc, kids_dp hcm hd, Nat.le_trans (sz_kid hcm) hz, fun r H3 s3 ⟨p3, er, np3, hp3⟩ => ?_⟩
          subst er
          refine ⟨L, p3, _, _, rfl, rfl, s3 _ _ hL2, hp3, ?_, some u, rfl, (s2.trans s3).mut nL, ?_, ?_, ?_⟩
          · rw [List.length_map, List.length_map]
            have h1 := flat_sz s' ((kids t).take i)
            have h2 := sum_take_le sz (kids t) i
            have h3 := sz_kids t
            have h4 := nms_le s' c
            have h5 := sz_kid hcm
            exact line_of (by omega)
          · rw [upd_ne npL]
            exact s3 _ _ hp2
          · have neTup : ∀ b o, H' b = some o → (∀ xs, o ≠ .lst xs) → (upd H3 L (.lst ((((kids t).take i).flatMap (nms s')).map V.str ++ (nms s' c).map V.str))) b = some o := fun b o hb ho => by
              have : b ≠ L := fun z => by
                rw [z, hL2] at hb
                exact ho _ (Option.some.inj hb).symm
              rw [upd_ne this]
              exact s3 _ _ hb
            exact ⟨hu2.1, fun j u' k' g1 g2 => tm_keep neTup (hu2.2 j u' k' g1 g2)⟩
          · rw [upd_same, take_snoc ec, List.flatMap_append, List.map_append]
            show some (HO.lst _) = some (HO.lst (_ ++ ((nms s' c ++ []).map V.str)))
            rw [List.append_nil]
        · rintro σ H' ⟨x, rfl, s2, hp2, hu2, hL2⟩
          rw [hu.1, List.take_length, ← en] at hL2
          exact (htl _ _ _).mpr ⟨_, rfl, q _ _ s2 ⟨L, rfl, nL, hL2⟩⟩
      cases t with
      | num w' x =>
        obtain ⟨a, rfl, ha⟩ := ht
        refine rt_no rfl rfl ha (by cases s' <;> decide +kernel) ?_
        exact go a rfl (nms_kids fun _ _ => nofun) _ fun _ _ _ => Iff.rfl
      | leaf s n =>
        obtain ⟨a, rfl, ha⟩ := ht
        by_cases e : s = s'
        · subst e
          refine rt_yes rfl rfl ha rfl ?_
          refine ⟨_, rfl, a, _, 1, _, rfl, rfl, SqT.of ha, rfl, by show 1 ≤ sizeLine; decide, fun p np => q _ _ (Same.new np) ⟨p, rfl, np, ?_⟩⟩
          rw [upd_same]
          show some (HO.lst [V.str n]) = some (HO.lst ((if s = s then [n] else []).map V.str))
          rw [if_pos rfl]
          rfl
        · refine rt_no rfl rfl ha (by cases s <;> cases s' <;> first | decide +kernel | exact absurd rfl e) ?_
          refine go a rfl ?_ _ fun _ _ _ => Iff.rfl
          show (if s = s' then [n] else []) = []
          rw [if_neg e]
      | not t =>
        obtain ⟨a, u, rfl, ha, hu⟩ := id ht
        refine rt_no rfl rfl ha (by cases s' <;> decide +kernel) ?_
        exact go a rfl (nms_kids fun _ _ => nofun) _ fun _ _ _ => Iff.rfl
      | part t low many =>
        obtain ⟨a, u, rfl, ha, hu⟩ := id ht
        refine rt_no rfl rfl ha (by cases s' <;> decide +kernel) ?_
        exact go a rfl (nms_kids fun _ _ => nofun) _ fun _ _ _ => Iff.rfl
      | bin o t u =>
        obtain ⟨a, x, y, rfl, ha, hx, hy⟩ := id ht
        refine rt_no rfl rfl ha (by cases o <;> cases s' <;> decide +kernel) ?_
        exact go a rfl (nms_kids fun _ _ => nofun) _ fun _ _ _ => Iff.rfl
def sp_reads (d : Nat) : Sp := fun vs_ H Q _ => ∃ (v : V) (t : Tm), vs_ = [v] ∧ TmAt H t v ∧ dp t ≤ d ∧ sz t < 64 ∧
  Ret H Q fun r H' => ∃ p a b c E L D, r = .ref p ∧ H' p = some (.tup [.ref a, .ref b, .ref c]) ∧ H' a = some (.lst (E.map V.str)) ∧ H' b = some (.lst (L.map V.str)) ∧ H' c = some (.lst (D.map V.str)) ∧
    Srt E ∧ Srt L ∧ Srt D ∧ (∀ n, n ∈ E ↔ n ∈ nms .box t) ∧ (∀ n, n ∈ L ↔ n ∈ nms .late t) ∧ (∀ n, n ∈ D ↔ n ∈ nms .door t) ∧ E.length < 64 ∧ L.length < 64 ∧ D.length < 64
theorem ok_reads (T : Txt K mg) (d : Nat) : Ok P w K mg base "reads" ["term"] (3 + d) (sp_reads d) := by
  have G_names_by : Ok P w K mg base "names_by" _ (2 + d) _ := ok_names_by T d
  have e : 3 + d = 2 + d + 1 := by omega
  rw [e]
  refine T.d_reads.ok sc_reads (fun vs H Q E h => ?_) (fun cdv A outer s H vs_ Q E hr h => ?_)
  · obtain ⟨v, t, rfl, _⟩ := h
    rfl
  · obtain ⟨v, t, rfl, ht, hd, hz, q⟩ := h
    refine ⟨_, (pss_cons (ps_set (i := 1) sc_reads.nd rfl (Or.inl rfl) (pe_callB (cr_sortTx (by rfl)) (by rfl) T.z_sorted PyProof.Rows.boot_sorted (pa_cons (pe_callTy (cr_setOf (by rfl)) (by rfl) T.z_set PyProof.Rows.boot_set (pa_cons (pe_c T.d_names_by G_names_by (hr.mono (by omega)) (by rfl) (pa_cons pe_str (pa_cons (pv 0) pa_nil))) pa_nil)) pa_nil)))
      (pss_cons (ps_set (i := 2) sc_reads.nd rfl (Or.inl rfl) (pe_callB (cr_sortTx (by rfl)) (by rfl) T.z_sorted PyProof.Rows.boot_sorted (pa_cons (pe_callTy (cr_setOf (by rfl)) (by rfl) T.z_set PyProof.Rows.boot_set (pa_cons (pe_c T.d_names_by G_names_by (hr.mono (by omega)) (by rfl) (pa_cons pe_str (pa_cons (pv 0) pa_nil))) pa_nil)) pa_nil)))
      (pss_one (ps_ret (pe_tup (pa_cons (pv 1) (pa_cons (pv 2) (pa_cons (pe_callB (cr_sortTx (by rfl)) (by rfl) T.z_sorted PyProof.Rows.boot_sorted (pa_cons (pe_callTy (cr_setOf (by rfl)) (by rfl) T.z_set PyProof.Rows.boot_set (pa_cons (pe_c T.d_names_by G_names_by (hr.mono (by omega)) (by rfl) (pa_cons pe_str (pa_cons (pv 0) pa_nil))) pa_nil)) pa_nil)) pa_nil)))))))), ?_⟩
    have le1 := nms_le .box t
    have le2 := nms_le .late t
    have le3 := nms_le .door t
    refine ⟨_, rfl, .box, v, t, rfl, ht, hd, by omega, fun r H1 s1 ⟨p, er, np, hp⟩ => ?_⟩
    subst er
    refine ⟨p, _, rfl, SqL.of hp, by omega, fun z nz => ⟨z, _, rfl, upd_same, by omega, fun E1 a so1 me1 len1 na => ?_⟩⟩
    have t1 := (s1.newT (o := SetTx w z (nms .box t)) nz).newT (o := .lst (E1.map V.str)) na
    refine ⟨_, rfl, .late, v, t, rfl, TmAt.same t1 ht, hd, by omega, fun r H2 s2 ⟨p2, er, np2, hp2⟩ => ?_⟩
    subst er
    have ha2 := s2 _ _ (upd_same (H := upd H1 z (SetTx w z (nms .box t))) (a := a) (o := .lst (E1.map V.str)))
    refine ⟨p2, _, rfl, SqL.of hp2, by omega, fun z2 nz2 => ⟨z2, _, rfl, upd_same, by omega, fun L1 b so2 me2 len2 nb => ?_⟩⟩
    have t2 := ((t1.trans s2).newT (o := SetTx w z2 (nms .late t)) nz2).newT (o := .lst (L1.map V.str)) nb
    have ha3 := ((Same.new (o := SetTx w z2 (nms .late t)) nz2).newT (o := .lst (L1.map V.str)) nb) _ _ ha2
    have hb3 : (upd (upd H2 z2 (SetTx w z2 (nms .late t))) b (.lst (L1.map V.str))) b = some (.lst (L1.map V.str)) := upd_same
    refine ⟨_, rfl, _, rfl, _, rfl, .door, v, t, rfl, TmAt.same t2 ht, hd, by omega, fun r H3 s3 ⟨p3, er, np3, hp3⟩ => ?_⟩
    subst er
    refine ⟨p3, _, rfl, SqL.of hp3, by omega, fun z3 nz3 => ⟨z3, _, rfl, upd_same, by omega, fun D1 c so3 me3 len3 nc => ⟨by show 3 ≤ sizeLine; decide, fun l nl => ?_⟩⟩⟩
    have t3 := (((t2.trans s3).newT (o := SetTx w z3 (nms .door t)) nz3).newT (o := .lst (D1.map V.str)) nc).newT (o := .tup [.ref a, .ref b, .ref c]) nl
    have last := ((Same.new (o := SetTx w z3 (nms .door t)) nz3).newT (o := .lst (D1.map V.str)) nc).newT (o := .tup [.ref a, .ref b, .ref c]) nl
    refine q _ _ t3 ⟨l, a, b, c, E1, L1, D1, rfl, upd_same, last _ _ (s3 _ _ ha3), last _ _ (s3 _ _ hb3), ?_, so1, so2, so3, me1, me2, me3, by omega, by omega, by omega⟩
    exact (Same.new nl) _ _ upd_same
end
end K24

set_option Elab.async false
set_option linter.all false
set_option maxRecDepth 100000
set_option maxHeartbeats 4000000
/-! Terms: the worth. -/
namespace K24
open PySem PySem.Spec PyProof.Rows L2
/-- a dict from names to words: f, for the names ns -/
def DNs (H : Hp) (d : Addr) (ns : List Str) (f : Str → Nat) : Prop := ∃ kvs : List (Key × V), H d = some (.dK kvs) ∧ ∀ n ∈ ns, valV kvs (.inr n) = some (vN (f n))
theorem DNs.same {H H' : Hp} {d : Addr} {ns : List Str} {f : Str → Nat} (h : DNs H d ns f) (s0 : Same H H') : DNs H' d ns f := by
  obtain ⟨kvs, h1, h2⟩ := h
  exact ⟨kvs, s0 _ _ h1, h2⟩
theorem DNs.sub {H : Hp} {d : Addr} {ns ns' : List Str} {f : Str → Nat} (h : DNs H d ns f) (k : ∀ n ∈ ns', n ∈ ns) : DNs H d ns' f := by
  obtain ⟨kvs, h1, h2⟩ := h
  exact ⟨kvs, h1, fun n hn => h2 n (k n hn)⟩
theorem DNs.at {H : Hp} {d : Addr} {ns : List Str} {f : Str → Nat} (h : DNs H d ns f) {n : Str} (hn : n ∈ ns) : DGet H d (.str n) (some (vN (f n))) := by
  obtain ⟨kvs, h1, h2⟩ := h
  have g := DGet.k (k := Sum.inr n) h1
  rw [h2 n hn] at g
  exact g
structure Nums3 (H : Hp) (de dl dd : Addr) (t : Tm) (e : Sr → Str → Nat) : Prop where
  box : DNs H de (nms .box t) (e .box)
  late : DNs H dl (nms .late t) (e .late)
  door : DNs H dd (nms .door t) (e .door)
theorem Nums3.same {H H' : Hp} {de dl dd : Addr} {t : Tm} {e : Sr → Str → Nat} (h : Nums3 H de dl dd t e) (s0 : Same H H') : Nums3 H' de dl dd t e := ⟨h.box.same s0, h.late.same s0, h.door.same s0⟩
theorem Nums3.sub {H : Hp} {de dl dd : Addr} {t u : Tm} {e : Sr → Str → Nat} (h : Nums3 H de dl dd t e) (k : ∀ s, ∀ n ∈ nms s u, n ∈ nms s t) : Nums3 H de dl dd u e := ⟨h.box.sub (k _), h.late.sub (k _), h.door.sub (k _)⟩
def pw : Op → Nat × Nat → Nat × Nat → Nat × Nat
  | .and, r, q => (r.1, r.2 &&& q.2)
  | .or, r, q => (r.1, r.2 ||| q.2)
  | .plus, r, q => (r.1, (r.2 + q.2) % 2 ^ r.1)
  | .less, r, q => (1, if r.2 < q.2 then 1 else 0)
  | .same, r, q => (1, if r.2 = q.2 then 1 else 0)
  | .join, r, q => (r.1 + q.1, r.2 * 2 ^ q.1 + q.2)
theorem val_bin (W : Ws) (e : Sr → Str → Nat) (o : Op) (t u : Tm) : val W e (.bin o t u) = pw o (val W e t) (val W e u) := by cases o <;> rfl
abbrev tw (r : Nat × Nat) : HO := .tup [vN r.1, vN r.2]
theorem two64 {v k : Nat} (h : v < 2 ^ k) (hk : k ≤ 64) : ((v : Nat) : Int).natAbs < 2 ^ 64 := by
  have := Nat.pow_le_pow_right (n := 2) (by decide) hk
  omega
section
variable {P : Program} {w : World} {K : PySem.W.Frag} {mg : Str → Option Value} {base : Heap}
def sp_pair_worth : Sp := fun vs_ H Q _ => ∃ (o : Op) (a b : Addr) (r q : Nat × Nat), vs_ = [.str (formS o), .ref a, .ref b] ∧ H a = some (tw r) ∧ H b = some (tw q) ∧ r.1 ≤ 64 ∧ q.1 ≤ 64 ∧ r.2 < 2 ^ r.1 ∧ Ret H Q fun v H' => ∃ p, v = .ref p ∧ H' p = some (tw (pw o r q))
theorem ok_pair_worth (T : Txt K mg) : Ok P w K mg base "pair_worth" ["form", "one", "other"] 2 sp_pair_worth := by
  have G_cut : Ok P w K mg base "cut" _ 1 _ := ok_cut T
  refine T.d_pair_worth.ok sc_pair_worth (fun vs H Q E h => ?_) (fun cdv A outer s H vs_ Q E hr h => ?_)
  · obtain ⟨o, a, b, r, q, rfl, _⟩ := h
    rfl
  · obtain ⟨o, a, b, ⟨k1, v1⟩, ⟨k2, v2⟩, rfl, ha, hb, l1, l2, lt1, q⟩ := h
    refine ⟨_, (pss_cons (ps_asg (pv 1) (pg_tup (by rfl) (pgs_cons (pg_name (i := 3) sc_pair_worth.nd rfl (Or.inl rfl)) (pgs_cons (pg_name (i := 4) sc_pair_worth.nd rfl (Or.inl rfl)) pgs_nil))))
      (pss_cons (ps_if (pt_cmpR op_eq (pv 0) pe_str (nomark _)) (pss_one (ps_ret (pe_tup (pa_cons (pv 3) (pa_cons (pe_op op_and (pv 4) (pe_ix (r := rIxT K) ix_tup (pv 2) pe_int (fun _ _ => rfl))) pa_nil))))) pss_nil)
      (pss_cons (ps_if (pt_cmpR op_eq (pv 0) pe_str (nomark _)) (pss_one (ps_ret (pe_tup (pa_cons (pv 3) (pa_cons (pe_op op_or (pv 4) (pe_ix (r := rIxT K) ix_tup (pv 2) pe_int (fun _ _ => rfl))) pa_nil))))) pss_nil)
      (pss_cons (ps_if (pt_cmpR op_eq (pv 0) pe_str (nomark _)) (pss_one ps_never) pss_nil)
      (pss_cons (ps_if (pt_cmpR op_eq (pv 0) pe_str (nomark _)) (pss_one (ps_ret (pe_tup (pa_cons (pv 3) (pa_cons (pe_c T.d_cut G_cut (hr.mono (by omega)) (by rfl) (pa_cons (pv 3) (pa_cons (pe_op op_add (pv 4) (pe_ix (r := rIxT K) ix_tup (pv 2) pe_int (fun _ _ => rfl))) pa_nil))) pa_nil))))) pss_nil)
      (pss_cons (ps_if (pt_cmpR op_eq (pv 0) pe_str (nomark _)) (pss_one ps_never) pss_nil)
      (pss_cons (ps_if (pt_cmpR op_eq (pv 0) pe_str (nomark _)) (pss_one (ps_ret (pe_tup (pa_cons pe_int (pa_cons (pe_callTy call_int1 (by rfl) T.z_int PyProof.Rows.boot_int (pa_cons (pe_cmpR op_lt (pv 4) (pe_ix (r := rIxT K) ix_tup (pv 2) pe_int (fun _ _ => rfl)) (nomark _)) pa_nil)) pa_nil))))) pss_nil)
      (pss_cons (ps_if (pt_cmpR op_eq (pv 0) pe_str (nomark _)) (pss_one (ps_ret (pe_tup (pa_cons pe_int (pa_cons (pe_callTy call_int1 (by rfl) T.z_int PyProof.Rows.boot_int (pa_cons (pe_cmpR op_eq (pv 4) (pe_ix (r := rIxT K) ix_tup (pv 2) pe_int (fun _ _ => rfl)) (nomark _)) pa_nil)) pa_nil))))) pss_nil)
      (pss_one (ps_ret (pe_tup (pa_cons (pe_op op_add (pv 3) (pe_ix (r := rIxT K) ix_tup (pv 2) pe_int (fun _ _ => rfl))) (pa_cons (pe_op op_add (pe_op op_shl (pv 4) (pe_ix (r := rIxT K) ix_tup (pv 2) pe_int (fun _ _ => rfl))) (pe_ix (r := rIxT K) ix_tup (pv 2) pe_int (fun _ _ => rfl))) pa_nil))))))))))))), ?_⟩
    refine ⟨_, rfl, a, _, rfl, SqT.of ha, rfl, _, _, rfl, _, _, rfl, rfl, ?_⟩
    have fin : ∀ (k v : Nat) (p : Addr) (i j : Int), H p = none → i = (k : Int) → j = (v : Int) → pw o (k1, v1) (k2, v2) = (k, v) → Q (.ref p) (upd H p (.tup [.int i, .int j])) := fun k v p i j np ei ej e => by
      subst ei ej
      exact q _ _ (Same.new np) ⟨p, rfl, by rw [e]; exact upd_same⟩
    cases o with
    | and =>
      refine rf_yes rfl rfl ?_
      refine ⟨_, rfl, _, rfl, _, rfl, b, _, 1, _, rfl, rfl, SqT.of hb, rfl, _, _, rfl, rfl, by show 2 ≤ sizeLine; decide, fun p np => fin k1 (v1 &&& v2) p _ _ np rfl ?_ rfl⟩
      rw [bitAnd_pp (by omega) (by omega)]
      rfl
    | or =>
      refine rf_no rfl (by decide +kernel) (rf_yes rfl rfl ?_)
      refine ⟨_, rfl, _, rfl, _, rfl, b, _, 1, _, rfl, rfl, SqT.of hb, rfl, _, _, rfl, rfl, by show 2 ≤ sizeLine; decide, fun p np => fin k1 (v1 ||| v2) p _ _ np rfl ?_ rfl⟩
      rw [Bits.bitOr_pp (by omega) (by omega)]
      rfl
    | plus =>
      refine rf_no rfl (by decide +kernel) (rf_no rfl (by decide +kernel) (rf_no rfl (by decide +kernel) (rf_yes rfl rfl ?_)))
      refine ⟨_, rfl, _, rfl, _, rfl, _, rfl, b, _, 1, _, rfl, rfl, SqT.of hb, rfl, _, _, rfl, rfl, k1, _, rfl, l1, by show 2 ≤ sizeLine; decide, fun p np => fin k1 ((v1 + v2) % 2 ^ k1) p _ _ np rfl ?_ rfl⟩
      show ((v1 : Int) + (v2 : Int)) % ((2 ^ k1 : Nat) : Int) = (((v1 + v2) % 2 ^ k1 : Nat) : Int)
      rw [Int.natCast_emod, Int.natCast_add]
    | less =>
      refine rf_no rfl (by decide +kernel) (rf_no rfl (by decide +kernel) (rf_no rfl (by decide +kernel) (rf_no rfl (by decide +kernel) (rf_no rfl (by decide +kernel) (rf_yes rfl rfl ?_)))))
      refine ⟨_, rfl, _, rfl, b, _, 1, _, rfl, rfl, SqT.of hb, rfl, _, _, rfl, rfl, Or.inr ⟨_, rfl, by show 2 ≤ sizeLine; decide, fun p np => fin 1 (if v1 < v2 then 1 else 0) p _ _ np rfl ?_ rfl⟩⟩
      by_cases h : v1 < v2
      · rw [if_pos h, decide_eq_true (show (v1 : Int) < (v2 : Int) by omega)]
        rfl
      · rw [if_neg h, decide_eq_false (show ¬ (v1 : Int) < (v2 : Int) by omega)]
        rfl
    | same =>
      refine rf_no rfl (by decide +kernel) (rf_no rfl (by decide +kernel) (rf_no rfl (by decide +kernel) (rf_no rfl (by decide +kernel) (rf_no rfl (by decide +kernel) (rf_no rfl (by decide +kernel) (rf_yes rfl rfl ?_))))))
      refine ⟨_, rfl, _, rfl, b, _, 1, _, rfl, rfl, SqT.of hb, rfl, rfl, Or.inr ⟨_, rfl, by show 2 ≤ sizeLine; decide, fun p np => fin 1 (if v1 = v2 then 1 else 0) p _ _ np rfl ?_ rfl⟩⟩
      rw [dec_vN]
      by_cases h : v1 = v2
      · rw [if_pos h, decide_eq_true h]
        rfl
      · rw [if_neg h, decide_eq_false h]
        rfl
    | join =>
      refine rf_no rfl (by decide +kernel) (rf_no rfl (by decide +kernel) (rf_no rfl (by decide +kernel) (rf_no rfl (by decide +kernel) (rf_no rfl (by decide +kernel) (rf_no rfl (by decide +kernel) (rf_no rfl (by decide +kernel) ?_))))))
      refine ⟨_, rfl, _, rfl, b, _, 0, _, rfl, rfl, SqT.of hb, rfl, _, _, rfl, rfl, ?_⟩
      refine ⟨_, rfl, _, rfl, b, _, 0, _, rfl, rfl, SqT.of hb, rfl, _, _, rfl, rfl, ⟨by omega, by show ((k2 : Nat) : Int) ≤ 1000000; have : k2 ≤ 64 := l2; omega, two64 lt1 l1⟩, ?_⟩
      refine ⟨_, rfl, b, _, 1, _, rfl, rfl, SqT.of hb, rfl, _, _, rfl, rfl, by show 2 ≤ sizeLine; decide, fun p np => fin (k1 + k2) (v1 * 2 ^ k2 + v2) p _ _ np ?_ ?_ rfl⟩
      · exact (Int.natCast_add k1 k2).symm
      · rw [Int.toNat_natCast, Int.natCast_add, Int.natCast_mul, Int.natCast_pow]
        rfl
end
end K24

set_option Elab.async false
set_option linter.all false
set_option maxRecDepth 100000
set_option maxHeartbeats 4000000
/-! Terms: width and worth together. -/
namespace K24
open PySem PySem.Spec PyProof.Rows L2
/-- the worths of some terms, each a tuple -/
def VKs (H : Hp) (us : List V) (ks : List Tm) (f : Tm → Nat × Nat) : Prop := us.length = ks.length ∧ ∀ (j : Nat) (u : V) (c : Tm), us[j]? = some u → ks[j]? = some c → ∃ p, u = .ref p ∧ H p = some (tw (f c))
theorem VKs.snoc {H : Hp} {us : List V} {ks : List Tm} {f : Tm → Nat × Nat} {p : Addr} {c : Tm} (h : VKs H us ks f) (hp : H p = some (tw (f c))) : VKs H (us ++ [.ref p]) (ks ++ [c]) f := by
  refine ⟨by rw [List.length_append, List.length_append, h.1]; rfl, fun j u c' h1 h2 => ?_⟩
  by_cases hj : j < us.length
  · rw [List.getElem?_append_left hj] at h1
    rw [List.getElem?_append_left (by rw [← h.1]; exact hj)] at h2
    exact h.2 j u c' h1 h2
  · rw [List.getElem?_append_right (by omega)] at h1
    rw [List.getElem?_append_right (by have := h.1; omega), ← h.1] at h2
    generalize j - us.length = i at h1 h2
    match i, h1, h2 with
    | 0, h1, h2 =>
      cases h1
      cases h2
      exact ⟨p, rfl, hp⟩
theorem VKs.keep {H H' : Hp} {us : List V} {ks : List Tm} {f : Tm → Nat × Nat} (h : VKs H us ks f) (k : ∀ b o, H b = some o → (∀ xs, o ≠ .lst xs) → H' b = some o) : VKs H' us ks f :=
  ⟨h.1, fun j u c h1 h2 => let ⟨p, e, hp⟩ := h.2 j u c h1 h2; ⟨p, e, k _ _ hp nofun⟩⟩
theorem kids_sub {t c : Tm} (h : c ∈ kids t) : ∀ s, ∀ n ∈ nms s c, n ∈ nms s t := by
  cases t with
  | num _ _ => cases h
  | leaf _ _ => cases h
  | not t =>
    rw [List.mem_singleton.mp h]
    exact fun _ _ q => q
  | part t _ _ =>
    rw [List.mem_singleton.mp h]
    exact fun _ _ q => q
  | bin o t u =>
    rcases List.mem_cons.mp h with rfl | h
    · exact fun _ _ q => List.mem_append_left _ q
    · rw [List.mem_singleton.mp h]
      exact fun _ _ q => List.mem_append_right _ q
theorem kids_wd {W : Ws} {t c : Tm} {k : Nat} (hw : Wd W t k) (h : c ∈ kids t) : ∃ j, Wd W c j := by
  cases t with
  | num _ _ => cases h
  | leaf _ _ => cases h
  | not t =>
    rw [List.mem_singleton.mp h]
    exact ⟨k, hw⟩
  | part t _ _ =>
    rw [List.mem_singleton.mp h]
    obtain ⟨_, _, j, hj, _⟩ := hw
    exact ⟨j, hj⟩
  | bin o t u =>
    obtain ⟨i, j, wt, wu, _⟩ := wd_bin hw
    rcases List.mem_cons.mp h with rfl | h
    · exact ⟨i, wt⟩
    · rw [List.mem_singleton.mp h]
      exact ⟨j, wu⟩
def Fit (W : Ws) (t : Tm) (e : Sr → Str → Nat) : Prop := ∀ s n w, n ∈ nms s t → W.of s n = some w → e s n < 2 ^ w
theorem Fit.sub {W : Ws} {t u : Tm} {e : Sr → Str → Nat} (h : Fit W t e) (k : ∀ s, ∀ n ∈ nms s u, n ∈ nms s t) : Fit W u e := fun s n w hn => h s n w (k s n hn)
theorem keepL {H H' : Hp} {L : Addr} {xs ys : List V} (s0 : Same H H') (hL : H L = some (.lst xs)) : ∀ b o, H b = some o → (∀ zs, o ≠ .lst zs) → (upd H' L (.lst ys)) b = some o := fun b o hb ho => by
  have : b ≠ L := fun z => by
    rw [z, hL] at hb
    exact ho _ (Option.some.inj hb).symm
  rw [upd_ne this]
  exact s0 _ _ hb
section
variable {P : Program} {w : World} {K : PySem.W.Frag} {mg : Str → Option Value} {base : Heap}
def sp_wide_worth (d : Nat) : Sp := fun vs_ H Q _ => ∃ (v : V) (pw_ qw di dq de dl dd : Addr) (t : Tm) (W : Ws) (k : Nat) (e : Sr → Str → Nat), vs_ = [v, .ref pw_, .ref qw] ∧ TmAt H t v ∧ dp t ≤ d ∧ WsOk W ∧ Wd W t k ∧
  H pw_ = some (.tup [.ref di, .ref dq]) ∧ H qw = some (.tup [.ref de, .ref dl, .ref dd]) ∧ DIs H di W.bw ∧ DIs H dq W.dw ∧ Nums3 H de dl dd t e ∧ Fit W t e ∧ Ret H Q fun r H' => ∃ p, r = .ref p ∧ H' p = some (tw (val W e t))
theorem ok_wide_worth (T : Txt K mg) : ∀ d : Nat, Ok P w K mg base "wide_worth" ["term", "widths", "words"] (3 + d) (sp_wide_worth d)
  | 0 => by
    refine T.d_wide_worth.ok (k := 2) sc_wide_worth (fun vs H Q E h => ?_) (fun cdv A outer s H vs_ Q E hr h => ?_)
    · obtain ⟨v, pw_, qw, di, dq, de, dl, dd, t, W, k, e, rfl, _⟩ := h
      rfl
    · obtain ⟨v, pw_, qw, di, dq, de, dl, dd, t, W, k, e, rfl, _, hd, _⟩ := h
      cases t <;> cases hd
  | d + 1 => by
    have G_wide_worth : Ok P w K mg base "wide_worth" _ (3 + d) _ := ok_wide_worth T d
    have G_inner : Ok P w K mg base "inner" _ 1 _ := ok_inner T
    have G_cut : Ok P w K mg base "cut" _ 1 _ := ok_cut T
    have G_pair_worth : Ok P w K mg base "pair_worth" _ 2 _ := ok_pair_worth T
    refine T.d_wide_worth.ok (k := 3 + d) sc_wide_worth (fun vs H Q E h => ?_) (fun cdv A outer s H vs_ Q E hr h => ?_)
    · obtain ⟨v, pw_, qw, di, dq, de, dl, dd, t, W, k, e, rfl, _⟩ := h
      rfl
    · obtain ⟨v, pw_, qw, di, dq, de, dl, dd, t, W, k, e, rfl, ht, hd, ok, hw, hp1, hq1, hi, ho, hn, hf, q⟩ := h
      refine ⟨_, (pss_cons (ps_if (pt_cmpR op_eq (pe_ix (r := rIxT K) ix_tup (pv 0) pe_int (fun _ _ => rfl)) pe_str (nomark _)) (pss_one (ps_ret (pe_tup (pa_cons (pe_ix (r := rIxT K) ix_tup (pv 0) pe_int (fun _ _ => rfl)) (pa_cons (pe_ix (r := rIxT K) ix_tup (pv 0) pe_int (fun _ _ => rfl)) pa_nil))))) pss_nil)
      (pss_cons (ps_if (pt_cmpR op_eq (pe_ix (r := rIxT K) ix_tup (pv 0) pe_int (fun _ _ => rfl)) pe_str (nomark _)) (pss_one (ps_ret (pe_tup (pa_cons (pe_dget (hu_of hr) (pe_ix (r := rIxT K) ix_tup (pv 1) pe_int (fun _ _ => rfl)) (pe_ix (r := rIxT K) ix_tup (pv 0) pe_int (fun _ _ => rfl)) (fun _ _ => rfl)) (pa_cons (pe_dget (hu_of hr) (pe_ix (r := rIxT K) ix_tup (pv 2) pe_int (fun _ _ => rfl)) (pe_ix (r := rIxT K) ix_tup (pv 0) pe_int (fun _ _ => rfl)) (fun _ _ => rfl)) pa_nil))))) pss_nil)
      (pss_cons (ps_if (pt_cmpR op_eq (pe_ix (r := rIxT K) ix_tup (pv 0) pe_int (fun _ _ => rfl)) pe_str (nomark _)) (pss_one (ps_ret (pe_tup (pa_cons (pe_dget (hu_of hr) (pe_ix (r := rIxT K) ix_tup (pv 1) pe_int (fun _ _ => rfl)) (pe_ix (r := rIxT K) ix_tup (pv 0) pe_int (fun _ _ => rfl)) (fun _ _ => rfl)) (pa_cons (pe_dget (hu_of hr) (pe_ix (r := rIxT K) ix_tup (pv 2) pe_int (fun _ _ => rfl)) (pe_ix (r := rIxT K) ix_tup (pv 0) pe_int (fun _ _ => rfl)) (fun _ _ => rfl)) pa_nil))))) pss_nil)
      (pss_cons (ps_if (pt_cmpR op_eq (pe_ix (r := rIxT K) ix_tup (pv 0) pe_int (fun _ _ => rfl)) pe_str (nomark _)) (pss_one (ps_ret (pe_tup (pa_cons (pe_dget (hu_of hr) (pe_ix (r := rIxT K) ix_tup (pv 1) pe_int (fun _ _ => rfl)) (pe_ix (r := rIxT K) ix_tup (pv 0) pe_int (fun _ _ => rfl)) (fun _ _ => rfl)) (pa_cons (pe_dget (hu_of hr) (pe_ix (r := rIxT K) ix_tup (pv 2) pe_int (fun _ _ => rfl)) (pe_ix (r := rIxT K) ix_tup (pv 0) pe_int (fun _ _ => rfl)) (fun _ _ => rfl)) pa_nil))))) pss_nil)
      (pss_cons (ps_setLc (i := 3) (own := [("one", 6)]) (g := gName 6) (by rfl) sc_wide_worth.nd rfl rfl (sw_true rfl rfl rfl (by decide +kernel)) (pi_list (pe_c T.d_inner G_inner (hr.mono (by omega)) (by rfl) (pa_cons (pv 0) pa_nil))) (blkOk_by (N := N_wide_worth) (sc := defScope s_wide_worth) (by decide +kernel)) (fun _ _ _ _ _ => pg_name (i := 6) sc_wide_worth.nd rfl (Or.inl rfl)) (fun _ _ _ _ _ => pts_nil) (fun _ _ _ _ _ => (pe_c T.d_wide_worth G_wide_worth (hr.mono (by omega)) (by rfl) (pa_cons (pv 6) (pa_cons (pv 1) (pa_cons (pv 2) pa_nil))))))
      (pss_cons (ps_asg (pe_ix (r := rIxL K) ix_list (pv 3) pe_int (fun _ _ => rfl)) (pg_tup (by rfl) (pgs_cons (pg_name (i := 4) sc_wide_worth.nd rfl (Or.inl rfl)) (pgs_cons (pg_name (i := 5) sc_wide_worth.nd rfl (Or.inl rfl)) pgs_nil))))
      (pss_cons (ps_if (pt_cmpR op_eq (pe_ix (r := rIxT K) ix_tup (pv 0) pe_int (fun _ _ => rfl)) pe_str (nomark _)) (pss_one (ps_ret (pe_tup (pa_cons (pv 4) (pa_cons (pe_op op_sub (pe_op op_sub (pe_op op_shl pe_int (pv 4)) pe_int) (pv 5)) pa_nil))))) pss_nil)
      (pss_cons (ps_if (pt_cmpR op_eq (pe_ix (r := rIxT K) ix_tup (pv 0) pe_int (fun _ _ => rfl)) pe_str (nomark _)) (pss_one (ps_ret (pe_tup (pa_cons (pe_ix (r := rIxT K) ix_tup (pv 0) pe_int (fun _ _ => rfl)) (pa_cons (pe_c T.d_cut G_cut (hr.mono (by omega)) (by rfl) (pa_cons (pe_ix (r := rIxT K) ix_tup (pv 0) pe_int (fun _ _ => rfl)) (pa_cons (pe_op op_shr (pv 5) (pe_ix (r := rIxT K) ix_tup (pv 0) pe_int (fun _ _ => rfl))) pa_nil))) pa_nil))))) pss_nil)
      (pss_cons (ps_if (pt_cmpR op_eq (pe_ix (r := rIxT K) ix_tup (pv 0) pe_int (fun _ _ => rfl)) pe_str (nomark _)) (pss_one ps_never) pss_nil)
      (pss_one (ps_ret (pe_c T.d_pair_worth G_pair_worth (hr.mono (by omega)) (by rfl) (pa_cons (pe_ix (r := rIxT K) ix_tup (pv 0) pe_int (fun _ _ => rfl)) (pa_cons (pe_ix (r := rIxL K) ix_list (pv 3) pe_int (fun _ _ => rfl)) (pa_cons (pe_ix (r := rIxL K) ix_list (pv 3) pe_int (fun _ _ => rfl)) pa_nil))))))))))))))), ?_⟩
      have inn : ∀ (a : Addr) (D : Ends) (tz : TS), TmAt H t (.ref a) →
          (∀ H' p us, Same H H' → H' p = some (.lst us) → VKs H' us (kids t) (val W e) → tz D [some (.ref a), some (.ref pw_), some (.ref qw), some (.ref p), none, none, none] H') →
          tSeq (tAsg (tLc (iList K (tCall sp_inner [] E0 (tCons (tVar 0) tNil))) (gName 6) tYes (tCall (sp_wide_worth d) [] E0 (tCons (tVar 6) (tCons (tVar 1) (tCons (tVar 2) tNil)))) [6]) (gName 3)) tz D [some (.ref a), some (.ref pw_), some (.ref qw), none, none, none, none] H := by
        intro a D tz ht fin
        refine ⟨_, rfl, _, t, rfl, ht, fun r H1 s1 ⟨p, us, er, np, hp, hu⟩ => ?_⟩
        subst er
        refine ⟨p, rfl, ⟨_, SqL.of hp⟩, fun L hL => lc_list (K := K) (a := p) (xs := us) (fun i H' => Same H1 H' ∧ ∃ ys, H' L = some (.lst ys) ∧ VKs H' ys ((kids t).take i) (val W e)) ⟨Same.new hL, [], upd_same, rfl, fun j u c h1 _ => (by cases h1)⟩ (fun i H' _ p => p.1.seq (SqL.of hp)) ?_ ?_⟩
        · rintro i x H' hi' ⟨s2, ys, h2, vk⟩
          obtain ⟨c, ec, hc⟩ := hu.get hi'
          have cm := List.mem_of_getElem? ec
          obtain ⟨kk, wc⟩ := kids_wd hw cm
          have s02 := s1.trans s2
          refine ⟨rfl, yes_of (iteT ?_)⟩
          refine ⟨_, rfl, _, rfl, _, rfl, x, pw_, qw, di, dq, de, dl, dd, c, W, kk, e, rfl, TmAt.same s2 hc, kids_dp cm hd, ok, wc, s02 _ _ hp1, s02 _ _ hq1, hi.same s02, ho.same s02, (hn.same s02).sub (kids_sub cm), hf.sub (kids_sub cm), fun r H3 s3 ⟨p3, er, hp3⟩ => ?_⟩
          subst er
          have h3 := s3 _ _ h2
          refine ⟨_, h3, ?_, (s2.trans s3).mut hL, _, upd_same, ?_⟩
          · rw [vk.1, List.length_take]
            have h2 := kids_le t
            exact line_lt (by omega)
          · rw [take_snoc ec]
            exact ((vk.keep fun b o hb _ => s3 _ _ hb).snoc hp3).keep (keepL (Same.refl H3) h3)
        · rintro H' ⟨s2, ys, h2, vk⟩
          rw [hu.1, List.take_length] at vk
          exact fin H' L ys (s1.trans s2) h2 vk
      cases t with
      | num w' x =>
        obtain ⟨a, rfl, ha⟩ := ht
        obtain ⟨rfl, h1, h2, h3⟩ := hw
        refine rd_yes rfl ha rfl ?_
        exact ⟨_, rfl, a, _, 1, _, rfl, rfl, SqT.of ha, rfl, _, rfl, a, _, 2, _, rfl, rfl, SqT.of ha, rfl, by show 2 ≤ sizeLine; decide, fun p np => q _ _ (Same.new np) ⟨p, rfl, upd_same⟩⟩
      | leaf s n =>
        obtain ⟨a, rfl, ha⟩ := ht
        have wl : W.of s n = some k := hw
        have ev : val W e (.leaf s n) = (k, e s n) := by
          show ((W.of s n).getD 0, e s n) = _
          rw [wl]
          rfl
        rw [ev] at q
        cases s with
        | box =>
          refine rd_no rfl ha (by decide +kernel) (rd_yes rfl ha rfl ?_)
          refine ⟨_, rfl, pw_, _, 0, _, rfl, rfl, SqT.of hp1, rfl, _, rfl, a, _, 1, _, rfl, rfl, SqT.of ha, rfl, di, _, rfl, hi.at wl, ?_⟩
          refine ⟨_, rfl, qw, _, 0, _, rfl, rfl, SqT.of hq1, rfl, _, rfl, a, _, 1, _, rfl, rfl, SqT.of ha, rfl, de, _, rfl, hn.box.at (mem_leaf .box n), ?_⟩
          exact ⟨by show 2 ≤ sizeLine; decide, fun p np => q _ _ (Same.new np) ⟨p, rfl, upd_same⟩⟩
        | late =>
          refine rd_no rfl ha (by decide +kernel) (rd_no rfl ha (by decide +kernel) (rd_yes rfl ha rfl ?_))
          refine ⟨_, rfl, pw_, _, 0, _, rfl, rfl, SqT.of hp1, rfl, _, rfl, a, _, 1, _, rfl, rfl, SqT.of ha, rfl, di, _, rfl, hi.at wl, ?_⟩
          refine ⟨_, rfl, qw, _, 1, _, rfl, rfl, SqT.of hq1, rfl, _, rfl, a, _, 1, _, rfl, rfl, SqT.of ha, rfl, dl, _, rfl, hn.late.at (mem_leaf .late n), ?_⟩
          exact ⟨by show 2 ≤ sizeLine; decide, fun p np => q _ _ (Same.new np) ⟨p, rfl, upd_same⟩⟩
        | door =>
          refine rd_no rfl ha (by decide +kernel) (rd_no rfl ha (by decide +kernel) (rd_no rfl ha (by decide +kernel) (rd_yes rfl ha rfl ?_)))
          refine ⟨_, rfl, pw_, _, 1, _, rfl, rfl, SqT.of hp1, rfl, _, rfl, a, _, 1, _, rfl, rfl, SqT.of ha, rfl, dq, _, rfl, ho.at wl, ?_⟩
          refine ⟨_, rfl, qw, _, 2, _, rfl, rfl, SqT.of hq1, rfl, _, rfl, a, _, 1, _, rfl, rfl, SqT.of ha, rfl, dd, _, rfl, hn.door.at (mem_leaf .door n), ?_⟩
          exact ⟨by show 2 ≤ sizeLine; decide, fun p np => q _ _ (Same.new np) ⟨p, rfl, upd_same⟩⟩
      | not t =>
        obtain ⟨a, u, rfl, ha, hu⟩ := id ht
        refine rd_no rfl ha (by decide +kernel) (rd_no rfl ha (by decide +kernel) (rd_no rfl ha (by decide +kernel) (rd_no rfl ha (by decide +kernel) ?_)))
        refine inn a _ _ ht fun H' p us s1 hp vk => ?_
        obtain ⟨x, rfl⟩ : ∃ x, us = [x] := List.length_eq_one_iff.mp vk.1
        obtain ⟨p1, rfl, hx⟩ := vk.2 0 x t rfl rfl
        refine ⟨_, rfl, p, _, 0, _, rfl, rfl, SqL.of hp, rfl, p1, _, rfl, SqT.of hx, rfl, _, _, rfl, _, _, rfl, rfl, ?_⟩
        have ha1 := s1 _ _ ha
        have ew := val_w (e := e) (t := t) hw
        have bw := wd_bounds ok hw
        have lt := val_lt (t := t) hw hf
        refine rd_yes rfl ha1 rfl ?_
        refine ⟨_, rfl, _, rfl, _, _, rfl, rfl, ⟨by omega, by show (((val W e t).1 : Nat) : Int) ≤ 1000000; omega, by decide⟩, _, _, rfl, rfl, _, rfl, _, _, rfl, rfl, by show 2 ≤ sizeLine; decide, fun l nl => q _ _ (s1.newT nl) ⟨l, rfl, ?_⟩⟩
        rw [upd_same]
        show some (HO.tup [vN (val W e t).1, V.int ((1 : Int) * 2 ^ ((((val W e t).1 : Nat) : Int)).toNat - 1 - (((val W e t).2 : Nat) : Int))]) = some (HO.tup [vN (val W e t).1, V.int ((2 ^ (val W e t).1 - 1 - (val W e t).2 : Nat) : Int)])
        rw [Int.toNat_natCast]
        have e3 : (1 : Int) * 2 ^ (val W e t).1 - 1 - (((val W e t).2 : Nat) : Int) = ((2 ^ (val W e t).1 - 1 - (val W e t).2 : Nat) : Int) := by
          rw [ew]
          have e4 : ((2 ^ k : Nat) : Int) = (2 : Int) ^ k := Int.natCast_pow 2 k
          omega
        rw [e3]
      | part t low many =>
        obtain ⟨a, u, rfl, ha, hu⟩ := id ht
        obtain ⟨rfl, h1, j, hj, hlm⟩ := id hw
        refine rd_no rfl ha (by decide +kernel) (rd_no rfl ha (by decide +kernel) (rd_no rfl ha (by decide +kernel) (rd_no rfl ha (by decide +kernel) ?_)))
        refine inn a _ _ ht fun H' p us s1 hp vk => ?_
        obtain ⟨x, rfl⟩ : ∃ x, us = [x] := List.length_eq_one_iff.mp vk.1
        obtain ⟨p1, rfl, hx⟩ := vk.2 0 x t rfl rfl
        refine ⟨_, rfl, p, _, 0, _, rfl, rfl, SqL.of hp, rfl, p1, _, rfl, SqT.of hx, rfl, _, _, rfl, _, _, rfl, rfl, ?_⟩
        have ha1 := s1 _ _ ha
        have bj := wd_bounds ok hj
        refine rd_no rfl ha1 (by decide +kernel) (rd_yes rfl ha1 rfl ?_)
        refine ⟨_, rfl, a, _, 3, _, rfl, rfl, SqT.of ha1, rfl, _, rfl, a, _, 3, _, rfl, rfl, SqT.of ha1, rfl, _, rfl, _, rfl, a, _, 2, _, rfl, rfl, SqT.of ha1, rfl, _, _, rfl, rfl, by omega, k, _, rfl, by omega, by show 2 ≤ sizeLine; decide, fun l nl => q _ _ (s1.newT nl) ⟨l, rfl, ?_⟩⟩
        rw [upd_same]
        show some (HO.tup [vN k, V.int ((((val W e t).2 : Nat) : Int) / 2 ^ (low : Int).toNat % ((2 ^ k : Nat) : Int))]) = some (HO.tup [vN k, V.int (((val W e t).2 / 2 ^ low % 2 ^ k : Nat) : Int)])
        rw [Int.toNat_natCast, Int.natCast_emod, Int.natCast_ediv, Int.natCast_pow]
        rfl
      | bin o t u =>
        obtain ⟨a, x, y, rfl, ha, hx, hy⟩ := id ht
        obtain ⟨i0, j0, wt, wu, w2⟩ := wd_bin hw
        have no : ∀ z : Str, z ∈ (["num", "box", "late", "door", "not", "part", "pick"] : List Str) → formS o ≠ z := by
          cases o <;> decide +kernel
        refine rd_no rfl ha (no _ (by decide +kernel)) (rd_no rfl ha (no _ (by decide +kernel)) (rd_no rfl ha (no _ (by decide +kernel)) (rd_no rfl ha (no _ (by decide +kernel)) ?_)))
        refine inn a _ _ ht fun H' p us s1 hp vk => ?_
        obtain ⟨x1, x2, rfl⟩ : ∃ x1 x2, us = [x1, x2] := by
          match us, vk.1 with
          | [x1, x2], _ => exact ⟨x1, x2, rfl⟩
        obtain ⟨p1, rfl, hx1⟩ := vk.2 0 x1 t rfl rfl
        obtain ⟨p2, rfl, hx2⟩ := vk.2 1 x2 u rfl rfl
        refine ⟨_, rfl, p, _, 0, _, rfl, rfl, SqL.of hp, rfl, p1, _, rfl, SqT.of hx1, rfl, _, _, rfl, _, _, rfl, rfl, ?_⟩
        have ha1 := s1 _ _ ha
        have ms : ∀ s, ∀ n ∈ nms s t, n ∈ nms s (.bin o t u) := fun s n h => List.mem_append_left _ h
        have b1 := wd_bounds ok wt
        have b2 := wd_bounds ok wu
        have e1 := val_w (e := e) wt
        have e2 := val_w (e := e) wu
        have lt := val_lt wt (hf.sub ms)
        refine rd_no rfl ha1 (no _ (by decide +kernel)) (rd_no rfl ha1 (no _ (by decide +kernel)) (rd_no rfl ha1 (no _ (by decide +kernel)) ?_))
        refine ⟨_, rfl, a, _, 0, _, rfl, rfl, SqT.of ha1, rfl, _, rfl, p, _, 0, _, rfl, rfl, SqL.of hp, rfl, _, rfl, p, _, 1, _, rfl, rfl, SqL.of hp, rfl, o, p1, p2, val W e t, val W e u, rfl, hx1, hx2, by omega, by omega, by rw [e1]; exact lt, fun r H2 s2 ⟨p3, er, hp3⟩ => ?_⟩
        subst er
        refine q _ _ (s1.trans s2) ⟨p3, rfl, ?_⟩
        rw [val_bin]
        exact hp3
def sp_worth (d : Nat) : Sp := fun vs_ H Q _ => ∃ (v : V) (pw_ di dq de dl dd : Addr) (t : Tm) (W : Ws) (k : Nat) (e : Sr → Str → Nat), vs_ = [v, .ref pw_, .ref de, .ref dl, .ref dd] ∧ TmAt H t v ∧ dp t ≤ d ∧ WsOk W ∧ Wd W t k ∧
  H pw_ = some (.tup [.ref di, .ref dq]) ∧ DIs H di W.bw ∧ DIs H dq W.dw ∧ Nums3 H de dl dd t e ∧ Fit W t e ∧ Ret H Q fun r H' => r = vN (val W e t).2
theorem ok_worth (T : Txt K mg) (d : Nat) : Ok P w K mg base "worth" ["term", "widths", "early", "late", "doors"] (4 + d) (sp_worth d) := by
  have G_wide_worth : Ok P w K mg base "wide_worth" _ (3 + d) _ := ok_wide_worth T d
  have e : 4 + d = 3 + d + 1 := by omega
  rw [e]
  refine T.d_worth.ok sc_worth (fun vs H Q E h => ?_) (fun cdv A outer s H vs_ Q E hr h => ?_)
  · obtain ⟨v, pw_, di, dq, de, dl, dd, t, W, k, e, rfl, _⟩ := h
    rfl
  · obtain ⟨v, pw_, di, dq, de, dl, dd, t, W, k, e, rfl, ht, hd, ok, hw, hp1, hi, ho, hn, hf, q⟩ := h
    refine ⟨_, (pss_one (ps_ret (pe_ix (r := rIxT K) ix_tup (pe_c T.d_wide_worth G_wide_worth (hr.mono (by omega)) (by rfl) (pa_cons (pv 0) (pa_cons (pv 1) (pa_cons (pe_tup (pa_cons (pv 2) (pa_cons (pv 3) (pa_cons (pv 4) pa_nil)))) pa_nil)))) pe_int (fun _ _ => rfl)))), ?_⟩
    refine ⟨_, rfl, _, rfl, _, rfl, _, rfl, _, rfl, by show 3 ≤ sizeLine; decide, fun qw nq => ?_⟩
    have s0 := Same.new (o := .tup [.ref de, .ref dl, .ref dd]) nq
    refine ⟨v, pw_, qw, di, dq, de, dl, dd, t, W, k, e, rfl, TmAt.same s0 ht, hd, ok, hw, s0 _ _ hp1, upd_same, hi.same s0, ho.same s0, hn.same s0, hf, fun r H2 s2 ⟨p, er, hp⟩ => ?_⟩
    subst er
    exact ⟨p, _, 1, _, rfl, rfl, SqT.of hp, rfl, q _ _ (s0.trans s2) rfl⟩
end
end K24

set_option Elab.async false
set_option linter.all false
set_option maxRecDepth 100000
set_option maxHeartbeats 4000000
/-! A works: its things in the heap; names, widths, writes. -/
namespace K24
open PySem PySem.Spec PyProof.Rows L2
/-! ### the things -/
structure Bx where
  p : Addr
  n : Str
  k : Nat
  f : List Int
structure Wr where
  p : Addr
  n : Str
  v : V
  t : Tm
structure Rl where
  p : Addr
  n : Str
  v : V
  t : Tm
  l : Addr
  ws : List Wr
def Bx.At (H : Hp) (b : Bx) : Prop := H b.p = some (.tup (.str b.n :: vN b.k :: b.f.map V.int))
def Wr.At (H : Hp) (r : Wr) : Prop := H r.p = some (.tup [.str r.n, r.v]) ∧ TmAt H r.t r.v
def Rl.At (H : Hp) (r : Rl) : Prop := H r.p = some (.tup [.str r.n, r.v, .ref r.l]) ∧ TmAt H r.t r.v ∧ H r.l = some (.lst (r.ws.map fun x => V.ref x.p)) ∧ ∀ x ∈ r.ws, x.At H
def wB (bs : List Bx) : Str → Option Nat := fun m => (bs.find? fun b => decide (b.n = m)).map (·.k)
theorem wB_snoc {bs : List Bx} {b : Bx} (h : ¬ b.n ∈ bs.map (·.n)) : wB (bs ++ [b]) = fun m => if m = b.n then some b.k else wB bs m := by
  funext m
  unfold wB
  rw [List.find?_append]
  by_cases e : m = b.n
  · subst e
    have e1 : bs.find? (fun x => decide (x.n = b.n)) = none := List.find?_eq_none.mpr fun x hx q => h (List.mem_map.mpr ⟨x, hx, of_decide_eq_true q⟩)
    rw [if_pos rfl, e1, Option.none_or, List.find?_cons_of_pos (by exact decide_eq_true rfl)]
    rfl
  · rw [if_neg e, List.find?_cons_of_neg (by rw [decide_eq_true_eq]; exact fun z => e z.symm), List.find?_nil, Option.or_none]
theorem wB_get {bs : List Bx} (nd : (bs.map (·.n)).Nodup) {b : Bx} (h : b ∈ bs) : wB bs b.n = some b.k := by
  induction bs with
  | nil => cases h
  | cons x bs ih =>
    obtain ⟨h1, h2⟩ := List.nodup_cons.mp nd
    unfold wB
    rcases List.mem_cons.mp h with rfl | h
    · rw [List.find?_cons_of_pos (by exact decide_eq_true rfl)]
      rfl
    · have ne : ¬ x.n = b.n := fun z => h1 (List.mem_map.mpr ⟨b, h, z.symm⟩)
      rw [List.find?_cons_of_neg (by rw [decide_eq_true_eq]; exact ne)]
      exact ih h2 h
theorem wB_mem {bs : List Bx} {n : Str} {k : Nat} (h : wB bs n = some k) : ∃ b ∈ bs, b.n = n ∧ b.k = k := by
  unfold wB at h
  cases e : bs.find? (fun b => decide (b.n = n)) with
  | none =>
    rw [e] at h
    cases h
  | some b =>
    rw [e] at h
    exact ⟨b, List.mem_of_find?_eq_some e, of_decide_eq_true (List.find?_some (p := fun b : Bx => decide (b.n = n)) e), Option.some.inj h⟩
def NmOk (n : Str) : Prop := (∀ c ∈ n.cps.toList, 97 ≤ c ∧ c ≤ 122) ∧ 1 ≤ n.length ∧ n.length ≤ 8
/-- what a works may be made of -/
structure BD (bs ds : List Bx) : Prop where
  bf : ∀ b ∈ bs, ∃ x : Nat, b.f = [(x : Int)] ∧ x < 2 ^ b.k
  df : ∀ b ∈ ds, b.f = []
  bk : ∀ b ∈ bs, 1 ≤ b.k ∧ b.k ≤ 64
  dk : ∀ b ∈ ds, 1 ≤ b.k ∧ b.k ≤ 64
  nb : ∀ b ∈ bs, NmOk b.n
  ne : ∀ b ∈ ds, NmOk b.n
  nd : (bs.map (·.n) ++ ds.map (·.n)).Nodup
  lb : bs.length ≤ 12
  ld : ds.length ≤ 6
abbrev wsOf (bs ds : List Bx) : Ws := ⟨wB bs, wB ds⟩
theorem BD.ok {bs ds : List Bx} (h : BD bs ds) : WsOk (wsOf bs ds) := fun s n w e => by
  cases s with
  | box =>
    obtain ⟨b, hb, _, rfl⟩ := wB_mem (show wB bs n = some w from e)
    exact h.bk b hb
  | late =>
    obtain ⟨b, hb, _, rfl⟩ := wB_mem (show wB bs n = some w from e)
    exact h.bk b hb
  | door =>
    obtain ⟨b, hb, _, rfl⟩ := wB_mem (show wB ds n = some w from e)
    exact h.dk b hb
structure TmOk (W : Ws) (t : Tm) (k : Nat) : Prop where
  d : dp t ≤ 8
  z : sz t < 60
  w : Wd W t k
structure Rl.Ok (W : Ws) (r : Rl) : Prop where
  g : TmOk W r.t 1
  l : r.ws.length ≤ 6
  nd : (r.ws.map (·.n)).Nodup
  ws : ∀ x ∈ r.ws, ∃ k, W.bw x.n = some k ∧ TmOk W x.t k
/-! ### dicts that grow -/
def Tk (H : Hp) (d : Addr) (ns : List Str) : Prop := ∃ kvs : List (Key × V), H d = some (.dK kvs) ∧ kvs.length ≤ ns.length ∧ ∀ n, ¬ n ∈ ns → valV kvs (.inr n) = none
def DIn (H : Hp) (d : Addr) (f : Str → Option Nat) (N : Nat) : Prop := ∃ kvs : List (Key × V), H d = some (.dK kvs) ∧ kvs.length ≤ N ∧ ∀ n, valV kvs (.inr n) = (f n).map vN
theorem DIn.is {H : Hp} {d : Addr} {f : Str → Option Nat} {N : Nat} (h : DIn H d f N) : DIs H d f := let ⟨kvs, h1, _, h3⟩ := h; ⟨kvs, h1, h3⟩
theorem valV_inr (kvs : List (Key × V)) (n m : Str) (y : V) : valV (putK kvs (.inr n) y) (.inr m) = if m = n then some y else valV kvs (.inr m) := by
  rw [valV_put]
  by_cases e : m = n
  · rw [if_pos e, if_pos (by rw [e])]
  · rw [if_neg e, if_neg fun z => e (Sum.inr.inj z)]
theorem Tk.put {H : Hp} {d : Addr} {ns : List Str} (h : Tk H d ns) (hl : ns.length ≤ 10000) (n : Str) (v : V) : ∃ o, DPut H d (.str n) v (upd H d o) ∧ ∀ H', H' d = some o → Tk H' d (ns ++ [n]) := by
  obtain ⟨kvs, h1, h2, h3⟩ := h
  refine ⟨_, DPut.k (k := Sum.inr n) h1 (line_lt (by omega)), fun H' e => ⟨_, e, ?_, fun m hm => ?_⟩⟩
  · have := length_putK kvs (Sum.inr n : Key) v
    rw [List.length_append]
    show _ ≤ ns.length + 1
    omega
  · rw [valV_inr, if_neg fun z => hm (by rw [z]; exact List.mem_append_right _ List.mem_cons_self)]
    exact h3 m fun z => hm (List.mem_append_left _ z)
theorem Tk.get {H : Hp} {d : Addr} {ns : List Str} (h : Tk H d ns) {n : Str} (hn : ¬ n ∈ ns) : DGet H d (.str n) none := by
  obtain ⟨kvs, h1, _, h3⟩ := h
  have g := DGet.k (k := Sum.inr n) h1
  rw [h3 n hn] at g
  exact g
theorem Tk.of {H H' : Hp} {d : Addr} {ns : List Str} (h : Tk H d ns) (e : H' d = H d) : Tk H' d ns := by
  obtain ⟨kvs, h1, h2, h3⟩ := h
  exact ⟨kvs, by rw [e]; exact h1, h2, h3⟩
theorem Tk.same {H H' : Hp} {d : Addr} {ns : List Str} (h : Tk H d ns) (s : Same H H') : Tk H' d ns := by
  obtain ⟨kvs, h1, h2, h3⟩ := h
  exact ⟨kvs, s _ _ h1, h2, h3⟩
theorem DIn.of {H H' : Hp} {d : Addr} {f : Str → Option Nat} {N : Nat} (h : DIn H d f N) (e : H' d = H d) : DIn H' d f N := by
  obtain ⟨kvs, h1, h2, h3⟩ := h
  exact ⟨kvs, by rw [e]; exact h1, h2, h3⟩
theorem DIn.same {H H' : Hp} {d : Addr} {f : Str → Option Nat} {N : Nat} (h : DIn H d f N) (s : Same H H') : DIn H' d f N := by
  obtain ⟨kvs, h1, h2, h3⟩ := h
  exact ⟨kvs, s _ _ h1, h2, h3⟩
theorem DIn.put {H : Hp} {d : Addr} {f : Str → Option Nat} {N : Nat} (h : DIn H d f N) (hl : N ≤ 10000) (n : Str) (k : Nat) : ∃ o, DPut H d (.str n) (vN k) (upd H d o) ∧ ∀ H', H' d = some o → DIn H' d (fun m => if m = n then some k else f m) (N + 1) := by
  obtain ⟨kvs, h1, h2, h3⟩ := h
  refine ⟨_, DPut.k (k := Sum.inr n) h1 (line_lt (by omega)), fun H' e => ⟨_, e, ?_, fun m => ?_⟩⟩
  · have := length_putK kvs (Sum.inr n : Key) (vN k)
    omega
  · rw [valV_inr, h3]
    show _ = Option.map vN (if m = n then some k else f m)
    by_cases q : m = n
    · rw [if_pos q, if_pos q]
      rfl
    · rw [if_neg q, if_neg q]
theorem DIn.nil {H : Hp} {d : Addr} (h : H d = some (.dK [])) : DIn H d (wB []) 0 := ⟨[], h, Nat.le_refl _, fun _ => rfl⟩
theorem Tk.nil {H : Hp} {d : Addr} (h : H d = some (.dK [])) : Tk H d [] := ⟨[], h, Nat.le_refl _, fun _ _ => rfl⟩
theorem Bx.same {H H' : Hp} (s : Same H H') {b : Bx} (h : b.At H) : b.At H' := s _ _ h
theorem Wr.same {H H' : Hp} (s : Same H H') {b : Wr} (h : b.At H) : b.At H' := ⟨s _ _ h.1, TmAt.same s h.2⟩
theorem Rl.same {H H' : Hp} (s : Same H H') {b : Rl} (h : b.At H) : b.At H' := ⟨s _ _ h.1, TmAt.same s h.2.1, s _ _ h.2.2.1, fun x hx => Wr.same s (h.2.2.2 x hx)⟩
theorem let_in {c : Nat} (h : 97 ≤ c ∧ c ≤ 122) : c ∈ letters.cps.toList := by
  have e : letters.cps.toList = (List.range 26).map (· + 97) := by decide +kernel
  rw [e]
  exact List.mem_map.mpr ⟨c - 97, List.mem_range.mpr (by omega), by omega⟩
theorem map_at {α β : Type} {l : List α} {f : α → β} {i : Nat} {y : β} (h : (l.map f)[i]? = some y) : ∃ x, l[i]? = some x ∧ y = f x := by
  rw [List.getElem?_map] at h
  cases e : l[i]? with
  | none =>
    rw [e] at h
    cases h
  | some x =>
    rw [e] at h
    exact ⟨x, rfl, (Option.some.inj h).symm⟩
/-- the i-th name is not among the first i -/
theorem nd_at {α : Type} {f : α → Str} {l : List α} (nd : (l.map f).Nodup) {i : Nat} {x : α} (h : l[i]? = some x) : ¬ f x ∈ (l.take i).map f := fun q => by
  obtain ⟨j, hj, e⟩ := List.getElem_of_mem q
  rw [List.length_map, List.length_take] at hj
  rw [List.getElem_map, List.getElem_take] at e
  obtain ⟨hi, rfl⟩ := List.getElem?_eq_some_iff.mp h
  have := (List.getElem_inj (h₀ := by rw [List.length_map]; omega) (h₁ := by rw [List.length_map]; exact hi) nd (i := j) (j := i)).mp (by rw [List.getElem_map, List.getElem_map]; exact e)
  omega
section
variable {P : Program} {w : World} {K : PySem.W.Frag} {mg : Str → Option Value} {base : Heap}
def sp_is_name : Sp := fun vs_ H Q _ => ∃ n : Str, vs_ = [.str n] ∧ NmOk n ∧ Q (.bl true) H
theorem ok_is_name (T : Txt K mg) : Ok P w K mg base "is_name" ["name"] 1 sp_is_name := by
  refine T.d_is_name.ok sc_is_name (fun vs H Q E h => ?_) (fun cdv A outer s H vs_ Q E hr h => ?_)
  · obtain ⟨n, rfl, _⟩ := h
    rfl
  · obtain ⟨n, rfl, ⟨h1, h2, h3⟩, q⟩ := h
    refine ⟨_, (pss_cons (ps_for PassesOwn.never (by rfl) (pi_str (pv 0)) (pg_name (i := 1) sc_is_name.nd rfl (Or.inl rfl)) (pss_one (ps_if (pt_cmpR op_notIn_sign (pv 1) (pe_glob (v := .str letters) (by rfl) T.c_LETTERS.choose_spec ⟨_, rfl⟩) (by rfl)) (pss_one (ps_ret pe_bl)) pss_nil)))
      (pss_one (ps_ret (pe_chain op_le op_le pe_int (pe_callB call_len_str (by rfl) T.z_len PySem.boot_len (pa_cons (pv 0) pa_nil)) pe_int)))), ?_⟩
    refine ⟨_, rfl, n, rfl, for_it walk_str (fun i σ H' => H' = H ∧ ∃ x, σ = [some (.str n), x]) ⟨rfl, none, rfl⟩ (fun _ _ _ _ _ => trivial) ?_ ?_⟩
    · rintro i v σ H' H2 hi ⟨rfl, x, rfl⟩ ⟨rfl, c, hc, rfl⟩
      refine ⟨_, rfl, c, letters, rfl, rfl, _, rfl, ?_⟩
      have hm : c ∈ n.cps.toList := by
        obtain ⟨hlt, rfl⟩ := Array.getElem?_eq_some_iff.mp hc
        exact Array.getElem_mem_toList hlt
      rw [decide_eq_true (let_in (h1 c hm))]
      exact iteF ⟨rfl, _, rfl⟩
    · rintro σ H' ⟨rfl, x, rfl⟩
      refine ⟨_, rfl, n, rfl, line_of (by omega), _, _, rfl, rfl, _, rfl, ?_⟩
      rw [decide_eq_true (show (1 : Int) ≤ (n.length : Int) by omega)]
      refine iteT ⟨_, _, rfl, rfl, ?_⟩
      exact q_bl q (decide_eq_true (show (n.length : Int) ≤ 8 by omega))
def sp_need_name : Sp := fun vs_ H Q _ => ∃ (n : Str) (d : Addr) (ns : List Str), vs_ = [.str n, .ref d] ∧ NmOk n ∧ Tk H d ns ∧ ¬ n ∈ ns ∧ Q .non H
theorem ok_need_name (T : Txt K mg) : Ok P w K mg base "need_name" ["name", "taken"] 2 sp_need_name := by
  have G_is_name : Ok P w K mg base "is_name" _ 1 _ := ok_is_name T
  refine T.d_need_name.ok sc_need_name (fun vs H Q E h => ?_) (fun cdv A outer s H vs_ Q E hr h => ?_)
  · obtain ⟨n, d, ns, rfl, _⟩ := h
    rfl
  · obtain ⟨n, d, ns, rfl, h1, h2, h3, q⟩ := h
    refine ⟨_, (pss_cons (ps_if (pt_not (pt_val (pe_c T.d_is_name G_is_name (hr.mono (by omega)) (by rfl) (pa_cons (pv 0) pa_nil)))) (pss_one ps_never) pss_nil)
      (pss_one (ps_if (pt_cmp (pc_din (hu_of hr) (pv 0) (pv 1)) (by rfl)) (pss_one ps_never) pss_nil))), ?_⟩
    exact ⟨_, rfl, n, rfl, h1, _, rfl, iteF ⟨_, rfl, _, rfl, d, _, rfl, h2.get h3, _, rfl, iteF q⟩⟩
def sp_need_width : Sp := fun vs_ H Q _ => ∃ k : Nat, vs_ = [vN k] ∧ 1 ≤ k ∧ k ≤ 64 ∧ Q .non H
theorem ok_need_width (T : Txt K mg) : Ok P w K mg base "need_width" ["width"] 2 sp_need_width := by
  have G_is_width : Ok P w K mg base "is_width" _ 1 _ := ok_is_width T
  refine T.d_need_width.ok sc_need_width (fun vs H Q E h => ?_) (fun cdv A outer s H vs_ Q E hr h => ?_)
  · obtain ⟨k, rfl, _⟩ := h
    rfl
  · obtain ⟨k, rfl, h1, h2, q⟩ := h
    refine ⟨_, (pss_one (ps_if (pt_not (pt_val (pe_c T.d_is_width G_is_width (hr.mono (by omega)) (by rfl) (pa_cons (pv 0) pa_nil)))) (pss_one ps_never) pss_nil)), ?_⟩
    exact ⟨_, rfl, _, rfl, by omega, by omega, _, rfl, iteF q⟩
def sp_need_writes : Sp := fun vs_ H Q _ => ∃ (l di dq : Addr) (ws : List Wr) (W : Ws), vs_ = [.ref l, .ref di, .ref dq] ∧ H l = some (.lst (ws.map fun x => V.ref x.p)) ∧ (∀ x ∈ ws, x.At H) ∧ ws.length ≤ 6 ∧ (ws.map (·.n)).Nodup ∧
  (∀ x ∈ ws, ∃ k, W.bw x.n = some k ∧ TmOk W x.t k) ∧ WsOk W ∧ DIs H di W.bw ∧ DIs H dq W.dw ∧ Ret H Q fun r _ => r = .non
theorem ok_need_writes (T : Txt K mg) : Ok P w K mg base "need_writes" ["writes", "inside", "outside"] 13 sp_need_writes := by
  have G_width_of : Ok P w K mg base "width_of" _ 12 _ := ok_width_of T (d := 8) (by decide)
  refine T.d_need_writes.ok sc_need_writes (fun vs H Q E h => ?_) (fun cdv A outer s H vs_ Q E hr h => ?_)
  · obtain ⟨l, di, dq, ws, W, rfl, _⟩ := h
    rfl
  · obtain ⟨l, di, dq, ws, W, rfl, hl, hw, len, nd, hk, ok, hi, ho, q⟩ := h
    refine ⟨_, (pss_cons (ps_if (pt_cmpR op_gt (pe_callB (r := rLn K) call_len_seq (by rfl) T.z_len PySem.boot_len (pa_cons (pv 0) pa_nil)) pe_int (nomark _)) (pss_one ps_never) pss_nil)
      (pss_cons (ps_set (i := 3) sc_need_writes.nd rfl (Or.inl rfl) pe_dnewK)
      (pss_one (ps_for PassesOwn.never (by rfl) (pi_list (pv 0)) (pg_tup (by rfl) (pgs_cons (pg_name (i := 4) sc_need_writes.nd rfl (Or.inl rfl)) (pgs_cons (pg_name (i := 5) sc_need_writes.nd rfl (Or.inl rfl)) pgs_nil))) (pss_cons (ps_if (pt_cmp (pc_dnotin (hu_of hr) (pv 4) (pv 1)) (by rfl)) (pss_one ps_never) pss_nil)
      (pss_cons (ps_if (pt_cmp (pc_din (hu_of hr) (pv 4) (pv 3)) (by rfl)) (pss_one ps_never) pss_nil)
      (pss_cons (ps_dput (hu_of hr) (pv 3) (pv 4) pe_bl (by rfl))
      (pss_one (ps_if (pt_cmpR op_ne (pe_c T.d_width_of G_width_of (hr.mono (by omega)) (by rfl) (pa_cons (pv 5) (pa_cons (pv 1) (pa_cons (pv 2) pa_nil)))) (pe_dget (hu_of hr) (pv 1) (pv 4) (fun _ _ => rfl)) (nomark _)) (pss_one ps_never) pss_nil))))))))), ?_⟩
    refine ⟨_, rfl, l, _, rfl, .inl (SqL.of hl), _, _, rfl, rfl, _, rfl, ?_⟩
    rw [List.length_map, decide_eq_false (show ¬ ((6 : Int) < (ws.length : Int)) by omega)]
    refine iteF fun pt nt => ?_
    have s0 := Same.new (o := .dK []) nt
    refine ⟨_, rfl, l, rfl, ⟨_, SqL.of (s0 _ _ hl)⟩, for_list (K := K) (a := l) (xs := ws.map fun x => V.ref x.p) (fun i σ H' => ∃ x y, σ = [some (.ref l), some (.ref di), some (.ref dq), some (.ref pt), x, y] ∧ Same H H' ∧ Tk H' pt ((ws.take i).map (·.n))) ⟨none, none, rfl, s0, Tk.nil upd_same⟩ (fun i σ H' _ ⟨_, _, _, s1, _⟩ => s1.seq (SqL.of hl)) ?_ ?_⟩
    · rintro i u σ H' hiu ⟨x, y, rfl, s1, tk⟩
      obtain ⟨r, er, rfl⟩ := map_at hiu
      have rm := List.mem_of_getElem? er
      obtain ⟨hr1, hr2⟩ := hw r rm
      obtain ⟨k, hbw, tk1, tk2, tk3⟩ := hk r rm
      have nin := nd_at nd er
      have hl1 : ((ws.take i).map (·.n)).length ≤ 10000 := by
        rw [List.length_map, List.length_take]
        omega
      refine ⟨r.p, _, rfl, SqT.of (s1 _ _ hr1), rfl, ?_⟩
      refine ⟨_, _, rfl, _, _, rfl, rfl, ?_⟩
      refine ⟨_, rfl, _, rfl, di, _, rfl, (hi.same s1).at hbw, _, rfl, iteF ?_⟩
      refine ⟨_, rfl, _, rfl, pt, _, rfl, tk.get nin, _, rfl, iteF ?_⟩
      obtain ⟨o, hput, htk⟩ := tk.put hl1 r.n (.bl true)
      refine ⟨_, rfl, _, rfl, pt, _, rfl, hput, ?_⟩
      have s2 := s1.mut (o := o) nt
      refine ⟨_, rfl, _, rfl, _, rfl, r.v, di, dq, r.t, W, k, rfl, TmAt.same s2 hr2, tk1, by omega, ok, tk3, hi.same s2, ho.same s2, fun z H3 s3 ez => ?_⟩
      subst ez
      have s4 := s2.trans s3
      refine ⟨_, rfl, _, rfl, di, _, rfl, (hi.same s4).at hbw, rfl, _, rfl, ?_⟩
      rw [decide_eq_true rfl]
      refine iteF ⟨_, _, rfl, s4, ?_⟩
      rw [take_snoc er, List.map_append]
      exact htk H3 (s3 _ _ upd_same)
    · rintro σ H' ⟨x, y, rfl, s1, _⟩
      exact q _ _ s1 rfl
end
end K24

set_option Elab.async false
set_option linter.all false
set_option maxRecDepth 100000
set_option maxHeartbeats 4000000
/-! A works: it is made, it is read. -/
namespace K24
open PySem PySem.Spec PyProof.Rows L2
structure Gd where
  p : Addr
  n : Str
  v : V
  t : Tm
def Gd.At (H : Hp) (g : Gd) : Prop := (∃ x, H g.p = some (.tup [.str g.n, g.v, x])) ∧ TmAt H g.t g.v
theorem Gd.same {H H' : Hp} (s : Same H H') {g : Gd} (h : g.At H) : g.At H' := ⟨let ⟨x, hx⟩ := h.1; ⟨x, s _ _ hx⟩, TmAt.same s h.2⟩
def WkAt (H : Hp) (wk : Addr) (bs ds : List Bx) (gs : List Gd) : Prop := ∃ a b c, H wk = some (.tup [.ref a, .ref b, .ref c]) ∧ H a = some (.tup (bs.map fun x => V.ref x.p)) ∧ H b = some (.tup (ds.map fun x => V.ref x.p)) ∧ H c = some (.tup (gs.map fun x => V.ref x.p)) ∧
  (∀ x ∈ bs, x.At H) ∧ (∀ x ∈ ds, x.At H) ∧ ∀ x ∈ gs, x.At H
theorem WkAt.same {H H' : Hp} (s : Same H H') {wk : Addr} {bs ds : List Bx} {gs : List Gd} (h : WkAt H wk bs ds gs) : WkAt H' wk bs ds gs := by
  obtain ⟨a, b, c, h1, h2, h3, h4, h5, h6, h7⟩ := h
  exact ⟨a, b, c, s _ _ h1, s _ _ h2, s _ _ h3, s _ _ h4, fun x hx => Bx.same s (h5 x hx), fun x hx => Bx.same s (h6 x hx), fun x hx => Gd.same s (h7 x hx)⟩
/-- what stands and is no u stays where u stood -/
theorem keepU {H H' : Hp} {L b : Addr} {u o o' : HO} (s0 : Same H H') (hL : H L = some u) (hb : H b = some o) (ne : o ≠ u) : (upd H' L o') b = some o := by
  have : b ≠ L := fun z => by
    rw [z, hL] at hb
    exact ne (Option.some.inj hb).symm
  rw [upd_ne this]
  exact s0 _ _ hb
theorem take_nm {bs : List Bx} {i : Nat} {b : Bx} (h : bs[i]? = some b) : (bs.take (i + 1)).map (·.n) = (bs.take i).map (·.n) ++ [b.n] := by
  rw [take_snoc h, List.map_append]
  rfl
section
variable {P : Program} {w : World} {K : PySem.W.Frag} {mg : Str → Option Value} {base : Heap}
def sp_made : Sp := fun vs_ H Q _ => ∃ (lb ld lr : Addr) (bs ds : List Bx) (rs : List Rl), vs_ = [.ref lb, .ref ld, .ref lr] ∧ H lb = some (.lst (bs.map fun x => V.ref x.p)) ∧ H ld = some (.lst (ds.map fun x => V.ref x.p)) ∧ H lr = some (.lst (rs.map fun x => V.ref x.p)) ∧
  (∀ x ∈ bs, x.At H) ∧ (∀ x ∈ ds, x.At H) ∧ (∀ x ∈ rs, x.At H) ∧ BD bs ds ∧ (bs.map (·.n) ++ ds.map (·.n) ++ rs.map (·.n)).Nodup ∧ (∀ x ∈ rs, NmOk x.n) ∧ rs.length ≤ 8 ∧ (∀ x ∈ rs, x.Ok (wsOf bs ds)) ∧
  Ret H Q fun r H' => ∃ wk gs, r = .ref wk ∧ WkAt H' wk bs ds gs ∧ gs.map (fun g => (g.n, g.v, g.t)) = rs.map fun r => (r.n, r.v, r.t)
theorem ok_made (T : Txt K mg) : Ok P w K mg base "made" ["boxes", "doors", "rules"] 14 sp_made := by
  have G_width_of : Ok P w K mg base "width_of" _ 12 _ := ok_width_of T (d := 8) (by decide)
  have G_need_writes : Ok P w K mg base "need_writes" _ 13 _ := ok_need_writes T
  have G_need_name : Ok P w K mg base "need_name" _ 2 _ := ok_need_name T
  have G_need_width : Ok P w K mg base "need_width" _ 2 _ := ok_need_width T
  have G_fits : Ok P w K mg base "fits" _ 1 _ := ok_fits T
  refine T.d_made.ok sc_made (fun vs H Q E h => ?_) (fun cdv A outer s H vs_ Q E hr h => ?_)
  · obtain ⟨lb, ld, lr, bs, ds, rs, rfl, _⟩ := h
    rfl
  · obtain ⟨lb, ld, lr, bs, ds, rs, rfl, hb, hd, hrl, ab, ad, ar, bd, nd, nr, lr8, rok, q⟩ := h
    refine ⟨_, (pss_cons (ps_if (PW.pt (pw_or (pt_cmpR op_gt (pe_callB (r := rLn K) call_len_seq (by rfl) T.z_len PySem.boot_len (pa_cons (pv 0) pa_nil)) pe_int (nomark _)) (pw_or (pt_cmpR op_gt (pe_callB (r := rLn K) call_len_seq (by rfl) T.z_len PySem.boot_len (pa_cons (pv 1) pa_nil)) pe_int (nomark _)) (pw_or1 (pt_cmpR op_gt (pe_callB (r := rLn K) call_len_seq (by rfl) T.z_len PySem.boot_len (pa_cons (pv 2) pa_nil)) pe_int (nomark _)))))) (pss_one ps_never) pss_nil)
      (pss_cons (ps_set (i := 3) sc_made.nd rfl (Or.inl rfl) pe_dnewK)
      (pss_cons (ps_set (i := 4) sc_made.nd rfl (Or.inl rfl) pe_dnewK)
      (pss_cons (ps_set (i := 5) sc_made.nd rfl (Or.inl rfl) pe_dnewK)
      (pss_cons (ps_for PassesOwn.never (by rfl) (pi_list (pv 0)) (pg_tup (by rfl) (pgs_cons (pg_name (i := 6) sc_made.nd rfl (Or.inl rfl)) (pgs_cons (pg_name (i := 7) sc_made.nd rfl (Or.inl rfl)) (pgs_cons (pg_name (i := 8) sc_made.nd rfl (Or.inl rfl)) pgs_nil)))) (pss_cons (ps_expr (pe_c T.d_need_name G_need_name (hr.mono (by omega)) (by rfl) (pa_cons (pv 6) (pa_cons (pv 3) pa_nil))))
      (pss_cons (ps_expr (pe_c T.d_need_width G_need_width (hr.mono (by omega)) (by rfl) (pa_cons (pv 7) pa_nil)))
      (pss_cons (ps_if (pt_not (pt_val (pe_c T.d_fits G_fits (hr.mono (by omega)) (by rfl) (pa_cons (pv 7) (pa_cons (pv 8) pa_nil))))) (pss_one ps_never) pss_nil)
      (pss_cons (ps_dput (hu_of hr) (pv 3) (pv 6) pe_bl (by rfl))
      (pss_one (ps_dput (hu_of hr) (pv 4) (pv 6) (pv 7) (by rfl))))))))
      (pss_cons (ps_for PassesOwn.never (by rfl) (pi_list (pv 1)) (pg_tup (by rfl) (pgs_cons (pg_name (i := 6) sc_made.nd rfl (Or.inl rfl)) (pgs_cons (pg_name (i := 7) sc_made.nd rfl (Or.inl rfl)) pgs_nil))) (pss_cons (ps_expr (pe_c T.d_need_name G_need_name (hr.mono (by omega)) (by rfl) (pa_cons (pv 6) (pa_cons (pv 3) pa_nil))))
      (pss_cons (ps_expr (pe_c T.d_need_width G_need_width (hr.mono (by omega)) (by rfl) (pa_cons (pv 7) pa_nil)))
      (pss_cons (ps_dput (hu_of hr) (pv 3) (pv 6) pe_bl (by rfl))
      (pss_one (ps_dput (hu_of hr) (pv 5) (pv 6) (pv 7) (by rfl)))))))
      (pss_cons (ps_set (i := 9) sc_made.nd rfl (Or.inl rfl) (pe_lst pa_nil))
      (pss_cons (ps_for PassesOwn.never (by rfl) (pi_list (pv 2)) (pg_tup (by rfl) (pgs_cons (pg_name (i := 6) sc_made.nd rfl (Or.inl rfl)) (pgs_cons (pg_name (i := 10) sc_made.nd rfl (Or.inl rfl)) (pgs_cons (pg_name (i := 11) sc_made.nd rfl (Or.inl rfl)) pgs_nil)))) (pss_cons (ps_expr (pe_c T.d_need_name G_need_name (hr.mono (by omega)) (by rfl) (pa_cons (pv 6) (pa_cons (pv 3) pa_nil))))
      (pss_cons (ps_dput (hu_of hr) (pv 3) (pv 6) pe_bl (by rfl))
      (pss_cons (ps_if (pt_cmpR op_ne (pe_c T.d_width_of G_width_of (hr.mono (by omega)) (by rfl) (pa_cons (pv 10) (pa_cons (pv 4) (pa_cons (pv 5) pa_nil)))) pe_int (nomark _)) (pss_one ps_never) pss_nil)
      (pss_cons (ps_expr (pe_c T.d_need_writes G_need_writes (hr.mono (by omega)) (by rfl) (pa_cons (pv 11) (pa_cons (pv 4) (pa_cons (pv 5) pa_nil)))))
      (pss_one (ps_expr (pe_bm PySem.F.plainAttrs_list PySem.F.slot_list_append PySem.F.type_list_append mt_append (pv 9) (pa_cons (pe_tup (pa_cons (pv 6) (pa_cons (pv 10) (pa_cons (pe_callTy (r := rTo K) call_tuple_of (by rfl) T.z_tuple PyProof.Rows.boot_tuple (pa_cons (pv 11) pa_nil)) pa_nil)))) pa_nil)))))))))
      (pss_one (ps_ret (pe_tup (pa_cons (pe_callTy (r := rTo K) call_tuple_of (by rfl) T.z_tuple PyProof.Rows.boot_tuple (pa_cons (pv 0) pa_nil)) (pa_cons (pe_callTy (r := rTo K) call_tuple_of (by rfl) T.z_tuple PyProof.Rows.boot_tuple (pa_cons (pv 1) pa_nil)) (pa_cons (pe_callTy (r := rTo K) call_tuple_of (by rfl) T.z_tuple PyProof.Rows.boot_tuple (pa_cons (pv 9) pa_nil)) pa_nil)))))))))))))), ?_⟩
    have lb12 := bd.lb
    have ld6 := bd.ld
    refine ⟨_, rfl, lb, _, rfl, .inl (SqL.of hb), _, _, rfl, rfl, _, rfl, ?_⟩
    rw [List.length_map, decide_eq_false (show ¬ ((12 : Int) < (bs.length : Int)) by omega)]
    refine iteF ⟨_, rfl, ld, _, rfl, .inl (SqL.of hd), _, _, rfl, rfl, _, rfl, ?_⟩
    rw [List.length_map, decide_eq_false (show ¬ ((6 : Int) < (ds.length : Int)) by omega)]
    refine iteF ⟨_, rfl, lr, _, rfl, .inl (SqL.of hrl), _, _, rfl, rfl, _, rfl, ?_⟩
    rw [List.length_map, decide_eq_false (show ¬ ((8 : Int) < (rs.length : Int)) by omega)]
    refine iteF fun pt nt => fun pi ni => fun po no => ?_
    have ti : pi ≠ pt := fun z => by
      rw [z, upd_same] at ni
      cases ni
    have to_ : po ≠ pt := fun z => by
      rw [z, upd_ne (fun y => ti y.symm), upd_same] at no
      cases no
    have io : po ≠ pi := fun z => by
      rw [z, upd_same] at no
      cases no
    have nii : H pi = none := (Same.new nt).free ni
    have noo : H po = none := ((Same.new (o := .dK []) nt).newT ni).free no
    have s0 : Same H (upd (upd (upd H pt (.dK [])) pi (.dK [])) po (.dK [])) := ((Same.new nt).newT ni).newT no
    have e1 : (upd (upd (upd H pt (.dK [])) pi (.dK [])) po (.dK [])) pt = some (.dK []) := by
      rw [upd_ne (Ne.symm to_), upd_ne (Ne.symm ti), upd_same]
    have e2 : (upd (upd (upd H pt (.dK [])) pi (.dK [])) po (.dK [])) pi = some (.dK []) := by
      rw [upd_ne (Ne.symm io), upd_same]
    have ndb : (bs.map (·.n)).Nodup := (List.nodup_append.mp bd.nd).1
    have ndd : (ds.map (·.n)).Nodup := (List.nodup_append.mp bd.nd).2.1
    have ndr : (rs.map (·.n)).Nodup := (List.nodup_append.mp nd).2.1
    have xbd := (List.nodup_append.mp bd.nd).2.2
    have xr := (List.nodup_append.mp nd).2.2
    -- the boxes
    refine ⟨_, rfl, lb, rfl, ⟨_, SqL.of (s0 _ _ hb)⟩, for_list (K := K) (a := lb) (xs := bs.map fun x => V.ref x.p) (fun i σ H' => ∃ x y z, σ = [some (.ref lb), some (.ref ld), some (.ref lr), some (.ref pt), some (.ref pi), some (.ref po), x, y, z, none, none, none] ∧ Same H H' ∧
      Tk H' pt ((bs.take i).map (·.n)) ∧ DIn H' pi (wB (bs.take i)) i ∧ H' po = some (.dK [])) ⟨none, none, none, rfl, s0, Tk.nil e1, DIn.nil e2, upd_same⟩ (fun i σ H' _ ⟨_, _, _, _, s1, _⟩ => s1.seq (SqL.of hb)) ?_ ?_⟩
    · rintro i u σ H' hiu ⟨x, y, z, rfl, s1, tk, di, eo⟩
      obtain ⟨b, er, rfl⟩ := map_at hiu
      have bm := List.mem_of_getElem? er
      obtain ⟨f0, ef, hf⟩ := bd.bf b bm
      obtain ⟨k1, k64⟩ := bd.bk b bm
      have ha : H b.p = some (.tup [.str b.n, vN b.k, vN f0]) := by
        have := ab b bm
        unfold Bx.At at this
        rw [ef] at this
        exact this
      have ilt : i < bs.length := (List.getElem?_eq_some_iff.mp er).1
      have tlen : ((bs.take i).map (·.n)).length ≤ 10000 := by
        rw [List.length_map, List.length_take]
        omega
      obtain ⟨o, hput, htk⟩ := tk.put tlen b.n (.bl true)
      refine ⟨b.p, _, rfl, SqT.of (s1 _ _ ha), rfl, ?_⟩
      refine ⟨_, _, rfl, _, _, rfl, _, _, rfl, rfl, ?_⟩
      refine ⟨_, rfl, _, rfl, b.n, pt, _, rfl, bd.nb b bm, tk, nd_at ndb er, ?_⟩
      refine ⟨_, rfl, b.k, rfl, k1, k64, ?_⟩
      refine ⟨_, rfl, _, rfl, b.k, f0, rfl, k64, hf, _, rfl, iteF ?_⟩
      refine ⟨_, rfl, _, rfl, pt, _, rfl, hput, ?_⟩
      have d2 : DIn (upd H' pt o) pi (wB (bs.take i)) i := di.of (upd_ne ti)
      obtain ⟨o2, hput2, hdi⟩ := d2.put (by omega) b.n b.k
      refine ⟨_, rfl, _, rfl, _, rfl, pi, _, rfl, hput2, ?_⟩
      refine ⟨_, _, _, rfl, (s1.mut nt).mut nii, ?_, ?_, ?_⟩
      · rw [take_nm er]
        refine htk _ ?_
        rw [upd_ne (Ne.symm ti), upd_same]
      · rw [take_snoc er, wB_snoc (nd_at ndb er)]
        exact hdi _ upd_same
      · rw [upd_ne io, upd_ne to_]
        exact eo
    rintro σ H1 ⟨x, y, z, rfl, s1, tk1, di1, eo1⟩
    rw [List.length_map, List.take_length] at tk1 di1
    -- the doors
    refine ⟨_, rfl, ld, rfl, ⟨_, SqL.of (s1 _ _ hd)⟩, for_list (K := K) (a := ld) (xs := ds.map fun x => V.ref x.p) (fun i σ H' => ∃ x y z, σ = [some (.ref lb), some (.ref ld), some (.ref lr), some (.ref pt), some (.ref pi), some (.ref po), x, y, z, none, none, none] ∧ Same H H' ∧
      Tk H' pt (bs.map (·.n) ++ (ds.take i).map (·.n)) ∧ DIn H' pi (wB bs) bs.length ∧ DIn H' po (wB (ds.take i)) i) ⟨x, y, z, rfl, s1, by rw [List.take_zero, List.map_nil, List.append_nil]; exact tk1, di1, DIn.nil eo1⟩ (fun i σ H' _ ⟨_, _, _, _, s1, _⟩ => s1.seq (SqL.of hd)) ?_ ?_⟩
    · rintro i u σ H' hiu ⟨x, y, z, rfl, s1, tk, di, dout⟩
      obtain ⟨b, er, rfl⟩ := map_at hiu
      have bm := List.mem_of_getElem? er
      have ef := bd.df b bm
      obtain ⟨k1, k64⟩ := bd.dk b bm
      have ha : H b.p = some (.tup [.str b.n, vN b.k]) := by
        have := ad b bm
        unfold Bx.At at this
        rw [ef] at this
        exact this
      have ilt : i < ds.length := (List.getElem?_eq_some_iff.mp er).1
      have tlen : (bs.map (·.n) ++ (ds.take i).map (·.n)).length ≤ 10000 := by
        rw [List.length_append, List.length_map, List.length_map, List.length_take]
        omega
      have nin : ¬ b.n ∈ bs.map (·.n) ++ (ds.take i).map (·.n) := fun q => by
        rcases List.mem_append.mp q with q | q
        · exact xbd _ q _ (List.mem_map.mpr ⟨b, bm, rfl⟩) rfl
        · exact nd_at ndd er q
      obtain ⟨o, hput, htk⟩ := tk.put tlen b.n (.bl true)
      refine ⟨b.p, _, rfl, SqT.of (s1 _ _ ha), rfl, ?_⟩
      refine ⟨_, _, rfl, _, _, rfl, rfl, ?_⟩
      refine ⟨_, rfl, _, rfl, b.n, pt, _, rfl, bd.ne b bm, tk, nin, ?_⟩
      refine ⟨_, rfl, b.k, rfl, k1, k64, ?_⟩
      refine ⟨_, rfl, _, rfl, pt, _, rfl, hput, ?_⟩
      have d2 : DIn (upd H' pt o) po (wB (ds.take i)) i := dout.of (upd_ne to_)
      obtain ⟨o2, hput2, hdi⟩ := d2.put (by omega) b.n b.k
      refine ⟨_, rfl, _, rfl, _, rfl, po, _, rfl, hput2, ?_⟩
      refine ⟨_, _, _, rfl, (s1.mut nt).mut noo, ?_, ?_, ?_⟩
      · rw [take_nm er, ← List.append_assoc]
        refine htk _ ?_
        rw [upd_ne (Ne.symm to_), upd_same]
      · refine di.of ?_
        rw [upd_ne (Ne.symm io), upd_ne ti]
      · rw [take_snoc er, wB_snoc (nd_at ndd er)]
        exact hdi _ upd_same
    rintro σ H2 ⟨x, y, z, rfl, s2, tk2, di2, do2⟩
    rw [List.length_map, List.take_length] at tk2 do2
    refine ⟨Nat.zero_le _, fun pl nl => ?_⟩
    have nll := s2.free nl
    have s3 := s2.newT (o := .lst []) nl
    have sl : Same H2 (upd H2 pl (.lst [])) := Same.new nl
    -- the rules
    refine ⟨_, rfl, lr, rfl, ⟨_, SqL.of (s3 _ _ hrl)⟩, for_list (K := K) (a := lr) (xs := rs.map fun x => V.ref x.p) (fun i σ H' => ∃ x y z g v, σ = [some (.ref lb), some (.ref ld), some (.ref lr), some (.ref pt), some (.ref pi), some (.ref po), x, y, z, some (.ref pl), g, v] ∧ Same H H' ∧
      Tk H' pt (bs.map (·.n) ++ ds.map (·.n) ++ (rs.take i).map (·.n)) ∧ DIn H' pi (wB bs) bs.length ∧ DIn H' po (wB ds) ds.length ∧ ∃ gs : List Gd, H' pl = some (.lst (gs.map fun x => V.ref x.p)) ∧ (∀ g ∈ gs, g.At H') ∧ gs.map (fun g => (g.n, g.v, g.t)) = (rs.take i).map fun r => (r.n, r.v, r.t))
      ⟨x, y, z, none, none, rfl, s3, by rw [List.take_zero, List.map_nil, List.append_nil]; exact tk2.same sl, di2.same sl, do2.same sl, [], upd_same, nofun, rfl⟩ (fun i σ H' _ ⟨_, _, _, _, _, _, s1, _⟩ => s1.seq (SqL.of hrl)) ?_ ?_⟩
    · rintro i u σ H' hiu ⟨x, y, z, g, v, rfl, s1, tk, di, dout, gs, hgs, agS, eqs⟩
      obtain ⟨r, er, rfl⟩ := map_at hiu
      have rm := List.mem_of_getElem? er
      obtain ⟨a1, a2, a3, a4⟩ := ar r rm
      have ok := rok r rm
      have ilt : i < rs.length := (List.getElem?_eq_some_iff.mp er).1
      have tlen : (bs.map (·.n) ++ ds.map (·.n) ++ (rs.take i).map (·.n)).length ≤ 10000 := by
        rw [List.length_append, List.length_append, List.length_map, List.length_map, List.length_map, List.length_take]
        omega
      have nin : ¬ r.n ∈ bs.map (·.n) ++ ds.map (·.n) ++ (rs.take i).map (·.n) := fun q => by
        rcases List.mem_append.mp q with q | q
        · exact xr _ q _ (List.mem_map.mpr ⟨r, rm, rfl⟩) rfl
        · exact nd_at ndr er q
      obtain ⟨o, hput, htk⟩ := tk.put tlen r.n (.bl true)
      obtain ⟨kvs0, hpt0, _⟩ := id tk
      refine ⟨r.p, _, rfl, SqT.of (s1 _ _ a1), rfl, ?_⟩
      refine ⟨_, _, rfl, _, _, rfl, _, _, rfl, rfl, ?_⟩
      refine ⟨_, rfl, _, rfl, r.n, pt, _, rfl, nr r rm, tk, nin, ?_⟩
      refine ⟨_, rfl, _, rfl, pt, _, rfl, hput, ?_⟩
      have t1 := s1.mut (o := o) nt
      have dj : DIn (upd H' pt o) pi (wB bs) bs.length := di.of (upd_ne ti)
      have dk : DIn (upd H' pt o) po (wB ds) ds.length := dout.of (upd_ne to_)
      have hpt : (upd H' pt o) pt = some o := upd_same
      have hgl : (upd H' pt o) pl = some (.lst (gs.map fun x => V.ref x.p)) := keepU (Same.refl _) hpt0 hgs nofun
      have agT : ∀ g ∈ gs, ∃ x, (upd H' pt o) g.p = some (.tup [.str g.n, g.v, x]) := fun g hg => let ⟨x, hx⟩ := (agS g hg).1; ⟨x, keepU (Same.refl _) hpt0 hx nofun⟩
      refine ⟨_, rfl, _, rfl, _, rfl, r.v, pi, po, r.t, wsOf bs ds, 1, rfl, TmAt.same t1 a2, ok.g.d, by have := ok.g.z; omega, bd.ok, ok.g.w, dj.is, dk.is, fun ez H3 u3 er3 => ?_⟩
      subst er3
      refine ⟨rfl, _, rfl, ?_⟩
      rw [decide_eq_true (by rfl)]
      refine iteF ?_
      have t3 := t1.trans u3
      refine ⟨_, rfl, _, rfl, _, rfl, r.l, pi, po, r.ws, wsOf bs ds, rfl, t3 _ _ a3, fun x hx => Wr.same t3 (a4 x hx), ok.l, ok.nd, ok.ws, bd.ok, (dj.same u3).is, (dk.same u3).is, fun ez H4 u4 er4 => ?_⟩
      subst er4
      have u34 := u3.trans u4
      have t4 := t3.trans u4
      have hgl4 := u34 _ _ hgl
      refine ⟨_, rfl, .inl ⟨rfl, _, SqL.of hgl4⟩, _, rfl, _, rfl, _, rfl, r.l, _, rfl, .inl ⟨SqL.of (t4 _ _ a3), fun q5 n5 => ?_⟩⟩
      refine ⟨by show 3 ≤ sizeLine; decide, fun p6 n6 => ?_⟩
      have u6 := (u34.newT (o := .tup (r.ws.map fun x => V.ref x.p)) n5).newT (o := .tup [.str r.n, r.v, .ref q5]) n6
      have t6 := (t4.newT (o := .tup (r.ws.map fun x => V.ref x.p)) n5).newT (o := .tup [.str r.n, r.v, .ref q5]) n6
      have hgl6 := u6 _ _ hgl
      refine ⟨pl, _, _, rfl, rfl, hgl6, ?_, ?_⟩
      · have e := congrArg List.length eqs
        rw [List.length_map, List.length_map, List.length_take] at e
        rw [List.length_map]
        exact line_lt (by omega)
      · have ntl : ∀ {b : Addr} {kvs : List (Key × V)}, (upd (upd H4 q5 (.tup (r.ws.map fun x => V.ref x.p))) p6 (.tup [.str r.n, r.v, .ref q5])) b = some (.dK kvs) → b ≠ pl := fun {b kvs} hb z => by
          rw [z, hgl6] at hb
          cases hb
        obtain ⟨k1, hk1, _⟩ := dj.same u6
        obtain ⟨k2, hk2, _⟩ := dk.same u6
        obtain ⟨k3, hk3, _⟩ := htk _ (u6 _ _ hpt)
        refine ⟨_, _, _, _, _, rfl, t6.mut nll, ?_, ?_, ?_, gs ++ [⟨p6, r.n, r.v, r.t⟩], ?_, ?_, ?_⟩
        · rw [take_snoc er, List.map_append, ← List.append_assoc]
          refine htk _ ?_
          rw [upd_ne (ntl hk3)]
          exact u6 _ _ hpt
        · exact (dj.same u6).of (upd_ne (ntl hk1))
        · exact (dk.same u6).of (upd_ne (ntl hk2))
        · rw [upd_same, List.map_append]
          rfl
        · intro g hg
          rcases List.mem_append.mp hg with hg | hg
          · obtain ⟨x, hx⟩ := agT g hg
            refine ⟨⟨x, keepU u6 hgl hx nofun⟩, ?_⟩
            have key : (g.n, g.v, g.t) ∈ (rs.take i).map fun r => (r.n, r.v, r.t) := eqs ▸ List.mem_map.mpr ⟨g, hg, rfl⟩
            obtain ⟨r', hr', e⟩ := List.mem_map.mp key
            have e1 : r'.v = g.v := congrArg (fun z => z.2.1) e
            have e2 : r'.t = g.t := congrArg (fun z => z.2.2) e
            rw [← e1, ← e2]
            exact TmAt.same (t6.mut nll) (ar r' (List.mem_of_mem_take hr')).2.1
          · rw [List.mem_singleton.mp hg]
            exact ⟨⟨_, keepU (Same.refl _) hgl6 upd_same nofun⟩, TmAt.same (t6.mut nll) a2⟩
        · rw [List.map_append, eqs, take_snoc er, List.map_append]
          rfl
    rintro σ H5 ⟨x, y, z, g, v, rfl, s5, _, _, _, gs, hgs, agS, eqs⟩
    rw [List.length_map, List.take_length] at eqs
    refine ⟨_, rfl, lb, _, rfl, .inl ⟨SqL.of (s5 _ _ hb), fun q1 n1 => ?_⟩⟩
    have v1 := Same.new (o := .tup (bs.map fun x => V.ref x.p)) n1
    refine ⟨_, rfl, ld, _, rfl, .inl ⟨SqL.of (v1 _ _ (s5 _ _ hd)), fun q2 n2 => ?_⟩⟩
    have v2 := v1.newT (o := .tup (ds.map fun x => V.ref x.p)) n2
    have w2 := Same.new (o := .tup (ds.map fun x => V.ref x.p)) n2
    refine ⟨_, rfl, pl, _, rfl, .inl ⟨SqL.of (v2 _ _ hgs), fun q3 n3 => ?_⟩⟩
    have v3 := v2.newT (o := .tup (gs.map fun x => V.ref x.p)) n3
    have w3 := w2.newT (o := .tup (gs.map fun x => V.ref x.p)) n3
    have x3 := Same.new (o := .tup (gs.map fun x => V.ref x.p)) n3
    refine ⟨by show 3 ≤ sizeLine; decide, fun q4 n4 => ?_⟩
    have v4 := v3.newT (o := .tup [.ref q1, .ref q2, .ref q3]) n4
    have w4 := w3.newT (o := .tup [.ref q1, .ref q2, .ref q3]) n4
    have x4 := x3.newT (o := .tup [.ref q1, .ref q2, .ref q3]) n4
    have y4 := Same.new (o := .tup [.ref q1, .ref q2, .ref q3]) n4
    have s6 := s5.trans v4
    exact q _ _ s6 ⟨q4, gs, rfl, ⟨q1, q2, q3, upd_same, w4 _ _ upd_same, x4 _ _ upd_same, y4 _ _ upd_same, fun x hx => Bx.same s6 (ab x hx), fun x hx => Bx.same s6 (ad x hx), fun x hx => Gd.same v4 (agS x hx)⟩, eqs⟩
def sp_rule_of : Sp := fun vs_ H Q _ => ∃ (wk : Addr) (n : Str) (bs ds : List Bx) (gs : List Gd) (g : Gd), vs_ = [.ref wk, .str n] ∧ WkAt H wk bs ds gs ∧ gs.find? (fun x => decide (x.n = n)) = some g ∧ Q (.ref g.p) H
theorem ok_rule_of (T : Txt K mg) : Ok P w K mg base "rule_of" ["works", "name"] 1 sp_rule_of := by
  refine T.d_rule_of.ok sc_rule_of (fun vs H Q E h => ?_) (fun cdv A outer s H vs_ Q E hr h => ?_)
  · obtain ⟨wk, n, bs, ds, gs, g, rfl, _⟩ := h
    rfl
  · obtain ⟨wk, n, bs, ds, gs, g, rfl, ⟨a, b, c, h1, h2, h3, h4, h5, h6, h7⟩, hg, q⟩ := h
    refine ⟨_, (pss_cons (ps_for PassesOwn.never (by rfl) (pi_tup (pe_ix (r := rIxT K) ix_tup (pv 0) pe_int (fun _ _ => rfl))) (pg_name (i := 2) sc_rule_of.nd rfl (Or.inl rfl)) (pss_one (ps_if (pt_cmpR op_eq (pe_ix (r := rIxT K) ix_tup (pv 2) pe_int (fun _ _ => rfl)) (pv 1) (nomark _)) (pss_one (ps_ret (pv 2))) pss_nil)))
      (pss_one ps_never)), ?_⟩
    refine ⟨_, rfl, wk, _, 2, _, rfl, rfl, SqT.of h1, rfl, c, rfl, ⟨_, SqT.of h4⟩, for_tup (K := K) (a := c) (xs := gs.map fun x => V.ref x.p) (fun i σ H' => H' = H ∧ (∃ x, σ = [some (.ref wk), some (.str n), x]) ∧ ∀ x ∈ gs.take i, ¬ x.n = n) ⟨rfl, ⟨none, rfl⟩, nofun⟩ (fun i σ H' _ ⟨e, _⟩ => by rw [e]; exact SqT.of h4) ?_ ?_⟩
    · rintro i u σ H' hiu ⟨rfl, ⟨x, rfl⟩, hno⟩
      obtain ⟨r, er, rfl⟩ := map_at hiu
      obtain ⟨x1, hx⟩ := (h7 r (List.mem_of_getElem? er)).1
      refine ⟨_, rfl, r.p, _, 0, _, rfl, rfl, SqT.of hx, rfl, _, rfl, rfl, _, rfl, ?_⟩
      by_cases e : r.n = n
      · rw [decide_eq_true (by rw [e])]
        refine iteT ⟨_, rfl, ?_⟩
        have : g = r := by
          have e0 : gs.find? (fun x => decide (x.n = n)) = some r := by
            rw [List.find?_eq_some_iff_getElem]
            obtain ⟨hi, e1⟩ := List.getElem?_eq_some_iff.mp er
            refine ⟨decide_eq_true e, i, hi, e1, fun j hj => ?_⟩
            have hm : gs[j] ∈ gs.take i := by
              rw [List.mem_take_iff_getElem]
              exact ⟨j, by omega, rfl⟩
            rw [Bool.not_eq_true', decide_eq_false_iff_not]
            exact hno _ hm
          rw [e0] at hg
          exact (Option.some.inj hg).symm
        rw [← this]
        exact q
      · rw [decide_eq_false fun z => e (by injection z)]
        refine iteF ⟨rfl, ⟨_, rfl⟩, ?_⟩
        rw [take_snoc er]
        intro x hx
        rcases List.mem_append.mp hx with hx | hx
        · exact hno x hx
        · rw [List.mem_singleton.mp hx]
          exact e
    · rintro σ H' ⟨rfl, _, hno⟩
      rw [List.length_map, List.take_length] at hno
      exact absurd (of_decide_eq_true (List.find?_some (p := fun x : Gd => decide (x.n = n)) hg)) (hno g (List.mem_of_find?_eq_some hg))
def sp_widths_of : Sp := fun vs_ H Q _ => ∃ (wk : Addr) (bs ds : List Bx) (gs : List Gd), vs_ = [.ref wk] ∧ WkAt H wk bs ds gs ∧ BD bs ds ∧ Ret H Q fun r H' => ∃ p di dq, r = .ref p ∧ H' p = some (.tup [.ref di, .ref dq]) ∧ DIs H' di (wB bs) ∧ DIs H' dq (wB ds)
theorem ok_widths_of (T : Txt K mg) : Ok P w K mg base "widths_of" ["works"] 1 sp_widths_of := by
  refine T.d_widths_of.ok sc_widths_of (fun vs H Q E h => ?_) (fun cdv A outer s H vs_ Q E hr h => ?_)
  · obtain ⟨wk, bs, ds, gs, rfl, _⟩ := h
    rfl
  · obtain ⟨wk, bs, ds, gs, rfl, ⟨a, b, c, h1, h2, h3, h4, h5, h6, h7⟩, bd, q⟩ := h
    refine ⟨_, (pss_cons (ps_set (i := 1) sc_widths_of.nd rfl (Or.inl rfl) pe_dnewK)
      (pss_cons (ps_for PassesOwn.never (by rfl) (pi_tup (pe_ix (r := rIxT K) ix_tup (pv 0) pe_int (fun _ _ => rfl))) (pg_tup (by rfl) (pgs_cons (pg_name (i := 2) sc_widths_of.nd rfl (Or.inl rfl)) (pgs_cons (pg_name (i := 3) sc_widths_of.nd rfl (Or.inl rfl)) (pgs_cons (pg_name (i := 4) sc_widths_of.nd rfl (Or.inl rfl)) pgs_nil)))) (pss_one (ps_dput (hu_of hr) (pv 1) (pv 2) (pv 3) (by rfl))))
      (pss_cons (ps_set (i := 5) sc_widths_of.nd rfl (Or.inl rfl) pe_dnewK)
      (pss_cons (ps_for PassesOwn.never (by rfl) (pi_tup (pe_ix (r := rIxT K) ix_tup (pv 0) pe_int (fun _ _ => rfl))) (pg_tup (by rfl) (pgs_cons (pg_name (i := 2) sc_widths_of.nd rfl (Or.inl rfl)) (pgs_cons (pg_name (i := 3) sc_widths_of.nd rfl (Or.inl rfl)) pgs_nil))) (pss_one (ps_dput (hu_of hr) (pv 5) (pv 2) (pv 3) (by rfl))))
      (pss_one (ps_ret (pe_tup (pa_cons (pv 1) (pa_cons (pv 5) pa_nil))))))))), ?_⟩
    have ndb : (bs.map (·.n)).Nodup := (List.nodup_append.mp bd.nd).1
    have ndd : (ds.map (·.n)).Nodup := (List.nodup_append.mp bd.nd).2.1
    have lb12 := bd.lb
    have ld6 := bd.ld
    intro pi ni
    have s0 := Same.new (o := .dK []) ni
    refine ⟨_, rfl, wk, _, 0, _, rfl, rfl, SqT.of (s0 _ _ h1), rfl, a, rfl, ⟨_, SqT.of (s0 _ _ h2)⟩, for_tup (K := K) (a := a) (xs := bs.map fun x => V.ref x.p) (fun i σ H' => ∃ x y z, σ = [some (.ref wk), some (.ref pi), x, y, z, none] ∧ Same H H' ∧ DIn H' pi (wB (bs.take i)) i)
      ⟨none, none, none, rfl, s0, DIn.nil upd_same⟩ (fun i σ H' _ ⟨_, _, _, _, s1, _⟩ => SqT.of (s1 _ _ h2)) ?_ ?_⟩
    · rintro i u σ H' hiu ⟨x, y, z, rfl, s1, di⟩
      obtain ⟨b, er, rfl⟩ := map_at hiu
      have bm := List.mem_of_getElem? er
      obtain ⟨f0, ef, hf⟩ := bd.bf b bm
      have ha : H b.p = some (.tup [.str b.n, vN b.k, vN f0]) := by
        have := h5 b bm
        unfold Bx.At at this
        rw [ef] at this
        exact this
      have ilt : i < bs.length := (List.getElem?_eq_some_iff.mp er).1
      obtain ⟨o2, hput2, hdi⟩ := di.put (by omega) b.n b.k
      refine ⟨b.p, _, rfl, SqT.of (s1 _ _ ha), rfl, _, _, rfl, _, _, rfl, _, _, rfl, rfl, ?_⟩
      refine ⟨_, rfl, _, rfl, _, rfl, pi, _, rfl, hput2, _, _, _, rfl, s1.mut ni, ?_⟩
      rw [take_snoc er, wB_snoc (nd_at ndb er)]
      exact hdi _ upd_same
    rintro σ H1 ⟨x, y, z, rfl, s1, di1⟩
    rw [List.length_map, List.take_length] at di1
    intro po no
    have noo := s1.free no
    have s2 := s1.newT (o := .dK []) no
    have io : pi ≠ po := fun z => by
      obtain ⟨kvs, hk, _⟩ := di1
      rw [z, no] at hk
      cases hk
    refine ⟨_, rfl, wk, _, 1, _, rfl, rfl, SqT.of (s2 _ _ h1), rfl, b, rfl, ⟨_, SqT.of (s2 _ _ h3)⟩, for_tup (K := K) (a := b) (xs := ds.map fun x => V.ref x.p) (fun i σ H' => ∃ x y z, σ = [some (.ref wk), some (.ref pi), x, y, z, some (.ref po)] ∧ Same H H' ∧ DIn H' pi (wB bs) bs.length ∧ DIn H' po (wB (ds.take i)) i)
      ⟨x, y, z, rfl, s2, di1.of (upd_ne io), DIn.nil upd_same⟩ (fun i σ H' _ ⟨_, _, _, _, s1, _⟩ => SqT.of (s1 _ _ h3)) ?_ ?_⟩
    · rintro i u σ H' hiu ⟨x, y, z, rfl, s1, di, dout⟩
      obtain ⟨b, er, rfl⟩ := map_at hiu
      have bm := List.mem_of_getElem? er
      have ef := bd.df b bm
      have ha : H b.p = some (.tup [.str b.n, vN b.k]) := by
        have := h6 b bm
        unfold Bx.At at this
        rw [ef] at this
        exact this
      have ilt : i < ds.length := (List.getElem?_eq_some_iff.mp er).1
      obtain ⟨o2, hput2, hdi⟩ := dout.put (by omega) b.n b.k
      refine ⟨b.p, _, rfl, SqT.of (s1 _ _ ha), rfl, _, _, rfl, _, _, rfl, rfl, ?_⟩
      refine ⟨_, rfl, _, rfl, _, rfl, po, _, rfl, hput2, _, _, _, rfl, s1.mut noo, di.of (upd_ne io), ?_⟩
      rw [take_snoc er, wB_snoc (nd_at ndd er)]
      exact hdi _ upd_same
    rintro σ H2 ⟨x, y, z, rfl, s3, di2, do2⟩
    rw [List.length_map, List.take_length] at do2
    refine ⟨_, rfl, _, rfl, by show 2 ≤ sizeLine; decide, fun l nl => q _ _ (s3.newT nl) ⟨l, pi, po, rfl, upd_same, (di2.same (Same.new nl)).is, (do2.same (Same.new nl)).is⟩⟩
end
end K24

set_option Elab.async false
set_option linter.all false
set_option maxRecDepth 100000
set_option maxHeartbeats 4000000
/-! Papers: which bits are asked. -/
namespace K24
open PySem PySem.Spec PyProof.Rows L2
/-! ### two lists, one by one -/
def Ea {α : Type} (R : V → α → Prop) (us : List V) (xs : List α) : Prop := us.length = xs.length ∧ ∀ (j : Nat) (u : V) (x : α), us[j]? = some u → xs[j]? = some x → R u x
section
variable {α : Type} {R R' : V → α → Prop} {us vs_ : List V} {xs ys : List α}
theorem Ea.nil : Ea R [] [] := ⟨rfl, fun j u x h _ => by cases h⟩
theorem Ea.mono (h : Ea R us xs) (k : ∀ u x, R u x → R' u x) : Ea R' us xs := ⟨h.1, fun j u x h1 h2 => k u x (h.2 j u x h1 h2)⟩
theorem Ea.app (h : Ea R us xs) (h' : Ea R vs_ ys) : Ea R (us ++ vs_) (xs ++ ys) := by
  refine ⟨by rw [List.length_append, List.length_append, h.1, h'.1], fun j u x h1 h2 => ?_⟩
  have e := h.1
  by_cases hj : j < us.length
  · rw [List.getElem?_append_left hj] at h1
    rw [List.getElem?_append_left (by omega)] at h2
    exact h.2 j u x h1 h2
  · rw [List.getElem?_append_right (by omega)] at h1
    rw [List.getElem?_append_right (by omega), ← e] at h2
    exact h'.2 _ u x h1 h2
theorem Ea.one {u : V} {x : α} (h : R u x) : Ea R [u] [x] := ⟨rfl, fun j u' x' h1 h2 => by
  match j, h1, h2 with
  | 0, h1, h2 =>
    cases h1
    cases h2
    exact h⟩
theorem Ea.get (h : Ea R us xs) {i : Nat} {u : V} (hi : us[i]? = some u) : ∃ x, xs[i]? = some x ∧ R u x := by
  have h1 := (List.getElem?_eq_some_iff.mp hi).1
  rw [h.1] at h1
  exact ⟨_, List.getElem?_eq_getElem h1, h.2 i u _ hi (List.getElem?_eq_getElem h1)⟩
theorem Ea.get' (h : Ea R us xs) {i : Nat} {x : α} (hi : xs[i]? = some x) : ∃ u, us[i]? = some u ∧ R u x := by
  have h1 := (List.getElem?_eq_some_iff.mp hi).1
  rw [← h.1] at h1
  exact ⟨_, List.getElem?_eq_getElem h1, h.2 i _ x (List.getElem?_eq_getElem h1) hi⟩
end
def s4S : S4 → Str
  | .box => "box"
  | .door => "door"
  | .one => "one"
  | .other => "other"
def AskAt (H : Hp) (us : List V) (ask : List Ask) : Prop := Ea (fun u a => ∃ p, u = .ref p ∧ H p = some (.tup [.str (s4S a.1), .str a.2.1, vN a.2.2])) us ask
theorem AskAt.same {H H' : Hp} {us : List V} {ask : List Ask} (h : AskAt H us ask) (s : Same H H') : AskAt H' us ask := Ea.mono h fun u a ⟨p, e, hp⟩ => ⟨p, e, s _ _ hp⟩
theorem AskAt.keepL {H H' : Hp} {us : List V} {ask : List Ask} {L : Addr} {xs ys : List V} (h : AskAt H us ask) (s : Same H H') (hL : H L = some (.lst xs)) : AskAt (upd H' L (.lst ys)) us ask := Ea.mono h fun u a ⟨p, e, hp⟩ => ⟨p, e, keepU s hL hp nofun⟩
theorem nd_len : ∀ {l1 l2 : List Str}, l1.Nodup → (∀ x ∈ l1, x ∈ l2) → l1.length ≤ l2.length
  | [], _, _, _ => Nat.zero_le _
  | x :: l1, l2, nd, h => by
    obtain ⟨n1, n2⟩ := List.nodup_cons.mp nd
    obtain ⟨s, t, rfl⟩ := List.append_of_mem (h x List.mem_cons_self)
    have := nd_len (l2 := s ++ t) n2 fun y hy => by
      rcases List.mem_append.mp (h y (List.mem_cons_of_mem _ hy)) with q | q
      · exact List.mem_append_left _ q
      · rcases List.mem_cons.mp q with q | q
        · exact absurd (q ▸ hy) n1
        · exact List.mem_append_right _ q
    rw [List.length_append] at this
    rw [List.length_append, List.length_cons, List.length_cons]
    omega
theorem flat_ss (ns : List Str) : (ns.map V.str).all flatV = true := by
  rw [List.all_eq_true]
  intro x hx
  obtain ⟨m, _, rfl⟩ := List.mem_map.mp hx
  rfl
theorem in_ss (k : Str) : ∀ ns : List Str, inV (.str k) (ns.map V.str) = decide (k ∈ ns)
  | [] => rfl
  | m :: ms => by
    have ih := in_ss k ms
    have e : inV (.str k) ((m :: ms).map V.str) = (eqV (.str m) (.str k) || inV (.str k) (ms.map V.str)) := rfl
    rw [e, ih]
    have e2 : eqV (.str m) (.str k) = decide (k = m) := by
      show (m == k) = decide (k = m)
      by_cases h : k = m
      · subst h
        simp
      · rw [decide_eq_false h, beq_eq_false_iff_ne]
        exact fun z => h z.symm
    rw [e2, ← Bool.decide_or]
    exact decide_eq_decide.mpr List.mem_cons.symm
theorem filter_take_snoc {α : Type} {l : List α} {i : Nat} {x : α} (p : α → Bool) (h : l[i]? = some x) : (l.take (i + 1)).filter p = if p x = true then (l.take i).filter p ++ [x] else (l.take i).filter p := by
  rw [take_snoc h, List.filter_append]
  by_cases e : p x = true
  · rw [if_pos e, List.filter_cons_of_pos e]
    rfl
  · rw [if_neg e, List.filter_cons_of_neg e, List.filter_nil, List.append_nil]
section
variable {P : Program} {w : World} {K : PySem.W.Frag} {mg : Str → Option Value} {base : Heap}
def sp_shared_and_alone : Sp := fun vs_ H Q _ => ∃ (a b : Addr) (A B : List Str), vs_ = [.ref a, .ref b] ∧ H a = some (.lst (A.map V.str)) ∧ H b = some (.lst (B.map V.str)) ∧ Srt A ∧ Srt B ∧ A.length ≤ 12 ∧ B.length ≤ 12 ∧
  Ret H Q fun r H' => ∃ p x y S N, r = .ref p ∧ H' p = some (.tup [.ref x, .ref y]) ∧ H' x = some (.lst (S.map V.str)) ∧ H' y = some (.lst (N.map V.str)) ∧ Srt S ∧ Srt N ∧ (∀ n, n ∈ S ↔ n ∈ A ∧ n ∈ B) ∧ ∀ n, n ∈ N ↔ (n ∈ A ∨ n ∈ B) ∧ ¬ (n ∈ A ∧ n ∈ B)
theorem ok_shared_and_alone (T : Txt K mg) : Ok P w K mg base "shared_and_alone" ["one", "other"] 1 sp_shared_and_alone := by
  refine T.d_shared_and_alone.ok sc_shared_and_alone (fun vs H Q E h => ?_) (fun cdv A outer s H vs_ Q E hr h => ?_)
  · obtain ⟨a, b, A, B, rfl, _⟩ := h
    rfl
  · obtain ⟨a, b, A, B, rfl, ha, hb, sA, sB, lA, lB, q⟩ := h
    refine ⟨_, (pss_cons (ps_set (i := 2) sc_shared_and_alone.nd rfl (Or.inr rfl) (pe_lc (own := [("name", 4)]) (g := gName 4) (by rfl) sc_shared_and_alone.nd (pi_list (pv 0)) (blkOk_by (N := N_shared_and_alone) (sc := defScope s_shared_and_alone) (by decide +kernel)) (fun _ _ _ _ _ => pg_name (i := 4) sc_shared_and_alone.nd rfl (Or.inl rfl)) (fun _ _ _ _ _ => (pts_one (pt_cmpR (r := rIn K false) op_in_seq (pv 4) (pv 1) (by rfl)))) (fun _ _ _ _ _ => (pv 4))))
      (pss_cons (ps_setLc (i := 3) (own := [("name", 4)]) (g := gName 4) (by rfl) sc_shared_and_alone.nd rfl rfl (sw_true rfl rfl rfl (by decide +kernel)) (pi_list (pe_op op_cat (pv 0) (pv 1))) (blkOk_by (N := N_shared_and_alone) (sc := defScope s_shared_and_alone) (by decide +kernel)) (fun _ _ _ _ _ => pg_name (i := 4) sc_shared_and_alone.nd rfl (Or.inl rfl)) (fun _ _ _ _ _ => (pts_one (pt_cmpR (r := rIn K true) op_notIn_seq (pv 4) (pv 2) (by rfl)))) (fun _ _ _ _ _ => (pv 4)))
      (pss_one (ps_ret (pe_tup (pa_cons (pv 2) (pa_cons (pe_callB cr_sortedS (by rfl) T.z_sorted PyProof.Rows.boot_sorted (pa_cons (pv 3) pa_nil)) pa_nil))))))), ?_⟩
    have flA : ∀ i, ((A.take i).filter fun n => decide (n ∈ B)).length ≤ 12 := fun i => by
      have h1 := List.length_filter_le (fun n => decide (n ∈ B)) (A.take i)
      rw [List.length_take] at h1
      omega
    refine ⟨_, rfl, a, rfl, ⟨_, SqL.of ha⟩, fun D nD => lc_list (K := K) (a := a) (xs := A.map V.str) (fun i H' => Same H H' ∧ H' D = some (.lst (((A.take i).filter fun n => decide (n ∈ B)).map V.str))) ⟨Same.new nD, upd_same⟩ (fun i H' _ p => p.1.seq (SqL.of ha)) ?_ ?_⟩
    · rintro i u H' hiu ⟨s1, hD⟩
      obtain ⟨n, en, rfl⟩ := map_at hiu
      refine ⟨rfl, _, rfl, _, rfl, b, _, rfl, .inl (SqL.of (s1 _ _ hb)), rfl, flat_ss _, _, rfl, ?_⟩
      rw [filter_take_snoc _ en]
      have e : inV (V.str n) (B.map V.str) = decide (n ∈ B) := in_ss n B
      show if inV (V.str n) (B.map V.str) = true then _ else _
      rw [e]
      by_cases h : n ∈ B
      · rw [if_pos (decide_eq_true h)]
        refine ⟨_, rfl, _, hD, ?_, s1.mut nD, ?_⟩
        · rw [List.length_map]
          have := flA i
          exact line_lt (by omega)
        · rw [if_pos (decide_eq_true h), upd_same, List.map_append]
          rfl
      · rw [if_neg (by rw [decide_eq_true_eq]; exact h), if_neg (by rw [decide_eq_true_eq]; exact h)]
        exact ⟨s1, hD⟩
    rintro H1 ⟨s1, hD⟩
    rw [List.length_map, List.take_length] at hD
    generalize eS : (A.filter fun n => decide (n ∈ B)) = S at hD
    have lS : S.length ≤ 12 := by
      rw [← eS]
      have := flA A.length
      rw [List.take_length] at this
      exact this
    have sS : Srt S := by
      rw [← eS]
      exact List.Pairwise.filter _ sA
    have mS : ∀ n, n ∈ S ↔ n ∈ A ∧ n ∈ B := fun n => by
      rw [← eS, List.mem_filter, decide_eq_true_eq]
    refine ⟨_, rfl, _, rfl, a, b, _, _, rfl, rfl, s1 _ _ ha, s1 _ _ hb, ?_, fun c nc => ?_⟩
    · rw [List.length_map, List.length_map]
      exact line_of (by omega)
    have s2 := s1.newT (o := .lst (A.map V.str ++ B.map V.str)) nc
    have hD2 : (upd H1 c (.lst (A.map V.str ++ B.map V.str))) D = some (.lst (S.map V.str)) := Same.new nc _ _ hD
    have hc2 : (upd H1 c (.lst (A.map V.str ++ B.map V.str))) c = some (.lst ((A ++ B).map V.str)) := by
      rw [upd_same, List.map_append]
    generalize (upd H1 c (.lst (A.map V.str ++ B.map V.str))) = H2 at s2 hD2 hc2
    have flN : ∀ i, (((A ++ B).take i).filter fun n => !decide (n ∈ S)).length ≤ 24 := fun i => by
      have h1 := List.length_filter_le (fun n => !decide (n ∈ S)) ((A ++ B).take i)
      rw [List.length_take, List.length_append] at h1
      omega
    refine ⟨c, rfl, ⟨_, SqL.of hc2⟩, fun L nL => lc_list (K := K) (a := c) (xs := (A ++ B).map V.str) (fun i H' => Same H2 H' ∧ H' L = some (.lst ((((A ++ B).take i).filter fun n => !decide (n ∈ S)).map V.str))) ⟨Same.new nL, upd_same⟩ (fun i H' _ p => p.1.seq (SqL.of hc2)) ?_ ?_⟩
    · rintro i u H' hiu ⟨s3, hL⟩
      obtain ⟨n, en, rfl⟩ := map_at hiu
      refine ⟨rfl, _, rfl, _, rfl, D, _, rfl, .inl (SqL.of (s3 _ _ hD2)), rfl, flat_ss _, _, rfl, ?_⟩
      rw [filter_take_snoc _ en]
      have e : inV (V.str n) (S.map V.str) = decide (n ∈ S) := in_ss n S
      show if (!inV (V.str n) (S.map V.str)) = true then _ else _
      rw [e]
      by_cases h : (!decide (n ∈ S)) = true
      · rw [if_pos h]
        refine ⟨_, rfl, _, hL, ?_, s3.mut nL, ?_⟩
        · rw [List.length_map]
          have := flN i
          exact line_lt (by omega)
        · rw [if_pos h, upd_same, List.map_append]
          rfl
      · rw [if_neg h, if_neg h]
        exact ⟨s3, hL⟩
    rintro H3 ⟨s3, hL⟩
    rw [List.length_map, List.take_length] at hL
    refine ⟨_, rfl, _, rfl, L, _, rfl, SqL.of hL, ?_, fun ys y pm so ny => ?_⟩
    · have := flN (A ++ B).length
      rw [List.take_length] at this
      omega
    refine ⟨by show 2 ≤ sizeLine; decide, fun p np => ?_⟩
    have s4 := (s2.trans s3).newT (o := .lst (ys.map V.str)) ny
    have hD4 : (upd H3 y (.lst (ys.map V.str))) D = some (.lst (S.map V.str)) := Same.new ny _ _ (s3 _ _ hD2)
    have mN : ∀ n, n ∈ ys ↔ (n ∈ A ∨ n ∈ B) ∧ ¬ (n ∈ A ∧ n ∈ B) := fun n => by
      rw [pm.mem_iff, List.mem_filter, List.mem_append, Bool.not_eq_true', decide_eq_false_iff_not, mS]
    have ndN : ys.Nodup := by
      rw [pm.nodup_iff, List.filter_append, List.nodup_append]
      refine ⟨List.Pairwise.filter _ (srt_nodup sA), List.Pairwise.filter _ (srt_nodup sB), fun x hx y hy e => ?_⟩
      subst e
      rw [List.mem_filter, Bool.not_eq_true', decide_eq_false_iff_not, mS] at hx hy
      exact hx.2 ⟨hx.1, hy.1⟩
    exact q _ _ (s4.newT np) ⟨p, D, y, S, ys, rfl, upd_same, Same.new np _ _ hD4, Same.new np _ _ upd_same, sS, srt_of so ndN, mS, mN⟩
def sp_bits_down : Sp := fun vs_ H Q _ => ∃ (s : S4) (a d : Addr) (ns : List Str) (f : Str → Option Nat), vs_ = [.str (s4S s), .ref a, .ref d] ∧ H a = some (.lst (ns.map V.str)) ∧ DIs H d f ∧ (∀ n ∈ ns, ∃ k, f n = some k ∧ k ≤ 64) ∧ ns.length ≤ 24 ∧
  Ret H Q fun r H' => ∃ p us, r = .ref p ∧ H p = none ∧ H' p = some (.lst us) ∧ AskAt H' us (dn (fun n => (f n).getD 0) s ns)
theorem dn_len {f : Str → Nat} {s : S4} : ∀ {ns : List Str}, (∀ n ∈ ns, f n ≤ 64) → (dn f s ns).length ≤ 64 * ns.length
  | [], _ => Nat.zero_le _
  | n :: ns, h => by
    have ih := dn_len (f := f) (s := s) (ns := ns) fun m hm => h m (List.mem_cons_of_mem _ hm)
    have h1 := h n List.mem_cons_self
    show (((List.range (f n)).reverse.map fun p => ((s, n, p) : Ask)) ++ dn f s ns).length ≤ _
    rw [List.length_append, List.length_map, List.length_reverse, List.length_range, List.length_cons]
    omega
theorem dn_snoc {f : Str → Nat} {s : S4} (ns : List Str) (n : Str) : dn f s (ns ++ [n]) = dn f s ns ++ (List.range (f n)).reverse.map fun p => ((s, n, p) : Ask) := by
  unfold dn
  rw [List.flatMap_append]
  show _ ++ (_ ++ []) = _
  rw [List.append_nil]
theorem rev_at {w j : Nat} (h : j < w) : (List.range w).reverse[j]? = some (w - 1 - j) := by
  rw [List.getElem?_reverse (by rw [List.length_range]; exact h), List.length_range, List.getElem?_range (by omega)]
theorem ok_bits_down (T : Txt K mg) : Ok P w K mg base "bits_down" ["sort", "names", "widths"] 1 sp_bits_down := by
  refine T.d_bits_down.ok sc_bits_down (fun vs H Q E h => ?_) (fun cdv A outer s H vs_ Q E hr h => ?_)
  · obtain ⟨s, a, d, ns, f, rfl, _⟩ := h
    rfl
  · obtain ⟨s', a, d, ns, f, rfl, ha, hd, hk, ln, q⟩ := h
    refine ⟨_, (pss_cons (ps_set (i := 3) sc_bits_down.nd rfl (Or.inl rfl) (pe_lst pa_nil))
      (pss_cons (ps_for PassesOwn.never (by rfl) (pi_list (pv 1)) (pg_name (i := 4) sc_bits_down.nd rfl (Or.inl rfl)) (pss_one (ps_for PassesOwn.never (by rfl) (pi_revR (by rfl) T.z_reversed (prg_1 (by rfl) T.z_range (pe_dget (hu_of hr) (pv 2) (pv 4) (fun _ _ => rfl)))) (pg_name (i := 5) sc_bits_down.nd rfl (Or.inl rfl)) (pss_one (ps_expr (pe_bm PySem.F.plainAttrs_list PySem.F.slot_list_append PySem.F.type_list_append mt_append (pv 3) (pa_cons (pe_tup (pa_cons (pv 0) (pa_cons (pv 4) (pa_cons (pv 5) pa_nil)))) pa_nil)))))))
      (pss_one (ps_ret (pv 3))))), ?_⟩
    have hk64 : ∀ n ∈ ns, (f n).getD 0 ≤ 64 := fun n hn => by
      obtain ⟨k, e, hk⟩ := hk n hn
      rw [e]
      exact hk
    refine ⟨Nat.zero_le _, fun L nL => ?_⟩
    have s0 := Same.new (o := .lst []) nL
    refine ⟨_, rfl, a, rfl, ⟨_, SqL.of (s0 _ _ ha)⟩, for_list (K := K) (a := a) (xs := ns.map V.str) (fun i σ H' => ∃ x y, σ = [some (.str (s4S s')), some (.ref a), some (.ref d), some (.ref L), x, y] ∧ Same H H' ∧ ∃ us, H' L = some (.lst us) ∧ AskAt H' us (dn (fun n => (f n).getD 0) s' (ns.take i)))
      ⟨none, none, rfl, s0, [], upd_same, Ea.nil⟩ (fun i σ H' _ ⟨_, _, _, s1, _⟩ => s1.seq (SqL.of ha)) ?_ ?_⟩
    · rintro i u σ H' hiu ⟨x, y, rfl, s1, us, hL, au⟩
      obtain ⟨n, en, rfl⟩ := map_at hiu
      obtain ⟨k, ek, hk6⟩ := hk n (List.mem_of_getElem? en)
      have l1 : (dn (fun n => (f n).getD 0) s' (ns.take i)).length ≤ 64 * 24 := by
        have h1 := dn_len (f := fun n => (f n).getD 0) (s := s') (ns := ns.take i) fun m hm => hk64 m (List.mem_of_mem_take hm)
        rw [List.length_take] at h1
        omega
      refine ⟨_, rfl, _, rfl, d, _, rfl, (hd.same s1).at ek, k, rfl, by decide, by decide, by omega, by omega, for_rangeC (fun j σ H' => ∃ y, σ = [some (.str (s4S s')), some (.ref a), some (.ref d), some (.ref L), some (.str n), y] ∧ Same H H' ∧ ∃ us, H' L = some (.lst us) ∧
        AskAt H' us (dn (fun n => (f n).getD 0) s' (ns.take i) ++ ((List.range k).reverse.take j).map fun p => ((s', n, p) : Ask))) ⟨y, rfl, s1, us, hL, by rw [List.take_zero, List.map_nil, List.append_nil]; exact au⟩ ?_ ?_⟩
      · rintro j σ H2 hj ⟨y, rfl, s2, us, hL, au⟩
        have hj : j < k := by omega
        have ep : ((0 : Int) + ((((k : Int) - 0).toNat : Nat) : Int) - 1 + ((j : Nat) : Int) * (-1)) = ((k - 1 - j : Nat) : Int) := by omega
        rw [ep]
        refine ⟨_, rfl, .inl ⟨rfl, _, SqL.of hL⟩, _, rfl, _, rfl, _, rfl, by show 3 ≤ sizeLine; decide, fun p np => ?_⟩
        have s3 := Same.new (o := .tup [.str (s4S s'), .str n, vN (k - 1 - j)]) np
        refine ⟨L, _, _, rfl, rfl, s3 _ _ hL, ?_, some (vN (k - 1 - j)), rfl, (s2.trans s3).mut nL, _, upd_same, ?_⟩
        · rw [au.1, List.length_append, List.length_map, List.length_take, List.length_reverse, List.length_range]
          exact line_lt (by omega)
        · rw [take_snoc (rev_at hj), List.map_append, ← List.append_assoc]
          refine Ea.app (AskAt.keepL au s3 hL) (Ea.one ⟨p, rfl, ?_⟩)
          exact keepU (Same.refl _) (s3 _ _ hL) upd_same nofun
      · rintro σ H2 ⟨y, rfl, s2, us, hL, au⟩
        refine ⟨_, _, rfl, s2, us, hL, ?_⟩
        rw [take_snoc en, dn_snoc, ek]
        have e : (List.range k).reverse.take ((k : Int) - 0).toNat = (List.range k).reverse := List.take_of_length_le (by rw [List.length_reverse, List.length_range]; omega)
        rw [e] at au
        exact au
    · rintro σ H' ⟨x, y, rfl, s1, us, hL, au⟩
      rw [List.length_map, List.take_length] at au
      exact ⟨_, rfl, q _ _ s1 ⟨L, us, rfl, nL, hL, au⟩⟩
end
end K24

set_option Elab.async false
set_option linter.all false
set_option maxRecDepth 100000
set_option maxHeartbeats 4000000
/-! Papers: the row of the bits asked. -/
namespace K24
open PySem PySem.Spec PyProof.Rows L2
abbrev bwOf (bs : List Bx) : Str → Nat := fun n => (wB bs n).getD 0
theorem nm_in {bs ds : List Bx} {t : Tm} {k : Nat} (hw : Wd (wsOf bs ds) t k) {s : Sr} {n : Str} (hn : n ∈ nms s t) : ∃ j, (wsOf bs ds).of s n = some j := wd_named hw hn
theorem nm_len {bs : List Bx} {E : List Str} (so : Srt E) (h : ∀ n ∈ E, ∃ j, wB bs n = some j) (hl : bs.length ≤ 12) : E.length ≤ 12 := by
  have := nd_len (l2 := bs.map (·.n)) (srt_nodup so) fun n hn => by
    obtain ⟨j, e⟩ := h n hn
    obtain ⟨b, hb, e2, _⟩ := wB_mem e
    exact List.mem_map.mpr ⟨b, hb, e2⟩
  rw [List.length_map] at this
  omega
section
variable {P : Program} {w : World} {K : PySem.W.Frag} {mg : Str → Option Value} {base : Heap}
structure TwoAt (H : Hp) (wk : Addr) (n1 n2 : Str) (bs ds : List Bx) (gs : List Gd) (g1 g2 : Gd) : Prop where
  wk : WkAt H wk bs ds gs
  bd : BD bs ds
  f1 : gs.find? (fun x => decide (x.n = n1)) = some g1
  f2 : gs.find? (fun x => decide (x.n = n2)) = some g2
  t1 : TmOk (wsOf bs ds) g1.t 1
  t2 : TmOk (wsOf bs ds) g2.t 1
theorem TwoAt.same {H H' : Hp} {wk : Addr} {n1 n2 : Str} {bs ds : List Bx} {gs : List Gd} {g1 g2 : Gd} (h : TwoAt H wk n1 n2 bs ds gs g1 g2) (s : Same H H') : TwoAt H' wk n1 n2 bs ds gs g1 g2 := ⟨h.wk.same s, h.bd, h.f1, h.f2, h.t1, h.t2⟩
theorem TwoAt.a1 {H : Hp} {wk : Addr} {n1 n2 : Str} {bs ds : List Bx} {gs : List Gd} {g1 g2 : Gd} (h : TwoAt H wk n1 n2 bs ds gs g1 g2) : g1.At H := let ⟨_, _, _, _, _, _, _, _, _, h7⟩ := h.wk; h7 _ (List.mem_of_find?_eq_some h.f1)
theorem TwoAt.a2 {H : Hp} {wk : Addr} {n1 n2 : Str} {bs ds : List Bx} {gs : List Gd} {g1 g2 : Gd} (h : TwoAt H wk n1 n2 bs ds gs g1 g2) : g2.At H := let ⟨_, _, _, _, _, _, _, _, _, h7⟩ := h.wk; h7 _ (List.mem_of_find?_eq_some h.f2)
def sp_asked_bits : Sp := fun vs_ H Q _ => ∃ (wk : Addr) (n1 n2 : Str) (bs ds : List Bx) (gs : List Gd) (g1 g2 : Gd), vs_ = [.ref wk, .str n1, .str n2] ∧ TwoAt H wk n1 n2 bs ds gs g1 g2 ∧
  Ret H Q fun r H' => ∃ p us ask, r = .ref p ∧ H p = none ∧ H' p = some (.lst us) ∧ AskAt H' us ask ∧ AskedOk (bwOf bs) (bwOf ds) g1.t g2.t ask ∧ ask.length ≤ 6000
theorem ok_asked_bits (T : Txt K mg) : Ok P w K mg base "asked_bits" ["works", "one", "other"] 12 sp_asked_bits := by
  have G_widths_of : Ok P w K mg base "widths_of" _ 1 _ := ok_widths_of T
  have G_reads : Ok P w K mg base "reads" _ 11 _ := ok_reads T 8
  have G_rule_of : Ok P w K mg base "rule_of" _ 1 _ := ok_rule_of T
  have G_shared_and_alone : Ok P w K mg base "shared_and_alone" _ 1 _ := ok_shared_and_alone T
  have G_bits_down : Ok P w K mg base "bits_down" _ 1 _ := ok_bits_down T
  refine T.d_asked_bits.ok sc_asked_bits (fun vs H Q E h => ?_) (fun cdv A outer s H vs_ Q E hr h => ?_)
  · obtain ⟨wk, n1, n2, bs, ds, gs, g1, g2, rfl, _⟩ := h
    rfl
  · obtain ⟨wk, n1, n2, bs, ds, gs, g1, g2, rfl, two, q⟩ := h
    refine ⟨_, (pss_cons (ps_asg (pe_c T.d_widths_of G_widths_of (hr.mono (by omega)) (by rfl) (pa_cons (pv 0) pa_nil)) (pg_tup (by rfl) (pgs_cons (pg_name (i := 3) sc_asked_bits.nd rfl (Or.inl rfl)) (pgs_cons (pg_name (i := 4) sc_asked_bits.nd rfl (Or.inl rfl)) pgs_nil))))
      (pss_cons (ps_set (i := 5) sc_asked_bits.nd rfl (Or.inl rfl) (pe_c T.d_reads G_reads (hr.mono (by omega)) (by rfl) (pa_cons (pe_ix (r := rIxT K) ix_tup (pe_c T.d_rule_of G_rule_of (hr.mono (by omega)) (by rfl) (pa_cons (pv 0) (pa_cons (pv 1) pa_nil))) pe_int (fun _ _ => rfl)) pa_nil)))
      (pss_cons (ps_set (i := 6) sc_asked_bits.nd rfl (Or.inl rfl) (pe_c T.d_reads G_reads (hr.mono (by omega)) (by rfl) (pa_cons (pe_ix (r := rIxT K) ix_tup (pe_c T.d_rule_of G_rule_of (hr.mono (by omega)) (by rfl) (pa_cons (pv 0) (pa_cons (pv 2) pa_nil))) pe_int (fun _ _ => rfl)) pa_nil)))
      (pss_cons (ps_set (i := 7) sc_asked_bits.nd rfl (Or.inl rfl) (pe_c T.d_shared_and_alone G_shared_and_alone (hr.mono (by omega)) (by rfl) (pa_cons (pe_ix (r := rIxT K) ix_tup (pv 5) pe_int (fun _ _ => rfl)) (pa_cons (pe_ix (r := rIxT K) ix_tup (pv 6) pe_int (fun _ _ => rfl)) pa_nil))))
      (pss_cons (ps_set (i := 8) sc_asked_bits.nd rfl (Or.inl rfl) (pe_c T.d_shared_and_alone G_shared_and_alone (hr.mono (by omega)) (by rfl) (pa_cons (pe_ix (r := rIxT K) ix_tup (pv 5) pe_int (fun _ _ => rfl)) (pa_cons (pe_ix (r := rIxT K) ix_tup (pv 6) pe_int (fun _ _ => rfl)) pa_nil))))
      (pss_cons (ps_set (i := 9) sc_asked_bits.nd rfl (Or.inl rfl) (pe_op op_cat (pe_c T.d_bits_down G_bits_down (hr.mono (by omega)) (by rfl) (pa_cons pe_str (pa_cons (pe_ix (r := rIxT K) ix_tup (pv 7) pe_int (fun _ _ => rfl)) (pa_cons (pv 3) pa_nil)))) (pe_c T.d_bits_down G_bits_down (hr.mono (by omega)) (by rfl) (pa_cons pe_str (pa_cons (pe_ix (r := rIxT K) ix_tup (pv 8) pe_int (fun _ _ => rfl)) (pa_cons (pv 4) pa_nil))))))
      (pss_cons (ps_set (i := 9) sc_asked_bits.nd rfl (Or.inl rfl) (pe_op op_cat (pe_op op_cat (pv 9) (pe_c T.d_bits_down G_bits_down (hr.mono (by omega)) (by rfl) (pa_cons pe_str (pa_cons (pe_ix (r := rIxT K) ix_tup (pv 7) pe_int (fun _ _ => rfl)) (pa_cons (pv 3) pa_nil))))) (pe_c T.d_bits_down G_bits_down (hr.mono (by omega)) (by rfl) (pa_cons pe_str (pa_cons (pe_ix (r := rIxT K) ix_tup (pv 8) pe_int (fun _ _ => rfl)) (pa_cons (pv 4) pa_nil))))))
      (pss_one (ps_ret (pe_op op_cat (pe_op op_cat (pv 9) (pe_c T.d_bits_down G_bits_down (hr.mono (by omega)) (by rfl) (pa_cons pe_str (pa_cons (pe_ix (r := rIxT K) ix_tup (pv 5) pe_int (fun _ _ => rfl)) (pa_cons (pv 3) pa_nil))))) (pe_c T.d_bits_down G_bits_down (hr.mono (by omega)) (by rfl) (pa_cons pe_str (pa_cons (pe_ix (r := rIxT K) ix_tup (pv 6) pe_int (fun _ _ => rfl)) (pa_cons (pv 3) pa_nil)))))))))))))), ?_⟩
    have bd := two.bd
    refine ⟨_, rfl, wk, bs, ds, gs, rfl, two.wk, bd, fun r H1 s1 ⟨p0, di, dq, er, hp0, hdi, hdo⟩ => ?_⟩
    subst er
    refine ⟨p0, _, rfl, SqT.of hp0, rfl, _, _, rfl, _, _, rfl, rfl, ?_⟩
    have w1 := two.same s1
    obtain ⟨⟨x1, hx1⟩, ht1⟩ := w1.a1
    refine ⟨_, rfl, _, rfl, wk, n1, bs, ds, gs, g1, rfl, w1.wk, w1.f1, g1.p, _, 1, _, rfl, rfl, SqT.of hx1, rfl, g1.v, g1.t, rfl, ht1, two.t1.d, by have := two.t1.z; omega, fun r H2 s2 ⟨p1, a1, b1, c1, E1, L1, D1, er, hp1, ha1, hb1, hc1, sE1, sL1, sD1, mE1, mL1, mD1, _⟩ => ?_⟩
    subst er
    have w2 := w1.same s2
    obtain ⟨⟨x2, hx2⟩, ht2⟩ := w2.a2
    refine ⟨_, rfl, _, rfl, wk, n2, bs, ds, gs, g2, rfl, w2.wk, w2.f2, g2.p, _, 1, _, rfl, rfl, SqT.of hx2, rfl, g2.v, g2.t, rfl, ht2, two.t2.d, by have := two.t2.z; omega, fun r H3 s3 ⟨p2, a2, b2, c2, E2, L2_, D2, er, hp2, ha2, hb2, hc2, sE2, sL2, sD2, mE2, mL2, mD2, _⟩ => ?_⟩
    subst er
    -- all names have widths
    have ok := bd.ok
    have bx1 : ∀ n ∈ E1, ∃ j, wB bs n = some j := fun n hn => nm_in (s := .box) two.t1.w ((mE1 n).mp hn)
    have bx2 : ∀ n ∈ E2, ∃ j, wB bs n = some j := fun n hn => nm_in (s := .box) two.t2.w ((mE2 n).mp hn)
    have la1 : ∀ n ∈ L1, ∃ j, wB bs n = some j := fun n hn => nm_in (s := .late) two.t1.w ((mL1 n).mp hn)
    have la2 : ∀ n ∈ L2_, ∃ j, wB bs n = some j := fun n hn => nm_in (s := .late) two.t2.w ((mL2 n).mp hn)
    have do1 : ∀ n ∈ D1, ∃ j, wB ds n = some j := fun n hn => nm_in (s := .door) two.t1.w ((mD1 n).mp hn)
    have do2 : ∀ n ∈ D2, ∃ j, wB ds n = some j := fun n hn => nm_in (s := .door) two.t2.w ((mD2 n).mp hn)
    have ld12 : ds.length ≤ 12 := Nat.le_trans bd.ld (by decide)
    have wb64 : ∀ {n j}, wB bs n = some j → j ≤ 64 := fun {n j} e => (ok .box n j e).2
    have wd64 : ∀ {n j}, wB ds n = some j → j ≤ 64 := fun {n j} e => (ok .door n j e).2
    have fb : ∀ {ns : List Str}, (∀ n ∈ ns, ∃ j, wB bs n = some j) → ∀ n ∈ ns, ∃ j, wB bs n = some j ∧ j ≤ 64 := fun h n hn => let ⟨j, e⟩ := h n hn; ⟨j, e, wb64 e⟩
    have fd : ∀ {ns : List Str}, (∀ n ∈ ns, ∃ j, wB ds n = some j) → ∀ n ∈ ns, ∃ j, wB ds n = some j ∧ j ≤ 64 := fun h n hn => let ⟨j, e⟩ := h n hn; ⟨j, e, wd64 e⟩
    have gb : ∀ (n : Str), bwOf bs n ≤ 64 := fun n => by
      show (wB bs n).getD 0 ≤ 64
      cases e : wB bs n with
      | none => exact Nat.zero_le _
      | some j => exact wb64 e
    have gd : ∀ (n : Str), bwOf ds n ≤ 64 := fun n => by
      show (wB ds n).getD 0 ≤ 64
      cases e : wB ds n with
      | none => exact Nat.zero_le _
      | some j => exact wd64 e
    have s13 := s2.trans s3
    refine ⟨_, rfl, p1, _, 0, _, rfl, rfl, SqT.of (s3 _ _ hp1), rfl, _, rfl, p2, _, 0, _, rfl, rfl, SqT.of hp2, rfl, a1, a2, E1, E2, rfl, s3 _ _ ha1, ha2, sE1, sE2, nm_len sE1 bx1 bd.lb, nm_len sE2 bx2 bd.lb, fun r H4 s4 ⟨p3, x3, y3, S3, N3, er, hp3, hx3, hy3, sS3, sN3, mS3, mN3⟩ => ?_⟩
    subst er
    have s34 := s3.trans s4
    refine ⟨_, rfl, p1, _, 2, _, rfl, rfl, SqT.of (s34 _ _ hp1), rfl, _, rfl, p2, _, 2, _, rfl, rfl, SqT.of (s4 _ _ hp2), rfl, c1, c2, D1, D2, rfl, s34 _ _ hc1, s4 _ _ hc2, sD1, sD2, nm_len sD1 do1 ld12, nm_len sD2 do2 ld12, fun r H5 s5 ⟨p4, x4, y4, S4_, N4, er, hp4, hx4, hy4, sS4, sN4, mS4, mN4⟩ => ?_⟩
    subst er
    have s45 := s4.trans s5
    have s05 := (s2.trans s34).trans s5
    have hdi5 := hdi.same s05
    have hdo5 := hdo.same s05
    have S3w : ∀ n ∈ S3, ∃ j, wB bs n = some j := fun n hn => bx1 n ((mS3 n).mp hn).1
    have N3w : ∀ n ∈ N3, ∃ j, wB bs n = some j := fun n hn => ((mN3 n).mp hn).1.elim (bx1 n) (bx2 n)
    have S4w : ∀ n ∈ S4_, ∃ j, wB ds n = some j := fun n hn => do1 n ((mS4 n).mp hn).1
    have N4w : ∀ n ∈ N4, ∃ j, wB ds n = some j := fun n hn => ((mN4 n).mp hn).1.elim (do1 n) (do2 n)
    have lS3 := nm_len sS3 S3w bd.lb
    have lN3 := nm_len sN3 N3w bd.lb
    have lS4 := nm_len sS4 S4w ld12
    have lN4 := nm_len sN4 N4w ld12
    have lL1 := nm_len sL1 la1 bd.lb
    have lL2 := nm_len sL2 la2 bd.lb
    have z1 := dn_len (f := bwOf bs) (s := .box) (ns := S3) fun n _ => gb n
    have z2 := dn_len (f := bwOf ds) (s := .door) (ns := S4_) fun n _ => gd n
    have z3 := dn_len (f := bwOf bs) (s := .box) (ns := N3) fun n _ => gb n
    have z4 := dn_len (f := bwOf ds) (s := .door) (ns := N4) fun n _ => gd n
    have z5 := dn_len (f := bwOf bs) (s := .one) (ns := L1) fun n _ => gb n
    have z6 := dn_len (f := bwOf bs) (s := .other) (ns := L2_) fun n _ => gb n
    -- the first two
    refine ⟨_, rfl, p3, _, 0, _, rfl, rfl, SqT.of (s5 _ _ hp3), rfl, _, rfl, .box, x3, di, S3, _, rfl, s5 _ _ hx3, hdi5, fb S3w, by omega, fun r H6 s6 ⟨f1, u1, er, _, hf1, au1⟩ => ?_⟩
    subst er
    have au1 : AskAt H6 u1 (dn (bwOf bs) .box S3) := au1
    refine ⟨_, rfl, p4, _, 0, _, rfl, rfl, SqT.of (s6 _ _ hp4), rfl, _, rfl, .door, x4, dq, S4_, _, rfl, s6 _ _ hx4, hdo5.same s6, fd S4w, by omega, fun r H7 s7 ⟨f2, u2, er, _, hf2, au2⟩ => ?_⟩
    subst er
    have au2 : AskAt H7 u2 (dn (bwOf ds) .door S4_) := au2
    refine ⟨f1, f2, _, _, rfl, rfl, s7 _ _ hf1, hf2, ?_, fun k1 nk1 => ?_⟩
    · rw [au1.1, au2.1]
      exact line_of (by omega)
    have s8 := Same.new (o := .lst (u1 ++ u2)) nk1
    have au12 := AskAt.same (Ea.app (AskAt.same au1 s7) au2) s8
    have hk1 : (upd H7 k1 (.lst (u1 ++ u2))) k1 = some (.lst (u1 ++ u2)) := upd_same
    have s58 := ((s6.trans s7).trans s8)
    have s18 := (s05.trans s58)
    generalize (upd H7 k1 (.lst (u1 ++ u2))) = H8 at s8 au12 hk1 s58 s18
    -- the next two
    have s38 := s5.trans s58
    refine ⟨_, rfl, _, rfl, p3, _, 1, _, rfl, rfl, SqT.of (s38 _ _ hp3), rfl, _, rfl, .box, y3, di, N3, _, rfl, s38 _ _ hy3, hdi.same s18, fb N3w, by omega, fun r H9 s9 ⟨f3, u3, er, _, hf3, au3⟩ => ?_⟩
    subst er
    have au3 : AskAt H9 u3 (dn (bwOf bs) .box N3) := au3
    refine ⟨k1, f3, _, _, rfl, rfl, s9 _ _ hk1, hf3, ?_, fun k2 nk2 => ?_⟩
    · rw [au12.1, au3.1, List.length_append]
      exact line_of (by omega)
    have s10 := Same.new (o := .lst (u1 ++ u2 ++ u3)) nk2
    have au13 := AskAt.same (Ea.app (AskAt.same au12 s9) au3) s10
    have hk2 : (upd H9 k2 (.lst (u1 ++ u2 ++ u3))) k2 = some (.lst (u1 ++ u2 ++ u3)) := upd_same
    have s5a := (s58.trans s9).trans s10
    generalize (upd H9 k2 (.lst (u1 ++ u2 ++ u3))) = Ha at s10 au13 hk2 s5a
    refine ⟨_, rfl, p4, _, 1, _, rfl, rfl, SqT.of (s5a _ _ hp4), rfl, _, rfl, .door, y4, dq, N4, _, rfl, s5a _ _ hy4, hdo5.same s5a, fd N4w, by omega, fun r Hb sb ⟨f4, u4, er, _, hf4, au4⟩ => ?_⟩
    subst er
    have au4 : AskAt Hb u4 (dn (bwOf ds) .door N4) := au4
    refine ⟨k2, f4, _, _, rfl, rfl, sb _ _ hk2, hf4, ?_, fun k3 nk3 => ?_⟩
    · rw [au13.1, au4.1, List.length_append, List.length_append]
      exact line_of (by omega)
    have sc := Same.new (o := .lst (u1 ++ u2 ++ u3 ++ u4)) nk3
    have au14 := AskAt.same (Ea.app (AskAt.same au13 sb) au4) sc
    have hk3 : (upd Hb k3 (.lst (u1 ++ u2 ++ u3 ++ u4))) k3 = some (.lst (u1 ++ u2 ++ u3 ++ u4)) := upd_same
    have s5c := (s5a.trans sb).trans sc
    generalize (upd Hb k3 (.lst (u1 ++ u2 ++ u3 ++ u4))) = Hc at sc au14 hk3 s5c
    -- the last two
    have s3c := s45.trans s5c
    have s2c := s3.trans s3c
    refine ⟨_, rfl, _, rfl, p1, _, 1, _, rfl, rfl, SqT.of (s2c _ _ hp1), rfl, _, rfl, .one, b1, di, L1, _, rfl, s2c _ _ hb1, hdi5.same s5c, fb la1, by omega, fun r Hd sd ⟨f5, u5, er, _, hf5, au5⟩ => ?_⟩
    subst er
    have au5 : AskAt Hd u5 (dn (bwOf bs) .one L1) := au5
    refine ⟨k3, f5, _, _, rfl, rfl, sd _ _ hk3, hf5, ?_, fun k4 nk4 => ?_⟩
    · rw [au14.1, au5.1, List.length_append, List.length_append, List.length_append]
      exact line_of (by omega)
    have se := Same.new (o := .lst (u1 ++ u2 ++ u3 ++ u4 ++ u5)) nk4
    have au15 := AskAt.same (Ea.app (AskAt.same au14 sd) au5) se
    have hk4 : (upd Hd k4 (.lst (u1 ++ u2 ++ u3 ++ u4 ++ u5))) k4 = some (.lst (u1 ++ u2 ++ u3 ++ u4 ++ u5)) := upd_same
    have s5e := (s5c.trans sd).trans se
    generalize (upd Hd k4 (.lst (u1 ++ u2 ++ u3 ++ u4 ++ u5))) = He_ at se au15 hk4 s5e
    have s3e := s45.trans s5e
    refine ⟨_, rfl, p2, _, 1, _, rfl, rfl, SqT.of (s3e _ _ hp2), rfl, _, rfl, .other, b2, di, L2_, _, rfl, s3e _ _ hb2, hdi5.same s5e, fb la2, by omega, fun r Hf sf ⟨f6, u6, er, _, hf6, au6⟩ => ?_⟩
    subst er
    have au6 : AskAt Hf u6 (dn (bwOf bs) .other L2_) := au6
    refine ⟨k4, f6, _, _, rfl, rfl, sf _ _ hk4, hf6, ?_, fun k5 nk5 => ?_⟩
    · rw [au15.1, au6.1, List.length_append, List.length_append, List.length_append, List.length_append]
      exact line_of (by omega)
    have sg := Same.new (o := .lst (u1 ++ u2 ++ u3 ++ u4 ++ u5 ++ u6)) nk5
    have au16 := AskAt.same (Ea.app (AskAt.same au15 sf) au6) sg
    have s0g := ((s1.trans s05).trans s5e).trans sf
    refine q _ _ (s0g.trans sg) ⟨k5, _, six (bwOf bs) (bwOf ds) S3 S4_ N3 N4 L1 L2_, rfl, s0g.free nk5, upd_same, ?_, ⟨S3, S4_, N3, N4, L1, L2_, ⟨sS3, sS4, sN3, sN4, sL1, sL2, ?_, ?_, ?_, ?_, mL1, mL2⟩, rfl⟩, ?_⟩
    · have e : six (bwOf bs) (bwOf ds) S3 S4_ N3 N4 L1 L2_ = dn (bwOf bs) .box S3 ++ dn (bwOf ds) .door S4_ ++ dn (bwOf bs) .box N3 ++ dn (bwOf ds) .door N4 ++ dn (bwOf bs) .one L1 ++ dn (bwOf bs) .other L2_ := by
        unfold six
        simp only [List.append_assoc]
      rw [e]
      exact au16
    · exact fun n => (mS3 n).trans (and_congr (mE1 n) (mE2 n))
    · exact fun n => (mS4 n).trans (and_congr (mD1 n) (mD2 n))
    · exact fun n => (mN3 n).trans (and_congr (or_congr (mE1 n) (mE2 n)) (not_congr (and_congr (mE1 n) (mE2 n))))
    · exact fun n => (mN4 n).trans (and_congr (or_congr (mD1 n) (mD2 n)) (not_congr (and_congr (mD1 n) (mD2 n))))
    · unfold six
      simp only [List.length_append]
      omega
end
end K24

set_option Elab.async false
set_option linter.all false
set_option maxRecDepth 100000
set_option maxHeartbeats 4000000
/-! Papers: what a beginning of the row tells; the next beginning. -/
namespace K24
open PySem PySem.Spec PyProof.Rows L2
/-! ### the four dicts -/
structure HKn (H0 H : Hp) (d : S4 → Addr) (ad : S4 → Str → Option Addr) (l : List (Ask × Nat)) : Prop where
  dict : ∀ s, H0 (d s) = none ∧ ∃ kvs : List (Key × V), H (d s) = some (.dK kvs) ∧ kvs.length ≤ l.length ∧ (∀ n, valV kvs (.inr n) = (ad s n).map V.ref) ∧ ∀ e ∈ kvs, ∃ n a, e = (Sum.inr n, V.ref a) ∧ ad s n = some a
  lists : ∀ s n a, ad s n = some a → H0 a = none ∧ H a = some (.lst (vs (col s n l)))
  inj : ∀ s n s' n' a, ad s n = some a → ad s' n' = some a → s = s' ∧ n = n'
  has : ∀ s n, ad s n = none → col s n l = []
theorem HKn.same {H0 H H' : Hp} {d : S4 → Addr} {ad : S4 → Str → Option Addr} {l : List (Ask × Nat)} (h : HKn H0 H d ad l) (s : Same H H') : HKn H0 H' d ad l :=
  ⟨fun x => let ⟨h0, kvs, h1, h2⟩ := h.dict x; ⟨h0, kvs, s _ _ h1, h2⟩, fun x n a e => ⟨(h.lists x n a e).1, s _ _ (h.lists x n a e).2⟩, h.inj, h.has⟩
theorem col_len (s : S4) (n : Str) (l : List (Ask × Nat)) : (col s n l).length ≤ l.length := by
  unfold col
  rw [List.length_reverse, List.length_map]
  exact List.length_filter_le _ _
theorem key_iff {s s' : S4} {n n' : Str} {k : Nat} : key s n (s', n', k) = true ↔ s' = s ∧ n' = n := by
  show (decide (s' = s) && decide (n' = n)) = true ↔ _
  rw [Bool.and_eq_true, decide_eq_true_eq, decide_eq_true_eq]
theorem putK_new {kvs : List (Key × V)} {k : Key} {v : V} (h : valV kvs k = none) : putK kvs k v = kvs ++ [(k, v)] := by
  unfold putK
  rw [valV_any, h]
  rfl
/-- the one list of a name that is there -/
theorem HKn.old {H0 H : Hp} {d : S4 → Addr} {ad : S4 → Str → Option Addr} {l : List (Ask × Nat)} (h : HKn H0 H d ad l) {s : S4} {n : Str} {k m : Nat} {a : Addr} (ha : ad s n = some a) :
    HKn H0 (upd H a (.lst ([vN m] ++ vs (col s n l)))) d ad (l ++ [((s, n, k), m)]) := by
  refine ⟨fun x => ?_, fun s' n' a' e => ?_, h.inj, fun s' n' e => ?_⟩
  · obtain ⟨h0, kvs, h1, h2, h3⟩ := h.dict x
    refine ⟨h0, kvs, keepU (Same.refl H) (h.lists s n a ha).2 h1 nofun, ?_, h3⟩
    rw [List.length_append]
    omega
  · refine ⟨(h.lists s' n' a' e).1, ?_⟩
    rw [col_snoc]
    by_cases q : s = s' ∧ n = n'
    · obtain ⟨rfl, rfl⟩ := q
      rw [if_pos (key_iff.mpr ⟨rfl, rfl⟩)]
      have : a' = a := by
        rw [ha] at e
        exact (Option.some.inj e).symm
      subst this
      exact upd_same
    · rw [if_neg fun z => q (key_iff.mp z)]
      have : a' ≠ a := fun z => by
        subst z
        exact q (h.inj _ _ _ _ _ ha e)
      rw [upd_ne this]
      exact (h.lists s' n' a' e).2
  · rw [col_snoc, if_neg, h.has s' n' e]
    intro z
    obtain ⟨rfl, rfl⟩ := key_iff.mp z
    rw [ha] at e
    cases e
/-- a name's first list: z -/
theorem HKn.new {H0 H H1 : Hp} {d : S4 → Addr} {ad : S4 → Str → Option Addr} {l : List (Ask × Nat)} (h : HKn H0 H d ad l) (dj : ∀ x y, d x = d y → x = y) {s : S4} {n : Str} {k m : Nat} {z : Addr} {kvs : List (Key × V)} (s1 : Same H H1) (hz : H z = none) (hz0 : H0 z = none) (ha : ad s n = none)
    (hk : H (d s) = some (.dK kvs)) : HKn H0 (upd (upd H1 (d s) (.dK (putK kvs (.inr n) (.ref z)))) z (.lst [vN m])) d (fun s' n' => if s' = s ∧ n' = n then some z else ad s' n') (l ++ [((s, n, k), m)]) := by
  have dz : ∀ x, d x ≠ z := fun x e => by
    obtain ⟨_, kv, h1, _⟩ := h.dict x
    rw [e, hz] at h1
    cases h1
  have az : ∀ s' n' a', ad s' n' = some a' → a' ≠ z := fun s' n' a' e e2 => by
    have := (h.lists s' n' a' e).2
    rw [e2, hz] at this
    cases this
  refine ⟨fun x => ?_, fun s' n' a' e => ?_, fun s1 n1 s2 n2 a e1 e2 => ?_, fun s' n' e => ?_⟩
  · obtain ⟨h0, kv, h1, h2, h3, h4⟩ := h.dict x
    refine ⟨h0, ?_⟩
    by_cases e : x = s
    · subst e
      rw [hk] at h1
      cases h1
      refine ⟨_, by rw [upd_ne (dz x), upd_same], ?_, fun n' => ?_, fun e he => ?_⟩
      · have := length_putK kvs (Sum.inr n : Key) (V.ref z)
        rw [List.length_append]
        show _ ≤ l.length + 1
        omega
      · rw [valV_inr, h3]
        by_cases q : n' = n
        · rw [if_pos q, if_pos ⟨rfl, q⟩]
          rfl
        · rw [if_neg q, if_neg fun z => q z.2]
      · rw [putK_new (by rw [h3, ha]; rfl)] at he
        rcases List.mem_append.mp he with he | he
        · obtain ⟨n', a', e1, e2⟩ := h4 e he
          refine ⟨n', a', e1, ?_⟩
          rw [if_neg fun z => ?_]
          · exact e2
          · rw [z.2, ha] at e2
            cases e2
        · rw [List.mem_singleton.mp he]
          exact ⟨n, z, rfl, if_pos ⟨rfl, rfl⟩⟩
    · refine ⟨kv, ?_, by rw [List.length_append]; omega, fun n' => ?_, fun e2 he => ?_⟩
      · rw [upd_ne (dz x), upd_ne fun q => e (dj _ _ q)]
        exact s1 _ _ h1
      · rw [if_neg fun q => e q.1]
        exact h3 n'
      · obtain ⟨n', a', e1, e3⟩ := h4 e2 he
        exact ⟨n', a', e1, by rw [if_neg fun q => e q.1]; exact e3⟩
  · by_cases q : s' = s ∧ n' = n
    · rw [if_pos q] at e
      cases e
      obtain ⟨rfl, rfl⟩ := q
      refine ⟨hz0, ?_⟩
      rw [upd_same, col_snoc, if_pos (key_iff.mpr ⟨rfl, rfl⟩), h.has _ _ ha]
      rfl
    · rw [if_neg q] at e
      obtain ⟨h0, h1⟩ := h.lists s' n' a' e
      refine ⟨h0, ?_⟩
      rw [upd_ne (az _ _ _ e), col_snoc, if_neg fun z => q ⟨(key_iff.mp z).1.symm, (key_iff.mp z).2.symm⟩]
      exact keepU s1 hk h1 nofun
  · by_cases q1 : s1 = s ∧ n1 = n
    · rw [if_pos q1] at e1
      cases e1
      by_cases q2 : s2 = s ∧ n2 = n
      · exact ⟨q1.1.trans q2.1.symm, q1.2.trans q2.2.symm⟩
      · rw [if_neg q2] at e2
        exact absurd rfl (az _ _ _ e2)
    · rw [if_neg q1] at e1
      by_cases q2 : s2 = s ∧ n2 = n
      · rw [if_pos q2] at e2
        cases e2
        exact absurd rfl (az _ _ _ e1)
      · rw [if_neg q2] at e2
        exact h.inj _ _ _ _ _ e1 e2
  · by_cases q : s' = s ∧ n' = n
    · rw [if_pos q] at e
      cases e
    · rw [if_neg q] at e
      rw [col_snoc, if_neg fun z => q ⟨(key_iff.mp z).1.symm, (key_iff.mp z).2.symm⟩, h.has _ _ e]
/-- the dict of the four dicts -/
def Four (H : Hp) (p : Addr) (d : S4 → Addr) : Prop := ∃ kvs : List (Key × V), H p = some (.dK kvs) ∧ ∀ s, valV kvs (.inr (s4S s)) = some (.ref (d s))
theorem Four.at {H : Hp} {p : Addr} {d : S4 → Addr} (h : Four H p d) (s : S4) : DGet H p (.str (s4S s)) (some (.ref (d s))) := by
  obtain ⟨kvs, h1, h2⟩ := h
  have g := DGet.k (k := Sum.inr (s4S s)) h1
  rw [h2 s] at g
  exact g
theorem Four.same {H H' : Hp} {p : Addr} {d : S4 → Addr} (h : Four H p d) (s : Same H H') : Four H' p d := let ⟨kvs, h1, h2⟩ := h; ⟨kvs, s _ _ h1, h2⟩
def four (a b c e : Addr) : S4 → Addr
  | .box => a
  | .door => b
  | .one => c
  | .other => e
theorem four_val (a b c e : Addr) (s : S4) : valV (mergeK [] [(Sum.inr "box", V.ref a), (Sum.inr "door", V.ref b), (Sum.inr "one", V.ref c), (Sum.inr "other", V.ref e)]) (.inr (s4S s)) = some (.ref (four a b c e s)) := by
  show valV (putK (putK (putK (putK [] (Sum.inr "box" : Key) (V.ref a)) (Sum.inr "door") (V.ref b)) (Sum.inr "one") (V.ref c)) (Sum.inr "other") (V.ref e)) (.inr (s4S s)) = _
  rw [valV_inr, valV_inr, valV_inr, valV_inr]
  cases s with
  | box => rw [if_neg (by decide +kernel), if_neg (by decide +kernel), if_neg (by decide +kernel), if_pos (by rfl)]; rfl
  | door => rw [if_neg (by decide +kernel), if_neg (by decide +kernel), if_pos (by rfl)]; rfl
  | one => rw [if_neg (by decide +kernel), if_pos (by rfl)]; rfl
  | other => rw [if_pos (by rfl)]; rfl
section
variable {P : Program} {w : World} {K : PySem.W.Frag} {mg : Str → Option Value} {base : Heap}
def sp_half_known : Sp := fun vs_ H Q _ => ∃ (a m : Addr) (us : List V) (ask : List Ask) (ms : List Nat), vs_ = [.ref a, .ref m] ∧ H a = some (.lst us) ∧ AskAt H us ask ∧ H m = some (.lst (vs ms)) ∧ ask.length ≤ 6000 ∧ ms.length ≤ 6000 ∧
  Ret H Q fun r H' => ∃ p d ad, r = .ref p ∧ Four H' p d ∧ HKn H H' d ad (zm ask (mk2 ms))
theorem ok_half_known (T : Txt K mg) : Ok P w K mg base "half_known" ["asked", "marks"] 1 sp_half_known := by
  refine T.d_half_known.ok sc_half_known (fun vs H Q E h => ?_) (fun cdv A outer s H vs_ Q E hr h => ?_)
  · obtain ⟨a, m, us, ask, ms, rfl, _⟩ := h
    rfl
  · obtain ⟨a, m, us, ask, ms, rfl, ha, hau, hm, la, lm, q⟩ := h
    refine ⟨_, (pss_cons (ps_set (i := 2) sc_half_known.nd rfl (Or.inl rfl) (pe_disp (pps_cons pe_str pe_dnewK (pps_cons pe_str pe_dnewK (pps_cons pe_str pe_dnewK (pps_cons pe_str pe_dnewK pps_nil)))) (by rfl) (by rfl) (fun z => by cases z) (by decide)))
      (pss_cons (ps_for PassesOwn.never (by rfl) (pi_range1 (by rfl) T.z_range (pa_cons (pe_callB (r := rLn K) call_len_seq (by rfl) T.z_len PySem.boot_len (pa_cons (pv 0) pa_nil)) pa_nil)) (pg_name (i := 3) sc_half_known.nd rfl (Or.inl rfl)) (pss_cons (ps_asg (pe_ix (r := rIxL K) ix_list (pv 0) (pv 3) (fun _ _ => rfl)) (pg_tup (by rfl) (pgs_cons (pg_name (i := 4) sc_half_known.nd rfl (Or.inl rfl)) (pgs_cons (pg_name (i := 5) sc_half_known.nd rfl (Or.inl rfl)) (pgs_cons (pg_name (i := 6) sc_half_known.nd rfl (Or.inl rfl)) pgs_nil)))))
      (pss_cons (ps_set (i := 7) sc_half_known.nd rfl (Or.inl rfl) pe_int)
      (pss_cons (ps_if (pt_cmpR op_lt (pv 3) (pe_callB (r := rLn K) call_len_seq (by rfl) T.z_len PySem.boot_len (pa_cons (pv 1) pa_nil)) (nomark _)) (pss_one (ps_set (i := 7) sc_half_known.nd rfl (Or.inl rfl) (pe_ix (r := rIxL K) ix_list (pv 1) (pv 3) (fun _ _ => rfl)))) pss_nil)
      (pss_one (ps_expr (pe_bm PySem.F.plainAttrs_list PySem.F.slot_list_insert PySem.F.type_list_insert mt_insert (pe_dsetd (pe_dget (hu_of hr) (pv 2) (pv 4) (fun _ _ => rfl)) (pv 5) (pe_lst pa_nil) ⟨rfl, rfl, rfl, rfl⟩) (pa_cons pe_int (pa_cons (pv 7) pa_nil)))))))))
      (pss_one (ps_ret (pv 2))))), ?_⟩
    intro p np q1 n1 q2 n2 q3 n3 q4 n4
    have u1 := Same.new (o := .dK []) np
    have u2 := u1.newT (o := .dK []) n1
    have u3 := u2.newT (o := .dK []) n2
    have u4 := u3.newT (o := .dK []) n3
    have u5 := u4.newT (o := .dK []) n4
    have f1 := u1.free n1
    have f2 := u2.free n2
    have f3 := u3.free n3
    have f4 := u4.free n4
    have g1 : (upd H p (.dK [])) p = some (.dK []) := upd_same
    have v2 := Same.new (H := upd H p (.dK [])) (o := .dK []) n1
    have v3 := v2.newT (o := .dK []) n2
    have v4 := v3.newT (o := .dK []) n3
    have v5 := v4.newT (o := .dK []) n4
    have e1 : (upd (upd H p (.dK [])) q1 (.dK [])) q1 = some (.dK []) := upd_same
    have w3 := Same.new (H := upd (upd H p (.dK [])) q1 (.dK [])) (o := .dK []) n2
    have w4 := w3.newT (o := .dK []) n3
    have w5 := w4.newT (o := .dK []) n4
    have x4 := Same.new (H := upd (upd (upd H p (.dK [])) q1 (.dK [])) q2 (.dK [])) (o := .dK []) n3
    have x5 := x4.newT (o := .dK []) n4
    have y5 := Same.new (H := upd (upd (upd (upd H p (.dK [])) q1 (.dK [])) q2 (.dK [])) q3 (.dK [])) (o := .dK []) n4
    have d1 := w5 _ _ e1
    have d2 := x5 _ _ (upd_same (H := upd (upd H p (.dK [])) q1 (.dK [])) (a := q2) (o := .dK []))
    have d3 := y5 _ _ (upd_same (H := upd (upd (upd H p (.dK [])) q1 (.dK [])) q2 (.dK [])) (a := q3) (o := .dK []))
    have d4 := upd_same (H := upd (upd (upd (upd H p (.dK [])) q1 (.dK [])) q2 (.dK [])) q3 (.dK [])) (a := q4) (o := .dK [])
    have d0 := v5 _ _ g1
    have p1 : q1 ≠ p := fun z => by rw [z] at n1; rw [g1] at n1; cases n1
    have p2 : q2 ≠ p := fun z => by rw [z] at n2; rw [v2 _ _ g1] at n2; cases n2
    have p3 : q3 ≠ p := fun z => by rw [z] at n3; rw [v3 _ _ g1] at n3; cases n3
    have p4 : q4 ≠ p := fun z => by rw [z] at n4; rw [v4 _ _ g1] at n4; cases n4
    have a2 : q2 ≠ q1 := fun z => by rw [z] at n2; rw [e1] at n2; cases n2
    have a3 : q3 ≠ q1 := fun z => by rw [z] at n3; rw [w3 _ _ e1] at n3; cases n3
    have a4 : q4 ≠ q1 := fun z => by rw [z] at n4; rw [w4 _ _ e1] at n4; cases n4
    have b3 : q3 ≠ q2 := fun z => by rw [z] at n3; rw [upd_same] at n3; cases n3
    have b4 : q4 ≠ q2 := fun z => by rw [z] at n4; rw [x4 _ _ upd_same] at n4; cases n4
    have c4 : q4 ≠ q3 := fun z => by rw [z] at n4; rw [upd_same] at n4; cases n4
    generalize (upd (upd (upd (upd (upd H p (.dK [])) q1 (.dK [])) q2 (.dK [])) q3 (.dK [])) q4 (.dK [])) = H5 at u5 d0 d1 d2 d3 d4
    refine ⟨d0, [(Sum.inr "box", V.ref q1), (Sum.inr "door", V.ref q2), (Sum.inr "one", V.ref q3), (Sum.inr "other", V.ref q4)], rfl, (by show 4 ≤ 15; decide), ?_⟩
    generalize eM : mergeK [] [(Sum.inr "box", V.ref q1), (Sum.inr "door", V.ref q2), (Sum.inr "one", V.ref q3), (Sum.inr "other", V.ref q4)] = kM
    have s6 : Same H (upd H5 p (.dK kM)) := u5.mut np
    have hp6 : (upd H5 p (.dK kM)) p = some (.dK kM) := upd_same
    have hD : ∀ s, (upd H5 p (.dK kM)) (four q1 q2 q3 q4 s) = some (.dK []) ∧ H (four q1 q2 q3 q4 s) = none := fun s => by
      cases s with
      | box => exact ⟨by show (upd H5 p (.dK kM)) q1 = _; rw [upd_ne p1]; exact d1, f1⟩
      | door => exact ⟨by show (upd H5 p (.dK kM)) q2 = _; rw [upd_ne p2]; exact d2, f2⟩
      | one => exact ⟨by show (upd H5 p (.dK kM)) q3 = _; rw [upd_ne p3]; exact d3, f3⟩
      | other => exact ⟨by show (upd H5 p (.dK kM)) q4 = _; rw [upd_ne p4]; exact d4, f4⟩
    have dj : ∀ x y, four q1 q2 q3 q4 x = four q1 q2 q3 q4 y → x = y := fun x y e => by
      cases x <;> cases y <;> first | rfl | exact absurd e a2 | exact absurd e a2.symm | exact absurd e a3 | exact absurd e a3.symm | exact absurd e a4 | exact absurd e a4.symm | exact absurd e b3 | exact absurd e b3.symm | exact absurd e b4 | exact absurd e b4.symm | exact absurd e c4 | exact absurd e c4.symm
    have pd : ∀ s, four q1 q2 q3 q4 s ≠ p := fun s => by
      cases s with
      | box => exact p1
      | door => exact p2
      | one => exact p3
      | other => exact p4
    have fv : ∀ s, valV kM (.inr (s4S s)) = some (.ref (four q1 q2 q3 q4 s)) := fun s => by
      rw [← eM]
      exact four_val _ _ _ _ s
    generalize four q1 q2 q3 q4 = d at hD dj pd fv
    generalize (upd H5 p (.dK kM)) = H6 at s6 hp6 hD
    have h0 : HKn H H6 d (fun _ _ => none) [] := ⟨fun s => ⟨(hD s).2, [], (hD s).1, Nat.le_refl _, fun _ => rfl, nofun⟩, nofun, nofun, fun _ _ _ => rfl⟩
    have zl := zm_len ask (mk2 ms)
    refine ⟨_, rfl, a, _, rfl, .inl (SqL.of (s6 _ _ ha)), _, rfl, by omega, by rw [hau.1]; omega, for_range (lo := 0) (fun i σ H' => ∃ x3 x4 x5 x6 x7, σ = [some (.ref a), some (.ref m), some (.ref p), x3, x4, x5, x6, x7] ∧ Same H H' ∧ H' p = some (.dK kM) ∧ ∃ ad, HKn H H' d ad ((zm ask (mk2 ms)).take i)) ⟨none, none, none, none, none, rfl, s6, hp6, _, h0⟩ ?_ ?_⟩
    · rintro i σ H' hi ⟨x3, x4, x5, x6, x7, rfl, s1, hp, ad, hk⟩
      have hi : i < ask.length := by
        have := hau.1
        omega
      have ea : ask[i]? = some ask[i] := List.getElem?_eq_getElem hi
      obtain ⟨u, eu, t, rfl, ht⟩ := Ea.get' hau ea
      rw [zm_take ea]
      generalize ask[i] = en at ea ht
      obtain ⟨s', n, k⟩ := en
      have ei : (0 : Int) + (i : Int) = ((i : Nat) : Int) := by omega
      rw [ei]
      refine ⟨_, rfl, _, rfl, a, _, i, .ref t, rfl, rfl, SqL.of (s1 _ _ ha), atI_nat eu, t, _, rfl, SqT.of (s1 _ _ ht), rfl, _, _, rfl, _, _, rfl, _, _, rfl, rfl, ?_⟩
      -- the mark
      have rest : ∀ (mk : Nat), mk = mk2 ms i → (tDrop (tBM K "list" (fun x vs H Q => ∃ (l : Addr) (xs : List V) (i : Int) (y : V), x = .ref l ∧ vs = [.int i, y] ∧ H l = some (.lst xs) ∧ xs.length < sizeLine ∧ 0 ≤ i ∧ i < 2 ^ 63 ∧ Q .non (upd H l (.lst (xs.take i.toNat ++ [y] ++ xs.drop i.toNat))))
          (tDSetd (tDGet (tVar 2) (tVar 4)) (tVar 5) (tLst tNil)) (tCons (tC (.int 0)) (tCons (tVar 7) tNil))))
          { nx := fun σ H' => ∃ x3 x4 x5 x6 x7, σ = [some (.ref a), some (.ref m), some (.ref p), x3, x4, x5, x6, x7] ∧ Same H H' ∧ H' p = some (.dK kM) ∧ ∃ ad, HKn H H' d ad ((zm ask (mk2 ms)).take i ++ [((s', n, k), mk2 ms i)]), rt := Q }
          [some (.ref a), some (.ref m), some (.ref p), some (vN i), some (.str (s4S s')), some (.str n), some (vN k), some (vN mk)] H' := by
        intro mk emk
        have hf : Four H' p d := ⟨kM, hp, fv⟩
        obtain ⟨h00, kvs, hkd, hkl, hkv, hke⟩ := hk.dict s'
        have l6 : ((zm ask (mk2 ms)).take i).length ≤ 6000 := by
          rw [List.length_take]
          omega
        refine ⟨_, rfl, _, rfl, p, _, rfl, hf.at s', d s', rfl, .inl ⟨kvs, .inl hkd⟩, _, rfl, Nat.zero_le _, fun z nz => ?_⟩
        have sz1 := Same.new (o := .lst []) nz
        refine ⟨kvs, .inr n, sz1 _ _ hkd, rfl, line_lt (by omega), fun v hv => ?_, fun hv => ?_⟩
        · rw [hkv] at hv
          obtain ⟨a', ea', rfl⟩ := Option.map_eq_some_iff.mp hv
          have hk1 := hk.same sz1
          obtain ⟨f0, hl⟩ := hk1.lists s' n a' ea'
          refine ⟨.inl ⟨rfl, _, SqL.of hl⟩, _, rfl, a', _, 0, _, rfl, rfl, hl, ?_, by decide, by decide, ?_⟩
          · rw [List.length_map]
            have := col_len s' n ((zm ask (mk2 ms)).take i)
            exact line_lt (by omega)
          · refine ⟨_, _, _, _, _, rfl, (s1.trans sz1).mut f0, ?_, ad, ?_⟩
            · exact keepU (Same.refl _) hl (sz1 _ _ hp) nofun
            · rw [← emk]
              exact hk1.old ea'
        · rw [hkv] at hv
          have ha0 : ad s' n = none := Option.map_eq_none_iff.mp hv
          have dz : z ≠ d s' := fun e => by
            rw [e, hkd] at nz
            cases nz
          have hl : (upd (upd H' z (.lst [])) (d s') (.dK (putK kvs (.inr n) (.ref z)))) z = some (.lst []) := by
            rw [upd_ne dz, upd_same]
          refine ⟨.inl ⟨rfl, _, SqL.of hl⟩, _, rfl, z, _, 0, _, rfl, rfl, hl, by decide, by decide, by decide, ?_⟩
          have nz0 := s1.free nz
          refine ⟨_, _, _, _, _, rfl, ((s1.trans sz1).mut h00).mut nz0, ?_, (fun s1 n1 => if s1 = s' ∧ n1 = n then some z else ad s1 n1), ?_⟩
          · have pz : p ≠ z := fun e => by
              rw [e, nz] at hp
              cases hp
            rw [upd_ne pz, upd_ne (Ne.symm (pd s')), upd_ne pz]
            exact hp
          · rw [← emk]
            exact hk.new dj sz1 nz nz0 ha0 hkd
      refine ⟨_, rfl, _, rfl, m, _, rfl, .inl (SqL.of (s1 _ _ hm)), _, _, rfl, rfl, _, rfl, ?_⟩
      rw [List.length_map]
      by_cases hlt : i < ms.length
      · rw [decide_eq_true (show ((i : Int) < (ms.length : Int)) by omega)]
        have em : ms[i]? = some ms[i] := List.getElem?_eq_getElem hlt
        refine iteT ⟨_, rfl, _, rfl, m, _, i, vN ms[i], rfl, rfl, SqL.of (s1 _ _ hm), atI_nat (vs_get em), ?_⟩
        refine rest ms[i] ?_
        unfold mk2
        rw [em]
        rfl
      · rw [decide_eq_false (show ¬ ((i : Int) < (ms.length : Int)) by omega)]
        refine iteF (rest 2 ?_)
        unfold mk2
        rw [List.getElem?_eq_none (by omega)]
        rfl
    · rintro σ H' ⟨x3, x4, x5, x6, x7, rfl, s1, hp, ad, hk⟩
      have e : (zm ask (mk2 ms)).take (us.length : Int).toNat = zm ask (mk2 ms) := by
        rw [hau.1, Int.toNat_natCast]
        exact zm_all ask (mk2 ms)
      rw [e] at hk
      exact ⟨_, rfl, q _ _ s1 ⟨p, d, ad, rfl, ⟨kM, hp, fv⟩, hk⟩⟩
end
end K24

set_option Elab.async false
set_option linter.all false
set_option maxRecDepth 100000
set_option maxHeartbeats 4000000
/-! Papers: behind a cube; filled words. -/
namespace K24
open PySem PySem.Spec PyProof.Rows L2
/-! ### lists of marks as data -/
def mD (ms : List Nat) : PyData := .list ((ms.map fun n : Nat => (n : Int)).map PyData.int)
theorem eqv_ints : ∀ a b : List Nat, PyData.eqvAll ((a.map fun n : Nat => (n : Int)).map PyData.int) ((b.map fun n : Nat => (n : Int)).map PyData.int) = decide (a = b)
  | [], [] => rfl
  | [], _ :: _ => rfl
  | _ :: _, [] => rfl
  | x :: a, y :: b => by
    show (((x : Int) == (y : Int)) && PyData.eqvAll ((a.map fun n : Nat => (n : Int)).map PyData.int) ((b.map fun n : Nat => (n : Int)).map PyData.int)) = _
    rw [eqv_ints a b]
    by_cases e : x = y
    · subst e
      rw [beq_self_eq_true, Bool.true_and]
      exact decide_eq_decide.mpr ⟨fun h => by rw [h], fun h => (List.cons.inj h).2⟩
    · rw [beq_eq_false_iff_ne.mpr (by omega), Bool.false_and, decide_eq_false fun h => e (List.cons.inj h).1]
theorem mD_eqv (a b : List Nat) : PyData.eqv (mD a) (mD b) = decide (a = b) := by
  unfold mD
  rw [PyData.eqv]
  exact eqv_ints a b
theorem mD_shaped (a : List Nat) : SeqAt.shaped (mD a) = true := by
  unfold SeqAt.shaped mD
  rw [PyData.canLay0, PyProof.Rows.canLayAll_ints, PyData.depth, PySem.W.depth_ints]
  rfl
theorem dpA_ints {K : PySem.W.Frag} {H : Hp} : ∀ ms : List Nat, DpAll K H (vs ms) ((ms.map fun n : Nat => (n : Int)).map PyData.int)
  | [] => .nil
  | m :: ms => .cons (.int _) (dpA_ints ms)
theorem dp_mD {K : PySem.W.Frag} {H : Hp} {a : Addr} {ms : List Nat} (h : SqL K H a (vs ms)) : Dp K H (.ref a) (mD ms) := .lst h (dpA_ints ms)
/-- what comes behind a beginning -/
theorem m1_split : ∀ {ms : List Nat}, M1 ms → (∃ k, ms = List.replicate k 1) ∨ ∃ p k, ms = p ++ 0 :: List.replicate k 1
  | [], _ => .inl ⟨0, rfl⟩
  | m :: ms, h => by
    rcases m1_split (ms := ms) fun x hx => h x (List.mem_cons_of_mem _ hx) with ⟨k, e⟩ | ⟨p, k, e⟩
    · have h1 : m ≤ 1 := h m List.mem_cons_self
      obtain rfl | rfl : m = 0 ∨ m = 1 := by omega
      · exact .inr ⟨[], k, by rw [e]; rfl⟩
      · exact .inl ⟨k + 1, by rw [e]; rfl⟩
    · exact .inr ⟨m :: p, k, by rw [e]; rfl⟩
theorem rep_last (k : Nat) : List.replicate (k + 1) (1 : Nat) = List.replicate k 1 ++ [1] := List.replicate_succ'
theorem vs_snoc (ms : List Nat) (m : Nat) : vs (ms ++ [m]) = vs ms ++ [vN m] := List.map_append
section
variable {P : Program} {w : World} {K : PySem.W.Frag} {mg : Str → Option Value} {base : Heap}
def nextM (ms : List Nat) (o : Option (List Nat)) : Prop := (∃ k, ms = List.replicate k 1 ∧ o = none) ∨ ∃ p k, ms = p ++ 0 :: List.replicate k 1 ∧ o = some (p ++ [1])
def sp_behind_cube : Sp := fun vs_ H Q _ => ∃ (a : Addr) (ms : List Nat), vs_ = [.ref a] ∧ H a = some (.lst (vs ms)) ∧ M1 ms ∧ ms.length ≤ 6000 ∧
  Ret H Q fun r H' => (r = .non ∧ nextM ms none) ∨ ∃ p ms', r = .ref p ∧ H p = none ∧ H' p = some (.lst (vs ms')) ∧ nextM ms (some ms')
theorem ok_behind_cube (T : Txt K mg) : Ok P w K mg base "behind_cube" ["marks"] 1 sp_behind_cube := by
  refine T.d_behind_cube.ok sc_behind_cube (fun vs H Q E h => ?_) (fun cdv A outer s H vs_ Q E hr h => ?_)
  · obtain ⟨a, ms, rfl, _⟩ := h
    rfl
  · obtain ⟨a, ms, rfl, ha, m1, lm, q⟩ := h
    refine ⟨_, (pss_cons (ps_set (i := 1) sc_behind_cube.nd rfl (Or.inl rfl) (pe_callTy (r := rLo K) call_list_of (by rfl) T.z_list PyProof.Rows.boot_list (pa_cons (pv 0) pa_nil)))
      (pss_cons (ps_while PassesOwn.never (PW.pt (pw_and (pt_cmpR (r := rNeD K) (op_neD hr.units) (pv 1) (pe_lst pa_nil) (nomark _)) (pw_and1 (pt_cmpR op_eq (pe_ix (r := rIxL K) ix_list (pv 1) (pe_un un_neg pe_int) (fun _ _ => rfl)) pe_int (nomark _))))) (pss_one (ps_expr (pe_bm0 PySem.F.plainAttrs_list PySem.F.slot_list_pop PySem.F.type_list_pop mt_pop (pv 1)))))
      (pss_cons (ps_if (pt_cmpR (r := rEqD K) (op_eqD hr.units) (pv 1) (pe_lst pa_nil) (nomark _)) (pss_one (ps_ret pe_non)) pss_nil)
      (pss_one (ps_ret (pe_op op_cat (pe_slice (r := rSlL K) sl_list (pv 1) po_none (po_some (pe_un un_neg pe_int))) (pe_lst (pa_cons pe_int pa_nil)))))))), ?_⟩
    refine ⟨_, rfl, a, _, rfl, .inl (SqL.of ha), fun L nL => ?_⟩
    have s0 := Same.new (o := .lst (vs ms)) nL
    -- the beginning p stands, then i ones
    have hp : ∃ p k, ms = p ++ List.replicate k 1 ∧ (p = [] ∨ ∃ p', p = p' ++ [0]) := by
      rcases m1_split m1 with ⟨k, e⟩ | ⟨p, k, e⟩
      · exact ⟨[], k, e, .inl rfl⟩
      · exact ⟨p ++ [0], k, by rw [e, List.append_assoc]; rfl, .inr ⟨p, rfl⟩⟩
    obtain ⟨p, k, rfl, hpe⟩ := hp
    refine ⟨fun i σ H' => σ = [some (.ref a), some (.ref L)] ∧ Same H H' ∧ H' L = some (.lst (vs (p ++ List.replicate i 1))), ⟨k, rfl, s0, upd_same⟩, ?_⟩
    rintro i σ H' ⟨rfl, s1, hL⟩
    refine ⟨_, rfl, Nat.zero_le _, fun z nz => ?_⟩
    have s2 := s1.newT (o := .lst []) nz
    have hL2 : (upd H' z (.lst [])) L = some (.lst (vs (p ++ List.replicate i 1))) := Same.new nz _ _ hL
    have hz2 : (upd H' z (.lst [])) z = some (.lst (vs [])) := upd_same
    generalize (upd H' z (.lst [])) = H2 at s2 hL2 hz2
    refine ⟨_, _, dp_mD (SqL.of hL2), dp_mD (SqL.of hz2), mD_shaped _, mD_shaped _, _, rfl, ?_⟩
    rw [mD_eqv]
    cases i with
    | succ i =>
      rw [decide_eq_false (by rw [rep_last, ← List.append_assoc]; exact List.append_ne_nil_of_right_ne_nil _ (by nofun))]
      rw [rep_last, ← List.append_assoc, vs_snoc] at hL2
      refine iteT ⟨_, rfl, _, rfl, L, _, -1, _, rfl, rfl, SqL.of hL2, atI_last _ _, rfl, _, rfl, ?_⟩
      rw [decide_eq_true (by rfl)]
      refine iteT ⟨fun σ H' => σ = [some (.ref a), some (.ref L)] ∧ Same H H' ∧ H' L = some (.lst (vs (p ++ List.replicate i 1))), fun σ H' h => ⟨i, Nat.lt_succ_self i, h⟩, _, rfl, .inl ⟨rfl, _, SqL.of hL2⟩, L, _, vN 1, rfl, rfl, hL2, ?_, rfl, s2.mut nL, ?_⟩
      · rw [List.length_append, List.length_singleton, Nat.add_sub_cancel, List.getElem?_append_right (Nat.le_refl _), Nat.sub_self]
        rfl
      · rw [upd_same, List.dropLast_concat]
    | zero =>
      rw [List.replicate_zero, List.append_nil] at hL2
      rw [List.replicate_zero, List.append_nil]
      -- behind the loop
      have out : ∀ H3, Same H H3 → H3 L = some (.lst (vs p)) → (tSeq (tIfS (tTest (tOp (rEqD K) (tVar 1) (tLst tNil))) (tRet (tC .non)) tNext) (tRet (tOp rCat (tSl (rSlL K) (tVar 1) tNoPart (tPart (tUn (rU fun i => .int (-i)) (tC (.int 1))))) (tLst (tCons (tC (.int 1)) tNil))))) { nx := fun _ H' => Q .non H', rt := Q } [some (.ref a), some (.ref L)] H3 := by
        intro H3 s3 hL3
        refine ⟨_, rfl, Nat.zero_le _, fun y ny => ?_⟩
        have s4 := s3.newT (o := .lst []) ny
        have hL4 : (upd H3 y (.lst [])) L = some (.lst (vs p)) := Same.new ny _ _ hL3
        have hz4 : (upd H3 y (.lst [])) y = some (.lst (vs [])) := upd_same
        generalize (upd H3 y (.lst [])) = H4 at s4 hL4 hz4
        refine ⟨_, _, dp_mD (SqL.of hL4), dp_mD (SqL.of hz4), mD_shaped _, mD_shaped _, _, rfl, ?_⟩
        rw [mD_eqv]
        rcases hpe with rfl | ⟨p', rfl⟩
        · rw [decide_eq_true rfl]
          exact iteT (q _ _ s4 (.inl ⟨rfl, .inl ⟨k, rfl, rfl⟩⟩))
        · rw [decide_eq_false (show ¬ p' ++ [0] = [] from fun h => nomatch (List.append_eq_nil_iff.mp h).2)]
          refine iteF ⟨_, rfl, _, rfl, _, rfl, L, _, rfl, SqL.of hL4, fun b nb => ?_⟩
          have s5 := s4.newT (o := .lst (cutV (vs (p' ++ [0])) none (some (-1)))) nb
          refine ⟨by show 1 ≤ sizeLine; decide, fun c nc => ?_⟩
          have s6 := s5.newT (o := .lst [vN 1]) nc
          have hb : (upd (upd H4 b (.lst (cutV (vs (p' ++ [0])) none (some (-1))))) c (.lst [vN 1])) b = some (.lst (cutV (vs (p' ++ [0])) none (some (-1)))) := Same.new nc _ _ upd_same
          have ec : cutV (vs (p' ++ [0])) none (some (-1)) = vs p' := by
            unfold cutV
            rw [vs_snoc]
            have e1 : HT.sIx (vs p' ++ [vN 0]).length (vs p' ++ [vN 0]).length (some (-1)) = (vs p').length := by
              show (if (-1 : Int) < 0 then ((-1 : Int) + ((vs p' ++ [vN 0]).length : Int)).toNat else min (-1 : Int).toNat (vs p' ++ [vN 0]).length) = _
              rw [if_pos (by decide), List.length_append]
              show ((-1 : Int) + (((vs p').length + 1 : Nat) : Int)).toNat = _
              omega
            rw [e1]
            show ((vs p' ++ [vN 0]).drop 0).take ((vs p').length - 0) = _
            rw [List.drop_zero, Nat.sub_zero, List.take_left']
            rfl
          refine ⟨b, c, _, _, rfl, rfl, hb, upd_same, ?_, fun e ne => ?_⟩
          · rw [ec, List.length_map]
            rw [List.length_append, List.length_append] at lm
            exact line_of (by show p'.length + 1 ≤ 100000; omega)
          · refine q _ _ (s6.newT ne) (.inr ⟨e, p' ++ [1], rfl, s6.free ne, ?_, .inr ⟨p', k, ?_, rfl⟩⟩)
            · rw [upd_same, ec, vs_snoc]
              rfl
            · rw [List.append_assoc]
              rfl
      rcases hpe with rfl | ⟨p', rfl⟩
      · rw [decide_eq_true rfl]
        exact iteF (out _ s2 hL2)
      · rw [decide_eq_false (show ¬ p' ++ [0] = [] from fun h => nomatch (List.append_eq_nil_iff.mp h).2)]
        rw [vs_snoc] at hL2
        refine iteT ⟨_, rfl, _, rfl, L, _, -1, _, rfl, rfl, SqL.of hL2, atI_last _ _, rfl, _, rfl, ?_⟩
        rw [decide_eq_false (by nofun)]
        rw [← vs_snoc] at hL2
        exact iteF (out _ s2 hL2)
end
end K24

set_option Elab.async false
set_option linter.all false
set_option maxRecDepth 100000
set_option maxHeartbeats 4000000
/-! Papers: filled words. -/
namespace K24
open PySem PySem.Spec PyProof.Rows L2
section
variable {P : Program} {w : World} {K : PySem.W.Frag} {mg : Str → Option Value} {base : Heap}
/-- a dict from names to lists of marks, any -/
def AnyLs (H : Hp) (d : Addr) : Prop := ∃ kvs : List (Key × V), H d = some (.dK kvs) ∧ kvs.length ≤ 6000 ∧ ∀ e ∈ kvs, ∃ n a ms, e.1 = Sum.inr n ∧ valV kvs (.inr n) = some (.ref a) ∧ H a = some (.lst (vs ms)) ∧ ms.length ≤ 6000
theorem HKn.any {H0 H : Hp} {d : S4 → Addr} {ad : S4 → Str → Option Addr} {l : List (Ask × Nat)} (h : HKn H0 H d ad l) (hl : l.length ≤ 6000) (s : S4) : AnyLs H (d s) := by
  obtain ⟨_, kvs, h1, h2, h3, h4⟩ := h.dict s
  refine ⟨kvs, h1, by omega, fun e he => ?_⟩
  obtain ⟨n, a, rfl, ha⟩ := h4 e he
  refine ⟨n, a, _, rfl, by rw [h3, ha]; rfl, (h.lists s n a ha).2, ?_⟩
  have := col_len s n l
  omega
theorem AnyLs.same {H H' : Hp} {d : Addr} (h : AnyLs H d) (s : Same H H') : AnyLs H' d := by
  obtain ⟨kvs, h1, h2, h3⟩ := h
  exact ⟨kvs, s _ _ h1, h2, fun e he => let ⟨n, a, ms, q1, q2, q3, q4⟩ := h3 e he; ⟨n, a, ms, q1, q2, s _ _ q3, q4⟩⟩
def sp_filled : Sp := fun vs_ H Q _ => ∃ d : Addr, vs_ = [.ref d] ∧ AnyLs H d ∧ Ret H Q fun r _ => ∃ p, r = .ref p
theorem ok_filled (T : Txt K mg) : Ok P w K mg base "filled" ["dims"] 2 sp_filled := by
  have G_word_of : Ok P w K mg base "word_of" _ 1 _ := ok_word_of T
  refine T.d_filled.ok sc_filled (fun vs H Q E h => ?_) (fun cdv A outer s H vs_ Q E hr h => ?_)
  · obtain ⟨d, rfl, _⟩ := h
    rfl
  · obtain ⟨d, rfl, ⟨kvs, hd, hl, hk⟩, q⟩ := h
    refine ⟨_, (pss_cons (ps_set (i := 1) sc_filled.nd rfl (Or.inl rfl) pe_dnewK)
      (pss_cons (ps_lock (ps_for PassesOwn.never (by rfl) (pi_keys (pv 0)) (pg_name (i := 2) sc_filled.nd rfl (Or.inl rfl)) (pss_one (ps_dput (hu_of hr) (pv 1) (pv 2) (pe_c T.d_word_of G_word_of (hr.mono (by omega)) (by rfl) (pa_cons (pe_lc (own := [("mark", 3)]) (g := gName 3) (by rfl) sc_filled.nd (pi_list (pe_dget (hu_of hr) (pv 0) (pv 2) (fun _ _ => rfl))) (blkOk_by (N := N_filled) (sc := defScope s_filled) (by decide +kernel)) (fun _ _ _ _ _ => pg_name (i := 3) sc_filled.nd rfl (Or.inl rfl)) (fun _ _ _ _ _ => pts_nil) (fun _ _ _ _ _ => (pe_op op_mod (pv 3) pe_int))) pa_nil)) (by rfl)))))
      (pss_one (ps_ret (pv 1))))), ?_⟩
    intro wd nw
    have dw : wd ≠ d := fun z => by
      rw [z, hd] at nw
      cases nw
    have hd1 : (upd H wd (.dK [])) d = some (.dK kvs) := by
      rw [upd_ne (Ne.symm dw)]
      exact hd
    refine ⟨d, _, hd1, trivial, fun od => ?_⟩
    have nb : (upd H d (.frz od (.dK kvs))) wd = none := by
      rw [upd_ne dw]
      exact nw
    have sb : Same (upd H d (.frz od (.dK kvs))) (upd (upd H wd (.dK [])) d (.frz od (.dK kvs))) := fun b u e => by
      by_cases z : b = d
      · subst z
        rw [upd_same] at e ⊢
        exact e
      · rw [upd_ne z] at e ⊢
        rw [upd_ne (ne_of_none e nw)]
        exact e
    have back : ∀ H', Same (upd H d (.frz od (.dK kvs))) H' → Same H (upd H' d (.dK kvs)) := fun H' s b u e => by
      by_cases z : b = d
      · subst z
        rw [upd_same]
        rw [hd] at e
        exact e
      · rw [upd_ne z]
        exact s _ _ (by rw [upd_ne z]; exact e)
    have hB : (upd H d (.frz od (.dK kvs))) d = some (.frz od (.dK kvs)) := upd_same
    have hL : ∀ a xs, H a = some (.lst xs) → (upd H d (.frz od (.dK kvs))) a = some (.lst xs) := fun a xs e => by
      have : a ≠ d := fun z => by
        rw [z, hd] at e
        cases e
      rw [upd_ne this]
      exact e
    have h0w : (upd (upd H wd (.dK [])) d (.frz od (.dK kvs))) wd = some (.dK []) := by
      rw [upd_ne dw, upd_same]
    generalize (upd H d (.frz od (.dK kvs))) = B at nb sb back hB hL
    generalize (upd (upd H wd (.dK [])) d (.frz od (.dK kvs))) = H1 at sb h0w
    refine ⟨_, rfl, d, od, rfl, .inl ⟨kvs, sb _ _ hB, for_it walk_keys (fun i σ H' => ∃ x, σ = [some (.ref d), some (.ref wd), x, none] ∧ Same B H' ∧ ∃ ns : List Str, ns.length = i ∧ Tk H' wd ns) ⟨none, rfl, sb, [], rfl, Tk.nil h0w⟩ (fun i σ H' _ ⟨_, _, s1, _⟩ => s1 _ _ hB) ?_ ?_⟩⟩
    · rintro i v σ H' H2 hi ⟨x, rfl, s1, ns, ln, tk⟩ ⟨rfl, k, v0, ek, rfl⟩
      obtain ⟨n, a, ms, e1, e2, e3, lm⟩ := hk _ (List.mem_of_getElem? ek)
      obtain rfl : k = Sum.inr n := e1
      have ha := s1 _ _ (hL _ _ e3)
      refine ⟨_, rfl, _, rfl, d, .ref a, rfl, .inl ⟨kvs, .inr n, .inr ⟨od, s1 _ _ hB⟩, rfl, e2.symm⟩, a, rfl, ⟨_, SqL.of ha⟩, fun L nL => lc_list (K := K) (a := a) (xs := vs ms) (fun j H3 => Same H2 H3 ∧ ∃ js : List Int, js.length = j ∧ H3 L = some (.lst (js.map V.int))) ⟨Same.new nL, [], rfl, upd_same⟩ (fun j H3 _ p => p.1.seq (SqL.of ha)) ?_ ?_⟩
      · rintro j u H3 hju ⟨s2, js, lj, hj⟩
        obtain ⟨m, em, rfl⟩ := vs_of hju
        have jlt : j < ms.length := (List.getElem?_eq_some_iff.mp em).1
        refine ⟨rfl, yes_of (iteT ⟨_, rfl, _, _, rfl, rfl, by show (0 : Int) < 2; decide, _, hj, ?_, s2.mut nL, js ++ [(m : Int) % 2], ?_, ?_⟩)⟩
        · rw [List.length_map]
          exact line_lt (by omega)
        · rw [List.length_append, lj]
          rfl
        · rw [upd_same, List.map_append]
          rfl
      · rintro H3 ⟨s2, js, lj, hj⟩
        rw [List.length_map] at lj
        refine ⟨L, js, rfl, SqL.of hj, by omega, fun z => ?_⟩
        obtain ⟨o, hput, htk⟩ := (tk.same s2).put (by omega) n (.int z)
        refine ⟨_, rfl, _, rfl, wd, _, rfl, hput, _, rfl, (s1.trans s2).mut nb, ns ++ [n], ?_, htk _ upd_same⟩
        rw [List.length_append, ln]
        rfl
    · rintro σ H' ⟨x, rfl, s1, _⟩
      exact ⟨s1 _ _ hB, _, rfl, q _ _ (back _ s1) ⟨wd, rfl⟩⟩
end
end K24

set_option Elab.async false
set_option linter.all false
set_option maxRecDepth 100000
set_option maxHeartbeats 4000000
/-! Papers: never_both. -/
namespace K24
open PySem PySem.Spec PyProof.Rows L2
abbrev eA (l : S4) (ask : List Ask) (ms : List Nat) : Sr → Str → List Nat := fun s n => hk ask ms (s4 l s) n
theorem HKn.dls {H0 H : Hp} {d : S4 → Addr} {ad : S4 → Str → Option Addr} {ask : List Ask} {ms : List Nat} (h : HKn H0 H d ad (zm ask (mk2 ms))) {s : S4} {ns : List Str} (hn : ∀ n ∈ ns, hk ask ms s n ≠ []) : DLs H (d s) ns (hk ask ms s) := by
  obtain ⟨_, kvs, h1, h2, h3, h4⟩ := h.dict s
  refine ⟨kvs, h1, fun n hm => ?_⟩
  cases e : ad s n with
  | none => exact absurd (h.has s n e) (hn n hm)
  | some a => exact ⟨a, by rw [h3, e]; rfl, (h.lists s n a e).2⟩
theorem env_of {W : Ws} {l : S4} {g : Tm} {k : Nat} {H0 H : Hp} {d : S4 → Addr} {ad : S4 → Str → Option Addr} {ask : List Ask} {ms : List Nat} (h : HKn H0 H d ad (zm ask (mk2 ms))) (hr : Reads1 W l g ask) (hw : Wd W g k) (ok : WsOk W) : Env3 H (d .box) (d l) (d .door) g (eA l ask ms) := by
  have ne : ∀ s n, n ∈ nms s g → hk ask ms (s4 l s) n ≠ [] := fun s n hn e => by
    obtain ⟨w, hW⟩ := wd_named hw hn
    have l1 := hk_len (ms := ms) (hr s n w hn hW)
    rw [e] at l1
    have := (ok s n w hW).1
    have : ([] : List Nat).length = w := l1
    rw [List.length_nil] at this
    omega
  exact ⟨h.dls fun n hn => ne .box n hn, h.dls fun n hn => ne .late n hn, h.dls fun n hn => ne .door n hn⟩
theorem envW_of {W : Ws} {l : S4} {g : Tm} {ask : List Ask} {ms : List Nat} (hr : Reads1 W l g ask) (m1 : M1 ms) : EnvW W g (eA l ask ms) := ⟨fun s n w hn hW => hk_len (hr s n w hn hW), fun s n _ => hk_m2 m1 _ _⟩
def CubeAt (H : Hp) (us : List V) (cs : List (List Nat × Nat)) : Prop := Ea (fun u c => ∃ p q, u = .ref p ∧ H p = some (.tup [.ref q, vN c.2]) ∧ H q = some (.tup (vs c.1))) us cs
theorem CubeAt.same {H H' : Hp} {us : List V} {cs : List (List Nat × Nat)} (h : CubeAt H us cs) (s : Same H H') : CubeAt H' us cs := Ea.mono h fun u a ⟨p, q, e, hp, hq⟩ => ⟨p, q, e, s _ _ hp, s _ _ hq⟩
theorem CubeAt.keepL {H H' : Hp} {us : List V} {cs : List (List Nat × Nat)} {L : Addr} {xs ys : List V} (h : CubeAt H us cs) (s : Same H H') (hL : H L = some (.lst xs)) : CubeAt (upd H' L (.lst ys)) us cs := Ea.mono h fun u a ⟨p, q, e, hp, hq⟩ => ⟨p, q, e, keepU s hL hp nofun, keepU s hL hq nofun⟩
def GoodC (g1 g2 : Tm) (ask : List Ask) (c : List Nat × Nat) : Prop := M1 c.1 ∧ c.1.length ≤ ask.length ∧ (c.2 = 0 ∧ dimA .one g1 ask c.1 = [0] ∨ c.2 = 1 ∧ dimA .other g2 ask c.1 = [0])
/-- the marks where the walk stands -/
def MkAt (H : Hp) (N : Nat) (c : Addr) (v : V) : Option (List Nat) → Prop
  | none => v = .non
  | some ms => ∃ m, v = .ref m ∧ m ≠ c ∧ H m = some (.lst (vs ms)) ∧ M1 ms ∧ ms.length ≤ N
def lenO : Option (List Nat) → Nat → Nat
  | none, _ => 0
  | some ms, N => N - ms.length
theorem lenO_le (o : Option (List Nat)) (N : Nat) : lenO o N ≤ N := by
  cases o with
  | none => exact Nat.zero_le _
  | some ms => exact Nat.sub_le _ _
theorem in01 {h1 h2 : Nat} : (0 ∈ [h1, h2]) ↔ h1 = 0 ∨ h2 = 0 := by
  constructor
  · intro h
    rcases List.mem_cons.mp h with h | h
    · exact .inl h.symm
    · exact .inr (List.mem_singleton.mp h).symm
  · rintro (rfl | rfl)
    · exact List.mem_cons_self
    · exact List.mem_cons_of_mem _ List.mem_cons_self
section
variable {P : Program} {w : World} {K : PySem.W.Frag} {mg : Str → Option Value} {base : Heap}
def sp_never_both : Sp := fun vs_ H Q _ => ∃ (wk : Addr) (n1 n2 : Str) (bs ds : List Bx) (gs : List Gd) (g1 g2 : Gd), vs_ = [.ref wk, .str n1, .str n2] ∧ TwoAt H wk n1 n2 bs ds gs g1 g2 ∧
  Ret H Q fun r H' => ∃ p, r = .ref p ∧ ((∃ x rest, H' p = some (.tup (.str x :: rest)) ∧ x ≠ "never") ∨ ∃ c us cs ask, H' p = some (.tup [.str "never", .ref c]) ∧ H' c = some (.lst us) ∧ CubeAt H' us cs ∧ AskedOk (bwOf bs) (bwOf ds) g1.t g2.t ask ∧ ask.length ≤ 6000 ∧ Cov ask.length cs none ∧ cs.length ≤ 65 ∧ ∀ x ∈ cs, GoodC g1.t g2.t ask x)
theorem ok_never_both (T : Txt K mg) : Ok P w K mg base "never_both" ["works", "one", "other"] 13 sp_never_both := by
  have G_rule_of : Ok P w K mg base "rule_of" _ 1 _ := ok_rule_of T
  have G_asked_bits : Ok P w K mg base "asked_bits" _ 12 _ := ok_asked_bits T
  have G_half_known : Ok P w K mg base "half_known" _ 1 _ := ok_half_known T
  have G_dim : Ok P w K mg base "dim" _ 12 _ := ok_dim T 8
  have G_filled : Ok P w K mg base "filled" _ 2 _ := ok_filled T
  have G_behind_cube : Ok P w K mg base "behind_cube" _ 1 _ := ok_behind_cube T
  refine T.d_never_both.ok sc_never_both (fun vs H Q E h => ?_) (fun cdv A outer s H vs_ Q E hr h => ?_)
  · obtain ⟨wk, n1, n2, bs, ds, gs, g1, g2, rfl, _⟩ := h
    rfl
  · obtain ⟨wk, n1, n2, bs, ds, gs, g1, g2, rfl, two, q⟩ := h
    refine ⟨_, (pss_cons (ps_set (i := 3) sc_never_both.nd rfl (Or.inl rfl) (pe_ix (r := rIxT K) ix_tup (pe_c T.d_rule_of G_rule_of (hr.mono (by omega)) (by rfl) (pa_cons (pv 0) (pa_cons (pv 1) pa_nil))) pe_int (fun _ _ => rfl)))
      (pss_cons (ps_set (i := 4) sc_never_both.nd rfl (Or.inl rfl) (pe_ix (r := rIxT K) ix_tup (pe_c T.d_rule_of G_rule_of (hr.mono (by omega)) (by rfl) (pa_cons (pv 0) (pa_cons (pv 2) pa_nil))) pe_int (fun _ _ => rfl)))
      (pss_cons (ps_set (i := 5) sc_never_both.nd rfl (Or.inl rfl) (pe_c T.d_asked_bits G_asked_bits (hr.mono (by omega)) (by rfl) (pa_cons (pv 0) (pa_cons (pv 1) (pa_cons (pv 2) pa_nil)))))
      (pss_cons (ps_set (i := 6) sc_never_both.nd rfl (Or.inl rfl) (pe_lst pa_nil))
      (pss_cons (ps_set (i := 7) sc_never_both.nd rfl (Or.inl rfl) (pe_lst pa_nil))
      (pss_cons (ps_while PassesOwn.never (PW.pt (pw_and (pt_cmpR op_notN (pv 6) pe_non (nomark _)) (pw_and1 (pt_cmpR op_le (pe_callB (r := rLn K) call_len_seq (by rfl) T.z_len PySem.boot_len (pa_cons (pv 7) pa_nil)) (pe_glob (v := .int 64) (by rfl) T.c_MOST_CUBES.choose_spec ⟨_, rfl⟩) (nomark _))))) (pss_cons (ps_set (i := 8) sc_never_both.nd rfl (Or.inl rfl) (pe_c T.d_half_known G_half_known (hr.mono (by omega)) (by rfl) (pa_cons (pv 5) (pa_cons (pv 6) pa_nil))))
      (pss_cons (ps_set (i := 9) sc_never_both.nd rfl (Or.inl rfl) (pe_c T.d_dim G_dim (hr.mono (by omega)) (by rfl) (pa_cons (pv 3) (pa_cons (pe_dget (hu_of hr) (pv 8) pe_str (fun _ _ => rfl)) (pa_cons (pe_dget (hu_of hr) (pv 8) pe_str (fun _ _ => rfl)) (pa_cons (pe_dget (hu_of hr) (pv 8) pe_str (fun _ _ => rfl)) pa_nil))))))
      (pss_cons (ps_set (i := 9) sc_never_both.nd rfl (Or.inl rfl) (pe_op op_cat (pv 9) (pe_c T.d_dim G_dim (hr.mono (by omega)) (by rfl) (pa_cons (pv 4) (pa_cons (pe_dget (hu_of hr) (pv 8) pe_str (fun _ _ => rfl)) (pa_cons (pe_dget (hu_of hr) (pv 8) pe_str (fun _ _ => rfl)) (pa_cons (pe_dget (hu_of hr) (pv 8) pe_str (fun _ _ => rfl)) pa_nil)))))))
      (pss_cons (ps_if (pt_cmpR (r := rEqD K) (op_eqD hr.units) (pv 9) (pe_lst (pa_cons pe_int (pa_cons pe_int pa_nil))) (nomark _)) (pss_one (ps_ret (pe_tup (pa_cons pe_str (pa_cons (pe_c T.d_filled G_filled (hr.mono (by omega)) (by rfl) (pa_cons (pe_dget (hu_of hr) (pv 8) pe_str (fun _ _ => rfl)) pa_nil)) (pa_cons (pe_c T.d_filled G_filled (hr.mono (by omega)) (by rfl) (pa_cons (pe_dget (hu_of hr) (pv 8) pe_str (fun _ _ => rfl)) pa_nil)) (pa_cons (pe_c T.d_filled G_filled (hr.mono (by omega)) (by rfl) (pa_cons (pe_dget (hu_of hr) (pv 8) pe_str (fun _ _ => rfl)) pa_nil)) (pa_cons (pe_c T.d_filled G_filled (hr.mono (by omega)) (by rfl) (pa_cons (pe_dget (hu_of hr) (pv 8) pe_str (fun _ _ => rfl)) pa_nil)) pa_nil)))))))) pss_nil)
      (pss_one (ps_if (pt_cmpR (r := rIn K false) op_in_seq pe_int (pv 9) (by rfl)) (pss_cons (ps_expr (pe_bm PySem.F.plainAttrs_list PySem.F.slot_list_append PySem.F.type_list_append mt_append (pv 7) (pa_cons (pe_tup (pa_cons (pe_callTy (r := rTo K) call_tuple_of (by rfl) T.z_tuple PyProof.Rows.boot_tuple (pa_cons (pv 6) pa_nil)) (pa_cons (pe_bm PySem.F.plainAttrs_list PySem.F.slot_list_index PySem.F.type_list_index mt_index (pv 9) (pa_cons pe_int pa_nil)) pa_nil))) pa_nil)))
      (pss_one (ps_set (i := 6) sc_never_both.nd rfl (Or.inl rfl) (pe_c T.d_behind_cube G_behind_cube (hr.mono (by omega)) (by rfl) (pa_cons (pv 6) pa_nil))))) (pss_one (ps_set (i := 6) sc_never_both.nd rfl (Or.inl rfl) (pe_op op_cat (pv 6) (pe_lst (pa_cons pe_int pa_nil))))))))))))
      (pss_cons (ps_if (pt_cmpR op_gt (pe_callB (r := rLn K) call_len_seq (by rfl) T.z_len PySem.boot_len (pa_cons (pv 7) pa_nil)) (pe_glob (v := .int 64) (by rfl) T.c_MOST_CUBES.choose_spec ⟨_, rfl⟩) (nomark _)) (pss_one (ps_ret (pe_tup (pa_cons pe_str pa_nil)))) pss_nil)
      (pss_one (ps_ret (pe_tup (pa_cons pe_str (pa_cons (pv 7) pa_nil)))))))))))), ?_⟩
    have bd := two.bd
    have ok := bd.ok
    obtain ⟨⟨x1, hx1⟩, ht1⟩ := two.a1
    obtain ⟨⟨x2, hx2⟩, ht2⟩ := two.a2
    refine ⟨_, rfl, _, rfl, wk, n1, bs, ds, gs, g1, rfl, two.wk, two.f1, g1.p, _, 1, _, rfl, rfl, SqT.of hx1, rfl, ?_⟩
    refine ⟨_, rfl, _, rfl, wk, n2, bs, ds, gs, g2, rfl, two.wk, two.f2, g2.p, _, 1, _, rfl, rfl, SqT.of hx2, rfl, ?_⟩
    refine ⟨_, rfl, _, rfl, _, rfl, wk, n1, n2, bs, ds, gs, g1, g2, rfl, two, fun r H1 s1 ⟨a, ua, ask, er, _, ha, hau, asked, l6⟩ => ?_⟩
    subst er
    refine ⟨Nat.zero_le _, fun ma na => ?_⟩
    have s2 := s1.newT (o := .lst []) na
    have t2 := Same.new (o := .lst []) na
    have hm2 : (upd H1 ma (.lst [])) ma = some (.lst []) := upd_same
    refine ⟨Nat.zero_le _, fun c nc => ?_⟩
    have nc0 := s2.free nc
    have s3 := s2.newT (o := .lst []) nc
    have t3 := t2.newT (o := .lst []) nc
    have hm3 : (upd (upd H1 ma (.lst [])) c (.lst [])) ma = some (.lst (vs [])) := Same.new nc _ _ hm2
    have hc3 : (upd (upd H1 ma (.lst [])) c (.lst [])) c = some (.lst []) := upd_same
    have ha3 := t3 _ _ ha
    have hau3 := hau.same t3
    have nca : H1 c = none := t2.free nc
    have mac : ma ≠ c := ne_of_none hm2 nc
    generalize (upd (upd H1 ma (.lst [])) c (.lst [])) = H3 at s3 t3 hm3 hc3 ha3 hau3
    -- the frame: all but the cubes
    have r1 : Reads1 (wsOf bs ds) .one g1.t ask := AskedOk.reads1 (W := wsOf bs ds) asked
    have r2 : Reads1 (wsOf bs ds) .other g2.t ask := AskedOk.reads2 (W := wsOf bs ds) asked
    generalize eN : ask.length = N at l6
    refine ⟨fun m σ H' => ∃ (o : Option (List Nat)) (cs : List (List Nat × Nat)) (us : List V) (x y : Option V) (mv : V), σ = [some (.ref wk), some (.str n1), some (.str n2), some g1.v, some g2.v, some (.ref a), some mv, some (.ref c), x, y] ∧ Same H1 H' ∧ H' c = some (.lst us) ∧ CubeAt H' us cs ∧
      Cov N cs o ∧ (∀ x ∈ cs, GoodC g1.t g2.t ask x) ∧ cs.length ≤ 65 ∧ MkAt H' N c mv o ∧ m = (65 - cs.length) * (N + 1) + lenO o N, ⟨_, some [], [], [], none, none, _, rfl, t3, hc3, Ea.nil, cov_start N, nofun, Nat.zero_le _, ⟨ma, rfl, mac, hm3, nofun, Nat.zero_le _⟩, rfl⟩, ?_⟩
    rintro m σ H' ⟨o, cs, us, x, y, mv, rfl, s4, hc, hcu, hcov, good, l65, hmk, rfl⟩
    have lus : us.length = cs.length := hcu.1
    -- behind the loop
    have out : (64 < cs.length ∨ o = none) → ∀ (tl : TS), tl = (tSeq (tIfS (tTest (tOp (rI0 fun i j => .bl (decide (j < i))) (tCB (rLn K) (tCons (tVar 7) tNil)) (tC (.int 64)))) (tRet (tTup (tCons (tC (.str "unsure")) tNil))) tNext) (tRet (tTup (tCons (tC (.str "never")) (tCons (tVar 7) tNil))))) →
        tl { nx := fun _ H' => Q .non H', rt := Q } [some (.ref wk), some (.str n1), some (.str n2), some g1.v, some g2.v, some (.ref a), some mv, some (.ref c), x, y] H' := by
      rintro h tl rfl
      refine ⟨_, rfl, c, _, rfl, .inl (SqL.of hc), _, _, rfl, rfl, _, rfl, ?_⟩
      rw [lus]
      have sH := s1.trans s4
      by_cases h64 : 64 < cs.length
      · rw [decide_eq_true (show ((64 : Int) < (cs.length : Int)) by omega)]
        refine iteT ⟨by show 1 ≤ sizeLine; decide, fun p np => q _ _ (sH.newT np) ⟨p, rfl, .inl ⟨"unsure", [], upd_same, by decide +kernel⟩⟩⟩
      · rw [decide_eq_false (show ¬ ((64 : Int) < (cs.length : Int)) by omega)]
        have ho : o = none := h.resolve_left h64
        subst ho
        refine iteF ⟨_, rfl, by show 2 ≤ sizeLine; decide, fun p np => q _ _ (sH.newT np) ⟨p, rfl, .inr ⟨c, us, cs, ask, upd_same, Same.new np _ _ hc, hcu.same (Same.new np), asked, by omega, by rw [eN]; exact hcov, l65, good⟩⟩⟩
    cases o with
    | none =>
      obtain rfl : mv = .non := hmk
      refine ⟨_, rfl, rfl, _, rfl, ?_⟩
      rw [decide_eq_true rfl]
      exact iteF (out (.inr rfl) _ rfl)
    | some ms =>
      obtain ⟨mm, rfl, mmc, hm, m1, lm⟩ := hmk
      refine ⟨_, rfl, rfl, _, rfl, ?_⟩
      rw [decide_eq_false (by nofun)]
      refine iteT ⟨_, rfl, c, _, rfl, .inl (SqL.of hc), _, _, rfl, rfl, _, rfl, ?_⟩
      rw [lus]
      by_cases h64 : 64 < cs.length
      · rw [decide_eq_false (show ¬ ((cs.length : Int) ≤ 64) by omega)]
        exact iteF (out (.inl h64) _ rfl)
      rw [decide_eq_true (show ((cs.length : Int) ≤ 64) by omega)]
      clear out
      refine iteT ⟨fun σ H2 => ∃ m', m' < (65 - cs.length) * (N + 1) + lenO (some ms) N ∧ ∃ (o : Option (List Nat)) (cs : List (List Nat × Nat)) (us : List V) (x y : Option V) (mv : V), σ = [some (.ref wk), some (.str n1), some (.str n2), some g1.v, some g2.v, some (.ref a), some mv, some (.ref c), x, y] ∧ Same H1 H2 ∧ H2 c = some (.lst us) ∧ CubeAt H2 us cs ∧
        Cov N cs o ∧ (∀ x ∈ cs, GoodC g1.t g2.t ask x) ∧ cs.length ≤ 65 ∧ MkAt H2 N c mv o ∧ m' = (65 - cs.length) * (N + 1) + lenO o N, fun σ' H2 h => h, ?_⟩
      -- what is known
      refine ⟨_, rfl, _, rfl, a, mm, ua, ask, ms, rfl, s4 _ _ ha, hau.same s4, hm, by omega, by omega, fun r H5 s5 ⟨kp, d, ad, er, h4, hkn⟩ => ?_⟩
      subst er
      have t5 := s4.trans s5
      have tt1 : TmAt H5 g1.t g1.v := TmAt.same (s1.trans t5) ht1
      refine ⟨_, rfl, _, rfl, kp, _, rfl, h4.at .box, _, rfl, kp, _, rfl, h4.at .one, _, rfl, kp, _, rfl, h4.at .door, g1.v, d .box, d .one, d .door, g1.t, wsOf bs ds, 1, eA .one ask ms, rfl, tt1, two.t1.d, ok, two.t1.w, env_of hkn r1 two.t1.w ok, envW_of r1 m1, fun r H6 s6 ⟨h1p, er, _, hh1⟩ => ?_⟩
      subst er
      have h46 := h4.same s6
      have hk6 := hkn.same s6
      have t6 := t5.trans s6
      have tt2 : TmAt H6 g2.t g2.v := TmAt.same (s1.trans t6) ht2
      refine ⟨_, rfl, _, rfl, _, rfl, kp, _, rfl, h46.at .box, _, rfl, kp, _, rfl, h46.at .other, _, rfl, kp, _, rfl, h46.at .door, g2.v, d .box, d .other, d .door, g2.t, wsOf bs ds, 1, eA .other ask ms, rfl, tt2, two.t2.d, ok, two.t2.w, env_of hk6 r2 two.t2.w ok, envW_of r2 m1, fun r H7 s7 ⟨h2p, er, _, hh2⟩ => ?_⟩
      subst er
      have len1 : (dimA .one g1.t ask ms).length = 1 := dimA_len two.t1.w r1
      have len2 : (dimA .other g2.t ask ms).length = 1 := dimA_len two.t2.w r2
      have e1 : dimT (eA .one ask ms) g1.t = dimA .one g1.t ask ms := rfl
      have e2 : dimT (eA .other ask ms) g2.t = dimA .other g2.t ask ms := rfl
      have full : ms.length = N → M1 (dimA .one g1.t ask ms) ∧ M1 (dimA .other g2.t ask ms) := fun e => ⟨dimA_m1 m1 (by omega), dimA_m1 m1 (by omega)⟩
      have dm1 : M2 (dimA .one g1.t ask ms) := dimA_m2 m1
      have dm2 : M2 (dimA .other g2.t ask ms) := dimA_m2 m1
      rw [e1] at hh1
      rw [e2] at hh2
      obtain ⟨v1, ev1⟩ := List.length_eq_one_iff.mp len1
      obtain ⟨v2, ev2⟩ := List.length_eq_one_iff.mp len2
      rw [ev1] at hh1 full dm1
      rw [ev2] at hh2 full dm2
      have v1le : v1 ≤ 2 := dm1 v1 List.mem_cons_self
      have v2le : v2 ≤ 2 := dm2 v2 List.mem_cons_self
      refine ⟨h1p, h2p, _, _, rfl, rfl, s7 _ _ hh1, hh2, by show 2 ≤ sizeLine; decide, fun hp nh => ?_⟩
      have s8 : Same H' (upd H7 hp (.lst (vs [v1] ++ vs [v2]))) := ((s5.trans s6).trans s7).newT nh
      have t8 : Same H1 (upd H7 hp (.lst (vs [v1] ++ vs [v2]))) := (t6.trans s7).newT nh
      have hk8 : HKn H' (upd H7 hp (.lst (vs [v1] ++ vs [v2]))) d ad (zm ask (mk2 ms)) := hk6.same (s7.newT nh)
      have h48 : Four (upd H7 hp (.lst (vs [v1] ++ vs [v2]))) kp d := h46.same (s7.newT nh)
      have hh8 : (upd H7 hp (.lst (vs [v1] ++ vs [v2]))) hp = some (.lst (vs [v1, v2])) := upd_same
      generalize (upd H7 hp (.lst (vs [v1] ++ vs [v2]))) = H8 at s8 t8 hk8 h48 hh8
      -- both
      refine ⟨_, rfl, by show 2 ≤ sizeLine; decide, fun op no => ?_⟩
      have s9 := s8.newT (o := .lst [.int 1, .int 1]) no
      have t9 := t8.newT (o := .lst [.int 1, .int 1]) no
      have u9 := Same.new (o := .lst [.int 1, .int 1]) no
      have ho9 : (upd H8 op (.lst [.int 1, .int 1])) op = some (.lst (vs [1, 1])) := upd_same
      have hh9 := u9 _ _ hh8
      have hk9 := hk8.same u9
      have h49 := h48.same u9
      generalize (upd H8 op (.lst [.int 1, .int 1])) = H9 at s9 t9 u9 ho9 hh9 hk9 h49
      refine ⟨_, _, dp_mD (SqL.of hh9), dp_mD (SqL.of ho9), mD_shaped _, mD_shaped _, _, rfl, ?_⟩
      rw [mD_eqv]
      have zl : (zm ask (mk2 ms)).length ≤ 6000 := by
        rw [zm_len]
        omega
      have an := fun s => hk9.any zl s
      by_cases hb : [v1, v2] = [1, 1]
      · rw [decide_eq_true hb]
        refine iteT ⟨_, rfl, kp, _, rfl, h49.at .box, d .box, rfl, an .box, fun r Ha sa ⟨pa_, er⟩ => ?_⟩
        subst er
        refine ⟨_, rfl, kp, _, rfl, (h49.same sa).at .door, d .door, rfl, (an .door).same sa, fun r Hb sb ⟨pb, er⟩ => ?_⟩
        subst er
        have sab := sa.trans sb
        refine ⟨_, rfl, kp, _, rfl, (h49.same sab).at .one, d .one, rfl, (an .one).same sab, fun r Hc sc ⟨pc, er⟩ => ?_⟩
        subst er
        have sac := sab.trans sc
        refine ⟨_, rfl, kp, _, rfl, (h49.same sac).at .other, d .other, rfl, (an .other).same sac, fun r Hd sd ⟨pd, er⟩ => ?_⟩
        subst er
        refine ⟨by show 5 ≤ sizeLine; decide, fun p np => q _ _ (((s1.trans t9).trans (sac.trans sd)).newT np) ⟨p, rfl, .inl ⟨"both", _, upd_same, by decide +kernel⟩⟩⟩
      · rw [decide_eq_false hb]
        refine iteF ⟨_, rfl, hp, _, rfl, .inl (SqL.of hh9), rfl, flat_vs _, _, rfl, ?_⟩
        have ei : inV (V.int 0) (vs [v1, v2]) = decide (0 ∈ [v1, v2]) := in_vs 0 [v1, v2]
        show if inV (V.int 0) (vs [v1, v2]) = true then _ else _
        rw [ei]
        have hc9 := s9 _ _ hc
        have hm9 := s9 _ _ hm
        by_cases h0 : 0 ∈ [v1, v2]
        · rw [if_pos (decide_eq_true h0)]
          -- the cube
          refine ⟨_, rfl, .inl ⟨rfl, _, SqL.of hc9⟩, _, rfl, mm, _, rfl, .inl ⟨SqL.of hm9, fun q1 nq => ?_⟩⟩
          have ua_ := Same.new (H := H9) (o := .tup (vs ms)) nq
          have hha := ua_ _ _ hh9
          have hq1 : (upd H9 q1 (.tup (vs ms))) q1 = some (.tup (vs ms)) := upd_same
          have sA := s9.newT (o := .tup (vs ms)) nq
          have tA := t9.newT (o := .tup (vs ms)) nq
          generalize (upd H9 q1 (.tup (vs ms))) = HA at ua_ hha hq1 sA tA
          have idx : ∃ j : Nat, (j = 0 ∧ v1 = 0 ∨ j = 1 ∧ v2 = 0) ∧ ∃ z, (vs [v1, v2])[j]? = some z ∧ eqV z (V.int 0) = true ∧ ∀ (m : Nat) (z' : V), m < j → (vs [v1, v2])[m]? = some z' → eqV z' (V.int 0) = false := by
            by_cases z1 : v1 = 0
            · subst z1
              exact ⟨0, .inl ⟨rfl, rfl⟩, _, rfl, rfl, fun m z' h _ => absurd h (Nat.not_lt_zero _)⟩
            · have z2 : v2 = 0 := (in01.mp h0).resolve_left z1
              subst z2
              refine ⟨1, .inr ⟨rfl, rfl⟩, _, rfl, rfl, fun m z' h e => ?_⟩
              obtain rfl : m = 0 := by omega
              cases e
              show ((v1 : Int) == 0) = false
              rw [beq_eq_false_iff_ne]
              omega
          obtain ⟨j, hj, z, hz1, hz2, hz3⟩ := idx
          refine ⟨_, rfl, .inl ⟨rfl, _, SqL.of hha⟩, hp, _, _, j, z, rfl, rfl, SqL.of hha, rfl, flat_vs _, hz1, hz2, hz3, by show 2 ≤ sizeLine; decide, fun q2 nq2 => ?_⟩
          have hcA := sA _ _ hc
          have ub := Same.new (H := HA) (o := .tup [.ref q1, vN j]) nq2
          have hcB := ub _ _ hcA
          have cuB : CubeAt (upd HA q2 (.tup [.ref q1, vN j])) us cs := (hcu.same sA).same ub
          have hq1B := ub _ _ hq1
          have hq2B : (upd HA q2 (.tup [.ref q1, vN j])) q2 = some (.tup [.ref q1, vN j]) := upd_same
          have tB := tA.newT (o := .tup [.ref q1, vN j]) nq2
          have hmB := ub _ _ (sA _ _ hm)
          refine ⟨c, us, _, rfl, rfl, hcB, by rw [lus]; exact line_lt (by omega), ?_⟩
          generalize (upd HA q2 (.tup [.ref q1, V.int (j : Nat)])) = HB at hcB cuB hq1B hq2B tB hmB
          have one : CubeAt (upd HB c (.lst (us ++ [.ref q2]))) [.ref q2] [(ms, j)] := Ea.one ⟨q2, q1, rfl, keepU (Same.refl _) hcB hq2B nofun, keepU (Same.refl _) hcB hq1B nofun⟩
          have cuC : CubeAt (upd HB c (.lst (us ++ [.ref q2]))) (us ++ [.ref q2]) (cs ++ [(ms, j)]) := Ea.app (CubeAt.keepL cuB (Same.refl _) hcB) one
          have tC_ : Same H1 (upd HB c (.lst (us ++ [.ref q2]))) := tB.mut nca
          have hcC : (upd HB c (.lst (us ++ [.ref q2]))) c = some (.lst (us ++ [.ref q2])) := upd_same
          have hmC : (upd HB c (.lst (us ++ [.ref q2]))) mm = some (.lst (vs ms)) := by
            rw [upd_ne mmc]
            exact hmB
          generalize (upd HB c (.lst (us ++ [.ref q2]))) = HC at cuC tC_ hcC hmC
          refine ⟨_, rfl, mm, ms, rfl, hmC, m1, by omega, fun r HD sD res => ?_⟩
          have tD := tC_.trans sD
          have good' : ∀ x ∈ cs ++ [(ms, j)], GoodC g1.t g2.t ask x := fun x hx => by
            rcases List.mem_append.mp hx with hx | hx
            · exact good x hx
            · rw [List.mem_singleton.mp hx]
              refine ⟨m1, by rw [eN]; exact lm, ?_⟩
              rcases hj with ⟨rfl, rfl⟩ | ⟨rfl, rfl⟩
              · exact .inl ⟨rfl, ev1⟩
              · exact .inr ⟨rfl, ev2⟩
          have l65' : (cs ++ [(ms, j)]).length ≤ 65 := by
            rw [List.length_append, List.length_singleton]
            omega
          have meas : ∀ o', (65 - (cs ++ [(ms, j)]).length) * (N + 1) + lenO o' N < (65 - cs.length) * (N + 1) + lenO (some ms) N := fun o' => by
            have h1 := lenO_le o' N
            rw [List.length_append, List.length_singleton]
            have h2 : 65 - cs.length = (65 - (cs.length + 1)) + 1 := by omega
            rw [h2, Nat.add_mul, Nat.one_mul]
            omega
          rcases res with ⟨er, nx⟩ | ⟨pn, ms', er, npn, hpn, nx⟩
          · subst er
            obtain ⟨k, rfl, _⟩ | ⟨p', k, _, e⟩ := nx
            · rw [List.length_replicate] at lm
              exact ⟨_, meas none, none, _, _, _, _, _, rfl, tD, sD _ _ hcC, cuC.same sD, cov_end hcov lm, good', l65', rfl, rfl⟩
            · cases e
          · subst er
            obtain ⟨k, _, e⟩ | ⟨p', k, rfl, e⟩ := nx
            · cases e
            · cases e
              refine ⟨_, meas (some (p' ++ [1])), some (p' ++ [1]), _, _, _, _, _, rfl, tD, sD _ _ hcC, cuC.same sD, cov_next hcov lm, good', l65', ⟨pn, rfl, fun z => ?_, hpn, fun x hx => ?_, ?_⟩, rfl⟩
              · rw [z, hcC] at npn
                cases npn
              · rcases List.mem_append.mp hx with hx | hx
                · exact m1 x (List.mem_append_left _ hx)
                · rw [List.mem_singleton.mp hx]
                  exact Nat.le_refl 1
              · rw [List.length_append, List.length_cons] at lm
                rw [List.length_append, List.length_singleton]
                omega
        · rw [if_neg (by rw [decide_eq_true_eq]; exact h0)]
          have lt : ms.length < N := by
            refine Nat.lt_of_le_of_ne lm fun e => ?_
            obtain ⟨f1, f2⟩ := full e
            have z1 := f1 v1 List.mem_cons_self
            have z2 := f2 v2 List.mem_cons_self
            have y1 : v1 ≠ 0 := fun z => h0 (in01.mpr (.inl z))
            have y2 : v2 ≠ 0 := fun z => h0 (in01.mpr (.inr z))
            obtain rfl : v1 = 1 := by omega
            obtain rfl : v2 = 1 := by omega
            exact hb rfl
          refine ⟨_, rfl, by show 1 ≤ sizeLine; decide, fun z nz => ?_⟩
          have ub := Same.new (H := H9) (o := .lst [.int 0]) nz
          have hz : (upd H9 z (.lst [.int 0])) z = some (.lst (vs [0])) := upd_same
          have hmz := ub _ _ hm9
          have sz1 := s9.newT (o := .lst [.int 0]) nz
          have tz1 := t9.newT (o := .lst [.int 0]) nz
          generalize (upd H9 z (.lst [.int 0])) = HZ at ub hz hmz sz1 tz1
          refine ⟨mm, z, _, _, rfl, rfl, hmz, hz, ?_, fun y0 ny => ?_⟩
          · rw [List.length_map]
            show ms.length + 1 ≤ sizeLine
            exact line_of (by omega)
          have sy := sz1.newT (o := .lst (vs ms ++ vs [0])) ny
          have hcy := sy _ _ hc
          refine ⟨(65 - cs.length) * (N + 1) + lenO (some (ms ++ [0])) N, ?_, some (ms ++ [0]), cs, us, _, _, _, rfl, tz1.newT ny, hcy, hcu.same sy, cov_snoc0 hcov, good, l65, ⟨y0, rfl, fun e => ?_, ?_, fun x hx => ?_, ?_⟩, rfl⟩
          · show _ + (N - (ms ++ [0]).length) < _ + (N - ms.length)
            rw [List.length_append, List.length_singleton]
            omega
          · rw [e, sz1 _ _ hc] at ny
            cases ny
          · rw [upd_same, vs_snoc]
            rfl
          · rcases List.mem_append.mp hx with hx | hx
            · exact m1 x hx
            · rw [List.mem_singleton.mp hx]
              exact Nat.zero_le 1
          · rw [List.length_append, List.length_singleton]
            omega
end
end K24

set_option Elab.async false
set_option linter.all false
set_option maxRecDepth 100000
set_option maxHeartbeats 4000000
/-! The law's helpers: numbers, words, names. -/
namespace K24
open PySem PySem.Spec PyProof.Rows L2
theorem modN (v : Int) {m : Nat} (h : 0 < m) : ∃ n : Nat, v % (m : Int) = (n : Int) ∧ n < m := by
  have h1 := Int.emod_nonneg v (b := (m : Int)) (by omega)
  have h2 := Int.emod_lt_of_pos v (b := (m : Int)) (by omega)
  exact ⟨(v % (m : Int)).toNat, by omega, by omega⟩
theorem lt4 {j : Nat} (h : j < 4) : j = 0 ∨ j = 1 ∨ j = 2 ∨ j = 3 := by omega
section
variable {P : Program} {w : World} {K : PySem.W.Frag} {mg : Str → Option Value} {base : Heap}
def sp_cell (K : PySem.W.Frag) : Sp := fun vs_ H Q _ => ∃ (a : Addr) (js : List Int) (k : Nat), vs_ = [.ref a, vN k] ∧ SqL K H a (js.map V.int) ∧ k ≤ 1000 ∧ ∀ n : Nat, n < 2147483647 → Q (vN n) H
theorem ok_cell (T : Txt K mg) : Ok P w K mg base "_law_cell" ["script", "k"] 1 (sp_cell K) := by
  refine T.d__law_cell.ok sc_law_cell (fun vs H Q E h => ?_) (fun cdv A outer s H vs_ Q E hr h => ?_)
  · obtain ⟨a, js, k, rfl, _⟩ := h
    rfl
  · obtain ⟨a, js, k, rfl, ha, hk, q⟩ := h
    refine ⟨_, (pss_cons (ps_if (pt_cmpR op_lt (pv 1) (pe_callB (r := rLn K) call_len_seq (by rfl) T.z_len PySem.boot_len (pa_cons (pv 0) pa_nil)) (nomark _)) (pss_one (ps_ret (pe_op op_mod (pe_ix (r := rIxL K) ix_list (pv 0) (pv 1) (fun _ _ => rfl)) pe_int))) pss_nil)
      (pss_one (ps_ret (pe_op op_mod (pe_op op_mul (pe_op op_mul (pv 1) (pv 1)) pe_int) pe_int)))), ?_⟩
    refine ⟨_, rfl, _, rfl, a, _, rfl, .inl ha, _, _, rfl, rfl, _, rfl, ?_⟩
    rw [List.length_map]
    by_cases h : k < js.length
    · rw [decide_eq_true (show (k : Int) < (js.length : Int) by omega)]
      have e : (js.map V.int)[k]? = some (V.int js[k]) := by
        rw [List.getElem?_map, List.getElem?_eq_getElem h]
        rfl
      refine iteT ⟨_, rfl, _, rfl, a, _, _, _, rfl, rfl, ha, atI_nat e, _, _, rfl, rfl, by show (0 : Int) < 1000000007; decide, ?_⟩
      obtain ⟨n, e2, hn⟩ := modN js[k] (m := 1000000007) (by decide)
      exact q_of (q n (by omega)) (congrArg V.int e2)
    · rw [decide_eq_false (show ¬ (k : Int) < (js.length : Int) by omega)]
      refine iteF ⟨_, rfl, _, rfl, _, _, rfl, rfl, .inl ⟨by omega, by omega⟩, _, _, rfl, rfl, .inr ⟨by decide, by decide⟩, _, _, rfl, rfl, by show (0 : Int) < 1000003; decide, ?_⟩
      obtain ⟨n, e2, hn⟩ := modN ((k : Int) * (k : Int) * 7919) (m := 1000003) (by decide)
      exact q_of (q n (by omega)) (congrArg V.int e2)
def sp_mix : Sp := fun vs_ H Q _ => ∃ (a b : Nat), vs_ = [vN a, vN b] ∧ a < 2147483647 ∧ b < 2147483647 ∧ ∀ n : Nat, n < 2147483629 → Q (vN n) H
theorem ok_mix (T : Txt K mg) : Ok P w K mg base "_law_mix" ["number", "salt"] 1 sp_mix := by
  refine T.d__law_mix.ok sc_law_mix (fun vs H Q E h => ?_) (fun cdv A outer s H vs_ Q E hr h => ?_)
  · obtain ⟨a, b, rfl, _⟩ := h
    rfl
  · obtain ⟨a, b, rfl, h1, h2, q⟩ := h
    refine ⟨_, (pss_cons (ps_set (i := 2) sc_law_mix.nd rfl (Or.inl rfl) (pe_op op_mod (pe_op op_add (pe_op op_add (pe_op op_mul (pv 0) pe_int) (pe_op op_mul (pv 1) pe_int)) pe_int) pe_int))
      (pss_one (ps_ret (pe_op op_mod (pe_op op_mul (pv 2) (pv 2)) pe_int)))), ?_⟩
    refine ⟨_, rfl, _, _, rfl, rfl, .inl ⟨by omega, by omega⟩, _, rfl, _, _, rfl, rfl, .inl ⟨by omega, by omega⟩, _, _, rfl, rfl, _, _, rfl, rfl, _, _, rfl, rfl, by show (0 : Int) < 2147483647; decide, ?_⟩
    obtain ⟨m, e, hm⟩ := modN ((a : Int) * 69621 + (b : Int) * 16807 + 1013) (m := 2147483647) (by decide)
    have e : ((a : Int) * 69621 + (b : Int) * 16807 + 1013) % 2147483647 = (m : Int) := e
    refine ⟨_, rfl, _, rfl, _, _, rfl, rfl, ?_, _, _, rfl, rfl, by show (0 : Int) < 2147483629; decide, ?_⟩
    · rw [e]
      exact .inl ⟨by omega, by omega⟩
    · rw [e]
      obtain ⟨n, e2, hn⟩ := modN ((m : Int) * (m : Int)) (m := 2147483629) (by decide)
      exact q_of (q n hn) (congrArg V.int e2)
def sp_word : Sp := fun vs_ H Q _ => ∃ (a k : Nat), vs_ = [vN a, vN k] ∧ a < 2147483647 ∧ k ≤ 64 ∧ Ret H Q fun r _ => ∃ n : Nat, r = vN n ∧ n < 2 ^ k
theorem ok_word (T : Txt K mg) : Ok P w K mg base "_law_word" ["number", "width"] 2 sp_word := by
  have G__law_mix : Ok P w K mg base "_law_mix" _ 1 _ := ok_mix T
  refine T.d__law_word.ok sc_law_word (fun vs H Q E h => ?_) (fun cdv A outer s H vs_ Q E hr h => ?_)
  · obtain ⟨a, k, rfl, _⟩ := h
    rfl
  · obtain ⟨a, k, rfl, h1, h2, q⟩ := h
    refine ⟨_, (pss_cons (ps_set (i := 2) sc_law_word.nd rfl (Or.inl rfl) (pe_op op_add (pe_op op_mul (pe_op op_add (pe_op op_mul (pe_c T.d__law_mix G__law_mix (hr.mono (by omega)) (by rfl) (pa_cons (pv 0) (pa_cons pe_int pa_nil))) pe_int) (pe_c T.d__law_mix G__law_mix (hr.mono (by omega)) (by rfl) (pa_cons (pv 0) (pa_cons pe_int pa_nil)))) pe_int) (pe_op op_mod (pv 0) pe_int)))
      (pss_one (ps_ret (pe_op op_mod (pe_ix (r := rIxL K) ix_list (pe_lst (pa_cons (pv 2) (pa_cons (pv 2) (pa_cons pe_int (pa_cons (pe_op op_sub (pe_op op_shl pe_int (pv 1)) pe_int) pa_nil))))) (pe_op op_mod (pe_op op_fdiv (pv 0) pe_int) pe_int) (fun _ _ => rfl)) (pe_op op_shl pe_int (pv 1)))))), ?_⟩
    refine ⟨_, rfl, a, 7, rfl, h1, by decide, fun m1 hm1 => ?_⟩
    refine ⟨_, _, rfl, rfl, .inl ⟨by omega, by omega⟩, _, rfl, a, 8, rfl, h1, by decide, fun m2 hm2 => ?_⟩
    refine ⟨_, _, rfl, rfl, _, _, rfl, rfl, .inr ⟨by decide, by decide⟩, _, rfl, _, _, rfl, rfl, by show (0 : Int) < 8; decide, _, _, rfl, rfl, ?_⟩
    refine ⟨_, rfl, _, rfl, _, rfl, _, _, rfl, rfl, ⟨by omega, by omega, by decide⟩, _, _, rfl, rfl, by show 4 ≤ sizeLine; decide, fun p np => ?_⟩
    refine ⟨_, rfl, _, _, rfl, rfl, ⟨by decide, by decide⟩, _, _, rfl, rfl, by show (0 : Int) < 4; decide, ?_⟩
    have fin : ∀ (far z : Int) (H' : Hp), Same H H' → (tOp (rI (fun _ j => 0 < j) fun i j => .int (i % j)) (tC (.int z)) (tOp (rI CPow fun i j => .int (i * 2 ^ j.toNat)) (tC (.int 1)) (tVar 1))) [some (vN a), some (vN k), some (.int far)] H' Q := fun far z H' s1 => by
      refine ⟨_, rfl, _, _, rfl, rfl, ⟨by omega, by omega, by decide⟩, _, _, rfl, rfl, ?_, ?_⟩
      · rw [shl_nat]
        have := pow_pos2 k
        omega
      · rw [shl_nat]
        obtain ⟨n, e2, hn⟩ := modN z (m := 2 ^ k) (pow_pos2 k)
        exact q _ _ s1 ⟨n, congrArg V.int e2, hn⟩
    obtain ⟨j, ej, hj⟩ : ∃ j : Nat, ((a : Int) / 8 % 4) = (j : Int) ∧ j < 4 := modN ((a : Int) / 8) (m := 4) (by decide)
    have at4 : ∀ x0 x1 x2 x3 : Int, ∃ z : Int, atI [V.int x0, V.int x1, V.int x2, V.int x3] ((a : Int) / 8 % 4) = some (.int z) := fun x0 x1 x2 x3 => by
      rw [ej]
      rcases lt4 hj with rfl | rfl | rfl | rfl
      · exact ⟨x0, rfl⟩
      · exact ⟨x1, rfl⟩
      · exact ⟨x2, rfl⟩
      · exact ⟨x3, rfl⟩
    obtain ⟨z, ez⟩ := at4 _ _ _ _
    exact ⟨p, _, _, _, rfl, rfl, SqL.of upd_same, ez, fin _ z _ (Same.new np)⟩
end
end K24

set_option Elab.async false
set_option linter.all false
set_option maxRecDepth 100000
set_option maxHeartbeats 4000000
/-! The law's helpers: names. -/
namespace K24
open PySem PySem.Spec PyProof.Rows L2
theorem let_at (z : Int) : atI letters.cps.toList (z % 26) = some (97 + (z % 26).toNat) := by
  obtain ⟨n, e, hn⟩ := modN z (m := 26) (by decide)
  have e : z % 26 = (n : Int) := e
  rw [e, Int.toNat_natCast]
  refine atI_nat ?_
  have e2 : letters.cps.toList = (List.range 26).map (97 + ·) := by decide +kernel
  rw [e2, List.getElem?_map, List.getElem?_range hn]
  rfl
def fc (a st j : Nat) : Nat := 97 + (a % 26 + j * st) % 26
theorem fc_ok (a st j : Nat) : 97 ≤ fc a st j ∧ fc a st j ≤ 122 := by
  unfold fc
  have := Nat.mod_lt (a % 26 + j * st) (show 0 < 26 by decide)
  omega
def steps : List Nat := [1, 3, 5, 7, 9, 11, 15, 17]
theorem fc_inj {a st i j : Nat} (hs : st ∈ steps) (hi : i < 9) (hj : j < 9) (h : fc a st i = fc a st j) : i = j := by
  unfold fc at h
  have hs : st = 1 ∨ st = 3 ∨ st = 5 ∨ st = 7 ∨ st = 9 ∨ st = 11 ∨ st = 15 ∨ st = 17 := by
    simpa [steps] using hs
  rcases hs with rfl | rfl | rfl | rfl | rfl | rfl | rfl | rfl <;> omega
def fn_ (a st at_ : Nat) (stem : List Nat) (j : Nat) : List Nat := if a / 13312 % 2 = 0 then stem.take at_ ++ [fc a st j] ++ stem.drop (at_ + 1) else List.replicate (j % 4) (97 + a % 26) ++ [fc a st j]
theorem fn_inj {a st at_ i j : Nat} {stem : List Nat} (hs : st ∈ steps) (hi : i < 9) (hj : j < 9) (h : fn_ a st at_ stem i = fn_ a st at_ stem j) : i = j := by
  unfold fn_ at h
  by_cases e : a / 13312 % 2 = 0
  · rw [if_pos e, if_pos e] at h
    have h2 := List.append_cancel_right h
    have h3 := List.append_cancel_left h2
    exact fc_inj hs hi hj (List.cons.inj h3).1
  · rw [if_neg e, if_neg e] at h
    have h2 := congrArg List.getLast? h
    rw [List.getLast?_concat, List.getLast?_concat] at h2
    exact fc_inj hs hi hj (Option.some.inj h2)
theorem fn_ok {a st at_ : Nat} {stem : List Nat} (h1 : ∀ c ∈ stem, 97 ≤ c ∧ c ≤ 122) (h2 : at_ < stem.length) (h3 : stem.length ≤ 8) (j : Nat) : (∀ c ∈ fn_ a st at_ stem j, 97 ≤ c ∧ c ≤ 122) ∧ 1 ≤ (fn_ a st at_ stem j).length ∧ (fn_ a st at_ stem j).length ≤ 8 := by
  unfold fn_
  by_cases e : a / 13312 % 2 = 0
  · rw [if_pos e]
    refine ⟨fun c hc => ?_, ?_⟩
    · rcases List.mem_append.mp hc with hc | hc
      · rcases List.mem_append.mp hc with hc | hc
        · exact h1 c (List.mem_of_mem_take hc)
        · rw [List.mem_singleton.mp hc]
          exact fc_ok _ _ _
      · exact h1 c (List.mem_of_mem_drop hc)
    · rw [List.length_append, List.length_append, List.length_take, List.length_drop, List.length_singleton]
      omega
  · rw [if_neg e]
    have hlt := Nat.mod_lt a (show 0 < 26 by decide)
    refine ⟨fun c hc => ?_, ?_⟩
    · rcases List.mem_append.mp hc with hc | hc
      · rw [List.eq_of_mem_replicate hc]
        omega
      · rw [List.mem_singleton.mp hc]
        exact fc_ok _ _ _
    · rw [List.length_append, List.length_replicate, List.length_singleton]
      omega
theorem join_ok : ∀ {ps : List (List Nat)}, (∀ p ∈ ps, ∃ c, p = [c] ∧ 97 ≤ c ∧ c ≤ 122) → (TL.joinL [] ps).length = ps.length ∧ ∀ c ∈ TL.joinL [] ps, 97 ≤ c ∧ c ≤ 122
  | [], _ => ⟨rfl, nofun⟩
  | [p], h => by
    obtain ⟨c, rfl, hc⟩ := h p List.mem_cons_self
    refine ⟨rfl, fun x hx => ?_⟩
    rw [List.mem_singleton.mp hx]
    exact hc
  | p :: q :: r, h => by
    obtain ⟨c, rfl, hc⟩ := h p List.mem_cons_self
    obtain ⟨i1, i2⟩ := join_ok (ps := q :: r) fun x hx => h x (List.mem_cons_of_mem _ hx)
    refine ⟨?_, fun x hx => ?_⟩
    · show ([c] ++ ([] ++ TL.joinL [] (q :: r))).length = _
      rw [List.nil_append, List.length_append, i1]
      show 1 + (r.length + 1) = r.length + 1 + 1
      omega
    · have hx : x ∈ [c] ++ ([] ++ TL.joinL [] (q :: r)) := hx
      rw [List.nil_append] at hx
      rcases List.mem_append.mp hx with hx | hx
      · rw [List.mem_singleton.mp hx]
        exact hc
      · exact i2 x hx
theorem TL.tl_append' (a b : Str) : (a ++ b).cps.toList = a.cps.toList ++ b.cps.toList := TL.tl_append a b
theorem slen_app (a b : Str) : (a ++ b).length = a.length + b.length := by
  have h : (a ++ b).cps.toList.length = (a ++ b).length := Array.length_toList
  have h1 : a.cps.toList.length = a.length := Array.length_toList
  have h2 : b.cps.toList.length = b.length := Array.length_toList
  rw [← h, TL.tl_append', List.length_append, h1, h2]
theorem cut_lo (z : Str) (j : Nat) : (cutS z none (some (j : Int))).cps.toList = z.cps.toList.take j := by
  unfold cutS
  show ((z.cps.toList.drop (HT.sIx z.length 0 none)).take (HT.sIx z.length z.length (some (j : Int)) - HT.sIx z.length 0 none)).toArray.toList = _
  rw [HT.sIx_nat, HT.sIx_none, List.drop_zero, Nat.sub_zero]
  have h1 : z.cps.toList.length = z.length := Array.length_toList
  show z.cps.toList.take (min j z.length) = _
  rw [← h1]
  by_cases h : j ≤ z.cps.toList.length
  · rw [Nat.min_eq_left h]
  · rw [Nat.min_eq_right (by omega), List.take_length, List.take_of_length_le (by omega)]
theorem cut_hi (z : Str) (j : Nat) : (cutS z (some (j : Int)) none).cps.toList = z.cps.toList.drop j := by
  unfold cutS
  show ((z.cps.toList.drop (HT.sIx z.length 0 (some (j : Int)))).take (HT.sIx z.length z.length none - HT.sIx z.length 0 (some (j : Int)))).toArray.toList = _
  rw [HT.sIx_nat, HT.sIx_none]
  have h1 : z.cps.toList.length = z.length := Array.length_toList
  show ((z.cps.toList.drop (min j z.length)).take (z.length - min j z.length)) = _
  rw [List.take_of_length_le (by rw [List.length_drop, h1]; omega)]
  by_cases h : j ≤ z.length
  · rw [Nat.min_eq_left h]
  · rw [Nat.min_eq_right (by omega), List.drop_of_length_le (by omega), List.drop_of_length_le (by omega)]
structure Nm9 (ns : List Str) : Prop where
  l : ns.length = 9
  nd : ns.Nodup
  ok : ∀ n ∈ ns, NmOk n
theorem nm9_of {a st at_ : Nat} {stem : List Nat} {ns : List Str} (hs : st ∈ steps) (h1 : ∀ c ∈ stem, 97 ≤ c ∧ c ≤ 122) (h2 : at_ < stem.length) (h3 : stem.length ≤ 8) (e : ns.map (fun z => z.cps.toList) = (List.range 9).map (fn_ a st at_ stem)) : Nm9 ns := by
  refine ⟨?_, ?_, fun n hn => ?_⟩
  · have := congrArg List.length e
    rw [List.length_map, List.length_map, List.length_range] at this
    exact this
  · have nd : (ns.map (fun z => z.cps.toList)).Nodup := by
      rw [e]
      show List.Pairwise _ _
      rw [List.pairwise_map]
      refine List.Pairwise.imp_of_mem (R := fun i j => i < j) ?_ List.pairwise_lt_range
      intro i j hi hj hlt q
      have := fn_inj hs (List.mem_range.mp hi) (List.mem_range.mp hj) q
      omega
    have nd : List.Pairwise _ (ns.map (fun z => z.cps.toList)) := nd
    rw [List.pairwise_map] at nd
    exact List.Pairwise.imp (fun {x y} (q : x.cps.toList ≠ y.cps.toList) => (fun z => q (by rw [z]) : x ≠ y)) nd
  · have hm : n.cps.toList ∈ (List.range 9).map (fn_ a st at_ stem) := e ▸ List.mem_map.mpr ⟨n, hn, rfl⟩
    obtain ⟨j, _, ej⟩ := List.mem_map.mp hm
    have := fn_ok (a := a) (st := st) h1 h2 h3 j
    rw [ej] at this
    have e2 : n.cps.toList.length = n.length := Array.length_toList
    rw [e2] at this
    exact this
section
variable {P : Program} {w : World} {K : PySem.W.Frag} {mg : Str → Option Value} {base : Heap}
def sp_names : Sp := fun vs_ H Q _ => ∃ a : Nat, vs_ = [vN a, vN 9] ∧ a < 2147483647 ∧ Ret H Q fun r H' => ∃ p ns, r = .ref p ∧ H p = none ∧ H' p = some (.lst (ns.map V.str)) ∧ Nm9 ns
theorem at8 (j : Nat) (h : j < 8) : ∃ st, atI [V.int 1, V.int 3, V.int 5, V.int 7, V.int 9, V.int 11, V.int 15, V.int 17] (j : Int) = some (vN st) ∧ st ∈ steps := by
  have hj : j = 0 ∨ j = 1 ∨ j = 2 ∨ j = 3 ∨ j = 4 ∨ j = 5 ∨ j = 6 ∨ j = 7 := by omega
  rcases hj with rfl | rfl | rfl | rfl | rfl | rfl | rfl | rfl
  · exact ⟨1, rfl, by decide⟩
  · exact ⟨3, rfl, by decide⟩
  · exact ⟨5, rfl, by decide⟩
  · exact ⟨7, rfl, by decide⟩
  · exact ⟨9, rfl, by decide⟩
  · exact ⟨11, rfl, by decide⟩
  · exact ⟨15, rfl, by decide⟩
  · exact ⟨17, rfl, by decide⟩
theorem ok_names (T : Txt K mg) : Ok P w K mg base "_law_names" ["number", "many"] 2 sp_names := by
  have G__law_mix : Ok P w K mg base "_law_mix" _ 1 _ := ok_mix T
  refine T.d__law_names.ok sc_law_names (fun vs H Q E h => ?_) (fun cdv A outer s H vs_ Q E hr h => ?_)
  · obtain ⟨a, rfl, _⟩ := h
    rfl
  · obtain ⟨a, rfl, ha, q⟩ := h
    refine ⟨_, (pss_cons (ps_set (i := 2) sc_law_names.nd rfl (Or.inr rfl) pe_str)
      (pss_cons (ps_set (i := 3) sc_law_names.nd rfl (Or.inl rfl) (pe_op op_mod (pv 0) pe_int))
      (pss_cons (ps_set (i := 4) sc_law_names.nd rfl (Or.inl rfl) (pe_ix (r := rIxL K) ix_list (pe_lst (pa_cons pe_int (pa_cons pe_int (pa_cons pe_int (pa_cons pe_int (pa_cons pe_int (pa_cons pe_int (pa_cons pe_int (pa_cons pe_int pa_nil))))))))) (pe_op op_mod (pe_op op_fdiv (pv 0) pe_int) pe_int) (fun _ _ => rfl)))
      (pss_cons (ps_set (i := 5) sc_law_names.nd rfl (Or.inl rfl) (pe_op op_add pe_int (pe_op op_mod (pe_op op_fdiv (pv 0) pe_int) pe_int)))
      (pss_cons (ps_set (i := 6) sc_law_names.nd rfl (Or.inl rfl) (pe_op op_mod (pe_op op_fdiv (pv 0) pe_int) (pv 5)))
      (pss_cons (ps_set (i := 8) sc_law_names.nd rfl (Or.inl rfl) (pe_join pe_str (pe_lc (own := [("k", 7)]) (g := gName 7) (by rfl) sc_law_names.nd (pi_range1 (by rfl) T.z_range (pa_cons (pv 5) pa_nil)) (blkOk_by (N := N__law_names) (sc := defScope s__law_names) (by decide +kernel)) (fun _ _ _ _ _ => pg_name (i := 7) sc_law_names.nd rfl (Or.inl rfl)) (fun _ _ _ _ _ => pts_nil) (fun _ _ _ _ _ => (pe_ix (r := rIxS) ix_str (pv 2) (pe_op op_mod (pe_c T.d__law_mix G__law_mix (hr.mono (by omega)) (by rfl) (pa_cons (pv 0) (pa_cons (pe_op op_add pe_int (pv 7)) pa_nil))) pe_int) (fun _ _ => rfl))))))
      (pss_cons (ps_set (i := 9) sc_law_names.nd rfl (Or.inl rfl) (pe_lst pa_nil))
      (pss_cons (ps_for PassesOwn.never (by rfl) (pi_range1 (by rfl) T.z_range (pa_cons (pv 1) pa_nil)) (pg_name (i := 7) sc_law_names.nd rfl (Or.inl rfl)) (pss_cons (ps_set (i := 10) sc_law_names.nd rfl (Or.inl rfl) (pe_ix (r := rIxS) ix_str (pv 2) (pe_op op_mod (pe_op op_add (pv 3) (pe_op op_mul (pv 7) (pv 4))) pe_int) (fun _ _ => rfl)))
      (pss_one (ps_if (pt_cmpR op_eq (pe_op op_mod (pe_op op_fdiv (pv 0) pe_int) pe_int) pe_int (nomark _)) (pss_one (ps_expr (pe_bm PySem.F.plainAttrs_list PySem.F.slot_list_append PySem.F.type_list_append mt_append (pv 9) (pa_cons (pe_op op_add_str (pe_op op_add_str (pe_slice (r := rSlS) sl_str (pv 8) po_none (po_some (pv 6))) (pv 10)) (pe_slice (r := rSlS) sl_str (pv 8) (po_some (pe_op op_add (pv 6) pe_int)) po_none)) pa_nil)))) (pss_one (ps_expr (pe_bm PySem.F.plainAttrs_list PySem.F.slot_list_append PySem.F.type_list_append mt_append (pv 9) (pa_cons (pe_op op_add_str (pe_op op_mulS (pe_ix (r := rIxS) ix_str (pv 2) (pv 3) (fun _ _ => rfl)) (pe_op op_mod (pv 7) pe_int)) (pv 10)) pa_nil))))))))
      (pss_one (ps_ret (pv 9))))))))))), ?_⟩
    obtain ⟨st, est, hst⟩ := at8 (a / 26 % 8) (Nat.mod_lt _ (by decide))
    have sz8 : a / 208 % 8 < 8 := Nat.mod_lt _ (by decide)
    have szp : (0 : Int) < 1 + (a : Int) / 208 % 8 := by omega
    refine ⟨_, rfl, _, _, rfl, rfl, by show (0 : Int) < 26; decide, by show 8 ≤ sizeLine; decide, fun p np => ?_⟩
    have s1 := Same.new (o := .lst [.int 1, .int 3, .int 5, .int 7, .int 9, .int 11, .int 15, .int 17]) np
    refine ⟨_, rfl, _, _, rfl, rfl, ⟨by decide, by decide⟩, _, _, rfl, rfl, by show (0 : Int) < 8; decide, p, _, _, _, rfl, rfl, SqL.of upd_same, est, ?_⟩
    refine ⟨_, rfl, _, _, rfl, rfl, ⟨by decide, by decide⟩, _, _, rfl, rfl, by show (0 : Int) < 8; decide, _, _, rfl, rfl, ?_⟩
    refine ⟨_, rfl, _, _, rfl, rfl, ⟨by decide, by decide⟩, _, rfl, _, _, rfl, rfl, szp, ?_⟩
    -- the stem
    refine ⟨⟨_, rfl⟩, _, rfl, _, rfl, by omega, by omega, fun D nD => lc_range (lo := 0) (fun i H' => Same (upd H p (.lst [.int 1, .int 3, .int 5, .int 7, .int 9, .int 11, .int 15, .int 17])) H' ∧ ∃ cs : List Nat, cs.length = i ∧ (∀ c ∈ cs, 97 ≤ c ∧ c ≤ 122) ∧ H' D = some (.lst (cs.map fun c => V.str ⟨#[c]⟩))) ⟨Same.new nD, [], rfl, nofun, upd_same⟩ ?_ ?_⟩
    · rintro i H' hi ⟨s2, cs, lc, hc, hD⟩
      refine ⟨rfl, yes_of (iteT ?_)⟩
      refine ⟨_, rfl, _, rfl, _, rfl, _, _, rfl, rfl, a, 20 + (0 + i), congrArg (fun z => [vN a, V.int z]) (by show (20 : Int) + (0 + (i : Int)) = ((20 + (0 + i) : Nat) : Int); omega), ha, by omega, fun n hn => ?_⟩
      refine ⟨_, _, rfl, rfl, by show (0 : Int) < 26; decide, letters, _, _, rfl, rfl, by decide +kernel, let_at _, _, hD, ?_, s2.mut nD, cs ++ [97 + ((n : Int) % 26).toNat], ?_, fun c hcm => ?_, ?_⟩
      · rw [List.length_map]
        exact line_lt (by omega)
      · rw [List.length_append, lc]
        rfl
      · rcases List.mem_append.mp hcm with hcm | hcm
        · exact hc c hcm
        · rw [List.mem_singleton.mp hcm]
          omega
      · rw [upd_same, List.map_append]
        rfl
    rintro H1 ⟨s2, cs, lc, hc, hD⟩
    have lc : cs.length = 1 + a / 208 % 8 := by rw [lc]; omega
    refine ⟨"", D, cs.map fun c => (⟨#[c]⟩ : Str), rfl, rfl, .inl (SqL.of (by rw [List.map_map]; exact hD)), ?_, ?_⟩
    · have e : ((cs.map fun c => (⟨#[c]⟩ : Str)).map (·.length)).sum = cs.length := by
        rw [List.map_map]
        have : ∀ l : List Nat, (l.map ((fun z : Str => z.length) ∘ fun c => (⟨#[c]⟩ : Str))).sum = l.length := fun l => by
          induction l with
          | nil => rfl
          | cons c l ih =>
            rw [List.map_cons, List.sum_cons, ih, List.length_cons]
            show 1 + l.length = l.length + 1
            omega
        exact this cs
      rw [e, List.length_map]
      have : ("" : Str).length = 0 := by rfl
      rw [this]
      omega
    have jn := join_ok (ps := cs.map fun c => [c]) fun p hp => by
      obtain ⟨c, hcm, rfl⟩ := List.mem_map.mp hp
      exact ⟨c, rfl, hc c hcm⟩
    have tj : (Txt.join "" (cs.map fun c => (⟨#[c]⟩ : Str))).cps.toList = TL.joinL [] (cs.map fun c => [c]) := by
      rw [TL.join_eq]
      have := TL.tl_join "" (cs.map fun c => (⟨#[c]⟩ : Str))
      rw [List.map_map] at this
      exact this
    rw [List.length_map, ← tj] at jn
    generalize Txt.join "" (cs.map fun c => (⟨#[c]⟩ : Str)) = stem at jn
    obtain ⟨j1, j2⟩ := jn
    have sl : stem.length = 1 + a / 208 % 8 := by
      have : stem.cps.toList.length = stem.length := Array.length_toList
      omega
    have atlt : a / 1664 % (1 + a / 208 % 8) < 1 + a / 208 % 8 := Nat.mod_lt _ (by omega)
    refine ⟨Nat.zero_le _, fun L nL => ?_⟩
    have s3 : Same H (upd H1 L (.lst [])) := (s1.trans s2).newT nL
    have nL0 := (s1.trans s2).free nL
    refine ⟨_, rfl, _, rfl, by decide, by decide, for_range (lo := 0) (n := 9) (fun i σ H' => ∃ x y, σ = [some (vN a), some (vN 9), some (.str letters), some (.int ((a : Int) % 26)), some (vN st), some (.int (1 + (a : Int) / 208 % 8)), some (.int ((a : Int) / 1664 % (1 + (a : Int) / 208 % 8))), x, some (.str stem), some (.ref L), y] ∧ Same H H' ∧
      ∃ ns : List Str, H' L = some (.lst (ns.map V.str)) ∧ ns.map (fun z => z.cps.toList) = (List.range i).map (fn_ a st (a / 1664 % (1 + a / 208 % 8)) stem.cps.toList)) ⟨_, _, rfl, s3, [], upd_same, rfl⟩ ?_ ?_⟩
    · rintro k σ H' hk ⟨x, y, rfl, s4, ns, hL, en⟩
      have lns : ns.length = k := by
        have := congrArg List.length en
        rw [List.length_map, List.length_map, List.length_range] at this
        exact this
      have ec : 97 + (((a : Int) % 26 + (0 + (k : Int)) * (st : Int)) % 26).toNat = fc a st k := by
        rw [Int.zero_add]
        rfl
      refine ⟨_, rfl, _, rfl, _, rfl, _, rfl, _, _, rfl, rfl, .inl ⟨by omega, by omega⟩, _, _, rfl, rfl, _, _, rfl, rfl, by show (0 : Int) < 26; decide, letters, _, _, rfl, rfl, by decide +kernel, let_at _, ?_⟩
      refine ⟨_, rfl, _, _, rfl, rfl, ⟨by decide, by decide⟩, _, _, rfl, rfl, by show (0 : Int) < 2; decide, rfl, _, rfl, ?_⟩
      have fin : ∀ (z : Str), z.cps.toList = fn_ a st (a / 1664 % (1 + a / 208 % 8)) stem.cps.toList k → ∃ ns' : List Str, (upd H' L (.lst (ns.map V.str ++ [.str z]))) L = some (.lst (ns'.map V.str)) ∧ ns'.map (fun z => z.cps.toList) = (List.range (k + 1)).map (fn_ a st (a / 1664 % (1 + a / 208 % 8)) stem.cps.toList) := fun z ez => by
        refine ⟨ns ++ [z], ?_, ?_⟩
        · rw [upd_same, List.map_append]
          rfl
        · rw [List.map_append, en, List.range_succ, List.map_append]
          show _ ++ [z.cps.toList] = _ ++ [fn_ a st (a / 1664 % (1 + a / 208 % 8)) stem.cps.toList k]
          rw [ez]
      have ltns : (ns.map V.str).length < sizeLine := by
        rw [List.length_map]
        exact line_lt (by omega)
      by_cases br : a / 13312 % 2 = 0
      · rw [decide_eq_true (show V.int ((a : Int) / 13312 % 2) = V.int 0 from congrArg V.int (by omega))]
        refine iteT ⟨_, rfl, .inl ⟨rfl, _, SqL.of hL⟩, _, rfl, _, rfl, _, rfl, stem, rfl, line_of (by omega), ?_⟩
        refine ⟨_, rfl, _, _, rfl, rfl, ?_, ?_⟩
        · have := cutS_length stem none (some ((a : Int) / 1664 % (1 + (a : Int) / 208 % 8)))
          show _ + 1 ≤ sizeLine
          exact line_of (by omega)
        refine ⟨_, rfl, _, rfl, _, _, rfl, rfl, _, rfl, stem, rfl, line_of (by omega), _, _, rfl, rfl, ?_, ?_⟩
        · have h1 := cutS_length stem none (some ((a : Int) / 1664 % (1 + (a : Int) / 208 % 8)))
          have h2 := cutS_length stem (some ((a : Int) / 1664 % (1 + (a : Int) / 208 % 8) + 1)) none
          refine line_of ?_
          rw [slen_app]
          show _ + 1 + _ ≤ 100000
          omega
        · refine ⟨L, _, _, rfl, rfl, hL, ltns, _, _, rfl, s4.mut nL0, fin _ ?_⟩
          rw [TL.tl_append', TL.tl_append', ec]
          unfold fn_
          rw [if_pos br]
          have e1 := cut_lo stem (a / 1664 % (1 + a / 208 % 8))
          have e2 := cut_hi stem (a / 1664 % (1 + a / 208 % 8) + 1)
          exact congr (congrArg HAppend.hAppend (congr (congrArg HAppend.hAppend e1) rfl)) e2
      · rw [decide_eq_false (show ¬ V.int ((a : Int) / 13312 % 2) = V.int 0 from fun z => br (by injection z with z; omega))]
        refine iteF ⟨_, rfl, .inl ⟨rfl, _, SqL.of hL⟩, _, rfl, _, rfl, letters, _, _, rfl, rfl, by decide +kernel, let_at _, _, rfl, _, _, rfl, rfl, by show (0 : Int) < 4; decide, _, k % 4, rfl, ?_, by omega, fun z ez => ?_⟩
        · rw [Int.zero_add]
          rfl
        · have lz : z.length = k % 4 := by
            have := congrArg List.length ez
            rw [List.length_replicate] at this
            rw [← this]
            exact Array.length_toList.symm
          refine ⟨_, rfl, _, _, rfl, rfl, ?_, L, _, _, rfl, rfl, hL, ltns, _, _, rfl, s4.mut nL0, fin _ ?_⟩
          · rw [lz]
            show k % 4 + 1 ≤ sizeLine
            exact line_of (by omega)
          · rw [TL.tl_append', ez, ec]
            unfold fn_
            rw [if_neg br]
            rfl
    · rintro σ H' ⟨x, y, rfl, s4, ns, hL, en⟩
      refine ⟨_, rfl, q _ _ s4 ⟨L, ns, rfl, nL0, hL, nm9_of hst j2 (by rw [j1, lc]; exact atlt) (by omega) en⟩⟩
end
end K24

set_option Elab.async false
set_option linter.all false
set_option maxRecDepth 100000
set_option maxHeartbeats 4000000
/-! The law's helpers: leaves, guards, writes. -/
namespace K24
open PySem PySem.Spec PyProof.Rows L2
structure LfOk (W : Ws) (t : Tm) (k : Nat) : Prop where
  d : dp t ≤ 2
  z : sz t ≤ 3
  w : Wd W t k
structure TwoL (H : Hp) (lb ld : Addr) (bs ds : List Bx) : Prop where
  b : H lb = some (.lst (bs.map fun x => V.ref x.p))
  d : H ld = some (.lst (ds.map fun x => V.ref x.p))
  ab : ∀ x ∈ bs, x.At H
  ad : ∀ x ∈ ds, x.At H
  bd : BD bs ds
  ne : 0 < bs.length
theorem TwoL.same {H H' : Hp} {lb ld : Addr} {bs ds : List Bx} (h : TwoL H lb ld bs ds) (s : Same H H') : TwoL H' lb ld bs ds := ⟨s _ _ h.b, s _ _ h.d, fun x hx => Bx.same s (h.ab x hx), fun x hx => Bx.same s (h.ad x hx), h.bd, h.ne⟩
theorem BD.wb {bs ds : List Bx} (h : BD bs ds) {b : Bx} (hb : b ∈ bs) : wB bs b.n = some b.k := wB_get (List.nodup_append.mp h.nd).1 hb
theorem BD.wd {bs ds : List Bx} (h : BD bs ds) {b : Bx} (hb : b ∈ ds) : wB ds b.n = some b.k := wB_get (List.nodup_append.mp h.nd).2.1 hb
theorem ref_at {bs : List Bx} {j : Nat} (h : j < bs.length) : atI (bs.map fun x => V.ref x.p) (j : Int) = some (.ref bs[j].p) := atI_nat (by rw [List.getElem?_map, List.getElem?_eq_getElem h]; rfl)
section
variable {P : Program} {w : World} {K : PySem.W.Frag} {mg : Str → Option Value} {base : Heap}
def sp_leaf : Sp := fun vs_ H Q _ => ∃ (a k : Nat) (lb ld : Addr) (bs ds : List Bx), vs_ = [vN a, vN k, .ref lb, .ref ld] ∧ a < 2147483647 ∧ 1 ≤ k ∧ k ≤ 64 ∧ TwoL H lb ld bs ds ∧ Ret H Q fun r H' => ∃ t, TmAt H' t r ∧ LfOk (wsOf bs ds) t k
theorem ok_leaf (T : Txt K mg) : Ok P w K mg base "_law_leaf" ["number", "width", "boxes", "doors"] 3 sp_leaf := by
  have G__law_mix : Ok P w K mg base "_law_mix" _ 1 _ := ok_mix T
  have G__law_word : Ok P w K mg base "_law_word" _ 2 _ := ok_word T
  refine T.d__law_leaf.ok sc_law_leaf (fun vs H Q E h => ?_) (fun cdv A outer s H vs_ Q E hr h => ?_)
  · obtain ⟨a, k, lb, ld, bs, ds, rfl, _⟩ := h
    rfl
  · obtain ⟨a, k, lb, ld, bs, ds, rfl, ha, k1, k64, two, q⟩ := h
    refine ⟨_, (pss_cons (ps_set (i := 4) sc_law_leaf.nd rfl (Or.inl rfl) (pe_op op_mod (pv 0) (pe_op op_add (pe_op op_add (pe_op op_mul pe_int (pe_callB (r := rLn K) call_len_seq (by rfl) T.z_len PySem.boot_len (pa_cons (pv 2) pa_nil))) (pe_callB (r := rLn K) call_len_seq (by rfl) T.z_len PySem.boot_len (pa_cons (pv 3) pa_nil))) pe_int)))
      (pss_cons (ps_set (i := 5) sc_law_leaf.nd rfl (Or.inl rfl) (pe_c T.d__law_mix G__law_mix (hr.mono (by omega)) (by rfl) (pa_cons (pv 0) (pa_cons pe_int pa_nil))))
      (pss_cons (ps_if (pt_cmpR op_eq (pv 4) (pe_op op_add (pe_op op_mul pe_int (pe_callB (r := rLn K) call_len_seq (by rfl) T.z_len PySem.boot_len (pa_cons (pv 2) pa_nil))) (pe_callB (r := rLn K) call_len_seq (by rfl) T.z_len PySem.boot_len (pa_cons (pv 3) pa_nil))) (nomark _)) (pss_one (ps_ret (pe_tup (pa_cons pe_str (pa_cons (pv 1) (pa_cons (pe_c T.d__law_word G__law_word (hr.mono (by omega)) (by rfl) (pa_cons (pv 5) (pa_cons (pv 1) pa_nil))) pa_nil)))))) pss_nil)
      (pss_cons (ps_set (i := 6) sc_law_leaf.nd rfl (Or.inl rfl) (pe_tup (pa_cons pe_str (pa_cons (pe_ix (r := rIxT K) ix_tup (pe_ix (r := rIxL K) ix_list (pv 2) (pe_op op_mod (pv 4) (pe_callB (r := rLn K) call_len_seq (by rfl) T.z_len PySem.boot_len (pa_cons (pv 2) pa_nil))) (fun _ _ => rfl)) pe_int (fun _ _ => rfl)) pa_nil))))
      (pss_cons (ps_set (i := 7) sc_law_leaf.nd rfl (Or.inl rfl) (pe_ix (r := rIxT K) ix_tup (pe_ix (r := rIxL K) ix_list (pv 2) (pe_op op_mod (pv 4) (pe_callB (r := rLn K) call_len_seq (by rfl) T.z_len PySem.boot_len (pa_cons (pv 2) pa_nil))) (fun _ _ => rfl)) pe_int (fun _ _ => rfl)))
      (C8.pss_cut (ps_if (pt_cmpR op_ge (pv 4) (pe_op op_mul pe_int (pe_callB (r := rLn K) call_len_seq (by rfl) T.z_len PySem.boot_len (pa_cons (pv 2) pa_nil))) (nomark _)) (pss_cons (ps_set (i := 6) sc_law_leaf.nd rfl (Or.inl rfl) (pe_tup (pa_cons pe_str (pa_cons (pe_ix (r := rIxT K) ix_tup (pe_ix (r := rIxL K) ix_list (pv 3) (pe_op op_sub (pv 4) (pe_op op_mul pe_int (pe_callB (r := rLn K) call_len_seq (by rfl) T.z_len PySem.boot_len (pa_cons (pv 2) pa_nil)))) (fun _ _ => rfl)) pe_int (fun _ _ => rfl)) pa_nil))))
      (pss_one (ps_set (i := 7) sc_law_leaf.nd rfl (Or.inl rfl) (pe_ix (r := rIxT K) ix_tup (pe_ix (r := rIxL K) ix_list (pv 3) (pe_op op_sub (pv 4) (pe_op op_mul pe_int (pe_callB (r := rLn K) call_len_seq (by rfl) T.z_len PySem.boot_len (pa_cons (pv 2) pa_nil)))) (fun _ _ => rfl)) pe_int (fun _ _ => rfl))))) (pss_one (ps_if (pt_cmpR op_ge (pv 4) (pe_callB (r := rLn K) call_len_seq (by rfl) T.z_len PySem.boot_len (pa_cons (pv 2) pa_nil)) (nomark _)) (pss_one (ps_set (i := 6) sc_law_leaf.nd rfl (Or.inl rfl) (pe_tup (pa_cons pe_str (pa_cons (pe_ix (r := rIxT K) ix_tup (pv 6) pe_int (fun _ _ => rfl)) pa_nil))))) pss_nil)))
      (pss_cons (ps_if (pt_cmpR op_gt (pv 7) (pv 1) (nomark _)) (pss_one (ps_ret (pe_tup (pa_cons pe_str (pa_cons (pv 6) (pa_cons (pe_op op_mod (pv 5) (pe_op op_add (pe_op op_sub (pv 7) (pv 1)) pe_int)) (pa_cons (pv 1) pa_nil))))))) pss_nil)
      (pss_cons (ps_if (pt_cmpR op_lt (pv 7) (pv 1) (nomark _)) (pss_one (ps_ret (pe_tup (pa_cons pe_str (pa_cons (pe_tup (pa_cons pe_str (pa_cons (pe_op op_sub (pv 1) (pv 7)) (pa_cons (pe_op op_mod (pv 5) pe_int) pa_nil)))) (pa_cons (pv 6) pa_nil)))))) pss_nil)
      (pss_one (ps_ret (pv 6))))))))))), ?_⟩
    have bd := two.bd
    have nb := two.ne
    have lb12 := bd.lb
    have ld6 := bd.ld
    obtain ⟨j, ej, hj⟩ := modN (a : Int) (m := 2 * bs.length + ds.length + 1) (by omega)
    have ej : (a : Int) % (2 * (bs.length : Int) + (ds.length : Int) + 1) = (j : Int) := ej
    have eb : (bs.map fun x => V.ref x.p).length = bs.length := List.length_map _
    have ed : (ds.map fun x => V.ref x.p).length = ds.length := List.length_map _
    refine ⟨_, rfl, _, rfl, lb, _, rfl, .inl (SqL.of two.b), _, _, rfl, rfl, .inl ⟨by decide, by decide⟩, _, rfl, ld, _, rfl, .inl (SqL.of two.d), _, _, rfl, rfl, _, _, rfl, rfl, _, _, rfl, rfl, ?_, ?_⟩
    · rw [eb, ed]
      omega
    rw [eb, ed]
    dsimp only
    rw [ej]
    refine ⟨_, rfl, a, 9, rfl, ha, by decide, fun mo hmo => ?_⟩
    refine ⟨_, rfl, _, rfl, lb, _, rfl, .inl (SqL.of two.b), _, _, rfl, rfl, .inl ⟨by decide, by decide⟩, _, rfl, ld, _, rfl, .inl (SqL.of two.d), _, _, rfl, rfl, rfl, _, rfl, ?_⟩
    rw [eb, ed]
    by_cases c1 : j = 2 * bs.length + ds.length
    · rw [decide_eq_true (show V.int (j : Int) = V.int (2 * (bs.length : Int) + (ds.length : Int)) from congrArg V.int (by omega))]
      refine iteT ⟨_, rfl, _, rfl, _, rfl, mo, k, rfl, by omega, k64, fun r H1 s1 ⟨n, er, hn⟩ => ?_⟩
      subst er
      exact ⟨by show 3 ≤ sizeLine; decide, fun p np => q _ _ (s1.newT np) ⟨.num k n, ⟨p, rfl, upd_same⟩, by show 1 ≤ 2; decide, by show 1 ≤ 3; decide, ⟨rfl, k1, k64, hn⟩⟩⟩
    rw [decide_eq_false (show ¬ V.int (j : Int) = V.int (2 * (bs.length : Int) + (ds.length : Int)) from fun z => c1 (by injection z with z; omega))]
    refine iteF ?_
    have hm : j % bs.length < bs.length := Nat.mod_lt _ nb
    have hbm := List.getElem_mem hm
    have hba := two.ab _ hbm
    refine ⟨_, rfl, _, rfl, _, rfl, lb, _, rfl, .inl (SqL.of two.b), _, _, rfl, rfl, ?_, lb, _, _, _, rfl, rfl, SqL.of two.b, ?_, bs[j % bs.length].p, _, 0, _, rfl, rfl, SqT.of hba, atI_nat (j := 0) rfl, by show 2 ≤ sizeLine; decide, fun p np => ?_⟩
    · rw [eb]
      omega
    · rw [eb]
      exact ref_at hm
    have s1 := Same.new (o := .tup [.str "box", .str bs[j % bs.length].n]) np
    have hp1 : (upd H p (.tup [.str "box", .str bs[j % bs.length].n])) p = some (.tup [.str (srS .box), .str bs[j % bs.length].n]) := upd_same
    have two1 := two.same s1
    generalize (upd H p (.tup [.str "box", .str bs[j % bs.length].n])) = H1 at s1 hp1 two1
    refine ⟨_, rfl, _, rfl, _, rfl, lb, _, rfl, .inl (SqL.of two1.b), _, _, rfl, rfl, ?_, lb, _, _, _, rfl, rfl, SqL.of two1.b, ?_, bs[j % bs.length].p, _, 1, _, rfl, rfl, SqT.of (two1.ab _ hbm), atI_nat (j := 1) rfl, ?_⟩
    · rw [eb]
      omega
    · rw [eb]
      exact ref_at hm
    -- the leaf, then the rest
    refine ⟨fun σ H' => ∃ (p : Addr) (s : Sr) (n : Str) (h : Nat), σ = [some (vN a), some (vN k), some (.ref lb), some (.ref ld), some (vN j), some (vN mo), some (.ref p), some (vN h)] ∧ Same H H' ∧ H' p = some (.tup [.str (srS s), .str n]) ∧ (wsOf bs ds).of s n = some h, ?_, ?_⟩
    · refine ⟨_, rfl, _, rfl, lb, _, rfl, .inl (SqL.of two1.b), _, _, rfl, rfl, .inl ⟨by decide, by decide⟩, _, _, rfl, rfl, _, rfl, ?_⟩
      rw [eb]
      by_cases c2 : 2 * bs.length ≤ j
      · rw [decide_eq_true (show 2 * (bs.length : Int) ≤ (j : Int) by omega)]
        have hd : j - 2 * bs.length < ds.length := by omega
        have hdm := List.getElem_mem hd
        refine iteT ⟨_, rfl, _, rfl, _, rfl, lb, _, rfl, .inl (SqL.of two1.b), _, _, rfl, rfl, .inl ⟨by decide, by decide⟩, _, _, rfl, rfl, ld, _, _, _, rfl, rfl, SqL.of two1.d, ?_, ds[j - 2 * bs.length].p, _, 0, _, rfl, rfl, SqT.of (two1.ad _ hdm), atI_nat (j := 0) rfl, by show 2 ≤ sizeLine; decide, fun p2 np2 => ?_⟩
        · rw [eb, show (j : Int) - 2 * (bs.length : Int) = ((j - 2 * bs.length : Nat) : Int) by omega]
          exact ref_at hd
        have s2 := Same.new (o := .tup [.str "door", .str ds[j - 2 * bs.length].n]) np2
        have two2 := two1.same s2
        refine ⟨_, rfl, _, rfl, _, rfl, lb, _, rfl, .inl (SqL.of two2.b), _, _, rfl, rfl, .inl ⟨by decide, by decide⟩, _, _, rfl, rfl, ld, _, _, _, rfl, rfl, SqL.of two2.d, ?_, ds[j - 2 * bs.length].p, _, 1, _, rfl, rfl, SqT.of (two2.ad _ hdm), atI_nat (j := 1) rfl, ?_⟩
        · rw [eb, show (j : Int) - 2 * (bs.length : Int) = ((j - 2 * bs.length : Nat) : Int) by omega]
          exact ref_at hd
        exact ⟨p2, .door, _, _, rfl, s1.trans s2, upd_same, bd.wd hdm⟩
      · rw [decide_eq_false (show ¬ 2 * (bs.length : Int) ≤ (j : Int) by omega)]
        refine iteF ⟨_, rfl, _, rfl, lb, _, rfl, .inl (SqL.of two1.b), _, _, rfl, rfl, _, rfl, ?_⟩
        rw [eb]
        by_cases c3 : bs.length ≤ j
        · rw [decide_eq_true (show (bs.length : Int) ≤ (j : Int) by omega)]
          refine iteT ⟨_, rfl, p, _, 1, _, rfl, rfl, SqT.of hp1, rfl, by show 2 ≤ sizeLine; decide, fun p2 np2 => ?_⟩
          exact ⟨p2, .late, _, _, rfl, s1.newT np2, upd_same, bd.wb hbm⟩
        · rw [decide_eq_false (show ¬ (bs.length : Int) ≤ (j : Int) by omega)]
          exact iteF ⟨p, .box, _, _, rfl, s1, hp1, bd.wb hbm⟩
    · rintro σ H2 ⟨p2, s, n, h, rfl, s2, hp2, hw⟩
      have hb := bd.ok s n h hw
      have lf : TmAt H2 (.leaf s n) (.ref p2) := ⟨p2, rfl, hp2⟩
      refine ⟨_, rfl, _, rfl, _, _, rfl, rfl, _, rfl, ?_⟩
      by_cases g1 : k < h
      · rw [decide_eq_true (show (k : Int) < (h : Int) by omega)]
        refine iteT ⟨_, rfl, _, rfl, _, rfl, _, rfl, _, _, rfl, rfl, _, _, rfl, rfl, _, _, rfl, rfl, by omega, _, rfl, by show 4 ≤ sizeLine; decide, fun p3 np3 => ?_⟩
        obtain ⟨lo, el, hl⟩ := modN (mo : Int) (m := h - k + 1) (by omega)
        have el : (mo : Int) % ((h : Int) - (k : Int) + 1) = (lo : Int) := by
          rw [← el]
          congr 1
          omega
        have s3 := Same.new (H := H2) (o := .tup [.str "part", .ref p2, .int ((mo : Int) % ((h : Int) - (k : Int) + 1)), vN k]) np3
        refine q _ _ (s2.newT np3) ⟨.part (.leaf s n) lo k, ⟨p3, .ref p2, rfl, ?_, TmAt.same s3 lf⟩, by show 2 ≤ 2; decide, by show 2 ≤ 3; decide, ⟨rfl, k1, h, hw, by omega⟩⟩
        rw [upd_same]
        exact congrArg (fun z => some (HO.tup [V.str "part", V.ref p2, V.int z, vN k])) el
      rw [decide_eq_false (show ¬ (k : Int) < (h : Int) by omega)]
      refine iteF ⟨_, rfl, _, rfl, _, _, rfl, rfl, _, rfl, ?_⟩
      by_cases g2 : h < k
      · rw [decide_eq_true (show (h : Int) < (k : Int) by omega)]
        refine iteT ⟨_, rfl, _, rfl, _, _, rfl, rfl, _, rfl, _, _, rfl, rfl, by show (0 : Int) < 2; decide, by show 3 ≤ sizeLine; decide, fun p3 np3 => ?_⟩
        have s3 := Same.new (H := H2) (o := .tup [.str "num", .int ((k : Int) - (h : Int)), .int ((mo : Int) % 2)]) np3
        refine ⟨_, rfl, by show 3 ≤ sizeLine; decide, fun p4 np4 => ?_⟩
        have s4 := Same.new (H := upd H2 p3 (.tup [.str "num", .int ((k : Int) - (h : Int)), .int ((mo : Int) % 2)])) (o := .tup [.str "join", .ref p3, .ref p2]) np4
        refine q _ _ ((s2.trans s3).trans s4) ⟨.bin .join (.num (k - h) (mo % 2)) (.leaf s n), ⟨p4, .ref p3, .ref p2, rfl, upd_same, ⟨p3, rfl, s4 _ _ ?_⟩, TmAt.same (s3.trans s4) lf⟩, by show 2 ≤ 2; decide, by show 3 ≤ 3; decide, ⟨k - h, h, ⟨rfl, by omega, by omega, ?_⟩, hw, by omega, k64⟩⟩
        · rw [upd_same, show (k : Int) - (h : Int) = ((k - h : Nat) : Int) by omega]
          rfl
        · have h1 : mo % 2 < 2 := Nat.mod_lt _ (by decide)
          have h2 : 2 ^ 1 ≤ 2 ^ (k - h) := Nat.pow_le_pow_right (by decide) (by omega)
          omega
      rw [decide_eq_false (show ¬ (h : Int) < (k : Int) by omega)]
      have : h = k := by omega
      subst this
      exact iteF ⟨_, rfl, q _ _ s2 ⟨.leaf s n, lf, by show 1 ≤ 2; decide, by show 1 ≤ 3; decide, hw⟩⟩
end
end K24

set_option Elab.async false
set_option linter.all false
set_option maxRecDepth 100000
set_option maxHeartbeats 4000000
/-! The law's helpers: guards, writes. -/
namespace K24
open PySem PySem.Spec PyProof.Rows L2
structure GdOk (W : Ws) (t : Tm) : Prop where
  d : dp t ≤ 4
  z : sz t ≤ 11
  w : Wd W t 1
theorem Wr.keep {H H' : Hp} (k : ∀ b o, H b = some o → (∀ xs, o ≠ .lst xs) → H' b = some o) {x : Wr} (h : x.At H) : x.At H' := ⟨k _ _ h.1 nofun, tm_keep k h.2⟩
section
variable {P : Program} {w : World} {K : PySem.W.Frag} {mg : Str → Option Value} {base : Heap}
def sp_guard : Sp := fun vs_ H Q _ => ∃ (a : Nat) (lb ld : Addr) (bs ds : List Bx), vs_ = [vN a, .ref lb, .ref ld] ∧ a < 2147483647 ∧ TwoL H lb ld bs ds ∧ Ret H Q fun r H' => ∃ t, TmAt H' t r ∧ GdOk (wsOf bs ds) t
theorem ok_guard (T : Txt K mg) : Ok P w K mg base "_law_guard" ["number", "boxes", "doors"] 4 sp_guard := by
  have G__law_mix : Ok P w K mg base "_law_mix" _ 1 _ := ok_mix T
  have G__law_leaf : Ok P w K mg base "_law_leaf" _ 3 _ := ok_leaf T
  refine T.d__law_guard.ok sc_law_guard (fun vs H Q E h => ?_) (fun cdv A outer s H vs_ Q E hr h => ?_)
  · obtain ⟨a, lb, ld, bs, ds, rfl, _⟩ := h
    rfl
  · obtain ⟨a, lb, ld, bs, ds, rfl, ha, two, q⟩ := h
    refine ⟨_, (pss_cons (ps_set (i := 3) sc_law_guard.nd rfl (Or.inl rfl) (pe_op op_mod (pv 0) pe_int))
      (pss_cons (ps_set (i := 4) sc_law_guard.nd rfl (Or.inl rfl) pe_int)
      (C8.pss_cut (ps_if (pt_cmpR op_gt (pv 3) pe_int (nomark _)) (pss_one (ps_set (i := 4) sc_law_guard.nd rfl (Or.inl rfl) (pe_ix (r := rIxT K) ix_tup (pe_ix (r := rIxL K) ix_list (pv 1) (pe_op op_mod (pe_c T.d__law_mix G__law_mix (hr.mono (by omega)) (by rfl) (pa_cons (pv 0) (pa_cons pe_int pa_nil))) (pe_callB (r := rLn K) call_len_seq (by rfl) T.z_len PySem.boot_len (pa_cons (pv 1) pa_nil))) (fun _ _ => rfl)) pe_int (fun _ _ => rfl)))) pss_nil)
      (pss_cons (ps_set (i := 5) sc_law_guard.nd rfl (Or.inl rfl) (pe_c T.d__law_leaf G__law_leaf (hr.mono (by omega)) (by rfl) (pa_cons (pe_c T.d__law_mix G__law_mix (hr.mono (by omega)) (by rfl) (pa_cons (pv 0) (pa_cons pe_int pa_nil))) (pa_cons (pv 4) (pa_cons (pv 1) (pa_cons (pv 2) pa_nil))))))
      (pss_cons (ps_set (i := 6) sc_law_guard.nd rfl (Or.inl rfl) (pe_c T.d__law_leaf G__law_leaf (hr.mono (by omega)) (by rfl) (pa_cons (pe_c T.d__law_mix G__law_mix (hr.mono (by omega)) (by rfl) (pa_cons (pv 0) (pa_cons pe_int pa_nil))) (pa_cons (pv 4) (pa_cons (pv 1) (pa_cons (pv 2) pa_nil))))))
      (pss_cons (ps_if (pt_cmpR op_eq (pv 3) pe_int (nomark _)) (pss_one (ps_ret (pv 5))) pss_nil)
      (pss_cons (ps_if (pt_cmpR op_eq (pv 3) pe_int (nomark _)) (pss_one (ps_ret (pe_tup (pa_cons pe_str (pa_cons (pv 5) pa_nil))))) pss_nil)
      (pss_cons (ps_if (pt_cmpR op_eq (pv 3) pe_int (nomark _)) (pss_one (ps_ret (pe_tup (pa_cons pe_str (pa_cons (pe_tup (pa_cons pe_str (pa_cons (pv 5) (pa_cons (pv 6) pa_nil)))) (pa_cons (pv 5) pa_nil)))))) pss_nil)
      (pss_one (ps_ret (pe_tup (pa_cons (pe_ix (r := rIxL K) ix_list (pe_lst (pa_cons pe_non (pa_cons pe_non (pa_cons pe_str (pa_cons pe_str (pa_cons pe_str (pa_cons pe_str pa_nil))))))) (pv 3) (fun _ _ => rfl)) (pa_cons (pv 5) (pa_cons (pv 6) pa_nil)))))))))))))), ?_⟩
    have bd := two.bd
    have eb : (bs.map fun x => V.ref x.p).length = bs.length := List.length_map _
    have w7 : a % 7 < 7 := Nat.mod_lt _ (by decide)
    refine ⟨_, rfl, _, _, rfl, rfl, by show (0 : Int) < 7; decide, ?_⟩
    refine ⟨fun σ H' => ∃ wd : Nat, σ = [some (vN a), some (.ref lb), some (.ref ld), some (vN (a % 7)), some (vN wd), none, none] ∧ Same H H' ∧ 1 ≤ wd ∧ wd ≤ 64 ∧ (a % 7 ≤ 3 → wd = 1), ?_, ?_⟩
    · refine ⟨_, rfl, _, _, rfl, rfl, _, rfl, ?_⟩
      by_cases c : 3 < a % 7
      · rw [decide_eq_true (show (3 : Int) < (a : Int) % 7 by omega)]
        refine iteT ⟨_, rfl, _, rfl, a, 1, rfl, ha, by decide, fun m hm => ?_⟩
        have hm' : m % bs.length < bs.length := Nat.mod_lt _ two.ne
        have hbm := List.getElem_mem hm'
        obtain ⟨k1, k2⟩ := bd.bk _ hbm
        have nb := two.ne
        refine ⟨_, rfl, lb, _, rfl, .inl (SqL.of two.b), _, _, rfl, rfl, ?_, lb, _, _, V.ref (bs[m % bs.length]'hm').p, rfl, rfl, SqL.of two.b, ?_, _, _, 1, _, rfl, rfl, SqT.of (two.ab _ hbm), atI_nat (j := 1) rfl, _, rfl, Same.refl H, k1, k2, fun z => absurd z (by omega)⟩
        · rw [eb]
          omega
        · rw [eb]
          exact ref_at hm'
      · rw [decide_eq_false (show ¬ (3 : Int) < (a : Int) % 7 by omega)]
        exact iteF ⟨1, rfl, Same.refl H, Nat.le_refl 1, by decide, fun _ => rfl⟩
    · rintro σ H1 ⟨wd, rfl, s1, wd1, wd64, wdw⟩
      have two1 := two.same s1
      refine ⟨_, rfl, a, 2, rfl, ha, by decide, fun m2 hm2 => ?_⟩
      refine ⟨_, rfl, _, rfl, _, rfl, m2, wd, lb, ld, bs, ds, rfl, by omega, wd1, wd64, two1, fun one H2 s2 ⟨t1, ht1, lf1⟩ => ?_⟩
      refine ⟨_, rfl, a, 3, rfl, ha, by decide, fun m3 hm3 => ?_⟩
      refine ⟨_, rfl, _, rfl, _, rfl, m3, wd, lb, ld, bs, ds, rfl, by omega, wd1, wd64, two1.same s2, fun tw_ H3 s3 ⟨t2, ht2, lf2⟩ => ?_⟩
      have h13 := TmAt.same s3 ht1
      have s03 := (s1.trans s2).trans s3
      have d1 := lf1.d
      have d2 := lf2.d
      have z1 := lf1.z
      have z2 := lf2.z
      have pick : ∀ (o : Op), (a % 7 = 2 ∧ o = .and) ∨ (a % 7 = 3 ∧ o = .or) ∨ (a % 7 = 4 ∧ o = .less) ∨ (a % 7 = 5 ∧ o = .same) → Wd (wsOf bs ds) (.bin o t1 t2) 1 := fun o h => by
        rcases h with ⟨e, rfl⟩ | ⟨e, rfl⟩ | ⟨e, rfl⟩ | ⟨e, rfl⟩
        · have := wdw (by omega)
          subst this
          exact ⟨lf1.w, lf2.w⟩
        · have := wdw (by omega)
          subst this
          exact ⟨lf1.w, lf2.w⟩
        · exact ⟨rfl, wd, lf1.w, lf2.w⟩
        · exact ⟨rfl, wd, lf1.w, lf2.w⟩
      refine ⟨_, rfl, rfl, _, rfl, ?_⟩
      by_cases c0 : a % 7 = 0
      · rw [decide_eq_true (show vN (a % 7) = V.int 0 from congrArg V.int (by omega))]
        have := wdw (by omega)
        subst this
        exact iteT ⟨_, rfl, q _ _ s03 ⟨t1, h13, by omega, by omega, lf1.w⟩⟩
      rw [decide_eq_false (show ¬ vN (a % 7) = V.int 0 from fun z => c0 (by injection z with z; omega))]
      refine iteF ⟨_, rfl, rfl, _, rfl, ?_⟩
      by_cases c1 : a % 7 = 1
      · rw [decide_eq_true (show vN (a % 7) = V.int 1 from congrArg V.int (by omega))]
        have := wdw (by omega)
        subst this
        refine iteT ⟨_, rfl, by show 2 ≤ sizeLine; decide, fun p np => ?_⟩
        exact q _ _ (s03.newT np) ⟨.not t1, ⟨p, one, rfl, upd_same, TmAt.same (Same.new np) h13⟩, by show dp t1 + 1 ≤ 4; omega, by show sz t1 + 1 ≤ 11; omega, lf1.w⟩
      rw [decide_eq_false (show ¬ vN (a % 7) = V.int 1 from fun z => c1 (by injection z with z; omega))]
      refine iteF ⟨_, rfl, rfl, _, rfl, ?_⟩
      by_cases c6 : a % 7 = 6
      · rw [decide_eq_true (show vN (a % 7) = V.int 6 from congrArg V.int (by omega))]
        refine iteT ⟨_, rfl, _, rfl, by show 3 ≤ sizeLine; decide, fun p np => ⟨_, rfl, by show 3 ≤ sizeLine; decide, fun p2 np2 => ?_⟩⟩
        have u1 := Same.new (H := H3) (o := .tup [.str "plus", one, tw_]) np
        have u2 := Same.new (H := upd H3 p (.tup [.str "plus", one, tw_])) (o := .tup [.str "less", .ref p, one]) np2
        refine q _ _ ((s03.trans u1).trans u2) ⟨.bin .less (.bin .plus t1 t2) t1, ⟨p2, .ref p, one, rfl, upd_same, ⟨p, one, tw_, rfl, u2 _ _ upd_same, TmAt.same (u1.trans u2) h13, TmAt.same (u1.trans u2) ht2⟩, TmAt.same (u1.trans u2) h13⟩, ?_, ?_, ⟨rfl, wd, ⟨lf1.w, lf2.w⟩, lf1.w⟩⟩
        · show max (max (dp t1) (dp t2) + 1) (dp t1) + 1 ≤ 4
          omega
        · show (sz t1 + sz t2 + 1) + sz t1 + 1 ≤ 11
          omega
      rw [decide_eq_false (show ¬ vN (a % 7) = V.int 6 from fun z => c6 (by injection z with z; omega))]
      refine iteF ⟨by show 6 ≤ sizeLine; decide, fun p np => ?_⟩
      have u1 := Same.new (H := H3) (o := .lst [.non, .non, .str "and", .str "or", .str "less", .str "same"]) np
      have fin : ∀ (o : Op), (a % 7 = 2 ∧ o = .and) ∨ (a % 7 = 3 ∧ o = .or) ∨ (a % 7 = 4 ∧ o = .less) ∨ (a % 7 = 5 ∧ o = .same) → ∀ p2, (upd H3 p (.lst [.non, .non, .str "and", .str "or", .str "less", .str "same"])) p2 = none → Q (.ref p2) (upd (upd H3 p (.lst [.non, .non, .str "and", .str "or", .str "less", .str "same"])) p2 (.tup [.str (formS o), one, tw_])) := fun o ho p2 np2 => by
        have u2 := Same.new (H := upd H3 p (.lst [.non, .non, .str "and", .str "or", .str "less", .str "same"])) (o := .tup [.str (formS o), one, tw_]) np2
        refine q _ _ ((s03.trans u1).trans u2) ⟨.bin o t1 t2, ⟨p2, one, tw_, rfl, upd_same, TmAt.same (u1.trans u2) h13, TmAt.same (u1.trans u2) ht2⟩, ?_, ?_, pick o ho⟩
        · show max (dp t1) (dp t2) + 1 ≤ 4
          omega
        · show sz t1 + sz t2 + 1 ≤ 11
          omega
      have at6 : ∃ o : Op, ((a % 7 = 2 ∧ o = .and) ∨ (a % 7 = 3 ∧ o = .or) ∨ (a % 7 = 4 ∧ o = .less) ∨ (a % 7 = 5 ∧ o = .same)) ∧ atI [V.non, V.non, V.str "and", V.str "or", V.str "less", V.str "same"] ((a % 7 : Nat) : Int) = some (.str (formS o)) := by
        have : a % 7 = 2 ∨ a % 7 = 3 ∨ a % 7 = 4 ∨ a % 7 = 5 := by omega
        rcases this with e | e | e | e
        · exact ⟨.and, .inl ⟨e, rfl⟩, by rw [e]; rfl⟩
        · exact ⟨.or, .inr (.inl ⟨e, rfl⟩), by rw [e]; rfl⟩
        · exact ⟨.less, .inr (.inr (.inl ⟨e, rfl⟩)), by rw [e]; rfl⟩
        · exact ⟨.same, .inr (.inr (.inr ⟨e, rfl⟩)), by rw [e]; rfl⟩
      obtain ⟨o, ho, hat⟩ := at6
      exact ⟨_, rfl, p, _, _, _, rfl, rfl, SqL.of upd_same, hat, _, rfl, _, rfl, by show 3 ≤ sizeLine; decide, fin o ho⟩
def sp_writes : Sp := fun vs_ H Q _ => ∃ (a : Nat) (lb ld : Addr) (bs ds : List Bx), vs_ = [vN a, .ref lb, .ref ld] ∧ a < 2147483647 ∧ TwoL H lb ld bs ds ∧ bs.length ≤ 6 ∧
  Ret H Q fun r H' => ∃ (p : Addr) (ws : List Wr), r = .ref p ∧ H p = none ∧ H' p = some (.lst (ws.map fun x : Wr => V.ref x.p)) ∧ (∀ x ∈ ws, x.At H') ∧ ws.length ≤ 6 ∧ (ws.map (·.n)).Nodup ∧ ∀ x ∈ ws, ∃ k, wB bs x.n = some k ∧ LfOk (wsOf bs ds) x.t k
theorem ok_writes (T : Txt K mg) : Ok P w K mg base "_law_writes" ["number", "boxes", "doors"] 4 sp_writes := by
  have G__law_mix : Ok P w K mg base "_law_mix" _ 1 _ := ok_mix T
  have G__law_leaf : Ok P w K mg base "_law_leaf" _ 3 _ := ok_leaf T
  refine T.d__law_writes.ok sc_law_writes (fun vs H Q E h => ?_) (fun cdv A outer s H vs_ Q E hr h => ?_)
  · obtain ⟨a, lb, ld, bs, ds, rfl, _⟩ := h
    rfl
  · obtain ⟨a, lb, ld, bs, ds, rfl, ha, two, l6, q⟩ := h
    refine ⟨_, (pss_cons (ps_set (i := 3) sc_law_writes.nd rfl (Or.inl rfl) (pe_lst pa_nil))
      (pss_cons (ps_for PassesOwn.never (by rfl) (pi_range1 (by rfl) T.z_range (pa_cons (pe_callB (r := rLn K) call_len_seq (by rfl) T.z_len PySem.boot_len (pa_cons (pv 1) pa_nil)) pa_nil)) (pg_name (i := 4) sc_law_writes.nd rfl (Or.inl rfl)) (pss_one (ps_if (pt_cmpR op_eq (pe_op op_mod (pe_op op_fdiv (pe_c T.d__law_mix G__law_mix (hr.mono (by omega)) (by rfl) (pa_cons (pv 0) (pa_cons (pe_op op_add pe_int (pv 4)) pa_nil))) pe_int) pe_int) pe_int (nomark _)) (pss_cons (ps_set (i := 5) sc_law_writes.nd rfl (Or.inl rfl) (pe_c T.d__law_leaf G__law_leaf (hr.mono (by omega)) (by rfl) (pa_cons (pe_c T.d__law_mix G__law_mix (hr.mono (by omega)) (by rfl) (pa_cons (pv 0) (pa_cons (pe_op op_add pe_int (pv 4)) pa_nil))) (pa_cons (pe_ix (r := rIxT K) ix_tup (pe_ix (r := rIxL K) ix_list (pv 1) (pv 4) (fun _ _ => rfl)) pe_int (fun _ _ => rfl)) (pa_cons (pv 1) (pa_cons (pv 2) pa_nil))))))
      (pss_one (ps_expr (pe_bm PySem.F.plainAttrs_list PySem.F.slot_list_append PySem.F.type_list_append mt_append (pv 3) (pa_cons (pe_tup (pa_cons (pe_ix (r := rIxT K) ix_tup (pe_ix (r := rIxL K) ix_list (pv 1) (pv 4) (fun _ _ => rfl)) pe_int (fun _ _ => rfl)) (pa_cons (pv 5) pa_nil))) pa_nil))))) pss_nil)))
      (pss_one (ps_ret (pv 3))))), ?_⟩
    have bd := two.bd
    have eb : (bs.map fun x => V.ref x.p).length = bs.length := List.length_map _
    refine ⟨Nat.zero_le _, fun L nL => ?_⟩
    have s0 := Same.new (o := .lst []) nL
    refine ⟨_, rfl, lb, _, rfl, .inl (SqL.of (s0 _ _ two.b)), _, rfl, by omega, by omega, for_range (lo := 0) (fun i σ H' => ∃ x y, σ = [some (vN a), some (.ref lb), some (.ref ld), some (.ref L), x, y] ∧ Same H H' ∧ ∃ ws : List Wr, H' L = some (.lst (ws.map fun x : Wr => V.ref x.p)) ∧ (∀ x ∈ ws, x.At H') ∧
      (ws.map (·.n)).Sublist ((bs.take i).map (·.n)) ∧ ∀ x ∈ ws, ∃ k, wB bs x.n = some k ∧ LfOk (wsOf bs ds) x.t k) ⟨none, none, rfl, s0, [], upd_same, nofun, List.Sublist.refl _, nofun⟩ ?_ ?_⟩
    · rintro i σ H' hi ⟨x, y, rfl, s1, ws, hL, aw, sub, hw⟩
      have hi : i < bs.length := by omega
      have two1 := two.same s1
      have ei : (0 : Int) + (i : Int) = ((i : Nat) : Int) := by omega
      rw [ei]
      refine ⟨_, rfl, _, rfl, _, _, rfl, rfl, a, 30 + i, congrArg (fun z => [vN a, V.int z]) (by show (30 : Int) + (i : Int) = ((30 + i : Nat) : Int); omega), ha, by omega, fun m hm => ?_⟩
      refine ⟨_, _, rfl, rfl, ⟨by decide, by decide⟩, _, _, rfl, rfl, by show (0 : Int) < 2; decide, rfl, _, rfl, ?_⟩
      have eB : bs[i]? = some bs[i] := List.getElem?_eq_getElem hi
      have bm := List.getElem_mem hi
      refine ite2 (fun _ => ?_) (fun _ => ?_)
      · obtain ⟨k1, k64⟩ := bd.bk _ bm
        refine ⟨_, rfl, _, rfl, _, _, rfl, rfl, a, 40 + i, congrArg (fun z => [vN a, V.int z]) (by show (40 : Int) + (i : Int) = ((40 + i : Nat) : Int); omega), ha, by omega, fun m2 hm2 => ?_⟩
        refine ⟨_, rfl, _, rfl, lb, _, _, _, rfl, rfl, SqL.of two1.b, ref_at hi, bs[i].p, _, 1, _, rfl, rfl, SqT.of (two1.ab _ bm), atI_nat (j := 1) rfl, _, rfl, _, rfl, m2, bs[i].k, lb, ld, bs, ds, rfl, by omega, k1, k64, two1, fun v H2 s2 ⟨t, ht, lf⟩ => ?_⟩
        have hL2 := s2 _ _ hL
        have two2 := two1.same s2
        refine ⟨_, rfl, .inl ⟨rfl, _, SqL.of hL2⟩, _, rfl, _, rfl, lb, _, _, _, rfl, rfl, SqL.of two2.b, ref_at hi, bs[i].p, _, 0, _, rfl, rfl, SqT.of (two2.ab _ bm), atI_nat (j := 0) rfl, _, rfl, by show 2 ≤ sizeLine; decide, fun p np => ?_⟩
        have s3 := Same.new (H := H2) (o := .tup [.str bs[i].n, v]) np
        have hL3 := s3 _ _ hL2
        have sle := sub.length_le
        rw [List.length_map, List.length_map, List.length_take] at sle
        refine ⟨L, _, _, rfl, rfl, hL3, ?_, _, _, rfl, ((s1.trans s2).trans s3).mut nL, ws ++ [⟨p, bs[i].n, v, t⟩], ?_, ?_, ?_, ?_⟩
        · rw [List.length_map]
          exact line_lt (by omega)
        · rw [upd_same, List.map_append]
          rfl
        · intro x hx
          rcases List.mem_append.mp hx with hx | hx
          · exact Wr.keep (keepL (s2.trans s3) hL) (aw x hx)
          · rw [List.mem_singleton.mp hx]
            exact Wr.keep (keepL (Same.refl _) hL3) ⟨upd_same, TmAt.same s3 ht⟩
        · rw [take_snoc eB, List.map_append, List.map_append]
          exact List.Sublist.append sub (List.Sublist.refl _)
        · intro x hx
          rcases List.mem_append.mp hx with hx | hx
          · exact hw x hx
          · rw [List.mem_singleton.mp hx]
            exact ⟨_, bd.wb bm, lf⟩
      · refine ⟨_, _, rfl, s1, ws, hL, aw, ?_, hw⟩
        rw [take_snoc eB, List.map_append]
        exact sub.trans (List.sublist_append_left _ _)
    · rintro σ H' ⟨x, y, rfl, s1, ws, hL, aw, sub, hw⟩
      have sub : (ws.map (·.n)).Sublist (bs.map (·.n)) := sub.trans (List.Sublist.map _ (List.take_sublist _ _))
      have sle := sub.length_le
      rw [List.length_map, List.length_map] at sle
      exact ⟨_, rfl, q _ _ s1 ⟨L, ws, rfl, nL, hL, aw, by omega, List.Nodup.sublist sub (List.nodup_append.mp bd.nd).1, hw⟩⟩
end
end K24

set_option Elab.async false
set_option linter.all false
set_option maxRecDepth 100000
set_option maxHeartbeats 4000000
/-! The law's helpers: early terms, found names. -/
namespace K24
open PySem PySem.Spec PyProof.Rows L2
def its : Tm → List (V ⊕ Tm)
  | .num w x => [.inl (.str "num"), .inl (vN w), .inl (vN x)]
  | .leaf s n => [.inl (.str (srS s)), .inl (.str n)]
  | .not t => [.inl (.str "not"), .inr t]
  | .bin o t u => [.inl (.str (formS o)), .inr t, .inr u]
  | .part t l m => [.inl (.str "part"), .inr t, .inl (vN l), .inl (vN m)]
def ItR (H : Hp) (x : V) : V ⊕ Tm → Prop
  | .inl y => x = y
  | .inr c => TmAt H c x
theorem Ea.cons {α : Type} {R : V → α → Prop} {u : V} {x : α} {us : List V} {xs : List α} (h1 : R u x) (h : Ea R us xs) : Ea R (u :: us) (x :: xs) := Ea.app (Ea.one h1) h
theorem Ea.uncons {α : Type} {R : V → α → Prop} {x : α} {us : List V} {xs : List α} (h : Ea R us (x :: xs)) : ∃ u r, us = u :: r ∧ R u x ∧ Ea R r xs := by
  cases us with
  | nil => cases h.1
  | cons u r => exact ⟨u, r, rfl, h.2 0 u x rfl rfl, Nat.succ.inj h.1, fun j v y h1 h2 => h.2 (j + 1) v y h1 h2⟩
theorem Ea.nil_of {α : Type} {R : V → α → Prop} {us : List V} (h : Ea R us ([] : List α)) : us = [] := List.length_eq_zero_iff.mp h.1
theorem tm_its {H : Hp} : ∀ {t : Tm} {v : V}, TmAt H t v → ∃ a xs, v = .ref a ∧ H a = some (.tup xs) ∧ Ea (ItR H) xs (its t)
  | .num w x, v, h => let ⟨a, e, h1⟩ := h; ⟨a, _, e, h1, .cons rfl (.cons rfl (.cons rfl .nil))⟩
  | .leaf s n, v, h => let ⟨a, e, h1⟩ := h; ⟨a, _, e, h1, .cons rfl (.cons rfl .nil)⟩
  | .not t, v, h => let ⟨a, u, e, h1, h2⟩ := h; ⟨a, _, e, h1, .cons rfl (.cons h2 .nil)⟩
  | .bin o t u, v, h => let ⟨a, x, y, e, h1, h2, h3⟩ := h; ⟨a, _, e, h1, .cons rfl (.cons h2 (.cons h3 .nil))⟩
  | .part t l m, v, h => let ⟨a, u, e, h1, h2⟩ := h; ⟨a, _, e, h1, .cons rfl (.cons h2 (.cons rfl (.cons rfl .nil)))⟩
theorem tm_of {H : Hp} {a : Addr} {xs : List V} : ∀ {t : Tm}, H a = some (.tup xs) → Ea (ItR H) xs (its t) → TmAt H t (.ref a)
  | .num w x, h, e => by
    obtain ⟨u1, r1, rfl, h1, e⟩ := e.uncons
    obtain ⟨u2, r2, rfl, h2, e⟩ := e.uncons
    obtain ⟨u3, r3, rfl, h3, e⟩ := e.uncons
    cases e.nil_of
    cases h1
    cases h2
    cases h3
    exact ⟨a, rfl, h⟩
  | .leaf s n, h, e => by
    obtain ⟨u1, r1, rfl, h1, e⟩ := e.uncons
    obtain ⟨u2, r2, rfl, h2, e⟩ := e.uncons
    cases e.nil_of
    cases h1
    cases h2
    exact ⟨a, rfl, h⟩
  | .not t, h, e => by
    obtain ⟨u1, r1, rfl, h1, e⟩ := e.uncons
    obtain ⟨u2, r2, rfl, h2, e⟩ := e.uncons
    cases e.nil_of
    cases h1
    exact ⟨a, u2, rfl, h, h2⟩
  | .bin o t u, h, e => by
    obtain ⟨u1, r1, rfl, h1, e⟩ := e.uncons
    obtain ⟨u2, r2, rfl, h2, e⟩ := e.uncons
    obtain ⟨u3, r3, rfl, h3, e⟩ := e.uncons
    cases e.nil_of
    cases h1
    exact ⟨a, u2, u3, rfl, h, h2, h3⟩
  | .part t l m, h, e => by
    obtain ⟨u1, r1, rfl, h1, e⟩ := e.uncons
    obtain ⟨u2, r2, rfl, h2, e⟩ := e.uncons
    obtain ⟨u3, r3, rfl, h3, e⟩ := e.uncons
    obtain ⟨u4, r4, rfl, h4, e⟩ := e.uncons
    cases e.nil_of
    cases h1
    cases h3
    cases h4
    exact ⟨a, u2, rfl, h, h2⟩
theorem ItR.keep {H H' : Hp} (k : ∀ b o, H b = some o → (∀ xs, o ≠ .lst xs) → H' b = some o) {x : V} {i : V ⊕ Tm} (h : ItR H x i) : ItR H' x i := by
  cases i with
  | inl y => exact h
  | inr c => exact tm_keep k (show TmAt H c x from h)
theorem ItR.same {H H' : Hp} (s : Same H H') {x : V} {i : V ⊕ Tm} (h : ItR H x i) : ItR H' x i := ItR.keep (fun b o e _ => s b o e) h
def Pl (y : V) : Prop := (∃ s, y = .str s) ∨ ∃ i, y = .int i
theorem its_pl {t : Tm} {y : V} (h : (.inl y : V ⊕ Tm) ∈ its t) : Pl y := by
  cases t with
  | num w x =>
    have h : (.inl y : V ⊕ Tm) ∈ [.inl (.str "num"), .inl (vN w), .inl (vN x)] := h
    simp only [List.mem_cons, Sum.inl.injEq, List.not_mem_nil, or_false] at h
    rcases h with rfl | rfl | rfl
    · exact .inl ⟨_, rfl⟩
    · exact .inr ⟨_, rfl⟩
    · exact .inr ⟨_, rfl⟩
  | leaf s n =>
    have h : (.inl y : V ⊕ Tm) ∈ [.inl (.str (srS s)), .inl (.str n)] := h
    simp only [List.mem_cons, Sum.inl.injEq, List.not_mem_nil, or_false] at h
    rcases h with rfl | rfl
    · exact .inl ⟨_, rfl⟩
    · exact .inl ⟨_, rfl⟩
  | not t =>
    have h : (.inl y : V ⊕ Tm) ∈ [.inl (.str "not"), .inr t] := h
    simp only [List.mem_cons, Sum.inl.injEq, List.not_mem_nil, or_false, reduceCtorEq] at h
    exact .inl ⟨_, h⟩
  | bin o t u =>
    have h : (.inl y : V ⊕ Tm) ∈ [.inl (.str (formS o)), .inr t, .inr u] := h
    simp only [List.mem_cons, Sum.inl.injEq, List.not_mem_nil, or_false, reduceCtorEq] at h
    exact .inl ⟨_, h⟩
  | part t l m =>
    have h : (.inl y : V ⊕ Tm) ∈ [.inl (.str "part"), .inr t, .inl (vN l), .inl (vN m)] := h
    simp only [List.mem_cons, Sum.inl.injEq, List.not_mem_nil, or_false, reduceCtorEq, false_or] at h
    rcases h with rfl | rfl | rfl
    · exact .inl ⟨_, rfl⟩
    · exact .inr ⟨_, rfl⟩
    · exact .inr ⟨_, rfl⟩
theorem its_kid {t c : Tm} (h : (.inr c : V ⊕ Tm) ∈ its t) : c ∈ kids t := by
  cases t with
  | num w x =>
    have h : (.inr c : V ⊕ Tm) ∈ [.inl (.str "num"), .inl (vN w), .inl (vN x)] := h
    simp at h
  | leaf s n =>
    have h : (.inr c : V ⊕ Tm) ∈ [.inl (.str (srS s)), .inl (.str n)] := h
    simp at h
  | not t =>
    have h : (.inr c : V ⊕ Tm) ∈ [.inl (.str "not"), .inr t] := h
    simp only [List.mem_cons, Sum.inr.injEq, List.not_mem_nil, or_false, reduceCtorEq, false_or] at h
    rw [h]
    exact List.mem_cons_self
  | bin o t u =>
    have h : (.inr c : V ⊕ Tm) ∈ [.inl (.str (formS o)), .inr t, .inr u] := h
    simp only [List.mem_cons, Sum.inr.injEq, List.not_mem_nil, or_false, reduceCtorEq, false_or] at h
    rcases h with rfl | rfl
    · exact List.mem_cons_self
    · exact List.mem_cons_of_mem _ List.mem_cons_self
  | part t l m =>
    have h : (.inr c : V ⊕ Tm) ∈ [.inl (.str "part"), .inr t, .inl (vN l), .inl (vN m)] := h
    simp only [List.mem_cons, Sum.inr.injEq, List.not_mem_nil, or_false, reduceCtorEq, false_or] at h
    rw [h]
    exact List.mem_cons_self
/-! ### early -/
def eSr : Sr → Sr
  | .late => .box
  | s => s
def earlyT : Tm → Tm
  | .num w x => .num w x
  | .leaf s n => .leaf (eSr s) n
  | .not t => .not (earlyT t)
  | .bin o t u => .bin o (earlyT t) (earlyT u)
  | .part t l m => .part (earlyT t) l m
def em : V ⊕ Tm → V ⊕ Tm
  | .inl y => .inl y
  | .inr c => .inr (earlyT c)
theorem its_em {t : Tm} (h : ∀ n, t ≠ .leaf .late n) : its (earlyT t) = (its t).map em := by
  cases t with
  | num w x => rfl
  | leaf s n =>
    cases s with
    | box => rfl
    | late => exact absurd rfl (h n)
    | door => rfl
  | not t => rfl
  | bin o t u => rfl
  | part t l m => rfl
theorem early_dp : ∀ t : Tm, dp (earlyT t) = dp t
  | .num w x => rfl
  | .leaf s n => rfl
  | .not t => congrArg (· + 1) (early_dp t)
  | .bin o t u => by
    show max (dp (earlyT t)) (dp (earlyT u)) + 1 = max (dp t) (dp u) + 1
    rw [early_dp t, early_dp u]
  | .part t l m => congrArg (· + 1) (early_dp t)
theorem early_sz : ∀ t : Tm, sz (earlyT t) = sz t
  | .num w x => rfl
  | .leaf s n => rfl
  | .not t => congrArg (· + 1) (early_sz t)
  | .bin o t u => by
    show sz (earlyT t) + sz (earlyT u) + 1 = sz t + sz u + 1
    rw [early_sz t, early_sz u]
  | .part t l m => congrArg (· + 1) (early_sz t)
theorem early_wd {W : Ws} : ∀ {t : Tm} {k : Nat}, Wd W t k → Wd W (earlyT t) k
  | .num w x, k, h => h
  | .leaf s n, k, h => by
    cases s with
    | box => exact h
    | late => exact h
    | door => exact h
  | .not t, k, h => early_wd (t := t) h
  | .bin .and t u, k, h => ⟨early_wd h.1, early_wd h.2⟩
  | .bin .or t u, k, h => ⟨early_wd h.1, early_wd h.2⟩
  | .bin .plus t u, k, h => ⟨early_wd h.1, early_wd h.2⟩
  | .bin .less t u, k, h => let ⟨e, j, a, b⟩ := h; ⟨e, j, early_wd a, early_wd b⟩
  | .bin .same t u, k, h => let ⟨e, j, a, b⟩ := h; ⟨e, j, early_wd a, early_wd b⟩
  | .bin .join t u, k, h => let ⟨i, j, a, b, e, l⟩ := h; ⟨i, j, early_wd a, early_wd b, e, l⟩
  | .part t l m, k, h => let ⟨e, h1, j, a, b⟩ := h; ⟨e, h1, j, early_wd a, b⟩
section
variable {P : Program} {w : World} {K : PySem.W.Frag} {mg : Str → Option Value} {base : Heap}
def sp_early (d : Nat) : Sp := fun vs_ H Q _ => ∃ (v : V) (t : Tm), vs_ = [v] ∧ TmAt H t v ∧ dp t ≤ d ∧ Ret H Q fun r H' => TmAt H' (earlyT t) r
theorem pl_ty {K : PySem.W.Frag} {H : Hp} {y : V} (h : Pl y) : ∃ u : Value, TyX K H y u ∧ PySem.W.kitOne K u (.type "tuple") = some false := by
  rcases h with ⟨s, rfl⟩ | ⟨i, rfl⟩
  · exact ⟨_, .base (.str s), by rfl⟩
  · exact ⟨_, .base (.int i), by rfl⟩
theorem ok_early (T : Txt K mg) : ∀ d : Nat, Ok P w K mg base "_law_early" ["term"] (1 + d) (sp_early d)
  | 0 => by
    refine T.d__law_early.ok (k := 0) sc_law_early (fun vs H Q E h => ?_) (fun cdv A outer s H vs_ Q E hr h => ?_)
    · obtain ⟨v, t, rfl, _⟩ := h
      rfl
    · obtain ⟨v, t, rfl, _, hd, _⟩ := h
      cases t <;> cases hd
  | d + 1 => by
    have G__law_early : Ok P w K mg base "_law_early" _ (1 + d) _ := ok_early T d
    refine T.d__law_early.ok (k := 1 + d) sc_law_early (fun vs H Q E h => ?_) (fun cdv A outer s H vs_ Q E hr h => ?_)
    · obtain ⟨v, t, rfl, _⟩ := h
      rfl
    · obtain ⟨v, t, rfl, ht, hd, q⟩ := h
      refine ⟨_, (pss_cons (ps_if (pt_cmpR op_eq (pe_ix (r := rIxT K) ix_tup (pv 0) pe_int (fun _ _ => rfl)) pe_str (nomark _)) (pss_one (ps_ret (pe_tup (pa_cons pe_str (pa_cons (pe_ix (r := rIxT K) ix_tup (pv 0) pe_int (fun _ _ => rfl)) pa_nil))))) pss_nil)
      (pss_cons (ps_set (i := 1) sc_law_early.nd rfl (Or.inl rfl) (pe_lst pa_nil))
      (pss_cons (ps_for PassesOwn.never (by rfl) (pi_tup (pv 0)) (pg_name (i := 2) sc_law_early.nd rfl (Or.inl rfl)) (pss_one (ps_if (pt_val (pe_callB (r := rIsi K) call_isi (by rfl) T.z_isinstance PyProof.Rows.boot_isinstance (pa_cons (pv 2) (pa_cons (pe_bltn (v := .ty "tuple") (by rfl) T.z_tuple PyProof.Rows.boot_tuple rfl) pa_nil)))) (pss_one (ps_expr (pe_bm PySem.F.plainAttrs_list PySem.F.slot_list_append PySem.F.type_list_append mt_append (pv 1) (pa_cons (pe_c T.d__law_early G__law_early (hr.mono (by omega)) (by rfl) (pa_cons (pv 2) pa_nil)) pa_nil)))) (pss_one (ps_expr (pe_bm PySem.F.plainAttrs_list PySem.F.slot_list_append PySem.F.type_list_append mt_append (pv 1) (pa_cons (pv 2) pa_nil)))))))
      (pss_one (ps_ret (pe_callTy (r := rTo K) call_tuple_of (by rfl) T.z_tuple PyProof.Rows.boot_tuple (pa_cons (pv 1) pa_nil))))))), ?_⟩
      obtain ⟨a, xs, rfl, ha, hx⟩ := tm_its ht
      have go : (∀ n, t ≠ .leaf .late n) → (tSeq (tAsg (tLst tNil) (gName 1)) (tSeq (tFor (iTup K (tVar 0)) (gName 2) (tIfS (tTest (tCB (rIsi K) (tCons (tVar 2) (tCons (tC (.ty "tuple")) tNil)))) (tDrop (tBM K "list" rAppend (tVar 1) (tCons (tCall (sp_early d) [] E0 (tCons (tVar 2) tNil)) tNil))) (tDrop (tBM K "list" rAppend (tVar 1) (tCons (tVar 2) tNil)))))
          (tRet (tCB (rTo K) (tCons (tVar 1) tNil))))) { nx := fun _ H' => Q .non H', rt := Q } [some (.ref a), none, none] H := by
        intro nl
        refine ⟨Nat.zero_le _, fun L nL => ?_⟩
        have s0 := Same.new (o := .lst []) nL
        have lx : xs.length ≤ 4 := by
          rw [hx.1]
          cases t <;> first | (show 3 ≤ 4; decide) | (show 2 ≤ 4; decide) | (show 4 ≤ 4; decide)
        refine ⟨_, rfl, a, rfl, ⟨_, SqT.of (s0 _ _ ha)⟩, for_tup (K := K) (a := a) (xs := xs) (fun i σ H' => ∃ x, σ = [some (.ref a), some (.ref L), x] ∧ Same H H' ∧ ∃ ys, H' L = some (.lst ys) ∧ Ea (ItR H') ys (((its t).take i).map em)) ⟨none, rfl, s0, [], upd_same, Ea.nil⟩ (fun i σ H' _ ⟨_, _, s1, _⟩ => SqT.of (s1 _ _ ha)) ?_ ?_⟩
        · rintro i u σ H' hiu ⟨x, rfl, s1, ys, hL, ey⟩
          obtain ⟨it, eit, hr1⟩ := hx.get hiu
          have im := List.mem_of_getElem? eit
          have ilt := (List.getElem?_eq_some_iff.mp hiu).1
          have lys : ys.length < sizeLine := by
            rw [ey.1, List.length_map, List.length_take]
            exact line_lt (by omega)
          refine ⟨_, rfl, ?_⟩
          cases it with
          | inl y =>
            obtain rfl : u = y := hr1
            obtain ⟨cu, hty, hkit⟩ := pl_ty (K := K) (H := H') (its_pl im)
            refine ⟨_, _, _, _, false, rfl, .ty _, hty, hkit, _, rfl, iteF ?_⟩
            refine ⟨_, rfl, .inl ⟨rfl, _, SqL.of hL⟩, _, rfl, L, ys, _, rfl, rfl, hL, lys, _, rfl, s1.mut nL, _, upd_same, ?_⟩
            rw [take_snoc eit, List.map_append]
            exact Ea.app (Ea.mono ey fun _ _ h => ItR.keep (keepL (Same.refl _) hL) h) (Ea.one rfl)
          | inr c =>
            have hc : TmAt H c u := hr1
            have hc1 := TmAt.same s1 hc
            obtain ⟨a2, xs2, rfl, ha2, _⟩ := tm_its hc1
            refine ⟨_, _, _, _, true, rfl, .ty _, .base (.tup ha2), by rfl, _, rfl, iteT ?_⟩
            refine ⟨_, rfl, .inl ⟨rfl, _, SqL.of hL⟩, _, rfl, _, c, rfl, hc1, kids_dp (its_kid im) hd, fun v3 H3 s3 h3 => ?_⟩
            have hL3 := s3 _ _ hL
            refine ⟨L, ys, _, rfl, rfl, hL3, lys, _, rfl, (s1.trans s3).mut nL, _, upd_same, ?_⟩
            rw [take_snoc eit, List.map_append]
            exact Ea.app (Ea.mono ey fun _ _ h => ItR.keep (keepL s3 hL) h) (Ea.one (ItR.keep (i := .inr (earlyT c)) (keepL (Same.refl _) hL3) h3))
        · rintro σ H' ⟨x, rfl, s1, ys, hL, ey⟩
          have e : (its t).take xs.length = its t := by
            rw [hx.1, List.take_length]
          rw [e, ← its_em nl] at ey
          refine ⟨_, rfl, L, ys, rfl, .inl ⟨SqL.of hL, fun l nl2 => ?_⟩⟩
          refine q _ _ (s1.newT nl2) (tm_of upd_same (Ea.mono ey fun _ _ h => ItR.same (Same.new nl2) h))
      cases t with
      | num w' x =>
        obtain ⟨a', e, ha'⟩ := ht
        cases e
        exact rd_no rfl ha' (by decide +kernel) (go nofun)
      | leaf s n =>
        obtain ⟨a', e, ha'⟩ := ht
        cases e
        cases s with
        | box => exact rd_no rfl ha' (by decide +kernel) (go nofun)
        | door => exact rd_no rfl ha' (by decide +kernel) (go nofun)
        | late =>
          refine rd_yes rfl ha' rfl ⟨_, rfl, a, _, 1, _, rfl, rfl, SqT.of ha', rfl, by show 2 ≤ sizeLine; decide, fun p np => ?_⟩
          exact q _ _ (Same.new np) ⟨p, rfl, upd_same⟩
      | not t =>
        obtain ⟨a', u, e, ha', _⟩ := ht
        cases e
        exact rd_no rfl ha' (by decide +kernel) (go nofun)
      | part t l m =>
        obtain ⟨a', u, e, ha', _⟩ := ht
        cases e
        exact rd_no rfl ha' (by decide +kernel) (go nofun)
      | bin o t u =>
        obtain ⟨a', x, y, e, ha', _⟩ := ht
        cases e
        exact rd_no rfl ha' (by cases o <;> decide +kernel) (go nofun)
/-! ### found -/
def fN (s : Sr) : V ⊕ Tm → List Str
  | .inl _ => []
  | .inr c => nms s c
theorem nms_its {s : Sr} {t : Tm} (h : ∀ n, t ≠ .leaf s n) : nms s t = (its t).tail.flatMap (fN s) := by
  cases t with
  | num w x => rfl
  | leaf s' n =>
    show (if s' = s then [n] else []) = []
    by_cases e : s' = s
    · exact absurd (by rw [e]) (h n)
    · rw [if_neg e]
  | not t => exact (List.append_nil _).symm
  | bin o t u =>
    show nms s t ++ nms s u = nms s t ++ (nms s u ++ [])
    rw [List.append_nil]
  | part t l m => exact (List.append_nil _).symm
theorem flat_take_le {α : Type} (f : α → List Str) : ∀ (l : List α) (i : Nat), ((l.take i).flatMap f).length ≤ (l.flatMap f).length
  | [], i => by rw [List.take_nil]; exact Nat.le_refl _
  | x :: l, 0 => Nat.zero_le _
  | x :: l, i + 1 => by
    have := flat_take_le f l i
    rw [List.take_succ_cons, List.flatMap_cons, List.flatMap_cons, List.length_append, List.length_append]
    omega
def sp_found (d : Nat) : Sp := fun vs_ H Q _ => ∃ (s : Sr) (v : V) (t : Tm), vs_ = [v, .str (srS s)] ∧ TmAt H t v ∧ dp t ≤ d ∧ sz t ≤ 1000 ∧ Ret H Q fun r H' => ∃ p, r = .ref p ∧ H' p = some (.lst ((nms s t).map V.str))
theorem ok_found (T : Txt K mg) : ∀ d : Nat, Ok P w K mg base "_law_found" ["term", "sort"] (1 + d) (sp_found d)
  | 0 => by
    refine T.d__law_found.ok (k := 0) sc_law_found (fun vs H Q E h => ?_) (fun cdv A outer s H vs_ Q E hr h => ?_)
    · obtain ⟨s, v, t, rfl, _⟩ := h
      rfl
    · obtain ⟨s, v, t, rfl, _, hd, _⟩ := h
      cases t <;> cases hd
  | d + 1 => by
    have G__law_found : Ok P w K mg base "_law_found" _ (1 + d) _ := ok_found T d
    refine T.d__law_found.ok (k := 1 + d) sc_law_found (fun vs H Q E h => ?_) (fun cdv A outer s H vs_ Q E hr h => ?_)
    · obtain ⟨s, v, t, rfl, _⟩ := h
      rfl
    · obtain ⟨s', v, t, rfl, ht, hd, hz, q⟩ := h
      refine ⟨_, (pss_cons (ps_if (pt_cmpR op_eq (pe_ix (r := rIxT K) ix_tup (pv 0) pe_int (fun _ _ => rfl)) (pv 1) (nomark _)) (pss_one (ps_ret (pe_lst (pa_cons (pe_ix (r := rIxT K) ix_tup (pv 0) pe_int (fun _ _ => rfl)) pa_nil)))) pss_nil)
      (pss_cons (ps_set (i := 2) sc_law_found.nd rfl (Or.inl rfl) (pe_lst pa_nil))
      (pss_cons (ps_for PassesOwn.never (by rfl) (pi_tup (pe_slice (r := rSlT K) sl_tup (pv 0) (po_some pe_int) po_none)) (pg_name (i := 3) sc_law_found.nd rfl (Or.inl rfl)) (pss_one (ps_if (pt_val (pe_callB (r := rIsi K) call_isi (by rfl) T.z_isinstance PyProof.Rows.boot_isinstance (pa_cons (pv 3) (pa_cons (pe_bltn (v := .ty "tuple") (by rfl) T.z_tuple PyProof.Rows.boot_tuple rfl) pa_nil)))) (pss_one (ps_set (i := 2) sc_law_found.nd rfl (Or.inl rfl) (pe_op op_cat (pv 2) (pe_c T.d__law_found G__law_found (hr.mono (by omega)) (by rfl) (pa_cons (pv 3) (pa_cons (pv 1) pa_nil)))))) pss_nil)))
      (pss_one (ps_ret (pv 2)))))), ?_⟩
      obtain ⟨a, xs, rfl, ha, hx⟩ := tm_its ht
      obtain ⟨i0, ir, ei⟩ : ∃ i0 ir, its t = i0 :: ir := by cases t <;> exact ⟨_, _, rfl⟩
      rw [ei] at hx
      obtain ⟨x0, xr, rfl, _, hx⟩ := hx.uncons
      have go : (∀ n, t ≠ .leaf s' n) → (tSeq (tAsg (tLst tNil) (gName 2)) (tSeq (tFor (iTup K (tSl (rSlT K) (tVar 0) (tPart (tC (.int 1))) tNoPart)) (gName 3) (tIfS (tTest (tCB (rIsi K) (tCons (tVar 3) (tCons (tC (.ty "tuple")) tNil)))) (tAsg (tOp rCat (tVar 2) (tCall (sp_found d) [] E0 (tCons (tVar 3) (tCons (tVar 1) tNil)))) (gName 2)) tNext))
          (tRet (tVar 2)))) { nx := fun _ H' => Q .non H', rt := Q } [some (.ref a), some (.str (srS s')), none, none] H := by
        intro nl
        have en := nms_its nl
        rw [ei] at en
        have en : nms s' t = ir.flatMap (fN s') := en
        have nle := nms_le s' t
        refine ⟨Nat.zero_le _, fun L nL => ?_⟩
        have s0 := Same.new (o := .lst []) nL
        refine ⟨_, rfl, _, rfl, a, _, rfl, SqT.of (s0 _ _ ha), fun z => ?_, fun b nb => ?_⟩
        · have z1 : min 1 (x0 :: xr).length = 0 := (HT.sIx_nat (x0 :: xr).length 0 1).symm.trans z.1
          rw [List.length_cons] at z1
          omega
        have ec : cutV (x0 :: xr) (some 1) none = xr := by
          unfold cutV
          have e1 : HT.sIx (x0 :: xr).length 0 (some 1) = 1 := (HT.sIx_nat (x0 :: xr).length 0 1).trans (by rw [List.length_cons]; omega)
          rw [e1]
          show xr.take ((x0 :: xr).length - 1) = xr
          rw [List.length_cons, Nat.add_sub_cancel, List.take_length]
        rw [ec]
        have s1 := s0.newT (o := .tup xr) nb
        have hb : (upd (upd H L (.lst [])) b (.tup xr)) b = some (.tup xr) := upd_same
        have hL : (upd (upd H L (.lst [])) b (.tup xr)) L = some (.lst []) := Same.new nb _ _ upd_same
        generalize (upd (upd H L (.lst [])) b (.tup xr)) = H1 at s1 hb hL
        refine ⟨b, rfl, ⟨_, SqT.of hb⟩, for_tup (K := K) (a := b) (xs := xr) (fun i σ H' => ∃ p x, σ = [some (.ref a), some (.str (srS s')), some (.ref p), x] ∧ Same H1 H' ∧ H' p = some (.lst (((ir.take i).flatMap (fN s')).map V.str))) ⟨L, none, rfl, Same.refl _, hL⟩ (fun i σ H' _ ⟨_, _, _, s1, _⟩ => SqT.of (s1 _ _ hb)) ?_ ?_⟩
        · rintro i u σ H' hiu ⟨p, x, rfl, s2, hp⟩
          obtain ⟨it, eit, hr1⟩ := hx.get hiu
          have im : it ∈ its t := by
            rw [ei]
            exact List.mem_cons_of_mem _ (List.mem_of_getElem? eit)
          refine ⟨_, rfl, ?_⟩
          cases it with
          | inl y =>
            obtain rfl : u = y := hr1
            obtain ⟨cu, hty, hkit⟩ := pl_ty (K := K) (H := H') (its_pl im)
            refine ⟨_, _, _, _, false, rfl, .ty _, hty, hkit, _, rfl, iteF ⟨p, _, rfl, s2, ?_⟩⟩
            rw [take_snoc eit, List.flatMap_append]
            show _ = some (HO.lst ((_ ++ ([] ++ [])).map V.str))
            rw [List.append_nil, List.append_nil]
            exact hp
          | inr c =>
            have hc : TmAt H c u := hr1
            have hc1 := TmAt.same (s1.trans s2) hc
            obtain ⟨a2, xs2, rfl, ha2, _⟩ := tm_its hc1
            refine ⟨_, _, _, _, true, rfl, .ty _, .base (.tup ha2), by rfl, _, rfl, iteT ?_⟩
            refine ⟨_, rfl, _, rfl, _, rfl, s', _, c, rfl, hc1, kids_dp (its_kid im) hd, Nat.le_trans (sz_kid (its_kid im)) hz, fun r H3 s3 ⟨p3, er, hp3⟩ => ?_⟩
            subst er
            have hp4 := s3 _ _ hp
            refine ⟨p, p3, _, _, rfl, rfl, hp4, hp3, ?_, fun p5 np5 => ⟨p5, _, rfl, (s2.trans s3).newT np5, ?_⟩⟩
            · rw [List.length_map, List.length_map]
              have h1 := flat_take_le (fN s') ir i
              rw [← en] at h1
              have h2 := nms_le s' c
              have h3 := sz_kid (its_kid im)
              exact line_of (by omega)
            · rw [upd_same, take_snoc eit, List.flatMap_append, List.map_append]
              show some (HO.lst _) = some (HO.lst (_ ++ ((nms s' c ++ []).map V.str)))
              rw [List.append_nil]
        · rintro σ H' ⟨p, x, rfl, s2, hp⟩
          have e : ir.take xr.length = ir := by
            rw [hx.1, List.take_length]
          rw [e, ← en] at hp
          exact ⟨_, rfl, q _ _ (s1.trans s2) ⟨p, rfl, hp⟩⟩
      clear hx ei
      cases t with
      | num w' x =>
        obtain ⟨a', e, ha'⟩ := ht
        cases e
        exact rt_no rfl rfl ha' (by cases s' <;> decide +kernel) (go nofun)
      | leaf s n =>
        obtain ⟨a', e, ha'⟩ := ht
        cases e
        by_cases es : s = s'
        · subst es
          refine rt_yes rfl rfl ha' rfl ⟨_, rfl, a, _, 1, _, rfl, rfl, SqT.of ha', rfl, by show 1 ≤ sizeLine; decide, fun p np => q _ _ (Same.new np) ⟨p, rfl, ?_⟩⟩
          rw [upd_same]
          show some (HO.lst [V.str n]) = some (HO.lst ((if s = s then [n] else []).map V.str))
          rw [if_pos rfl]
          rfl
        · exact rt_no rfl rfl ha' (by cases s <;> cases s' <;> first | decide +kernel | exact absurd rfl es) (go fun n' e => es (by injection e))
      | not t =>
        obtain ⟨a', u, e, ha', _⟩ := ht
        cases e
        exact rt_no rfl rfl ha' (by cases s' <;> decide +kernel) (go nofun)
      | part t l m =>
        obtain ⟨a', u, e, ha', _⟩ := ht
        cases e
        exact rt_no rfl rfl ha' (by cases s' <;> decide +kernel) (go nofun)
      | bin o t u =>
        obtain ⟨a', x, y, e, ha', _⟩ := ht
        cases e
        exact rt_no rfl rfl ha' (by cases o <;> cases s' <;> decide +kernel) (go nofun)
end
end K24

set_option Elab.async false
set_option linter.all false
set_option maxRecDepth 100000
set_option maxHeartbeats 4000000
/-! The law's helpers: boxes and doors. -/
namespace K24
open PySem PySem.Spec PyProof.Rows L2
structure BxD (H : Hp) (lb ld ln : Addr) (bs ds : List Bx) (ns : List Str) : Prop where
  two : TwoL H lb ld bs ds
  n : H ln = some (.lst (ns.map V.str))
  l : ns.length = 3
  nd : (bs.map (·.n) ++ ds.map (·.n) ++ ns).Nodup
  ok : ∀ n ∈ ns, NmOk n
  b4 : bs.length ≤ 4
theorem cutV_drop (xs : List V) (j : Nat) : cutV xs (some (j : Int)) none = xs.drop j := by
  unfold cutV
  rw [HT.sIx_nat]
  show (xs.drop (min j xs.length)).take (xs.length - min j xs.length) = xs.drop j
  rw [List.take_of_length_le (by rw [List.length_drop]; exact Nat.le_refl _)]
  by_cases h : j ≤ xs.length
  · rw [Nat.min_eq_left h]
  · rw [Nat.min_eq_right (by omega), List.drop_of_length_le (Nat.le_refl _), List.drop_of_length_le (by omega)]
theorem take_sub {α : Type} (l : List α) {i j : Nat} (h : i ≤ j) : (l.take i).Sublist (l.take j) := by
  have e : l.take i = (l.take j).take i := by
    rw [List.take_take, Nat.min_eq_left h]
  rw [e]
  exact List.take_sublist _ _
theorem parts_sub {ns : List Str} {i j : Nat} (h1 : i ≤ 4) (h2 : j ≤ 2) : (ns.take i ++ (ns.drop 4).take j ++ ns.drop 6).Sublist ns := by
  have e : ns = ns.take 4 ++ ((ns.drop 4).take 2 ++ ns.drop 6) := by
    have e1 : (ns.drop 4).drop 2 = ns.drop 6 := by rw [List.drop_drop]
    rw [← e1, List.take_append_drop, List.take_append_drop]
  have q : (ns.take i ++ ((ns.drop 4).take j ++ ns.drop 6)).Sublist (ns.take 4 ++ ((ns.drop 4).take 2 ++ ns.drop 6)) := List.Sublist.append (take_sub _ h1) (List.Sublist.append (take_sub _ h2) (List.Sublist.refl _))
  rw [← e] at q
  rw [List.append_assoc]
  exact q
theorem Bx.keep {H H' : Hp} (k : ∀ b o, H b = some o → (∀ xs, o ≠ .lst xs) → H' b = some o) {x : Bx} (h : x.At H) : x.At H' := k _ _ h nofun
section
variable {P : Program} {w : World} {K : PySem.W.Frag} {mg : Str → Option Value} {base : Heap}
def sp_boxes (K : PySem.W.Frag) : Sp := fun vs_ H Q _ => ∃ (a : Addr) (js : List Int), vs_ = [.ref a, vN 3] ∧ SqL K H a (js.map V.int) ∧ Ret H Q fun r H' => ∃ p lb ld ln bs ds ns, r = .ref p ∧ H' p = some (.tup [.ref lb, .ref ld, .ref ln]) ∧ BxD H' lb ld ln bs ds ns
theorem ok_boxes (T : Txt K mg) : Ok P w K mg base "_law_boxes" ["script", "wide"] 3 (sp_boxes K) := by
  have G__law_mix : Ok P w K mg base "_law_mix" _ 1 _ := ok_mix T
  have G__law_cell : Ok P w K mg base "_law_cell" _ 1 _ := ok_cell T
  have G__law_names : Ok P w K mg base "_law_names" _ 2 _ := ok_names T
  have G__law_word : Ok P w K mg base "_law_word" _ 2 _ := ok_word T
  refine T.d__law_boxes.ok sc_law_boxes (fun vs H Q E h => ?_) (fun cdv A outer s H vs_ Q E hr h => ?_)
  · obtain ⟨a, js, rfl, _⟩ := h
    rfl
  · obtain ⟨a, js, rfl, ha, q⟩ := h
    refine ⟨_, (pss_cons (ps_set (i := 2) sc_law_boxes.nd rfl (Or.inl rfl) (pe_c T.d__law_mix G__law_mix (hr.mono (by omega)) (by rfl) (pa_cons (pe_c T.d__law_cell G__law_cell (hr.mono (by omega)) (by rfl) (pa_cons (pv 0) (pa_cons pe_int pa_nil))) (pa_cons pe_int pa_nil))))
      (pss_cons (ps_set (i := 3) sc_law_boxes.nd rfl (Or.inl rfl) (pe_c T.d__law_names G__law_names (hr.mono (by omega)) (by rfl) (pa_cons (pe_c T.d__law_mix G__law_mix (hr.mono (by omega)) (by rfl) (pa_cons (pe_c T.d__law_cell G__law_cell (hr.mono (by omega)) (by rfl) (pa_cons (pv 0) (pa_cons pe_int pa_nil))) (pa_cons pe_int pa_nil))) (pa_cons pe_int pa_nil))))
      (pss_cons (ps_set (i := 4) sc_law_boxes.nd rfl (Or.inl rfl) (pe_c T.d__law_mix G__law_mix (hr.mono (by omega)) (by rfl) (pa_cons (pe_c T.d__law_cell G__law_cell (hr.mono (by omega)) (by rfl) (pa_cons (pv 0) (pa_cons pe_int pa_nil))) (pa_cons pe_int pa_nil))))
      (pss_cons (ps_set (i := 5) sc_law_boxes.nd rfl (Or.inl rfl) (pe_lst pa_nil))
      (pss_cons (ps_for PassesOwn.never (by rfl) (pi_range1 (by rfl) T.z_range (pa_cons (pe_op op_add pe_int (pe_op op_mod (pv 2) pe_int)) pa_nil)) (pg_name (i := 6) sc_law_boxes.nd rfl (Or.inl rfl)) (pss_cons (ps_set (i := 7) sc_law_boxes.nd rfl (Or.inl rfl) (pe_op op_add pe_int (pe_op op_mod (pe_c T.d__law_mix G__law_mix (hr.mono (by omega)) (by rfl) (pa_cons (pv 4) (pa_cons (pv 6) pa_nil))) (pv 1))))
      (pss_one (ps_expr (pe_bm PySem.F.plainAttrs_list PySem.F.slot_list_append PySem.F.type_list_append mt_append (pv 5) (pa_cons (pe_tup (pa_cons (pe_ix (r := rIxL K) ix_list (pv 3) (pv 6) (fun _ _ => rfl)) (pa_cons (pv 7) (pa_cons (pe_c T.d__law_word G__law_word (hr.mono (by omega)) (by rfl) (pa_cons (pe_c T.d__law_mix G__law_mix (hr.mono (by omega)) (by rfl) (pa_cons (pv 4) (pa_cons (pe_op op_add pe_int (pv 6)) pa_nil))) (pa_cons (pv 7) pa_nil))) pa_nil)))) pa_nil))))))
      (pss_cons (ps_set (i := 8) sc_law_boxes.nd rfl (Or.inl rfl) (pe_lst pa_nil))
      (pss_cons (ps_for PassesOwn.never (by rfl) (pi_range1 (by rfl) T.z_range (pa_cons (pe_op op_mod (pe_op op_fdiv (pv 2) pe_int) pe_int) pa_nil)) (pg_name (i := 6) sc_law_boxes.nd rfl (Or.inl rfl)) (pss_one (ps_expr (pe_bm PySem.F.plainAttrs_list PySem.F.slot_list_append PySem.F.type_list_append mt_append (pv 8) (pa_cons (pe_tup (pa_cons (pe_ix (r := rIxL K) ix_list (pv 3) (pe_op op_add pe_int (pv 6)) (fun _ _ => rfl)) (pa_cons (pe_op op_add pe_int (pe_op op_mod (pe_c T.d__law_mix G__law_mix (hr.mono (by omega)) (by rfl) (pa_cons (pv 4) (pa_cons (pe_op op_add pe_int (pv 6)) pa_nil))) (pv 1))) pa_nil))) pa_nil)))))
      (pss_one (ps_ret (pe_tup (pa_cons (pv 5) (pa_cons (pv 8) (pa_cons (pe_slice (r := rSlL K) sl_list (pv 3) (po_some pe_int) po_none) pa_nil))))))))))))), ?_⟩
    refine ⟨_, rfl, a, js, 1, rfl, ha, by decide, fun c1 h1 => ⟨c1, 2, rfl, h1, by decide, fun hd hhd => ?_⟩⟩
    refine ⟨_, rfl, a, js, 0, rfl, ha, by decide, fun c0 h0 => ⟨c0, 1, rfl, h0, by decide, fun nu hnu => ?_⟩⟩
    refine ⟨nu, rfl, by omega, fun r H1 s1 ⟨ln0, ns, er, _, hns, nm⟩ => ?_⟩
    subst er
    have ha1 := s1.seq ha
    refine ⟨_, rfl, a, js, 2, rfl, ha1, by decide, fun c2 h2 => ⟨c2, 3, rfl, h2, by decide, fun mo hmo => ?_⟩⟩
    refine ⟨Nat.zero_le _, fun L nL => ?_⟩
    have s2 := Same.new (H := H1) (o := .lst []) nL
    have ln9 := nm.l
    have hd4 : hd % 4 < 4 := Nat.mod_lt _ (by decide)
    have dd3 : hd / 4 % 3 < 3 := Nat.mod_lt _ (by decide)
    have ndn := nm.nd
    have name_at : ∀ {i : Nat} (hi : i < ns.length), atI (ns.map V.str) (i : Int) = some (.str ns[i]) := fun {i} hi => atI_nat (by rw [List.getElem?_map, List.getElem?_eq_getElem hi]; rfl)
    refine ⟨_, rfl, _, _, rfl, rfl, by show (0 : Int) < 4; decide, _, _, rfl, rfl, _, rfl, by omega, by omega, for_range (lo := 0) (fun i σ H' => ∃ x y, σ = [some (.ref a), some (vN 3), some (vN hd), some (.ref ln0), some (vN mo), some (.ref L), x, y, none] ∧ Same H1 H' ∧
      ∃ bs : List Bx, H' L = some (.lst (bs.map fun x => V.ref x.p)) ∧ (∀ b ∈ bs, b.At H') ∧ bs.map (·.n) = ns.take i ∧ ∀ b ∈ bs, 1 ≤ b.k ∧ b.k ≤ 3 ∧ ∃ x : Nat, b.f = [(x : Int)] ∧ x < 2 ^ b.k) ⟨none, none, rfl, s2, [], upd_same, nofun, rfl, nofun⟩ ?_ ?_⟩
    · rintro i σ H' hi ⟨x, y, rfl, s3, bs, hL, ab, en, hb⟩
      have hi : i < 1 + hd % 4 := by omega
      have hin : i < ns.length := by omega
      have ei : (0 : Int) + (i : Int) = ((i : Nat) : Int) := by omega
      rw [ei]
      refine ⟨_, rfl, _, rfl, mo, i, rfl, by omega, by omega, fun m1 hm1 => ⟨_, rfl, _, _, rfl, rfl, by show (0 : Int) < 3; decide, _, _, rfl, rfl, ?_⟩⟩
      have k3 : m1 % 3 < 3 := Nat.mod_lt _ (by decide)
      refine ⟨_, rfl, .inl ⟨rfl, _, SqL.of hL⟩, _, rfl, _, rfl, ln0, _, _, _, rfl, rfl, SqL.of (s3 _ _ hns), name_at hin, _, rfl, _, rfl, _, rfl, _, _, rfl, rfl, mo, 10 + i, congrArg (fun z => [vN mo, V.int z]) (by show (10 : Int) + (i : Int) = ((10 + i : Nat) : Int); omega), by omega, by omega, fun m2 hm2 => ?_⟩
      refine ⟨_, rfl, m2, 1 + m1 % 3, rfl, by omega, by omega, fun r H3 s4 ⟨wn, er, hwn⟩ => ?_⟩
      subst er
      have hL3 := s4 _ _ hL
      refine ⟨by show 3 ≤ sizeLine; decide, fun p np => ?_⟩
      have s5 := Same.new (H := H3) (o := .tup [.str ns[i], vN (1 + m1 % 3), vN wn]) np
      have hL5 := s5 _ _ hL3
      have lbs : bs.length = i := by
        have := congrArg List.length en
        rw [List.length_map, List.length_take] at this
        omega
      refine ⟨L, _, _, rfl, rfl, hL5, ?_, _, _, rfl, ((s3.trans s4).trans s5).mut nL, bs ++ [⟨p, ns[i], 1 + m1 % 3, [(wn : Int)]⟩], ?_, ?_, ?_, ?_⟩
      · rw [List.length_map]
        exact line_lt (by omega)
      · rw [upd_same, List.map_append]
        rfl
      · intro b hbm
        rcases List.mem_append.mp hbm with hbm | hbm
        · exact Bx.keep (keepL (s4.trans s5) hL) (ab b hbm)
        · rw [List.mem_singleton.mp hbm]
          exact Bx.keep (keepL (Same.refl _) hL5) upd_same
      · rw [List.map_append, en, take_snoc (List.getElem?_eq_getElem hin)]
        rfl
      · intro b hbm
        rcases List.mem_append.mp hbm with hbm | hbm
        · exact hb b hbm
        · rw [List.mem_singleton.mp hbm]
          exact ⟨by show 1 ≤ 1 + m1 % 3; omega, by show 1 + m1 % 3 ≤ 3; omega, wn, rfl, hwn⟩
    rintro σ H2 ⟨x, y, rfl, s3, bs, hL, ab, en, hb⟩
    have et : ((1 : Int) + (hd : Int) % 4).toNat = 1 + hd % 4 := by omega
    rw [et] at en
    have lbs : bs.length = 1 + hd % 4 := by
      have := congrArg List.length en
      rw [List.length_map, List.length_take] at this
      omega
    refine ⟨Nat.zero_le _, fun D nD => ?_⟩
    have s4 := s3.newT (o := .lst []) nD
    have nD1 := s3.free nD
    have hLD : (upd H2 D (.lst [])) L = some (.lst (bs.map fun x => V.ref x.p)) := Same.new nD _ _ hL
    have nLD : L ≠ D := ne_of_none hL nD
    refine ⟨_, rfl, _, _, rfl, rfl, ⟨by decide, by decide⟩, _, _, rfl, rfl, by show (0 : Int) < 3; decide, _, rfl, by omega, by omega, for_range (lo := 0) (fun i σ H' => ∃ x, σ = [some (.ref a), some (vN 3), some (vN hd), some (.ref ln0), some (vN mo), some (.ref L), x, y, some (.ref D)] ∧ Same H2 H' ∧
      ∃ ds : List Bx, H' D = some (.lst (ds.map fun x => V.ref x.p)) ∧ (∀ b ∈ ds, b.At H') ∧ ds.map (·.n) = (ns.drop 4).take i ∧ ∀ b ∈ ds, 1 ≤ b.k ∧ b.k ≤ 3 ∧ b.f = []) ⟨x, rfl, Same.new nD, [], upd_same, nofun, rfl, nofun⟩ ?_ ?_⟩
    · rintro i σ H' hi ⟨x, rfl, s5, ds, hD, ad, ed, hdd⟩
      have hi : i < hd / 4 % 3 := by omega
      have hin : 4 + i < ns.length := by omega
      have ei : (0 : Int) + (i : Int) = ((i : Nat) : Int) := by omega
      rw [ei]
      have e4 : (4 : Int) + (i : Int) = ((4 + i : Nat) : Int) := by omega
      have s35 := s3.trans s5
      refine ⟨_, rfl, .inl ⟨rfl, _, SqL.of hD⟩, _, rfl, _, rfl, _, _, rfl, rfl, ln0, _, _, .str ns[4 + i], rfl, rfl, SqL.of (s35 _ _ hns), ?_, _, rfl, _, rfl, _, _, rfl, rfl, mo, 20 + i, congrArg (fun z => [vN mo, V.int z]) (by show (20 : Int) + (i : Int) = ((20 + i : Nat) : Int); omega), by omega, by omega, fun m2 hm2 => ?_⟩
      · rw [e4]
        exact name_at hin
      have k3 : m2 % 3 < 3 := Nat.mod_lt _ (by decide)
      refine ⟨_, rfl, _, _, rfl, rfl, by show (0 : Int) < 3; decide, _, _, rfl, rfl, by show 2 ≤ sizeLine; decide, fun p np => ?_⟩
      have s6 := Same.new (H := H') (o := .tup [.str ns[4 + i], vN (1 + m2 % 3)]) np
      have hD6 := s6 _ _ hD
      have lds : ds.length = i := by
        have := congrArg List.length ed
        rw [List.length_map, List.length_take, List.length_drop] at this
        omega
      refine ⟨D, _, _, rfl, rfl, hD6, ?_, _, rfl, (s5.trans s6).mut nD, ds ++ [⟨p, ns[4 + i], 1 + m2 % 3, []⟩], ?_, ?_, ?_, ?_⟩
      · rw [List.length_map]
        exact line_lt (by omega)
      · rw [upd_same, List.map_append]
        rfl
      · intro b hbm
        rcases List.mem_append.mp hbm with hbm | hbm
        · exact Bx.keep (keepL s6 hD) (ad b hbm)
        · rw [List.mem_singleton.mp hbm]
          exact Bx.keep (keepL (Same.refl _) hD6) upd_same
      · have e5 : (ns.drop 4)[i]? = some ns[4 + i] := by
          rw [List.getElem?_drop, List.getElem?_eq_getElem hin]
        rw [List.map_append, ed, take_snoc e5]
        rfl
      · intro b hbm
        rcases List.mem_append.mp hbm with hbm | hbm
        · exact hdd b hbm
        · rw [List.mem_singleton.mp hbm]
          exact ⟨by show 1 ≤ 1 + m2 % 3; omega, by show 1 + m2 % 3 ≤ 3; omega, rfl⟩
    rintro σ H3 ⟨x, rfl, s5, ds, hD, ad, ed, hdd⟩
    have et : ((hd : Int) / 4 % 3).toNat = hd / 4 % 3 := by omega
    rw [et] at ed
    have lds : ds.length = hd / 4 % 3 := by
      have := congrArg List.length ed
      rw [List.length_map, List.length_take, List.length_drop] at this
      omega
    have s15 := s3.trans s5
    refine ⟨_, rfl, _, rfl, _, rfl, _, rfl, ln0, _, rfl, SqL.of (s15 _ _ hns), fun e ne => ?_⟩
    have s6 := Same.new (H := H3) (o := .lst (cutV (ns.map V.str) (some 6) none)) ne
    refine ⟨by show 3 ≤ sizeLine; decide, fun p np => ?_⟩
    have s7 := s6.newT (o := .tup [.ref L, .ref D, .ref e]) np
    have u7 := Same.new (H := upd H3 e (.lst (cutV (ns.map V.str) (some 6) none))) (o := .tup [.ref L, .ref D, .ref e]) np
    have he : (upd (upd H3 e (.lst (cutV (ns.map V.str) (some 6) none))) p (.tup [.ref L, .ref D, .ref e])) e = some (.lst ((ns.drop 6).map V.str)) := by
      refine u7 _ _ ?_
      rw [upd_same]
      have := cutV_drop (ns.map V.str) 6
      rw [← List.map_drop] at this
      exact congrArg (fun z => some (HO.lst z)) this
    have sub := parts_sub (ns := ns) (i := 1 + hd % 4) (j := hd / 4 % 3) (by omega) (by omega)
    have ndp := List.Nodup.sublist sub ndn
    rw [← en, ← ed] at ndp
    have ndbd := (List.nodup_append.mp ndp).1
    have inb : ∀ b ∈ bs, NmOk b.n := fun b hb => nm.ok _ (List.mem_of_mem_take (en ▸ List.mem_map.mpr ⟨b, hb, rfl⟩))
    have ind : ∀ b ∈ ds, NmOk b.n := fun b hb => nm.ok _ (List.mem_of_mem_drop (List.mem_of_mem_take (ed ▸ List.mem_map.mpr ⟨b, hb, rfl⟩)))
    refine q _ _ ((s1.trans s15).trans s7) ⟨p, L, D, e, bs, ds, ns.drop 6, rfl, upd_same, ⟨⟨s7 _ _ (s5 _ _ hL), s7 _ _ hD, fun b hb => Bx.same (s5.trans s7) (ab b hb), fun b hb => Bx.same s7 (ad b hb), ⟨fun b hbm => (hb b hbm).2.2, fun b hbm => (hdd b hbm).2.2, fun b hbm => ⟨(hb b hbm).1, Nat.le_trans (hb b hbm).2.1 (by decide)⟩, fun b hbm => ⟨(hdd b hbm).1, Nat.le_trans (hdd b hbm).2.1 (by decide)⟩, inb, ind, ndbd, by omega, by omega⟩, by omega⟩, he, ?_, ndp, fun n hn => nm.ok n (List.mem_of_mem_drop hn), by omega⟩⟩
    rw [List.length_drop]
    omega
end
end K24

set_option Elab.async false
set_option linter.all false
set_option maxRecDepth 100000
set_option maxHeartbeats 4000000
/-! The law's helpers: the pair. -/
namespace K24
open PySem PySem.Spec PyProof.Rows L2
/-- the two guards, on their way -/
structure Two (H0 H : Hp) (bs ds : List Bx) (v1 v2 : V) (t1 t2 : Tm) : Prop where
  s : Same H0 H
  a1 : TmAt H t1 v1
  a2 : TmAt H t2 v2
  d1 : dp t1 ≤ 7
  d2 : dp t2 ≤ 6
  z1 : sz t1 ≤ 40
  z2 : sz t2 ≤ 40
  w1 : Wd (wsOf bs ds) t1 1
  w2 : Wd (wsOf bs ds) t2 1
structure Rls (H : Hp) (lb ld : Addr) (bs ds : List Bx) (r1 r2 : Rl) : Prop where
  two : TwoL H lb ld bs ds
  a1 : r1.At H
  a2 : r2.At H
  nd : (bs.map (·.n) ++ ds.map (·.n) ++ [r1.n, r2.n]).Nodup
  n1 : NmOk r1.n
  n2 : NmOk r2.n
  o1 : r1.Ok (wsOf bs ds)
  o2 : r2.Ok (wsOf bs ds)
def WsAt (H : Hp) (bs ds : List Bx) (l : Addr) (ws : List Wr) : Prop := H l = some (.lst (ws.map fun x : Wr => V.ref x.p)) ∧ (∀ x ∈ ws, x.At H) ∧ ws.length ≤ 6 ∧ (ws.map (·.n)).Nodup ∧ ∀ x ∈ ws, ∃ k, wB bs x.n = some k ∧ LfOk (wsOf bs ds) x.t k
theorem WsAt.same {H H' : Hp} {bs ds : List Bx} {l : Addr} {ws : List Wr} (s : Same H H') (h : WsAt H bs ds l ws) : WsAt H' bs ds l ws := ⟨s _ _ h.1, fun x hx => Wr.same s (h.2.1 x hx), h.2.2⟩
theorem WsAt.keep {H H' : Hp} {bs ds : List Bx} {l D : Addr} {ws : List Wr} {xs ys : List V} (s : Same H H') (hD : H D = some (.lst xs)) (ne : l ≠ D) (h : WsAt H bs ds l ws) : WsAt (upd H' D (.lst ys)) bs ds l ws := ⟨by rw [upd_ne ne]; exact s _ _ h.1, fun x hx => Wr.keep (keepL s hD) (h.2.1 x hx), h.2.2⟩
theorem lf_tm {W : Ws} {t : Tm} {k : Nat} (h : LfOk W t k) : TmOk W t k := ⟨by have := h.d; omega, by have := h.z; omega, h.w⟩
section
variable {P : Program} {w : World} {K : PySem.W.Frag} {mg : Str → Option Value} {base : Heap}
def sp_pair (K : PySem.W.Frag) : Sp := fun vs_ H Q _ => ∃ (a : Addr) (js : List Int), vs_ = [.ref a, vN 3] ∧ SqL K H a (js.map V.int) ∧
  ∀ p H', (∃ lb ld lr bs ds r1 r2 Hm, H' p = some (.tup [.ref lb, .ref ld, .ref lr]) ∧ H' lr = some (.lst [.ref r1.p, .ref r2.p]) ∧ Same H Hm ∧ Same Hm H' ∧ Hm lr = none ∧ Rls Hm lb ld bs ds r1 r2) → Q (.ref p) H'
theorem ok_pair (T : Txt K mg) : Ok P w K mg base "_law_pair" ["script", "wide"] 10 (sp_pair K) := by
  have G__law_mix : Ok P w K mg base "_law_mix" _ 1 _ := ok_mix T
  have G__law_cell : Ok P w K mg base "_law_cell" _ 1 _ := ok_cell T
  have G__law_boxes : Ok P w K mg base "_law_boxes" _ 3 _ := ok_boxes T
  have G__law_guard : Ok P w K mg base "_law_guard" _ 4 _ := ok_guard T
  have G__law_early : Ok P w K mg base "_law_early" _ 9 _ := ok_early T 8
  have G__law_writes : Ok P w K mg base "_law_writes" _ 4 _ := ok_writes T
  refine T.d__law_pair.ok sc_law_pair (fun vs H Q E h => ?_) (fun cdv A outer s H vs_ Q E hr h => ?_)
  · obtain ⟨a, js, rfl, _⟩ := h
    rfl
  · obtain ⟨a, js, rfl, ha, q⟩ := h
    refine ⟨_, (pss_cons (ps_asg (pe_c T.d__law_boxes G__law_boxes (hr.mono (by omega)) (by rfl) (pa_cons (pv 0) (pa_cons (pv 1) pa_nil))) (pg_tup (by rfl) (pgs_cons (pg_name (i := 2) sc_law_pair.nd rfl (Or.inr rfl)) (pgs_cons (pg_name (i := 3) sc_law_pair.nd rfl (Or.inr rfl)) (pgs_cons (pg_name (i := 4) sc_law_pair.nd rfl (Or.inl rfl)) pgs_nil)))))
      (pss_cons (ps_set (i := 5) sc_law_pair.nd rfl (Or.inl rfl) (pe_c T.d__law_guard G__law_guard (hr.mono (by omega)) (by rfl) (pa_cons (pe_c T.d__law_mix G__law_mix (hr.mono (by omega)) (by rfl) (pa_cons (pe_c T.d__law_cell G__law_cell (hr.mono (by omega)) (by rfl) (pa_cons (pv 0) (pa_cons pe_int pa_nil))) (pa_cons pe_int pa_nil))) (pa_cons (pv 2) (pa_cons (pv 3) pa_nil)))))
      (pss_cons (ps_set (i := 6) sc_law_pair.nd rfl (Or.inl rfl) (pe_c T.d__law_guard G__law_guard (hr.mono (by omega)) (by rfl) (pa_cons (pe_c T.d__law_mix G__law_mix (hr.mono (by omega)) (by rfl) (pa_cons (pe_c T.d__law_cell G__law_cell (hr.mono (by omega)) (by rfl) (pa_cons (pv 0) (pa_cons pe_int pa_nil))) (pa_cons pe_int pa_nil))) (pa_cons (pv 2) (pa_cons (pv 3) pa_nil)))))
      (pss_cons (ps_set (i := 7) sc_law_pair.nd rfl (Or.inl rfl) (pe_c T.d__law_mix G__law_mix (hr.mono (by omega)) (by rfl) (pa_cons (pe_c T.d__law_cell G__law_cell (hr.mono (by omega)) (by rfl) (pa_cons (pv 0) (pa_cons pe_int pa_nil))) (pa_cons pe_int pa_nil))))
      (C8.pss_cut (ps_if (pt_cmpR op_gt (pe_op op_mod (pe_op op_fdiv (pv 7) pe_int) pe_int) pe_int (nomark _)) (pss_one (ps_set (i := 5) sc_law_pair.nd rfl (Or.inl rfl) (pe_c T.d__law_early G__law_early (hr.mono (by omega)) (by rfl) (pa_cons (pv 5) pa_nil)))) pss_nil)
      (C8.pss_cut (ps_if (pt_cmpR op_eq (pe_op op_mod (pv 7) pe_int) pe_int (nomark _)) (pss_one (ps_set (i := 6) sc_law_pair.nd rfl (Or.inl rfl) (pe_tup (pa_cons pe_str (pa_cons (pv 6) (pa_cons (pe_tup (pa_cons pe_str (pa_cons (pv 5) pa_nil))) pa_nil)))))) pss_nil)
      (C8.pss_cut (ps_if (pt_cmpR op_eq (pe_op op_mod (pv 7) pe_int) pe_int (nomark _)) (pss_one (ps_set (i := 6) sc_law_pair.nd rfl (Or.inl rfl) (pe_tup (pa_cons pe_str (pa_cons (pv 5) pa_nil))))) pss_nil)
      (C8.pss_cut (ps_if (pt_cmpR op_eq (pe_op op_mod (pv 7) pe_int) pe_int (nomark _)) (pss_one (ps_par (i := 5) (j := 6) (by rfl) sc_law_pair.nd rfl rfl (by decide) rfl rfl (pa_cons (pe_tup (pa_cons pe_str (pa_cons (pv 6) (pa_cons (pv 5) pa_nil)))) (pa_cons (pe_tup (pa_cons pe_str (pa_cons (pv 5) pa_nil))) pa_nil)) (by rfl))) pss_nil)
      (C8.pss_cut (ps_if (pt_cmpR op_eq (pe_op op_mod (pe_op op_fdiv (pv 7) pe_int) pe_int) pe_int (nomark _)) (pss_cons (ps_set (i := 8) sc_law_pair.nd rfl (Or.inl rfl) (pe_op op_add pe_int (pe_op op_mod (pe_op op_fdiv (pv 7) pe_int) pe_int)))
      (pss_cons (ps_set (i := 2) sc_law_pair.nd rfl (Or.inr rfl) (pe_op op_cat (pe_lst (pa_cons (pe_tup (pa_cons (pe_ix (r := rIxT K) ix_tup (pe_ix (r := rIxL K) ix_list (pv 2) pe_int (fun _ _ => rfl)) pe_int (fun _ _ => rfl)) (pa_cons (pv 8) (pa_cons pe_int pa_nil)))) (pa_cons (pe_tup (pa_cons (pe_ix (r := rIxL K) ix_list (pv 4) pe_int (fun _ _ => rfl)) (pa_cons (pv 8) (pa_cons pe_int pa_nil)))) pa_nil))) (pe_slice (r := rSlL K) sl_list (pv 2) (po_some pe_int) po_none)))
      (pss_cons (ps_set (i := 5) sc_law_pair.nd rfl (Or.inl rfl) (pe_tup (pa_cons (pe_ix (r := rIxL K) ix_list (pe_lst (pa_cons pe_str (pa_cons pe_str pa_nil))) (pe_op op_mod (pe_op op_fdiv (pv 7) pe_int) pe_int) (fun _ _ => rfl)) (pa_cons (pe_tup (pa_cons pe_str (pa_cons (pe_ix (r := rIxT K) ix_tup (pe_ix (r := rIxL K) ix_list (pv 2) pe_int (fun _ _ => rfl)) pe_int (fun _ _ => rfl)) pa_nil))) (pa_cons (pe_tup (pa_cons pe_str (pa_cons (pe_ix (r := rIxL K) ix_list (pv 4) pe_int (fun _ _ => rfl)) pa_nil))) pa_nil)))))
      (pss_one (ps_set (i := 6) sc_law_pair.nd rfl (Or.inl rfl) (pe_ix (r := rIxL K) ix_list (pe_lst (pa_cons (pe_tup (pa_cons pe_str (pa_cons (pv 5) pa_nil))) (pa_cons (pe_tup (pa_cons pe_str (pa_cons (pe_tup (pa_cons pe_str (pa_cons (pe_ix (r := rIxL K) ix_list (pv 4) pe_int (fun _ _ => rfl)) pa_nil))) (pa_cons (pe_tup (pa_cons pe_str (pa_cons (pe_ix (r := rIxT K) ix_tup (pe_ix (r := rIxL K) ix_list (pv 2) pe_int (fun _ _ => rfl)) pe_int (fun _ _ => rfl)) pa_nil))) pa_nil)))) pa_nil))) (pe_op op_mod (pe_op op_fdiv (pv 7) pe_int) pe_int) (fun _ _ => rfl))))))) pss_nil)
      (C8.pss_cut (ps_setLc (i := 9) (own := [("k", 10)]) (g := gName 10) (by rfl) sc_law_pair.nd rfl rfl (sw_true rfl rfl rfl (by decide +kernel)) (pi_range1 (by rfl) T.z_range (pa_cons pe_int pa_nil)) (blkOk_by (N := N__law_pair) (sc := defScope s__law_pair) (by decide +kernel)) (fun _ _ _ _ _ => pg_name (i := 10) sc_law_pair.nd rfl (Or.inl rfl)) (fun _ _ _ _ _ => pts_nil) (fun _ _ _ _ _ => (pe_c T.d__law_writes G__law_writes (hr.mono (by omega)) (by rfl) (pa_cons (pe_c T.d__law_mix G__law_mix (hr.mono (by omega)) (by rfl) (pa_cons (pe_c T.d__law_cell G__law_cell (hr.mono (by omega)) (by rfl) (pa_cons (pv 0) (pa_cons (pe_op op_add pe_int (pv 10)) pa_nil))) (pa_cons pe_int pa_nil))) (pa_cons (pv 2) (pa_cons (pv 3) pa_nil))))))
      (pss_one (ps_ret (pe_tup (pa_cons (pv 2) (pa_cons (pv 3) (pa_cons (pe_lst (pa_cons (pe_tup (pa_cons (pe_ix (r := rIxL K) ix_list (pv 4) pe_int (fun _ _ => rfl)) (pa_cons (pv 5) (pa_cons (pe_ix (r := rIxL K) ix_list (pv 9) pe_int (fun _ _ => rfl)) pa_nil)))) (pa_cons (pe_tup (pa_cons (pe_ix (r := rIxL K) ix_list (pv 4) pe_int (fun _ _ => rfl)) (pa_cons (pv 6) (pa_cons (pe_ix (r := rIxL K) ix_list (pv 9) pe_int (fun _ _ => rfl)) pa_nil)))) pa_nil))) pa_nil)))))))))))))))), ?_⟩
    refine ⟨_, rfl, _, rfl, a, js, rfl, ha, fun r H1 s1 ⟨p0, lb, ld, ln, bs, ds, ns, er, hp0, bx⟩ => ?_⟩
    subst er
    refine ⟨p0, _, rfl, SqT.of hp0, rfl, _, _, rfl, _, _, rfl, _, _, rfl, rfl, ?_⟩
    have ha1 := s1.seq ha
    refine ⟨_, rfl, a, js, 3, rfl, ha1, by decide, fun c1 hc1 => ⟨c1, 4, rfl, hc1, by decide, fun g1 hg1 => ⟨_, rfl, _, rfl, g1, lb, ld, bs, ds, rfl, by omega, bx.two, fun v1 H2 s2 ⟨t1, ht1, gd1⟩ => ?_⟩⟩⟩
    have ha2 := s2.seq ha1
    refine ⟨_, rfl, a, js, 4, rfl, ha2, by decide, fun c2 hc2 => ⟨c2, 5, rfl, hc2, by decide, fun g2 hg2 => ⟨_, rfl, _, rfl, g2, lb, ld, bs, ds, rfl, by omega, bx.two.same s2, fun v2 H3 s3 ⟨t2, ht2, gd2⟩ => ?_⟩⟩⟩
    have ha3 := s3.seq ha2
    refine ⟨_, rfl, a, js, 5, rfl, ha3, by decide, fun c3 hc3 => ⟨c3, 6, rfl, hc3, by decide, fun way hway => ?_⟩⟩
    have s13 := s2.trans s3
    -- 4: early
    refine ⟨fun σ H' => ∃ v1 v2 t1 t2, σ = [some (.ref a), some (vN 3), some (.ref lb), some (.ref ld), some (.ref ln), some v1, some v2, some (vN way), none, none, none] ∧ Two H1 H' bs ds v1 v2 t1 t2 ∧ dp t1 ≤ 4 ∧ sz t1 ≤ 11 ∧ dp t2 ≤ 4 ∧ sz t2 ≤ 11, ?_, ?_⟩
    · refine ⟨_, rfl, _, _, rfl, rfl, ⟨by decide, by decide⟩, _, _, rfl, rfl, by show (0 : Int) < 4; decide, _, _, rfl, rfl, _, rfl, ?_⟩
      have d1 := gd1.d
      have d2 := gd2.d
      have z1 := gd1.z
      have z2 := gd2.z
      refine ite2 (fun _ => ?_) (fun _ => ?_)
      · refine ⟨_, rfl, v1, t1, rfl, TmAt.same s3 ht1, by omega, fun r H4 s4 h4 => ?_⟩
        exact ⟨r, v2, earlyT t1, t2, rfl, ⟨s13.trans s4, h4, TmAt.same s4 ht2, by rw [early_dp]; omega, by omega, by rw [early_sz]; omega, by omega, early_wd gd1.w, gd2.w⟩, by rw [early_dp]; omega, by rw [early_sz]; omega, d2, z2⟩
      · exact ⟨v1, v2, t1, t2, rfl, ⟨s13, TmAt.same s3 ht1, ht2, by omega, by omega, by omega, by omega, gd1.w, gd2.w⟩, d1, z1, d2, z2⟩
    clear ht1 ht2 gd1 gd2
    rintro σ H4 ⟨v1, v2, t1, t2, rfl, tw, d1, z1, d2, z2⟩
    -- 5: and not
    refine ⟨fun σ H' => ∃ v1 v2 t1 t2, σ = [some (.ref a), some (vN 3), some (.ref lb), some (.ref ld), some (.ref ln), some v1, some v2, some (vN way), none, none, none] ∧ Two H1 H' bs ds v1 v2 t1 t2 ∧ dp t1 ≤ 4 ∧ sz t1 ≤ 11 ∧ dp t2 ≤ 6 ∧ sz t2 ≤ 24, ?_, ?_⟩
    · refine ⟨_, rfl, _, _, rfl, rfl, by show (0 : Int) < 4; decide, rfl, _, rfl, ?_⟩
      refine ite2 (fun _ => ?_) (fun _ => ?_)
      · refine ⟨_, rfl, _, rfl, by show 2 ≤ sizeLine; decide, fun p np => ⟨by show 3 ≤ sizeLine; decide, fun p2 np2 => ?_⟩⟩
        have u1 := Same.new (H := H4) (o := .tup [.str "not", v1]) np
        have u2 := Same.new (H := upd H4 p (.tup [.str "not", v1])) (o := .tup [.str "and", v2, .ref p]) np2
        have u := u1.trans u2
        refine ⟨v1, _, t1, .bin .and t2 (.not t1), rfl, ⟨tw.s.trans u, TmAt.same u tw.a1, ⟨p2, v2, .ref p, rfl, upd_same, TmAt.same u tw.a2, ⟨p, v1, rfl, u2 _ _ upd_same, TmAt.same u tw.a1⟩⟩, tw.d1, ?_, tw.z1, ?_, tw.w1, ⟨tw.w2, tw.w1⟩⟩, d1, z1, ?_, ?_⟩
        · show max (dp t2) (dp t1 + 1) + 1 ≤ 6
          omega
        · show sz t2 + (sz t1 + 1) + 1 ≤ 40
          omega
        · show max (dp t2) (dp t1 + 1) + 1 ≤ 6
          omega
        · show sz t2 + (sz t1 + 1) + 1 ≤ 24
          omega
      · exact ⟨v1, v2, t1, t2, rfl, tw, d1, z1, by omega, by omega⟩
    clear tw d1 z1 d2 z2
    rintro σ H5 ⟨v1, v2, t1, t2, rfl, tw, d1, z1, d2, z2⟩
    -- 6: not
    refine ⟨fun σ H' => ∃ v1 v2 t1 t2, σ = [some (.ref a), some (vN 3), some (.ref lb), some (.ref ld), some (.ref ln), some v1, some v2, some (vN way), none, none, none] ∧ Two H1 H' bs ds v1 v2 t1 t2 ∧ dp t1 ≤ 4 ∧ sz t1 ≤ 11 ∧ dp t2 ≤ 6 ∧ sz t2 ≤ 24, ?_, ?_⟩
    · refine ⟨_, rfl, _, _, rfl, rfl, by show (0 : Int) < 4; decide, rfl, _, rfl, ?_⟩
      refine ite2 (fun _ => ?_) (fun _ => ?_)
      · refine ⟨_, rfl, by show 2 ≤ sizeLine; decide, fun p np => ?_⟩
        have u1 := Same.new (H := H5) (o := .tup [.str "not", v1]) np
        refine ⟨v1, _, t1, .not t1, rfl, ⟨tw.s.trans u1, TmAt.same u1 tw.a1, ⟨p, v1, rfl, upd_same, TmAt.same u1 tw.a1⟩, tw.d1, ?_, tw.z1, ?_, tw.w1, tw.w1⟩, d1, z1, ?_, ?_⟩
        · show dp t1 + 1 ≤ 6
          omega
        · show sz t1 + 1 ≤ 40
          omega
        · show dp t1 + 1 ≤ 6
          omega
        · show sz t1 + 1 ≤ 24
          omega
      · exact ⟨v1, v2, t1, t2, rfl, tw, d1, z1, d2, z2⟩
    clear tw d1 z1 d2 z2
    rintro σ H6 ⟨v1, v2, t1, t2, rfl, tw, d1, z1, d2, z2⟩
    -- 7: both
    refine ⟨fun σ H' => ∃ v1 v2 t1 t2, σ = [some (.ref a), some (vN 3), some (.ref lb), some (.ref ld), some (.ref ln), some v1, some v2, some (vN way), none, none, none] ∧ Two H1 H' bs ds v1 v2 t1 t2, ?_, ?_⟩
    · refine ⟨_, rfl, _, _, rfl, rfl, by show (0 : Int) < 4; decide, rfl, _, rfl, ?_⟩
      refine ite2 (fun _ => ?_) (fun _ => ?_)
      · refine ⟨_, rfl, _, rfl, by show 3 ≤ sizeLine; decide, fun p np => ⟨_, rfl, by show 2 ≤ sizeLine; decide, fun p2 np2 => ?_⟩⟩
        have u1 := Same.new (H := H6) (o := .tup [.str "and", v2, v1]) np
        have u2 := Same.new (H := upd H6 p (.tup [.str "and", v2, v1])) (o := .tup [.str "not", v1]) np2
        have u := u1.trans u2
        refine ⟨_, _, rfl, _, _, .bin .and t2 t1, .not t1, rfl, ⟨tw.s.trans u, ⟨p, v2, v1, rfl, u2 _ _ upd_same, TmAt.same u tw.a2, TmAt.same u tw.a1⟩, ⟨p2, v1, rfl, upd_same, TmAt.same u tw.a1⟩, ?_, ?_, ?_, ?_, ⟨tw.w2, tw.w1⟩, tw.w1⟩⟩
        · show max (dp t2) (dp t1) + 1 ≤ 7
          omega
        · show dp t1 + 1 ≤ 6
          omega
        · show sz t2 + sz t1 + 1 ≤ 40
          omega
        · show sz t1 + 1 ≤ 40
          omega
      · exact ⟨v1, v2, t1, t2, rfl, tw⟩
    clear tw d1 z1 d2 z2
    rintro σ H7 ⟨v1, v2, t1, t2, rfl, tw⟩
    -- 8: other boxes
    obtain ⟨n0, n1, n2, rfl⟩ : ∃ n0 n1 n2, ns = [n0, n1, n2] := by
      match ns, bx.l with
      | [n0, n1, n2], _ => exact ⟨n0, n1, n2, rfl⟩
    refine ⟨fun σ H' => ∃ (v1 v2 : V) (t1 t2 : Tm) (lb : Addr) (bs : List Bx) (x : Option V), σ = [some (.ref a), some (vN 3), some (.ref lb), some (.ref ld), some (.ref ln), some v1, some v2, some (vN way), x, none, none] ∧ Two H1 H' bs ds v1 v2 t1 t2 ∧ TwoL H' lb ld bs ds ∧ (bs.map (·.n) ++ ds.map (·.n) ++ [n0, n1]).Nodup ∧ bs.length ≤ 6, ?_, ?_⟩
    · refine ⟨_, rfl, _, _, rfl, rfl, ⟨by decide, by decide⟩, _, _, rfl, rfl, by show (0 : Int) < 4; decide, rfl, _, rfl, ?_⟩
      refine ite2 (fun _ => ?_) (fun _ => ?_)
      · obtain ⟨b0, bt, rfl⟩ : ∃ b0 bt, bs = b0 :: bt := by
          match bs, bx.two.ne with
          | b0 :: bt, _ => exact ⟨b0, bt, rfl⟩
        have s17 := tw.s
        have bx7 := bx.two.same s17
        have hln7 : H7 ln = some (.lst [.str n0, .str n1, .str n2]) := s17 _ _ bx.n
        have wd4 : way / 256 % 4 < 4 := Nat.mod_lt _ (by decide)
        refine ⟨_, rfl, _, _, rfl, rfl, ⟨by decide, by decide⟩, _, _, rfl, rfl, by show (0 : Int) < 4; decide, _, _, rfl, rfl, ?_⟩
        refine ⟨_, rfl, lb, _, 0, _, rfl, rfl, SqL.of bx7.b, atI_nat (j := 0) rfl, b0.p, _, 0, _, rfl, rfl, SqT.of (bx7.ab b0 List.mem_cons_self), atI_nat (j := 0) rfl, _, rfl, by show 3 ≤ sizeLine; decide, fun p1 np1 => ?_⟩
        have u1 := Same.new (H := H7) (o := .tup [.str b0.n, vN (3 + way / 256 % 4), .int 0]) np1
        have e1 : (upd H7 p1 (.tup [.str b0.n, vN (3 + way / 256 % 4), .int 0])) p1 = some (.tup [.str b0.n, vN (3 + way / 256 % 4), .int 0]) := upd_same
        refine ⟨_, rfl, ln, _, 2, _, rfl, rfl, SqL.of (u1 _ _ hln7), rfl, _, rfl, by show 3 ≤ sizeLine; decide, fun p2 np2 => ?_⟩
        have u2 := Same.new (H := upd H7 p1 (.tup [.str b0.n, vN (3 + way / 256 % 4), .int 0])) (o := .tup [.str n2, vN (3 + way / 256 % 4), .int 0]) np2
        have e2 : (upd (upd H7 p1 (.tup [.str b0.n, vN (3 + way / 256 % 4), .int 0])) p2 (.tup [.str n2, vN (3 + way / 256 % 4), .int 0])) p2 = some (.tup [.str n2, vN (3 + way / 256 % 4), .int 0]) := upd_same
        have e1b := u2 _ _ e1
        have u12 := u1.trans u2
        refine ⟨by show 2 ≤ sizeLine; decide, fun q1 nq1 => ?_⟩
        have u3 := Same.new (H := upd (upd H7 p1 (.tup [.str b0.n, vN (3 + way / 256 % 4), .int 0])) p2 (.tup [.str n2, vN (3 + way / 256 % 4), .int 0])) (o := .lst [.ref p1, .ref p2]) nq1
        have e3 : (upd (upd (upd H7 p1 (.tup [.str b0.n, vN (3 + way / 256 % 4), .int 0])) p2 (.tup [.str n2, vN (3 + way / 256 % 4), .int 0])) q1 (.lst [.ref p1, .ref p2])) q1 = some (.lst [.ref p1, .ref p2]) := upd_same
        have u13 := u12.trans u3
        have e1c := u3 _ _ e1b
        have e2c := u3 _ _ e2
        generalize hHX : (upd (upd (upd H7 p1 (.tup [.str b0.n, vN (3 + way / 256 % 4), .int 0])) p2 (.tup [.str n2, vN (3 + way / 256 % 4), .int 0])) q1 (.lst [.ref p1, .ref p2])) = HX at u3 e3 u13 e1c e2c
        have hHX' : (upd (upd (upd H7 p1 (.tup [.str b0.n, .int (3 + (way : Int) / 256 % 4), .int 0])) p2 (.tup [.str n2, .int (3 + (way : Int) / 256 % 4), .int 0])) q1 (.lst [.ref p1, .ref p2])) = HX := hHX
        refine ⟨_, rfl, _, rfl, lb, _, rfl, SqL.of (by show (upd _ _ _) lb = _; rw [hHX']; exact u13 _ _ bx7.b), fun q2 nq2 => ?_⟩
        dsimp only at nq2 ⊢
        rw [hHX'] at nq2 ⊢
        have ec : cutV ((b0 :: bt).map fun x => V.ref x.p) (some 1) none = bt.map fun x => V.ref x.p := cutV_drop _ 1
        rw [ec]
        have u4 := Same.new (H := HX) (o := .lst (bt.map fun x => V.ref x.p)) nq2
        refine ⟨q1, q2, _, _, rfl, rfl, u4 _ _ e3, upd_same, ?_, fun lb2 nlb => ?_⟩
        · have := bx.b4
          rw [List.length_cons] at this
          rw [List.length_map]
          show 2 + bt.length ≤ sizeLine
          exact line_of (by omega)
        have u5 := Same.new (H := upd HX q2 (.lst (bt.map fun x => V.ref x.p))) (o := .lst ([V.ref p1, V.ref p2] ++ bt.map fun x => V.ref x.p)) nlb
        have u15 := (u13.trans u4).trans u5
        have eL : (upd (upd HX q2 (.lst (bt.map fun x => V.ref x.p))) lb2 (.lst ([V.ref p1, V.ref p2] ++ bt.map fun x => V.ref x.p))) lb2 = some (.lst ([V.ref p1, V.ref p2] ++ bt.map fun x => V.ref x.p)) := upd_same
        have e1d := (u4.trans u5) _ _ e1c
        have e2d := (u4.trans u5) _ _ e2c
        generalize (upd (upd HX q2 (.lst (bt.map fun x => V.ref x.p))) lb2 (.lst ([V.ref p1, V.ref p2] ++ bt.map fun x => V.ref x.p))) = HY at u5 u15 eL e1d e2d
        -- the new boxes
        have xb : ∀ x ∈ ((⟨p1, b0.n, 3 + way / 256 % 4, [0]⟩ : Bx) :: ⟨p2, n2, 3 + way / 256 % 4, [0]⟩ :: bt), x.At HY := fun x hx => by
          rcases List.mem_cons.mp hx with rfl | hx
          · exact e1d
          · rcases List.mem_cons.mp hx with rfl | hx
            · exact e2d
            · exact Bx.same u15 (bx7.ab x (List.mem_cons_of_mem _ hx))
        have nd3 : (b0.n :: n2 :: (bt.map (·.n) ++ ds.map (·.n) ++ [n0, n1])).Nodup := by
          have nd := bx.nd
          have pm : (b0.n :: n2 :: (bt.map (·.n) ++ ds.map (·.n) ++ [n0, n1])).Perm ((b0 :: bt).map (·.n) ++ ds.map (·.n) ++ [n0, n1, n2]) := by
            show (b0.n :: n2 :: (bt.map (·.n) ++ ds.map (·.n) ++ [n0, n1])).Perm (b0.n :: (bt.map (·.n) ++ ds.map (·.n) ++ [n0, n1, n2]))
            refine List.Perm.cons _ ?_
            have e : bt.map (·.n) ++ ds.map (·.n) ++ [n0, n1, n2] = (bt.map (·.n) ++ ds.map (·.n) ++ [n0, n1]) ++ [n2] := by
              rw [List.append_assoc (bt.map (·.n) ++ ds.map (·.n))]
              rfl
            rw [e]
            exact (List.perm_append_singleton _ _).symm
          exact pm.nodup_iff.mpr nd
        have nd4 : (((⟨p1, b0.n, 3 + way / 256 % 4, [0]⟩ : Bx) :: ⟨p2, n2, 3 + way / 256 % 4, [0]⟩ :: bt).map (·.n) ++ ds.map (·.n) ++ [n0, n1]).Nodup := nd3
        have bd0 := bx.two.bd
        have b4 := bx.b4
        rw [List.length_cons] at b4
        have pw1 := pow_pos2 (3 + way / 256 % 4)
        have bd' : BD ((⟨p1, b0.n, 3 + way / 256 % 4, [0]⟩ : Bx) :: ⟨p2, n2, 3 + way / 256 % 4, [0]⟩ :: bt) ds := by
          refine ⟨fun x hx => ?_, bd0.df, fun x hx => ?_, bd0.dk, fun x hx => ?_, bd0.ne, (List.nodup_append.mp nd4).1, ?_, bd0.ld⟩
          · rcases List.mem_cons.mp hx with rfl | hx
            · exact ⟨0, rfl, pw1⟩
            · rcases List.mem_cons.mp hx with rfl | hx
              · exact ⟨0, rfl, pw1⟩
              · exact bd0.bf x (List.mem_cons_of_mem _ hx)
          · rcases List.mem_cons.mp hx with rfl | hx
            · exact ⟨by show 1 ≤ 3 + way / 256 % 4; omega, by show 3 + way / 256 % 4 ≤ 64; omega⟩
            · rcases List.mem_cons.mp hx with rfl | hx
              · exact ⟨by show 1 ≤ 3 + way / 256 % 4; omega, by show 3 + way / 256 % 4 ≤ 64; omega⟩
              · exact bd0.bk x (List.mem_cons_of_mem _ hx)
          · rcases List.mem_cons.mp hx with rfl | hx
            · exact bd0.nb b0 List.mem_cons_self
            · rcases List.mem_cons.mp hx with rfl | hx
              · exact bx.ok n2 (List.mem_cons_of_mem _ (List.mem_cons_of_mem _ List.mem_cons_self))
              · exact bd0.nb x (List.mem_cons_of_mem _ hx)
          · rw [List.length_cons, List.length_cons]
            omega
        have two' : TwoL HY lb2 ld ((⟨p1, b0.n, 3 + way / 256 % 4, [0]⟩ : Bx) :: ⟨p2, n2, 3 + way / 256 % 4, [0]⟩ :: bt) ds := ⟨eL, u15 _ _ bx7.d, xb, fun x hx => Bx.same u15 (bx7.ad x hx), bd', Nat.succ_pos _⟩
        have hlnY := u15 _ _ hln7
        have wb0 := bd'.wb (b := ⟨p1, b0.n, 3 + way / 256 % 4, [0]⟩) List.mem_cons_self
        have wb2 := bd'.wb (b := ⟨p2, n2, 3 + way / 256 % 4, [0]⟩) (List.mem_cons_of_mem _ List.mem_cons_self)
        have l6 : ((⟨p1, b0.n, 3 + way / 256 % 4, [0]⟩ : Bx) :: ⟨p2, n2, 3 + way / 256 % 4, [0]⟩ :: bt).length ≤ 6 := by
          rw [List.length_cons, List.length_cons]
          omega
        generalize ((⟨p1, b0.n, 3 + way / 256 % 4, [0]⟩ : Bx) :: ⟨p2, n2, 3 + way / 256 % 4, [0]⟩ :: bt) = bs2 at *
        -- the guards
        have at2 : ∃ o : Op, (o = .less ∨ o = .same) ∧ atI [V.str "less", V.str "same"] ((way : Int) / 1024 % 2) = some (.str (formS o)) := by
          obtain ⟨j, ej, hj⟩ := modN ((way : Int) / 1024) (m := 2) (by decide)
          have ej : (way : Int) / 1024 % 2 = (j : Int) := ej
          rw [ej]
          have : j = 0 ∨ j = 1 := by omega
          rcases this with rfl | rfl
          · exact ⟨.less, .inl rfl, rfl⟩
          · exact ⟨.same, .inr rfl, rfl⟩
        obtain ⟨o, ho, hat⟩ := at2
        refine ⟨by show 2 ≤ sizeLine; decide, fun q3 nq3 => ?_⟩
        have m1 := Same.new (H := HY) (o := .lst [.str "less", .str "same"]) nq3
        refine ⟨_, rfl, _, _, rfl, rfl, ⟨by decide, by decide⟩, _, _, rfl, rfl, by show (0 : Int) < 2; decide, q3, _, _, _, rfl, rfl, SqL.of upd_same, hat, ?_⟩
        generalize (upd HY q3 (.lst [.str "less", .str "same"])) = Ha at m1
        refine ⟨_, rfl, lb2, _, 0, _, rfl, rfl, SqL.of (m1 _ _ eL), atI_nat (j := 0) rfl, p1, _, 0, _, rfl, rfl, SqT.of (m1 _ _ e1d), atI_nat (j := 0) rfl, by show 2 ≤ sizeLine; decide, fun q4 nq4 => ?_⟩
        have m2 := Same.new (H := Ha) (o := .tup [.str "box", .str b0.n]) nq4
        have h4 : (upd Ha q4 (.tup [.str "box", .str b0.n])) q4 = some (.tup [.str "box", .str b0.n]) := upd_same
        generalize (upd Ha q4 (.tup [.str "box", .str b0.n])) = Hb at m2 h4
        have m12 := m1.trans m2
        refine ⟨_, rfl, ln, _, 2, _, rfl, rfl, SqL.of (m12 _ _ hlnY), rfl, by show 2 ≤ sizeLine; decide, fun q5 nq5 => ?_⟩
        have m3 := Same.new (H := Hb) (o := .tup [.str "box", .str n2]) nq5
        have h5 : (upd Hb q5 (.tup [.str "box", .str n2])) q5 = some (.tup [.str "box", .str n2]) := upd_same
        generalize (upd Hb q5 (.tup [.str "box", .str n2])) = Hc at m3 h5
        have m13 := m12.trans m3
        refine ⟨by show 3 ≤ sizeLine; decide, fun q6 nq6 => ?_⟩
        have m4 := Same.new (H := Hc) (o := .tup [.str (formS o), .ref q4, .ref q5]) nq6
        have h6 : (upd Hc q6 (.tup [.str (formS o), .ref q4, .ref q5])) q6 = some (.tup [.str (formS o), .ref q4, .ref q5]) := upd_same
        generalize (upd Hc q6 (.tup [.str (formS o), .ref q4, .ref q5])) = Hd at m4 h6
        have m14 := m13.trans m4
        have tA : TmAt Hd (.leaf .box b0.n) (.ref q4) := ⟨q4, rfl, m4 _ _ (m3 _ _ h4)⟩
        have tB_ : TmAt Hd (.leaf .box n2) (.ref q5) := ⟨q5, rfl, m4 _ _ h5⟩
        have tO : TmAt Hd (.bin o (.leaf .box b0.n) (.leaf .box n2)) (.ref q6) := ⟨q6, _, _, rfl, h6, tA, tB_⟩
        have wO : Wd (wsOf bs2 ds) (.bin o (.leaf .box b0.n) (.leaf .box n2)) 1 := by
          rcases ho with rfl | rfl
          · exact ⟨rfl, _, wb0, wb2⟩
          · exact ⟨rfl, _, wb0, wb2⟩
        -- the second
        refine ⟨_, rfl, by show 2 ≤ sizeLine; decide, fun w1 nw1 => ?_⟩
        have k1 := Same.new (H := Hd) (o := .tup [.str "not", .ref q6]) nw1
        have g1_ : (upd Hd w1 (.tup [.str "not", .ref q6])) w1 = some (.tup [.str "not", .ref q6]) := upd_same
        generalize (upd Hd w1 (.tup [.str "not", .ref q6])) = He_ at k1 g1_
        have m15 := m14.trans k1
        refine ⟨_, rfl, ln, _, 2, _, rfl, rfl, SqL.of (m15 _ _ hlnY), rfl, by show 2 ≤ sizeLine; decide, fun w2 nw2 => ?_⟩
        have k2 := Same.new (H := He_) (o := .tup [.str "box", .str n2]) nw2
        have g2_ : (upd He_ w2 (.tup [.str "box", .str n2])) w2 = some (.tup [.str "box", .str n2]) := upd_same
        generalize (upd He_ w2 (.tup [.str "box", .str n2])) = Hf at k2 g2_
        have m16 := m15.trans k2
        refine ⟨_, rfl, lb2, _, 0, _, rfl, rfl, SqL.of (m16 _ _ eL), atI_nat (j := 0) rfl, p1, _, 0, _, rfl, rfl, SqT.of (m16 _ _ e1d), atI_nat (j := 0) rfl, by show 2 ≤ sizeLine; decide, fun w3 nw3 => ?_⟩
        have k3 := Same.new (H := Hf) (o := .tup [.str "box", .str b0.n]) nw3
        have g3_ : (upd Hf w3 (.tup [.str "box", .str b0.n])) w3 = some (.tup [.str "box", .str b0.n]) := upd_same
        generalize (upd Hf w3 (.tup [.str "box", .str b0.n])) = Hg at k3 g3_
        refine ⟨by show 3 ≤ sizeLine; decide, fun w4 nw4 => ?_⟩
        have k4 := Same.new (H := Hg) (o := .tup [.str "less", .ref w2, .ref w3]) nw4
        have g4_ : (upd Hg w4 (.tup [.str "less", .ref w2, .ref w3])) w4 = some (.tup [.str "less", .ref w2, .ref w3]) := upd_same
        generalize (upd Hg w4 (.tup [.str "less", .ref w2, .ref w3])) = Hh at k4 g4_
        refine ⟨by show 2 ≤ sizeLine; decide, fun w5 nw5 => ?_⟩
        have k5 := Same.new (H := Hh) (o := .lst [.ref w1, .ref w4]) nw5
        have g5_ : (upd Hh w5 (.lst [.ref w1, .ref w4])) w5 = some (.lst [.ref w1, .ref w4]) := upd_same
        generalize (upd Hh w5 (.lst [.ref w1, .ref w4])) = Hi at k5 g5_
        have k35 := (k3.trans k4).trans k5
        have k25 := k2.trans k35
        have k15 := k1.trans k25
        have mAll := m14.trans k15
        have tN : TmAt Hi (.not (.bin o (.leaf .box b0.n) (.leaf .box n2))) (.ref w1) := ⟨w1, _, rfl, k25 _ _ g1_, TmAt.same k15 tO⟩
        have tL : TmAt Hi (.bin .less (.leaf .box n2) (.leaf .box b0.n)) (.ref w4) := ⟨w4, _, _, rfl, k5 _ _ g4_, ⟨w2, rfl, k35 _ _ g2_⟩, ⟨w3, rfl, k5 _ _ (k4 _ _ g3_)⟩⟩
        have sel : ∃ (wv : Addr) (t2' : Tm), atI [V.ref w1, V.ref w4] ((way : Int) / 2048 % 2) = some (.ref wv) ∧ TmAt Hi t2' (.ref wv) ∧ dp t2' ≤ 6 ∧ sz t2' ≤ 40 ∧ Wd (wsOf bs2 ds) t2' 1 := by
          obtain ⟨j, ej, hj⟩ := modN ((way : Int) / 2048) (m := 2) (by decide)
          have ej : (way : Int) / 2048 % 2 = (j : Int) := ej
          rw [ej]
          have : j = 0 ∨ j = 1 := by omega
          rcases this with rfl | rfl
          · exact ⟨w1, _, rfl, tN, by show 3 ≤ 6; decide, by show 4 ≤ 40; decide, wO⟩
          · exact ⟨w4, _, rfl, tL, by show 2 ≤ 6; decide, by show 3 ≤ 40; decide, ⟨rfl, _, wb2, wb0⟩⟩
        obtain ⟨wv, t2', hsel, ht2', hd2', hz2', hw2'⟩ := sel
        refine ⟨_, rfl, _, _, rfl, rfl, ⟨by decide, by decide⟩, _, _, rfl, rfl, by show (0 : Int) < 2; decide, w5, _, _, _, rfl, rfl, SqL.of g5_, hsel, ?_⟩
        exact ⟨.ref q6, .ref wv, _, t2', lb2, bs2, _, rfl, ⟨(s17.trans u15).trans mAll, TmAt.same k15 tO, ht2', by show 2 ≤ 7; decide, hd2', by show 3 ≤ 40; decide, hz2', wO, hw2'⟩, two'.same mAll, nd4, l6⟩
      · refine ⟨v1, v2, t1, t2, lb, bs, none, rfl, tw, bx.two.same tw.s, ?_, Nat.le_trans bx.b4 (by decide)⟩
        exact List.Nodup.sublist (List.Sublist.append (List.Sublist.refl _) (by
          show [n0, n1].Sublist ([n0, n1] ++ [n2])
          exact List.sublist_append_left _ _)) bx.nd
    have hln : ∀ H', Same H1 H' → H' ln = some (.lst [.str n0, .str n1, .str n2]) := fun H' s => s _ _ bx.n
    have ok0 : NmOk n0 := bx.ok n0 List.mem_cons_self
    have ok1 : NmOk n1 := bx.ok n1 (List.mem_cons_of_mem _ List.mem_cons_self)
    clear tw
    rintro σ H8 ⟨v1, v2, t1, t2, lb, bs, xw, rfl, tw, two, nd, l6⟩
    have s18 := tw.s
    -- 9: the writes
    refine ⟨fun σ H' => ∃ (lw l1 l2 : Addr) (ws1 ws2 : List Wr) (y : Option V), σ = [some (.ref a), some (vN 3), some (.ref lb), some (.ref ld), some (.ref ln), some v1, some v2, some (vN way), xw, some (.ref lw), y] ∧ Same H8 H' ∧ H' lw = some (.lst [.ref l1, .ref l2]) ∧
      WsAt H' bs ds l1 ws1 ∧ WsAt H' bs ds l2 ws2, ?_, ?_⟩
    · refine ⟨_, rfl, by decide, by decide, fun D nD => lc_range (lo := 0) (n := 2) (fun i H' => Same H8 H' ∧ ∃ lws : List (Addr × List Wr), lws.length = i ∧ H' D = some (.lst (lws.map fun z => V.ref z.1)) ∧ ∀ z ∈ lws, z.1 ≠ D ∧ WsAt H' bs ds z.1 z.2) ⟨Same.new nD, [], rfl, upd_same, nofun⟩ ?_ ?_⟩
      · rintro i H' hi ⟨sc, lws, len, hD, hz⟩
        have e3 : (3 : Int) + (0 + (i : Int)) = ((3 + i : Nat) : Int) := by omega
        have haC := (s18.trans sc).seq ha1
        refine ⟨rfl, yes_of (iteT ⟨_, rfl, _, rfl, _, _, rfl, rfl, a, js, 3 + i, congrArg (fun z => [V.ref a, V.int z]) e3, haC, by omega, fun c hc => ⟨c, 8, rfl, hc, by decide, fun m hm => ⟨_, rfl, _, rfl, m, lb, ld, bs, ds, rfl, by omega, two.same sc, l6, fun r H2 s2 ⟨p, ws, er, np, hp, hw⟩ => ?_⟩⟩⟩)⟩
        subst er
        have hD2 := s2 _ _ hD
        have pD : p ≠ D := fun z => by
          rw [z, hD] at np
          cases np
        refine ⟨_, hD2, ?_, (sc.trans s2).mut nD, lws ++ [(p, ws)], ?_, ?_, ?_⟩
        · rw [List.length_map]
          exact line_lt (by omega)
        · rw [List.length_append, len]
          rfl
        · rw [upd_same, List.map_append]
          rfl
        · intro z hz2
          rcases List.mem_append.mp hz2 with hz2 | hz2
          · exact ⟨(hz z hz2).1, WsAt.keep s2 hD (hz z hz2).1 (hz z hz2).2⟩
          · rw [List.mem_singleton.mp hz2]
            exact ⟨pD, WsAt.keep (Same.refl _) hD2 pD ⟨hp, hw⟩⟩
      · rintro H' ⟨sc, lws, len, hD, hz⟩
        match lws, len, hD, hz with
        | [(l1, ws1), (l2, ws2)], _, hD, hz =>
          exact ⟨D, l1, l2, ws1, ws2, none, rfl, sc, hD, (hz (l1, ws1) List.mem_cons_self).2, (hz (l2, ws2) (List.mem_cons_of_mem _ List.mem_cons_self)).2⟩
    rintro σ H9 ⟨lw, l1, l2, ws1, ws2, y, rfl, s9, hlw, ⟨hl1, aw1, lw1, nw1, ow1⟩, ⟨hl2, aw2, lw2, nw2, ow2⟩⟩
    have hln9 := hln _ (s18.trans s9)
    have u1 : ∀ {p}, H9 p = none → Same H9 (upd H9 p (.tup [.str n0, v1, .ref l1])) := fun np => Same.new np
    refine ⟨_, rfl, _, rfl, _, rfl, ln, _, 0, _, rfl, rfl, SqL.of hln9, rfl, _, rfl, _, rfl, lw, _, 0, _, rfl, rfl, SqL.of hlw, rfl, by show 3 ≤ sizeLine; decide, fun p1 np1 => ?_⟩
    have u1 := Same.new (o := .tup [.str n0, v1, .ref l1]) np1
    have e1 : (upd H9 p1 (.tup [.str n0, v1, .ref l1])) p1 = some (.tup [.str n0, v1, .ref l1]) := upd_same
    generalize (upd H9 p1 (.tup [.str n0, v1, .ref l1])) = HA at u1 e1
    refine ⟨_, rfl, ln, _, 1, _, rfl, rfl, SqL.of (u1 _ _ hln9), rfl, _, rfl, _, rfl, lw, _, 1, _, rfl, rfl, SqL.of (u1 _ _ hlw), rfl, by show 3 ≤ sizeLine; decide, fun p2 np2 => ?_⟩
    have u2 := Same.new (o := .tup [.str n1, v2, .ref l2]) np2
    have e2 : (upd HA p2 (.tup [.str n1, v2, .ref l2])) p2 = some (.tup [.str n1, v2, .ref l2]) := upd_same
    generalize (upd HA p2 (.tup [.str n1, v2, .ref l2])) = HB at u2 e2
    refine ⟨by show 2 ≤ sizeLine; decide, fun lr nr => ⟨by show 3 ≤ sizeLine; decide, fun p np => ?_⟩⟩
    have u12 := u1.trans u2
    have s8B := s9.trans u12
    have tm1 := TmAt.same s8B tw.a1
    have tm2 := TmAt.same s8B tw.a2
    have uL := Same.new (H := HB) (o := .lst [.ref p1, .ref p2]) nr
    have uP := Same.new (H := upd HB lr (.lst [.ref p1, .ref p2])) (o := .tup [.ref lb, .ref ld, .ref lr]) np
    refine q p _ ⟨lb, ld, lr, bs, ds, ⟨p1, n0, v1, t1, l1, ws1⟩, ⟨p2, n1, v2, t2, l2, ws2⟩, HB, upd_same, uP _ _ upd_same, (s1.trans s18).trans s8B, uL.trans uP, nr, ⟨two.same s8B, ⟨u2 _ _ e1, tm1, u12 _ _ hl1, fun x hx => Wr.same u12 (aw1 x hx)⟩, ⟨e2, tm2, u12 _ _ hl2, fun x hx => Wr.same u12 (aw2 x hx)⟩, nd, ok0, ok1, ?_, ?_⟩⟩
    · exact ⟨⟨Nat.le_trans tw.d1 (by decide), Nat.lt_of_le_of_lt tw.z1 (by decide), tw.w1⟩, lw1, nw1, fun x hx => let ⟨k, e, h⟩ := ow1 x hx; ⟨k, e, lf_tm h⟩⟩
    · exact ⟨⟨Nat.le_trans tw.d2 (by decide), Nat.lt_of_le_of_lt tw.z2 (by decide), tw.w2⟩, lw2, nw2, fun x hx => let ⟨k, e, h⟩ := ow2 x hx; ⟨k, e, lf_tm h⟩⟩
end
end K24

set_option Elab.async false
set_option linter.all false
set_option maxRecDepth 100000
set_option maxHeartbeats 4000000
/-! The law's row. -/
namespace K24
open PySem PySem.Spec PyProof.Rows L2
/-! ### blocks of the row -/
structure Dsc where
  s : S4
  f : Str → Nat
  c : Str → Prop
def Blk (d : Dsc) (r r' : List Ask) : Prop := ∃ A, Srt A ∧ (∀ n, n ∈ A ↔ d.c n) ∧ r' = r ++ dn d.f d.s A
def Chain : List Dsc → List Ask → List Ask → Prop
  | [], r, r' => r' = r
  | d :: l, r, r' => ∃ r1, Blk d r r1 ∧ Chain l r1 r'
theorem Chain.snoc {d : Dsc} : ∀ {l : List Dsc} {r r1 r' : List Ask}, Chain l r r1 → Blk d r1 r' → Chain (l ++ [d]) r r'
  | [], _, _, _, h, b => by
    cases h
    exact ⟨_, b, rfl⟩
  | _ :: _, _, _, _, ⟨r2, b1, h⟩, b => ⟨r2, b1, Chain.snoc h b⟩
def bth (s : Sr) (t u : Tm) (n : Str) : Prop := n ∈ nms s t ∧ n ∈ nms s u
def jst (s : Sr) (t u : Tm) (n : Str) : Prop := (n ∈ nms s t ∨ n ∈ nms s u) ∧ ¬ (n ∈ nms s t ∧ n ∈ nms s u)
def dscs (bs ds : List Bx) (t u : Tm) : List Dsc := [⟨.box, bwOf bs, bth .box t u⟩, ⟨.door, bwOf ds, bth .door t u⟩, ⟨.box, bwOf bs, jst .box t u⟩, ⟨.door, bwOf ds, jst .door t u⟩, ⟨.one, bwOf bs, fun n => n ∈ nms .late t⟩, ⟨.other, bwOf bs, fun n => n ∈ nms .late u⟩]
theorem chain_ok {bs ds : List Bx} {t u : Tm} {ask : List Ask} (h : Chain (dscs bs ds t u) [] ask) : AskedOk (bwOf bs) (bwOf ds) t u ask := by
  obtain ⟨_, ⟨A1, s1, m1, rfl⟩, _, ⟨A2, s2, m2, rfl⟩, _, ⟨A3, s3, m3, rfl⟩, _, ⟨A4, s4, m4, rfl⟩, _, ⟨A5, s5, m5, rfl⟩, _, ⟨A6, s6, m6, rfl⟩, rfl⟩ := h
  refine ⟨A1, A2, A3, A4, A5, A6, ⟨s1, s2, s3, s4, s5, s6, m1, m2, m3, m4, m5, m6⟩, ?_⟩
  unfold six
  simp only [List.append_assoc, List.nil_append]
theorem in_line {bs : List Bx} {A : List Str} (hs : Srt A) (h : ∀ n ∈ A, ∃ j, wB bs n = some j) (hl : bs.length ≤ 12) (hk : ∀ b ∈ bs, b.k ≤ 64) (s : S4) : (dn (bwOf bs) s A).length ≤ 768 := by
  have h1 := nm_len hs h hl
  have h2 := dn_len (f := bwOf bs) (s := s) (ns := A) fun n hn => by
    obtain ⟨j, e⟩ := h n hn
    obtain ⟨b, hb, _, rfl⟩ := wB_mem e
    show (wB bs n).getD 0 ≤ 64
    rw [e]
    exact hk b hb
  omega
def thOf (b : Bx) : Th := (b.p, b.n, (b.k : Int) :: b.f)
/-- an inner loop's row: what the things so far have given -/
theorem filt_snoc {us : List Th} {i : Nat} {u : Th} (c : Str → Bool) (f : Str → Nat) (s : S4) (h : us[i]? = some u) :
    dn f s (((us.take (i + 1)).map (·.2.1)).filter c) = if c u.2.1 = true then dn f s (((us.take i).map (·.2.1)).filter c) ++ (List.range (f u.2.1)).reverse.map (fun p => ((s, u.2.1, p) : Ask)) else dn f s (((us.take i).map (·.2.1)).filter c) := by
  rw [take_snoc h, List.map_append, List.filter_append]
  by_cases e : c u.2.1 = true
  · rw [if_pos e]
    show dn f s (_ ++ [u.2.1].filter c) = _
    rw [List.filter_cons_of_pos e, List.filter_nil, dn_snoc]
  · rw [if_neg e]
    show dn f s (_ ++ [u.2.1].filter c) = _
    rw [List.filter_cons_of_neg e, List.filter_nil, List.append_nil]
section
variable {P : Program} {w : World} {K : PySem.W.Frag} {mg : Str → Option Value} {base : Heap}
def sp_bits : Sp := fun vs_ H Q _ => ∃ (s : S4) (p : Addr) (n : Str) (k : Nat) (r : List V), vs_ = [.str (s4S s), .ref p] ∧ H p = some (.tup (.str n :: vN k :: r)) ∧ k ≤ 64 ∧
  Ret H Q fun r H' => ∃ q us, r = .ref q ∧ H' q = some (.lst us) ∧ AskAt H' us ((List.range k).reverse.map fun p => ((s, n, p) : Ask))
theorem ok_bits (T : Txt K mg) : Ok P w K mg base "_law_bits" ["sort", "thing"] 1 sp_bits := by
  refine T.d__law_bits.ok sc_law_bits (fun vs H Q E h => ?_) (fun cdv A outer s H vs_ Q E hr h => ?_)
  · obtain ⟨s, p, n, k, r, rfl, _⟩ := h
    rfl
  · obtain ⟨s', p, n, k, r, rfl, hp, k64, q⟩ := h
    refine ⟨_, (pss_one (ps_ret (pe_lc (own := [("k", 2)]) (g := gName 2) (by rfl) sc_law_bits.nd (pi_range1 (by rfl) T.z_range (pa_cons (pe_ix (r := rIxT K) ix_tup (pv 1) pe_int (fun _ _ => rfl)) pa_nil)) (blkOk_by (N := N__law_bits) (sc := defScope s__law_bits) (by decide +kernel)) (fun _ _ _ _ _ => pg_name (i := 2) sc_law_bits.nd rfl (Or.inl rfl)) (fun _ _ _ _ _ => pts_nil) (fun _ _ _ _ _ => (pe_tup (pa_cons (pv 0) (pa_cons (pe_ix (r := rIxT K) ix_tup (pv 1) pe_int (fun _ _ => rfl)) (pa_cons (pe_op op_sub (pe_op op_sub (pe_ix (r := rIxT K) ix_tup (pv 1) pe_int (fun _ _ => rfl)) pe_int) (pv 2)) pa_nil)))))))), ?_⟩
    refine ⟨_, rfl, p, _, 1, _, rfl, rfl, SqT.of hp, atI_nat (j := 1) rfl, _, rfl, by omega, by omega, fun D nD => lc_range (lo := 0) (fun i H' => Same H H' ∧ ∃ us, H' D = some (.lst us) ∧ AskAt H' us (((List.range k).reverse.take i).map fun p => ((s', n, p) : Ask))) ⟨Same.new nD, [], upd_same, Ea.nil⟩ ?_ ?_⟩
    · rintro i H' hi ⟨s1, us, hD, au⟩
      have hi : i < k := by omega
      have hp1 := s1 _ _ hp
      refine ⟨rfl, yes_of (iteT ?_)⟩
      refine ⟨_, rfl, _, rfl, p, _, 0, _, rfl, rfl, SqT.of hp1, atI_nat (j := 0) rfl, _, rfl, p, _, 1, _, rfl, rfl, SqT.of hp1, atI_nat (j := 1) rfl, _, _, rfl, rfl, _, rfl, _, _, rfl, rfl, by show 3 ≤ sizeLine; decide, fun e ne => ?_⟩
      have ee : (k : Int) - 1 - (0 + (i : Int)) = ((k - 1 - i : Nat) : Int) := by omega
      dsimp only
      rw [ee]
      have s2 := Same.new (H := H') (o := .tup [.str (s4S s'), .str n, vN (k - 1 - i)]) ne
      have hD2 := s2 _ _ hD
      refine ⟨us, hD2, ?_, (s1.trans s2).mut nD, _, upd_same, ?_⟩
      · rw [au.1, List.length_map, List.length_take]
        exact line_lt (by omega)
      · rw [take_snoc (rev_at hi), List.map_append]
        exact Ea.app (AskAt.keepL au s2 hD) (Ea.one ⟨e, rfl, keepU (Same.refl _) hD2 upd_same nofun⟩)
    · rintro H' ⟨s1, us, hD, au⟩
      have e : (List.range k).reverse.take ((k : Int)).toNat = (List.range k).reverse := List.take_of_length_le (by rw [List.length_reverse, List.length_range]; omega)
      rw [e] at au
      exact q _ _ s1 ⟨D, us, rfl, hD, au⟩
/-- the two inner loops -/
abbrev tInn (K : PySem.W.Frag) : TS := (tFor (iList K (tCB (rSortTh K) (tCons (tVar 7) tNil))) (gName 8) (tSeq (tAsg (tOp (rI0 fun i j => .int (i + j)) (tCB (fun xs H Q => (∃ i, xs = [.int i] ∧ Q (.int i) H) ∨ ∃ k, xs = [.bl k] ∧ Q (.int (if k then 1 else 0)) H) (tCons (tOp (rIn K false) (tOp (rIxT K) (tVar 8) (tC (.int 0))) (tCall (sp_found 8) [] E0 (tCons (tVar 2) (tCons (tVar 6) tNil)))) tNil))
          (tCB (fun xs H Q => (∃ i, xs = [.int i] ∧ Q (.int i) H) ∨ ∃ k, xs = [.bl k] ∧ Q (.int (if k then 1 else 0)) H) (tCons (tOp (rIn K false) (tOp (rIxT K) (tVar 8) (tC (.int 0))) (tCall (sp_found 8) [] E0 (tCons (tVar 3) (tCons (tVar 6) tNil)))) tNil))) (gName 9))
          (tIfS (tTest (tOp rEq (tVar 9) (tVar 5))) (tAsg (tOp rCat (tVar 4) (tCall sp_bits [] E0 (tCons (tVar 6) (tCons (tVar 8) tNil)))) (gName 4)) tNext)))
abbrev tLat (K : PySem.W.Frag) : TS := (tFor (iList K (tCB (rSortTh K) (tCons (tVar 0) tNil))) (gName 8) (tIfS (tTest (tOp (rIn K false) (tOp (rIxT K) (tVar 8) (tC (.int 0))) (tCall (sp_found 8) [] E0 (tCons (tVar 10) (tCons (tC (.str "late")) tNil))))) (tAsg (tOp rCat (tVar 4) (tCall sp_bits [] E0 (tCons (tVar 6) (tCons (tVar 8) tNil)))) (gName 4)) tNext))
theorem cnt2 {P Q : Prop} [Decidable P] [Decidable Q] : decide (V.int ((if decide P = true then 1 else 0) + (if decide Q = true then 1 else 0)) = vN 2) = true ↔ P ∧ Q := by
  by_cases h1 : P <;> by_cases h2 : Q <;> simp [h1, h2, vN]
theorem cnt1 {P Q : Prop} [Decidable P] [Decidable Q] : decide (V.int ((if decide P = true then 1 else 0) + (if decide Q = true then 1 else 0)) = vN 1) = true ↔ (P ∨ Q) ∧ ¬ (P ∧ Q) := by
  by_cases h1 : P <;> by_cases h2 : Q <;> simp [h1, h2, vN]
theorem wd_nm {bs ds : List Bx} {t : Tm} {k : Nat} {n : Str} (h : Wd (wsOf bs ds) t k) : (n ∈ nms .box t → n ∈ bs.map (·.n)) ∧ (n ∈ nms .late t → n ∈ bs.map (·.n)) ∧ (n ∈ nms .door t → n ∈ ds.map (·.n)) := by
  refine ⟨fun q => ?_, fun q => ?_, fun q => ?_⟩
  · obtain ⟨j, e⟩ := wd_named h q
    obtain ⟨b, hb, rfl, _⟩ := wB_mem (show wB bs n = some j from e)
    exact List.mem_map.mpr ⟨b, hb, rfl⟩
  · obtain ⟨j, e⟩ := wd_named h q
    obtain ⟨b, hb, rfl, _⟩ := wB_mem (show wB bs n = some j from e)
    exact List.mem_map.mpr ⟨b, hb, rfl⟩
  · obtain ⟨j, e⟩ := wd_named h q
    obtain ⟨b, hb, rfl, _⟩ := wB_mem (show wB ds n = some j from e)
    exact List.mem_map.mpr ⟨b, hb, rfl⟩
theorem dn_768 {xs : List Bx} {A : List Str} (s : S4) (hs : Srt A) (h : ∀ n ∈ A, n ∈ xs.map (·.n)) (hl : xs.length ≤ 12) (hk : ∀ b ∈ xs, b.k ≤ 64) : (dn (bwOf xs) s A).length ≤ 768 := by
  have h1 := nd_len (srt_nodup hs) h
  rw [List.length_map] at h1
  have h2 := dn_len (f := bwOf xs) (s := s) (ns := A) fun n _ => by
    show (wB xs n).getD 0 ≤ 64
    cases e : wB xs n with
    | none => exact Nat.zero_le _
    | some j =>
      obtain ⟨b, hb, _, rfl⟩ := wB_mem e
      exact hk b hb
  omega
def sp_row : Sp := fun vs_ H Q _ => ∃ (lb ld : Addr) (v1 v2 : V) (bs ds : List Bx) (t1 t2 : Tm), vs_ = [.ref lb, .ref ld, v1, v2] ∧ TwoL H lb ld bs ds ∧ TmAt H t1 v1 ∧ TmAt H t2 v2 ∧ TmOk (wsOf bs ds) t1 1 ∧ TmOk (wsOf bs ds) t2 1 ∧
  Ret H Q fun r H' => ∃ p us ask, r = .ref p ∧ H' p = some (.lst us) ∧ AskAt H' us ask ∧ AskedOk (bwOf bs) (bwOf ds) t1 t2 ask
theorem ok_row (T : Txt K mg) : Ok P w K mg base "_law_row" ["boxes", "doors", "one", "other"] 10 sp_row := by
  have G__law_found : Ok P w K mg base "_law_found" _ 9 _ := ok_found T 8
  have G__law_bits : Ok P w K mg base "_law_bits" _ 1 _ := ok_bits T
  refine T.d__law_row.ok sc_law_row (fun vs H Q E h => ?_) (fun cdv A outer s H vs_ Q E hr h => ?_)
  · obtain ⟨lb, ld, v1, v2, bs, ds, t1, t2, rfl, _⟩ := h
    rfl
  · obtain ⟨lb, ld, v1, v2, bs, ds, t1, t2, rfl, two, ht1, ht2, o1, o2, q⟩ := h
    refine ⟨_, (pss_cons (ps_set (i := 4) sc_law_row.nd rfl (Or.inl rfl) (pe_lst pa_nil))
      (C8.pss_cut (ps_for PassesOwn.never (by rfl) (pi_list (pe_lst (pa_cons pe_int (pa_cons pe_int pa_nil)))) (pg_name (i := 5) sc_law_row.nd rfl (Or.inl rfl)) (pss_one (ps_for PassesOwn.never (by rfl) (pi_list (pe_lst (pa_cons (pe_tup (pa_cons pe_str (pa_cons (pv 0) pa_nil))) (pa_cons (pe_tup (pa_cons pe_str (pa_cons (pv 1) pa_nil))) pa_nil)))) (pg_tup (by rfl) (pgs_cons (pg_name (i := 6) sc_law_row.nd rfl (Or.inl rfl)) (pgs_cons (pg_name (i := 7) sc_law_row.nd rfl (Or.inl rfl)) pgs_nil))) (pss_one (ps_for PassesOwn.never (by rfl) (pi_list (pe_callB (cr_sortTh hr.units) (by rfl) T.z_sorted PyProof.Rows.boot_sorted (pa_cons (pv 7) pa_nil))) (pg_name (i := 8) sc_law_row.nd rfl (Or.inl rfl)) (pss_cons (ps_set (i := 9) sc_law_row.nd rfl (Or.inl rfl) (pe_op op_add (pe_callTy call_int1 (by rfl) T.z_int PyProof.Rows.boot_int (pa_cons (pe_cmpR (r := rIn K false) op_in_seq (pe_ix (r := rIxT K) ix_tup (pv 8) pe_int (fun _ _ => rfl)) (pe_c T.d__law_found G__law_found (hr.mono (by omega)) (by rfl) (pa_cons (pv 2) (pa_cons (pv 6) pa_nil))) (by rfl)) pa_nil)) (pe_callTy call_int1 (by rfl) T.z_int PyProof.Rows.boot_int (pa_cons (pe_cmpR (r := rIn K false) op_in_seq (pe_ix (r := rIxT K) ix_tup (pv 8) pe_int (fun _ _ => rfl)) (pe_c T.d__law_found G__law_found (hr.mono (by omega)) (by rfl) (pa_cons (pv 3) (pa_cons (pv 6) pa_nil))) (by rfl)) pa_nil))))
      (pss_one (ps_if (pt_cmpR op_eq (pv 9) (pv 5) (nomark _)) (pss_one (ps_set (i := 4) sc_law_row.nd rfl (Or.inl rfl) (pe_op op_cat (pv 4) (pe_c T.d__law_bits G__law_bits (hr.mono (by omega)) (by rfl) (pa_cons (pv 6) (pa_cons (pv 8) pa_nil)))))) pss_nil))))))))
      (C8.pss_cut (ps_for PassesOwn.never (by rfl) (pi_list (pe_lst (pa_cons (pe_tup (pa_cons pe_str (pa_cons (pv 2) pa_nil))) (pa_cons (pe_tup (pa_cons pe_str (pa_cons (pv 3) pa_nil))) pa_nil)))) (pg_tup (by rfl) (pgs_cons (pg_name (i := 6) sc_law_row.nd rfl (Or.inl rfl)) (pgs_cons (pg_name (i := 10) sc_law_row.nd rfl (Or.inl rfl)) pgs_nil))) (pss_one (ps_for PassesOwn.never (by rfl) (pi_list (pe_callB (cr_sortTh hr.units) (by rfl) T.z_sorted PyProof.Rows.boot_sorted (pa_cons (pv 0) pa_nil))) (pg_name (i := 8) sc_law_row.nd rfl (Or.inl rfl)) (pss_one (ps_if (pt_cmpR (r := rIn K false) op_in_seq (pe_ix (r := rIxT K) ix_tup (pv 8) pe_int (fun _ _ => rfl)) (pe_c T.d__law_found G__law_found (hr.mono (by omega)) (by rfl) (pa_cons (pv 10) (pa_cons pe_str pa_nil))) (by rfl)) (pss_one (ps_set (i := 4) sc_law_row.nd rfl (Or.inl rfl) (pe_op op_cat (pv 4) (pe_c T.d__law_bits G__law_bits (hr.mono (by omega)) (by rfl) (pa_cons (pv 6) (pa_cons (pv 8) pa_nil)))))) pss_nil)))))
      (pss_one (ps_ret (pv 4)))))), ?_⟩
    have bd := two.bd
    have z1 : sz t1 ≤ 1000 := by have := o1.z; omega
    have z2 : sz t2 ≤ 1000 := by have := o2.z; omega
    -- the things of one list, in order: those that are counted so often
    have inner : ∀ (s : Sr) (s' : S4) (l : Addr) (xs : List Bx) (many : Nat) (c : Str → Bool) (r0 : List Ask) (us0 : List V) (rp0 : Addr) (x8 x9 : Option V) (H0 : Hp) (D : Ends), srS s = s4S s' → Same H H0 → H0 l = some (.lst (xs.map fun x => V.ref x.p)) → (∀ x ∈ xs, x.At H0) → (xs.map (·.n)).Nodup → xs.length ≤ 12 → (∀ x ∈ xs, x.k ≤ 64) →
        (∀ n, decide (V.int ((if decide (n ∈ nms s t1) = true then 1 else 0) + (if decide (n ∈ nms s t2) = true then 1 else 0)) = vN many) = c n) → H0 rp0 = some (.lst us0) → AskAt H0 us0 r0 → r0.length ≤ 5000 →
        (∀ (rp : Addr) (x8 x9 : Option V) (H' : Hp) (us : List V) (A : List Str), Same H0 H' → H' rp = some (.lst us) → Srt A → (∀ n, n ∈ A ↔ n ∈ xs.map (·.n) ∧ c n = true) → AskAt H' us (r0 ++ dn (bwOf xs) s' A) → D.nx [some (.ref lb), some (.ref ld), some v1, some v2, some (.ref rp), some (vN many), some (.str (srS s)), some (.ref l), x8, x9, none] H') →
        tInn K D [some (.ref lb), some (.ref ld), some v1, some v2, some (.ref rp0), some (vN many), some (.str (srS s)), some (.ref l), x8, x9, none] H0 := by
      intro s s' l xs many c r0 us0 rp0 x8 x9 H0 D hss sH hl ax ndx lx kx hc hrp hau lr fin
      have eth : (xs.map thOf).map (fun t => V.ref t.1) = xs.map fun x => V.ref x.p := by
        rw [List.map_map]
        rfl
      have enm : (xs.map thOf).map (·.2.1) = xs.map (·.n) := by
        rw [List.map_map]
        rfl
      refine ⟨_, rfl, l, xs.map thOf, rfl, SqL.of (by rw [eth]; exact hl), by rw [List.length_map]; omega, fun t ht => ?_, by rw [enm]; exact ndx, fun us p pm srt np => ?_⟩
      · obtain ⟨b, hb, rfl⟩ := List.mem_map.mp ht
        exact ax b hb
      have s1 := Same.new (H := H0) (o := .lst (us.map fun t => V.ref t.1)) np
      have lus : us.length = xs.length := by rw [pm.length_eq, List.length_map]
      have mem_n : ∀ n, n ∈ us.map (·.2.1) ↔ n ∈ xs.map (·.n) := fun n => by
        rw [← enm]
        exact (pm.map (·.2.1)).mem_iff
      have bw64 : ∀ n, bwOf xs n ≤ 64 := fun n => by
        show (wB xs n).getD 0 ≤ 64
        cases e : wB xs n with
        | none => exact Nat.zero_le _
        | some j =>
          obtain ⟨b, hb, _, rfl⟩ := wB_mem e
          exact kx b hb
      have ldn : ∀ k, (dn (bwOf xs) s' (((us.take k).map (·.2.1)).filter c)).length ≤ 768 := fun k => by
        have h1 := dn_len (f := bwOf xs) (s := s') (ns := ((us.take k).map (·.2.1)).filter c) fun n _ => bw64 n
        have h2 := List.length_filter_le c ((us.take k).map (·.2.1))
        rw [List.length_map, List.length_take] at h2
        omega
      refine ⟨p, rfl, ⟨_, SqL.of upd_same⟩, for_list (K := K) (a := p) (xs := us.map fun t => V.ref t.1) (fun k σ H' => ∃ (rp : Addr) (x8 x9 : Option V), σ = [some (.ref lb), some (.ref ld), some v1, some v2, some (.ref rp), some (vN many), some (.str (srS s)), some (.ref l), x8, x9, none] ∧ Same (upd H0 p (.lst (us.map fun t => V.ref t.1))) H' ∧
        ∃ ur, H' rp = some (.lst ur) ∧ AskAt H' ur (r0 ++ dn (bwOf xs) s' (((us.take k).map (·.2.1)).filter c))) ⟨rp0, x8, x9, rfl, Same.refl _, us0, s1 _ _ hrp, by
          show AskAt _ us0 (r0 ++ [])
          rw [List.append_nil]
          exact hau.same s1⟩ (fun i σ H' _ ⟨_, _, _, _, s2, _⟩ => s2.seq (SqL.of upd_same)) ?_ ?_⟩
      · rintro k u σ H' hku ⟨rp, x8, x9, rfl, s2, ur, hrp, hau⟩
        obtain ⟨th, eth_, rfl⟩ := map_at hku
        obtain ⟨b, hb, rfl⟩ : ∃ b ∈ xs, thOf b = th := List.mem_map.mp (pm.mem_iff.mp (List.mem_of_getElem? eth_))
        have s02 := s1.trans s2
        have sH2 := sH.trans s02
        have hb0 : H' b.p = some (.tup (.str b.n :: vN b.k :: b.f.map V.int)) := s02 _ _ (ax b hb)
        refine ⟨_, rfl, b.p, _, 0, _, rfl, rfl, SqT.of hb0, atI_nat (j := 0) rfl, _, rfl, _, rfl, s, v1, t1, rfl, TmAt.same sH2 ht1, o1.d, z1, fun r H2 s3 ⟨p2, er, hp2⟩ => ?_⟩
        subst er
        refine ⟨p2, _, rfl, .inl (SqL.of hp2), rfl, flat_ss _, .inr ⟨_, rfl, ?_⟩⟩
        have hb1 := s3 _ _ hb0
        refine ⟨_, rfl, b.p, _, 0, _, rfl, rfl, SqT.of hb1, atI_nat (j := 0) rfl, _, rfl, _, rfl, s, v2, t2, rfl, TmAt.same (sH2.trans s3) ht2, o2.d, z2, fun r H3 s4 ⟨p3, er, hp3⟩ => ?_⟩
        subst er
        refine ⟨p3, _, rfl, .inl (SqL.of hp3), rfl, flat_ss _, .inr ⟨_, rfl, _, _, rfl, rfl, ?_⟩⟩
        have s34 := s3.trans s4
        have hrp3 := s34 _ _ hrp
        refine ⟨_, rfl, _, rfl, rfl, _, rfl, ?_⟩
        show if decide (V.int ((if inV (V.str b.n) ((nms s t1).map V.str) = true then 1 else 0) + (if inV (V.str b.n) ((nms s t2).map V.str) = true then 1 else 0)) = vN many) = true then _ else _
        rw [in_ss, in_ss, hc]
        by_cases e : c b.n = true
        · rw [if_pos e]
          refine ⟨_, rfl, _, rfl, _, rfl, s', b.p, b.n, b.k, _, congrArg (fun z => [V.str z, V.ref b.p]) hss, s4 _ _ hb1, kx b hb, fun r H4 s5 ⟨q4, u4, er, hq4, au4⟩ => ?_⟩
          subst er
          have hrp4 := s5 _ _ hrp3
          refine ⟨rp, q4, _, _, rfl, rfl, hrp4, hq4, ?_, fun y ny => ?_⟩
          · rw [hau.1, au4.1, List.length_append, List.length_map, List.length_reverse, List.length_range]
            have h1 := ldn k
            have h2 := kx b hb
            exact line_of (by omega)
          · refine ⟨y, _, _, rfl, ((s2.trans s34).trans s5).newT ny, _, upd_same, ?_⟩
            have ebw : bwOf xs (thOf b).2.1 = b.k := by
              show (wB xs b.n).getD 0 = b.k
              rw [wB_get ndx hb]
              rfl
            rw [filt_snoc c _ _ eth_, if_pos (show c (thOf b).2.1 = true from e), ebw, ← List.append_assoc]
            exact AskAt.same (Ea.app (AskAt.same hau (s34.trans s5)) au4) (Same.new ny)
        · rw [if_neg e]
          refine ⟨rp, _, _, rfl, s2.trans s34, ur, hrp3, ?_⟩
          rw [filt_snoc c _ _ eth_, if_neg (show ¬ c (thOf b).2.1 = true from e)]
          exact hau.same s34
      · rintro σ H' ⟨rp, x8, x9, rfl, s2, ur, hrp, hau⟩
        rw [List.length_map, List.take_length] at hau
        refine fin rp x8 x9 H' ur _ (s1.trans s2) hrp (List.Pairwise.filter _ srt) (fun n => ?_) hau
        rw [List.mem_filter, mem_n]
    -- the late names of one guard
    have inner2 : ∀ (s' : S4) (v : V) (t : Tm) (r0 : List Ask) (us0 : List V) (rp0 : Addr) (x5 x7 x8 x9 : Option V) (H0 : Hp) (D : Ends), Same H H0 → TmAt H t v → TmOk (wsOf bs ds) t 1 → H0 rp0 = some (.lst us0) → AskAt H0 us0 r0 → r0.length ≤ 5000 →
        (∀ (rp : Addr) (x8 : Option V) (H' : Hp) (us : List V) (A : List Str), Same H0 H' → H' rp = some (.lst us) → Srt A → (∀ n, n ∈ A ↔ n ∈ nms .late t) → AskAt H' us (r0 ++ dn (bwOf bs) s' A) → D.nx [some (.ref lb), some (.ref ld), some v1, some v2, some (.ref rp), x5, some (.str (s4S s')), x7, x8, x9, some v] H') →
        tLat K D [some (.ref lb), some (.ref ld), some v1, some v2, some (.ref rp0), x5, some (.str (s4S s')), x7, x8, x9, some v] H0 := by
      intro s' v t r0 us0 rp0 x5 x7 x8 x9 H0 D sH ht ot hrp hau lr fin
      have twoH := two.same sH
      have ndx : (bs.map (·.n)).Nodup := (List.nodup_append.mp bd.nd).1
      have lx := bd.lb
      have kx : ∀ x ∈ bs, x.k ≤ 64 := fun x hx => (bd.bk x hx).2
      have zt : sz t ≤ 1000 := by have := ot.z; omega
      have eth : (bs.map thOf).map (fun t => V.ref t.1) = bs.map fun x => V.ref x.p := by
        rw [List.map_map]
        rfl
      have enm : (bs.map thOf).map (·.2.1) = bs.map (·.n) := by
        rw [List.map_map]
        rfl
      refine ⟨_, rfl, lb, bs.map thOf, rfl, SqL.of (by rw [eth]; exact twoH.b), by rw [List.length_map]; omega, fun t ht => ?_, by rw [enm]; exact ndx, fun us p pm srt np => ?_⟩
      · obtain ⟨b, hb, rfl⟩ := List.mem_map.mp ht
        exact twoH.ab b hb
      have s1 := Same.new (H := H0) (o := .lst (us.map fun t => V.ref t.1)) np
      have lus : us.length = bs.length := by rw [pm.length_eq, List.length_map]
      have mem_n : ∀ n, n ∈ us.map (·.2.1) ↔ n ∈ bs.map (·.n) := fun n => by
        rw [← enm]
        exact (pm.map (·.2.1)).mem_iff
      have ldn : ∀ k, (dn (bwOf bs) s' (((us.take k).map (·.2.1)).filter fun n => decide (n ∈ nms .late t))).length ≤ 768 := fun k => by
        refine dn_768 s' (List.Pairwise.filter _ (List.Pairwise.sublist (List.Sublist.map _ (List.take_sublist _ _)) srt)) (fun n hn => ?_) lx kx
        exact (mem_n n).mp ((List.Sublist.map _ (List.take_sublist _ _)).subset (List.mem_filter.mp hn).1)
      refine ⟨p, rfl, ⟨_, SqL.of upd_same⟩, for_list (K := K) (a := p) (xs := us.map fun t => V.ref t.1) (fun k σ H' => ∃ (rp : Addr) (x8 : Option V), σ = [some (.ref lb), some (.ref ld), some v1, some v2, some (.ref rp), x5, some (.str (s4S s')), x7, x8, x9, some v] ∧ Same (upd H0 p (.lst (us.map fun t => V.ref t.1))) H' ∧
        ∃ ur, H' rp = some (.lst ur) ∧ AskAt H' ur (r0 ++ dn (bwOf bs) s' (((us.take k).map (·.2.1)).filter fun n => decide (n ∈ nms .late t)))) ⟨rp0, x8, rfl, Same.refl _, us0, s1 _ _ hrp, by
          show AskAt _ us0 (r0 ++ [])
          rw [List.append_nil]
          exact hau.same s1⟩ (fun i σ H' _ ⟨_, _, _, s2, _⟩ => s2.seq (SqL.of upd_same)) ?_ ?_⟩
      · rintro k u σ H' hku ⟨rp, x8, rfl, s2, ur, hrp, hau⟩
        obtain ⟨th, eth_, rfl⟩ := map_at hku
        obtain ⟨b, hb, rfl⟩ : ∃ b ∈ bs, thOf b = th := List.mem_map.mp (pm.mem_iff.mp (List.mem_of_getElem? eth_))
        have s02 := s1.trans s2
        have sH2 := sH.trans s02
        have hb0 : H' b.p = some (.tup (.str b.n :: vN b.k :: b.f.map V.int)) := s02 _ _ (twoH.ab b hb)
        refine ⟨_, rfl, b.p, _, 0, _, rfl, rfl, SqT.of hb0, atI_nat (j := 0) rfl, _, rfl, .late, v, t, rfl, TmAt.same sH2 ht, ot.d, zt, fun r H2 s3 ⟨p2, er, hp2⟩ => ?_⟩
        subst er
        have hb1 := s3 _ _ hb0
        have hrp3 := s3 _ _ hrp
        refine ⟨p2, _, rfl, .inl (SqL.of hp2), rfl, flat_ss _, _, rfl, ?_⟩
        show if inV (V.str b.n) ((nms .late t).map V.str) = true then _ else _
        rw [in_ss]
        by_cases e : b.n ∈ nms .late t
        · rw [if_pos (decide_eq_true e)]
          refine ⟨_, rfl, _, rfl, _, rfl, s', b.p, b.n, b.k, _, rfl, hb1, kx b hb, fun r H4 s5 ⟨q4, u4, er, hq4, au4⟩ => ?_⟩
          subst er
          have hrp4 := s5 _ _ hrp3
          refine ⟨rp, q4, _, _, rfl, rfl, hrp4, hq4, ?_, fun y ny => ?_⟩
          · rw [hau.1, au4.1, List.length_append, List.length_map, List.length_reverse, List.length_range]
            have h1 := ldn k
            have h2 := kx b hb
            exact line_of (by omega)
          · refine ⟨y, _, rfl, ((s2.trans s3).trans s5).newT ny, _, upd_same, ?_⟩
            have ebw : bwOf bs (thOf b).2.1 = b.k := by
              show (wB bs b.n).getD 0 = b.k
              rw [wB_get ndx hb]
              rfl
            rw [filt_snoc _ _ _ eth_, if_pos (decide_eq_true (show (thOf b).2.1 ∈ nms .late t from e)), ebw, ← List.append_assoc]
            exact AskAt.same (Ea.app (AskAt.same hau (s3.trans s5)) au4) (Same.new ny)
        · rw [if_neg (by rw [decide_eq_true_eq]; exact e)]
          refine ⟨rp, _, rfl, s2.trans s3, ur, hrp3, ?_⟩
          rw [filt_snoc _ _ _ eth_, if_neg (by rw [decide_eq_true_eq]; exact e)]
          exact hau.same s3
      · rintro σ H' ⟨rp, x8, rfl, s2, ur, hrp, hau⟩
        rw [List.length_map, List.take_length] at hau
        refine fin rp x8 H' ur _ (s1.trans s2) hrp (List.Pairwise.filter _ srt) (fun n => ?_) hau
        rw [List.mem_filter, mem_n, decide_eq_true_eq]
        exact ⟨fun h => h.2, fun h => ⟨(wd_nm ot.w).2.1 h, h⟩⟩
    have ndb : (bs.map (·.n)).Nodup := (List.nodup_append.mp bd.nd).1
    have ndd : (ds.map (·.n)).Nodup := (List.nodup_append.mp bd.nd).2.1
    have ld12 : ds.length ≤ 12 := Nat.le_trans bd.ld (by decide)
    have kb : ∀ x ∈ bs, x.k ≤ 64 := fun x hx => (bd.bk x hx).2
    have kd : ∀ x ∈ ds, x.k ≤ 64 := fun x hx => (bd.dk x hx).2
    -- one turn of the outer loop
    have pair : ∀ (i many : Nat) (cB cD : Str → Prop) (D : Ends), i < 2 → (dscs bs ds t1 t2)[2 * i]? = some ⟨.box, bwOf bs, cB⟩ → (dscs bs ds t1 t2)[2 * i + 1]? = some ⟨.door, bwOf ds, cD⟩ →
        (∀ n, cB n ↔ n ∈ bs.map (·.n) ∧ decide (V.int ((if decide (n ∈ nms .box t1) = true then 1 else 0) + (if decide (n ∈ nms .box t2) = true then 1 else 0)) = vN many) = true) →
        (∀ n, cD n ↔ n ∈ ds.map (·.n) ∧ decide (V.int ((if decide (n ∈ nms .door t1) = true then 1 else 0) + (if decide (n ∈ nms .door t2) = true then 1 else 0)) = vN many) = true) →
        ∀ (rp : Addr) (x6 x7 x8 x9 : Option V) (H0 : Hp) (us : List V) (ask : List Ask), Same H H0 → H0 rp = some (.lst us) → AskAt H0 us ask → Chain ((dscs bs ds t1 t2).take (2 * i)) [] ask → ask.length ≤ 768 * (2 * i) →
        (∀ (rp : Addr) (x6 x7 x8 x9 : Option V) (H' : Hp) (us : List V) (ask : List Ask), Same H0 H' → H' rp = some (.lst us) → AskAt H' us ask → Chain ((dscs bs ds t1 t2).take (2 * (i + 1))) [] ask → ask.length ≤ 768 * (2 * (i + 1)) → D.nx [some (.ref lb), some (.ref ld), some v1, some v2, some (.ref rp), some (vN many), x6, x7, x8, x9, none] H') →
        (tFor (iList K (tLst (tCons (tTup (tCons (tC (.str "box")) (tCons (tVar 0) tNil))) (tCons (tTup (tCons (tC (.str "door")) (tCons (tVar 1) tNil))) tNil)))) (gTup K 2 (gCons (gName 6) (gCons (gName 7) gNil))) (tInn K)) D [some (.ref lb), some (.ref ld), some v1, some v2, some (.ref rp), some (vN many), x6, x7, x8, x9, none] H0 := by
      intro i many cB cD D hi eB eD hB hD rp x6 x7 x8 x9 H0 us ask sH hrp hau hch hlen fin
      refine ⟨_, rfl, by show 2 ≤ sizeLine; decide, fun p1 np1 => ⟨_, rfl, by show 2 ≤ sizeLine; decide, fun p2 np2 => ⟨by show 2 ≤ sizeLine; decide, fun m nm => ?_⟩⟩⟩
      have u1 := Same.new (H := H0) (o := .tup [.str "box", .ref lb]) np1
      have u2 := Same.new (H := upd H0 p1 (.tup [.str "box", .ref lb])) (o := .tup [.str "door", .ref ld]) np2
      have u3 := Same.new (H := upd (upd H0 p1 (.tup [.str "box", .ref lb])) p2 (.tup [.str "door", .ref ld])) (o := .lst [.ref p1, .ref p2]) nm
      have e1 := u3 _ _ (u2 _ _ (upd_same (H := H0) (a := p1) (o := .tup [.str "box", .ref lb])))
      have e2 := u3 _ _ (upd_same (H := upd H0 p1 (.tup [.str "box", .ref lb])) (a := p2) (o := .tup [.str "door", .ref ld]))
      have e3 := upd_same (H := upd (upd H0 p1 (.tup [.str "box", .ref lb])) p2 (.tup [.str "door", .ref ld])) (a := m) (o := .lst [.ref p1, .ref p2])
      have u := (u1.trans u2).trans u3
      generalize (upd (upd (upd H0 p1 (.tup [.str "box", .ref lb])) p2 (.tup [.str "door", .ref ld])) m (.lst [.ref p1, .ref p2])) = Hm at u e1 e2 e3
      refine ⟨m, rfl, ⟨_, SqL.of e3⟩, for_list (K := K) (a := m) (xs := [.ref p1, .ref p2]) (fun j σ H' => ∃ (rp : Addr) (x6 x7 x8 x9 : Option V), σ = [some (.ref lb), some (.ref ld), some v1, some v2, some (.ref rp), some (vN many), x6, x7, x8, x9, none] ∧ Same Hm H' ∧ ∃ us ask, H' rp = some (.lst us) ∧ AskAt H' us ask ∧ Chain ((dscs bs ds t1 t2).take (2 * i + j)) [] ask ∧ ask.length ≤ 768 * (2 * i + j))
        ⟨rp, x6, x7, x8, x9, rfl, Same.refl _, us, ask, u _ _ hrp, hau.same u, hch, hlen⟩ (fun j σ H' _ ⟨_, _, _, _, _, _, s, _⟩ => s.seq (SqL.of e3)) ?_ ?_⟩
      · rintro j x σ H' hj ⟨rp, x6, x7, x8, x9, rfl, s1, us, ask, hrp, hau, hch, hlen⟩
        have sHH := (sH.trans u).trans s1
        have two' := two.same sHH
        match j, hj with
        | 0, hj =>
          cases hj
          refine ⟨p1, _, rfl, SqT.of (s1 _ _ e1), rfl, _, _, rfl, _, _, rfl, rfl, ?_⟩
          refine inner .box .box lb bs many _ ask us rp x8 x9 H' _ rfl sHH two'.b two'.ab ndb bd.lb kb (fun n => rfl) hrp hau (by omega) (fun rp x8 x9 H2 us2 A s2 hrp2 sA mA hau2 => ?_)
          have hA : ∀ n, n ∈ A ↔ cB n := fun n => (mA n).trans (hB n).symm
          refine ⟨rp, _, _, x8, x9, rfl, s1.trans s2, us2, _, hrp2, hau2, ?_, ?_⟩
          · rw [take_snoc eB]
            exact Chain.snoc hch ⟨A, sA, hA, rfl⟩
          · have := dn_768 (xs := bs) .box sA (fun n hn => ((mA n).mp hn).1) bd.lb kb
            rw [List.length_append]
            omega
        | 1, hj =>
          cases hj
          refine ⟨p2, _, rfl, SqT.of (s1 _ _ e2), rfl, _, _, rfl, _, _, rfl, rfl, ?_⟩
          refine inner .door .door ld ds many _ ask us rp x8 x9 H' _ rfl sHH two'.d two'.ad ndd ld12 kd (fun n => rfl) hrp hau (by omega) (fun rp x8 x9 H2 us2 A s2 hrp2 sA mA hau2 => ?_)
          have hA : ∀ n, n ∈ A ↔ cD n := fun n => (mA n).trans (hD n).symm
          refine ⟨rp, _, _, x8, x9, rfl, s1.trans s2, us2, _, hrp2, hau2, ?_, ?_⟩
          · rw [take_snoc eD]
            exact Chain.snoc hch ⟨A, sA, hA, rfl⟩
          · have := dn_768 (xs := ds) .door sA (fun n hn => ((mA n).mp hn).1) ld12 kd
            rw [List.length_append]
            omega
      · rintro σ H' ⟨rp, x6, x7, x8, x9, rfl, s1, us, ask, hrp, hau, hch, hlen⟩
        exact fin rp x6 x7 x8 x9 H' us ask (u.trans s1) hrp hau hch hlen
    refine ⟨Nat.zero_le _, fun r0 nr0 => ?_⟩
    have w1 := Same.new (H := H) (o := .lst []) nr0
    have er0 : (upd H r0 (.lst [])) r0 = some (.lst []) := upd_same
    generalize (upd H r0 (.lst [])) = H1 at w1 er0
    -- shared, then alone
    refine ⟨fun σ H' => ∃ (rp : Addr) (x5 x6 x7 x8 x9 : Option V), σ = [some (.ref lb), some (.ref ld), some v1, some v2, some (.ref rp), x5, x6, x7, x8, x9, none] ∧ Same H1 H' ∧ ∃ us ask, H' rp = some (.lst us) ∧ AskAt H' us ask ∧ Chain ((dscs bs ds t1 t2).take 4) [] ask ∧ ask.length ≤ 768 * 4, ?_, ?_⟩
    · refine ⟨by show 2 ≤ sizeLine; decide, fun m nm => ?_⟩
      have u := Same.new (H := H1) (o := .lst [.int 2, .int 1]) nm
      have e3 : (upd H1 m (.lst [.int 2, .int 1])) m = some (.lst [.int 2, .int 1]) := upd_same
      generalize (upd H1 m (.lst [.int 2, .int 1])) = Hm at u e3
      refine ⟨m, rfl, ⟨_, SqL.of e3⟩, for_list (K := K) (a := m) (xs := [.int 2, .int 1]) (fun i σ H' => ∃ (rp : Addr) (x5 x6 x7 x8 x9 : Option V), σ = [some (.ref lb), some (.ref ld), some v1, some v2, some (.ref rp), x5, x6, x7, x8, x9, none] ∧ Same Hm H' ∧ ∃ us ask, H' rp = some (.lst us) ∧ AskAt H' us ask ∧ Chain ((dscs bs ds t1 t2).take (2 * i)) [] ask ∧ ask.length ≤ 768 * (2 * i))
        ⟨r0, none, none, none, none, none, rfl, Same.refl _, [], [], u _ _ er0, Ea.nil, rfl, Nat.zero_le _⟩ (fun i σ H' _ ⟨_, _, _, _, _, _, _, s, _⟩ => s.seq (SqL.of e3)) ?_ ?_⟩
      · rintro i x σ H' hi ⟨rp, x5, x6, x7, x8, x9, rfl, s1, us, ask, hrp, hau, hch, hlen⟩
        have sHH := (w1.trans u).trans s1
        match i, hi with
        | 0, hi =>
          cases hi
          refine pair 0 2 _ _ _ (by decide) rfl rfl (fun n => ?_) (fun n => ?_) rp x6 x7 x8 x9 H' us ask sHH hrp hau hch hlen (fun rp x6 x7 x8 x9 H2 us2 ask2 s2 g1 g2 g3 g4 => ⟨rp, _, x6, x7, x8, x9, rfl, s1.trans s2, us2, ask2, g1, g2, g3, g4⟩)
          · rw [cnt2]
            exact ⟨fun h => ⟨(wd_nm o1.w).1 h.1, h⟩, fun h => h.2⟩
          · rw [cnt2]
            exact ⟨fun h => ⟨(wd_nm o1.w).2.2 h.1, h⟩, fun h => h.2⟩
        | 1, hi =>
          cases hi
          refine pair 1 1 _ _ _ (by decide) rfl rfl (fun n => ?_) (fun n => ?_) rp x6 x7 x8 x9 H' us ask sHH hrp hau hch hlen (fun rp x6 x7 x8 x9 H2 us2 ask2 s2 g1 g2 g3 g4 => ⟨rp, _, x6, x7, x8, x9, rfl, s1.trans s2, us2, ask2, g1, g2, g3, g4⟩)
          · rw [cnt1]
            exact ⟨fun h => ⟨h.1.elim (wd_nm o1.w).1 (wd_nm o2.w).1, h⟩, fun h => h.2⟩
          · rw [cnt1]
            exact ⟨fun h => ⟨h.1.elim (wd_nm o1.w).2.2 (wd_nm o2.w).2.2, h⟩, fun h => h.2⟩
      · rintro σ H' ⟨rp, x5, x6, x7, x8, x9, rfl, s1, us, ask, hrp, hau, hch, hlen⟩
        exact ⟨rp, x5, x6, x7, x8, x9, rfl, u.trans s1, us, ask, hrp, hau, hch, hlen⟩
    -- the late ones
    rintro σ H2 ⟨rp, x5, x6, x7, x8, x9, rfl, s2, us, ask, hrp, hau, hch, hlen⟩
    refine ⟨fun σ H' => ∃ (rp : Addr) (x5 x6 x7 x8 x9 xa : Option V), σ = [some (.ref lb), some (.ref ld), some v1, some v2, some (.ref rp), x5, x6, x7, x8, x9, xa] ∧ Same H2 H' ∧ ∃ us ask, H' rp = some (.lst us) ∧ AskAt H' us ask ∧ Chain (dscs bs ds t1 t2) [] ask, ?_, ?_⟩
    · refine ⟨_, rfl, by show 2 ≤ sizeLine; decide, fun p1 np1 => ⟨_, rfl, by show 2 ≤ sizeLine; decide, fun p2 np2 => ⟨by show 2 ≤ sizeLine; decide, fun m nm => ?_⟩⟩⟩
      have u1 := Same.new (H := H2) (o := .tup [.str "one", v1]) np1
      have u2 := Same.new (H := upd H2 p1 (.tup [.str "one", v1])) (o := .tup [.str "other", v2]) np2
      have u3 := Same.new (H := upd (upd H2 p1 (.tup [.str "one", v1])) p2 (.tup [.str "other", v2])) (o := .lst [.ref p1, .ref p2]) nm
      have e1 := u3 _ _ (u2 _ _ (upd_same (H := H2) (a := p1) (o := .tup [.str "one", v1])))
      have e2 := u3 _ _ (upd_same (H := upd H2 p1 (.tup [.str "one", v1])) (a := p2) (o := .tup [.str "other", v2]))
      have e3 := upd_same (H := upd (upd H2 p1 (.tup [.str "one", v1])) p2 (.tup [.str "other", v2])) (a := m) (o := .lst [.ref p1, .ref p2])
      have u := (u1.trans u2).trans u3
      generalize (upd (upd (upd H2 p1 (.tup [.str "one", v1])) p2 (.tup [.str "other", v2])) m (.lst [.ref p1, .ref p2])) = Hm at u e1 e2 e3
      refine ⟨m, rfl, ⟨_, SqL.of e3⟩, for_list (K := K) (a := m) (xs := [.ref p1, .ref p2]) (fun j σ H' => ∃ (rp : Addr) (x5 x6 x7 x8 x9 xa : Option V), σ = [some (.ref lb), some (.ref ld), some v1, some v2, some (.ref rp), x5, x6, x7, x8, x9, xa] ∧ Same Hm H' ∧ ∃ us ask, H' rp = some (.lst us) ∧ AskAt H' us ask ∧ Chain ((dscs bs ds t1 t2).take (4 + j)) [] ask ∧ ask.length ≤ 768 * (4 + j))
        ⟨rp, x5, x6, x7, x8, x9, none, rfl, Same.refl _, us, ask, u _ _ hrp, hau.same u, hch, hlen⟩ (fun j σ H' _ ⟨_, _, _, _, _, _, _, _, s, _⟩ => s.seq (SqL.of e3)) ?_ ?_⟩
      · rintro j x σ H' hj ⟨rp, x5, x6, x7, x8, x9, xa, rfl, s1, us, ask, hrp, hau, hch, hlen⟩
        have sHH := ((w1.trans s2).trans u).trans s1
        match j, hj with
        | 0, hj =>
          cases hj
          refine ⟨p1, _, rfl, SqT.of (s1 _ _ e1), rfl, _, _, rfl, _, _, rfl, rfl, ?_⟩
          refine inner2 .one v1 t1 ask us rp x5 x7 x8 x9 H' _ sHH ht1 o1 hrp hau (by omega) (fun rp x8 H3 us3 A s3 hrp3 sA mA hau3 => ?_)
          refine ⟨rp, x5, _, x7, x8, x9, _, rfl, s1.trans s3, us3, _, hrp3, hau3, ?_, ?_⟩
          · exact Chain.snoc (l := (dscs bs ds t1 t2).take 4) hch ⟨A, sA, mA, rfl⟩
          · have := dn_768 (xs := bs) .one sA (fun n hn => (wd_nm o1.w).2.1 ((mA n).mp hn)) bd.lb kb
            rw [List.length_append]
            omega
        | 1, hj =>
          cases hj
          refine ⟨p2, _, rfl, SqT.of (s1 _ _ e2), rfl, _, _, rfl, _, _, rfl, rfl, ?_⟩
          refine inner2 .other v2 t2 ask us rp x5 x7 x8 x9 H' _ sHH ht2 o2 hrp hau (by omega) (fun rp x8 H3 us3 A s3 hrp3 sA mA hau3 => ?_)
          refine ⟨rp, x5, _, x7, x8, x9, _, rfl, s1.trans s3, us3, _, hrp3, hau3, ?_, ?_⟩
          · exact Chain.snoc (l := (dscs bs ds t1 t2).take 5) hch ⟨A, sA, mA, rfl⟩
          · have := dn_768 (xs := bs) .other sA (fun n hn => (wd_nm o2.w).2.1 ((mA n).mp hn)) bd.lb kb
            rw [List.length_append]
            omega
      · rintro σ H' ⟨rp, x5, x6, x7, x8, x9, xa, rfl, s1, us, ask, hrp, hau, hch, hlen⟩
        exact ⟨rp, x5, x6, x7, x8, x9, xa, rfl, u.trans s1, us, ask, hrp, hau, hch⟩
    rintro σ H3 ⟨rp, x5, x6, x7, x8, x9, xa, rfl, s3, us, ask, hrp, hau, hch⟩
    exact ⟨_, rfl, q _ _ ((w1.trans s2).trans s3) ⟨rp, us, ask, rfl, hrp, hau, chain_ok hch⟩⟩
end
end K24

set_option Elab.async false
set_option linter.all false
set_option maxRecDepth 100000
set_option maxHeartbeats 4000000
/-! The law's words, widths, worth, cubes. -/
namespace K24
open PySem PySem.Spec PyProof.Rows L2
/-! ### words -/
structure WKn (H0 H : Hp) (d : S4 → Addr) (l : List (Ask × Nat)) : Prop where
  dict : ∀ s, H0 (d s) = none ∧ ∃ kvs : List (Key × V), H (d s) = some (.dK kvs) ∧ kvs.length ≤ l.length ∧ ∀ n, (valV kvs (.inr n)).getD (vN 0) = vN (wrd s n l) ∧ (valV kvs (.inr n) = none → l.filter (fun e => key s n e.1) = [])
theorem WKn.put {H0 H : Hp} {d : S4 → Addr} {l : List (Ask × Nat)} (h : WKn H0 H d l) (dj : ∀ x y, d x = d y → x = y) {s : S4} {n : Str} {k m : Nat} {kvs : List (Key × V)} (hk : H (d s) = some (.dK kvs)) {v : V} (ev : v = vN (wrd s n l + m * 2 ^ k)) :
    WKn H0 (upd H (d s) (.dK (putK kvs (.inr n) v))) d (l ++ [((s, n, k), m)]) := by
  subst ev
  refine ⟨fun x => ?_⟩
  obtain ⟨h0, kv, h1, h2, h3⟩ := h.dict x
  refine ⟨h0, ?_⟩
  by_cases e : x = s
  · subst e
    rw [hk] at h1
    cases h1
    refine ⟨_, upd_same, ?_, fun n' => ?_⟩
    · have := length_putK kvs (Sum.inr n : Key) (vN (wrd x n l + m * 2 ^ k))
      rw [List.length_append]
      show _ ≤ l.length + 1
      omega
    · rw [valV_inr, wrd_snoc, List.filter_append]
      by_cases q : n' = n
      · subst q
        rw [if_pos rfl, if_pos (key_iff.mpr ⟨rfl, rfl⟩)]
        exact ⟨rfl, nofun⟩
      · have nk : ¬ key x n' (x, n, k) = true := fun z => q (key_iff.mp z).2.symm
        have e1 : [((x, n, k), m)].filter (fun e : Ask × Nat => key x n' e.1) = [] := List.filter_cons_of_neg nk
        rw [if_neg q, if_neg nk, e1, List.append_nil]
        exact h3 n'
  · refine ⟨kv, ?_, by rw [List.length_append]; omega, fun n' => ?_⟩
    · rw [upd_ne fun q => e (dj _ _ q)]
      exact h1
    · have nk : ¬ key x n' (s, n, k) = true := fun z => e (key_iff.mp z).1.symm
      have e1 : [((s, n, k), m)].filter (fun e : Ask × Nat => key x n' e.1) = [] := List.filter_cons_of_neg nk
      rw [wrd_snoc, if_neg nk, List.filter_append, e1, List.append_nil]
      exact h3 n'
theorem WKn.same {H0 H H' : Hp} {d : S4 → Addr} {l : List (Ask × Nat)} (h : WKn H0 H d l) (s : Same H H') : WKn H0 H' d l := ⟨fun x => let ⟨h0, kvs, h1, h2⟩ := h.dict x; ⟨h0, kvs, s _ _ h1, h2⟩⟩
theorem zm_filter (ask : List Ask) (f : Nat → Nat) (p : Ask → Bool) : ((zm ask f).filter fun e => p e.1).map (·.1) = ask.filter p := by
  rw [map_filter_fst]
  congr 1
  unfold zm
  rw [map_mapIdx]
  exact List.ext_getElem (by rw [List.length_mapIdx]) fun i h1 h2 => by rw [List.getElem_mapIdx]
theorem WKn.dns {H0 H : Hp} {d : S4 → Addr} {ask : List Ask} {bits : List Nat} (h : WKn H0 H d (zm ask fun k => (bits[k]?).getD 0)) {s : S4} {ns : List Str} (hn : ∀ n ∈ ns, ask.filter (key s n) ≠ []) : DNs H (d s) ns (wk ask bits s) := by
  obtain ⟨_, kvs, h1, _, h3⟩ := h.dict s
  refine ⟨kvs, h1, fun n hm => ?_⟩
  obtain ⟨q1, q2⟩ := h3 n
  cases e : valV kvs (.inr n) with
  | none =>
    have q := q2 e
    have q3 := zm_filter ask (fun k => (bits[k]?).getD 0) (key s n)
    rw [q] at q3
    exact absurd q3.symm (hn n hm)
  | some v =>
    rw [e] at q1
    exact congrArg some q1
theorem nums_of {W : Ws} {l : S4} {g : Tm} {k : Nat} {H0 H : Hp} {d : S4 → Addr} {ask : List Ask} {bits : List Nat} (h : WKn H0 H d (zm ask fun k => (bits[k]?).getD 0)) (hr : Reads1 W l g ask) (hw : Wd W g k) (ok : WsOk W) : Nums3 H (d .box) (d l) (d .door) g (fun s n => wk ask bits (s4 l s) n) := by
  have ne : ∀ s n, n ∈ nms s g → ask.filter (key (s4 l s) n) ≠ [] := fun s n hn e => by
    obtain ⟨w, hW⟩ := wd_named hw hn
    have l1 := congrArg List.length (hr s n w hn hW)
    rw [e, List.length_reverse, List.length_range] at l1
    have := (ok s n w hW).1
    have : 0 = w := l1
    omega
  exact ⟨h.dns fun n hn => ne .box n hn, h.dns fun n hn => ne .late n hn, h.dns fun n hn => ne .door n hn⟩
theorem asked_place {bw dw : Str → Nat} {g1 g2 : Tm} {ask : List Ask} (h : AskedOk bw dw g1 g2 ask) (hb : ∀ n, bw n ≤ 64) (hd : ∀ n, dw n ≤ 64) : ∀ a ∈ ask, a.2.2 < 64 := by
  obtain ⟨A1, A2, A3, A4, A5, A6, _, rfl⟩ := h
  have dnp : ∀ {f : Str → Nat} {s : S4} {ns : List Str}, (∀ n, f n ≤ 64) → ∀ a ∈ dn f s ns, a.2.2 < 64 := fun {f s ns} hf a ha => by
    obtain ⟨n, _, hn⟩ := List.mem_flatMap.mp ha
    obtain ⟨p, hp, rfl⟩ := List.mem_map.mp hn
    have := List.mem_range.mp (List.mem_reverse.mp hp)
    have := hf n
    show p < 64
    omega
  intro a ha
  unfold six at ha
  simp only [List.mem_append] at ha
  rcases ha with (((h | h) | (h | h)) | (h | h))
  · exact dnp hb a h
  · exact dnp hd a h
  · exact dnp hb a h
  · exact dnp hd a h
  · exact dnp hb a h
  · exact dnp hb a h
section
variable {P : Program} {w : World} {K : PySem.W.Frag} {mg : Str → Option Value} {base : Heap}
def sp_words : Sp := fun vs_ H Q _ => ∃ (a b : Addr) (us : List V) (ask : List Ask) (bits : List Nat), vs_ = [.ref a, .ref b] ∧ H a = some (.lst us) ∧ AskAt H us ask ∧ H b = some (.lst (vs bits)) ∧ bits.length = ask.length ∧ M1 bits ∧ ask.length ≤ 6000 ∧ (∀ e ∈ ask, e.2.2 < 64) ∧
  Ret H Q fun r H' => ∃ p d, r = .ref p ∧ Four H' p d ∧ WKn H H' d (zm ask fun k => (bits[k]?).getD 0)
theorem ok_words (T : Txt K mg) : Ok P w K mg base "_law_words" ["row", "bits"] 1 sp_words := by
  refine T.d__law_words.ok sc_law_words (fun vs H Q E h => ?_) (fun cdv A outer s H vs_ Q E hr h => ?_)
  · obtain ⟨a, b, us, ask, bits, rfl, _⟩ := h
    rfl
  · obtain ⟨a, b, us, ask, bits, rfl, ha, hau, hb, lb, m1, la, hpl, q⟩ := h
    refine ⟨_, (pss_cons (ps_set (i := 2) sc_law_words.nd rfl (Or.inl rfl) (pe_disp (pps_cons pe_str pe_dnewK (pps_cons pe_str pe_dnewK (pps_cons pe_str pe_dnewK (pps_cons pe_str pe_dnewK pps_nil)))) (by rfl) (by rfl) (fun z => by cases z) (by decide)))
      (pss_cons (ps_for PassesOwn.never (by rfl) (pi_range1 (by rfl) T.z_range (pa_cons (pe_callB (r := rLn K) call_len_seq (by rfl) T.z_len PySem.boot_len (pa_cons (pv 0) pa_nil)) pa_nil)) (pg_name (i := 3) sc_law_words.nd rfl (Or.inl rfl)) (pss_cons (ps_asg (pe_ix (r := rIxL K) ix_list (pv 0) (pv 3) (fun _ _ => rfl)) (pg_tup (by rfl) (pgs_cons (pg_name (i := 4) sc_law_words.nd rfl (Or.inl rfl)) (pgs_cons (pg_name (i := 5) sc_law_words.nd rfl (Or.inl rfl)) (pgs_cons (pg_name (i := 6) sc_law_words.nd rfl (Or.inl rfl)) pgs_nil)))))
      (pss_one (ps_dput (hu_of hr) (pe_dget (hu_of hr) (pv 2) (pv 4) (fun _ _ => rfl)) (pv 5) (pe_op op_add (pe_dget2 (hu_of hr) (pe_dget (hu_of hr) (pv 2) (pv 4) (fun _ _ => rfl)) (pv 5) pe_int ⟨rfl, rfl, rfl, rfl⟩) (pe_op op_shl (pe_ix (r := rIxL K) ix_list (pv 1) (pv 3) (fun _ _ => rfl)) (pv 6))) (by rfl)))))
      (pss_one (ps_ret (pv 2))))), ?_⟩
    intro p np q1 n1 q2 n2 q3 n3 q4 n4
    have u1 := Same.new (o := .dK []) np
    have u2 := u1.newT (o := .dK []) n1
    have u3 := u2.newT (o := .dK []) n2
    have u4 := u3.newT (o := .dK []) n3
    have u5 := u4.newT (o := .dK []) n4
    have f1 := u1.free n1
    have f2 := u2.free n2
    have f3 := u3.free n3
    have f4 := u4.free n4
    have g1 : (upd H p (.dK [])) p = some (.dK []) := upd_same
    have v2 := Same.new (H := upd H p (.dK [])) (o := .dK []) n1
    have v3 := v2.newT (o := .dK []) n2
    have v4 := v3.newT (o := .dK []) n3
    have v5 := v4.newT (o := .dK []) n4
    have e1 : (upd (upd H p (.dK [])) q1 (.dK [])) q1 = some (.dK []) := upd_same
    have w3 := Same.new (H := upd (upd H p (.dK [])) q1 (.dK [])) (o := .dK []) n2
    have w4 := w3.newT (o := .dK []) n3
    have w5 := w4.newT (o := .dK []) n4
    have x4 := Same.new (H := upd (upd (upd H p (.dK [])) q1 (.dK [])) q2 (.dK [])) (o := .dK []) n3
    have x5 := x4.newT (o := .dK []) n4
    have y5 := Same.new (H := upd (upd (upd (upd H p (.dK [])) q1 (.dK [])) q2 (.dK [])) q3 (.dK [])) (o := .dK []) n4
    have d1 := w5 _ _ e1
    have d2 := x5 _ _ (upd_same (H := upd (upd H p (.dK [])) q1 (.dK [])) (a := q2) (o := .dK []))
    have d3 := y5 _ _ (upd_same (H := upd (upd (upd H p (.dK [])) q1 (.dK [])) q2 (.dK [])) (a := q3) (o := .dK []))
    have d4 := upd_same (H := upd (upd (upd (upd H p (.dK [])) q1 (.dK [])) q2 (.dK [])) q3 (.dK [])) (a := q4) (o := .dK [])
    have d0 := v5 _ _ g1
    have p1 : q1 ≠ p := fun z => by rw [z] at n1; rw [g1] at n1; cases n1
    have p2 : q2 ≠ p := fun z => by rw [z] at n2; rw [v2 _ _ g1] at n2; cases n2
    have p3 : q3 ≠ p := fun z => by rw [z] at n3; rw [v3 _ _ g1] at n3; cases n3
    have p4 : q4 ≠ p := fun z => by rw [z] at n4; rw [v4 _ _ g1] at n4; cases n4
    have a2 : q2 ≠ q1 := fun z => by rw [z] at n2; rw [e1] at n2; cases n2
    have a3 : q3 ≠ q1 := fun z => by rw [z] at n3; rw [w3 _ _ e1] at n3; cases n3
    have a4 : q4 ≠ q1 := fun z => by rw [z] at n4; rw [w4 _ _ e1] at n4; cases n4
    have b3 : q3 ≠ q2 := fun z => by rw [z] at n3; rw [upd_same] at n3; cases n3
    have b4 : q4 ≠ q2 := fun z => by rw [z] at n4; rw [x4 _ _ upd_same] at n4; cases n4
    have c4 : q4 ≠ q3 := fun z => by rw [z] at n4; rw [upd_same] at n4; cases n4
    generalize (upd (upd (upd (upd (upd H p (.dK [])) q1 (.dK [])) q2 (.dK [])) q3 (.dK [])) q4 (.dK [])) = H5 at u5 d0 d1 d2 d3 d4
    refine ⟨d0, [(Sum.inr "box", V.ref q1), (Sum.inr "door", V.ref q2), (Sum.inr "one", V.ref q3), (Sum.inr "other", V.ref q4)], rfl, (by show 4 ≤ 15; decide), ?_⟩
    generalize eM : mergeK [] [(Sum.inr "box", V.ref q1), (Sum.inr "door", V.ref q2), (Sum.inr "one", V.ref q3), (Sum.inr "other", V.ref q4)] = kM
    have s6 : Same H (upd H5 p (.dK kM)) := u5.mut np
    have hp6 : (upd H5 p (.dK kM)) p = some (.dK kM) := upd_same
    have hD : ∀ s, (upd H5 p (.dK kM)) (four q1 q2 q3 q4 s) = some (.dK []) ∧ H (four q1 q2 q3 q4 s) = none := fun s => by
      cases s with
      | box => exact ⟨by show (upd H5 p (.dK kM)) q1 = _; rw [upd_ne p1]; exact d1, f1⟩
      | door => exact ⟨by show (upd H5 p (.dK kM)) q2 = _; rw [upd_ne p2]; exact d2, f2⟩
      | one => exact ⟨by show (upd H5 p (.dK kM)) q3 = _; rw [upd_ne p3]; exact d3, f3⟩
      | other => exact ⟨by show (upd H5 p (.dK kM)) q4 = _; rw [upd_ne p4]; exact d4, f4⟩
    have dj : ∀ x y, four q1 q2 q3 q4 x = four q1 q2 q3 q4 y → x = y := fun x y e => by
      cases x <;> cases y <;> first | rfl | exact absurd e a2 | exact absurd e a2.symm | exact absurd e a3 | exact absurd e a3.symm | exact absurd e a4 | exact absurd e a4.symm | exact absurd e b3 | exact absurd e b3.symm | exact absurd e b4 | exact absurd e b4.symm | exact absurd e c4 | exact absurd e c4.symm
    have pd : ∀ s, four q1 q2 q3 q4 s ≠ p := fun s => by
      cases s with
      | box => exact p1
      | door => exact p2
      | one => exact p3
      | other => exact p4
    have fv : ∀ s, valV kM (.inr (s4S s)) = some (.ref (four q1 q2 q3 q4 s)) := fun s => by
      rw [← eM]
      exact four_val _ _ _ _ s
    generalize four q1 q2 q3 q4 = d at hD dj pd fv
    generalize (upd H5 p (.dK kM)) = H6 at s6 hp6 hD
    have h0 : WKn H H6 d [] := ⟨fun s => ⟨(hD s).2, [], (hD s).1, Nat.le_refl _, fun _ => ⟨rfl, fun _ => rfl⟩⟩⟩
    have zl := zm_len ask (fun k => (bits[k]?).getD 0)
    refine ⟨_, rfl, a, _, rfl, .inl (SqL.of (s6 _ _ ha)), _, rfl, by omega, by rw [hau.1]; omega, for_range (lo := 0) (fun i σ H' => ∃ x3 x4 x5 x6, σ = [some (.ref a), some (.ref b), some (.ref p), x3, x4, x5, x6] ∧ Same H H' ∧ H' p = some (.dK kM) ∧ WKn H H' d ((zm ask fun k => (bits[k]?).getD 0).take i)) ⟨none, none, none, none, rfl, s6, hp6, h0⟩ ?_ ?_⟩
    · rintro i σ H' hi ⟨x3, x4, x5, x6, rfl, s1, hp, hk⟩
      have hi : i < ask.length := by
        have := hau.1
        omega
      have ea : ask[i]? = some ask[i] := List.getElem?_eq_getElem hi
      have eb : bits[i]? = some bits[i] := List.getElem?_eq_getElem (by omega)
      have bm : bits[i] ≤ 1 := m1 _ (List.getElem_mem _)
      obtain ⟨u, eu, t, rfl, ht⟩ := Ea.get' hau ea
      have hpi := hpl _ (List.mem_of_getElem? ea)
      rw [zm_take ea, eb]
      generalize bits[i] = bi at eb bm
      generalize ask[i] = en at ea ht hpi
      obtain ⟨s', n, k⟩ := en
      have hpi : k < 64 := hpi
      have ei : (0 : Int) + (i : Int) = ((i : Nat) : Int) := by omega
      rw [ei]
      refine ⟨_, rfl, _, rfl, a, _, i, .ref t, rfl, rfl, SqL.of (s1 _ _ ha), atI_nat eu, t, _, rfl, SqT.of (s1 _ _ ht), rfl, _, _, rfl, _, _, rfl, _, _, rfl, rfl, ?_⟩
      have hf : Four H' p d := ⟨kM, hp, fv⟩
      obtain ⟨h00, kvs, hkd, hkl, hkv⟩ := hk.dict s'
      obtain ⟨hv1, hv2⟩ := hkv n
      have l6 : ((zm ask fun k => (bits[k]?).getD 0).take i).length ≤ 6000 := by
        rw [List.length_take]
        omega
      refine ⟨_, rfl, _, rfl, p, _, rfl, hf.at s', d s', rfl, .inl ⟨kvs, .inl hkd⟩, _, rfl, _, DGet.k (k := Sum.inr n) hkd, ?_⟩
      show (tOp (rIxL K) (tVar 1) (tVar 3)) _ H' _
      refine ⟨_, rfl, _, rfl, b, _, i, vN bi, rfl, rfl, SqL.of (s1 _ _ hb), atI_nat (vs_get eb), _, rfl, _, _, rfl, rfl, ⟨by omega, by show (k : Int) ≤ 1000000; omega, ?_⟩, _, _, hv1, rfl, ?_⟩
      · have h2 : (1 : Nat) < 2 ^ 64 := by decide
        show ((bi : Nat) : Int).natAbs < 2 ^ 64
        rw [Int.natAbs_natCast]
        omega
      refine ⟨_, rfl, _, rfl, p, _, rfl, hf.at s', _, rfl, d s', _, rfl, DPut.k (k := Sum.inr n) hkd (line_lt (by omega)), _, _, _, _, rfl, s1.mut h00, ?_, ?_⟩
      · rw [upd_ne (Ne.symm (pd s'))]
        exact hp
      · refine hk.put dj hkd ?_
        show V.int ((wrd s' n ((zm ask fun k => (bits[k]?).getD 0).take i) : Int) + (bi : Int) * 2 ^ (k : Int).toNat) = _
        rw [Int.toNat_natCast]
        show _ = V.int ((wrd s' n ((zm ask fun k => (bits[k]?).getD 0).take i) + bi * 2 ^ k : Nat) : Int)
        rw [Int.natCast_add, Int.natCast_mul, Int.natCast_pow]
        rfl
    · rintro σ H' ⟨x3, x4, x5, x6, rfl, s1, hp, hk⟩
      have e : (zm ask fun k => (bits[k]?).getD 0).take (us.length : Int).toNat = zm ask fun k => (bits[k]?).getD 0 := by
        rw [hau.1, Int.toNat_natCast]
        exact zm_all ask _
      rw [e] at hk
      exact ⟨_, rfl, q _ _ s1 ⟨p, d, rfl, ⟨kM, hp, fv⟩, hk⟩⟩
end
end K24

set_option Elab.async false
set_option linter.all false
set_option maxRecDepth 100000
set_option maxHeartbeats 4000000
/-! The law's widths, worth, cubes. -/
namespace K24
open PySem PySem.Spec PyProof.Rows L2
section
variable {P : Program} {w : World} {K : PySem.W.Frag} {mg : Str → Option Value} {base : Heap}
def sp_widths : Sp := fun vs_ H Q _ => ∃ (lb ld : Addr) (bs ds : List Bx), vs_ = [.ref lb, .ref ld] ∧ TwoL H lb ld bs ds ∧ Ret H Q fun r H' => ∃ p di dq, r = .ref p ∧ H' p = some (.tup [.ref di, .ref dq]) ∧ DIs H' di (wB bs) ∧ DIs H' dq (wB ds)
theorem ok_widths (T : Txt K mg) : Ok P w K mg base "_law_widths" ["boxes", "doors"] 1 sp_widths := by
  refine T.d__law_widths.ok sc_law_widths (fun vs H Q E h => ?_) (fun cdv A outer s H vs_ Q E hr h => ?_)
  · obtain ⟨lb, ld, bs, ds, rfl, _⟩ := h
    rfl
  · obtain ⟨lb, ld, bs, ds, rfl, two, q⟩ := h
    refine ⟨_, (pss_cons (ps_set (i := 2) sc_law_widths.nd rfl (Or.inl rfl) (pe_tup (pa_cons pe_dnewK (pa_cons pe_dnewK pa_nil))))
      (pss_cons (ps_for PassesOwn.never (by rfl) (pi_list (pv 0)) (pg_name (i := 3) sc_law_widths.nd rfl (Or.inl rfl)) (pss_one (ps_dput (hu_of hr) (pe_ix (r := rIxT K) ix_tup (pv 2) pe_int (fun _ _ => rfl)) (pe_ix (r := rIxT K) ix_tup (pv 3) pe_int (fun _ _ => rfl)) (pe_ix (r := rIxT K) ix_tup (pv 3) pe_int (fun _ _ => rfl)) (by rfl))))
      (pss_cons (ps_for PassesOwn.never (by rfl) (pi_list (pv 1)) (pg_name (i := 3) sc_law_widths.nd rfl (Or.inl rfl)) (pss_one (ps_dput (hu_of hr) (pe_ix (r := rIxT K) ix_tup (pv 2) pe_int (fun _ _ => rfl)) (pe_ix (r := rIxT K) ix_tup (pv 3) pe_int (fun _ _ => rfl)) (pe_ix (r := rIxT K) ix_tup (pv 3) pe_int (fun _ _ => rfl)) (by rfl))))
      (pss_one (ps_ret (pv 2)))))), ?_⟩
    have bd := two.bd
    have ndb : (bs.map (·.n)).Nodup := (List.nodup_append.mp bd.nd).1
    have ndd : (ds.map (·.n)).Nodup := (List.nodup_append.mp bd.nd).2.1
    have lb12 := bd.lb
    have ld6 := bd.ld
    intro pi ni po no
    refine ⟨by show 2 ≤ sizeLine; decide, fun t nt => ?_⟩
    have u1 := Same.new (H := H) (o := .dK []) ni
    have u2 := Same.new (H := upd H pi (.dK [])) (o := .dK []) no
    have u3 := Same.new (H := upd (upd H pi (.dK [])) po (.dK [])) (o := .tup [.ref pi, .ref po]) nt
    have noo := u1.free no
    have io : pi ≠ po := fun z => by
      rw [← z, upd_same] at no
      cases no
    have e1 := u3 _ _ (u2 _ _ (upd_same (H := H) (a := pi) (o := .dK [])))
    have e2 := u3 _ _ (upd_same (H := upd H pi (.dK [])) (a := po) (o := .dK []))
    have e3 := upd_same (H := upd (upd H pi (.dK [])) po (.dK [])) (a := t) (o := .tup [.ref pi, .ref po])
    have u := (u1.trans u2).trans u3
    generalize (upd (upd (upd H pi (.dK [])) po (.dK [])) t (.tup [.ref pi, .ref po])) = H1 at u e1 e2 e3
    refine ⟨_, rfl, lb, rfl, ⟨_, SqL.of (u _ _ two.b)⟩, for_list (K := K) (a := lb) (xs := bs.map fun x => V.ref x.p) (fun i σ H' => ∃ x, σ = [some (.ref lb), some (.ref ld), some (.ref t), x] ∧ Same H H' ∧ H' t = some (.tup [.ref pi, .ref po]) ∧ DIn H' pi (wB (bs.take i)) i ∧ H' po = some (.dK [])) ⟨none, rfl, u, e3, DIn.nil e1, e2⟩ (fun i σ H' _ ⟨_, _, s1, _⟩ => s1.seq (SqL.of two.b)) ?_ ?_⟩
    · rintro i x σ H' hi ⟨y, rfl, s1, ht, di, eo⟩
      obtain ⟨b, er, rfl⟩ := map_at hi
      have bm := List.mem_of_getElem? er
      have ha : H' b.p = some (.tup (.str b.n :: vN b.k :: b.f.map V.int)) := s1 _ _ (two.ab b bm)
      have ilt : i < bs.length := (List.getElem?_eq_some_iff.mp er).1
      obtain ⟨kv, hkv, _⟩ := id di
      obtain ⟨o2, hput2, hdi⟩ := di.put (by omega) b.n b.k
      refine ⟨_, rfl, b.p, _, 1, _, rfl, rfl, SqT.of ha, atI_nat (j := 1) rfl, _, rfl, t, _, 0, _, rfl, rfl, SqT.of ht, rfl, _, rfl, b.p, _, 0, _, rfl, rfl, SqT.of ha, atI_nat (j := 0) rfl, pi, _, rfl, hput2, _, rfl, s1.mut ni, keepU (Same.refl _) hkv ht nofun, ?_, ?_⟩
      · rw [take_snoc er, wB_snoc (nd_at ndb er)]
        exact hdi _ upd_same
      · rw [upd_ne (Ne.symm io)]
        exact eo
    rintro σ H2 ⟨y, rfl, s2, ht, di, eo⟩
    rw [List.length_map, List.take_length] at di
    refine ⟨_, rfl, ld, rfl, ⟨_, SqL.of (s2 _ _ two.d)⟩, for_list (K := K) (a := ld) (xs := ds.map fun x => V.ref x.p) (fun i σ H' => ∃ x, σ = [some (.ref lb), some (.ref ld), some (.ref t), x] ∧ Same H H' ∧ H' t = some (.tup [.ref pi, .ref po]) ∧ DIn H' pi (wB bs) bs.length ∧ DIn H' po (wB (ds.take i)) i) ⟨y, rfl, s2, ht, di, DIn.nil eo⟩ (fun i σ H' _ ⟨_, _, s1, _⟩ => s1.seq (SqL.of two.d)) ?_ ?_⟩
    · rintro i x σ H' hi ⟨y, rfl, s1, ht, di, dout⟩
      obtain ⟨b, er, rfl⟩ := map_at hi
      have bm := List.mem_of_getElem? er
      have ha : H' b.p = some (.tup (.str b.n :: vN b.k :: b.f.map V.int)) := s1 _ _ (two.ad b bm)
      have ilt : i < ds.length := (List.getElem?_eq_some_iff.mp er).1
      obtain ⟨kv, hkv, _⟩ := id dout
      obtain ⟨o2, hput2, hdi⟩ := dout.put (by omega) b.n b.k
      refine ⟨_, rfl, b.p, _, 1, _, rfl, rfl, SqT.of ha, atI_nat (j := 1) rfl, _, rfl, t, _, 1, _, rfl, rfl, SqT.of ht, rfl, _, rfl, b.p, _, 0, _, rfl, rfl, SqT.of ha, atI_nat (j := 0) rfl, po, _, rfl, hput2, _, rfl, s1.mut noo, keepU (Same.refl _) hkv ht nofun, di.of (upd_ne io), ?_⟩
      rw [take_snoc er, wB_snoc (nd_at ndd er)]
      exact hdi _ upd_same
    rintro σ H3 ⟨y, rfl, s3, ht, di, dout⟩
    rw [List.length_map, List.take_length] at dout
    exact ⟨_, rfl, q _ _ s3 ⟨t, pi, po, rfl, ht, di.is, dout.is⟩⟩
def sp_holds : Sp := fun vs_ H Q _ => ∃ (v : V) (pw_ di dq p : Addr) (d : S4 → Addr) (l : S4) (t : Tm) (W : Ws) (e : Sr → Str → Nat), vs_ = [v, .ref pw_, .ref p, .str (s4S l)] ∧ TmAt H t v ∧ TmOk W t 1 ∧ WsOk W ∧
  H pw_ = some (.tup [.ref di, .ref dq]) ∧ DIs H di W.bw ∧ DIs H dq W.dw ∧ Four H p d ∧ Nums3 H (d .box) (d l) (d .door) t e ∧ Fit W t e ∧ (val W e t).2 = 0 ∧ Ret H Q fun r _ => r = .bl false
theorem ok_holds (T : Txt K mg) : Ok P w K mg base "_law_holds" ["guard", "widths", "words", "late"] 13 sp_holds := by
  have G_worth : Ok P w K mg base "worth" _ 12 _ := ok_worth T 8
  refine T.d__law_holds.ok sc_law_holds (fun vs H Q E h => ?_) (fun cdv A outer s H vs_ Q E hr h => ?_)
  · obtain ⟨v, pw_, di, dq, p, d, l, t, W, e, rfl, _⟩ := h
    rfl
  · obtain ⟨v, pw_, di, dq, p, d, l, t, W, e, rfl, ht, ot, ok, hp, hi, ho, hf, hn, ft, h0, q⟩ := h
    refine ⟨_, (pss_one (ps_ret (pe_cmpR op_eq (pe_c T.d_worth G_worth (hr.mono (by omega)) (by rfl) (pa_cons (pv 0) (pa_cons (pv 1) (pa_cons (pe_dget (hu_of hr) (pv 2) pe_str (fun _ _ => rfl)) (pa_cons (pe_dget (hu_of hr) (pv 2) (pv 3) (fun _ _ => rfl)) (pa_cons (pe_dget (hu_of hr) (pv 2) pe_str (fun _ _ => rfl)) pa_nil)))))) pe_int (nomark _)))), ?_⟩
    refine ⟨_, rfl, _, rfl, _, rfl, p, _, rfl, hf.at .box, _, rfl, _, rfl, p, _, rfl, hf.at l, _, rfl, p, _, rfl, hf.at .door, v, pw_, di, dq, d .box, d l, d .door, t, W, 1, e, rfl, ht, ot.d, ok, ot.w, hp, hi, ho, hn, ft, fun r H2 s2 er => ?_⟩
    subst er
    refine ⟨rfl, q _ _ s2 ?_⟩
    rw [h0]
    rfl
theorem isi_ok {K : PySem.W.Frag} {H : Hp} {a : Addr} {xs : List V} (h : H a = some (.tup xs)) : TyX K H (.ref a) (.type "tuple") := .base (.tup h)
def sp_cubes : Sp := fun vs_ H Q _ => ∃ (p c : Addr) (x : Str) (us : List V) (cs : List (List Nat × Nat)), vs_ = [.ref p] ∧ H p = some (.tup [.str x, .ref c]) ∧ H c = some (.lst us) ∧ CubeAt H us cs ∧ (∀ z ∈ cs, M1 z.1 ∧ z.1.length ≤ 6000 ∧ z.2 ≤ 1) ∧ Ret H Q fun r _ => r = .bl true
theorem ok_cubes (T : Txt K mg) : Ok P w K mg base "_law_cubes" ["reply"] 1 sp_cubes := by
  refine T.d__law_cubes.ok sc_law_cubes (fun vs H Q E h => ?_) (fun cdv A outer s H vs_ Q E hr h => ?_)
  · obtain ⟨p, c, x, us, cs, rfl, _⟩ := h
    rfl
  · obtain ⟨p, c, x, us, cs, rfl, hp, hc, hcu, hz, q⟩ := h
    refine ⟨_, (pss_cons (ps_if (PW.pt (pw_or (pt_not (pt_val (pe_callB (r := rIsi K) call_isi (by rfl) T.z_isinstance PyProof.Rows.boot_isinstance (pa_cons (pv 0) (pa_cons (pe_bltn (v := .ty "tuple") (by rfl) T.z_tuple PyProof.Rows.boot_tuple rfl) pa_nil))))) (pw_or (pt_cmpR op_ne (pe_callB (r := rLn K) call_len_seq (by rfl) T.z_len PySem.boot_len (pa_cons (pv 0) pa_nil)) pe_int (nomark _)) (pw_or1 (pt_not (pt_val (pe_callB (r := rIsi K) call_isi (by rfl) T.z_isinstance PyProof.Rows.boot_isinstance (pa_cons (pe_ix (r := rIxT K) ix_tup (pv 0) pe_int (fun _ _ => rfl)) (pa_cons (pe_bltn (v := .ty "list") (by rfl) T.z_list PyProof.Rows.boot_list rfl) pa_nil))))))))) (pss_one (ps_ret pe_bl)) pss_nil)
      (pss_cons (ps_for PassesOwn.never (by rfl) (pi_list (pe_ix (r := rIxT K) ix_tup (pv 0) pe_int (fun _ _ => rfl))) (pg_name (i := 1) sc_law_cubes.nd rfl (Or.inl rfl)) (pss_cons (ps_if (PW.pt (pw_or (pt_not (pt_val (pe_callB (r := rIsi K) call_isi (by rfl) T.z_isinstance PyProof.Rows.boot_isinstance (pa_cons (pv 1) (pa_cons (pe_bltn (v := .ty "tuple") (by rfl) T.z_tuple PyProof.Rows.boot_tuple rfl) pa_nil))))) (pw_or (pt_cmpR op_ne (pe_callB (r := rLn K) call_len_seq (by rfl) T.z_len PySem.boot_len (pa_cons (pv 1) pa_nil)) pe_int (nomark _)) (pw_or1 (pt_not (pt_val (pe_callB (r := rIsi K) call_isi (by rfl) T.z_isinstance PyProof.Rows.boot_isinstance (pa_cons (pe_ix (r := rIxT K) ix_tup (pv 1) pe_int (fun _ _ => rfl)) (pa_cons (pe_bltn (v := .ty "tuple") (by rfl) T.z_tuple PyProof.Rows.boot_tuple rfl) pa_nil))))))))) (pss_one (ps_ret pe_bl)) pss_nil)
      (pss_one (ps_for PassesOwn.never (by rfl) (pi_list (pe_op op_cat (pe_callTy (r := rLo K) call_list_of (by rfl) T.z_list PyProof.Rows.boot_list (pa_cons (pe_ix (r := rIxT K) ix_tup (pv 1) pe_int (fun _ _ => rfl)) pa_nil)) (pe_lst (pa_cons (pe_ix (r := rIxT K) ix_tup (pv 1) pe_int (fun _ _ => rfl)) pa_nil)))) (pg_name (i := 2) sc_law_cubes.nd rfl (Or.inl rfl)) (pss_one (ps_if (PW.pt (pw_or (pt_not (pt_val (pe_callB (r := rIsi K) call_isi (by rfl) T.z_isinstance PyProof.Rows.boot_isinstance (pa_cons (pv 2) (pa_cons (pe_bltn (v := .ty "int") (by rfl) T.z_int PyProof.Rows.boot_int rfl) pa_nil))))) (pw_or (pt_val (pe_callB (r := rIsi K) call_isi (by rfl) T.z_isinstance PyProof.Rows.boot_isinstance (pa_cons (pv 2) (pa_cons (pe_bltn (v := .ty "bool") (by rfl) T.z_bool PyProof.Rows.boot_bool rfl) pa_nil)))) (pw_or1 (pt_cmpR (r := rIn K true) op_notIn_seq (pv 2) (pe_tup (pa_cons pe_int (pa_cons pe_int pa_nil))) (by rfl)))))) (pss_one (ps_ret pe_bl)) pss_nil))))))
      (pss_one (ps_ret pe_bl)))), ?_⟩
    refine ⟨_, rfl, _, _, _, _, true, rfl, .ty _, isi_ok hp, by rfl, _, rfl, ?_⟩
    refine iteF ⟨_, rfl, p, _, rfl, .inr (SqT.of hp), rfl, _, rfl, iteF ?_⟩
    refine ⟨_, rfl, p, _, 1, _, rfl, rfl, SqT.of hp, rfl, _, _, _, _, true, rfl, .ty _, .base (.lst hc), by rfl, _, rfl, iteF ?_⟩
    refine ⟨_, rfl, p, _, 1, _, rfl, rfl, SqT.of hp, rfl, c, rfl, ⟨_, SqL.of hc⟩, for_list (K := K) (a := c) (xs := us) (fun i σ H' => ∃ x y, σ = [some (.ref p), x, y] ∧ Same H H') ⟨none, none, rfl, Same.refl _⟩ (fun i σ H' _ ⟨_, _, _, s1⟩ => s1.seq (SqL.of hc)) ?_ ?_⟩
    · rintro i u σ H' hi ⟨x1, y1, rfl, s1⟩
      obtain ⟨cb, ec, p1, q1, rfl, hp1, hq1⟩ := hcu.get hi
      obtain ⟨m1, l6, c1⟩ := hz cb (List.mem_of_getElem? ec)
      have hp1' := s1 _ _ hp1
      have hq1' := s1 _ _ hq1
      refine ⟨_, rfl, _, _, _, _, true, rfl, .ty _, isi_ok hp1', by rfl, _, rfl, ?_⟩
      refine iteF ⟨_, rfl, p1, _, rfl, .inr (SqT.of hp1'), rfl, _, rfl, iteF ?_⟩
      refine ⟨_, rfl, p1, _, 0, _, rfl, rfl, SqT.of hp1', rfl, _, _, _, _, true, rfl, .ty _, isi_ok hq1', by rfl, _, rfl, iteF ?_⟩
      refine ⟨_, rfl, p1, _, 0, _, rfl, rfl, SqT.of hp1', rfl, q1, _, rfl, .inr (SqT.of hq1'), fun a1 na1 => ?_⟩
      have t1 := Same.new (H := H') (o := .lst (vs cb.1)) na1
      have e1 : (upd H' a1 (.lst (vs cb.1))) a1 = some (.lst (vs cb.1)) := upd_same
      refine ⟨_, rfl, p1, _, 1, _, rfl, rfl, SqT.of (t1 _ _ hp1'), rfl, by show 1 ≤ sizeLine; decide, fun a2 na2 => ?_⟩
      have t2 := Same.new (H := upd H' a1 (.lst (vs cb.1))) (o := .lst [vN cb.2]) na2
      have e2 : (upd (upd H' a1 (.lst (vs cb.1))) a2 (.lst [vN cb.2])) a2 = some (.lst [vN cb.2]) := upd_same
      refine ⟨a1, a2, _, _, rfl, rfl, t2 _ _ e1, e2, ?_, fun a3 na3 => ?_⟩
      · rw [List.length_map]
        show cb.1.length + 1 ≤ sizeLine
        exact line_of (by omega)
      have t3 := Same.new (H := upd (upd H' a1 (.lst (vs cb.1))) a2 (.lst [vN cb.2])) (o := .lst (vs cb.1 ++ [vN cb.2])) na3
      have e3 : (upd (upd (upd H' a1 (.lst (vs cb.1))) a2 (.lst [vN cb.2])) a3 (.lst (vs cb.1 ++ [vN cb.2]))) a3 = some (.lst (vs (cb.1 ++ [cb.2]))) := by
        rw [upd_same, vs_snoc]
      have tt := (t1.trans t2).trans t3
      generalize (upd (upd (upd H' a1 (.lst (vs cb.1))) a2 (.lst [vN cb.2])) a3 (.lst (vs cb.1 ++ [vN cb.2]))) = H4 at tt e3
      have m1' : M1 (cb.1 ++ [cb.2]) := fun x hx => by
        rcases List.mem_append.mp hx with hx | hx
        · exact m1 x hx
        · rw [List.mem_singleton.mp hx]
          exact c1
      refine ⟨a3, rfl, ⟨_, SqL.of e3⟩, for_list (K := K) (a := a3) (xs := vs (cb.1 ++ [cb.2])) (fun i σ H' => ∃ y, σ = [some (.ref p), some (.ref p1), y] ∧ Same H4 H') ⟨y1, rfl, Same.refl _⟩ (fun i σ H' _ ⟨_, _, s1⟩ => s1.seq (SqL.of e3)) ?_ ?_⟩
      · rintro j u σ H5 hj ⟨y2, rfl, s5⟩
        obtain ⟨m, em, rfl⟩ := vs_of hj
        have hm := m1' m (List.mem_of_getElem? em)
        refine ⟨_, rfl, _, _, _, _, true, rfl, .ty _, .base (.int _), by rfl, _, rfl, ?_⟩
        refine iteF ⟨_, rfl, _, _, _, _, false, rfl, .ty _, .base (.int _), by rfl, _, rfl, iteF ?_⟩
        refine ⟨_, rfl, by show 2 ≤ sizeLine; decide, fun a5 na5 => ⟨a5, _, rfl, .inr (SqT.of upd_same), rfl, rfl, _, rfl, ?_⟩⟩
        have e : (!inV (vN m) [V.int 0, V.int 1]) = false := by
          have := in_vs m [0, 1]
          have e0 : inV (vN m) [V.int 0, V.int 1] = decide (m ∈ [0, 1]) := this
          rw [e0, decide_eq_true (by rcases le1_cases hm with rfl | rfl <;> decide)]
          rfl
        show if (!inV (vN m) [V.int 0, V.int 1]) = true then _ else _
        rw [e]
        exact iteF ⟨_, rfl, s5.newT na5⟩
      · rintro σ H5 ⟨y2, rfl, s5⟩
        exact ⟨_, _, rfl, (s1.trans tt).trans s5⟩
    · rintro σ H' ⟨x1, y1, rfl, s1⟩
      exact q _ _ s1 rfl
end
end K24

set_option Elab.async false
set_option linter.all false
set_option maxRecDepth 100000
set_option maxHeartbeats 4000000
/-! The law. -/
namespace K24
open PySem PySem.Spec PyProof.Rows L2
structure LawS (H : Hp) (lb ld wk : Addr) (bs ds : List Bx) (gs : List Gd) (ra rb : Rl) (ga gb : Gd) : Prop where
  rls : Rls H lb ld bs ds ra rb
  two : TwoAt H wk ra.n rb.n bs ds gs ga gb
  va : ga.v = ra.v
  ta : ga.t = ra.t
  vb : gb.v = rb.v
  tb : gb.t = rb.t
theorem Rls.same {H H' : Hp} {lb ld : Addr} {bs ds : List Bx} {r1 r2 : Rl} (h : Rls H lb ld bs ds r1 r2) (s : Same H H') : Rls H' lb ld bs ds r1 r2 := ⟨h.two.same s, Rl.same s h.a1, Rl.same s h.a2, h.nd, h.n1, h.n2, h.o1, h.o2⟩
theorem Rls.swap {H : Hp} {lb ld : Addr} {bs ds : List Bx} {r1 r2 : Rl} (h : Rls H lb ld bs ds r1 r2) : Rls H lb ld bs ds r2 r1 := by
  refine ⟨h.two, h.a2, h.a1, ?_, h.n2, h.n1, h.o2, h.o1⟩
  exact (List.Perm.append (List.Perm.refl _) (List.Perm.swap r1.n r2.n [])).nodup_iff.mpr h.nd
theorem LawS.same {H H' : Hp} {lb ld wk : Addr} {bs ds : List Bx} {gs : List Gd} {ra rb : Rl} {ga gb : Gd} (h : LawS H lb ld wk bs ds gs ra rb ga gb) (s : Same H H') : LawS H' lb ld wk bs ds gs ra rb ga gb := ⟨h.rls.same s, h.two.same s, h.va, h.ta, h.vb, h.tb⟩
theorem WkAt.keep {H H' : Hp} {wk : Addr} {bs ds : List Bx} {gs : List Gd} (k : ∀ b o, H b = some o → (∀ xs, o ≠ .lst xs) → H' b = some o) (h : WkAt H wk bs ds gs) : WkAt H' wk bs ds gs := by
  obtain ⟨a, b, c, h1, h2, h3, h4, h5, h6, h7⟩ := h
  exact ⟨a, b, c, k _ _ h1 nofun, k _ _ h2 nofun, k _ _ h3 nofun, k _ _ h4 nofun, fun x hx => Bx.keep k (h5 x hx), fun x hx => Bx.keep k (h6 x hx), fun x hx => ⟨let ⟨y, hy⟩ := (h7 x hx).1; ⟨y, k _ _ hy nofun⟩, tm_keep k (h7 x hx).2⟩⟩
theorem find1 {g1 g2 : Gd} : [g1, g2].find? (fun x => decide (x.n = g1.n)) = some g1 := List.find?_cons_of_pos (by exact decide_eq_true rfl)
theorem find2 {g1 g2 : Gd} (h : g1.n ≠ g2.n) : [g1, g2].find? (fun x => decide (x.n = g2.n)) = some g2 := by
  rw [List.find?_cons_of_neg (by rw [decide_eq_true_eq]; exact h)]
  exact List.find?_cons_of_pos (by exact decide_eq_true rfl)
theorem two_gs {gs : List Gd} {r1 r2 : Rl} (h : gs.map (fun g => (g.n, g.v, g.t)) = [r1, r2].map fun r => (r.n, r.v, r.t)) : ∃ g1 g2, gs = [g1, g2] ∧ (g1.n = r1.n ∧ g1.v = r1.v ∧ g1.t = r1.t) ∧ (g2.n = r2.n ∧ g2.v = r2.v ∧ g2.t = r2.t) := by
  have l2 : gs.length = 2 := by
    have := congrArg List.length h
    rw [List.length_map] at this
    exact this
  match gs, l2, h with
  | [g1, g2], _, h =>
    have h : [(g1.n, g1.v, g1.t), (g2.n, g2.v, g2.t)] = [(r1.n, r1.v, r1.t), (r2.n, r2.v, r2.t)] := h
    obtain ⟨e1, h⟩ := List.cons.inj h
    obtain ⟨e2, _⟩ := List.cons.inj h
    exact ⟨g1, g2, rfl, ⟨congrArg (·.1) e1, congrArg (·.2.1) e1, congrArg (·.2.2) e1⟩, ⟨congrArg (·.1) e2, congrArg (·.2.1) e2, congrArg (·.2.2) e2⟩⟩
theorem LawS.of {H : Hp} {lb ld wk : Addr} {bs ds : List Bx} {gs : List Gd} {r1 r2 : Rl} (h : Rls H lb ld bs ds r1 r2) (hw : WkAt H wk bs ds gs) (e : gs.map (fun g => (g.n, g.v, g.t)) = [r1, r2].map fun r => (r.n, r.v, r.t)) : ∃ g1 g2, LawS H lb ld wk bs ds gs r1 r2 g1 g2 ∧ LawS H lb ld wk bs ds gs r2 r1 g2 g1 := by
  obtain ⟨g1, g2, rfl, ⟨n1, v1, t1⟩, ⟨n2, v2, t2⟩⟩ := two_gs e
  have ne : r1.n ≠ r2.n := fun z => by
    have := (List.nodup_append.mp h.nd).2.1
    rw [z] at this
    exact (List.nodup_cons.mp this).1 List.mem_cons_self
  have ne' : g1.n ≠ g2.n := by
    rw [n1, n2]
    exact ne
  have f1 : [g1, g2].find? (fun x => decide (x.n = r1.n)) = some g1 := by
    rw [← n1]
    exact find1
  have f2 : [g1, g2].find? (fun x => decide (x.n = r2.n)) = some g2 := by
    rw [← n2]
    exact find2 ne'
  have o1 : TmOk (wsOf bs ds) g1.t 1 := by
    rw [t1]
    exact h.o1.g
  have o2 : TmOk (wsOf bs ds) g2.t 1 := by
    rw [t2]
    exact h.o2.g
  exact ⟨g1, g2, ⟨h, ⟨hw, h.two.bd, f1, f2, o1, o2⟩, v1, t1, v2, t2⟩, ⟨h.swap, ⟨hw, h.two.bd, f2, f1, o2, o1⟩, v2, t2, v1, t1⟩⟩
theorem cutV_take (xs : List V) (j : Nat) : cutV xs none (some (j : Int)) = xs.take j := by
  unfold cutV
  rw [HT.sIx_nat]
  show (xs.drop 0).take (min j xs.length - 0) = xs.take j
  rw [List.drop_zero, Nat.sub_zero]
  by_cases h : j ≤ xs.length
  · rw [Nat.min_eq_left h]
  · rw [Nat.min_eq_right (by omega), List.take_length, List.take_of_length_le (by omega)]
theorem cut90 (xs : List V) : (cutV xs (some 6) (some 96)).length ≤ 90 := by
  unfold cutV
  have e1 : HT.sIx xs.length 0 (some 6) = min 6 xs.length := HT.sIx_nat xs.length 0 6
  have e2 : HT.sIx xs.length xs.length (some 96) = min 96 xs.length := HT.sIx_nat xs.length xs.length 96
  rw [e1, e2, List.length_take, List.length_drop]
  omega
theorem cut_mem {xs : List V} {lo hi : Option Int} {x : V} (h : x ∈ cutV xs lo hi) : x ∈ xs := List.mem_of_mem_drop (List.mem_of_mem_take h)
/-- rows of bits in a list -/
def BlAt (H : Hp) (so : Addr) (N : Nat) (bl : List (Addr × List Nat)) : Prop := H so = some (.lst (bl.map fun z => V.ref z.1)) ∧ ∀ z ∈ bl, z.1 ≠ so ∧ H z.1 = some (.lst (vs z.2)) ∧ M1 z.2 ∧ z.2.length = N
theorem fit_of {W : Ws} {l : S4} {g : Tm} {ask : List Ask} {bits : List Nat} (hr : Reads1 W l g ask) (hb : M1 bits) (hl : bits.length = ask.length) : Fit W g (fun s n => wk ask bits (s4 l s) n) := fun s n w hn hW => by
  obtain ⟨q1, q2⟩ := ref_hk (ms := []) (hr s n w hn hW) hb hl rfl
  have := q2.lt
  rw [q1] at this
  exact this
section
variable {P : Program} {w : World} {K : PySem.W.Frag} {mg : Str → Option Value} {base : Heap}
def sp_law (K : PySem.W.Frag) : Sp := fun vs_ H Q _ => ∃ (a : Addr) (js : List Int), vs_ = [.ref a] ∧ SqL K H a (js.map V.int) ∧ ∀ H', Q (.bl true) H'
theorem ok_law (T : Txt K mg) : Ok P w K mg base "law" ["script"] 40 (sp_law K) := by
  have G__law_pair : Ok P w K mg base "_law_pair" _ 10 _ := ok_pair T
  have G__law_mix : Ok P w K mg base "_law_mix" _ 1 _ := ok_mix T
  have G__law_cell : Ok P w K mg base "_law_cell" _ 1 _ := ok_cell T
  have G_made : Ok P w K mg base "made" _ 14 _ := ok_made T
  have G_never_both : Ok P w K mg base "never_both" _ 13 _ := ok_never_both T
  have G__law_cubes : Ok P w K mg base "_law_cubes" _ 1 _ := ok_cubes T
  have G__law_row : Ok P w K mg base "_law_row" _ 10 _ := ok_row T
  have G__law_widths : Ok P w K mg base "_law_widths" _ 1 _ := ok_widths T
  have G__law_holds : Ok P w K mg base "_law_holds" _ 13 _ := ok_holds T
  have G__law_words : Ok P w K mg base "_law_words" _ 1 _ := ok_words T
  refine T.d_law.ok sc_law (fun vs H Q E h => ?_) (fun cdv A outer s H vs_ Q E hr h => ?_)
  · obtain ⟨a, js, rfl, _⟩ := h
    rfl
  · obtain ⟨a, js, rfl, ha, q⟩ := h
    refine ⟨_, (pss_cons (ps_asg (pe_c T.d__law_pair G__law_pair (hr.mono (by omega)) (by rfl) (pa_cons (pv 0) (pa_cons pe_int pa_nil))) (pg_tup (by rfl) (pgs_cons (pg_name (i := 1) sc_law.nd rfl (Or.inl rfl)) (pgs_cons (pg_name (i := 2) sc_law.nd rfl (Or.inl rfl)) (pgs_cons (pg_name (i := 3) sc_law.nd rfl (Or.inl rfl)) pgs_nil)))))
      (pss_cons (ps_set (i := 4) sc_law.nd rfl (Or.inl rfl) (pe_c T.d_made G_made (hr.mono (by omega)) (by rfl) (pa_cons (pe_callTy (r := rLo K) call_list_of (by rfl) T.z_list PyProof.Rows.boot_list (pa_cons (pv 1) pa_nil)) (pa_cons (pe_callTy (r := rLo K) call_list_of (by rfl) T.z_list PyProof.Rows.boot_list (pa_cons (pv 2) pa_nil)) (pa_cons (pe_callTy (r := rLo K) call_list_of (by rfl) T.z_list PyProof.Rows.boot_list (pa_cons (pv 3) pa_nil)) pa_nil)))))
      (C8.pss_cut (ps_if (pt_cmpR op_eq (pe_op op_mod (pe_c T.d__law_mix G__law_mix (hr.mono (by omega)) (by rfl) (pa_cons (pe_c T.d__law_cell G__law_cell (hr.mono (by omega)) (by rfl) (pa_cons (pv 0) (pa_cons pe_int pa_nil))) (pa_cons pe_int pa_nil))) pe_int) pe_int (nomark _)) (pss_one (ps_expr (pe_bm0 PySem.F.plainAttrs_list PySem.F.slot_list_reverse PySem.F.type_list_reverse mt_reverse (pv 3)))) pss_nil)
      (pss_cons (ps_asg (pv 3) (pg_unl (by rfl) (pgs_cons (pg_name (i := 5) sc_law.nd rfl (Or.inl rfl)) (pgs_cons (pg_name (i := 6) sc_law.nd rfl (Or.inl rfl)) pgs_nil))))
      (pss_cons (ps_set (i := 7) sc_law.nd rfl (Or.inl rfl) (pe_c T.d_never_both G_never_both (hr.mono (by omega)) (by rfl) (pa_cons (pv 4) (pa_cons (pe_ix (r := rIxT K) ix_tup (pv 5) pe_int (fun _ _ => rfl)) (pa_cons (pe_ix (r := rIxT K) ix_tup (pv 6) pe_int (fun _ _ => rfl)) pa_nil)))))
      (pss_cons (ps_if (pt_cmpR op_ne (pe_ix (r := rIxT K) ix_tup (pv 7) pe_int (fun _ _ => rfl)) pe_str (nomark _)) (pss_one (ps_ret pe_bl)) pss_nil)
      (pss_cons (ps_if (pt_not (pt_val (pe_c T.d__law_cubes G__law_cubes (hr.mono (by omega)) (by rfl) (pa_cons (pv 7) pa_nil)))) (pss_one (ps_ret pe_bl)) pss_nil)
      (pss_cons (ps_set (i := 8) sc_law.nd rfl (Or.inl rfl) (pe_c T.d__law_row G__law_row (hr.mono (by omega)) (by rfl) (pa_cons (pv 1) (pa_cons (pv 2) (pa_cons (pe_ix (r := rIxT K) ix_tup (pv 5) pe_int (fun _ _ => rfl)) (pa_cons (pe_ix (r := rIxT K) ix_tup (pv 6) pe_int (fun _ _ => rfl)) pa_nil))))))
      (pss_cons (ps_set (i := 9) sc_law.nd rfl (Or.inl rfl) (pe_c T.d__law_widths G__law_widths (hr.mono (by omega)) (by rfl) (pa_cons (pv 1) (pa_cons (pv 2) pa_nil))))
      (C8.pss_cut (ps_set (i := 10) sc_law.nd rfl (Or.inl rfl) (pe_lst (pa_cons (pe_lc (own := [("bit", 16)]) (g := gName 16) (by rfl) sc_law.nd (pi_list (pv 8)) (blkOk_by (N := N_law) (sc := defScope s_law) (by decide +kernel)) (fun _ _ _ _ _ => pg_name (i := 16) sc_law.nd rfl (Or.inl rfl)) (fun _ _ _ _ _ => pts_nil) (fun _ _ _ _ _ => pe_int)) (pa_cons (pe_lc (own := [("bit", 16)]) (g := gName 16) (by rfl) sc_law.nd (pi_list (pv 8)) (blkOk_by (N := N_law) (sc := defScope s_law) (by decide +kernel)) (fun _ _ _ _ _ => pg_name (i := 16) sc_law.nd rfl (Or.inl rfl)) (fun _ _ _ _ _ => pts_nil) (fun _ _ _ _ _ => pe_int)) pa_nil))))
      (C8.pss_cut (ps_for PassesOwn.never (by rfl) (pi_list (pe_slice (r := rSlL K) sl_list (pv 0) (po_some pe_int) (po_some pe_int))) (pg_name (i := 11) sc_law.nd rfl (Or.inl rfl)) (pss_cons (ps_set (i := 12) sc_law.nd rfl (Or.inr rfl) (pe_c T.d__law_mix G__law_mix (hr.mono (by omega)) (by rfl) (pa_cons (pe_op op_mod (pv 11) pe_int) (pa_cons pe_int pa_nil))))
      (pss_one (ps_expr (pe_bm PySem.F.plainAttrs_list PySem.F.slot_list_append PySem.F.type_list_append mt_append (pv 10) (pa_cons (pe_lc (own := [("k", 18)]) (g := gName 18) (by rfl) sc_law.nd (pi_range1 (by rfl) T.z_range (pa_cons (pe_callB (r := rLn K) call_len_seq (by rfl) T.z_len PySem.boot_len (pa_cons (pv 8) pa_nil)) pa_nil)) (blkOk_by (N := N_law) (sc := defScope s_law) (by decide +kernel)) (fun _ _ _ _ _ => pg_name (i := 18) sc_law.nd rfl (Or.inl rfl)) (fun _ _ _ _ _ => pts_nil) (fun _ _ _ _ _ => (pe_op op_mod (pe_op op_fdiv (pe_c T.d__law_mix G__law_mix (hr.mono (by omega)) (by rfl) (pa_cons (pv 12) (pa_cons (pv 18) pa_nil))) pe_int) pe_int))) pa_nil))))))
      (pss_cons (ps_for PassesOwn.never (by rfl) (pi_list (pv 10)) (pg_name (i := 13) sc_law.nd rfl (Or.inr rfl)) (pss_cons (ps_setLc (i := 14) (own := [("cube", 17)]) (g := gName 17) (by rfl) sc_law.nd rfl rfl (sw_true rfl rfl rfl (by decide +kernel)) (pi_list (pe_ix (r := rIxT K) ix_tup (pv 7) pe_int (fun _ _ => rfl))) (blkOk_by (N := N_law) (sc := defScope s_law) (by decide +kernel)) (fun _ _ _ _ _ => pg_name (i := 17) sc_law.nd rfl (Or.inl rfl)) (fun _ _ _ _ _ => (pts_one (pt_cmpR (r := rEqD K) (op_eqD hr.units) (pe_callTy (r := rLo K) call_list_of (by rfl) T.z_list PyProof.Rows.boot_list (pa_cons (pe_ix (r := rIxT K) ix_tup (pv 17) pe_int (fun _ _ => rfl)) pa_nil)) (pe_slice (r := rSlL K) sl_list (pv 13) po_none (po_some (pe_callB (r := rLn K) call_len_seq (by rfl) T.z_len PySem.boot_len (pa_cons (pe_ix (r := rIxT K) ix_tup (pv 17) pe_int (fun _ _ => rfl)) pa_nil)))) (nomark _)))) (fun _ _ _ _ _ => (pv 17)))
      (pss_cons (ps_if (pt_cmpR op_ne (pe_callB (r := rLn K) call_len_seq (by rfl) T.z_len PySem.boot_len (pa_cons (pv 14) pa_nil)) pe_int (nomark _)) (pss_one (ps_ret pe_bl)) pss_nil)
      (pss_cons (ps_set (i := 15) sc_law.nd rfl (Or.inl rfl) (pe_ix (r := rIxT K) ix_tup (pe_ix (r := rIxL K) ix_list (pv 14) pe_int (fun _ _ => rfl)) pe_int (fun _ _ => rfl)))
      (pss_one (ps_if (pt_val (pe_c T.d__law_holds G__law_holds (hr.mono (by omega)) (by rfl) (pa_cons (pe_ix (r := rIxT K) ix_tup (pe_ix (r := rIxL K) ix_list (pe_lst (pa_cons (pv 5) (pa_cons (pv 6) pa_nil))) (pv 15) (fun _ _ => rfl)) pe_int (fun _ _ => rfl)) (pa_cons (pv 9) (pa_cons (pe_c T.d__law_words G__law_words (hr.mono (by omega)) (by rfl) (pa_cons (pv 8) (pa_cons (pv 13) pa_nil))) (pa_cons (pe_ix (r := rIxL K) ix_list (pe_lst (pa_cons pe_str (pa_cons pe_str pa_nil))) (pv 15) (fun _ _ => rfl)) pa_nil)))))) (pss_one (ps_ret pe_bl)) pss_nil))))))
      (pss_one (ps_ret pe_bl)))))))))))))), ?_⟩
    refine ⟨_, rfl, a, js, rfl, ha, fun p0 H1 ⟨lb, ld, lr, bs, ds, r1, r2, Hm, hp0, hlr, sm, sm1, nlr, rls⟩ => ?_⟩
    refine ⟨p0, _, rfl, SqT.of hp0, rfl, _, _, rfl, _, _, rfl, _, _, rfl, rfl, ?_⟩
    have s1 := sm.trans sm1
    have rls1 := rls.same sm1
    -- copies of the lists
    refine ⟨_, rfl, lb, _, rfl, .inl (SqL.of rls1.two.b), fun c1 nc1 => ?_⟩
    have u1 := Same.new (H := H1) (o := .lst (bs.map fun x => V.ref x.p)) nc1
    have e1 : (upd H1 c1 (.lst (bs.map fun x => V.ref x.p))) c1 = some (.lst (bs.map fun x => V.ref x.p)) := upd_same
    generalize (upd H1 c1 (.lst (bs.map fun x => V.ref x.p))) = H2 at u1 e1
    refine ⟨_, rfl, ld, _, rfl, .inl (SqL.of (u1 _ _ rls1.two.d)), fun c2 nc2 => ?_⟩
    have u2 := Same.new (H := H2) (o := .lst (ds.map fun x => V.ref x.p)) nc2
    have e2 : (upd H2 c2 (.lst (ds.map fun x => V.ref x.p))) c2 = some (.lst (ds.map fun x => V.ref x.p)) := upd_same
    generalize (upd H2 c2 (.lst (ds.map fun x => V.ref x.p))) = H3 at u2 e2
    have u12 := u1.trans u2
    refine ⟨_, rfl, lr, _, rfl, .inl (SqL.of (u12 _ _ hlr)), fun c3 nc3 => ?_⟩
    have u3 := Same.new (H := H3) (o := .lst [.ref r1.p, .ref r2.p]) nc3
    have e3 : (upd H3 c3 (.lst [.ref r1.p, .ref r2.p])) c3 = some (.lst [.ref r1.p, .ref r2.p]) := upd_same
    generalize (upd H3 c3 (.lst [.ref r1.p, .ref r2.p])) = H4 at u3 e3
    have u14 := u12.trans u3
    have rls4 := rls1.same u14
    refine ⟨c1, c2, c3, bs, ds, [r1, r2], rfl, u3 _ _ (u2 _ _ e1), u3 _ _ e2, e3, rls4.two.ab, rls4.two.ad, fun x hx => ?_, rls4.two.bd, rls4.nd, fun x hx => ?_, by show 2 ≤ 8; decide, fun x hx => ?_, fun r H5 s5 ⟨wk_, gs, er, hwk, egs⟩ => ?_⟩
    · rcases List.mem_cons.mp hx with rfl | hx
      · exact rls4.a1
      · rw [List.mem_singleton.mp hx]
        exact rls4.a2
    · rcases List.mem_cons.mp hx with rfl | hx
      · exact rls4.n1
      · rw [List.mem_singleton.mp hx]
        exact rls4.n2
    · rcases List.mem_cons.mp hx with rfl | hx
      · exact rls4.o1
      · rw [List.mem_singleton.mp hx]
        exact rls4.o2
    subst er
    have sm5 := (sm1.trans u14).trans s5
    have hlr5 := s5 _ _ (u14 _ _ hlr)
    have ha5 := (sm.trans sm5).seq ha
    -- in this order or that
    refine ⟨fun σ H' => ∃ ra rb ga gb, σ = [some (.ref a), some (.ref lb), some (.ref ld), some (.ref lr), some (.ref wk_), none, none, none, none, none, none, none, none, none, none, none, none, none, none] ∧ Same H H' ∧ H' lr = some (.lst [.ref (Rl.p ra), .ref (Rl.p rb)]) ∧ LawS H' lb ld wk_ bs ds gs ra rb ga gb, ?_, ?_⟩
    · refine ⟨_, rfl, a, js, 5, rfl, ha5, by decide, fun c hc => ⟨c, 7, rfl, hc, by decide, fun m hm => ?_⟩⟩
      refine ⟨_, _, rfl, rfl, by show (0 : Int) < 2; decide, rfl, _, rfl, ?_⟩
      refine ite2 (fun _ => ?_) (fun _ => ?_)
      · refine ⟨_, rfl, .inl ⟨rfl, _, SqL.of hlr5⟩, lr, _, rfl, rfl, hlr5, ?_⟩
        have smR := sm5.mut (o := .lst [V.ref r1.p, V.ref r2.p].reverse) nlr
        obtain ⟨g1, g2, _, l2⟩ := LawS.of (rls.same smR) (WkAt.keep (keepL (Same.refl _) hlr5) hwk) egs
        exact ⟨r2, r1, g2, g1, rfl, sm.trans smR, upd_same, l2⟩
      · obtain ⟨g1, g2, l1, _⟩ := LawS.of (rls.same sm5) hwk egs
        exact ⟨r1, r2, g1, g2, rfl, sm.trans sm5, hlr5, l1⟩
    clear hp0 hlr sm sm1 nlr rls s1 rls1 u1 e1 u2 e2 u12 u3 e3 u14 rls4 hwk egs sm5 hlr5 ha5 s5
    rintro σ H6 ⟨ra, rb, ga, gb, rfl, s6, hlr, ls⟩
    have two := ls.two
    have bd := two.bd
    have ok := bd.ok
    have oa : TmOk (wsOf bs ds) ra.t 1 := ls.ta ▸ two.t1
    have ob : TmOk (wsOf bs ds) rb.t 1 := ls.tb ▸ two.t2
    refine ⟨_, rfl, lr, _, rfl, SqL.of hlr, rfl, _, _, rfl, _, _, rfl, rfl, ?_⟩
    refine ⟨_, rfl, _, rfl, ra.p, _, 0, _, rfl, rfl, SqT.of ls.rls.a1.1, rfl, _, rfl, rb.p, _, 0, _, rfl, rfl, SqT.of ls.rls.a2.1, rfl, wk_, ra.n, rb.n, bs, ds, gs, ga, gb, rfl, two, fun r H7 s7 ⟨p, er, res⟩ => ?_⟩
    subst er
    rcases res with ⟨x, rest, hp, hx⟩ | ⟨c, us, cs, ask, hp, hc, hcu, hask, l6, hcov, l65, good⟩
    · refine ⟨_, rfl, p, _, 0, _, rfl, rfl, SqT.of hp, atI_nat (j := 0) rfl, rfl, _, rfl, ?_⟩
      rw [decide_eq_false (fun z => hx (by injection z))]
      exact iteT (q _)
    refine ⟨_, rfl, p, _, 0, _, rfl, rfl, SqT.of hp, rfl, rfl, _, rfl, ?_⟩
    rw [decide_eq_true rfl]
    refine iteF ?_
    have gM : ∀ z ∈ cs, M1 z.1 ∧ z.1.length ≤ 6000 ∧ z.2 ≤ 1 := fun z hz => by
      obtain ⟨g1, g2, g3⟩ := good z hz
      refine ⟨g1, by omega, ?_⟩
      rcases g3 with ⟨e, _⟩ | ⟨e, _⟩ <;> omega
    refine ⟨_, rfl, p, c, _, us, cs, rfl, hp, hc, hcu, gM, fun r H8 s8 er => ?_⟩
    subst er
    refine ⟨_, rfl, iteF ?_⟩
    have s78 := s7.trans s8
    have ls8 := ls.same s78
    refine ⟨_, rfl, _, rfl, _, rfl, ra.p, _, 1, _, rfl, rfl, SqT.of ls8.rls.a1.1, rfl, _, rfl, rb.p, _, 1, _, rfl, rfl, SqT.of ls8.rls.a2.1, rfl, lb, ld, ra.v, rb.v, bs, ds, ra.t, rb.t, rfl, ls8.rls.two, ls8.rls.a1.2.1, ls8.rls.a2.2.1, oa, ob, fun r H9 s9 ⟨rw_, us2, ask2, er, hrw, hau, hask2⟩ => ?_⟩
    subst er
    have eask : ask2 = ask := by
      rw [ls.ta, ls.tb] at hask
      exact AskedOk.uniq hask2 hask
    subst eask
    have ls9 := ls8.same s9
    refine ⟨_, rfl, _, rfl, lb, ld, bs, ds, rfl, ls9.rls.two, fun r HA sA ⟨pw_, di, dq, er, hpw, hdi, hdq⟩ => ?_⟩
    subst er
    have lsA := ls9.same sA
    have hauA := hau.same sA
    have hrwA := sA _ _ hrw
    have hpA := sA _ _ (s9 _ _ (s8 _ _ hp))
    have hcA := sA _ _ (s9 _ _ (s8 _ _ hc))
    have hcuA := ((hcu.same s8).same s9).same sA
    have sHA := ((s6.trans s78).trans s9).trans sA
    have lN : us2.length = ask2.length := hau.1
    -- all zeros, all ones
    refine ⟨fun σ H' => ∃ (so : Addr) (bl : List (Addr × List Nat)), σ = [some (.ref a), some (.ref lb), some (.ref ld), some (.ref lr), some (.ref wk_), some (.ref ra.p), some (.ref rb.p), some (.ref p), some (.ref rw_), some (.ref pw_), some (.ref so), none, none, none, none, none, none, none, none] ∧ Same HA H' ∧ HA so = none ∧ BlAt H' so ask2.length bl ∧ bl.length = 2, ?_, ?_⟩
    · have const : ∀ (b : Nat) (σ : L2.St) (H0 : Hp) (D : Addr) (Qd : Hp → Prop) (vw : List Nat), H0 D = none → SqL K H0 rw_ us2 → (∀ v : V, wipe ((wipe σ vw).set 16 (some v)) vw = wipe σ vw) → (∀ H', Same H0 H' → H' D = some (.lst (vs (List.replicate ask2.length b))) → Qd H') →
          ∃ W : Nat → Nat → Hp → Prop, (∃ m, W 0 m (upd H0 D (.lst []))) ∧ ∀ i m H, W i m H →
            ((Itl K rw_).stop i H ∧ Qd H) ∨ ((Itl K rw_).go i H ∧ ∃ Nx : Hp → Prop, (∀ H', Nx H' → ∃ m', m' < m ∧ W (i + 1) m' H') ∧ ∀ x H', (Itl K rw_).yld i H x H' → gName 16 x (wipe σ vw) H' fun σ2 H2 => wipe σ2 vw = wipe σ vw ∧ tYes σ2 H2 fun b_ H3 =>
              if b_ = true then tC (vN b) σ2 H3 fun y H4 => ∃ acc, H4 D = some (.lst acc) ∧ acc.length < sizeLine ∧ Nx (upd H4 D (.lst (acc ++ [y]))) else Nx H3) := by
        intro b σ H0 D Qd vw nD hq hwp fin
        refine lc_list (K := K) (a := rw_) (xs := us2) (fun i H' => Same H0 H' ∧ H' D = some (.lst (vs (List.replicate i b)))) ⟨Same.new nD, upd_same⟩ (fun i H' _ p => p.1.seq hq) ?_ ?_
        · rintro i x H' hi ⟨s, hD⟩
          have ilt := (List.getElem?_eq_some_iff.mp hi).1
          refine ⟨hwp x, yes_of (iteT ⟨_, hD, ?_, s.mut nD, ?_⟩)⟩
          · rw [List.length_map, List.length_replicate]
            exact line_lt (by omega)
          · rw [upd_same, List.replicate_succ', vs_snoc]
        · rintro H' ⟨s, hD⟩
          rw [lN] at hD
          exact fin H' s hD
      refine ⟨_, rfl, rw_, rfl, ⟨_, SqL.of hrwA⟩, fun D1 nD1 => const 0 _ HA D1 _ [16] nD1 (SqL.of hrwA) (fun v => rfl) fun HB sB hD1 => ?_⟩
      refine ⟨_, rfl, rw_, rfl, ⟨_, SqL.of (sB _ _ hrwA)⟩, fun D2 nD2 => const 1 _ HB D2 _ [16] nD2 (SqL.of (sB _ _ hrwA)) (fun v => rfl) fun HC sC hD2 => ?_⟩
      refine ⟨by show 2 ≤ sizeLine; decide, fun so nso => ?_⟩
      have sBC := sB.trans sC
      have sN := Same.new (H := HC) (o := .lst [.ref D1, .ref D2]) nso
      have ne1 : D1 ≠ so := ne_of_none (sC _ _ hD1) nso
      have ne2 : D2 ≠ so := ne_of_none hD2 nso
      refine ⟨so, [(D1, List.replicate ask2.length 0), (D2, List.replicate ask2.length 1)], rfl, sBC.newT nso, sBC.free nso, ⟨upd_same, fun z hz => ?_⟩, rfl⟩
      rcases List.mem_cons.mp hz with rfl | hz
      · exact ⟨ne1, sN _ _ (sC _ _ hD1), fun x hx => by rw [List.eq_of_mem_replicate hx]; exact Nat.zero_le 1, List.length_replicate⟩
      · rw [List.mem_singleton.mp hz]
        exact ⟨ne2, sN _ _ hD2, fun x hx => by rw [List.eq_of_mem_replicate hx]; exact Nat.le_refl 1, List.length_replicate⟩
    rintro σ HB ⟨so, bl, rfl, sB, nso, hbl, l2⟩
    -- more rows
    refine ⟨fun σ H' => ∃ (bl : List (Addr × List Nat)) (x11 x12 : Option V), σ = [some (.ref a), some (.ref lb), some (.ref ld), some (.ref lr), some (.ref wk_), some (.ref ra.p), some (.ref rb.p), some (.ref p), some (.ref rw_), some (.ref pw_), some (.ref so), x11, x12, none, none, none, none, none, none] ∧ Same HA H' ∧ BlAt H' so ask2.length bl, ?_, ?_⟩
    · have haB := (sHA.trans sB).seq ha
      refine ⟨_, rfl, _, rfl, _, rfl, a, _, rfl, haB, fun l nl => ?_⟩
      have l90 := cut90 (js.map V.int)
      have lso : l ≠ so := fun z => by
        rw [z, hbl.1] at nl
        cases nl
      have sL := Same.new (H := HB) (o := .lst (cutV (js.map V.int) (some 6) (some 96))) nl
      refine ⟨l, rfl, ⟨_, SqL.of upd_same⟩, for_list (K := K) (a := l) (xs := cutV (js.map V.int) (some 6) (some 96)) (fun i σ H' => ∃ (bl : List (Addr × List Nat)) (x11 x12 : Option V), σ = [some (.ref a), some (.ref lb), some (.ref ld), some (.ref lr), some (.ref wk_), some (.ref ra.p), some (.ref rb.p), some (.ref p), some (.ref rw_), some (.ref pw_), some (.ref so), x11, x12, none, none, none, none, none, none] ∧ Same HA H' ∧ H' l = some (.lst (cutV (js.map V.int) (some 6) (some 96))) ∧ BlAt H' so ask2.length bl ∧ bl.length = 2 + i)
        ⟨bl, none, none, rfl, sB.newT nl, upd_same, ⟨sL _ _ hbl.1, fun z hz => ⟨(hbl.2 z hz).1, sL _ _ (hbl.2 z hz).2.1, (hbl.2 z hz).2.2⟩⟩, l2⟩ (fun i σ H' _ ⟨_, _, _, _, _, hl, _⟩ => SqL.of hl) ?_ ?_⟩
      · rintro i u σ H' hi ⟨bl, x11, x12, rfl, sC, hl, hbl, lbl⟩
        have ilt := (List.getElem?_eq_some_iff.mp hi).1
        obtain ⟨c, _, rfl⟩ := List.mem_map.mp (cut_mem (List.mem_of_getElem? hi))
        obtain ⟨cn, ecn, hcn⟩ := modN c (m := 1000000007) (by decide)
        refine ⟨_, rfl, _, _, rfl, rfl, by show (0 : Int) < 1000000007; decide, cn, 8, congrArg (fun z => [V.int z, V.int 8]) ecn, by omega, by decide, fun nu hnu => ?_⟩
        refine ⟨_, rfl, .inl ⟨rfl, _, SqL.of hbl.1⟩, _, rfl, rw_, _, rfl, .inl (SqL.of (sC _ _ hrwA)), _, rfl, by omega, by rw [lN]; omega, fun D nD => lc_range (lo := 0) (fun j H3 => Same H' H3 ∧ ∃ ms : List Nat, ms.length = j ∧ M1 ms ∧ H3 D = some (.lst (vs ms))) ⟨Same.new nD, [], rfl, nofun, upd_same⟩ ?_ ?_⟩
        · rintro j H3 hj ⟨s3, ms, lms, m1, hD⟩
          have hj : j < ask2.length := by omega
          have e0 : (0 : Int) + (j : Int) = ((j : Nat) : Int) := by omega
          refine ⟨rfl, yes_of (iteT ⟨_, rfl, _, rfl, nu, j, congrArg (fun z => [vN nu, V.int z]) e0, by omega, by omega, fun m2 hm2 => ?_⟩)⟩
          refine ⟨_, _, rfl, rfl, ⟨by decide, by decide⟩, _, _, rfl, rfl, by show (0 : Int) < 2; decide, _, hD, ?_, s3.mut nD, ms ++ [m2 / 8 % 2], ?_, fun x hx => ?_, ?_⟩
          · rw [List.length_map]
            exact line_lt (by omega)
          · rw [List.length_append, lms]
            rfl
          · rcases List.mem_append.mp hx with hx | hx
            · exact m1 x hx
            · rw [List.mem_singleton.mp hx]
              omega
          · rw [upd_same, vs_snoc]
            rfl
        · rintro H3 ⟨s3, ms, lms, m1, hD⟩
          have lms : ms.length = ask2.length := by
            rw [lms]
            omega
          have hso3 := s3 _ _ hbl.1
          have Dso : D ≠ so := fun z => by
            rw [z, hbl.1] at nD
            cases nD
          refine ⟨so, _, _, rfl, rfl, hso3, ?_, bl ++ [(D, ms)], _, _, rfl, (sC.trans s3).mut nso, ?_, ⟨?_, fun z hz => ?_⟩, ?_⟩
          · rw [List.length_map]
            exact line_lt (by omega)
          · rw [upd_ne lso]
            exact s3 _ _ hl
          · rw [upd_same, List.map_append]
            rfl
          · rcases List.mem_append.mp hz with hz | hz
            · obtain ⟨q1, q2, q3⟩ := hbl.2 z hz
              exact ⟨q1, by rw [upd_ne q1]; exact s3 _ _ q2, q3⟩
            · rw [List.mem_singleton.mp hz]
              exact ⟨Dso, by rw [upd_ne Dso]; exact hD, m1, lms⟩
          · rw [List.length_append, lbl]
            rfl
      · rintro σ H' ⟨bl, x11, x12, rfl, sC, hl, hbl, lbl⟩
        exact ⟨bl, x11, x12, rfl, sC, hbl⟩
    clear hbl l2
    rintro σ HC ⟨bl, x11, x12, rfl, sC, hbl⟩
    -- each row
    have r1 : Reads1 (wsOf bs ds) .one ra.t ask2 := AskedOk.reads1 (W := wsOf bs ds) hask2
    have r2 : Reads1 (wsOf bs ds) .other rb.t ask2 := AskedOk.reads2 (W := wsOf bs ds) hask2
    have g64 : ∀ (xs : List Bx), (∀ b ∈ xs, b.k ≤ 64) → ∀ n, bwOf xs n ≤ 64 := fun xs hx n => by
      show (wB xs n).getD 0 ≤ 64
      cases e : wB xs n with
      | none => exact Nat.zero_le _
      | some j =>
        obtain ⟨b, hb, _, rfl⟩ := wB_mem e
        exact hx b hb
    have hpl := asked_place hask2 (g64 bs fun b hb => (bd.bk b hb).2) (g64 ds fun b hb => (bd.dk b hb).2)
    refine ⟨_, rfl, so, rfl, ⟨_, SqL.of hbl.1⟩, for_list (K := K) (a := so) (xs := bl.map fun z => V.ref z.1) (fun i σ H' => ∃ x13 x14 x15 : Option V, σ = [some (.ref a), some (.ref lb), some (.ref ld), some (.ref lr), some (.ref wk_), some (.ref ra.p), some (.ref rb.p), some (.ref p), some (.ref rw_), some (.ref pw_), some (.ref so), x11, x12, x13, x14, x15, none, none, none] ∧ Same HC H') ⟨none, none, none, rfl, Same.refl _⟩ (fun i σ H' _ ⟨_, _, _, _, s⟩ => s.seq (SqL.of hbl.1)) ?_ ?_⟩
    · rintro i u σ HD hi ⟨x13, x14, x15, rfl, sD⟩
      obtain ⟨⟨ba, bits⟩, ebl, rfl⟩ := map_at hi
      obtain ⟨_, hba, mb, lbits⟩ := hbl.2 _ (List.mem_of_getElem? ebl)
      have hbaD : HD ba = some (.lst (vs bits)) := sD _ _ hba
      have sAD := sC.trans sD
      have hpD := sAD _ _ hpA
      have hcD := sAD _ _ hcA
      have hcuD := hcuA.same sAD
      refine ⟨_, rfl, p, _, 1, _, rfl, rfl, SqT.of hpD, rfl, c, rfl, ⟨_, SqL.of hcD⟩, fun F nF => lc_list (K := K) (a := c) (xs := us) (fun i H' => Same HD H' ∧ ∃ ys, H' F = some (.lst ys) ∧ CubeAt H' ys (cov (cs.take i) bits)) ⟨Same.new nF, [], upd_same, Ea.nil⟩ (fun i H' _ p => p.1.seq (SqL.of hcD)) ?_ ?_⟩
      · rintro i u H' hi ⟨s1, ys, hF, cy⟩
        obtain ⟨cb, ec, p1, q1, rfl, hp1, hq1⟩ := hcuD.get hi
        have hp1' := s1 _ _ hp1
        have hq1' := s1 _ _ hq1
        have lys : ys.length ≤ 65 := by
          rw [cy.1]
          have h1 := List.length_filter_le (fun c => pre c.1 bits) (cs.take i)
          rw [List.length_take] at h1
          show (List.filter _ _).length ≤ 65
          omega
        refine ⟨rfl, _, rfl, p1, _, 0, _, rfl, rfl, SqT.of hp1', rfl, q1, _, rfl, .inr (SqT.of hq1'), fun a1 na1 => ?_⟩
        have t1 := Same.new (H := H') (o := .lst (vs cb.1)) na1
        have e1 : (upd H' a1 (.lst (vs cb.1))) a1 = some (.lst (vs cb.1)) := upd_same
        generalize (upd H' a1 (.lst (vs cb.1))) = H2 at t1 e1
        refine ⟨_, rfl, _, rfl, p1, _, 0, _, rfl, rfl, SqT.of (t1 _ _ hp1'), rfl, q1, _, rfl, .inr (SqT.of (t1 _ _ hq1')), _, rfl, ba, _, rfl, SqL.of (t1 _ _ (s1 _ _ hbaD)), fun a2 na2 => ?_⟩
        have ecut : cutV (vs bits) none (some ((vs cb.1).length : Int)) = vs (bits.take cb.1.length) := by
          rw [cutV_take, List.length_map]
          exact List.map_take.symm
        have t2 := Same.new (H := H2) (o := .lst (cutV (vs bits) none (some ((vs cb.1).length : Int)))) na2
        have e2 : (upd H2 a2 (.lst (cutV (vs bits) none (some ((vs cb.1).length : Int))))) a2 = some (.lst (vs (bits.take cb.1.length))) := by
          rw [upd_same, ecut]
        have e1b := t2 _ _ e1
        have t12 := t1.trans t2
        generalize (upd H2 a2 (.lst (cutV (vs bits) none (some ((vs cb.1).length : Int))))) = H3 at t2 e2 e1b t12
        refine ⟨_, _, dp_mD (SqL.of e1b), dp_mD (SqL.of e2), mD_shaped _, mD_shaped _, _, rfl, ?_⟩
        rw [mD_eqv]
        unfold cov
        rw [filter_take_snoc _ ec]
        by_cases h : cb.1 = bits.take cb.1.length
        · rw [decide_eq_true h]
          refine iteT ⟨_, rfl, ys, t12 _ _ hF, line_lt (by omega), (s1.trans t12).mut nF, _, upd_same, ?_⟩
          rw [if_pos (show pre cb.1 bits = true from decide_eq_true h)]
          refine Ea.app (CubeAt.keepL cy t12 hF) (Ea.one ⟨p1, q1, rfl, ?_, ?_⟩)
          · exact keepU t12 hF hp1' nofun
          · exact keepU t12 hF hq1' nofun
        · rw [decide_eq_false h, if_neg (show ¬ pre cb.1 bits = true from fun z => h (of_decide_eq_true z))]
          exact iteF ⟨s1.trans t12, ys, t12 _ _ hF, cy.same t12⟩
      rintro HE ⟨sE, ys, hF, cy⟩
      have lus : us.length = cs.length := hcuD.1
      rw [lus, List.take_length] at cy
      have one : (cov cs bits).length = 1 := by
        have := hcov bits lbits mb
        rw [this]
        rfl
      obtain ⟨c0, ec0⟩ := List.length_eq_one_iff.mp one
      rw [ec0] at cy
      obtain ⟨y0, yr, rfl, ⟨p1, q1, rfl, hp1, hq1⟩, cr⟩ := Ea.uncons cy
      obtain rfl := Ea.nil_of cr
      have c0m : c0 ∈ cov cs bits := by
        rw [ec0]
        exact List.mem_cons_self
      obtain ⟨c0cs, c0p⟩ := List.mem_filter.mp c0m
      have c0p : c0.1 = bits.take c0.1.length := of_decide_eq_true c0p
      obtain ⟨_, _, hgood⟩ := good c0 c0cs
      refine ⟨_, rfl, F, _, rfl, .inl (SqL.of hF), rfl, _, rfl, ?_⟩
      rw [decide_eq_true (by rfl)]
      refine iteF ⟨_, rfl, F, _, 0, _, rfl, rfl, SqL.of hF, rfl, p1, _, 1, _, rfl, rfl, SqT.of hp1, rfl, ?_⟩
      have sAE := sAD.trans sE
      have lsE := lsA.same sAE
      -- the guard that the cube names
      have fin : ∀ (gv : V) (l : S4) (g : Tm) (gp : Addr) (rest : List V), (∀ H', Same HE H' → atI [V.ref ra.p, V.ref rb.p] (c0.2 : Int) = some (.ref gp) ∧ H' gp = some (.tup (rest)) ∧ atI rest 1 = some gv) → (atI [V.str "one", V.str "other"] (c0.2 : Int) = some (.str (s4S l))) → TmAt HE g gv → TmOk (wsOf bs ds) g 1 → Reads1 (wsOf bs ds) l g ask2 → dimA l g ask2 c0.1 = [0] →
          ∀ (D : Ends) (σ : L2.St), σ = [some (.ref a), some (.ref lb), some (.ref ld), some (.ref lr), some (.ref wk_), some (.ref ra.p), some (.ref rb.p), some (.ref p), some (.ref rw_), some (.ref pw_), some (.ref so), x11, x12, some (.ref ba), some (.ref F), some (vN c0.2), none, none, none] → (∀ H', Same HE H' → D.nx σ H') →
          (tIfS (tTest (tCall sp_holds [] E0 (tCons (tOp (rIxT K) (tOp (rIxL K) (tLst (tCons (tVar 5) (tCons (tVar 6) tNil))) (tVar 15)) (tC (.int 1))) (tCons (tVar 9) (tCons (tCall sp_words [] E0 (tCons (tVar 8) (tCons (tVar 13) tNil))) (tCons (tOp (rIxL K) (tLst (tCons (tC (.str "one")) (tCons (tC (.str "other")) tNil))) (tVar 15)) tNil)))))) (tRet (tC (.bl false))) tNext) D σ HE := by
        intro gv l g gp rest hat hat2 htm hok hre h0 D σ eσ nx
        subst eσ
        refine ⟨_, rfl, _, rfl, by show 2 ≤ sizeLine; decide, fun z1 nz1 => ?_⟩
        have v1 := Same.new (H := HE) (o := .lst [.ref ra.p, .ref rb.p]) nz1
        obtain ⟨at1, hg1, at2⟩ := hat _ v1
        refine ⟨_, rfl, z1, _, _, _, rfl, rfl, SqL.of upd_same, at1, gp, _, 1, _, rfl, rfl, SqT.of hg1, at2, ?_⟩
        generalize (upd HE z1 (.lst [.ref ra.p, .ref rb.p])) = HX at v1
        have sX := sAE.trans v1
        refine ⟨_, rfl, _, rfl, _, rfl, rw_, ba, us2, ask2, bits, rfl, sX _ _ hrwA, hauA.same sX, v1 _ _ (sE _ _ hbaD), lbits, mb, l6, hpl, fun r HY sY ⟨wp, dd, er, hfour, hwk⟩ => ?_⟩
        subst er
        refine ⟨by show 2 ≤ sizeLine; decide, fun z2 nz2 => ?_⟩
        have v2 := Same.new (H := HY) (o := .lst [.str "one", .str "other"]) nz2
        have v12 := (v1.trans sY).trans v2
        have sXY := (sX.trans sY).trans v2
        have cubeZ := cube_sound hok.w hre mb lbits c0p h0
        refine ⟨_, rfl, z2, _, _, _, rfl, rfl, SqL.of upd_same, hat2, gv, pw_, di, dq, wp, dd, l, g, wsOf bs ds, (fun s n => wk ask2 bits (s4 l s) n), rfl, TmAt.same v12 htm, hok, ok, sXY _ _ hpw, hdi.same sXY, hdq.same sXY, hfour.same v2, nums_of (hwk.same v2) hre hok.w ok, fit_of hre mb lbits, congrArg (·.2) cubeZ, fun r H2 s2 er => ?_⟩
        subst er
        exact ⟨_, rfl, iteF (nx H2 (v12.trans s2))⟩
      rcases hgood with ⟨z, h0⟩ | ⟨z, h0⟩
      · rw [z] at fin ⊢
        rw [ls.ta] at h0
        exact fin ra.v .one ra.t ra.p _ (fun H' s => ⟨rfl, s _ _ lsE.rls.a1.1, rfl⟩) rfl lsE.rls.a1.2.1 oa r1 h0 _ _ rfl fun H' s => ⟨_, _, _, rfl, (sD.trans sE).trans s⟩
      · rw [z] at fin ⊢
        rw [ls.tb] at h0
        exact fin rb.v .other rb.t rb.p _ (fun H' s => ⟨rfl, s _ _ lsE.rls.a2.1, rfl⟩) rfl lsE.rls.a2.2.1 ob r2 h0 _ _ rfl fun H' s => ⟨_, _, _, rfl, (sD.trans sE).trans s⟩
    · rintro σ H' ⟨x13, x14, x15, rfl, s⟩
      exact q _
end
end K24

set_option Elab.async false
set_option linter.all false
set_option maxRecDepth 100000
set_option maxHeartbeats 0
/-! The text behind its top; the theorem (printed by gen_fin.py). -/
namespace K24
open PySem PySem.Spec PyProof.Rows L2
theorem df_of {K : PySem.W.Frag} {mg : Str → Option Value} {x : Str} {st : Stmt} {ps : List Str} (F : ∃ fd, FnP K x st (He.ga K x) fd) (g : mg x = some (.ref (He.ga K x)))
    (hb : ∀ (kV doc pm : Value) (an : Option Addr) (cdv ct : Value) (us : List Value), us.length = ps.length → bindArgs (PySem.W.fnOf x x (defArgs st) (defBody st) (defScope st) .none kV doc pm an cdv ct) ⟨us, []⟩ = pure (ps.zip us)) : Df K mg x st ps := by
  obtain ⟨fd, F⟩ := F
  have e := fd_eq F
  exact ⟨by rw [e]; exact F, g, by rw [e]; exact F.bindsN hb⟩
section
variable {w : World} {h : Heap} {K : PySem.W.Frag} {mg : Str → Option Value}
theorem t_is_width (KX : K.In h) (G : h.Ns mainGlobals mg) (D : He.SaysD fa fn K) : Df K mg "is_width" s_is_width ["number"] := df_of (D.def_ 0) (He.glo_ok KX G (D.fact 0)) fun _ _ _ _ _ _ us hl => match us, hl with | [_], _ => rfl
theorem t_fits (KX : K.In h) (G : h.Ns mainGlobals mg) (D : He.SaysD fa fn K) : Df K mg "fits" s_fits ["width", "number"] := df_of (D.def_ 1) (He.glo_ok KX G (D.fact 1)) fun _ _ _ _ _ _ us hl => match us, hl with | [_, _], _ => rfl
theorem t_cut (KX : K.In h) (G : h.Ns mainGlobals mg) (D : He.SaysD fa fn K) : Df K mg "cut" s_cut ["width", "number"] := df_of (D.def_ 2) (He.glo_ok KX G (D.fact 2)) fun _ _ _ _ _ _ us hl => match us, hl with | [_, _], _ => rfl
theorem t_bits_of (KX : K.In h) (G : h.Ns mainGlobals mg) (D : He.SaysD fa fn K) : Df K mg "bits_of" s_bits_of ["width", "word"] := df_of (D.def_ 3) (He.glo_ok KX G (D.fact 3)) fun _ _ _ _ _ _ us hl => match us, hl with | [_, _], _ => rfl
theorem t_word_of (KX : K.In h) (G : h.Ns mainGlobals mg) (D : He.SaysD fa fn K) : Df K mg "word_of" s_word_of ["bits"] := df_of (D.def_ 4) (He.glo_ok KX G (D.fact 4)) fun _ _ _ _ _ _ us hl => match us, hl with | [_], _ => rfl
theorem t_dim (KX : K.In h) (G : h.Ns mainGlobals mg) (D : He.SaysD fa fn K) : Df K mg "dim" s_dim ["term", "early", "late", "doors"] := df_of (D.def_ 5) (He.glo_ok KX G (D.fact 5)) fun _ _ _ _ _ _ us hl => match us, hl with | [_, _, _, _], _ => rfl
theorem t_two_dims (KX : K.In h) (G : h.Ns mainGlobals mg) (D : He.SaysD fa fn K) : Df K mg "two_dims" s_two_dims ["form", "one", "other"] := df_of (D.def_ 6) (He.glo_ok KX G (D.fact 6)) fun _ _ _ _ _ _ us hl => match us, hl with | [_, _, _], _ => rfl
theorem t_turned (KX : K.In h) (G : h.Ns mainGlobals mg) (D : He.SaysD fa fn K) : Df K mg "turned" s_turned ["marks"] := df_of (D.def_ 7) (He.glo_ok KX G (D.fact 7)) fun _ _ _ _ _ _ us hl => match us, hl with | [_], _ => rfl
theorem t_and_mark (KX : K.In h) (G : h.Ns mainGlobals mg) (D : He.SaysD fa fn K) : Df K mg "and_mark" s_and_mark ["one", "other"] := df_of (D.def_ 8) (He.glo_ok KX G (D.fact 8)) fun _ _ _ _ _ _ us hl => match us, hl with | [_, _], _ => rfl
theorem t_or_mark (KX : K.In h) (G : h.Ns mainGlobals mg) (D : He.SaysD fa fn K) : Df K mg "or_mark" s_or_mark ["one", "other"] := df_of (D.def_ 9) (He.glo_ok KX G (D.fact 9)) fun _ _ _ _ _ _ us hl => match us, hl with | [_, _], _ => rfl
theorem t_xor_mark (KX : K.In h) (G : h.Ns mainGlobals mg) (D : He.SaysD fa fn K) : Df K mg "xor_mark" s_xor_mark ["one", "other"] := df_of (D.def_ 10) (He.glo_ok KX G (D.fact 10)) fun _ _ _ _ _ _ us hl => match us, hl with | [_, _], _ => rfl
theorem t_carried (KX : K.In h) (G : h.Ns mainGlobals mg) (D : He.SaysD fa fn K) : Df K mg "carried" s_carried ["three"] := df_of (D.def_ 11) (He.glo_ok KX G (D.fact 11)) fun _ _ _ _ _ _ us hl => match us, hl with | [_], _ => rfl
theorem t_summed (KX : K.In h) (G : h.Ns mainGlobals mg) (D : He.SaysD fa fn K) : Df K mg "summed" s_summed ["one", "other", "carry"] := df_of (D.def_ 12) (He.glo_ok KX G (D.fact 12)) fun _ _ _ _ _ _ us hl => match us, hl with | [_, _, _], _ => rfl
theorem t_same_mark (KX : K.In h) (G : h.Ns mainGlobals mg) (D : He.SaysD fa fn K) : Df K mg "same_mark" s_same_mark ["one", "other"] := df_of (D.def_ 13) (He.glo_ok KX G (D.fact 13)) fun _ _ _ _ _ _ us hl => match us, hl with | [_, _], _ => rfl
theorem t_picked (KX : K.In h) (G : h.Ns mainGlobals mg) (D : He.SaysD fa fn K) : Df K mg "picked" s_picked ["mark", "one", "other"] := df_of (D.def_ 14) (He.glo_ok KX G (D.fact 14)) fun _ _ _ _ _ _ us hl => match us, hl with | [_, _, _], _ => rfl
theorem t_inner (KX : K.In h) (G : h.Ns mainGlobals mg) (D : He.SaysD fa fn K) : Df K mg "inner" s_inner ["term"] := df_of (D.def_ 15) (He.glo_ok KX G (D.fact 15)) fun _ _ _ _ _ _ us hl => match us, hl with | [_], _ => rfl
theorem t_size_of (KX : K.In h) (G : h.Ns mainGlobals mg) (D : He.SaysD fa fn K) : Df K mg "size_of" s_size_of ["term"] := df_of (D.def_ 16) (He.glo_ok KX G (D.fact 16)) fun _ _ _ _ _ _ us hl => match us, hl with | [_], _ => rfl
theorem t_width_of (KX : K.In h) (G : h.Ns mainGlobals mg) (D : He.SaysD fa fn K) : Df K mg "width_of" s_width_of ["term", "boxes", "doors"] := df_of (D.def_ 17) (He.glo_ok KX G (D.fact 17)) fun _ _ _ _ _ _ us hl => match us, hl with | [_, _, _], _ => rfl
theorem t_small_width (KX : K.In h) (G : h.Ns mainGlobals mg) (D : He.SaysD fa fn K) : Df K mg "small_width" s_small_width ["term", "boxes", "doors"] := df_of (D.def_ 18) (He.glo_ok KX G (D.fact 18)) fun _ _ _ _ _ _ us hl => match us, hl with | [_, _, _], _ => rfl
theorem t_num_width (KX : K.In h) (G : h.Ns mainGlobals mg) (D : He.SaysD fa fn K) : Df K mg "num_width" s_num_width ["width", "word"] := df_of (D.def_ 19) (He.glo_ok KX G (D.fact 19)) fun _ _ _ _ _ _ us hl => match us, hl with | [_, _], _ => rfl
theorem t_named_width (KX : K.In h) (G : h.Ns mainGlobals mg) (D : He.SaysD fa fn K) : Df K mg "named_width" s_named_width ["name", "widths"] := df_of (D.def_ 20) (He.glo_ok KX G (D.fact 20)) fun _ _ _ _ _ _ us hl => match us, hl with | [_, _], _ => rfl
theorem t_part_width (KX : K.In h) (G : h.Ns mainGlobals mg) (D : He.SaysD fa fn K) : Df K mg "part_width" s_part_width ["low", "many", "width"] := df_of (D.def_ 21) (He.glo_ok KX G (D.fact 21)) fun _ _ _ _ _ _ us hl => match us, hl with | [_, _, _], _ => rfl
theorem t_several_width (KX : K.In h) (G : h.Ns mainGlobals mg) (D : He.SaysD fa fn K) : Df K mg "several_width" s_several_width ["form", "widths"] := df_of (D.def_ 22) (He.glo_ok KX G (D.fact 22)) fun _ _ _ _ _ _ us hl => match us, hl with | [_, _], _ => rfl
theorem t_names_by (KX : K.In h) (G : h.Ns mainGlobals mg) (D : He.SaysD fa fn K) : Df K mg "names_by" s_names_by ["form", "term"] := df_of (D.def_ 23) (He.glo_ok KX G (D.fact 23)) fun _ _ _ _ _ _ us hl => match us, hl with | [_, _], _ => rfl
theorem t_reads (KX : K.In h) (G : h.Ns mainGlobals mg) (D : He.SaysD fa fn K) : Df K mg "reads" s_reads ["term"] := df_of (D.def_ 24) (He.glo_ok KX G (D.fact 24)) fun _ _ _ _ _ _ us hl => match us, hl with | [_], _ => rfl
theorem t_worth (KX : K.In h) (G : h.Ns mainGlobals mg) (D : He.SaysD fa fn K) : Df K mg "worth" s_worth ["term", "widths", "early", "late", "doors"] := df_of (D.def_ 25) (He.glo_ok KX G (D.fact 25)) fun _ _ _ _ _ _ us hl => match us, hl with | [_, _, _, _, _], _ => rfl
theorem t_wide_worth (KX : K.In h) (G : h.Ns mainGlobals mg) (D : He.SaysD fa fn K) : Df K mg "wide_worth" s_wide_worth ["term", "widths", "words"] := df_of (D.def_ 26) (He.glo_ok KX G (D.fact 26)) fun _ _ _ _ _ _ us hl => match us, hl with | [_, _, _], _ => rfl
theorem t_pair_worth (KX : K.In h) (G : h.Ns mainGlobals mg) (D : He.SaysD fa fn K) : Df K mg "pair_worth" s_pair_worth ["form", "one", "other"] := df_of (D.def_ 27) (He.glo_ok KX G (D.fact 27)) fun _ _ _ _ _ _ us hl => match us, hl with | [_, _, _], _ => rfl
theorem t_is_name (KX : K.In h) (G : h.Ns mainGlobals mg) (D : He.SaysD fa fn K) : Df K mg "is_name" s_is_name ["name"] := df_of (D.def_ 28) (He.glo_ok KX G (D.fact 28)) fun _ _ _ _ _ _ us hl => match us, hl with | [_], _ => rfl
theorem t_need_name (KX : K.In h) (G : h.Ns mainGlobals mg) (D : He.SaysD fa fn K) : Df K mg "need_name" s_need_name ["name", "taken"] := df_of (D.def_ 29) (He.glo_ok KX G (D.fact 29)) fun _ _ _ _ _ _ us hl => match us, hl with | [_, _], _ => rfl
theorem t_need_width (KX : K.In h) (G : h.Ns mainGlobals mg) (D : He.SaysD fa fn K) : Df K mg "need_width" s_need_width ["width"] := df_of (D.def_ 30) (He.glo_ok KX G (D.fact 30)) fun _ _ _ _ _ _ us hl => match us, hl with | [_], _ => rfl
theorem t_made (KX : K.In h) (G : h.Ns mainGlobals mg) (D : He.SaysD fa fn K) : Df K mg "made" s_made ["boxes", "doors", "rules"] := df_of (D.def_ 31) (He.glo_ok KX G (D.fact 31)) fun _ _ _ _ _ _ us hl => match us, hl with | [_, _, _], _ => rfl
theorem t_need_writes (KX : K.In h) (G : h.Ns mainGlobals mg) (D : He.SaysD fa fn K) : Df K mg "need_writes" s_need_writes ["writes", "inside", "outside"] := df_of (D.def_ 32) (He.glo_ok KX G (D.fact 32)) fun _ _ _ _ _ _ us hl => match us, hl with | [_, _, _], _ => rfl
theorem t_rule_of (KX : K.In h) (G : h.Ns mainGlobals mg) (D : He.SaysD fa fn K) : Df K mg "rule_of" s_rule_of ["works", "name"] := df_of (D.def_ 33) (He.glo_ok KX G (D.fact 33)) fun _ _ _ _ _ _ us hl => match us, hl with | [_, _], _ => rfl
theorem t_widths_of (KX : K.In h) (G : h.Ns mainGlobals mg) (D : He.SaysD fa fn K) : Df K mg "widths_of" s_widths_of ["works"] := df_of (D.def_ 34) (He.glo_ok KX G (D.fact 34)) fun _ _ _ _ _ _ us hl => match us, hl with | [_], _ => rfl
theorem t_shared_and_alone (KX : K.In h) (G : h.Ns mainGlobals mg) (D : He.SaysD fa fn K) : Df K mg "shared_and_alone" s_shared_and_alone ["one", "other"] := df_of (D.def_ 35) (He.glo_ok KX G (D.fact 35)) fun _ _ _ _ _ _ us hl => match us, hl with | [_, _], _ => rfl
theorem t_bits_down (KX : K.In h) (G : h.Ns mainGlobals mg) (D : He.SaysD fa fn K) : Df K mg "bits_down" s_bits_down ["sort", "names", "widths"] := df_of (D.def_ 36) (He.glo_ok KX G (D.fact 36)) fun _ _ _ _ _ _ us hl => match us, hl with | [_, _, _], _ => rfl
theorem t_asked_bits (KX : K.In h) (G : h.Ns mainGlobals mg) (D : He.SaysD fa fn K) : Df K mg "asked_bits" s_asked_bits ["works", "one", "other"] := df_of (D.def_ 37) (He.glo_ok KX G (D.fact 37)) fun _ _ _ _ _ _ us hl => match us, hl with | [_, _, _], _ => rfl
theorem t_half_known (KX : K.In h) (G : h.Ns mainGlobals mg) (D : He.SaysD fa fn K) : Df K mg "half_known" s_half_known ["asked", "marks"] := df_of (D.def_ 38) (He.glo_ok KX G (D.fact 38)) fun _ _ _ _ _ _ us hl => match us, hl with | [_, _], _ => rfl
theorem t_behind_cube (KX : K.In h) (G : h.Ns mainGlobals mg) (D : He.SaysD fa fn K) : Df K mg "behind_cube" s_behind_cube ["marks"] := df_of (D.def_ 39) (He.glo_ok KX G (D.fact 39)) fun _ _ _ _ _ _ us hl => match us, hl with | [_], _ => rfl
theorem t_filled (KX : K.In h) (G : h.Ns mainGlobals mg) (D : He.SaysD fa fn K) : Df K mg "filled" s_filled ["dims"] := df_of (D.def_ 40) (He.glo_ok KX G (D.fact 40)) fun _ _ _ _ _ _ us hl => match us, hl with | [_], _ => rfl
theorem t_never_both (KX : K.In h) (G : h.Ns mainGlobals mg) (D : He.SaysD fa fn K) : Df K mg "never_both" s_never_both ["works", "one", "other"] := df_of (D.def_ 41) (He.glo_ok KX G (D.fact 41)) fun _ _ _ _ _ _ us hl => match us, hl with | [_, _, _], _ => rfl
theorem t__law_cell (KX : K.In h) (G : h.Ns mainGlobals mg) (D : He.SaysD fa fn K) : Df K mg "_law_cell" s__law_cell ["script", "k"] := df_of (D.def_ 42) (He.glo_ok KX G (D.fact 42)) fun _ _ _ _ _ _ us hl => match us, hl with | [_, _], _ => rfl
theorem t__law_mix (KX : K.In h) (G : h.Ns mainGlobals mg) (D : He.SaysD fa fn K) : Df K mg "_law_mix" s__law_mix ["number", "salt"] := df_of (D.def_ 43) (He.glo_ok KX G (D.fact 43)) fun _ _ _ _ _ _ us hl => match us, hl with | [_, _], _ => rfl
theorem t__law_names (KX : K.In h) (G : h.Ns mainGlobals mg) (D : He.SaysD fa fn K) : Df K mg "_law_names" s__law_names ["number", "many"] := df_of (D.def_ 44) (He.glo_ok KX G (D.fact 44)) fun _ _ _ _ _ _ us hl => match us, hl with | [_, _], _ => rfl
theorem t__law_word (KX : K.In h) (G : h.Ns mainGlobals mg) (D : He.SaysD fa fn K) : Df K mg "_law_word" s__law_word ["number", "width"] := df_of (D.def_ 45) (He.glo_ok KX G (D.fact 45)) fun _ _ _ _ _ _ us hl => match us, hl with | [_, _], _ => rfl
theorem t__law_leaf (KX : K.In h) (G : h.Ns mainGlobals mg) (D : He.SaysD fa fn K) : Df K mg "_law_leaf" s__law_leaf ["number", "width", "boxes", "doors"] := df_of (D.def_ 46) (He.glo_ok KX G (D.fact 46)) fun _ _ _ _ _ _ us hl => match us, hl with | [_, _, _, _], _ => rfl
theorem t__law_guard (KX : K.In h) (G : h.Ns mainGlobals mg) (D : He.SaysD fa fn K) : Df K mg "_law_guard" s__law_guard ["number", "boxes", "doors"] := df_of (D.def_ 47) (He.glo_ok KX G (D.fact 47)) fun _ _ _ _ _ _ us hl => match us, hl with | [_, _, _], _ => rfl
theorem t__law_boxes (KX : K.In h) (G : h.Ns mainGlobals mg) (D : He.SaysD fa fn K) : Df K mg "_law_boxes" s__law_boxes ["script", "wide"] := df_of (D.def_ 48) (He.glo_ok KX G (D.fact 48)) fun _ _ _ _ _ _ us hl => match us, hl with | [_, _], _ => rfl
theorem t__law_early (KX : K.In h) (G : h.Ns mainGlobals mg) (D : He.SaysD fa fn K) : Df K mg "_law_early" s__law_early ["term"] := df_of (D.def_ 49) (He.glo_ok KX G (D.fact 49)) fun _ _ _ _ _ _ us hl => match us, hl with | [_], _ => rfl
theorem t__law_writes (KX : K.In h) (G : h.Ns mainGlobals mg) (D : He.SaysD fa fn K) : Df K mg "_law_writes" s__law_writes ["number", "boxes", "doors"] := df_of (D.def_ 50) (He.glo_ok KX G (D.fact 50)) fun _ _ _ _ _ _ us hl => match us, hl with | [_, _, _], _ => rfl
theorem t__law_pair (KX : K.In h) (G : h.Ns mainGlobals mg) (D : He.SaysD fa fn K) : Df K mg "_law_pair" s__law_pair ["script", "wide"] := df_of (D.def_ 51) (He.glo_ok KX G (D.fact 51)) fun _ _ _ _ _ _ us hl => match us, hl with | [_, _], _ => rfl
theorem t__law_found (KX : K.In h) (G : h.Ns mainGlobals mg) (D : He.SaysD fa fn K) : Df K mg "_law_found" s__law_found ["term", "sort"] := df_of (D.def_ 52) (He.glo_ok KX G (D.fact 52)) fun _ _ _ _ _ _ us hl => match us, hl with | [_, _], _ => rfl
theorem t__law_bits (KX : K.In h) (G : h.Ns mainGlobals mg) (D : He.SaysD fa fn K) : Df K mg "_law_bits" s__law_bits ["sort", "thing"] := df_of (D.def_ 53) (He.glo_ok KX G (D.fact 53)) fun _ _ _ _ _ _ us hl => match us, hl with | [_, _], _ => rfl
theorem t__law_row (KX : K.In h) (G : h.Ns mainGlobals mg) (D : He.SaysD fa fn K) : Df K mg "_law_row" s__law_row ["boxes", "doors", "one", "other"] := df_of (D.def_ 54) (He.glo_ok KX G (D.fact 54)) fun _ _ _ _ _ _ us hl => match us, hl with | [_, _, _, _], _ => rfl
theorem t__law_words (KX : K.In h) (G : h.Ns mainGlobals mg) (D : He.SaysD fa fn K) : Df K mg "_law_words" s__law_words ["row", "bits"] := df_of (D.def_ 55) (He.glo_ok KX G (D.fact 55)) fun _ _ _ _ _ _ us hl => match us, hl with | [_, _], _ => rfl
theorem t__law_widths (KX : K.In h) (G : h.Ns mainGlobals mg) (D : He.SaysD fa fn K) : Df K mg "_law_widths" s__law_widths ["boxes", "doors"] := df_of (D.def_ 56) (He.glo_ok KX G (D.fact 56)) fun _ _ _ _ _ _ us hl => match us, hl with | [_, _], _ => rfl
theorem t__law_holds (KX : K.In h) (G : h.Ns mainGlobals mg) (D : He.SaysD fa fn K) : Df K mg "_law_holds" s__law_holds ["guard", "widths", "words", "late"] := df_of (D.def_ 57) (He.glo_ok KX G (D.fact 57)) fun _ _ _ _ _ _ us hl => match us, hl with | [_, _, _, _], _ => rfl
theorem t__law_cubes (KX : K.In h) (G : h.Ns mainGlobals mg) (D : He.SaysD fa fn K) : Df K mg "_law_cubes" s__law_cubes ["reply"] := df_of (D.def_ 58) (He.glo_ok KX G (D.fact 58)) fun _ _ _ _ _ _ us hl => match us, hl with | [_], _ => rfl
theorem t_law (KX : K.In h) (G : h.Ns mainGlobals mg) (D : He.SaysD fa fn K) : Df K mg "law" s_law ["script"] := df_of (D.def_ 59) (He.glo_ok KX G (D.fact 59)) fun _ _ _ _ _ _ us hl => match us, hl with | [_], _ => rfl
theorem txt_of (KX : K.In h) (G : h.Ns mainGlobals mg) (c : He.SaysX fa fn [] [] leavesB w h K) : Txt K mg :=
  have D := c.t.d
  {
    d_is_width := t_is_width KX G D
    d_fits := t_fits KX G D
    d_cut := t_cut KX G D
    d_bits_of := t_bits_of KX G D
    d_word_of := t_word_of KX G D
    d_dim := t_dim KX G D
    d_two_dims := t_two_dims KX G D
    d_turned := t_turned KX G D
    d_and_mark := t_and_mark KX G D
    d_or_mark := t_or_mark KX G D
    d_xor_mark := t_xor_mark KX G D
    d_carried := t_carried KX G D
    d_summed := t_summed KX G D
    d_same_mark := t_same_mark KX G D
    d_picked := t_picked KX G D
    d_inner := t_inner KX G D
    d_size_of := t_size_of KX G D
    d_width_of := t_width_of KX G D
    d_small_width := t_small_width KX G D
    d_num_width := t_num_width KX G D
    d_named_width := t_named_width KX G D
    d_part_width := t_part_width KX G D
    d_several_width := t_several_width KX G D
    d_names_by := t_names_by KX G D
    d_reads := t_reads KX G D
    d_worth := t_worth KX G D
    d_wide_worth := t_wide_worth KX G D
    d_pair_worth := t_pair_worth KX G D
    d_is_name := t_is_name KX G D
    d_need_name := t_need_name KX G D
    d_need_width := t_need_width KX G D
    d_made := t_made KX G D
    d_need_writes := t_need_writes KX G D
    d_rule_of := t_rule_of KX G D
    d_widths_of := t_widths_of KX G D
    d_shared_and_alone := t_shared_and_alone KX G D
    d_bits_down := t_bits_down KX G D
    d_asked_bits := t_asked_bits KX G D
    d_half_known := t_half_known KX G D
    d_behind_cube := t_behind_cube KX G D
    d_filled := t_filled KX G D
    d_never_both := t_never_both KX G D
    d__law_cell := t__law_cell KX G D
    d__law_mix := t__law_mix KX G D
    d__law_names := t__law_names KX G D
    d__law_word := t__law_word KX G D
    d__law_leaf := t__law_leaf KX G D
    d__law_guard := t__law_guard KX G D
    d__law_boxes := t__law_boxes KX G D
    d__law_early := t__law_early KX G D
    d__law_writes := t__law_writes KX G D
    d__law_pair := t__law_pair KX G D
    d__law_found := t__law_found KX G D
    d__law_bits := t__law_bits KX G D
    d__law_row := t__law_row KX G D
    d__law_words := t__law_words KX G D
    d__law_widths := t__law_widths KX G D
    d__law_holds := t__law_holds KX G D
    d__law_cubes := t__law_cubes KX G D
    d_law := t_law KX G D
    z_bool := He.free_ok KX G (D.fact 61)
    z_int := He.free_ok KX G (D.fact 62)
    z_isinstance := He.free_ok KX G (D.fact 63)
    z_len := He.free_ok KX G (D.fact 64)
    z_list := He.free_ok KX G (D.fact 65)
    z_max := He.free_ok KX G (D.fact 66)
    z_range := He.free_ok KX G (D.fact 67)
    z_reversed := He.free_ok KX G (D.fact 68)
    z_set := He.free_ok KX G (D.fact 69)
    z_sorted := He.free_ok KX G (D.fact 70)
    z_tuple := He.free_ok KX G (D.fact 71)
    c_LEAVES := He.glo_ok KX G (D.fact 72)
    c_MOST_PARTS := He.int_ok KX G (D.fact 73)
    c_MOST_DEEP := He.int_ok KX G (D.fact 74)
    c_MOST_CUBES := He.int_ok KX G (D.fact 75)
    c_LETTERS := He.str_ok KX G (D.fact 76)
    leaves := fun H => He.tupB_ok c.more H }
end
theorem nm79 : (HandSHeadRun.topDef (PySem.W.OpenLaw.row PySem.Challenge.rw_beatwright_k24_whole_cubes_cover).prog 79).name = ("law" : Str) := by kernel_rfl
theorem bindL {K : PySem.W.Frag} {mg : Str → Option Value} (T : Txt K mg) (s : Shared) (u : Value) : BindsTo s (fdOf K "law") { pos := [u] } [(Str.ofString "script", u)] :=
  T.d_law.F.bindsA (ps := ["script"]) (fun _ _ _ _ _ _ us hl => match us, hl with | [_], _ => rfl) s [u] rfl
theorem finL {w : World} {mg : Str → Option Value} {f : Addr} {h : Heap} {K : PySem.W.Frag} (KX : K.In h) (G : h.Ns mainGlobals mg) (c : He.SaysX fa fn [] [] leavesB w h K) (hm : mg "law" = some (Value.ref f)) (P : Program) :
    ∃ K fd sp, K.In h ∧ (∀ (s : Shared) (u : Value), BindsTo s fd { pos := [u] } [(Str.ofString "script", u)]) ∧
        (∀ (H : L2.Hp) (a : Addr) (ns : List Int), ns.length ≤ 63 → L2.Only H → L2.SqL K H a (List.map L2.V.int ns) → sp [L2.V.ref a] H (fun v x => v = L2.V.bl true) fun x x_1 x_2 => False) ∧
          ∀ (base : Heap), K.In base → base.Ns mainGlobals mg → L2.FnOk P w K mg base L2.CX0 40 f fd [Str.ofString "script"] sp := by
  have T := txt_of KX G c
  have efa : f = He.ga K "law" := by
    have g := T.d_law.g
    rw [g] at hm
    injection hm with hm
    injection hm with hm
    exact hm.symm
  subst efa
  exact ⟨K, fdOf K "law", sp_law K, KX, bindL T, fun H a ns _ _ hq => ⟨a, ns, rfl, hq, fun _ => rfl⟩, fun base _ _ => ok_law T⟩
end K24
open PySem PySem.W PySem.Calls PyProof.Rows
theorem PySem.Challenge.cw_beatwright_k24_whole_cubes_cover_holds : PySem.Challenge.rw_beatwright_k24_whole_cubes_cover.Holds := by
  w_on; o_law
  refine HandSHeadRun.head_any (r := OpenLaw.row PySem.Challenge.rw_beatwright_k24_whole_cubes_cover) (q := view (OpenLaw.row PySem.Challenge.rw_beatwright_k24_whole_cubes_cover).prog [79]) (H := K24.hookK) (ob := K24.ob) (M := 4000) (loose := K24.loose) (d := HandSHeadRun.topDef (OpenLaw.row PySem.Challenge.rw_beatwright_k24_whole_cubes_cover).prog 79) (kwd := []) K24.ob_eq
    (by kernel_rfl) (fun s => by kernel_rfl) K24.run (by kernel_rfl) (by kernel_rfl) (by kernel_rfl) (by rfl) (by first | assumption | decide +kernel) (by decide +kernel) ⟨rfl, rfl, rfl, rfl, rfl, by decide +kernel⟩ ?hw ?hc
  case hw => w_witness2
  case hc =>
    refine L2.walk_ofE (l := PySem.Challenge.rw_beatwright_k24_whole_cubes_cover) (n := 63) (k := 40) (x := "script") (CX := L2.CX0) rfl (by decide) (by kernel_rfl) ⟨rfl, by decide, by decide⟩ ?F (fun _ _ _ _ z => z)
    intro w mg fa h Y G hmg0
    obtain ⟨K, KX, c⟩ := Y
    rw [K24.nm79] at hmg0
    exact K24.finL KX G c hmg0 _
