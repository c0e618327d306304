import PyProof.Rows.All
import Wide.All
import OpenK.AllK
import Wide.FinOn
import PyProof.DictTable
import PyProof.Rows.SortShell
import KE.KSortTup
import Open.SpecLaws
import KE.OsGo
import HandS.ForSpec
import HandS.Comp
import HandS.Dict
import HandS.Iter
import HandS.More
import HandS.Rev
import HandS.SortInts
import HandS.SetKeys
import HandS.NoneIn
import HandS.WordsDict
import HandS.Text
import KE.BitLaws
import PySem.Challenge.RW_fencerun_s01_answers
set_option Elab.async false
set_option linter.all false
set_option maxRecDepth 100000
set_option maxHeartbeats 4000000
namespace Fm
open Sb16

/-! ### the table of lengths, decoding by kinds -/
def LENS : List (Nat × Nat) := [(0, 1), (1, 1), (2, 10), (3, 2), (4, 2), (5, 2), (6, 2), (7, 2), (8, 2), (9, 2), (10, 2), (11, 2), (12, 6), (16, 4), (17, 4), (18, 4), (19, 4), (24, 2), (25, 2), (26, 2), (32, 1), (33, 5), (34, 6), (35, 6), (36, 5), (40, 2)]
def lenTab (k : Nat) : Nat := (LENS.lookup k).getD 0
def one (k : Nat) : Bool := [2, 12, 24, 25, 26, 34].contains k
def lenAt (w : Bytes) (i : Nat) : Nat := match decode w i with
  | none => 0
  | some x => x.2
structure WC (w : Bytes) : Prop where
  len : w.length = 65536
  byte : ∀ i, at_ w i < 256
  tail : ∀ i, 65504 ≤ i → at_ w i = 0

def Kinds (k : Nat) : Prop := k = 0 ∨ k = 1 ∨ k = 2 ∨ k = 3 ∨ (4 ≤ k ∧ k ≤ 11) ∨ k = 12 ∨ (k = 16 ∨ k = 17) ∨ (k = 18 ∨ k = 19) ∨ k = 24 ∨ k = 25 ∨ k = 26 ∨ k = 32 ∨ k = 33 ∨ k = 34 ∨ k = 35 ∨ k = 36 ∨ k = 40
instance (k : Nat) : Decidable (Kinds k) := by unfold Kinds; infer_instance
theorem kinds {k : Nat} (h : lenTab k ≠ 0) : Kinds k := by
  by_cases hk : k < 41
  · have : ∀ k, k < 41 → lenTab k ≠ 0 → Kinds k := by decide
    exact this k hk h
  · exfalso
    apply h
    have e : ∀ n : Nat, n ≤ 40 → (k == n) = false := fun n hn => beq_eq_false_iff_ne.mpr (by omega)
    simp [lenTab, LENS, List.lookup, e]
theorem none_of {w : Bytes} {i : Nat} (h : lenTab (at_ w i) = 0) : decode w i = none := by
  have e : ∀ n : Nat, lenTab n ≠ 0 → at_ w i ≠ n := fun n hn q => hn (q ▸ h)
  have r : ¬ (4 ≤ at_ w i ∧ at_ w i ≤ 11) := fun q => by
    have : ∀ k, k ≤ 11 → 4 ≤ k → lenTab k ≠ 0 := by decide
    exact this _ q.2 q.1 h
  unfold decode
  simp only [e 0 (by decide), e 1 (by decide), e 2 (by decide), e 3 (by decide), r, e 12 (by decide), e 16 (by decide), e 17 (by decide), e 18 (by decide), e 19 (by decide), e 24 (by decide), e 25 (by decide), e 26 (by decide), e 32 (by decide), e 33 (by decide), e 34 (by decide), e 35 (by decide), e 36 (by decide), e 40 (by decide), if_false, or_self]

section
variable {w : Bytes} {i : Nat}
theorem d0 (h : at_ w i = 0) : decode w i = some (.halt, 1) := by simp [decode, h]
theorem d1 (h : at_ w i = 1) : decode w i = some (.nop, 1) := by simp [decode, h]
theorem d2 (h : at_ w i = 2) : decode w i = if at_ w (i + 1) < 16 then some (.set (at_ w (i + 1)) (num w (i + 2) 8), 10) else none := by simp [decode, h]
theorem d3 (h : at_ w i = 3) : decode w i = some (.move (at_ w (i + 1) / 16) (at_ w (i + 1) % 16), 2) := by simp [decode, h]
theorem d4 (h : 4 ≤ at_ w i ∧ at_ w i ≤ 11) : decode w i = some (.op (at_ w i - 4) (at_ w (i + 1) / 16) (at_ w (i + 1) % 16), 2) := by
  have e0 : at_ w i ≠ 0 := by omega
  have e1 : at_ w i ≠ 1 := by omega
  have e2 : at_ w i ≠ 2 := by omega
  have e3 : at_ w i ≠ 3 := by omega
  simp [decode, e0, e1, e2, e3, h]
theorem d12 (h : at_ w i = 12) : decode w i = if at_ w (i + 1) < 16 then some (.add (at_ w (i + 1)) (signed 32 (num w (i + 2) 4)), 6) else none := by simp [decode, h]
theorem d16 (h : at_ w i = 16 ∨ at_ w i = 17) : decode w i = some (.load (at_ w i == 17) (at_ w (i + 1) / 16) (at_ w (i + 1) % 16) (signed 16 (num w (i + 2) 2)), 4) := by
  rcases h with h | h <;> simp [decode, h]
theorem d18 (h : at_ w i = 18 ∨ at_ w i = 19) : decode w i = some (.store (at_ w i == 19) (at_ w (i + 1) / 16) (at_ w (i + 1) % 16) (signed 16 (num w (i + 2) 2)), 4) := by
  rcases h with h | h <;> simp [decode, h]
theorem d24 (h : at_ w i = 24) : decode w i = if at_ w (i + 1) < 16 then some (.box 13 (at_ w (i + 1)), 2) else none := by simp [decode, h]
theorem d25 (h : at_ w i = 25) : decode w i = if at_ w (i + 1) < 16 then some (.box 15 (at_ w (i + 1)), 2) else none := by simp [decode, h]
theorem d26 (h : at_ w i = 26) : decode w i = if at_ w (i + 1) < 16 then some (.box 14 (at_ w (i + 1)), 2) else none := by simp [decode, h]
theorem d32 (h : at_ w i = 32) : decode w i = some (.jump, 1) := by simp [decode, h]
theorem d33 (h : at_ w i = 33) : decode w i = some (.go (signed 32 (num w (i + 1) 4)), 5) := by simp [decode, h]
theorem d34 (h : at_ w i = 34) : decode w i = if at_ w (i + 1) < 16 then some (.zero_ (at_ w (i + 1)) (signed 32 (num w (i + 2) 4)), 6) else none := by simp [decode, h]
theorem d35 (h : at_ w i = 35) : decode w i = some (.less (at_ w (i + 1) / 16) (at_ w (i + 1) % 16) (signed 32 (num w (i + 2) 4)), 6) := by simp [decode, h]
theorem d36 (h : at_ w i = 36) : decode w i = some (.call (signed 32 (num w (i + 1) 4)), 5) := by simp [decode, h]
theorem d40 (h : at_ w i = 40) : decode w i = some (.host (at_ w (i + 1)), 2) := by simp [decode, h]

theorem tab_le (k : Nat) : lenTab k ≤ 10 := by
  by_cases h : lenTab k = 0
  · omega
  · rcases kinds h with h | h | h | h | h | h | h | h | h | h | h | h | h | h | h | h | h
    case inr.inr.inr.inr.inl =>
      have : ∀ k, k ≤ 11 → lenTab k ≤ 10 := by decide
      exact this k h.2
    all_goals (first | (subst h; decide) | (rcases h with h | h <;> subst h <;> decide))

/-- **the length** as the program reckons it -/
theorem lenAt_is (W : WC w) (hi : i < 65536) : lenAt w i = if 65536 < i + lenTab (at_ w i) ∨ (one (at_ w i) = true ∧ 16 ≤ at_ w (i + 1)) then 0 else lenTab (at_ w i) := by
  by_cases h0 : lenTab (at_ w i) = 0
  · unfold lenAt
    rw [none_of h0, h0]
    simp
  · have hb : ¬ 65536 < i + lenTab (at_ w i) := by
      by_cases q : i < 65504
      · have := tab_le (at_ w i)
        omega
      · have e := W.tail i (by omega)
        rw [e]
        have : lenTab 0 = 1 := by decide
        omega
    simp only [hb, false_or]
    unfold lenAt
    rcases kinds h0 with h | h | h | h | h | h | h | h | h | h | h | h | h | h | h | h | h
    · rw [d0 h, h]; rfl
    · rw [d1 h, h]; rfl
    · rw [d2 h, h, show one 2 = true from rfl, show lenTab 2 = 10 from rfl]
      by_cases q : at_ w (i + 1) < 16
      · rw [if_pos q, if_neg (fun z => absurd z.2 (by omega))]
      · rw [if_neg q, if_pos ⟨rfl, by omega⟩]
    · rw [d3 h, h]; rfl
    · rw [d4 h]
      have a : ∀ k, k ≤ 11 → 4 ≤ k → one k = false ∧ lenTab k = 2 := by decide
      obtain ⟨a1, a2⟩ := a _ h.2 h.1
      rw [a1, a2]; simp
    · rw [d12 h, h, show one 12 = true from rfl, show lenTab 12 = 6 from rfl]
      by_cases q : at_ w (i + 1) < 16
      · rw [if_pos q, if_neg (fun z => absurd z.2 (by omega))]
      · rw [if_neg q, if_pos ⟨rfl, by omega⟩]
    · rw [d16 h]; rcases h with h | h <;> rw [h] <;> rfl
    · rw [d18 h]; rcases h with h | h <;> rw [h] <;> rfl
    · rw [d24 h, h, show one 24 = true from rfl, show lenTab 24 = 2 from rfl]
      by_cases q : at_ w (i + 1) < 16
      · rw [if_pos q, if_neg (fun z => absurd z.2 (by omega))]
      · rw [if_neg q, if_pos ⟨rfl, by omega⟩]
    · rw [d25 h, h, show one 25 = true from rfl, show lenTab 25 = 2 from rfl]
      by_cases q : at_ w (i + 1) < 16
      · rw [if_pos q, if_neg (fun z => absurd z.2 (by omega))]
      · rw [if_neg q, if_pos ⟨rfl, by omega⟩]
    · rw [d26 h, h, show one 26 = true from rfl, show lenTab 26 = 2 from rfl]
      by_cases q : at_ w (i + 1) < 16
      · rw [if_pos q, if_neg (fun z => absurd z.2 (by omega))]
      · rw [if_neg q, if_pos ⟨rfl, by omega⟩]
    · rw [d32 h, h]; rfl
    · rw [d33 h, h]; rfl
    · rw [d34 h, h, show one 34 = true from rfl, show lenTab 34 = 6 from rfl]
      by_cases q : at_ w (i + 1) < 16
      · rw [if_pos q, if_neg (fun z => absurd z.2 (by omega))]
      · rw [if_neg q, if_pos ⟨rfl, by omega⟩]
    · rw [d35 h, h]; rfl
    · rw [d36 h, h]; rfl
    · rw [d40 h, h]; rfl
end

/-! ### numbers in bytes -/
theorem num_zero (c : Bytes) (i : Nat) : num c i 0 = 0 := rfl
theorem num_succ (c : Bytes) (i n : Nat) : num c i (n + 1) = num c i n + at_ c (i + n) * 256 ^ n := by
  unfold num
  rw [List.range_succ, List.map_append, List.sum_append]
  simp
theorem num_front (c : Bytes) : ∀ (n i : Nat), num c i (n + 1) = at_ c i + 256 * num c (i + 1) n
  | 0, i => by rw [num_succ, num_zero, num_zero]; simp
  | n + 1, i => by
    rw [num_succ, num_front c n i, num_succ c (i + 1) n, Nat.mul_add, Nat.add_assoc, show i + (n + 1) = i + 1 + n by omega, Nat.pow_succ]
    congr 2
    rw [Nat.mul_comm (256 ^ n) 256, ← Nat.mul_assoc, ← Nat.mul_assoc, Nat.mul_comm (at_ c (i + 1 + n)) 256]
theorem num_lt {c : Bytes} (h : ∀ i, at_ c i < 256) (i : Nat) : ∀ n, num c i n < 256 ^ n
  | 0 => by rw [num_zero]; decide
  | n + 1 => by
    rw [num_succ, Nat.pow_succ]
    have a := num_lt h i n
    have b := h (i + n)
    have d : at_ c (i + n) * 256 ^ n ≤ 255 * 256 ^ n := Nat.mul_le_mul_right _ (by omega)
    omega
theorem signed_is {c : Bytes} (h : ∀ i, at_ c i < 256) (i n : Nat) : signed (8 * (n + 1)) (num c i (n + 1)) = if 128 ≤ at_ c (i + n) then (num c i (n + 1) : Int) - (2 : Int) ^ (8 * (n + 1)) else (num c i (n + 1) : Int) := by
  unfold signed
  have p : (2 : Nat) ^ (8 * (n + 1) - 1) = 128 * 256 ^ n := by
    rw [show 8 * (n + 1) - 1 = 7 + 8 * n by omega, Nat.pow_add, Nat.pow_mul]
  have a := num_lt h i n
  rw [num_succ, p]
  by_cases q : 128 ≤ at_ c (i + n)
  · have d : 128 * 256 ^ n ≤ at_ c (i + n) * 256 ^ n := Nat.mul_le_mul_right _ q
    rw [if_pos q, if_neg (by omega)]
  · have d : at_ c (i + n) * 256 ^ n ≤ 127 * 256 ^ n := Nat.mul_le_mul_right _ (by omega)
    rw [if_neg q, if_pos (by omega)]
end Fm

namespace Fm
open Sb16

/-! ### the whole code -/
def wholeOf (c : Bytes) : Bytes := c ++ List.replicate (65536 - c.length) 0
theorem getD_of_lt {α : Type} {l : List α} {i : Nat} {d : α} (h : i < l.length) : l.getD i d = l[i] := by
  rw [List.getD_eq_getElem?_getD, List.getElem?_eq_getElem h]; rfl
theorem getD_of_ge {α : Type} {l : List α} {i : Nat} {d : α} (h : l.length ≤ i) : l.getD i d = d := by
  rw [List.getD_eq_getElem?_getD, List.getElem?_eq_none h]; rfl
theorem at_ge {c : Bytes} {i : Nat} (h : c.length ≤ i) : at_ c i = 0 := getD_of_ge h
theorem at_lt {c : Bytes} {i : Nat} (h : i < c.length) : at_ c i = c[i] := getD_of_lt h
theorem at_get {c : Bytes} {i : Nat} (h : i < c.length) : c[i]? = some (at_ c i) := by rw [at_lt h, List.getElem?_eq_getElem h]
theorem at_append (c d : Bytes) (i : Nat) : at_ (c ++ d) i = if i < c.length then at_ c i else at_ d (i - c.length) := by
  unfold at_
  rw [List.getD_eq_getElem?_getD, List.getD_eq_getElem?_getD, List.getD_eq_getElem?_getD, List.getElem?_append]
  split <;> rfl
theorem at_rep (n i : Nat) : at_ (List.replicate n 0) i = 0 := by
  unfold at_
  rw [List.getD_eq_getElem?_getD, List.getElem?_replicate]
  split <;> rfl
theorem at_whole (c : Bytes) : at_ (wholeOf c) = at_ c := by
  funext i
  unfold wholeOf
  rw [at_append, at_rep]
  split
  · rfl
  · rw [at_ge (by omega)]
theorem num_whole (c : Bytes) : num (wholeOf c) = num c := by
  funext i n
  unfold num
  rw [at_whole]
theorem decode_whole (c : Bytes) : decode (wholeOf c) = decode c := by
  funext i
  unfold decode
  rw [at_whole, num_whole]
theorem step_whole (c : Bytes) (m : Mach) : m.step (wholeOf c) = m.step c := by
  unfold Mach.step
  rw [decode_whole]
theorem steps_whole (c : Bytes) : ∀ (n : Nat) (m : Mach), steps (wholeOf c) n m = steps c n m
  | 0, _ => rfl
  | n + 1, m => by
    unfold steps
    rw [step_whole]
    cases m.step c with
    | on x => exact steps_whole c n x
    | ends a b x => rfl
def Byt (c : Bytes) : Prop := ∀ b ∈ c, b < 256
theorem at_byt {c : Bytes} (h : Byt c) (i : Nat) : at_ c i < 256 := by
  by_cases q : i < c.length
  · rw [at_lt q]
    exact h _ (List.getElem_mem q)
  · rw [at_ge (by omega)]
    decide
theorem wc_whole {c : Bytes} (h : Byt c) (hl : c.length ≤ 65504) : WC (wholeOf c) where
  len := by
    unfold wholeOf
    rw [List.length_append, List.length_replicate]
    omega
  byte := fun i => by
    rw [at_whole]
    exact at_byt h i
  tail := fun i hi => by
    rw [at_whole, at_ge (by omega)]

/-! ### a machine that is well -/
structure WM (m : Mach) : Prop where
  r16 : m.regs.length = 16
  rW : ∀ r ∈ m.regs, r < W
  dl : m.data.length = 65536
  db : Byt m.data
theorem reg_lt {m : Mach} (h : WM m) (r : Nat) : m.reg r < W := by
  unfold Mach.reg
  by_cases q : r < m.regs.length
  · rw [getD_of_lt q]
    exact h.rW _ (List.getElem_mem q)
  · rw [getD_of_ge (by omega)]
    decide
theorem reg_get {m : Mach} (h : WM m) {r : Nat} (hr : r < 16) : m.regs[r]? = some (m.reg r) := by
  have q : r < m.regs.length := by rw [h.r16]; exact hr
  unfold Mach.reg
  rw [getD_of_lt q, List.getElem?_eq_getElem q]
theorem mem_set_of {α : Type} {l : List α} {i : Nat} {x y : α} (h : y ∈ l.set i x) : y ∈ l ∨ y = x := by
  rcases List.mem_or_eq_of_mem_set h with h | h
  · exact .inl h
  · exact .inr h
theorem W_pos : 0 < W := by decide
theorem WM.put {m : Mach} (h : WM m) (r x : Nat) : WM (m.put r x) where
  r16 := by
    show (m.regs.set r (x % W)).length = 16
    rw [List.length_set]
    exact h.r16
  rW := fun y hy => by
    rcases mem_set_of hy with q | q
    · exact h.rW y q
    · rw [q]
      exact Nat.mod_lt _ W_pos
  dl := h.dl
  db := h.db
theorem WM.pc {m : Mach} (h : WM m) (p : Nat) : WM { m with pc := p } := ⟨h.r16, h.rW, h.dl, h.db⟩
theorem patch_len {b l : Bytes} {i : Nat} (h : i + l.length ≤ b.length) : (patch b i l).length = b.length := by
  unfold patch
  rw [List.length_append, List.length_append, List.length_take, List.length_drop]
  omega
theorem byt_patch {b l : Bytes} {i : Nat} (hb : Byt b) (hl : Byt l) : Byt (patch b i l) := fun x hx => by
  unfold patch at hx
  rcases List.mem_append.mp hx with q | q
  · exact hb x (List.mem_of_mem_take q)
  · rcases List.mem_append.mp q with q | q
    · exact hl x q
    · exact hb x (List.mem_of_mem_drop q)
theorem bytesOf_len (n x : Nat) : (bytesOf n x).length = n := by
  unfold bytesOf
  rw [List.length_map, List.length_range]
theorem byt_bytesOf (n x : Nat) : Byt (bytesOf n x) := fun y hy => by
  unfold bytesOf at hy
  obtain ⟨k, _, e⟩ := List.mem_map.mp hy
  rw [← e]
  exact Nat.mod_lt _ (by decide)
/-- one byte more put -/
theorem patch_nil (b : Bytes) (i : Nat) : patch b i [] = b := by
  unfold patch
  simp
theorem patch_more {b l : Bytes} {i x : Nat} (h : i + l.length < b.length) : patch b i (l ++ [x]) = (patch b i l).set (i + l.length) x := by
  have h1 : (b.take i).length = i := by rw [List.length_take]; omega
  unfold patch
  rw [List.set_append_right _ _ (by rw [h1]; omega), h1, List.set_append_right _ _ (by omega), show i + l.length - i - l.length = 0 by omega]
  have h2 : b.drop (i + l.length) = b[i + l.length] :: b.drop (i + l.length + 1) := by rw [List.drop_eq_getElem_cons h]
  rw [h2]
  simp [Nat.add_assoc]
theorem at_set {l : Bytes} {i x j : Nat} (h : i < l.length) : at_ (l.set i x) j = if j = i then x else at_ l j := by
  unfold at_
  rw [List.getD_eq_getElem?_getD, List.getD_eq_getElem?_getD, List.getElem?_set]
  by_cases e : j = i
  · subst e
    rw [if_pos rfl, if_pos rfl, if_pos h]
    rfl
  · rw [if_neg (fun q => e q.symm), if_neg e]
end Fm

namespace Fm
open Sb16
/-! ### what the helpers reckon -/
def firstOf (w : Bytes) (i : Nat) : Nat := if one (at_ w i) = true then at_ w (i + 1) else at_ w (i + 1) / 16
def goes (k : Nat) : Bool := [33, 34, 35, 36].contains k
def toldAt (w : Bytes) (i : Nat) : Int := ((i + lenTab (at_ w i) : Nat) : Int) + signed 32 (num w (i + lenTab (at_ w i) - 4) 4)
def faultAt (w : Bytes) (i : Nat) : Nat := match decode w i with
  | none => 1
  | some x => ((⟨i, x.1, x.2⟩ : Seen).fault).getD 0
def begsGo (w : Bytes) (many : Nat) : Nat → Nat → List Nat → List Nat × Nat × Nat
  | 0, i, l => (l, i, 0)
  | f + 1, i, l => if i < many then (if faultAt w i ≠ 0 then (l, i, faultAt w i) else begsGo w many f (i + lenAt w i) (l ++ [i])) else (l, i, 0)
def begs (w : Bytes) (many : Nat) : List Nat × Nat × Nat := begsGo w many (many + 1) 0 []
def strays (w : Bytes) (ps : List Nat) (e : Nat) (p : Nat) : Bool := goes (at_ w p) && (!(ps.any fun q => decide ((q : Int) = toldAt w p)) && (decide (toldAt w p < (e : Int)) || decide ((65536 : Int) ≤ toldAt w p)))
def lookAns (w : Bytes) (many : Nat) : List Int :=
  if (begs w many).2.2 ≠ 0 then [((begs w many).2.2 : Int), ((begs w many).2.1 : Int)]
  else match (begs w many).1.find? (strays w (begs w many).1 (begs w many).2.1) with
    | some p => [5, (p : Int)]
    | none => [0]
/-- what stood at the places that were written: those of ks -/
structure BK (d0 d ks : Bytes) : Prop where
  nd : ks.Nodup
  lt : ∀ k ∈ ks, k < 65536
  out : ∀ i, i ∉ ks → at_ d i = at_ d0 i
def rk (k x y : Nat) : Int := if k = 3 then y else if k = 4 then (x : Int) + y else if k = 5 then (x : Int) - y else if k = 6 then (x : Int) * y else if k = 7 then (x &&& y : Nat) else if k = 8 then (x ||| y : Nat) else if k = 9 then (x ^^^ y : Nat)
  else if k = 10 then (x * 2 ^ (y % 64) : Nat) else (x / 2 ^ (y % 64) : Nat)
/-- what an instruction that goes on behind itself makes of the machine -/
def eff (m : Mach) : Ins → Mach
  | .set a n => m.put a n
  | .move a b => m.put a (m.reg b)
  | .op o a b => m.put a (binOp o (m.reg a) (m.reg b))
  | .add a n => m.put a (wrapped (m.reg a) n)
  | .box r b => m.put r (boxed r (m.reg b))
  | _ => m
def ended : Stand → Nat × Nat × Mach
  | .on m => (5, 0, m)
  | .ends a b m => (a, b, m)
theorem num_cut {c : Bytes} {i m : Nat} (h : ∀ k, m ≤ k → at_ c (i + k) = 0) : ∀ d, num c i (m + d) = num c i m
  | 0 => rfl
  | d + 1 => by
    rw [← Nat.add_assoc, num_succ, h (m + d) (by omega), num_cut h d]
    omega
theorem num_min (c : Bytes) (i n : Nat) : num c i (min n (c.length - i)) = num c i n := by
  have q := num_cut (c := c) (i := i) (m := min n (c.length - i)) (d := n - min n (c.length - i))
  by_cases h : n ≤ c.length - i
  · rw [Nat.min_eq_left h]
  · have e : min n (c.length - i) + (n - min n (c.length - i)) = n := by omega
    rw [e] at q
    exact (q fun k hk => at_ge (by omega)).symm
theorem num_rev (w : Bytes) (i n k : Nat) (h : k < n) : num w (i + (n - (k + 1))) (k + 1) = at_ w (i + (n - 1 - k)) + 256 * num w (i + (n - k)) k := by
  rw [num_front, show n - (k + 1) = n - 1 - k by omega, show i + (n - 1 - k) + 1 = i + (n - k) by omega]
theorem lens_lookup (k : Nat) : ((LENS.map fun p => ((p.1 : Int), (p.2 : Int))).lookup (k : Int)) = (LENS.lookup k).map fun (x : Nat) => (x : Int) := by
  generalize LENS = L
  induction L with
  | nil => rfl
  | cons p r ih =>
    obtain ⟨a, b⟩ := p
    rw [List.map_cons]
    by_cases h : k = a
    · subst h
      simp [List.lookup]
    · have h1 : (k == a) = false := beq_eq_false_iff_ne.mpr h
      have h2 : ((k : Int) == (a : Int)) = false := beq_eq_false_iff_ne.mpr (by omega)
      simp only [List.lookup, h1, h2]
      exact ih
theorem lens_get (k : Nat) : ((LENS.map fun p => ((p.1 : Int), (p.2 : Int))).lookup (k : Int)).getD 0 = ((lenTab k : Nat) : Int) := by
  rw [lens_lookup]
  unfold lenTab
  cases LENS.lookup k <;> rfl
theorem one_iff (k : Nat) : one k = true ↔ (k : Int) ∈ ([2, 12, 24, 25, 26, 34] : List Int) := by
  unfold one
  simp
  omega
theorem goes_iff (k : Nat) : goes k = true ↔ (k : Int) ∈ ([33, 34, 35, 36] : List Int) := by
  unfold goes
  simp
  omega
theorem goes_tab {k : Nat} (h : goes k = true) : 5 ≤ lenTab k ∧ lenTab k ≤ 6 ∧ LENS.lookup k = some (lenTab k) ∧ k ≠ 0 := by
  have : k = 33 ∨ k = 34 ∨ k = 35 ∨ k = 36 := by
    unfold goes at h
    simp at h
    omega
  rcases this with h | h | h | h <;> subst h <;> decide
theorem wc_lt {w : Bytes} (W : WC w) {i : Nat} (h : at_ w i ≠ 0) : i < 65504 := by
  by_cases q : i < 65504
  · exact q
  · exact absurd (W.tail i (by omega)) h
theorem lenAt_le {w : Bytes} (W : WC w) {i : Nat} (hi : i < 65536) : lenAt w i ≤ 10 := by
  rw [lenAt_is W hi]
  split
  · omega
  · exact tab_le _
/-- what an instruction's length tells -/
theorem lenAt_pos {w : Bytes} (W : WC w) {i : Nat} (hi : i < 65536) (h : lenAt w i ≠ 0) : lenAt w i = lenTab (at_ w i) ∧ lenTab (at_ w i) ≠ 0 ∧ ∃ x, decode w i = some x ∧ x.2 = lenAt w i := by
  have e := lenAt_is W hi
  refine ⟨?_, ?_, ?_⟩
  · rw [e] at h ⊢
    split
    · rename_i q
      rw [if_pos q] at h
      exact absurd rfl h
    · rfl
  · intro z
    rw [e, z] at h
    simp at h
  · unfold lenAt at h ⊢
    cases q : decode w i with
    | none =>
      rw [q] at h
      exact absurd rfl h
    | some x => exact ⟨x, rfl, rfl⟩
theorem lenAt_zero {w : Bytes} (W : WC w) {i : Nat} (hi : i < 65536) (h : lenAt w i = 0) : decode w i = none := by
  cases q : decode w i with
  | none => rfl
  | some x =>
    have h2 : lenTab (at_ w i) ≠ 0 := fun z => by
      rw [none_of z] at q
      cases q
    rw [lenAt_is W hi] at h
    split at h
    · rename_i r
      rcases r with r | ⟨r1, r2⟩
      · by_cases z : i < 65504
        · have := tab_le (at_ w i)
          omega
        · have e := W.tail i (by omega)
          rw [e] at r
          have : lenTab 0 = 1 := by decide
          omega
      · exfalso
        have hk : at_ w i = 2 ∨ at_ w i = 12 ∨ at_ w i = 24 ∨ at_ w i = 25 ∨ at_ w i = 26 ∨ at_ w i = 34 := by
          unfold one at r1
          simp at r1
          omega
        have nl : ¬ at_ w (i + 1) < 16 := by omega
        rcases hk with k | k | k | k | k | k
        · rw [d2 k, if_neg nl] at q; cases q
        · rw [d12 k, if_neg nl] at q; cases q
        · rw [d24 k, if_neg nl] at q; cases q
        · rw [d25 k, if_neg nl] at q; cases q
        · rw [d26 k, if_neg nl] at q; cases q
        · rw [d34 k, if_neg nl] at q; cases q
    · exact absurd h h2
end Fm

namespace Fm
open Sb16
/-! ### what's found of one instruction -/
def sets (k : Nat) : Bool := [2, 3, 4, 5, 6, 7, 8, 9, 10, 11, 12, 16, 17].contains k
def reaches (k : Nat) : Bool := [16, 17, 18, 19].contains k
theorem sets_iff (k : Nat) : sets k = true ↔ (k : Int) ∈ ([2, 3, 4, 5, 6, 7, 8, 9, 10, 11, 12, 16, 17] : List Int) := by
  unfold sets
  simp
  omega
theorem reaches_iff (k : Nat) : reaches k = true ↔ (k : Int) ∈ ([16, 17, 18, 19] : List Int) := by
  unfold reaches
  simp
  omega
theorem kept_iff (k : Nat) : (13 ≤ k ∧ k ≤ 15) ↔ (k : Int) ∈ ([13, 14, 15] : List Int) := by
  simp
  omega
theorem fenced_iff (k : Nat) : (k = 13 ∨ k = 15) ↔ (k : Int) ∈ ([13, 15] : List Int) := by
  simp
  omega
section
variable {w : Bytes} {i : Nat} {x : Ins × Nat}
theorem firstOf_lt (W : WC w) : firstOf w i < 16 ∨ one (at_ w i) = true := by
  unfold firstOf
  have := W.byte (i + 1)
  by_cases h : one (at_ w i) = true
  · exact .inr h
  · rw [if_neg h]
    exact .inl (by omega)
theorem both (W : WC w) (hd : decode w i = some x) :
    ((x.1.writes.any fun r => decide (13 ≤ r)) = true ↔ (sets (at_ w i) = true ∧ 13 ≤ firstOf w i ∧ firstOf w i ≤ 15)) ∧
    ((x.1.base.any fun r => !(r == 13 || r == 15)) = true ↔ (reaches (at_ w i) = true ∧ ¬ (at_ w (i + 1) % 16 = 13 ∨ at_ w (i + 1) % 16 = 15))) := by
  have hb := W.byte (i + 1)
  have h0 : lenTab (at_ w i) ≠ 0 := fun z => by
    rw [none_of z] at hd
    cases hd
  unfold firstOf
  rcases kinds h0 with h | h | h | h | h | h | h | h | h | h | h | h | h | h | h | h | h
  · rw [d0 h] at hd; cases hd; rw [h]; simp [Ins.writes, Ins.base, sets, reaches]
  · rw [d1 h] at hd; cases hd; rw [h]; simp [Ins.writes, Ins.base, sets, reaches]
  · rw [d2 h] at hd
    split at hd
    · cases hd; rw [h]; simp [Ins.writes, Ins.base, sets, reaches, one]; omega
    · cases hd
  · rw [d3 h] at hd; cases hd; rw [h]; simp [Ins.writes, Ins.base, sets, reaches, one]; omega
  · rw [d4 h] at hd; cases hd
    have a : ∀ k, k ≤ 11 → 4 ≤ k → sets k = true ∧ reaches k = false ∧ one k = false := by decide
    obtain ⟨a1, a2, a3⟩ := a _ h.2 h.1
    rw [a1, a2, a3]
    simp [Ins.writes, Ins.base]; omega
  · rw [d12 h] at hd
    split at hd
    · cases hd; rw [h]; simp [Ins.writes, Ins.base, sets, reaches, one]; omega
    · cases hd
  · rw [d16 h] at hd; cases hd
    have a1 : sets (at_ w i) = true := by rcases h with h | h <;> rw [h] <;> rfl
    have a2 : reaches (at_ w i) = true := by rcases h with h | h <;> rw [h] <;> rfl
    have a3 : one (at_ w i) = false := by rcases h with h | h <;> rw [h] <;> rfl
    rw [a1, a2, a3]
    simp [Ins.writes, Ins.base]; omega
  · rw [d18 h] at hd; cases hd
    have a1 : sets (at_ w i) = false := by rcases h with h | h <;> rw [h] <;> rfl
    have a2 : reaches (at_ w i) = true := by rcases h with h | h <;> rw [h] <;> rfl
    rw [a1, a2]
    simp [Ins.writes, Ins.base]
  · rw [d24 h] at hd
    split at hd
    · cases hd; rw [h]; simp [Ins.writes, Ins.base, sets, reaches, one]
    · cases hd
  · rw [d25 h] at hd
    split at hd
    · cases hd; rw [h]; simp [Ins.writes, Ins.base, sets, reaches, one]
    · cases hd
  · rw [d26 h] at hd
    split at hd
    · cases hd; rw [h]; simp [Ins.writes, Ins.base, sets, reaches, one]
    · cases hd
  · rw [d32 h] at hd; cases hd; rw [h]; simp [Ins.writes, Ins.base, sets, reaches]
  · rw [d33 h] at hd; cases hd; rw [h]; simp [Ins.writes, Ins.base, sets, reaches]
  · rw [d34 h] at hd
    split at hd
    · cases hd; rw [h]; simp [Ins.writes, Ins.base, sets, reaches, one]
    · cases hd
  · rw [d35 h] at hd; cases hd; rw [h]; simp [Ins.writes, Ins.base, sets, reaches]
  · rw [d36 h] at hd; cases hd; rw [h]; simp [Ins.writes, Ins.base, sets, reaches]
  · rw [d40 h] at hd; cases hd; rw [h]; simp [Ins.writes, Ins.base, sets, reaches]
theorem fault_is (W : WC w) (hi : i < 65536) (h : lenAt w i ≠ 0) : faultAt w i = if i / 32 ≠ (i + lenAt w i - 1) / 32 then 2 else if (sets (at_ w i) = true ∧ 13 ≤ firstOf w i ∧ firstOf w i ≤ 15) then 3
    else if (reaches (at_ w i) = true ∧ ¬ (at_ w (i + 1) % 16 = 13 ∨ at_ w (i + 1) % 16 = 15)) then 4 else 0 := by
  obtain ⟨_, _, x, hx, hl⟩ := lenAt_pos W hi h
  obtain ⟨b1, b2⟩ := both W hx
  unfold faultAt
  rw [hx]
  show ((⟨i, x.1, x.2⟩ : Seen).fault).getD 0 = _
  unfold Seen.fault
  rw [hl]
  show (if i / 32 ≠ (i + lenAt w i - 1) / 32 then some 2 else _ : Option Nat).getD 0 = _
  by_cases c1 : i / 32 ≠ (i + lenAt w i - 1) / 32
  · rw [if_pos c1, if_pos c1]; rfl
  · rw [if_neg c1, if_neg c1]
    by_cases c2 : (sets (at_ w i) = true ∧ 13 ≤ firstOf w i ∧ firstOf w i ≤ 15)
    · rw [if_pos c2, if_pos (b1.mpr c2)]; rfl
    · rw [if_neg c2, if_neg (fun z => c2 (b1.mp z))]
      by_cases c3 : (reaches (at_ w i) = true ∧ ¬ (at_ w (i + 1) % 16 = 13 ∨ at_ w (i + 1) % 16 = 15))
      · rw [if_pos c3, if_pos (b2.mpr c3)]; rfl
      · rw [if_neg c3, if_neg (fun z => c3 (b2.mp z))]; rfl
theorem fault_none (W : WC w) (hi : i < 65536) (h : lenAt w i = 0) : faultAt w i = 1 := by
  unfold faultAt
  rw [lenAt_zero W hi h]
/-- where nothing is found, it has its length -/
theorem fault_len (W : WC w) (hi : i < 65536) (h : faultAt w i = 0) : 1 ≤ lenAt w i := by
  by_cases z : lenAt w i = 0
  · rw [fault_none W hi z] at h
    cases h
  · omega
end
theorem begsGo_lt {w : Bytes} {many : Nat} : ∀ (f i : Nat) (l : List Nat), (∀ p ∈ l, p < many) → ∀ p ∈ (begsGo w many f i l).1, p < many
  | 0, _, l, h => h
  | f + 1, i, l, h => by
    unfold begsGo
    by_cases c : i < many
    · rw [if_pos c]
      by_cases d : faultAt w i ≠ 0
      · rw [if_pos d]
        exact h
      · rw [if_neg d]
        refine begsGo_lt f _ _ fun p hp => ?_
        rcases List.mem_append.mp hp with q | q
        · exact h p q
        · rw [List.mem_singleton.mp q]
          exact c
    · rw [if_neg c]
      exact h
theorem begs_lt {w : Bytes} {many : Nat} : ∀ p ∈ (begs w many).1, p < many := begsGo_lt _ _ _ fun p hp => absurd hp (by simp)
theorem mem_take_more {l : List Nat} {i x : Nat} (h : l[i]? = some x) (y : Nat) : y ∈ l.take (i + 1) ↔ y ∈ l.take i ∨ y = x := by
  rw [List.take_add_one, h]
  simp
theorem find_first {l : List Nat} {g : Nat → Bool} {i x : Nat} (h : l[i]? = some x) (hx : g x = true) (ha : ∀ q ∈ l.take i, g q = false) : l.find? g = some x := by
  rw [List.find?_eq_some_iff_append]
  obtain ⟨hi, e⟩ := List.getElem?_eq_some_iff.mp h
  refine ⟨hx, l.take i, l.drop (i + 1), ?_, fun a m => by rw [ha a m]; rfl⟩
  rw [← e, ← List.drop_eq_getElem_cons hi, List.take_append_drop]
theorem begsGo_len {w : Bytes} {many : Nat} : ∀ (f i : Nat) (l : List Nat), (begsGo w many f i l).1.length ≤ l.length + f
  | 0, i, l => Nat.le_refl _
  | f + 1, i, l => by
    unfold begsGo
    by_cases c : i < many
    · rw [if_pos c]
      by_cases d : faultAt w i ≠ 0
      · rw [if_pos d]
        exact Nat.le_add_right _ _
      · rw [if_neg d]
        have := begsGo_len (w := w) (many := many) f (i + lenAt w i) (l ++ [i])
        rw [List.length_append, List.length_singleton] at this
        omega
    · rw [if_neg c]
      exact Nat.le_add_right _ _
theorem begs_len (w : Bytes) (many : Nat) : (begs w many).1.length ≤ many + 1 := by
  have := begsGo_len (w := w) (many := many) (many + 1) 0 []
  rw [List.length_nil, Nat.zero_add] at this
  exact this
end Fm

namespace Fm
open Sb16
/-! ### the fence -/
theorem reached_is (x n : Nat) : reached x n = if 4294967296 ≤ x ∧ x + n ≤ 4295032832 then 0 else if 4294901760 ≤ x ∧ x + n ≤ 4295098368 then 2 else 3 := by
  unfold reached DATA SIZE FENCE
  have e : (2 : Nat) ^ 32 = 4294967296 := by decide
  rw [e]
  have c1 : (4294967296 ≤ x ∧ x + n ≤ 4294967296 + 65536) ↔ (4294967296 ≤ x ∧ x + n ≤ 4295032832) := by omega
  have c2 : (4294967296 ≤ x + 65536 ∧ x + n ≤ 4294967296 + 65536 + 65536) ↔ (4294901760 ≤ x ∧ x + n ≤ 4295098368) := by omega
  simp only [c1, c2]
/-! ### memory: what was put, where -/
theorem at_patch_nil (d : Bytes) (i : Nat) : patch d i [] = d := patch_nil d i
theorem take_more {α : Type} {l : List α} {i : Nat} {x : α} (h : l[i]? = some x) : l.take (i + 1) = l.take i ++ [x] := by
  rw [List.take_add_one, h]
  rfl
theorem BK.put {d0 d ks : Bytes} {p x : Nat} (h : BK d0 d ks) (hp : p < d.length) (h6 : p < 65536) : BK d0 (d.set p x) (if p ∈ ks then ks else ks ++ [p]) := by
  by_cases c : p ∈ ks
  · rw [if_pos c]
    refine ⟨h.nd, h.lt, fun i hi => ?_⟩
    rw [at_set hp, if_neg (fun e => hi (by rw [e]; exact c))]
    exact h.out i hi
  · rw [if_neg c]
    refine ⟨List.nodup_append.mpr ⟨h.nd, by simp, fun a ha b hb e => ?_⟩, fun k hk => ?_, fun i hi => ?_⟩
    · rw [List.mem_singleton] at hb
      exact c (by rw [← hb, ← e]; exact ha)
    · rcases List.mem_append.mp hk with q | q
      · exact h.lt k q
      · rw [List.mem_singleton.mp q]
        exact h6
    · have n1 : i ∉ ks := fun q => hi (List.mem_append.mpr (.inl q))
      have n2 : i ≠ p := fun q => hi (List.mem_append.mpr (.inr (List.mem_singleton.mpr q)))
      rw [at_set hp, if_neg n2]
      exact h.out i n1
theorem nodup_le : ∀ (n : Nat) (l : List Nat), l.Nodup → (∀ k ∈ l, k < n) → l.length ≤ n
  | 0, l, _, h => by
    cases l with
    | nil => exact Nat.le_refl _
    | cons a r => exact absurd (h a (List.mem_cons_self ..)) (by omega)
  | n + 1, l, hn, h => by
    by_cases c : n ∈ l
    · have e := List.length_erase_of_mem c
      have i := nodup_le n (l.erase n) (hn.erase n) fun k hk => by
        have h1 := h k (List.mem_of_mem_erase hk)
        have h2 : k ≠ n := fun z => by
          subst z
          exact absurd hk hn.not_mem_erase
        omega
      have := List.length_pos_of_mem c
      omega
    · have i := nodup_le n l hn fun k hk => by
        have h1 := h k hk
        have h2 : k ≠ n := fun z => c (by rw [← z]; exact hk)
        omega
      omega
theorem BK.len {d0 d ks : Bytes} (h : BK d0 d ks) : ks.length ≤ 65536 := nodup_le _ _ h.nd h.lt
/-- two rising lists with the same members are one -/
theorem rising_eq : ∀ {l m : List Nat}, l.Pairwise (· < ·) → m.Pairwise (· < ·) → (∀ x, x ∈ l ↔ x ∈ m) → l = m
  | [], [], _, _, _ => rfl
  | [], b :: m, _, _, h => absurd ((h b).mpr (List.mem_cons_self ..)) (by simp)
  | a :: l, [], _, _, h => absurd ((h a).mp (List.mem_cons_self ..)) (by simp)
  | a :: l, b :: m, hl, hm, h => by
    obtain ⟨l1, l2⟩ := List.pairwise_cons.mp hl
    obtain ⟨m1, m2⟩ := List.pairwise_cons.mp hm
    have e : a = b := by
      have h1 := (h a).mp (List.mem_cons_self ..)
      have h2 := (h b).mpr (List.mem_cons_self ..)
      rcases List.mem_cons.mp h1 with q | q
      · exact q
      · rcases List.mem_cons.mp h2 with r | r
        · exact r.symm
        · have := m1 a q
          have := l1 b r
          omega
    subst e
    rw [rising_eq l2 m2 fun x => ⟨fun q => ?_, fun q => ?_⟩]
    · rcases List.mem_cons.mp ((h x).mp (List.mem_cons_of_mem _ q)) with r | r
      · have := l1 x q
        omega
      · exact r
    · rcases List.mem_cons.mp ((h x).mpr (List.mem_cons_of_mem _ q)) with r | r
      · have := m1 x q
        omega
      · exact r
theorem differ_get (a b : Bytes) (hab : a.length = b.length) (hb : b.length = 65536) (x : Nat) (hx : x < 65536) : ((a.zip b).zipIdx)[x]? = some ((at_ a x, at_ b x), x) := by
  have z : (a.zip b)[x]? = some (at_ a x, at_ b x) := List.getElem?_zip_eq_some.mpr ⟨at_get (c := a) (i := x) (by omega), at_get (c := b) (i := x) (by omega)⟩
  rw [List.getElem?_zipIdx, z]
  simp
theorem differ_mem (a b : Bytes) (hab : a.length = b.length) (hb : b.length = 65536) (x : Nat) : x ∈ (Sb16Neutral.differ a b).map Prod.fst ↔ x < 65536 ∧ at_ a x ≠ at_ b x := by
  unfold Sb16Neutral.differ
  rw [List.map_map]
  constructor
  · intro h
    obtain ⟨y, hy, e⟩ := List.mem_map.mp h
    obtain ⟨h1, h2⟩ := List.mem_filter.mp hy
    obtain ⟨j, hj⟩ := List.mem_iff_getElem?.mp h1
    have lj : j < 65536 := by
      have := (List.getElem?_eq_some_iff.mp hj).1
      rw [List.length_zipIdx, List.length_zip] at this
      omega
    rw [differ_get a b hab hb j lj] at hj
    cases hj
    have e' : j = x := e
    subst e'
    refine ⟨lj, ?_⟩
    simpa using h2
  · rintro ⟨h1, h2⟩
    refine List.mem_map.mpr ⟨((at_ a x, at_ b x), x), List.mem_filter.mpr ⟨List.mem_iff_getElem?.mpr ⟨x, differ_get a b hab hb x h1⟩, ?_⟩, rfl⟩
    simpa using h2
theorem differ_rising (a b : Bytes) : ((Sb16Neutral.differ a b).map Prod.fst).Pairwise (· < ·) := by
  unfold Sb16Neutral.differ
  rw [List.map_map]
  refine List.pairwise_map.mpr ((List.Pairwise.filter _ ?_))
  have h : ((a.zip b).zipIdx.map Prod.snd).Pairwise (· < ·) := by
    rw [List.zipIdx_map_snd]
    exact List.pairwise_lt_range'
  exact List.pairwise_map.mp h
theorem differ_snd (a b : Bytes) (hab : a.length = b.length) (hb : b.length = 65536) : Sb16Neutral.differ a b = ((Sb16Neutral.differ a b).map Prod.fst).map fun x => (x, at_ b x) := by
  rw [List.map_map]
  refine (List.map_id _).symm.trans (List.map_congr_left fun y hy => ?_)
  unfold Sb16Neutral.differ at hy
  obtain ⟨z, hz, e⟩ := List.mem_map.mp hy
  obtain ⟨j, hj⟩ := List.mem_iff_getElem?.mp (List.mem_filter.mp hz).1
  have lj : j < 65536 := by
    have := (List.getElem?_eq_some_iff.mp hj).1
    rw [List.length_zipIdx, List.length_zip] at this
    omega
  rw [differ_get a b hab hb j lj] at hj
  cases hj
  rw [← e]
  rfl
/-- **what changed**: the places that were written, sorted, those that are other ones now -/
theorem changed_is {d0 d ks : Bytes} (h : BK d0 d ks) (hd : d.length = 65536) (h0 : d0.length = 65536) {ys : List Nat} (hp : ∀ x, x ∈ ys ↔ x ∈ ks) (hs : ys.Pairwise (· < ·)) :
    ys.filter (fun x => decide (at_ d x ≠ at_ d0 x)) = (Sb16Neutral.differ d0 d).map Prod.fst := by
  refine rising_eq (hs.filter _) (differ_rising _ _) fun x => ?_
  rw [differ_mem d0 d (by omega) hd, List.mem_filter, hp]
  constructor
  · rintro ⟨h1, h2⟩
    have h3 : at_ d x ≠ at_ d0 x := by simpa using h2
    exact ⟨h.lt x h1, fun e => h3 e.symm⟩
  · rintro ⟨h1, h2⟩
    have h3 : at_ d x ≠ at_ d0 x := fun e => h2 e.symm
    refine ⟨?_, by simpa using h3⟩
    by_cases c : x ∈ ks
    · exact c
    · exact absurd (h.out x c) h3
end Fm

namespace Fm
open Sb16
/-! ### the machine's arithmetic -/
theorem Wv : W = 18446744073709551616 := by decide
theorem put_mod (m : Mach) (r x : Nat) : m.put r (x % W) = m.put r x := by
  unfold Mach.put
  rw [Nat.mod_mod]
theorem toNat_mod (z : Nat) : (((z : Int) % 18446744073709551616).toNat) = z % W := by
  rw [Wv]
  omega
theorem put_nat (m : Mach) (r z : Nat) : m.put r (((z : Int) % 18446744073709551616).toNat) = m.put r z := by
  rw [toNat_mod, put_mod]
theorem put_wrapped (m : Mach) (r x : Nat) (n : Int) : m.put r ((((x : Int) + n) % 18446744073709551616).toNat) = m.put r (wrapped x n) := by
  unfold wrapped
  rw [Wv]
  rfl
theorem wrapped_lt (x : Nat) (n : Int) : wrapped x n < W := by
  unfold wrapped
  rw [Wv]
  omega
/-- what instructions from 3 to 11 make -/
theorem put_rk (m : Mach) (r k x y : Nat) (h3 : 4 ≤ k) (h11 : k ≤ 11) (hx : x < W) (hy : y < W) : m.put r ((rk k x y % 18446744073709551616).toNat) = m.put r (binOp (k - 4) x y) := by
  have hk : k = 4 ∨ k = 5 ∨ k = 6 ∨ k = 7 ∨ k = 8 ∨ k = 9 ∨ k = 10 ∨ k = 11 := by omega
  have nat : ∀ z : Nat, rk k x y = (z : Int) → binOp (k - 4) x y = z → m.put r ((rk k x y % 18446744073709551616).toNat) = m.put r (binOp (k - 4) x y) := fun z h1 h2 => by
    rw [h1, h2, put_nat]
  rcases hk with h | h | h | h | h | h | h | h <;> subst h
  · exact nat (x + y) rfl rfl
  · have e : ((rk 5 x y % 18446744073709551616).toNat) = (x + W - y) % W := by
      show (((x : Int) - (y : Int)) % 18446744073709551616).toNat = _
      rw [Wv] at *
      omega
    rw [e, put_mod]
    rfl
  · exact nat (x * y) (by show (x : Int) * (y : Int) = _; rw [Int.natCast_mul]) rfl
  · exact nat (x &&& y) rfl rfl
  · exact nat (x ||| y) rfl rfl
  · exact nat (x ^^^ y) rfl rfl
  · exact nat (x * 2 ^ (y % 64)) rfl rfl
  · exact nat (x / 2 ^ (y % 64)) rfl rfl
theorem put_rk3 (m : Mach) (r x y : Nat) : m.put r ((rk 3 x y % 18446744073709551616).toNat) = m.put r y := by
  show m.put r (((y : Int) % 18446744073709551616).toNat) = _
  rw [put_nat]
theorem DATAv : DATA = 4294967296 := by decide
theorem CODEv : CODE = 8589934592 := by decide
theorem reached0 {x n : Nat} (h : reached x n = 0) : 4294967296 ≤ x ∧ x + n ≤ 4295032832 := by
  rw [reached_is] at h
  split at h
  · assumption
  · split at h <;> cases h
theorem boxed13 (x : Nat) : boxed 13 x = 4294967296 + x % 65536 := by
  unfold boxed
  rw [if_neg (by decide), DATAv]
  rfl
theorem boxed15 (x : Nat) : boxed 15 x = 4294967296 + x % 65536 := by
  unfold boxed
  rw [if_neg (by decide), DATAv]
  rfl
theorem boxed14 (x : Nat) : boxed 14 x = 8589934592 + x % 65536 / 32 * 32 := by
  unfold boxed
  rw [if_pos rfl, CODEv]
  rfl
theorem mach_eta (m : Mach) : ({ m with pc := m.pc } : Mach) = m := rfl
theorem to_in {m : Mach} {z : Int} (h0 : 0 ≤ z) (h1 : z < 65536) : m.to z = .on { m with pc := z.toNat } := by
  unfold Mach.to
  rw [if_pos ⟨h0, by rw [show (LEN : Nat) = 65536 from rfl]; exact h1⟩]
theorem to_out {m : Mach} {z : Int} (h : ¬ (0 ≤ z ∧ z < 65536)) : m.to z = .ends 4 0 m := by
  unfold Mach.to
  rw [if_neg (fun q => h ⟨q.1, q.2⟩)]
/-- bytes fall within the code -/
theorem next_lt {w : Bytes} (Wc : WC w) {i : Nat} (hi : i < 65536) {x : Ins × Nat} (h : decode w i = some x) : i + x.2 ≤ 65536 := by
  have hl : lenAt w i = x.2 := by
    unfold lenAt
    rw [h]
  by_cases z : at_ w i = 0
  · rw [d0 z] at h
    cases h
    show i + 1 ≤ 65536
    omega
  · have := wc_lt Wc z
    have := lenAt_le Wc hi
    omega
/-- which instruction, by its first byte -/
theorem ins_of {w : Bytes} {i : Nat} {x : Ins} {n : Nat} (h : decode w i = some (x, n)) :
    (at_ w i = 0 → x = .halt ∧ n = 1) ∧ (at_ w i = 1 → x = .nop ∧ n = 1) ∧ (at_ w i = 2 → x = .set (at_ w (i + 1)) (num w (i + 2) 8) ∧ n = 10 ∧ at_ w (i + 1) < 16) ∧
    (at_ w i = 3 → x = .move (at_ w (i + 1) / 16) (at_ w (i + 1) % 16) ∧ n = 2) ∧ (4 ≤ at_ w i ∧ at_ w i ≤ 11 → x = .op (at_ w i - 4) (at_ w (i + 1) / 16) (at_ w (i + 1) % 16) ∧ n = 2) ∧
    (at_ w i = 12 → x = .add (at_ w (i + 1)) (signed 32 (num w (i + 2) 4)) ∧ n = 6 ∧ at_ w (i + 1) < 16) ∧
    (at_ w i = 16 ∨ at_ w i = 17 → x = .load (at_ w i == 17) (at_ w (i + 1) / 16) (at_ w (i + 1) % 16) (signed 16 (num w (i + 2) 2)) ∧ n = 4) ∧
    (at_ w i = 18 ∨ at_ w i = 19 → x = .store (at_ w i == 19) (at_ w (i + 1) / 16) (at_ w (i + 1) % 16) (signed 16 (num w (i + 2) 2)) ∧ n = 4) ∧
    (at_ w i = 24 → x = .box 13 (at_ w (i + 1)) ∧ n = 2 ∧ at_ w (i + 1) < 16) ∧ (at_ w i = 25 → x = .box 15 (at_ w (i + 1)) ∧ n = 2 ∧ at_ w (i + 1) < 16) ∧ (at_ w i = 26 → x = .box 14 (at_ w (i + 1)) ∧ n = 2 ∧ at_ w (i + 1) < 16) ∧
    (at_ w i = 32 → x = .jump ∧ n = 1) ∧ (at_ w i = 33 → x = .go (signed 32 (num w (i + 1) 4)) ∧ n = 5) ∧ (at_ w i = 34 → x = .zero_ (at_ w (i + 1)) (signed 32 (num w (i + 2) 4)) ∧ n = 6 ∧ at_ w (i + 1) < 16) ∧
    (at_ w i = 35 → x = .less (at_ w (i + 1) / 16) (at_ w (i + 1) % 16) (signed 32 (num w (i + 2) 4)) ∧ n = 6) ∧ (at_ w i = 36 → x = .call (signed 32 (num w (i + 1) 4)) ∧ n = 5) ∧ (at_ w i = 40 → x = .host (at_ w (i + 1)) ∧ n = 2) := by
  refine ⟨fun k => ?_, fun k => ?_, fun k => ?_, fun k => ?_, fun k => ?_, fun k => ?_, fun k => ?_, fun k => ?_, fun k => ?_, fun k => ?_, fun k => ?_, fun k => ?_, fun k => ?_, fun k => ?_, fun k => ?_, fun k => ?_, fun k => ?_⟩
  · rw [d0 k] at h; cases h; exact ⟨rfl, rfl⟩
  · rw [d1 k] at h; cases h; exact ⟨rfl, rfl⟩
  · rw [d2 k] at h
    split at h
    · cases h; exact ⟨rfl, rfl, by assumption⟩
    · cases h
  · rw [d3 k] at h; cases h; exact ⟨rfl, rfl⟩
  · rw [d4 k] at h; cases h; exact ⟨rfl, rfl⟩
  · rw [d12 k] at h
    split at h
    · cases h; exact ⟨rfl, rfl, by assumption⟩
    · cases h
  · rw [d16 k] at h; cases h; exact ⟨rfl, rfl⟩
  · rw [d18 k] at h; cases h; exact ⟨rfl, rfl⟩
  · rw [d24 k] at h
    split at h
    · cases h; exact ⟨rfl, rfl, by assumption⟩
    · cases h
  · rw [d25 k] at h
    split at h
    · cases h; exact ⟨rfl, rfl, by assumption⟩
    · cases h
  · rw [d26 k] at h
    split at h
    · cases h; exact ⟨rfl, rfl, by assumption⟩
    · cases h
  · rw [d32 k] at h; cases h; exact ⟨rfl, rfl⟩
  · rw [d33 k] at h; cases h; exact ⟨rfl, rfl⟩
  · rw [d34 k] at h
    split at h
    · cases h; exact ⟨rfl, rfl, by assumption⟩
    · cases h
  · rw [d35 k] at h; cases h; exact ⟨rfl, rfl⟩
  · rw [d36 k] at h; cases h; exact ⟨rfl, rfl⟩
  · rw [d40 k] at h; cases h; exact ⟨rfl, rfl⟩
theorem first_half {w : Bytes} {i : Nat} (h : one (at_ w i) = false) : firstOf w i = at_ w (i + 1) / 16 := by
  unfold firstOf
  rw [h]
  rfl
theorem first_whole {w : Bytes} {i : Nat} (h : one (at_ w i) = true) : firstOf w i = at_ w (i + 1) := by
  unfold firstOf
  rw [h]
  rfl
theorem kind_in {w : Bytes} {i : Nat} {x : Ins × Nat} (h : decode w i = some x) : Kinds (at_ w i) := kinds fun z => by
  rw [none_of z] at h
  cases h
def wd (k : Nat) : Nat := if k = 17 ∨ k = 19 then 8 else 1
theorem does_load {k : Nat} (h : k = 16 ∨ k = 17) (m : Mach) (r b : Nat) (d : Int) (nx : Nat) : m.does (.load (k == 17) r b d) nx =
    if reached (wrapped (m.reg b) d) (wd k) = 0 then (m.put r (num m.data (wrapped (m.reg b) d - 4294967296) (wd k))).to (nx : Int) else .ends (reached (wrapped (m.reg b) d) (wd k)) (wrapped (m.reg b) d) m := by
  rcases h with h | h <;> subst h <;> (unfold Mach.does; rw [DATAv]; rfl)
theorem does_store {k : Nat} (h : k = 18 ∨ k = 19) (m : Mach) (r b : Nat) (d : Int) (nx : Nat) : m.does (.store (k == 19) r b d) nx =
    if reached (wrapped (m.reg b) d) (wd k) = 0 then ({ m with data := patch m.data (wrapped (m.reg b) d - 4294967296) (bytesOf (wd k) (m.reg r)) } : Mach).to (nx : Int) else .ends (reached (wrapped (m.reg b) d) (wd k)) (wrapped (m.reg b) d) m := by
  rcases h with h | h <;> subst h <;> (unfold Mach.does; rw [DATAv]; rfl)
theorem wrapped_int (x : Nat) (n : Int) : ((x : Int) + n) % 18446744073709551616 = ((wrapped x n : Nat) : Int) := by
  unfold wrapped
  rw [Wv]
  omega
theorem eff_to {m : Mach} {i : Ins} {nx : Nat} (h : (∃ a n, i = .set a n) ∨ (∃ a b, i = .move a b) ∨ (∃ o a b, i = .op o a b) ∨ (∃ a n, i = .add a n) ∨ (∃ r b, i = .box r b) ∨ i = .nop) : m.does i nx = (eff m i).to (nx : Int) := by
  rcases h with ⟨a, n, rfl⟩ | ⟨a, b, rfl⟩ | ⟨o, a, b, rfl⟩ | ⟨a, n, rfl⟩ | ⟨r, b, rfl⟩ | rfl <;> rfl
theorem does_jump (m : Mach) (nx : Nat) : m.does .jump nx = m.to ((m.reg 14 : Int) - 8589934592) := by
  show (if CODE ≤ m.reg 14 then m.to ((m.reg 14 - CODE : Nat) : Int) else .ends 4 0 m) = _
  rw [CODEv]
  by_cases c : 8589934592 ≤ m.reg 14
  · rw [if_pos c]
    congr 1
    omega
  · rw [if_neg c, to_out (by omega)]
theorem told_is {w : Bytes} {i n : Nat} (h : lenTab (at_ w i) = n) : toldAt w i = ((i + n : Nat) : Int) + signed 32 (num w (i + n - 4) 4) := by
  unfold toldAt
  rw [h]
theorem eff_pc (m : Mach) (i : Ins) : (eff m i).pc = m.pc := by
  cases i <;> rfl
end Fm

namespace Fm
open Sb16
/-! ### the code looked at: the program's way and the document's -/
def Dec (c : Bytes) (S : List Seen) : Prop := ∀ s ∈ S, decode c s.at_ = some (s.ins, s.len)
theorem scan_step {c : Bytes} {F i : Nat} {S : List Seen} {x : Ins × Nat} (hi : i < 65536) (hd : decode c i = some x) : scan c (F + 1) i S = (match (⟨i, x.1, x.2⟩ : Seen).fault with
    | some k => .error (i, k)
    | none => scan c F (i + x.2) (⟨i, x.1, x.2⟩ :: S)) := by
  rw [scan, if_neg (by show ¬ 65536 ≤ i; omega), hd]
  rfl
theorem scan_none {c : Bytes} {F i : Nat} {S : List Seen} (hi : i < 65536) (hd : decode c i = none) : scan c (F + 1) i S = .error (i, 1) := by
  rw [scan, if_neg (by show ¬ 65536 ≤ i; omega), hd]
theorem scan_end {c : Bytes} {F i : Nat} {S : List Seen} (hi : 65536 ≤ i) : scan c F i S = .ok S.reverse := by
  cases F with
  | zero => rfl
  | succ F => rw [scan, if_pos (by show 65536 ≤ i; exact hi)]
section
variable {c : Bytes} (hb : Byt c) (hl : c.length ≤ 65504)
include hb hl
theorem begs_scan : ∀ (f i : Nat) (l : List Nat) (S : List Seen) (F : Nat), i ≤ 65536 → c.length + 1 ≤ f + i → 65537 ≤ F + i → S.reverse.map (·.at_) = l → Dec c S →
    ((begsGo (wholeOf c) c.length f i l).2.2 ≠ 0 → scan c F i S = .error ((begsGo (wholeOf c) c.length f i l).2.1, (begsGo (wholeOf c) c.length f i l).2.2)) ∧
    ((begsGo (wholeOf c) c.length f i l).2.2 = 0 → ∃ (S' : List Seen) (F' : Nat), 65537 ≤ F' + (begsGo (wholeOf c) c.length f i l).2.1 ∧ scan c F i S = scan c F' (begsGo (wholeOf c) c.length f i l).2.1 S' ∧
      S'.reverse.map (·.at_) = (begsGo (wholeOf c) c.length f i l).1 ∧ Dec c S' ∧ c.length ≤ (begsGo (wholeOf c) c.length f i l).2.1 ∧ (begsGo (wholeOf c) c.length f i l).2.1 ≤ 65536)
  | 0, i, l, S, F, h1, h2, h3, h4, h5 => by
    refine ⟨fun z => absurd rfl z, fun _ => ⟨S, F, h3, rfl, h4, h5, ?_, h1⟩⟩
    show c.length ≤ i
    omega
  | f + 1, i, l, S, F, h1, h2, h3, h4, h5 => by
    have W := wc_whole hb hl
    unfold begsGo
    by_cases q : i < c.length
    · rw [if_pos q]
      have hi : i < 65536 := by omega
      obtain ⟨F, rfl⟩ : ∃ G, F = G + 1 := ⟨F - 1, by omega⟩
      have dw : decode (wholeOf c) i = decode c i := congrFun (decode_whole c) i
      cases hd : decode c i with
      | none =>
        have e : faultAt (wholeOf c) i = 1 := by
          unfold faultAt
          rw [dw, hd]
        rw [e, if_pos (by decide)]
        exact ⟨fun _ => scan_none hi hd, fun z => absurd z (show ¬ (1 : Nat) = 0 by decide)⟩
      | some x =>
        have e : faultAt (wholeOf c) i = ((⟨i, x.1, x.2⟩ : Seen).fault).getD 0 := by
          unfold faultAt
          rw [dw, hd]
        have en : lenAt (wholeOf c) i = x.2 := by
          unfold lenAt
          rw [dw, hd]
        have nl := next_lt W hi (dw.trans hd)
        rw [scan_step hi hd, e]
        cases hf : (⟨i, x.1, x.2⟩ : Seen).fault with
        | some k =>
          have k0 : k ≠ 0 := by
            unfold Seen.fault at hf
            intro z
            subst z
            split at hf
            · cases hf
            · split at hf
              · cases hf
              · split at hf <;> cases hf
          rw [if_pos (show (some k).getD 0 ≠ 0 from k0)]
          exact ⟨fun _ => rfl, fun z => absurd z k0⟩
        | none =>
          have e0 : faultAt (wholeOf c) i = 0 := by rw [e, hf]; rfl
          have ln := fault_len W hi e0
          rw [if_neg (show ¬ (none : Option Nat).getD 0 ≠ 0 from fun z => z rfl), en]
          refine begs_scan f (i + x.2) (l ++ [i]) (⟨i, x.1, x.2⟩ :: S) F nl (by omega) (by omega) ?_ ?_
          · rw [List.reverse_cons, List.map_append, h4]
            rfl
          · intro s hs
            rcases List.mem_cons.mp hs with z | z
            · rw [z]
              exact hd
            · exact h5 s z
    · rw [if_neg q]
      refine ⟨fun z => absurd rfl z, fun _ => ⟨S, F, h3, rfl, h4, h5, ?_, h1⟩⟩
      show c.length ≤ i
      omega
def halts (e n : Nat) : List Seen := (List.range' e n).map fun i => ⟨i, .halt, 1⟩
omit hb hl in
theorem halt_fault (i : Nat) : (⟨i, .halt, 1⟩ : Seen).fault = none := by
  unfold Seen.fault
  rw [if_neg (by show ¬ i / BUNDLE ≠ (i + 1 - 1) / BUNDLE; rw [Nat.add_sub_cancel]; exact fun z => z rfl)]
  rfl
omit hb hl in
theorem scan_halts : ∀ (n e F : Nat) (S : List Seen), e + n = 65536 → 65537 ≤ F + e → c.length ≤ e → scan c F e S = .ok (S.reverse ++ halts e n)
  | 0, e, F, S, h1, h2, h3 => by
    rw [scan_end (by omega)]
    unfold halts
    simp
  | n + 1, e, F, S, h1, h2, h3 => by
    obtain ⟨F, rfl⟩ : ∃ G, F = G + 1 := ⟨F - 1, by omega⟩
    have hd : decode c e = some (.halt, 1) := d0 (at_ge h3)
    rw [scan_step (by omega) hd, halt_fault]
    show scan c F (e + 1) _ = _
    rw [scan_halts n (e + 1) F _ (by omega) (by omega) (by omega)]
    unfold halts
    rw [List.range'_succ]
    simp
end
/-- where an instruction may go on to, as the program tells it -/
theorem target_is {c : Bytes} (hb : Byt c) (hl : c.length ≤ 65504) {s : Seen} (hd : decode c s.at_ = some (s.ins, s.len)) : s.target = if goes (at_ (wholeOf c) s.at_) = true then some (toldAt (wholeOf c) s.at_) else none := by
  rw [at_whole]
  unfold toldAt
  rw [at_whole, num_whole]
  obtain ⟨i, x, n⟩ := s
  have hd : decode c i = some (x, n) := hd
  show (x.far.map fun z => ((i + n : Nat) : Int) + z) = if goes (at_ c i) = true then some (((i + lenTab (at_ c i) : Nat) : Int) + signed 32 (num c (i + lenTab (at_ c i) - 4) 4)) else none
  have h0 : lenTab (at_ c i) ≠ 0 := fun z => by
    rw [none_of z] at hd
    cases hd
  obtain ⟨i0, i1, i2, i3, i4, i12, i16, i18, i24, i25, i26, i32, i33, i34, i35, i36, i40⟩ := ins_of hd
  have no : ∀ {y : Ins}, x = y → y.far = none → goes (at_ c i) = false → (x.far.map fun z => ((i + n : Nat) : Int) + z) = if goes (at_ c i) = true then some (((i + lenTab (at_ c i) : Nat) : Int) + signed 32 (num c (i + lenTab (at_ c i) - 4) 4)) else none := fun h1 h2 h3 => by
    rw [h1, h2, h3]
    rfl
  rcases kinds h0 with h | h | h | h | h | h | h | h | h | h | h | h | h | h | h | h | h
  · exact no (i0 h).1 rfl (by rw [h]; rfl)
  · exact no (i1 h).1 rfl (by rw [h]; rfl)
  · exact no (i2 h).1 rfl (by rw [h]; rfl)
  · exact no (i3 h).1 rfl (by rw [h]; rfl)
  · refine no (i4 h).1 rfl ?_
    have : ∀ k, k ≤ 11 → goes k = false := by decide
    exact this _ h.2
  · exact no (i12 h).1 rfl (by rw [h]; rfl)
  · refine no (i16 h).1 rfl ?_
    rcases h with h | h <;> rw [h] <;> rfl
  · refine no (i18 h).1 rfl ?_
    rcases h with h | h <;> rw [h] <;> rfl
  · exact no (i24 h).1 rfl (by rw [h]; rfl)
  · exact no (i25 h).1 rfl (by rw [h]; rfl)
  · exact no (i26 h).1 rfl (by rw [h]; rfl)
  · exact no (i32 h).1 rfl (by rw [h]; rfl)
  · obtain ⟨hx, hn⟩ := i33 h
    rw [hx, hn, h]
    show some (((i + 5 : Nat) : Int) + signed 32 (num c (i + 1) 4)) = some (((i + 5 : Nat) : Int) + signed 32 (num c (i + 5 - 4) 4))
    rw [show i + 5 - 4 = i + 1 by omega]
  · obtain ⟨hx, hn, _⟩ := i34 h
    rw [hx, hn, h]
    show some (((i + 6 : Nat) : Int) + signed 32 (num c (i + 2) 4)) = some (((i + 6 : Nat) : Int) + signed 32 (num c (i + 6 - 4) 4))
    rw [show i + 6 - 4 = i + 2 by omega]
  · obtain ⟨hx, hn⟩ := i35 h
    rw [hx, hn, h]
    show some (((i + 6 : Nat) : Int) + signed 32 (num c (i + 2) 4)) = some (((i + 6 : Nat) : Int) + signed 32 (num c (i + 6 - 4) 4))
    rw [show i + 6 - 4 = i + 2 by omega]
  · obtain ⟨hx, hn⟩ := i36 h
    rw [hx, hn, h]
    show some (((i + 5 : Nat) : Int) + signed 32 (num c (i + 1) 4)) = some (((i + 5 : Nat) : Int) + signed 32 (num c (i + 5 - 4) 4))
    rw [show i + 5 - 4 = i + 1 by omega]
  · exact no (i40 h).1 rfl (by rw [h]; rfl)
def bad (l : List Seen) (s : Seen) : Bool := s.target.any fun (z : Int) => !l.any fun (t : Seen) => ((t.at_ : Nat) : Int) == z
def after (l : List Seen) : Except (Nat × Nat) (List Seen) := match l.find? (bad l) with
  | some s => .error (s.at_, 5)
  | none => .ok l
theorem checked_is (c : Bytes) : checked c = (scan c 65537 0 []).bind after := rfl
def lookTold (x : Except (Nat × Nat) (List Seen)) : List Int := match x with
  | .ok _ => [0]
  | .error x => [(x.2 : Int), (x.1 : Int)]
/-- **what check answers** -/
theorem look_is {c : Bytes} (hb : Byt c) (hl : c.length ≤ 65504) : lookTold (checked c) = lookAns (wholeOf c) c.length ∧ ∀ x, checked c = .error x → 0 < x.2 := by
  obtain ⟨h1, h2⟩ := begs_scan hb hl (c.length + 1) 0 [] [] 65537 (by omega) (by omega) (by omega) rfl (fun s hs => absurd hs (by simp))
  rw [checked_is]
  unfold lookAns begs
  generalize begsGo (wholeOf c) c.length (c.length + 1) 0 [] = B at h1 h2
  obtain ⟨ps, e, k⟩ := B
  dsimp only at h1 h2 ⊢
  by_cases hk : k ≠ 0
  · rw [if_pos hk, h1 hk]
    refine ⟨rfl, fun x hx => ?_⟩
    have : (.error (e, k) : Except (Nat × Nat) (List Seen)) = .error x := hx
    cases this
    show 0 < k
    omega
  · have hk : k = 0 := by omega
    obtain ⟨S, F, g1, g2, g3, g4, g5, g6⟩ := h2 hk
    rw [if_neg (fun z => z hk), g2, scan_halts (65536 - e) e F S (by omega) g1 g5]
    show lookTold (after (S.reverse ++ halts e (65536 - e))) = _ ∧ ∀ x, after (S.reverse ++ halts e (65536 - e)) = .error x → 0 < x.2
    have hfind : (S.reverse ++ halts e (65536 - e)).find? (bad (S.reverse ++ halts e (65536 - e))) = S.reverse.find? fun s => strays (wholeOf c) ps e s.at_ := by
      rw [List.find?_append]
      have hh : (halts e (65536 - e)).find? (bad (S.reverse ++ halts e (65536 - e))) = none := by
        rw [List.find?_eq_none]
        intro s hs
        unfold halts at hs
        obtain ⟨i, _, hi⟩ := List.mem_map.mp hs
        rw [← hi]
        intro z
        cases z
      rw [hh, Option.or_none]
      have cong : ∀ (l : List Seen) (f g : Seen → Bool), (∀ s ∈ l, f s = g s) → l.find? f = l.find? g := fun l f g h => by
        induction l with
        | nil => rfl
        | cons a r ih =>
          rw [List.find?_cons, List.find?_cons, h a (List.mem_cons_self ..), ih fun s hs => h s (List.mem_cons_of_mem _ hs)]
      refine cong _ _ _ fun s hs => ?_
      have hd := g4 s (List.mem_reverse.mp hs)
      unfold bad
      rw [target_is hb hl hd]
      unfold strays
      cases hg : goes (at_ (wholeOf c) s.at_) with
      | false => rfl
      | true =>
        rw [if_pos rfl, Option.any_some, Bool.true_and]
        generalize toldAt (wholeOf c) s.at_ = z
        rw [List.any_append, ← g3, List.any_map]
        have e1 : (S.reverse.any fun (t : Seen) => ((t.at_ : Nat) : Int) == z) = S.reverse.any ((fun q => decide ((q : Int) = z)) ∘ fun (x : Seen) => x.at_) := by
          congr 1
        have e2 : ((halts e (65536 - e)).any fun (t : Seen) => ((t.at_ : Nat) : Int) == z) = (decide ((e : Int) ≤ z) && decide (z < 65536)) := by
          rw [Bool.eq_iff_iff, List.any_eq_true, Bool.and_eq_true, decide_eq_true_eq, decide_eq_true_eq]
          unfold halts
          constructor
          · rintro ⟨t, ht, q⟩
            obtain ⟨i, hi, rfl⟩ := List.mem_map.mp ht
            have q : ((i : Nat) : Int) = z := by simpa using q
            have := List.mem_range'_1.mp hi
            omega
          · rintro ⟨q1, q2⟩
            refine ⟨⟨z.toNat, .halt, 1⟩, List.mem_map.mpr ⟨z.toNat, List.mem_range'_1.mpr (by omega), rfl⟩, ?_⟩
            show ((z.toNat : Nat) : Int) == z
            rw [beq_iff_eq]
            omega
        rw [e1, e2, Bool.not_or]
        congr 1
        rw [Bool.not_and, ← decide_not, ← decide_not]
        congr 1
        · exact decide_eq_decide.mpr (by omega)
        · exact decide_eq_decide.mpr (by omega)
    unfold after
    rw [hfind, ← g3, List.find?_map]
    have e3 : (S.reverse.find? fun s => strays (wholeOf c) (S.reverse.map (·.at_)) e s.at_) = S.reverse.find? (strays (wholeOf c) (S.reverse.map (·.at_)) e ∘ fun (x : Seen) => x.at_) := rfl
    rw [← e3]
    cases S.reverse.find? fun s => strays (wholeOf c) (S.reverse.map (·.at_)) e s.at_ with
    | none => exact ⟨rfl, fun x hx => by cases hx⟩
    | some s => exact ⟨rfl, fun x hx => by cases hx; exact Nat.succ_pos 4⟩
end Fm

namespace Fm
open Sb16
/-! ### the calls' answers -/
theorem nats_of_map (r : List Nat) : Sb16Neutral.nats (r.map Int.ofNat) = r := by
  unfold Sb16Neutral.nats
  rw [List.map_map]
  exact (List.map_congr_left fun _ _ => rfl).trans (List.map_id _)
theorem map_of_nats {l : List Int} (h : ∀ x ∈ l, 0 ≤ x) : (Sb16Neutral.nats l).map Int.ofNat = l := by
  unfold Sb16Neutral.nats
  rw [List.map_map]
  refine (List.map_congr_left fun x hx => ?_).trans (List.map_id _)
  have := h x hx
  show Int.ofNat x.toNat = x
  show ((x.toNat : Nat) : Int) = x
  omega
theorem step_check {c : Bytes} (hb : Byt c) (hl : c.length ≤ 65504) : (Sb16Neutral.step (some c) [[1]]).2 = lookAns (wholeOf c) c.length := by
  obtain ⟨h1, h2⟩ := look_is hb hl
  rw [← h1]
  show (if (spec (some c) .check).1.v ≤ 0 then [(spec (some c) .check).1.v] else [(spec (some c) .check).1.v, ((spec (some c) .check).1.what : Int)]) = _
  have e : spec (some c) .check = (match checked c with
    | .ok _ => (only 0, some c)
    | .error x => (⟨(x.2 : Int), [], [], x.1⟩, some c)) := rfl
  rw [e]
  cases hc : checked c with
  | ok l => rfl
  | error x =>
    have := h2 x hc
    show (if ((x.2 : Nat) : Int) ≤ 0 then _ else _) = _
    rw [if_neg (by omega)]
    rfl
/-- a run's answer -/
def runAns (d0 : Bytes) (x : Nat × Nat × Mach) : List Int := (x.1 : Int) :: (Sb16Neutral.ints (x.2.2.regs ++ [x.2.2.pc]) ++ ((x.2.1 : Int) :: ((Sb16Neutral.differ d0 x.2.2.data).length : Int) :: (Sb16Neutral.differ d0 x.2.2.data).flatMap fun (y : Nat × Nat) => [(y.1 : Int), (y.2 : Int)]))
theorem inside_iff (z m : Int) : inside z m = true ↔ 0 ≤ z ∧ z ≤ m := by
  unfold inside
  rw [Bool.and_eq_true, decide_eq_true_eq, decide_eq_true_eq]
theorem inside_not {z m : Int} (h : ¬ (0 ≤ z ∧ z ≤ m)) : inside z m = false := by
  cases q : inside z m with
  | false => rfl
  | true => exact absurd ((inside_iff z m).mp q) h
theorem step_run {c r b : Bytes} {n : Int} {pc off : Nat} (hr : r.length = 16) (hn : 0 ≤ n ∧ n ≤ 16777216) :
    (Sb16Neutral.step (some c) [[2, n, pc, off], r.map Int.ofNat, b.map Int.ofNat]).2 = runAns (Sb16Neutral.memory off b) (ended (steps c n.toNat ⟨r, pc, Sb16Neutral.memory off b⟩)) := by
  have e0 : Sb16Neutral.step (some c) [[2, n, pc, off], r.map Int.ofNat, b.map Int.ofNat] =
      (let d := Sb16Neutral.memory (off : Int).toNat (Sb16Neutral.nats (b.map Int.ofNat))
       let y := spec (some c) (.run (Sb16Neutral.nats (r.map Int.ofNat) ++ [(pc : Int).toNat]) d n)
       let l := Sb16Neutral.differ d y.1.data
       (y.2, if y.1.v < 0 then [y.1.v] else y.1.v :: (Sb16Neutral.ints y.1.l ++ ((y.1.what : Int) :: (l.length : Int) :: l.flatMap fun (x : Nat × Nat) => [(x.1 : Int), (x.2 : Int)])))) := rfl
  rw [e0]
  simp only [nats_of_map, Int.toNat_natCast]
  have t16 : (r ++ [pc]).take 16 = r := by rw [← hr, List.take_left]
  have g16 : (r ++ [pc]).getD 16 0 = pc := by
    rw [List.getD_eq_getElem?_getD, List.getElem?_append_right (by omega), hr]
    rfl
  have e : spec (some c) (.run (r ++ [pc]) (Sb16Neutral.memory off b) n) = (match steps c n.toNat ⟨r, pc, Sb16Neutral.memory off b⟩ with
      | .on m => (⟨5, m.regs ++ [m.pc], m.data, 0⟩, some c)
      | .ends why what m => (⟨(why : Int), m.regs ++ [m.pc], m.data, what⟩, some c)) := by
    show (if inside n STEPS = false then (only (-1), some c) else (match steps c n.toNat ⟨(r ++ [pc]).take 16, (r ++ [pc]).getD 16 0, Sb16Neutral.memory off b⟩ with
      | .on m => (⟨5, m.regs ++ [m.pc], m.data, 0⟩, some c)
      | .ends why what m => (⟨(why : Int), m.regs ++ [m.pc], m.data, what⟩, some c))) = _
    rw [if_neg (by rw [(inside_iff n STEPS).mpr hn]; decide), t16, g16]
  rw [e]
  cases steps c n.toNat ⟨r, pc, Sb16Neutral.memory off b⟩ with
  | on m =>
    show (if (5 : Int) < 0 then _ else _) = _
    rw [if_neg (by decide)]
    rfl
  | ends a x m =>
    show (if ((a : Nat) : Int) < 0 then _ else _) = _
    rw [if_neg (by omega)]
    rfl
theorem step_run_bad {c r b : Bytes} {n : Int} {pc off : Nat} (hn : ¬ (0 ≤ n ∧ n ≤ 16777216)) : (Sb16Neutral.step (some c) [[2, n, pc, off], r.map Int.ofNat, b.map Int.ofNat]).2 = [-1] := by
  have e : ∀ l d, spec (some c) (.run l d n) = (only (-1), some c) := fun l d => by
    show (if inside n STEPS = false then (only (-1), some c) else _) = _
    rw [if_pos (inside_not (m := STEPS) hn)]
  show (if (spec (some c) (.run _ _ n)).1.v < 0 then [(spec (some c) (.run _ _ n)).1.v] else _) = _
  rw [e]
  rfl
theorem step_run_none {r b : Bytes} {n : Int} {pc off : Nat} : (Sb16Neutral.step none [[2, n, pc, off], r.map Int.ofNat, b.map Int.ofNat]).2 = [-2] := rfl
/-- a run keeps what is loaded -/
theorem step_state_run (s : State) (n pc off : Int) (r b : List Int) : (Sb16Neutral.step s [[2, n, pc, off], r, b]).1 = s := by
  show (spec s (.run _ _ n)).2 = s
  cases s with
  | none => rfl
  | some c =>
    show (if inside n STEPS = false then (only (-1), some c) else (match steps c n.toNat _ with
      | .on m => (⟨5, m.regs ++ [m.pc], m.data, 0⟩, some c)
      | .ends why what m => (⟨(why : Int), m.regs ++ [m.pc], m.data, what⟩, some c))).2 = some c
    split
    · rfl
    · split <;> rfl
theorem step_state_check (s : State) : (Sb16Neutral.step s [[1]]).1 = s := by
  show (spec s .check).2 = s
  cases s with
  | none => rfl
  | some c =>
    show (match checked c with
      | .ok _ => (only 0, some c)
      | .error x => (⟨(x.2 : Int), [], [], x.1⟩, some c)).2 = some c
    split <;> rfl
theorem memory_len {off : Nat} {b : Bytes} (h : off + b.length ≤ 65536) : (Sb16Neutral.memory off b).length = 65536 := by
  unfold Sb16Neutral.memory SIZE
  rw [List.length_append, List.length_append, List.length_replicate, List.length_replicate]
  omega
theorem memory_byt {off : Nat} {b : Bytes} (h : Byt b) : Byt (Sb16Neutral.memory off b) := fun x hx => by
  unfold Sb16Neutral.memory at hx
  rcases List.mem_append.mp hx with q | q
  · rw [List.eq_of_mem_replicate q]
    decide
  · rcases List.mem_append.mp q with q | q
    · exact h x q
    · rw [List.eq_of_mem_replicate q]
      decide
end Fm

namespace Fm
open Sb16
/-! ### the list of calls, read from a place on -/
theorem drop_cons {α : Type} {l : List α} {j : Nat} {a : α} {r : List α} (h : l.drop j = a :: r) : l[j]? = some a ∧ r = l.drop (j + 1) ∧ j < l.length := by
  have hj : j < l.length := by
    by_cases q : j < l.length
    · exact q
    · rw [List.drop_of_length_le (by omega)] at h
      cases h
  rw [List.drop_eq_getElem_cons hj] at h
  injection h with h1 h2
  exact ⟨by rw [List.getElem?_eq_getElem hj, h1], h2.symm, hj⟩
theorem row_of {l : List Int} {j : Nat} {x t : List Int} (h : PyFlat.row (l.drop j) = some (x, t)) : ∃ m : Nat, l[j]? = some (m : Int) ∧ j + 1 + m ≤ l.length ∧ x = (l.drop (j + 1)).take m ∧ t = l.drop (j + 1 + m) := by
  cases hd : l.drop j with
  | nil =>
    rw [hd] at h
    cases h
  | cons a r =>
    obtain ⟨h1, h2, h3⟩ := drop_cons hd
    rw [hd] at h
    have h : (if 0 ≤ a ∧ a.toNat ≤ r.length then some (r.take a.toNat, r.drop a.toNat) else none) = some (x, t) := h
    by_cases q : 0 ≤ a ∧ a.toNat ≤ r.length
    · rw [if_pos q] at h
      cases h
      have e : a = ((a.toNat : Nat) : Int) := by omega
      refine ⟨a.toNat, by rw [h1, ← e], ?_, by rw [h2], by rw [h2, List.drop_drop]⟩
      have q2 := q.2
      rw [h2, List.length_drop] at q2
      omega
    · rw [if_neg q] at h
      cases h
theorem whole_id (c : List (List Int)) : PySb16.whole c = c := by
  unfold PySb16.whole
  split <;> rfl
theorem bytes_of_all {b : List Int} (h : NeutralIO.bytes b = true) : (∀ x ∈ b, 0 ≤ x) ∧ Byt (Sb16Neutral.nats b) := by
  unfold NeutralIO.bytes at h
  rw [List.all_eq_true] at h
  have g : ∀ x ∈ b, 0 ≤ x ∧ x ≤ 255 := fun x hx => by
    have := h x hx
    rw [Bool.and_eq_true, decide_eq_true_eq, decide_eq_true_eq] at this
    exact this
  refine ⟨fun x hx => (g x hx).1, fun y hy => ?_⟩
  unfold Sb16Neutral.nats at hy
  obtain ⟨x, hx, e⟩ := List.mem_map.mp hy
  have := g x hx
  omega
theorem nats_len (b : List Int) : (Sb16Neutral.nats b).length = b.length := List.length_map _
/-- what stands at a call -/
inductive Turn (l : List Int) (i : Nat) : Int → List (List Int) → Nat → Prop
  | load (n : Int) (m : Nat) (h1 : l[i + 1]? = some n) (h2 : l[i + 2]? = some (m : Int)) (h3 : i + 3 + m ≤ l.length) (hb : NeutralIO.bytes ((l.drop (i + 3)).take m) = true) (hl : m ≤ 65504) :
      Turn l i 0 [[0, n], (l.drop (i + 3)).take m] (i + 3 + m)
  | check : Turn l i 1 [[1]] (i + 1)
  | run (n : Int) (pc off m1 m2 : Nat) (h1 : (l.drop (i + 1)).take 3 = [n, (pc : Int), (off : Int)]) (h2 : l[i + 4]? = some (m1 : Int)) (h3 : i + 5 + m1 ≤ l.length) (h4 : l[i + 5 + m1]? = some (m2 : Int)) (h5 : i + 6 + m1 + m2 ≤ l.length)
      (hr : m1 = 16) (hW : ∀ x ∈ (l.drop (i + 5)).take m1, 0 ≤ x ∧ x < 18446744073709551616) (hb : NeutralIO.bytes ((l.drop (i + 6 + m1)).take m2) = true) (hl : off + m2 ≤ 65536) :
      Turn l i 2 [[2, n, (pc : Int), (off : Int)], (l.drop (i + 5)).take m1, (l.drop (i + 6 + m1)).take m2] (i + 6 + m1 + m2)
theorem take_len {l : List Int} {j m : Nat} (h : j + m ≤ l.length) : ((l.drop j).take m).length = m := by
  rw [List.length_take, List.length_drop]
  omega
theorem turn_of {l : List Int} {i : Nat} {p : Int} {r : List Int} {c : List (List Int)} {t : List Int} (hd : l.drop i = p :: r) (h : PyFlat.call PySb16.shape (p :: r) = some (c, t)) (ha : Sb16Neutral.asked1 c = true) :
    ∃ j, Turn l i p c j ∧ t = l.drop j ∧ i < j ∧ j ≤ l.length := by
  obtain ⟨g1, g2, g3⟩ := drop_cons hd
  unfold PyFlat.call at h
  by_cases p0 : p = 0
  · subst p0
    have h : (if r.length < 1 then none else match PyFlat.rows 1 (r.drop 1) with
      | none => none
      | some (xs, t) => some (((0 : Int) :: r.take 1) :: xs, t)) = some (c, t) := h
    split at h
    · cases h
    · rename_i q
      rw [g2, List.drop_drop] at h
      unfold PyFlat.rows at h
      cases hr : PyFlat.row (l.drop (i + 1 + 1)) with
      | none =>
        rw [hr] at h
        cases h
      | some y =>
        obtain ⟨x, s⟩ := y
        rw [hr] at h
        obtain ⟨m, e1, e2, e3, e4⟩ := row_of hr
        have lt : i + 1 < l.length := by omega
        have hn : (l.drop (i + 1)).take 1 = [l[i + 1]] := by
          rw [List.drop_eq_getElem_cons lt]
          rfl
        rw [hn] at h
        cases h
        have ha : (Sb16Neutral.whole32 l[i + 1] && (decide ((x.length : Int) = if 0 ≤ l[i + 1] ∧ l[i + 1] ≤ 65504 then l[i + 1] else 0) && NeutralIO.bytes x)) = true := ha
        rw [Bool.and_eq_true, Bool.and_eq_true, decide_eq_true_eq] at ha
        obtain ⟨_, a2, a3⟩ := ha
        rw [show i + 1 + 1 + 1 = i + 3 by omega] at e2 e3 e4
        have xl : x.length = m := by rw [e3, take_len e2]
        have hl : m ≤ 65504 := by
          split at a2 <;> omega
        rw [e3] at a3 ⊢
        exact ⟨i + 3 + m, .load _ m (List.getElem?_eq_getElem lt) e1 e2 a3 hl, e4, by omega, e2⟩
  · by_cases p1 : p = 1
    · subst p1
      have h : (if r.length < 0 then none else match PyFlat.rows 0 (r.drop 0) with
        | none => none
        | some (xs, t) => some (((1 : Int) :: r.take 0) :: xs, t)) = some (c, t) := h
      rw [if_neg (by omega)] at h
      cases h
      exact ⟨i + 1, .check, g2, by omega, by omega⟩
    · by_cases p2 : p = 2
      · subst p2
        have h : (if r.length < 3 then none else match PyFlat.rows 2 (r.drop 3) with
          | none => none
          | some (xs, t) => some (((2 : Int) :: r.take 3) :: xs, t)) = some (c, t) := h
        split at h
        · cases h
        · rename_i q
          rw [g2, List.drop_drop] at h
          unfold PyFlat.rows at h
          cases hr : PyFlat.row (l.drop (i + 1 + 3)) with
          | none =>
            rw [hr] at h
            cases h
          | some y =>
            obtain ⟨x, s⟩ := y
            rw [hr] at h
            obtain ⟨m1, e1, e2, e3, e4⟩ := row_of hr
            unfold PyFlat.rows at h
            subst e4
            cases hr2 : PyFlat.row (l.drop (i + 1 + 3 + 1 + m1)) with
            | none =>
              dsimp only at h
              rw [hr2] at h
              cases h
            | some y2 =>
              obtain ⟨x2, s2⟩ := y2
              dsimp only at h
              rw [hr2] at h
              obtain ⟨m2, f1, f2, f3, f4⟩ := row_of hr2
              have lt : i + 3 < l.length := by
                rw [g2, List.length_drop] at q
                omega
              have hn : (l.drop (i + 1)).take 3 = [l[i + 1], l[i + 2], l[i + 3]] := by
                rw [List.drop_eq_getElem_cons (by omega), List.drop_eq_getElem_cons (by omega), List.drop_eq_getElem_cons (by omega)]
                rfl
              rw [hn] at h
              cases h
              have ha : (Sb16Neutral.whole32 l[i + 1] && (Sb16Neutral.natural l[i + 2] && (NeutralIO.within l[i + 3] 0 65536 && (decide (x.length = 16) && (x.all (fun (z : Int) => Sb16Neutral.natural z) && (decide ((x2.length : Int) ≤ 65536 - l[i + 3]) && NeutralIO.bytes x2)))))) = true := ha
              rw [Bool.and_eq_true, Bool.and_eq_true, Bool.and_eq_true, Bool.and_eq_true, Bool.and_eq_true, Bool.and_eq_true, decide_eq_true_eq, decide_eq_true_eq] at ha
              obtain ⟨_, a2, a3, a4, a5, a6, a7⟩ := ha
              unfold Sb16Neutral.natural at a2
              rw [Bool.and_eq_true, decide_eq_true_eq, decide_eq_true_eq] at a2
              unfold NeutralIO.within at a3
              rw [Bool.and_eq_true, decide_eq_true_eq, decide_eq_true_eq] at a3
              rw [show i + 1 + 3 = i + 4 by omega] at e1 e2 e3
              rw [show i + 4 + 1 = i + 5 by omega] at e2 e3
              rw [show i + 1 + 3 + 1 + m1 = i + 5 + m1 by omega] at f1 f2 f3 f4
              rw [show i + 5 + m1 + 1 = i + 6 + m1 by omega] at f2 f3 f4
              have xl : x.length = m1 := by rw [e3, take_len e2]
              have xl2 : x2.length = m2 := by rw [f3, take_len f2]
              obtain ⟨pc, hpc⟩ : ∃ pc : Nat, l[i + 2] = (pc : Int) := ⟨l[i + 2].toNat, by omega⟩
              obtain ⟨off, hoff⟩ : ∃ off : Nat, l[i + 3] = (off : Int) := ⟨l[i + 3].toNat, by omega⟩
              rw [hpc, hoff] at hn ⊢
              rw [hoff] at a6
              have hW : ∀ z ∈ x, 0 ≤ z ∧ z < 18446744073709551616 := fun z hz => by
                have := List.all_eq_true.mp a5 z hz
                unfold Sb16Neutral.natural at this
                rw [Bool.and_eq_true, decide_eq_true_eq, decide_eq_true_eq] at this
                exact ⟨this.1, this.2⟩
              rw [e3] at hW ⊢
              rw [f3] at a7 ⊢
              exact ⟨i + 6 + m1 + m2, .run _ pc off m1 m2 hn e1 e2 f1 f2 (by omega) hW a7 (by omega), f4, by omega, f2⟩
      · exfalso
        have : PySb16.shape p = none := by
          unfold PySb16.shape
          rw [if_neg p0, if_neg p1, if_neg p2]
        dsimp only at h
        rw [this] at h
        cases h
/-- the calls from a place on -/
theorem calls_turn {l : List Int} {i f : Nat} {rest : List (List (List Int))} (hi : i < l.length) (h : PyFlat.calls PySb16.shape f (l.drop i) = some rest) (ha : ∀ c ∈ rest, Sb16Neutral.asked1 c = true) :
    ∃ (p : Int) (c : List (List Int)) (cs : List (List (List Int))) (j f' : Nat), l[i]? = some p ∧ rest = c :: cs ∧ Turn l i p c j ∧ PyFlat.calls PySb16.shape f' (l.drop j) = some cs ∧ i < j ∧ j ≤ l.length := by
  have hd := List.drop_eq_getElem_cons hi
  rw [hd] at h
  cases f with
  | zero => cases h
  | succ f =>
    unfold PyFlat.calls at h
    cases hc : PyFlat.call PySb16.shape (l[i] :: l.drop (i + 1)) with
    | none =>
      rw [hc] at h
      cases h
    | some y =>
      obtain ⟨c, t⟩ := y
      rw [hc] at h
      dsimp only at h
      cases hcs : PyFlat.calls PySb16.shape f t with
      | none =>
        rw [hcs] at h
        cases h
      | some cs =>
        rw [hcs] at h
        cases h
        obtain ⟨j, T, ht, h1, h2⟩ := turn_of hd hc (ha c (List.mem_cons_self ..))
        subst ht
        exact ⟨l[i], c, cs, j, f, List.getElem?_eq_getElem hi, rfl, T, hcs, h1, h2⟩
theorem calls_end {l : List Int} {i f : Nat} {rest : List (List (List Int))} (hi : l.length ≤ i) (h : PyFlat.calls PySb16.shape f (l.drop i) = some rest) : rest = [] := by
  rw [List.drop_of_length_le hi] at h
  cases f <;> (cases h; rfl)
theorem told_more (s : State) (c : List (List Int)) (cs : List (List (List Int))) : PyFlat.told (PyFlat.played Sb16Neutral.step s (c :: cs)) = (((Sb16Neutral.step s c).2.length : Int) :: (Sb16Neutral.step s c).2) ++ PyFlat.told (PyFlat.played Sb16Neutral.step (Sb16Neutral.step s c).1 cs) := by
  unfold PyFlat.told
  rw [PyFlat.played, List.flatMap_cons]
/-- what is asked, at the beginning -/
theorem asked_start {l : List Int} (h : PySb16.answers_asked l = true) : ∃ raw, PyFlat.calls PySb16.shape l.length (l.drop 0) = some raw ∧ (∀ c ∈ raw, Sb16Neutral.asked1 c = true) ∧ PySb16.answers l = PyFlat.told (PyFlat.played Sb16Neutral.step Sb16Neutral.start raw) ∧ (PySb16.answers l).length ≤ 10000000 := by
  unfold PySb16.answers_asked at h
  rw [List.drop_zero]
  cases hc : PyFlat.calls PySb16.shape l.length l with
  | none =>
    rw [hc] at h
    cases h
  | some raw =>
    rw [hc] at h
    dsimp only at h
    rw [Bool.and_eq_true, Bool.and_eq_true, Bool.and_eq_true, Bool.and_eq_true] at h
    obtain ⟨⟨_, h2⟩, h3⟩ := h
    have e : raw.map PySb16.whole = raw := (List.map_congr_left fun c _ => whole_id c).trans (List.map_id _)
    rw [e] at h2
    unfold Sb16Neutral.asked at h2
    rw [Bool.and_eq_true, Bool.and_eq_true, Bool.and_eq_true] at h2
    refine ⟨raw, rfl, List.all_eq_true.mp h2.2.2.1, ?_, ?_⟩
    · unfold PySb16.answers PySb16.calls
      rw [hc]
      dsimp only
      rw [e]
    · unfold PyFlat.short at h3
      exact of_decide_eq_true h3
end Fm

/-! rules of my own: a dict of whole numbers that the top has written; sorted(d) of any length; callees in one piece -/
namespace Fm
open PySem PySem.Spec PyProof.Rows L2

/-- the entries are whole numbers, of the pairs L -/
inductive IEnts : List DictEntry → List (Int × Int) → Prop
  | nil : IEnts [] []
  | cons {e : DictEntry} {r : List DictEntry} {L : List (Int × Int)} (k v : Int) (t u : Tok) (hk : e.key = .int k t) (hh : e.hash = hashInt k) (hv : e.val = .int v u) : IEnts r L → IEnts (e :: r) ((k, v) :: L)
def KInt (K : PySem.W.Frag) (d : Addr) (L : List (Int × Int)) : Prop := (d == sysModules) = false ∧ ∃ (es : Array DictEntry) (n : Nat), K.lookup d = some ⟨.type "dict", none, .dict es n, #[]⟩ ∧ IEnts es.toList L
theorem IEnts.key : ∀ {es : List DictEntry} {L : List (Int × Int)}, IEnts es L → ∀ e ∈ es, ∃ k t, e.key = .int k t ∧ e.hash = hashInt k
  | _, _, .nil, e, h => absurd h (by simp)
  | _, _, .cons k v t u hk hh hv r, e, h => by
    rcases List.mem_cons.mp h with q | q
    · subst q
      exact ⟨k, t, hk, hh⟩
    · exact r.key e q
theorem IEnts.look : ∀ {es : List DictEntry} {L : List (Int × Int)}, IEnts es L → ∀ i : Int, RelO ((L.lookup i).map V.int) ((es.find? fun e => Value.isInt i e.key).map (·.val))
  | _, _, .nil, i => trivial
  | _, _, .cons (e := e) (r := r) (L := L) k v t u hk hh hv q, i => by
    by_cases c : i = k
    · subst c
      have a : List.lookup i ((i, v) :: L) = some v := by simp [List.lookup]
      have b : (List.find? (fun e => Value.isInt i e.key) (e :: r)) = some e := by
        rw [List.find?_cons_of_pos]
        rw [hk]
        simp [Value.isInt]
      rw [a, b]
      exact ⟨u, hv⟩
    · have a : List.lookup i ((k, v) :: L) = L.lookup i := by
        have z : (i == k) = false := beq_eq_false_iff_ne.mpr c
        simp [List.lookup, z]
      have b : (List.find? (fun e => Value.isInt i e.key) (e :: r)) = List.find? (fun e => Value.isInt i e.key) r := by
        rw [List.find?_cons_of_neg]
        rw [hk]
        simp [Value.isInt]
        intro z
        exact c z.symm
      rw [a, b]
      exact q.look i
theorem kint_map {P : Program} {w : World} {K : PySem.W.Frag} {h : Heap} {d : Addr} {L : List (Int × Int)} (X : K.In h) (D : KInt K d L) :
    ∃ f : Int → Option Value, h.MapOf (PySem.intKind P w) d f ∧ ∀ i, RelO ((L.lookup i).map V.int) (f i) := by
  obtain ⟨_, es, n, hl, he⟩ := D
  refine ⟨fun i => findBy Value.isInt es i, ⟨_, es, n, X _ _ hl, ⟨rfl, rfl, rfl⟩, rfl, fun e hm => ?_, fun _ => rfl⟩, fun i => ?_⟩
  · obtain ⟨k, t, e1, e2⟩ := he.key e (Array.mem_toList_iff.mpr hm)
    refine ⟨k, ?_, e2⟩
    show Value.isInt k e.key = true
    rw [e1]
    simp [Value.isInt]
  · have q := he.look i
    have z : findBy Value.isInt es i = (es.toList.find? fun e => Value.isInt i e.key).map (·.val) := by
      unfold findBy
      rw [Array.find?_toList]
    show RelO _ (findBy Value.isInt es i)
    rw [z]
    exact q
/-- D[i], D a written dict of whole numbers -/
def rKIx (d : Addr) (L : List (Int × Int)) : R2 := fun x y H Q => ∃ i v, x = .ref d ∧ y = .int i ∧ L.lookup i = some v ∧ Q (.int v) H
/-- D.get(i, j) -/
def tKGet (d : Addr) (L : List (Int × Int)) (td ty tx : TE) : TE := fun σ H Q => td σ H fun x H1 => x = .ref d ∧ ty σ H1 fun y H2 => tx σ H2 fun z H3 => ∃ i j : Int, y = .int i ∧ z = .int j ∧ Q (.int ((L.lookup i).getD j)) H3
section
variable {X : Cx} {d : Addr} {L : List (Int × Int)}
theorem ix_kint (D : KInt X.K d L) : IxR X (rKIx d L) := by
  intro value slice pins s σ H x y v u Q I rx ry h hs
  obtain ⟨i, r, rfl, rfl, hl, q⟩ := h
  obtain rfl : v = Value.ref d := rx
  obtain ⟨t, rfl⟩ := ry
  obtain ⟨f, hm, hf⟩ := kint_map (P := X.prog) (w := X.w) I.kIn D
  have z := hf i
  rw [hl] at z
  cases e : f i with
  | none =>
    rw [e] at z
    exact False.elim z
  | some u0 =>
    rw [e] at z
    have hk : (PySem.intKind X.prog X.w).is i (.int i t) = true := by
      show Value.isInt i (.int i t) = true
      simp [Value.isInt]
    exact tail_any hm.typeIs slot_dict_getitem.lookup (wpAny_getItem_of hk hm e ⟨.int r, H, I.tok _, z, q⟩) hs
theorem pe_kget {o e f : Expr} {apos cpos : Pos} {td ty tx : TE} (D : KInt X.K d L) (ho : PE X o td) (he : PE X e ty) (hf : PE X f tx) (m : M2 X o "get" apos e f cpos) : PE X (.Call (.Attribute o "get" apos) [e, f] [] cpos) (tKGet d L td ty tx) := by
  refine ⟨fun pins s σ H Q I h => ?_⟩
  refine wpAny_Call_method m.base m.few m.line PySem.F.plainAttrs_dict PySem.F.slot_dict_get PySem.F.type_dict_get (thn (ho.run pins s σ H _ I h) fun u s1 q0 => ?_)
  obtain ⟨x, H1, I1, rx, ex, q1⟩ := q0
  subst ex
  obtain rfl : u = Value.ref d := rx
  obtain ⟨g, hm, hg⟩ := kint_map (P := X.prog) (w := X.w) I1.kIn D
  refine ⟨hm.typeIs, hm.noDict, ?_⟩
  rw [m.trees]
  refine Calls.callWith_builtin rfl (Calls.evalArgs_plain (Calls.spliced_cons (thn (he.run pins s1 σ H1 _ I1 q1) fun iv s2 q2 => ?_)))
  obtain ⟨y, H2, I2, ry, q2⟩ := q2
  refine Calls.spliced_cons (thn (hf.run pins s2 σ H2 _ I2 q2) fun fv s3 q3 => Calls.spliced_nil ?_)
  obtain ⟨z, H3, I3, rz, i, j, ey, ez, q3⟩ := q3
  subst ey
  subst ez
  obtain ⟨t, rfl⟩ := ry
  obtain ⟨g3, hm3, hg3⟩ := kint_map (P := X.prog) (w := X.w) I3.kIn D
  have hk : (PySem.intKind X.prog X.w).is i (.int i t) = true := by
    show Value.isInt i (.int i t) = true
    simp [Value.isInt]
  refine call_meetsIn PySem.F.slot_dict_get hm3.typeIs PySem.F.entry_dict_get (PySem.F.args_dict_get_3 _ _ _) (meets_dict_get_default (PySem.intKind X.prog X.w) d hk D.1 fv) ⟨_, hm3, ?_⟩
  refine ⟨_, H3, I3.tok _, ?_, q3⟩
  have w3 := hg3 i
  cases e1 : L.lookup i with
  | none =>
    rw [e1] at w3
    cases e2 : g3 i with
    | none => exact rz
    | some u0 =>
      rw [e2] at w3
      exact False.elim w3
  | some v =>
    rw [e1] at w3
    cases e2 : g3 i with
    | none =>
      rw [e2] at w3
      exact False.elim w3
    | some u0 =>
      rw [e2] at w3
      exact w3
end

/-- sorted(d), d a dict of whole numbers, however many -/
def rSortD : List V → Hp → VK → Prop := fun xs H Q => ∃ (a : Addr) (kvs : List (Key × V)) (ks : List Int), xs = [.ref a] ∧ Rd H a (.dK kvs) ∧ kvs.map (·.1) = ks.map Sum.inl ∧
  ∀ (ys : List Int) (p : Addr), ys.Perm ks → ys.Pairwise (· ≤ ·) → H p = none → Q (.ref p) (upd H p (.lst (ys.map V.int)))
theorem ints_of_keys {vs : List (Key × Value)} {ks : List Int} {acc : List Value} (hk : vs.map (·.1) = ks.map Sum.inl) (hl : acc.length = ks.length)
    (h : ∀ (j : Nat) (v : Value), acc[j]? = some v → ∃ k x, vs[j]? = some (k, x) ∧ keyIs k v = true) : IntsAre acc ks :=
  ints_each hl fun j v e => by
    obtain ⟨k, x, e1, e2⟩ := h j v e
    have e3 : (ks.map (Sum.inl (β := Str)))[j]? = some k := by
      rw [← hk, List.getElem?_map, e1]
      rfl
    rw [List.getElem?_map] at e3
    obtain ⟨y, e4, e5⟩ := Option.map_eq_some_iff.mp e3
    subst e5
    rcases keyIs_shape e2 with ⟨i, t, ek, ev⟩ | ⟨z, t, ek, _⟩
    · cases ek
      exact ⟨y, t, e4, ev⟩
    · cases ek
section
variable {X : Cx}
theorem cr_sortD (hcalm : X.calm = true) : CallR X (.builtin "sorted") rSortD := by
  intro pins s σ H xs us Q I r q
  obtain ⟨a, kvs, ks, rfl, hd, hks, q⟩ := q
  obtain ⟨u, rfl, rx⟩ := vals1 r
  cases rx
  obtain ⟨z, lo, vs, rel, dd⟩ := dk_rd I.hok hd
  obtain ⟨ep, hat⟩ := dd.dictAt
  have hkeys : vs.map (·.1) = ks.map Sum.inl := rel.keys.symm.trans hks
  have hl : vs.length = ks.length := by simpa using congrArg List.length hkeys
  have hl2 : kvs.length = ks.length := by simpa using congrArg List.length hks
  have hz : ks.length ≤ sizeLine := by rw [← hl2]; exact z
  have h16 : vs.length ≤ sizeLine := by rw [hl]; exact hz
  refine Calls.call_function_entry kind_sorted plain_sorted entry_sorted (args_sorted1 _) ?_
  unfold Builtin.«sorted»
  refine wpAny_bind (m := checkCount "sorted" 1 1 _) (wpAny_pure ?_)
  refine wpAny_bind (PySem.W.kdu_collect (A := X.A.in1) (PySem.W.kdl_dict (knd := mixKind X.prog X.w) (kvs := vs) (ep := ep) lo) (I.ok.hd hcalm) hat h16 ?_)
  intro h' tk acc hk hacc
  have hal : acc.toList.length = ks.length := by rw [Array.length_toList, hacc.1, hl]
  have hS : IntsAre acc.toList ks := ints_of_keys hkeys hal fun j v e => by
    obtain ⟨k, x, e1, e2⟩ := hacc.2 j v (by rw [← Array.getElem?_toList]; exact e)
    exact ⟨k, x, e1, e2⟩
  have I1 : Inv X pins σ H { s with heap := h', toks := tk } := I.kept hk
  refine wpAny_bind (wpAny_newList ?_ (by rw [hal]; exact hz))
  have hoL : (h'.push (seqObj "list" acc.toList.toArray 0)).get? h'.objs.size = some (seqObj "list" acc.toList.toArray 0) := Heap.get?_push_size _ rfl
  show wpAny _ _ _ _ _ { s with heap := h'.push (seqObj "list" acc.toList.toArray 0), toks := tk }
  refine wpAny_bind (wpAny_holding (wpAny_call_entry slot_list_sort ⟨_, hoL, rfl⟩ entry_list_sort
    (SrtO.list_sort_ord SrtO.swo_int (s := { s with heap := h'.push (seqObj "list" acc.toList.toArray 0), toks := tk }) hoL (by rw [hal]; exact hz) (fun h2 => SrtO.ints_sortable hS h2) ?_) (args_list_sort _)))
  intro out g1 g2
  refine ⟨_, rfl, ?_⟩
  obtain ⟨k1, k2, k3⟩ := SrtO.ints_out hS g1 g2
  obtain ⟨e', he'⟩ := sortedHeap_at (vs := acc.toList) (out := out.toArray) hoL
  have hlen : ((out.map SrtO.iv).map V.int).length ≤ sizeLine := by
    rw [List.length_map, k2.length_eq]
    exact hz
  refine wpAny_pure ⟨_, rfl, .ref h'.objs.size, upd H h'.objs.size (.lst ((out.map SrtO.iv).map V.int)), I1.laid (t' := tk) (fun b u e => ?_) (Nat.le_refl _)
    (show ObjOk X.prog X.w _ _ _ (.lst ((out.map SrtO.iv).map V.int)) from ⟨hlen, out, e', vals_of_ints k1, he'⟩), rfl, q _ _ k2 k3 (I1.hok.fresh (Nat.le_refl _))⟩
  have hb : b < h'.objs.size := Heap.lt_size e
  rw [sortedHeap_old (Nat.ne_of_lt hb) (by rw [size_push']; exact Nat.lt_succ_of_lt hb)]
  exact Heap.get?_push_of_some _ e
end
end Fm

namespace Fm
open PySem PySem.Spec PyProof.Rows L2
/-! ### operators by values, under one name each -/
def qAdd : R2 := rI0 fun i j => .int (i + j)
def qSub : R2 := rI0 fun i j => .int (i - j)
def qMul : R2 := rI CMul fun i j => .int (i * j)
def qDiv : R2 := rI CDiv fun i j => .int (i / j)
def qMod : R2 := rI (fun _ j => 0 < j) fun i j => .int (i % j)
def qShl : R2 := rI CPow fun i j => .int (i * 2 ^ j.toNat)
def qShr : R2 := rI (fun _ j => 0 ≤ j) fun i j => .int (i / 2 ^ j.toNat)
def qAnd : R2 := rI0 fun i j => .int (Builtin.bitAnd i j)
def qOr : R2 := rI0 fun i j => .int (Builtin.bitOr i j)
def qXor : R2 := rI0 fun i j => .int (Builtin.bitXor i j)
def qLt : R2 := rI0 fun i j => .bl (decide (i < j))
def qLe : R2 := rI0 fun i j => .bl (decide (i ≤ j))
def qGt : R2 := rI0 fun i j => .bl (decide (j < i))
def qGe : R2 := rI0 fun i j => .bl (decide (j ≤ i))
def rLn (K : PySem.W.Frag) : List V → Hp → VK → Prop := fun xs H Q => ∃ p ys, xs = [.ref p] ∧ (SqL K H p ys ∨ SqT K H p ys) ∧ Q (.int ys.length) H
def rLi (K : PySem.W.Frag) : List V → Hp → VK → Prop := fun xs H Q => ∃ p ys, xs = [.ref p] ∧ (SqL K H p ys ∨ SqT K H p ys) ∧ ∀ l, H l = none → Q (.ref l) (upd H l (.lst ys))
/-! ### what the top has written -/
/-- a name of the module that holds v -/
def Gv (mg : Str → Option Value) (x : Str) (v : V) : Prop := ∃ u, mg x = some u ∧ RelV v u
def TupK (K : PySem.W.Frag) (a : Addr) (ns : List Int) : Prop := ∀ H, SqT K H a (ns.map V.int)
def LENZ : List (Int × Int) := LENS.map fun p => ((p.1 : Int), (p.2 : Int))
/-- where the classes and the written objects stand -/
structure Ads where
  mem : Addr
  mac : Addr
  dsk : Addr
  le : Addr
  wi : Addr
  go : Addr
  se : Addr
  re : Addr
  ke : Addr
  fe : Addr
structure Txt (K : PySem.W.Frag) (mg : Str → Option Value) (A : Ads) : Prop where
  cl_mem : Cls K A.mem
  cl_mac : Cls K A.mac
  cl_dsk : Cls K A.dsk
  nCells : NoAttr K A.mem "cells"
  nBefore : NoAttr K A.mem "before"
  nCode : NoAttr K A.mac "code"
  nPlace : NoAttr K A.mac "place"
  nRegs : NoAttr K A.mac "registers"
  nMem : NoAttr K A.mac "memory"
  nDCode : NoAttr K A.dsk "code"
  nDMany : NoAttr K A.dsk "many"
  gWORD : Gv mg "WORD" (.int 18446744073709551616)
  gCODE : Gv mg "CODE" (.int 65536)
  gREGISTERS : Gv mg "REGISTERS" (.int 16)
  gBUNDLE : Gv mg "BUNDLE" (.int 32)
  gBYTES : Gv mg "BYTES" (.int 65536)
  gFIRST : Gv mg "FIRST" (.int 4294967296)
  gBASE : Gv mg "BASE" (.int 8589934592)
  gSTOP : Gv mg "STOP" (.int 0)
  gASKED : Gv mg "ASKED" (.int 1)
  gNOWHERE : Gv mg "NOWHERE" (.int 4)
  gNOT_ENDED : Gv mg "NOT_ENDED" (.int 5)
  gWRONG : Gv mg "WRONG" (.int (-1))
  gNO_CODE : Gv mg "NO_CODE" (.int (-2))
  gMOST_LOADED : Gv mg "MOST_LOADED" (.int 65504)
  gMOST_STEPS : Gv mg "MOST_STEPS" (.int 16777216)
  gLOAD : Gv mg "LOAD" (.int 0)
  gCHECK : Gv mg "CHECK" (.int 1)
  gLENGTHS : Gv mg "LENGTHS" (.ref A.le)
  kLen : KInt K A.le LENZ
  gWITH_ONE : Gv mg "WITH_ONE" (.ref A.wi)
  gGOES_ON : Gv mg "GOES_ON" (.ref A.go)
  gSETS : Gv mg "SETS" (.ref A.se)
  gREACHES : Gv mg "REACHES" (.ref A.re)
  gKEPT : Gv mg "KEPT" (.ref A.ke)
  gFENCED : Gv mg "FENCED" (.ref A.fe)
  tWi : TupK K A.wi [2, 12, 24, 25, 26, 34]
  tGo : TupK K A.go [33, 34, 35, 36]
  tSe : TupK K A.se [2, 3, 4, 5, 6, 7, 8, 9, 10, 11, 12, 16, 17]
  tRe : TupK K A.re [16, 17, 18, 19]
  tKe : TupK K A.ke [13, 14, 15]
  tFe : TupK K A.fe [13, 15]
  f_len : mg "len" = none
  f_list : mg "list" = none
  f_sorted : mg "sorted" = none
  f_range : mg "range" = none
  f_reversed : mg "reversed" = none
  f_enumerate : mg "enumerate" = none
/-! ### callees, each in one piece -/
section
variable (P : Program) (w : World) (K : PySem.W.Frag) (mg : Str → Option Value) (base : Heap)
structure Callee (k : Nat) (x : Str) (ps : List Str) (sp : Sp) : Prop where
  ex : ∃ f fd, FnOk P w K mg base CX0 k f fd ps sp ∧ mg x = some (.ref f) ∧ PySem.W.keepIn K (.ref f) = true ∧ Binds K fd ps []
structure Metd (k : Nat) (C : Addr) (m : Str) (ps : List Str) (sp : Sp) : Prop where
  ex : ∃ f fd, FnOk P w K mg base CX0 k f fd ps sp ∧ Meth K C m f ∧ Binds K fd ps []
structure Maker (k : Nat) (x : Str) (C : Addr) (ps : List Str) (sp : Sp) : Prop where
  ex : ∃ f fd, FnOk P w K mg base CX0 k f fd ps sp ∧ Mk K C f ∧ mg x = some (.ref C) ∧ Binds K fd ps []
end
section
variable {X : Cx} {k : Nat} {x m : Str} {ps : List Str} {sp : Sp} {C : Addr} {e o : Expr} {es : List Expr} {t : TA} {ta : TE} {p pos apos : Pos}
theorem pe_gv {v : V} (h : Gv X.mg x v) (hg : Gl X x := by rfl) (hd : (x == ("__debug__" : Str)) = false := by decide) : PE X (.Name x pos) (tC v) := by
  obtain ⟨u, h1, h2⟩ := h
  exact pe_glob hg h1 h2 hd
theorem pe_cle (c : Callee X.prog X.w X.K X.mg X.base k x ps sp) (hr : Room k X.A) (hg : Gl X x) (ha : PA X (e :: es) t) (hdb : (x == ("__debug__" : Str)) = false := by decide)
    (he : starEach (e :: es) X.env = (false, eval e X.env) :: starEach es X.env := by rfl) (hpl : (backTo pos (starEach es X.env)).any (·.1) = false := by rfl) : PE X (.Call (.Name x p) (e :: es) [] pos) (tCall sp [] E0 t) := by
  obtain ⟨f, fd, F, hm, hk, hb⟩ := c.ex
  exact pe_call F hr hg hm hk hb .nil pass0 ha hdb he hpl
theorem pe_mtd {pl : Sem Bool} (he : PE X o ta) (c : Cls X.K C) (M : Metd X.prog X.w X.K X.mg X.base k C m ps sp) (hr : Room k X.A) (ha : PA X (e :: es) t)
    (hst : starEach (e :: es) X.env = (false, eval e X.env) :: starEach es X.env := by rfl) (hpl : (backTo pos (starEach es X.env)).any (·.1) = false := by rfl)
    (ht : eval (.Call (.Attribute o m apos) (e :: es) [] pos) X.env = (do
      let ov ← eval o X.env
      standAt apos.atName
      let (f, first) ← holding [ov] (getMethod ov m pl)
      callWith pos f first (backTo pos (starEach (e :: es) X.env)) (backToKw pos (keywordEach [] X.env))) := by rfl) :
    PE X (.Call (.Attribute o m apos) (e :: es) [] pos) (tMeth C m sp [] E0 ta t) := by
  obtain ⟨f, fd, F, hm, hb⟩ := M.ex
  exact pe_meth he c hm F hr hb .nil pass0 ha hst hpl ht
theorem pe_mtd0 {pl : Sem Bool} (he : PE X o ta) (c : Cls X.K C) (M : Metd X.prog X.w X.K X.mg X.base k C m ps sp) (hr : Room k X.A)
    (ht : eval (.Call (.Attribute o m apos) [] [] pos) X.env = (do
      let ov ← eval o X.env
      standAt apos.atName
      let (f, first) ← holding [ov] (getMethod ov m pl)
      callWith pos f first (backTo pos (starEach [] X.env)) (backToKw pos (keywordEach [] X.env))) := by rfl) :
    PE X (.Call (.Attribute o m apos) [] [] pos) (tMeth C m sp [] E0 ta tNil) := by
  obtain ⟨f, fd, F, hm, hb⟩ := M.ex
  exact pe_meth0 he c hm F hr hb .nil pass0 ht
theorem pe_mk (c : Maker X.prog X.w X.K X.mg X.base k x C ps sp) (hr : Room (k + 1) X.A) (hg : Gl X x) (ha : PA X (e :: es) t) (hdb : (x == ("__debug__" : Str)) = false := by decide)
    (he : starEach (e :: es) X.env = (false, eval e X.env) :: starEach es X.env := by rfl) (hpl : (backTo pos (starEach es X.env)).any (·.1) = false := by rfl) : PE X (.Call (.Name x p) (e :: es) [] pos) (tMake C sp [] E0 t) := by
  obtain ⟨f, fd, F, M, hm, hb⟩ := c.ex
  exact pe_make M F hr hg hm hb .nil pass0 ha hdb he hpl
theorem pe_mk0 (c : Maker X.prog X.w X.K X.mg X.base k x C ps sp) (hr : Room (k + 1) X.A) (hg : Gl X x) (hdb : (x == ("__debug__" : Str)) = false := by decide) : PE X (.Call (.Name x p) [] [] pos) (tMake C sp [] E0 tNil) := by
  obtain ⟨f, fd, F, M, hm, hb⟩ := c.ex
  exact pe_make0 M F hr hg hm hb .nil pass0 hdb
end
/-! ### the promises: what lies in the heap -/
def nv (l : List Nat) : List V := l.map fun (x : Nat) => V.int (x : Int)
def zv (l : List Int) : List V := l.map V.int
section
variable (A : Ads)
def sp_number_at (K : PySem.W.Frag) (A : Ads) : Sp := fun vs H Q _ => ∃ (c : Addr) (w : List Nat) (i n : Nat), vs = [.ref c, .int i, .int n] ∧ SqL K H c (nv w) ∧ ∀ H', Same H H' → Q (.int (Sb16.num w i n : Nat)) H'
def sp_signed_at (K : PySem.W.Frag) (A : Ads) : Sp := fun vs H Q _ => ∃ (c : Addr) (w : List Nat) (i n : Nat), vs = [.ref c, .int i, .int n] ∧ SqL K H c (nv w) ∧ (∀ j, Sb16.at_ w j < 256) ∧ 1 ≤ n ∧ n ≤ 100 ∧ i + n ≤ w.length ∧
  ∀ H', Same H H' → Q (.int (Sb16.signed (8 * n) (Sb16.num w i n))) H'
def sp_bytes_of (K : PySem.W.Frag) (A : Ads) : Sp := fun vs H Q _ => ∃ x n : Nat, vs = [.int x, .int n] ∧ n ≤ 100 ∧ ∀ H' p, Same H H' → H p = none → H' p = some (.lst (nv (Sb16.bytesOf n x))) → Q (.ref p) H'
def sp_length_at (K : PySem.W.Frag) (A : Ads) : Sp := fun vs H Q _ => ∃ (c : Addr) (w : List Nat) (i : Nat), vs = [.ref c, .int i] ∧ SqL K H c (nv w) ∧ WC w ∧ i < 65536 ∧ ∀ H', Same H H' → Q (.int (lenAt w i : Nat)) H'
def sp_first_register (K : PySem.W.Frag) (A : Ads) : Sp := fun vs H Q _ => ∃ (c : Addr) (w : List Nat) (i : Nat), vs = [.ref c, .int i] ∧ SqL K H c (nv w) ∧ i + 1 < w.length ∧ ∀ H', Same H H' → Q (.int (firstOf w i : Nat)) H'
def sp_second_register (K : PySem.W.Frag) (A : Ads) : Sp := fun vs H Q _ => ∃ (c : Addr) (w : List Nat) (i : Nat), vs = [.ref c, .int i] ∧ SqL K H c (nv w) ∧ i + 1 < w.length ∧ ∀ H', Same H H' → Q (.int (Sb16.at_ w (i + 1) % 16 : Nat)) H'
def sp_place_told (K : PySem.W.Frag) (A : Ads) : Sp := fun vs H Q _ => ∃ (c : Addr) (w : List Nat) (i : Nat), vs = [.ref c, .int i] ∧ SqL K H c (nv w) ∧ WC w ∧ goes (Sb16.at_ w i) = true ∧ ∀ H', Same H H' → Q (.int (toldAt w i)) H'
def sp_whole_code (K : PySem.W.Frag) (A : Ads) : Sp := fun vs H Q _ => ∃ (c : Addr) (l : List Nat), vs = [.ref c] ∧ H c = some (.lst (nv l)) ∧ l.length ≤ 65536 ∧ ∀ H' p, Same H H' → H p = none → H' p = some (.lst (nv (wholeOf l))) → Q (.ref p) H'
def sp_fault_at (K : PySem.W.Frag) (A : Ads) : Sp := fun vs H Q _ => ∃ (c : Addr) (w : List Nat) (i : Nat), vs = [.ref c, .int i] ∧ SqL K H c (nv w) ∧ WC w ∧ i < 65536 ∧ ∀ H', Same H H' → Q (.int (faultAt w i : Nat)) H'
def sp_beginnings (K : PySem.W.Frag) (A : Ads) : Sp := fun vs H Q _ => ∃ (c : Addr) (w : List Nat) (many : Nat), vs = [.ref c, .int many] ∧ SqL K H c (nv w) ∧ WC w ∧ many ≤ 65504 ∧
  ∀ H' p pl, Same H H' → H pl = none → H' pl = some (.lst (nv (begs w many).1)) → H' p = some (.tup [.ref pl, .int (begs w many).2.1, .int (begs w many).2.2]) → Q (.ref p) H'
def sp_looked_at (K : PySem.W.Frag) (A : Ads) : Sp := fun vs H Q _ => ∃ (c : Addr) (w : List Nat) (many : Nat), vs = [.ref c, .int many] ∧ SqL K H c (nv w) ∧ WC w ∧ many ≤ 65504 ∧
  ∀ H' p, Same H H' → H p = none → H' p = some (.lst (zv (lookAns w many))) → Q (.ref p) H'
/-! memory -/
def memF (cl bd : Addr) : List (Str × V) := [("cells", .ref cl), ("before", .ref bd)]
def bef (d0 : List Nat) (ks : List Nat) : List (L2.Key × V) := ks.map fun (k : Nat) => (Sum.inl (k : Int), V.int (Sb16.at_ d0 k : Nat))
def sp_mem_init (K : PySem.W.Frag) (A : Ads) : Sp := fun vs H Q _ => ∃ (p dx : Addr) (off : Nat) (g : Addr) (l : List Nat), vs = [.ref p, .int off, .ref g] ∧ H p = some (.ins A.mem dx []) ∧ SqL K H g (nv l) ∧ off + l.length ≤ 65536 ∧
  ∀ H' cl bd, (∀ b o, H b = some o → b ≠ p → H' b = some o) → H' p = some (.ins A.mem dx (memF cl bd)) → H cl = none → H bd = none → H' cl = some (.lst (nv (Sb16Neutral.memory off l))) → H' bd = some (.dK []) → Q .non H'
def sp_got (K : PySem.W.Frag) (A : Ads) : Sp := fun vs H Q _ => ∃ (mm dx cl bd : Addr) (d : List Nat) (i n : Nat), vs = [.ref mm, .int i, .int n] ∧ H mm = some (.ins A.mem dx (memF cl bd)) ∧ H cl = some (.lst (nv d)) ∧
  ∀ H', Same H H' → Q (.int (Sb16.num d i n : Nat)) H'
def sp_put (K : PySem.W.Frag) (A : Ads) : Sp := fun vs H Q _ => ∃ (mm dx cl bd : Addr) (d d0 ks : List Nat) (i : Nat) (g : Addr) (l : List Nat), vs = [.ref mm, .int i, .ref g] ∧ H mm = some (.ins A.mem dx (memF cl bd)) ∧ H cl = some (.lst (nv d)) ∧ H bd = some (.dK (bef d0 ks)) ∧
  H g = some (.lst (nv l)) ∧ g ≠ cl ∧ d.length = 65536 ∧ i + l.length ≤ 65536 ∧ BK d0 d ks ∧
  ∀ H' ks', H' cl = some (.lst (nv (Sb16.patch d i l))) → H' bd = some (.dK (bef d0 ks')) → BK d0 (Sb16.patch d i l) ks' → (∀ b o, H b = some o → b ≠ cl → b ≠ bd → H' b = some o) → Q .non H'
def sp_changed (K : PySem.W.Frag) (A : Ads) : Sp := fun vs H Q _ => ∃ (mm dx cl bd : Addr) (d d0 ks : List Nat), vs = [.ref mm] ∧ H mm = some (.ins A.mem dx (memF cl bd)) ∧ H cl = some (.lst (nv d)) ∧ H bd = some (.dK (bef d0 ks)) ∧ d.length = 65536 ∧ d0.length = 65536 ∧ BK d0 d ks ∧
  ∀ H' p, Same H H' → H p = none → H' p = some (.lst (nv ((Sb16Neutral.differ d0 d).map Prod.fst))) → Q (.ref p) H'
def sp_fence (K : PySem.W.Frag) (A : Ads) : Sp := fun vs H Q _ => ∃ x n : Nat, vs = [.int x, .int n] ∧ Q (.int (Sb16.reached x n : Nat)) H
def sp_reckoned (K : PySem.W.Frag) (A : Ads) : Sp := fun vs H Q _ => ∃ k x y : Nat, vs = [.int k, .int x, .int y] ∧ 3 ≤ k ∧ k ≤ 11 ∧ x < Sb16.W ∧ y < Sb16.W ∧ Q (.int (rk k x y)) H
/-! the machine: where its objects stand -/
structure Ma where
  m : Addr
  dm : Addr
  c : Addr
  r : Addr
  mm : Addr
  dmm : Addr
  cl : Addr
  bd : Addr
def macF (c r mm : Addr) (pc : Int) : List (Str × V) := [("code", .ref c), ("place", .int pc), ("registers", .ref r), ("memory", .ref mm)]
structure MAt (H : Hp) (a : Ma) (m : Sb16.Mach) (w d0 : List Nat) : Prop where
  om : H a.m = some (.ins A.mac a.dm (macF a.c a.r a.mm m.pc))
  oc : H a.c = some (.lst (nv w))
  orr : H a.r = some (.lst (nv m.regs))
  omm : H a.mm = some (.ins A.mem a.dmm (memF a.cl a.bd))
  ocl : H a.cl = some (.lst (nv m.data))
  obd : ∃ ks, H a.bd = some (.dK (bef d0 ks)) ∧ BK d0 m.data ks
  ncr : a.c ≠ a.r
  ncl : a.c ≠ a.cl
  nrl : a.r ≠ a.cl
  nmm : a.m ≠ a.mm
  wc : WC w
  wm : WM m
  d0l : d0.length = 65536
/-- what the machine doesn't write stays -/
def Fm (a : Ma) (H H' : Hp) : Prop := ∀ b o, H b = some o → b ≠ a.m → b ≠ a.r → b ≠ a.cl → b ≠ a.bd → H' b = some o
/-- how it stands behind a step, told by what is given back -/
inductive Res (H : Hp) (a : Ma) (w d0 : List Nat) : Sb16.Stand → V → Prop
  | on {m : Sb16.Mach} (M : MAt A H a m w d0) : Res H a w d0 (.on m) .non
  | ends {y x : Nat} {m : Sb16.Mach} {p : Addr} (h : H p = some (.tup [.int (y : Nat), .int (x : Nat)])) (M : MAt A H a m w d0) : Res H a w d0 (.ends y x m) (.ref p)
def sp_mac_init (K : PySem.W.Frag) (A : Ads) : Sp := fun vs H Q _ => ∃ (p dx c : Addr) (pc : Int) (rg mm : Addr) (regs : List Nat), vs = [.ref p, .ref c, .int pc, .ref rg, .ref mm] ∧ H p = some (.ins A.mac dx []) ∧ H rg = some (.lst (nv regs)) ∧
  ∀ H' r, (∀ b o, H b = some o → b ≠ p → H' b = some o) → H' p = some (.ins A.mac dx (macF c r mm pc)) → H r = none → H' r = some (.lst (nv regs)) → Q .non H'
def sp_give (K : PySem.W.Frag) (A : Ads) : Sp := fun vs H Q _ => ∃ (a : Ma) (m : Sb16.Mach) (w d0 : List Nat) (k : Nat) (z : Int), vs = [.ref a.m, .int k, .int z] ∧ MAt A H a m w d0 ∧ k < 16 ∧
  ∀ H', MAt A H' a (m.put k (z % 18446744073709551616).toNat) w d0 → Fm a H H' → Q .non H'
def sp_go (K : PySem.W.Frag) (A : Ads) : Sp := fun vs H Q _ => ∃ (a : Ma) (m : Sb16.Mach) (w d0 : List Nat) (z : Int), vs = [.ref a.m, .int z] ∧ MAt A H a m w d0 ∧
  ∀ H' v, Res A H' a w d0 (m.to z) v → Fm a H H' → Q v H'
def sp_reach (K : PySem.W.Frag) (A : Ads) : Sp := fun vs H Q _ => ∃ (a : Ma) (m : Sb16.Mach) (w d0 : List Nat) (i : Sb16.Ins), vs = [.ref a.m, .int (Sb16.at_ w m.pc : Nat), .int 4] ∧ MAt A H a m w d0 ∧ m.pc < 65536 ∧ Sb16.decode w m.pc = some (i, 4) ∧ 16 ≤ Sb16.at_ w m.pc ∧ Sb16.at_ w m.pc ≤ 19 ∧
  ∀ H' v, Res A H' a w d0 (m.does i (m.pc + 4)) v → Fm a H H' → Q v H'
def sp_turn (K : PySem.W.Frag) (A : Ads) : Sp := fun vs H Q _ => ∃ (a : Ma) (m : Sb16.Mach) (w d0 : List Nat) (i : Sb16.Ins) (n : Nat), vs = [.ref a.m, .int (Sb16.at_ w m.pc : Nat), .int (m.pc + n : Nat)] ∧ MAt A H a m w d0 ∧ m.pc < 65536 ∧ Sb16.decode w m.pc = some (i, n) ∧ 32 ≤ Sb16.at_ w m.pc ∧ Sb16.at_ w m.pc ≤ 36 ∧
  ∀ H' v, Res A H' a w d0 (m.does i (m.pc + n)) v → Fm a H H' → Q v H'
def sp_keep (K : PySem.W.Frag) (A : Ads) : Sp := fun vs H Q _ => ∃ (a : Ma) (m : Sb16.Mach) (w d0 : List Nat) (i : Sb16.Ins) (n : Nat), vs = [.ref a.m, .int (Sb16.at_ w m.pc : Nat)] ∧ MAt A H a m w d0 ∧ m.pc < 65536 ∧ Sb16.decode w m.pc = some (i, n) ∧ 24 ≤ Sb16.at_ w m.pc ∧ Sb16.at_ w m.pc ≤ 26 ∧
  ∀ H', MAt A H' a (eff m i) w d0 → Fm a H H' → Q .non H'
def sp_reckon (K : PySem.W.Frag) (A : Ads) : Sp := fun vs H Q _ => ∃ (a : Ma) (m : Sb16.Mach) (w d0 : List Nat) (i : Sb16.Ins) (n : Nat), vs = [.ref a.m, .int (Sb16.at_ w m.pc : Nat)] ∧ MAt A H a m w d0 ∧ m.pc < 65536 ∧ Sb16.decode w m.pc = some (i, n) ∧ 2 ≤ Sb16.at_ w m.pc ∧ Sb16.at_ w m.pc ≤ 12 ∧
  ∀ H', MAt A H' a (eff m i) w d0 → Fm a H H' → Q .non H'
def sp_step (K : PySem.W.Frag) (A : Ads) : Sp := fun vs H Q _ => ∃ (a : Ma) (m : Sb16.Mach) (w d0 : List Nat), vs = [.ref a.m] ∧ MAt A H a m w d0 ∧
  ∀ H' v, Res A H' a w d0 (m.step w) v → Fm a H H' → Q v H'
def sp_run (K : PySem.W.Frag) (A : Ads) : Sp := fun vs H Q _ => ∃ (a : Ma) (m : Sb16.Mach) (w d0 : List Nat) (n : Nat), vs = [.ref a.m, .int n] ∧ MAt A H a m w d0 ∧ n ≤ 16777216 ∧
  ∀ H' p, MAt A H' a (ended (Sb16.steps w n m)).2.2 w d0 → H' p = some (.tup [.int (ended (Sb16.steps w n m)).1, .int (ended (Sb16.steps w n m)).2.1]) → Fm a H H' → Q (.ref p) H'
/-! the desk -/
def dskF (code : V) (many : Int) : List (Str × V) := [("code", code), ("many", .int many)]
def DAt (H : Hp) (d fo : Addr) : Sb16.State → Prop
  | none => ∃ dd, H d = some (.ins A.dsk dd (dskF .non 0))
  | some c => ∃ dd a, H d = some (.ins A.dsk dd (dskF (.ref a) (c.length : Nat))) ∧ H a = some (.lst (nv (wholeOf c))) ∧ a ≠ d ∧ Byt c ∧ c.length ≤ 65504 ∧ a ≠ fo
/-- all but one stands -/
def But (d : Addr) (H H' : Hp) : Prop := ∀ b o, H b = some o → b ≠ d → H' b = some o
def sp_dsk_init (K : PySem.W.Frag) (A : Ads) : Sp := fun vs H Q _ => ∃ p dx : Addr, vs = [.ref p] ∧ H p = some (.ins A.dsk dx []) ∧ ∀ H', But p H H' → (∀ fo, DAt A H' p fo none) → Q .non H'
def sp_load (K : PySem.W.Frag) (A : Ads) : Sp := fun vs H Q _ => ∃ (d fo : Addr) (s : Sb16.State) (n : Int) (g : Addr) (l : List Nat), vs = [.ref d, .int n, .ref g] ∧ DAt A H d fo s ∧ (∃ o, H fo = some o) ∧ H g = some (.lst (nv l)) ∧ Byt l ∧ l.length ≤ 65504 ∧
  ∀ H' p, But d H H' → H p = none → H' p = some (.lst (zv [(Sb16.spec s (.load l n)).1.v])) → DAt A H' d fo (Sb16.spec s (.load l n)).2 → Q (.ref p) H'
def sp_check (K : PySem.W.Frag) (A : Ads) : Sp := fun vs H Q _ => ∃ (d fo : Addr) (s : Sb16.State), vs = [.ref d] ∧ DAt A H d fo s ∧
  ∀ H' p, Same H H' → H p = none → H' p = some (.lst (zv (Sb16Neutral.step s [[1]]).2)) → Q (.ref p) H'
def sp_drun (K : PySem.W.Frag) (A : Ads) : Sp := fun vs H Q _ => ∃ (d fo : Addr) (s : Sb16.State) (nb rg g : Addr) (n : Int) (pc off : Nat) (r b : List Nat), vs = [.ref d, .ref nb, .ref rg, .ref g] ∧ DAt A H d fo s ∧ SqL K H nb (zv [n, pc, off]) ∧ H rg = some (.lst (nv r)) ∧ H g = some (.lst (nv b)) ∧
  r.length = 16 ∧ (∀ x ∈ r, x < Sb16.W) ∧ Byt b ∧ off + b.length ≤ 65536 ∧
  ∀ H' p, Same H H' → H p = none → H' p = some (.lst (zv (Sb16Neutral.step s [[2, n, pc, off], r.map Int.ofNat, b.map Int.ofNat]).2)) → Q (.ref p) H'
def sp_row_at (K : PySem.W.Frag) (A : Ads) : Sp := fun vs H Q _ => ∃ (c : Addr) (l : List Int) (i n : Nat), vs = [.ref c, .int i] ∧ SqL K H c (zv l) ∧ l[i]? = some (n : Int) ∧ i + 1 + n ≤ l.length ∧
  ∀ H' t p, Same H H' → H p = none → H' p = some (.lst (zv ((l.drop (i + 1)).take n))) → H' t = some (.tup [.ref p, .int (i + 1 + n : Nat)]) → Q (.ref t) H'
def sp_answers (K : PySem.W.Frag) (A : Ads) : Sp := fun vs H Q _ => ∃ (a : Addr) (l : List Int), vs = [.ref a] ∧ SqL K H a (zv l) ∧ PySb16.answers_asked l = true ∧ ∀ H' p, H' p = some (.lst (zv (PySb16.answers l))) → Q (.ref p) H'
end
end Fm

namespace Fm
open PySem PySem.Spec PyProof.Rows L2
/-! the text by places; of each def its scope, its reading, its derivation (printed by gen.py) -/
def top (i : Nat) : Stmt := PySem.Challenge.pw_fencerun_s01_answers.main.body.getD i (.Pass ⟨0, 0, 0, 0⟩)
section
variable {P : Program} {w : World} {K : PySem.W.Frag} {mg : Str → Option Value} {base : Heap} {A : Ads}
abbrev s_number_at : Stmt := top 2
theorem sc_number_at : FnScope ["code", "at", "many", "found", "byte"] ["code", "at", "many"] (defScope s_number_at) := ⟨rfl, rfl, rfl, by decide +kernel, rfl, by decide +kernel, by decide +kernel⟩
def t_number_at (K : PySem.W.Frag) (A : Ads) : TS :=
    (tSeq (tAsg (tC (.int 0)) (gName 3))
    (tSeq (tFor (RT.iRevA K (tSl (rSlL K) (tVar 0) (tPart (tVar 1)) (tPart (tOp qAdd (tVar 1) (tVar 2))))) (gName 4) (tAsg (tOp qAdd (tOp qMul (tC (.int 256)) (tVar 3)) (tVar 4)) (gName 3)))
    (tRet (tVar 3))))
theorem der_number_at (T : Txt K mg A) {f : Addr} {cdv : Value} {A0 : Around} {outer : List Env} {s : Shared} {H : Hp} {E : XK} (hr : Room 0 (A0.deeper (envOfC "number_at" (defScope s_number_at) s.heap.objs.size f cdv))) :
    PSs (cxOf CX0 P w K mg base ["code", "at", "many", "found", "byte"] "number_at" (defScope s_number_at) f cdv A0 outer s H E).nox (defBody s_number_at) (t_number_at K A) := by
  exact (pss_cons (ps_set (i := 3) sc_number_at.nd rfl (Or.inl rfl) pe_int)
      (pss_cons (ps_for PassesOwn.never rfl (RT.pi_revA (by rfl) T.f_reversed (pe_slice sl_list (pv 0) (po_some (pv 1)) (po_some (pe_op op_add (pv 1) (pv 2))))) (pg_name (i := 4) sc_number_at.nd rfl (Or.inl rfl)) (pss_one (ps_set (i := 3) sc_number_at.nd rfl (Or.inl rfl) (pe_op op_add (pe_op op_mul pe_int (pv 3)) (pv 4)))))
      (pss_one (ps_ret (pv 3)))))
abbrev s_signed_at : Stmt := top 3
theorem sc_signed_at : FnScope ["code", "at", "many", "found"] ["code", "at", "many"] (defScope s_signed_at) := ⟨rfl, rfl, rfl, by decide +kernel, rfl, by decide +kernel, by decide +kernel⟩
def t_signed_at (K : PySem.W.Frag) (A : Ads) : TS :=
    (tSeq (tAsg (tCall (sp_number_at K A) [] E0 (tCons (tVar 0) (tCons (tVar 1) (tCons (tVar 2) tNil)))) (gName 3))
    (tSeq (tIfS (tTest (tOp qGe (tOp (rIxL K) (tVar 0) (tOp qSub (tOp qAdd (tVar 1) (tVar 2)) (tC (.int 1)))) (tC (.int 128)))) (tRet (tOp qSub (tVar 3) (tOp qShl (tC (.int 1)) (tOp qMul (tC (.int 8)) (tVar 2))))) tNext)
    (tRet (tVar 3))))
theorem der_signed_at (T : Txt K mg A) (c_number_at : Callee P w K mg base 1 "number_at" ["code", "at", "many"] (sp_number_at K A)) {f : Addr} {cdv : Value} {A0 : Around} {outer : List Env} {s : Shared} {H : Hp} {E : XK} (hr : Room 1 (A0.deeper (envOfC "signed_at" (defScope s_signed_at) s.heap.objs.size f cdv))) :
    PSs (cxOf CX0 P w K mg base ["code", "at", "many", "found"] "signed_at" (defScope s_signed_at) f cdv A0 outer s H E).nox (defBody s_signed_at) (t_signed_at K A) := by
  exact (pss_cons (ps_set (i := 3) sc_signed_at.nd rfl (Or.inl rfl) (pe_cle c_number_at (hr.mono (by decide)) rfl (pa_cons (pv 0) (pa_cons (pv 1) (pa_cons (pv 2) pa_nil)))))
      (pss_cons (ps_if (pt_cmpR op_ge (pe_ix ix_list (pv 0) (pe_op op_sub (pe_op op_add (pv 1) (pv 2)) pe_int) (fun _ _ => rfl)) pe_int (nomark _)) (pss_one (ps_ret (pe_op op_sub (pv 3) (pe_op op_shl pe_int (pe_op op_mul pe_int (pv 2)))))) pss_nil)
      (pss_one (ps_ret (pv 3)))))
abbrev s_bytes_of : Stmt := top 4
theorem sc_bytes_of : FnScope ["number", "many", "found", "at"] ["number", "many"] (defScope s_bytes_of) := ⟨rfl, rfl, rfl, by decide +kernel, rfl, by decide +kernel, by decide +kernel⟩
def t_bytes_of (K : PySem.W.Frag) (A : Ads) : TS :=
    (tSeq (tAsg (tLst tNil) (gName 2))
    (tSeq (tFor (iRng1 (tCons (tVar 1) tNil)) (gName 3) (tDrop (tBM K "list" rAppend (tVar 2) (tCons (tOp qAnd (tOp qShr (tVar 0) (tOp qMul (tC (.int 8)) (tVar 3))) (tC (.int 255))) tNil))))
    (tRet (tVar 2))))
theorem der_bytes_of (T : Txt K mg A) {f : Addr} {cdv : Value} {A0 : Around} {outer : List Env} {s : Shared} {H : Hp} {E : XK} (hr : Room 0 (A0.deeper (envOfC "bytes_of" (defScope s_bytes_of) s.heap.objs.size f cdv))) :
    PSs (cxOf CX0 P w K mg base ["number", "many", "found", "at"] "bytes_of" (defScope s_bytes_of) f cdv A0 outer s H E).nox (defBody s_bytes_of) (t_bytes_of K A) := by
  exact (pss_cons (ps_set (i := 2) sc_bytes_of.nd rfl (Or.inl rfl) (pe_lst pa_nil))
      (pss_cons (ps_for PassesOwn.never rfl (pi_range1 rfl T.f_range (pa_cons (pv 1) pa_nil)) (pg_name (i := 3) sc_bytes_of.nd rfl (Or.inl rfl)) (pss_one (ps_expr (pe_bm PySem.F.plainAttrs_list PySem.F.slot_list_append PySem.F.type_list_append mt_append (pv 2) (pa_cons (pe_op op_and (pe_op op_shr (pv 0) (pe_op op_mul pe_int (pv 3))) pe_int) pa_nil)))))
      (pss_one (ps_ret (pv 2)))))
abbrev s_length_at : Stmt := top 11
theorem sc_length_at : FnScope ["code", "at", "first", "long"] ["code", "at"] (defScope s_length_at) := ⟨rfl, rfl, rfl, by decide +kernel, rfl, by decide +kernel, by decide +kernel⟩
def t_length_at (K : PySem.W.Frag) (A : Ads) : TS :=
    (tSeq (tAsg (tOp (rIxL K) (tVar 0) (tVar 1)) (gName 2))
    (tSeq (tAsg (tKGet A.le LENZ (tC (.ref A.le)) (tVar 2) (tC (.int 0))) (gName 3))
    (tSeq (tIfS (tOr (tTest (tOp qGt (tOp qAdd (tVar 1) (tVar 3)) (tCB (rLn K) (tCons (tVar 0) tNil)))) (tAnd (tTest (tOp (rIn K false) (tVar 2) (tC (.ref A.wi)))) (tTest (tOp qGe (tOp (rIxL K) (tVar 0) (tOp qAdd (tVar 1) (tC (.int 1)))) (tC (.int 16)))))) (tRet (tC (.int 0))) tNext)
    (tRet (tVar 3)))))
theorem der_length_at (T : Txt K mg A) {f : Addr} {cdv : Value} {A0 : Around} {outer : List Env} {s : Shared} {H : Hp} {E : XK} (hr : Room 0 (A0.deeper (envOfC "length_at" (defScope s_length_at) s.heap.objs.size f cdv))) :
    PSs (cxOf CX0 P w K mg base ["code", "at", "first", "long"] "length_at" (defScope s_length_at) f cdv A0 outer s H E).nox (defBody s_length_at) (t_length_at K A) := by
  exact (pss_cons (ps_set (i := 2) sc_length_at.nd rfl (Or.inl rfl) (pe_ix ix_list (pv 0) (pv 1) (fun _ _ => rfl)))
      (pss_cons (ps_set (i := 3) sc_length_at.nd rfl (Or.inl rfl) (pe_kget T.kLen (pe_gv T.gLENGTHS) (pv 2) pe_int ⟨rfl, rfl, rfl, rfl⟩))
      (pss_cons (ps_if (PW.pt (pw_or (pt_cmpR op_gt (pe_op op_add (pv 1) (pv 3)) (pe_callB call_len_seq (by rfl) T.f_len PySem.boot_len (pa_cons (pv 0) pa_nil)) (nomark _)) (pw_or1 (PW.pt (pw_and (pt_cmpR op_in_seq (pv 2) (pe_gv T.gWITH_ONE) (by rfl)) (pw_and1 (pt_cmpR op_ge (pe_ix ix_list (pv 0) (pe_op op_add (pv 1) pe_int) (fun _ _ => rfl)) (pe_gv T.gREGISTERS) (nomark _)))))))) (pss_one (ps_ret pe_int)) pss_nil)
      (pss_one (ps_ret (pv 3))))))
abbrev s_first_register : Stmt := top 12
theorem sc_first_register : FnScope ["code", "at"] ["code", "at"] (defScope s_first_register) := ⟨rfl, rfl, rfl, by decide +kernel, rfl, by decide +kernel, by decide +kernel⟩
def t_first_register (K : PySem.W.Frag) (A : Ads) : TS :=
    (tSeq (tIfS (tTest (tOp (rIn K false) (tOp (rIxL K) (tVar 0) (tVar 1)) (tC (.ref A.wi)))) (tRet (tOp (rIxL K) (tVar 0) (tOp qAdd (tVar 1) (tC (.int 1))))) tNext)
    (tRet (tOp qDiv (tOp (rIxL K) (tVar 0) (tOp qAdd (tVar 1) (tC (.int 1)))) (tC (.int 16)))))
theorem der_first_register (T : Txt K mg A) {f : Addr} {cdv : Value} {A0 : Around} {outer : List Env} {s : Shared} {H : Hp} {E : XK} (hr : Room 0 (A0.deeper (envOfC "first_register" (defScope s_first_register) s.heap.objs.size f cdv))) :
    PSs (cxOf CX0 P w K mg base ["code", "at"] "first_register" (defScope s_first_register) f cdv A0 outer s H E).nox (defBody s_first_register) (t_first_register K A) := by
  exact (pss_cons (ps_if (pt_cmpR op_in_seq (pe_ix ix_list (pv 0) (pv 1) (fun _ _ => rfl)) (pe_gv T.gWITH_ONE) (by rfl)) (pss_one (ps_ret (pe_ix ix_list (pv 0) (pe_op op_add (pv 1) pe_int) (fun _ _ => rfl)))) pss_nil)
      (pss_one (ps_ret (pe_op op_fdiv (pe_ix ix_list (pv 0) (pe_op op_add (pv 1) pe_int) (fun _ _ => rfl)) pe_int))))
abbrev s_second_register : Stmt := top 13
theorem sc_second_register : FnScope ["code", "at"] ["code", "at"] (defScope s_second_register) := ⟨rfl, rfl, rfl, by decide +kernel, rfl, by decide +kernel, by decide +kernel⟩
def t_second_register (K : PySem.W.Frag) (A : Ads) : TS :=
    (tRet (tOp qMod (tOp (rIxL K) (tVar 0) (tOp qAdd (tVar 1) (tC (.int 1)))) (tC (.int 16))))
theorem der_second_register (T : Txt K mg A) {f : Addr} {cdv : Value} {A0 : Around} {outer : List Env} {s : Shared} {H : Hp} {E : XK} (hr : Room 0 (A0.deeper (envOfC "second_register" (defScope s_second_register) s.heap.objs.size f cdv))) :
    PSs (cxOf CX0 P w K mg base ["code", "at"] "second_register" (defScope s_second_register) f cdv A0 outer s H E).nox (defBody s_second_register) (t_second_register K A) := by
  exact (pss_one (ps_ret (pe_op op_mod (pe_ix ix_list (pv 0) (pe_op op_add (pv 1) pe_int) (fun _ _ => rfl)) pe_int)))
abbrev s_place_told : Stmt := top 14
theorem sc_place_told : FnScope ["code", "at", "behind"] ["code", "at"] (defScope s_place_told) := ⟨rfl, rfl, rfl, by decide +kernel, rfl, by decide +kernel, by decide +kernel⟩
def t_place_told (K : PySem.W.Frag) (A : Ads) : TS :=
    (tSeq (tAsg (tOp qAdd (tVar 1) (tOp (rKIx A.le LENZ) (tC (.ref A.le)) (tOp (rIxL K) (tVar 0) (tVar 1)))) (gName 2))
    (tRet (tOp qAdd (tVar 2) (tCall (sp_signed_at K A) [] E0 (tCons (tVar 0) (tCons (tOp qSub (tVar 2) (tC (.int 4))) (tCons (tC (.int 4)) tNil)))))))
theorem der_place_told (T : Txt K mg A) (c_signed_at : Callee P w K mg base 2 "signed_at" ["code", "at", "many"] (sp_signed_at K A)) {f : Addr} {cdv : Value} {A0 : Around} {outer : List Env} {s : Shared} {H : Hp} {E : XK} (hr : Room 2 (A0.deeper (envOfC "place_told" (defScope s_place_told) s.heap.objs.size f cdv))) :
    PSs (cxOf CX0 P w K mg base ["code", "at", "behind"] "place_told" (defScope s_place_told) f cdv A0 outer s H E).nox (defBody s_place_told) (t_place_told K A) := by
  exact (pss_cons (ps_set (i := 2) sc_place_told.nd rfl (Or.inl rfl) (pe_op op_add (pv 1) (pe_ix (ix_kint T.kLen) (pe_gv T.gLENGTHS) (pe_ix ix_list (pv 0) (pv 1) (fun _ _ => rfl)) (fun _ _ => rfl))))
      (pss_one (ps_ret (pe_op op_add (pv 2) (pe_cle c_signed_at (hr.mono (by decide)) rfl (pa_cons (pv 0) (pa_cons (pe_op op_sub (pv 2) pe_int) (pa_cons pe_int pa_nil))))))))
abbrev s_whole_code : Stmt := top 15
theorem sc_whole_code : FnScope ["code"] ["code"] (defScope s_whole_code) := ⟨rfl, rfl, rfl, by decide +kernel, rfl, by decide +kernel, by decide +kernel⟩
def t_whole_code (K : PySem.W.Frag) (A : Ads) : TS :=
    (tRet (tOp rCat (tVar 0) (tOp rRep (tLst (tCons (tC (.int 0)) tNil)) (tOp qSub (tC (.int 65536)) (tCB (rLn K) (tCons (tVar 0) tNil))))))
theorem der_whole_code (T : Txt K mg A) {f : Addr} {cdv : Value} {A0 : Around} {outer : List Env} {s : Shared} {H : Hp} {E : XK} (hr : Room 0 (A0.deeper (envOfC "whole_code" (defScope s_whole_code) s.heap.objs.size f cdv))) :
    PSs (cxOf CX0 P w K mg base ["code"] "whole_code" (defScope s_whole_code) f cdv A0 outer s H E).nox (defBody s_whole_code) (t_whole_code K A) := by
  exact (pss_one (ps_ret (pe_op op_cat (pv 0) (pe_op op_rep (pe_lst (pa_cons pe_int pa_nil)) (pe_op op_sub (pe_gv T.gCODE) (pe_callB call_len_seq (by rfl) T.f_len PySem.boot_len (pa_cons (pv 0) pa_nil)))))))
abbrev s_fault_at : Stmt := top 22
theorem sc_fault_at : FnScope ["whole", "at", "long"] ["whole", "at"] (defScope s_fault_at) := ⟨rfl, rfl, rfl, by decide +kernel, rfl, by decide +kernel, by decide +kernel⟩
def t_fault_at (K : PySem.W.Frag) (A : Ads) : TS :=
    (tSeq (tAsg (tCall (sp_length_at K A) [] E0 (tCons (tVar 0) (tCons (tVar 1) tNil))) (gName 2))
    (tSeq (tIfS (tB (tEqI (tVar 2) (tC (.int 0)))) (tRet (tC (.int 1))) tNext)
    (tSeq (tIfS (tB (tNeI (tOp qDiv (tVar 1) (tC (.int 32))) (tOp qDiv (tOp qSub (tOp qAdd (tVar 1) (tVar 2)) (tC (.int 1))) (tC (.int 32))))) (tRet (tC (.int 2))) tNext)
    (tSeq (tIfS (tAnd (tTest (tOp (rIn K false) (tOp (rIxL K) (tVar 0) (tVar 1)) (tC (.ref A.se)))) (tTest (tOp (rIn K false) (tCall (sp_first_register K A) [] E0 (tCons (tVar 0) (tCons (tVar 1) tNil))) (tC (.ref A.ke))))) (tRet (tC (.int 3))) tNext)
    (tSeq (tIfS (tAnd (tTest (tOp (rIn K false) (tOp (rIxL K) (tVar 0) (tVar 1)) (tC (.ref A.re)))) (tTest (tOp (rIn K true) (tCall (sp_second_register K A) [] E0 (tCons (tVar 0) (tCons (tVar 1) tNil))) (tC (.ref A.fe))))) (tRet (tC (.int 4))) tNext)
    (tRet (tC (.int 0))))))))
theorem der_fault_at (T : Txt K mg A) (c_second_register : Callee P w K mg base 1 "second_register" ["code", "at"] (sp_second_register K A)) (c_first_register : Callee P w K mg base 1 "first_register" ["code", "at"] (sp_first_register K A)) (c_length_at : Callee P w K mg base 1 "length_at" ["code", "at"] (sp_length_at K A)) {f : Addr} {cdv : Value} {A0 : Around} {outer : List Env} {s : Shared} {H : Hp} {E : XK} (hr : Room 1 (A0.deeper (envOfC "fault_at" (defScope s_fault_at) s.heap.objs.size f cdv))) :
    PSs (cxOf CX0 P w K mg base ["whole", "at", "long"] "fault_at" (defScope s_fault_at) f cdv A0 outer s H E).nox (defBody s_fault_at) (t_fault_at K A) := by
  exact (pss_cons (ps_set (i := 2) sc_fault_at.nd rfl (Or.inl rfl) (pe_cle c_length_at (hr.mono (by decide)) rfl (pa_cons (pv 0) (pa_cons (pv 1) pa_nil))))
      (pss_cons (ps_if (pt_cmp (pc_eqI (pv 2) pe_int)) (pss_one (ps_ret pe_int)) pss_nil)
      (pss_cons (ps_if (pt_cmp (pc_neI (pe_op op_fdiv (pv 1) (pe_gv T.gBUNDLE)) (pe_op op_fdiv (pe_op op_sub (pe_op op_add (pv 1) (pv 2)) pe_int) (pe_gv T.gBUNDLE)))) (pss_one (ps_ret pe_int)) pss_nil)
      (pss_cons (ps_if (PW.pt (pw_and (pt_cmpR op_in_seq (pe_ix ix_list (pv 0) (pv 1) (fun _ _ => rfl)) (pe_gv T.gSETS) (by rfl)) (pw_and1 (pt_cmpR op_in_seq (pe_cle c_first_register (hr.mono (by decide)) rfl (pa_cons (pv 0) (pa_cons (pv 1) pa_nil))) (pe_gv T.gKEPT) (by rfl))))) (pss_one (ps_ret pe_int)) pss_nil)
      (pss_cons (ps_if (PW.pt (pw_and (pt_cmpR op_in_seq (pe_ix ix_list (pv 0) (pv 1) (fun _ _ => rfl)) (pe_gv T.gREACHES) (by rfl)) (pw_and1 (pt_cmpR op_notIn_seq (pe_cle c_second_register (hr.mono (by decide)) rfl (pa_cons (pv 0) (pa_cons (pv 1) pa_nil))) (pe_gv T.gFENCED) (by rfl))))) (pss_one (ps_ret pe_int)) pss_nil)
      (pss_one (ps_ret pe_int)))))))
abbrev s_beginnings : Stmt := top 23
theorem sc_beginnings : FnScope ["whole", "many", "places", "at", "fault"] ["whole", "many"] (defScope s_beginnings) := ⟨rfl, rfl, rfl, by decide +kernel, rfl, by decide +kernel, by decide +kernel⟩
def t_beginnings (K : PySem.W.Frag) (A : Ads) : TS :=
    (tSeq (tAsg (tLst tNil) (gName 2))
    (tSeq (tAsg (tC (.int 0)) (gName 3))
    (tSeq (tWhile (tTest (tOp qLt (tVar 3) (tVar 1))) (tSeq (tAsg (tCall (sp_fault_at K A) [] E0 (tCons (tVar 0) (tCons (tVar 3) tNil))) (gName 4))
    (tSeq (tIfS (tB (tNeI (tVar 4) (tC (.int 0)))) (tRet (tTup (tCons (tVar 2) (tCons (tVar 3) (tCons (tVar 4) tNil))))) tNext)
    (tSeq (tDrop (tBM K "list" rAppend (tVar 2) (tCons (tVar 3) tNil)))
    (tAug 3 (tCall (sp_length_at K A) [] E0 (tCons (tVar 0) (tCons (tVar 3) tNil))) (ipI fun i j => i + j))))))
    (tRet (tTup (tCons (tVar 2) (tCons (tVar 3) (tCons (tC (.int 0)) tNil))))))))
theorem der_beginnings (T : Txt K mg A) (c_length_at : Callee P w K mg base 1 "length_at" ["code", "at"] (sp_length_at K A)) (c_fault_at : Callee P w K mg base 2 "fault_at" ["whole", "at"] (sp_fault_at K A)) {f : Addr} {cdv : Value} {A0 : Around} {outer : List Env} {s : Shared} {H : Hp} {E : XK} (hr : Room 2 (A0.deeper (envOfC "beginnings" (defScope s_beginnings) s.heap.objs.size f cdv))) :
    PSs (cxOf CX0 P w K mg base ["whole", "many", "places", "at", "fault"] "beginnings" (defScope s_beginnings) f cdv A0 outer s H E).nox (defBody s_beginnings) (t_beginnings K A) := by
  exact (pss_cons (ps_set (i := 2) sc_beginnings.nd rfl (Or.inl rfl) (pe_lst pa_nil))
      (pss_cons (ps_set (i := 3) sc_beginnings.nd rfl (Or.inl rfl) pe_int)
      (pss_cons (ps_while PassesOwn.never (pt_cmpR op_lt (pv 3) (pv 1) (nomark _)) (pss_cons (ps_set (i := 4) sc_beginnings.nd rfl (Or.inl rfl) (pe_cle c_fault_at (hr.mono (by decide)) rfl (pa_cons (pv 0) (pa_cons (pv 3) pa_nil))))
      (pss_cons (ps_if (pt_cmp (pc_neI (pv 4) pe_int)) (pss_one (ps_ret (pe_tup (pa_cons (pv 2) (pa_cons (pv 3) (pa_cons (pv 4) pa_nil)))))) pss_nil)
      (pss_cons (ps_expr (pe_bm PySem.F.plainAttrs_list PySem.F.slot_list_append PySem.F.type_list_append mt_append (pv 2) (pa_cons (pv 3) pa_nil)))
      (pss_one (ps_aug (i := 3) sc_beginnings.nd rfl (.inl rfl) (pe_cle c_length_at (hr.mono (by decide)) rfl (pa_cons (pv 0) (pa_cons (pv 3) pa_nil))) ip_add))))))
      (pss_one (ps_ret (pe_tup (pa_cons (pv 2) (pa_cons (pv 3) (pa_cons pe_int pa_nil)))))))))
abbrev s_looked_at : Stmt := top 24
theorem sc_looked_at : FnScope ["whole", "many", "places", "end", "fault", "begun", "place", "told"] ["whole", "many"] (defScope s_looked_at) := ⟨rfl, rfl, rfl, by decide +kernel, rfl, by decide +kernel, by decide +kernel⟩
def t_looked_at (K : PySem.W.Frag) (A : Ads) : TS :=
    (tSeq (tAsg (tCall (sp_beginnings K A) [] E0 (tCons (tVar 0) (tCons (tVar 1) tNil))) (gTup K 3 (gCons (gName 2) (gCons (gName 3) (gCons (gName 4) gNil)))))
    (tSeq (tIfS (tB (tNeI (tVar 4) (tC (.int 0)))) (tRet (tLst (tCons (tVar 4) (tCons (tVar 3) tNil)))) tNext)
    (tSeq (tAsg tDNewK (gName 5))
    (tSeq (tFor (iList K (tVar 2)) (gName 6) (sDPut (tVar 5) (tVar 6) (tC (.bl true))))
    (tSeq (tFor (iList K (tVar 2)) (gName 6) (tIfS (tTest (tOp (rIn K false) (tOp (rIxL K) (tVar 0) (tVar 6)) (tC (.ref A.go)))) (tSeq (tAsg (tCall (sp_place_told K A) [] E0 (tCons (tVar 0) (tCons (tVar 6) tNil))) (gName 7))
    (tIfS (tAnd (tB (tDNotIn (tVar 7) (tVar 5))) (tOr (tTest (tOp qLt (tVar 7) (tVar 3))) (tTest (tOp qGe (tVar 7) (tC (.int 65536)))))) (tRet (tLst (tCons (tC (.int 5)) (tCons (tVar 6) tNil)))) tNext)) tNext))
    (tRet (tLst (tCons (tC (.int 0)) tNil))))))))
theorem der_looked_at (T : Txt K mg A) (c_place_told : Callee P w K mg base 3 "place_told" ["code", "at"] (sp_place_told K A)) (c_beginnings : Callee P w K mg base 3 "beginnings" ["whole", "many"] (sp_beginnings K A)) {f : Addr} {cdv : Value} {A0 : Around} {outer : List Env} {s : Shared} {H : Hp} {E : XK} (hr : Room 3 (A0.deeper (envOfC "looked_at" (defScope s_looked_at) s.heap.objs.size f cdv))) :
    PSs (cxOf CX0 P w K mg base ["whole", "many", "places", "end", "fault", "begun", "place", "told"] "looked_at" (defScope s_looked_at) f cdv A0 outer s H E).nox (defBody s_looked_at) (t_looked_at K A) := by
  exact (pss_cons (ps_asg (pe_cle c_beginnings (hr.mono (by decide)) rfl (pa_cons (pv 0) (pa_cons (pv 1) pa_nil))) (pg_tup rfl (pgs_cons (pg_name (i := 2) sc_looked_at.nd rfl (Or.inl rfl)) (pgs_cons (pg_name (i := 3) sc_looked_at.nd rfl (Or.inl rfl)) (pgs_cons (pg_name (i := 4) sc_looked_at.nd rfl (Or.inl rfl)) pgs_nil)))))
      (pss_cons (ps_if (pt_cmp (pc_neI (pv 4) pe_int)) (pss_one (ps_ret (pe_lst (pa_cons (pv 4) (pa_cons (pv 3) pa_nil))))) pss_nil)
      (pss_cons (ps_set (i := 5) sc_looked_at.nd rfl (Or.inl rfl) pe_dnewK)
      (pss_cons (ps_for PassesOwn.never rfl (pi_list (pv 2)) (pg_name (i := 6) sc_looked_at.nd rfl (Or.inl rfl)) (pss_one (ps_dput (hu_of hr) (pv 5) (pv 6) pe_bl rfl)))
      (pss_cons (ps_for PassesOwn.never rfl (pi_list (pv 2)) (pg_name (i := 6) sc_looked_at.nd rfl (Or.inl rfl)) (pss_one (ps_if (pt_cmpR op_in_seq (pe_ix ix_list (pv 0) (pv 6) (fun _ _ => rfl)) (pe_gv T.gGOES_ON) (by rfl)) (pss_cons (ps_set (i := 7) sc_looked_at.nd rfl (Or.inl rfl) (pe_cle c_place_told (hr.mono (by decide)) rfl (pa_cons (pv 0) (pa_cons (pv 6) pa_nil))))
      (pss_one (ps_if (PW.pt (pw_and (pt_cmp (pc_dnotin (hu_of hr) (pv 7) (pv 5)) rfl) (pw_and1 (PW.pt (pw_or (pt_cmpR op_lt (pv 7) (pv 3) (nomark _)) (pw_or1 (pt_cmpR op_ge (pv 7) (pe_gv T.gCODE) (nomark _)))))))) (pss_one (ps_ret (pe_lst (pa_cons pe_int (pa_cons (pv 6) pa_nil))))) pss_nil))) pss_nil)))
      (pss_one (ps_ret (pe_lst (pa_cons pe_int pa_nil)))))))))
abbrev s_mem_init : Stmt := inClass (top 28) 0
theorem sc_mem_init : FnScope ["self", "off", "given"] ["self", "off", "given"] (defScope s_mem_init) := ⟨rfl, rfl, rfl, by decide +kernel, rfl, by decide +kernel, by decide +kernel⟩
def t_mem_init (K : PySem.W.Frag) (A : Ads) : TS :=
    (tSeq (sFld K (tVar 0) (tOp rCat (tOp rCat (tOp rRep (tLst (tCons (tC (.int 0)) tNil)) (tVar 1)) (tCB (rLi K) (tCons (tVar 2) tNil))) (tOp rRep (tLst (tCons (tC (.int 0)) tNil)) (tOp qSub (tOp qSub (tC (.int 65536)) (tVar 1)) (tCB (rLn K) (tCons (tVar 2) tNil))))) "cells")
    (sFld K (tVar 0) tDNewK "before"))
theorem der_mem_init (T : Txt K mg A) {f : Addr} {cdv : Value} {A0 : Around} {outer : List Env} {s : Shared} {H : Hp} {E : XK} (hr : Room 0 (A0.deeper (envOfC "Memory.__init__" (defScope s_mem_init) s.heap.objs.size f cdv))) :
    PSs (cxOf CX0 P w K mg base ["self", "off", "given"] "Memory.__init__" (defScope s_mem_init) f cdv A0 outer s H E).nox (defBody s_mem_init) (t_mem_init K A) := by
  exact (pss_cons (ps_fld (pv 0) (pe_op op_cat (pe_op op_cat (pe_op op_rep (pe_lst (pa_cons pe_int pa_nil)) (pv 1)) (pe_callTy call_list_of (by rfl) T.f_list (by decide +kernel) (pa_cons (pv 2) pa_nil))) (pe_op op_rep (pe_lst (pa_cons pe_int pa_nil)) (pe_op op_sub (pe_op op_sub (pe_gv T.gBYTES) (pv 1)) (pe_callB call_len_seq (by rfl) T.f_len PySem.boot_len (pa_cons (pv 2) pa_nil))))) rfl)
      (pss_one (ps_fld (pv 0) pe_dnewK rfl)))
abbrev s_got : Stmt := inClass (top 28) 1
theorem sc_got : FnScope ["self", "place", "many", "found", "byte"] ["self", "place", "many"] (defScope s_got) := ⟨rfl, rfl, rfl, by decide +kernel, rfl, by decide +kernel, by decide +kernel⟩
def t_got (K : PySem.W.Frag) (A : Ads) : TS :=
    (tSeq (tAsg (tC (.int 0)) (gName 3))
    (tSeq (tFor (RT.iRevA K (tSl (rSlL K) (tFld K (tVar 0) "cells") (tPart (tVar 1)) (tPart (tOp qAdd (tVar 1) (tVar 2))))) (gName 4) (tAsg (tOp qAdd (tOp qMul (tC (.int 256)) (tVar 3)) (tVar 4)) (gName 3)))
    (tRet (tVar 3))))
theorem der_got (T : Txt K mg A) {f : Addr} {cdv : Value} {A0 : Around} {outer : List Env} {s : Shared} {H : Hp} {E : XK} (hr : Room 0 (A0.deeper (envOfC "Memory.got" (defScope s_got) s.heap.objs.size f cdv))) :
    PSs (cxOf CX0 P w K mg base ["self", "place", "many", "found", "byte"] "Memory.got" (defScope s_got) f cdv A0 outer s H E).nox (defBody s_got) (t_got K A) := by
  exact (pss_cons (ps_set (i := 3) sc_got.nd rfl (Or.inl rfl) pe_int)
      (pss_cons (ps_for PassesOwn.never rfl (RT.pi_revA (by rfl) T.f_reversed (pe_slice sl_list (pe_fld (pv 0) rfl) (po_some (pv 1)) (po_some (pe_op op_add (pv 1) (pv 2))))) (pg_name (i := 4) sc_got.nd rfl (Or.inl rfl)) (pss_one (ps_set (i := 3) sc_got.nd rfl (Or.inl rfl) (pe_op op_add (pe_op op_mul pe_int (pv 3)) (pv 4)))))
      (pss_one (ps_ret (pv 3)))))
abbrev s_put : Stmt := inClass (top 28) 2
theorem sc_put : FnScope ["self", "place", "given", "at", "byte"] ["self", "place", "given"] (defScope s_put) := ⟨rfl, rfl, rfl, by decide +kernel, rfl, by decide +kernel, by decide +kernel⟩
def t_put (K : PySem.W.Frag) (A : Ads) : TS :=
    (tFor (iEnum K (tCons (tVar 2) tNil)) (gTup K 2 (gCons (gName 3) (gCons (gName 4) gNil))) (tSeq (tDrop (tDSetd (tFld K (tVar 0) "before") (tOp qAdd (tVar 1) (tVar 3)) (tOp (rIxL K) (tFld K (tVar 0) "cells") (tOp qAdd (tVar 1) (tVar 3)))))
    (tAsg (tVar 4) (gSub (tFld K (tVar 0) "cells") (tOp qAdd (tVar 1) (tVar 3)) rSetL))))
theorem der_put (T : Txt K mg A) {f : Addr} {cdv : Value} {A0 : Around} {outer : List Env} {s : Shared} {H : Hp} {E : XK} (hr : Room 0 (A0.deeper (envOfC "Memory.put" (defScope s_put) s.heap.objs.size f cdv))) :
    PSs (cxOf CX0 P w K mg base ["self", "place", "given", "at", "byte"] "Memory.put" (defScope s_put) f cdv A0 outer s H E).nox (defBody s_put) (t_put K A) := by
  exact (pss_one (ps_for PassesOwn.never rfl (pi_enum (by rfl) T.f_enumerate (pa_cons (pv 2) pa_nil)) (pg_tup rfl (pgs_cons (pg_name (i := 3) sc_put.nd rfl (Or.inl rfl)) (pgs_cons (pg_name (i := 4) sc_put.nd rfl (Or.inl rfl)) pgs_nil))) (pss_cons (ps_expr (pe_dsetd (pe_fld (pv 0) rfl) (pe_op op_add (pv 1) (pv 3)) (pe_ix ix_list (pe_fld (pv 0) rfl) (pe_op op_add (pv 1) (pv 3)) (fun _ _ => rfl)) ⟨rfl, rfl, rfl, rfl⟩))
      (pss_one (ps_asg (pv 4) (pg_sub (pe_fld (pv 0) rfl) (pe_op op_add (pv 1) (pv 3)) set_list))))))
abbrev s_changed : Stmt := inClass (top 28) 3
theorem sc_changed : FnScope ["self", "place"] ["self"] (defScope s_changed) := ⟨rfl, rfl, rfl, by decide +kernel, rfl, by decide +kernel, by decide +kernel⟩
def t_changed (K : PySem.W.Frag) (A : Ads) : TS :=
    (tRet (tLc (iList K (tCB rSortD (tCons (tFld K (tVar 0) "before") tNil))) (gName 1) (tB (tNeI (tOp (rIxL K) (tFld K (tVar 0) "cells") (tVar 1)) (tDGet (tFld K (tVar 0) "before") (tVar 1)))) (tVar 1) [1]))
theorem der_changed (T : Txt K mg A) {f : Addr} {cdv : Value} {A0 : Around} {outer : List Env} {s : Shared} {H : Hp} {E : XK} (hr : Room 0 (A0.deeper (envOfC "Memory.changed" (defScope s_changed) s.heap.objs.size f cdv))) :
    PSs (cxOf CX0 P w K mg base ["self", "place"] "Memory.changed" (defScope s_changed) f cdv A0 outer s H E).nox (defBody s_changed) (t_changed K A) := by
  exact (pss_one (ps_ret (pe_lc (own := [("place", 1)]) (g := gName 1) (tt := (tB (tNeI (tOp (rIxL K) (tFld K (tVar 0) "cells") (tVar 1)) (tDGet (tFld K (tVar 0) "before") (tVar 1))))) rfl sc_changed.nd (pi_list (pe_callB (cr_sortD rfl) (by rfl) T.f_sorted (by decide +kernel) (pa_cons (pe_fld (pv 0) rfl) pa_nil))) (blkOk_by (own := [("place", 1)]) (N := ["self", "place"]) (sc := defScope s_changed) (by decide +kernel)) (fun _ _ _ _ _ => pg_name (i := 1) sc_changed.nd rfl (Or.inl rfl)) (fun _ _ _ _ _ => pts_one (pt_cmp (pc_neI (pe_ix ix_list (pe_fld (pv 0) rfl) (pv 1) (fun _ _ => rfl)) (pe_dget (hu_of hr) (pe_fld (pv 0) rfl) (pv 1) (fun _ _ => rfl))))) (fun _ _ _ _ _ => (pv 1)))))
abbrev s_fence : Stmt := top 29
theorem sc_fence : FnScope ["address", "many"] ["address", "many"] (defScope s_fence) := ⟨rfl, rfl, rfl, by decide +kernel, rfl, by decide +kernel, by decide +kernel⟩
def t_fence (K : PySem.W.Frag) (A : Ads) : TS :=
    (tSeq (tIfS (tAnd (tTest (tOp qGe (tVar 0) (tC (.int 4294967296)))) (tTest (tOp qLe (tOp qAdd (tVar 0) (tVar 1)) (tOp qAdd (tC (.int 4294967296)) (tC (.int 65536)))))) (tRet (tC (.int 0))) tNext)
    (tSeq (tIfS (tAnd (tTest (tOp qGe (tVar 0) (tOp qSub (tC (.int 4294967296)) (tC (.int 65536))))) (tTest (tOp qLe (tOp qAdd (tVar 0) (tVar 1)) (tOp qAdd (tC (.int 4294967296)) (tOp qMul (tC (.int 2)) (tC (.int 65536))))))) (tRet (tC (.int 2))) tNext)
    (tRet (tC (.int 3)))))
theorem der_fence (T : Txt K mg A) {f : Addr} {cdv : Value} {A0 : Around} {outer : List Env} {s : Shared} {H : Hp} {E : XK} (hr : Room 0 (A0.deeper (envOfC "fence" (defScope s_fence) s.heap.objs.size f cdv))) :
    PSs (cxOf CX0 P w K mg base ["address", "many"] "fence" (defScope s_fence) f cdv A0 outer s H E).nox (defBody s_fence) (t_fence K A) := by
  exact (pss_cons (ps_if (PW.pt (pw_and (pt_cmpR op_ge (pv 0) (pe_gv T.gFIRST) (nomark _)) (pw_and1 (pt_cmpR op_le (pe_op op_add (pv 0) (pv 1)) (pe_op op_add (pe_gv T.gFIRST) (pe_gv T.gBYTES)) (nomark _))))) (pss_one (ps_ret pe_int)) pss_nil)
      (pss_cons (ps_if (PW.pt (pw_and (pt_cmpR op_ge (pv 0) (pe_op op_sub (pe_gv T.gFIRST) (pe_gv T.gBYTES)) (nomark _)) (pw_and1 (pt_cmpR op_le (pe_op op_add (pv 0) (pv 1)) (pe_op op_add (pe_gv T.gFIRST) (pe_op op_mul pe_int (pe_gv T.gBYTES))) (nomark _))))) (pss_one (ps_ret pe_int)) pss_nil)
      (pss_one (ps_ret pe_int))))
abbrev s_reckoned : Stmt := top 36
theorem sc_reckoned : FnScope ["kind", "one", "other"] ["kind", "one", "other"] (defScope s_reckoned) := ⟨rfl, rfl, rfl, by decide +kernel, rfl, by decide +kernel, by decide +kernel⟩
def t_reckoned (K : PySem.W.Frag) (A : Ads) : TS :=
    (tSeq (tIfS (tB (tEqI (tVar 0) (tC (.int 3)))) (tRet (tVar 2)) tNext)
    (tSeq (tIfS (tB (tEqI (tVar 0) (tC (.int 4)))) (tRet (tOp qAdd (tVar 1) (tVar 2))) tNext)
    (tSeq (tIfS (tB (tEqI (tVar 0) (tC (.int 5)))) (tRet (tOp qSub (tVar 1) (tVar 2))) tNext)
    (tSeq (tIfS (tB (tEqI (tVar 0) (tC (.int 6)))) (tRet (tOp qMul (tVar 1) (tVar 2))) tNext)
    (tSeq (tIfS (tB (tEqI (tVar 0) (tC (.int 7)))) (tRet (tOp qAnd (tVar 1) (tVar 2))) tNext)
    (tSeq (tIfS (tB (tEqI (tVar 0) (tC (.int 8)))) (tRet (tOp qOr (tVar 1) (tVar 2))) tNext)
    (tSeq (tIfS (tB (tEqI (tVar 0) (tC (.int 9)))) (tRet (tOp qXor (tVar 1) (tVar 2))) tNext)
    (tSeq (tIfS (tB (tEqI (tVar 0) (tC (.int 10)))) (tRet (tOp qShl (tVar 1) (tOp qMod (tVar 2) (tC (.int 64))))) tNext)
    (tRet (tOp qShr (tVar 1) (tOp qMod (tVar 2) (tC (.int 64)))))))))))))
theorem der_reckoned (T : Txt K mg A) {f : Addr} {cdv : Value} {A0 : Around} {outer : List Env} {s : Shared} {H : Hp} {E : XK} (hr : Room 0 (A0.deeper (envOfC "reckoned" (defScope s_reckoned) s.heap.objs.size f cdv))) :
    PSs (cxOf CX0 P w K mg base ["kind", "one", "other"] "reckoned" (defScope s_reckoned) f cdv A0 outer s H E).nox (defBody s_reckoned) (t_reckoned K A) := by
  exact (pss_cons (ps_if (pt_cmp (pc_eqI (pv 0) pe_int)) (pss_one (ps_ret (pv 2))) pss_nil)
      (pss_cons (ps_if (pt_cmp (pc_eqI (pv 0) pe_int)) (pss_one (ps_ret (pe_op op_add (pv 1) (pv 2)))) pss_nil)
      (pss_cons (ps_if (pt_cmp (pc_eqI (pv 0) pe_int)) (pss_one (ps_ret (pe_op op_sub (pv 1) (pv 2)))) pss_nil)
      (pss_cons (ps_if (pt_cmp (pc_eqI (pv 0) pe_int)) (pss_one (ps_ret (pe_op op_mul (pv 1) (pv 2)))) pss_nil)
      (pss_cons (ps_if (pt_cmp (pc_eqI (pv 0) pe_int)) (pss_one (ps_ret (pe_op op_and (pv 1) (pv 2)))) pss_nil)
      (pss_cons (ps_if (pt_cmp (pc_eqI (pv 0) pe_int)) (pss_one (ps_ret (pe_op op_or (pv 1) (pv 2)))) pss_nil)
      (pss_cons (ps_if (pt_cmp (pc_eqI (pv 0) pe_int)) (pss_one (ps_ret (pe_op op_xor (pv 1) (pv 2)))) pss_nil)
      (pss_cons (ps_if (pt_cmp (pc_eqI (pv 0) pe_int)) (pss_one (ps_ret (pe_op op_shl (pv 1) (pe_op op_mod (pv 2) pe_int)))) pss_nil)
      (pss_one (ps_ret (pe_op op_shr (pv 1) (pe_op op_mod (pv 2) pe_int))))))))))))
abbrev s_mac_init : Stmt := inClass (top 37) 0
theorem sc_mac_init : FnScope ["self", "code", "place", "registers", "memory"] ["self", "code", "place", "registers", "memory"] (defScope s_mac_init) := ⟨rfl, rfl, rfl, by decide +kernel, rfl, by decide +kernel, by decide +kernel⟩
def t_mac_init (K : PySem.W.Frag) (A : Ads) : TS :=
    (tSeq (sFld K (tVar 0) (tVar 1) "code")
    (tSeq (sFld K (tVar 0) (tVar 2) "place")
    (tSeq (sFld K (tVar 0) (tCB (rLi K) (tCons (tVar 3) tNil)) "registers")
    (sFld K (tVar 0) (tVar 4) "memory"))))
theorem der_mac_init (T : Txt K mg A) {f : Addr} {cdv : Value} {A0 : Around} {outer : List Env} {s : Shared} {H : Hp} {E : XK} (hr : Room 0 (A0.deeper (envOfC "Machine.__init__" (defScope s_mac_init) s.heap.objs.size f cdv))) :
    PSs (cxOf CX0 P w K mg base ["self", "code", "place", "registers", "memory"] "Machine.__init__" (defScope s_mac_init) f cdv A0 outer s H E).nox (defBody s_mac_init) (t_mac_init K A) := by
  exact (pss_cons (ps_fld (pv 0) (pv 1) rfl)
      (pss_cons (ps_fld (pv 0) (pv 2) rfl)
      (pss_cons (ps_fld (pv 0) (pe_callTy call_list_of (by rfl) T.f_list (by decide +kernel) (pa_cons (pv 3) pa_nil)) rfl)
      (pss_one (ps_fld (pv 0) (pv 4) rfl)))))
abbrev s_give : Stmt := inClass (top 37) 1
theorem sc_give : FnScope ["self", "which", "number"] ["self", "which", "number"] (defScope s_give) := ⟨rfl, rfl, rfl, by decide +kernel, rfl, by decide +kernel, by decide +kernel⟩
def t_give (K : PySem.W.Frag) (A : Ads) : TS :=
    (tAsg (tOp qMod (tVar 2) (tC (.int 18446744073709551616))) (gSub (tFld K (tVar 0) "registers") (tVar 1) rSetL))
theorem der_give (T : Txt K mg A) {f : Addr} {cdv : Value} {A0 : Around} {outer : List Env} {s : Shared} {H : Hp} {E : XK} (hr : Room 0 (A0.deeper (envOfC "Machine.give" (defScope s_give) s.heap.objs.size f cdv))) :
    PSs (cxOf CX0 P w K mg base ["self", "which", "number"] "Machine.give" (defScope s_give) f cdv A0 outer s H E).nox (defBody s_give) (t_give K A) := by
  exact (pss_one (ps_asg (pe_op op_mod (pv 2) (pe_gv T.gWORD)) (pg_sub (pe_fld (pv 0) rfl) (pv 1) set_list)))
abbrev s_go : Stmt := inClass (top 37) 2
theorem sc_go : FnScope ["self", "place"] ["self", "place"] (defScope s_go) := ⟨rfl, rfl, rfl, by decide +kernel, rfl, by decide +kernel, by decide +kernel⟩
def t_go (K : PySem.W.Frag) (A : Ads) : TS :=
    (tSeq (tIfS (tOr (tTest (tOp qLt (tVar 1) (tC (.int 0)))) (tTest (tOp qGe (tVar 1) (tC (.int 65536))))) (tRet (tTup (tCons (tC (.int 4)) (tCons (tC (.int 0)) tNil)))) tNext)
    (tSeq (sFld K (tVar 0) (tVar 1) "place")
    (tRet (tC .non))))
theorem der_go (T : Txt K mg A) {f : Addr} {cdv : Value} {A0 : Around} {outer : List Env} {s : Shared} {H : Hp} {E : XK} (hr : Room 0 (A0.deeper (envOfC "Machine.go" (defScope s_go) s.heap.objs.size f cdv))) :
    PSs (cxOf CX0 P w K mg base ["self", "place"] "Machine.go" (defScope s_go) f cdv A0 outer s H E).nox (defBody s_go) (t_go K A) := by
  exact (pss_cons (ps_if (PW.pt (pw_or (pt_cmpR op_lt (pv 1) pe_int (nomark _)) (pw_or1 (pt_cmpR op_ge (pv 1) (pe_gv T.gCODE) (nomark _))))) (pss_one (ps_ret (pe_tup (pa_cons (pe_gv T.gNOWHERE) (pa_cons pe_int pa_nil))))) pss_nil)
      (pss_cons (ps_fld (pv 0) (pv 1) rfl)
      (pss_one (ps_ret pe_non))))
abbrev s_reach : Stmt := inClass (top 37) 3
theorem sc_reach : FnScope ["self", "kind", "long", "one", "address", "many", "end"] ["self", "kind", "long"] (defScope s_reach) := ⟨rfl, rfl, rfl, by decide +kernel, rfl, by decide +kernel, by decide +kernel⟩
def t_reach (K : PySem.W.Frag) (A : Ads) : TS :=
    (tSeq (tAsg (tCall (sp_first_register K A) [] E0 (tCons (tFld K (tVar 0) "code") (tCons (tFld K (tVar 0) "place") tNil))) (gName 3))
    (tSeq (tAsg (tOp qAdd (tOp (rIxL K) (tFld K (tVar 0) "registers") (tCall (sp_second_register K A) [] E0 (tCons (tFld K (tVar 0) "code") (tCons (tFld K (tVar 0) "place") tNil)))) (tCall (sp_signed_at K A) [] E0 (tCons (tFld K (tVar 0) "code") (tCons (tOp qAdd (tFld K (tVar 0) "place") (tC (.int 2))) (tCons (tC (.int 2)) tNil))))) (gName 4))
    (tSeq (tAsg (tOp qMod (tVar 4) (tC (.int 18446744073709551616))) (gName 4))
    (tSeq (tAsg (tC (.int 1)) (gName 5))
    (tSeq (tIfS (tTest (tOp (rIn K false) (tVar 1) (tTup (tCons (tC (.int 17)) (tCons (tC (.int 19)) tNil))))) (tAsg (tC (.int 8)) (gName 5)) tNext)
    (tSeq (tAsg (tCall (sp_fence K A) [] E0 (tCons (tVar 4) (tCons (tVar 5) tNil))) (gName 6))
    (tSeq (tIfS (tB (tNeI (tVar 6) (tC (.int 0)))) (tRet (tTup (tCons (tVar 6) (tCons (tVar 4) tNil)))) tNext)
    (tSeq (tIfS (tTest (tOp qLt (tVar 1) (tC (.int 18)))) (tDrop (tMeth A.mac "give" (sp_give K A) [] E0 (tVar 0) (tCons (tVar 3) (tCons (tMeth A.mem "got" (sp_got K A) [] E0 (tFld K (tVar 0) "memory") (tCons (tOp qSub (tVar 4) (tC (.int 4294967296))) (tCons (tVar 5) tNil))) tNil)))) (tDrop (tMeth A.mem "put" (sp_put K A) [] E0 (tFld K (tVar 0) "memory") (tCons (tOp qSub (tVar 4) (tC (.int 4294967296))) (tCons (tCall (sp_bytes_of K A) [] E0 (tCons (tOp (rIxL K) (tFld K (tVar 0) "registers") (tVar 3)) (tCons (tVar 5) tNil))) tNil)))))
    (tRet (tMeth A.mac "go" (sp_go K A) [] E0 (tVar 0) (tCons (tOp qAdd (tFld K (tVar 0) "place") (tVar 2)) tNil)))))))))))
theorem der_reach (T : Txt K mg A) (c_go : Metd P w K mg base 1 A.mac "go" ["self", "place"] (sp_go K A)) (c_give : Metd P w K mg base 1 A.mac "give" ["self", "which", "number"] (sp_give K A)) (c_got : Metd P w K mg base 1 A.mem "got" ["self", "place", "many"] (sp_got K A)) (c_put : Metd P w K mg base 1 A.mem "put" ["self", "place", "given"] (sp_put K A)) (c_bytes_of : Callee P w K mg base 1 "bytes_of" ["number", "many"] (sp_bytes_of K A)) (c_fence : Callee P w K mg base 1 "fence" ["address", "many"] (sp_fence K A)) (c_second_register : Callee P w K mg base 1 "second_register" ["code", "at"] (sp_second_register K A)) (c_signed_at : Callee P w K mg base 2 "signed_at" ["code", "at", "many"] (sp_signed_at K A)) (c_first_register : Callee P w K mg base 1 "first_register" ["code", "at"] (sp_first_register K A)) {f : Addr} {cdv : Value} {A0 : Around} {outer : List Env} {s : Shared} {H : Hp} {E : XK} (hr : Room 2 (A0.deeper (envOfC "Machine.reach" (defScope s_reach) s.heap.objs.size f cdv))) :
    PSs (cxOf CX0 P w K mg base ["self", "kind", "long", "one", "address", "many", "end"] "Machine.reach" (defScope s_reach) f cdv A0 outer s H E).nox (defBody s_reach) (t_reach K A) := by
  exact (pss_cons (ps_set (i := 3) sc_reach.nd rfl (Or.inl rfl) (pe_cle c_first_register (hr.mono (by decide)) rfl (pa_cons (pe_fld (pv 0) rfl) (pa_cons (pe_fld (pv 0) rfl) pa_nil))))
      (pss_cons (ps_set (i := 4) sc_reach.nd rfl (Or.inl rfl) (pe_op op_add (pe_ix ix_list (pe_fld (pv 0) rfl) (pe_cle c_second_register (hr.mono (by decide)) rfl (pa_cons (pe_fld (pv 0) rfl) (pa_cons (pe_fld (pv 0) rfl) pa_nil))) (fun _ _ => rfl)) (pe_cle c_signed_at (hr.mono (by decide)) rfl (pa_cons (pe_fld (pv 0) rfl) (pa_cons (pe_op op_add (pe_fld (pv 0) rfl) pe_int) (pa_cons pe_int pa_nil))))))
      (pss_cons (ps_set (i := 4) sc_reach.nd rfl (Or.inl rfl) (pe_op op_mod (pv 4) (pe_gv T.gWORD)))
      (pss_cons (ps_set (i := 5) sc_reach.nd rfl (Or.inl rfl) pe_int)
      (pss_cons (ps_if (pt_cmpR op_in_seq (pv 1) (pe_tup (pa_cons pe_int (pa_cons pe_int pa_nil))) (by rfl)) (pss_one (ps_set (i := 5) sc_reach.nd rfl (Or.inl rfl) pe_int)) pss_nil)
      (pss_cons (ps_set (i := 6) sc_reach.nd rfl (Or.inl rfl) (pe_cle c_fence (hr.mono (by decide)) rfl (pa_cons (pv 4) (pa_cons (pv 5) pa_nil))))
      (pss_cons (ps_if (pt_cmp (pc_neI (pv 6) pe_int)) (pss_one (ps_ret (pe_tup (pa_cons (pv 6) (pa_cons (pv 4) pa_nil))))) pss_nil)
      (pss_cons (ps_if (pt_cmpR op_lt (pv 1) pe_int (nomark _)) (pss_one (ps_expr (pe_mtd (pv 0) T.cl_mac c_give (hr.mono (by decide)) (pa_cons (pv 3) (pa_cons (pe_mtd (pe_fld (pv 0) rfl) T.cl_mem c_got (hr.mono (by decide)) (pa_cons (pe_op op_sub (pv 4) (pe_gv T.gFIRST)) (pa_cons (pv 5) pa_nil))) pa_nil))))) (pss_one (ps_expr (pe_mtd (pe_fld (pv 0) rfl) T.cl_mem c_put (hr.mono (by decide)) (pa_cons (pe_op op_sub (pv 4) (pe_gv T.gFIRST)) (pa_cons (pe_cle c_bytes_of (hr.mono (by decide)) rfl (pa_cons (pe_ix ix_list (pe_fld (pv 0) rfl) (pv 3) (fun _ _ => rfl)) (pa_cons (pv 5) pa_nil))) pa_nil))))))
      (pss_one (ps_ret (pe_mtd (pv 0) T.cl_mac c_go (hr.mono (by decide)) (pa_cons (pe_op op_add (pe_fld (pv 0) rfl) (pv 2)) pa_nil))))))))))))
abbrev s_turn : Stmt := inClass (top 37) 4
theorem sc_turn : FnScope ["self", "kind", "behind", "there", "one"] ["self", "kind", "behind"] (defScope s_turn) := ⟨rfl, rfl, rfl, by decide +kernel, rfl, by decide +kernel, by decide +kernel⟩
def t_turn (K : PySem.W.Frag) (A : Ads) : TS :=
    (tSeq (tIfS (tB (tEqI (tVar 1) (tC (.int 32)))) (tRet (tMeth A.mac "go" (sp_go K A) [] E0 (tVar 0) (tCons (tOp qSub (tOp (rIxL K) (tFld K (tVar 0) "registers") (tC (.int 14))) (tC (.int 8589934592))) tNil))) tNext)
    (tSeq (tAsg (tCall (sp_place_told K A) [] E0 (tCons (tFld K (tVar 0) "code") (tCons (tFld K (tVar 0) "place") tNil))) (gName 3))
    (tSeq (tIfS (tAnd (tB (tEqI (tVar 1) (tC (.int 34)))) (tB (tNeI (tOp (rIxL K) (tFld K (tVar 0) "registers") (tCall (sp_first_register K A) [] E0 (tCons (tFld K (tVar 0) "code") (tCons (tFld K (tVar 0) "place") tNil)))) (tC (.int 0))))) (tAsg (tVar 2) (gName 3)) tNext)
    (tSeq (tIfS (tB (tEqI (tVar 1) (tC (.int 35)))) (tSeq (tAsg (tOp (rIxL K) (tFld K (tVar 0) "registers") (tCall (sp_first_register K A) [] E0 (tCons (tFld K (tVar 0) "code") (tCons (tFld K (tVar 0) "place") tNil)))) (gName 4))
    (tIfS (tTest (tOp qGe (tVar 4) (tOp (rIxL K) (tFld K (tVar 0) "registers") (tCall (sp_second_register K A) [] E0 (tCons (tFld K (tVar 0) "code") (tCons (tFld K (tVar 0) "place") tNil)))))) (tAsg (tVar 2) (gName 3)) tNext)) tNext)
    (tSeq (tIfS (tB (tEqI (tVar 1) (tC (.int 36)))) (tDrop (tMeth A.mac "give" (sp_give K A) [] E0 (tVar 0) (tCons (tC (.int 12)) (tCons (tOp qAdd (tC (.int 8589934592)) (tVar 2)) tNil)))) tNext)
    (tRet (tMeth A.mac "go" (sp_go K A) [] E0 (tVar 0) (tCons (tVar 3) tNil))))))))
theorem der_turn (T : Txt K mg A) (c_go : Metd P w K mg base 1 A.mac "go" ["self", "place"] (sp_go K A)) (c_give : Metd P w K mg base 1 A.mac "give" ["self", "which", "number"] (sp_give K A)) (c_second_register : Callee P w K mg base 1 "second_register" ["code", "at"] (sp_second_register K A)) (c_first_register : Callee P w K mg base 1 "first_register" ["code", "at"] (sp_first_register K A)) (c_place_told : Callee P w K mg base 3 "place_told" ["code", "at"] (sp_place_told K A)) {f : Addr} {cdv : Value} {A0 : Around} {outer : List Env} {s : Shared} {H : Hp} {E : XK} (hr : Room 3 (A0.deeper (envOfC "Machine.turn" (defScope s_turn) s.heap.objs.size f cdv))) :
    PSs (cxOf CX0 P w K mg base ["self", "kind", "behind", "there", "one"] "Machine.turn" (defScope s_turn) f cdv A0 outer s H E).nox (defBody s_turn) (t_turn K A) := by
  exact (pss_cons (ps_if (pt_cmp (pc_eqI (pv 1) pe_int)) (pss_one (ps_ret (pe_mtd (pv 0) T.cl_mac c_go (hr.mono (by decide)) (pa_cons (pe_op op_sub (pe_ix ix_list (pe_fld (pv 0) rfl) pe_int (fun _ _ => rfl)) (pe_gv T.gBASE)) pa_nil)))) pss_nil)
      (pss_cons (ps_set (i := 3) sc_turn.nd rfl (Or.inl rfl) (pe_cle c_place_told (hr.mono (by decide)) rfl (pa_cons (pe_fld (pv 0) rfl) (pa_cons (pe_fld (pv 0) rfl) pa_nil))))
      (pss_cons (ps_if (PW.pt (pw_and (pt_cmp (pc_eqI (pv 1) pe_int)) (pw_and1 (pt_cmp (pc_neI (pe_ix ix_list (pe_fld (pv 0) rfl) (pe_cle c_first_register (hr.mono (by decide)) rfl (pa_cons (pe_fld (pv 0) rfl) (pa_cons (pe_fld (pv 0) rfl) pa_nil))) (fun _ _ => rfl)) pe_int))))) (pss_one (ps_set (i := 3) sc_turn.nd rfl (Or.inl rfl) (pv 2))) pss_nil)
      (pss_cons (ps_if (pt_cmp (pc_eqI (pv 1) pe_int)) (pss_cons (ps_set (i := 4) sc_turn.nd rfl (Or.inl rfl) (pe_ix ix_list (pe_fld (pv 0) rfl) (pe_cle c_first_register (hr.mono (by decide)) rfl (pa_cons (pe_fld (pv 0) rfl) (pa_cons (pe_fld (pv 0) rfl) pa_nil))) (fun _ _ => rfl)))
      (pss_one (ps_if (pt_cmpR op_ge (pv 4) (pe_ix ix_list (pe_fld (pv 0) rfl) (pe_cle c_second_register (hr.mono (by decide)) rfl (pa_cons (pe_fld (pv 0) rfl) (pa_cons (pe_fld (pv 0) rfl) pa_nil))) (fun _ _ => rfl)) (nomark _)) (pss_one (ps_set (i := 3) sc_turn.nd rfl (Or.inl rfl) (pv 2))) pss_nil))) pss_nil)
      (pss_cons (ps_if (pt_cmp (pc_eqI (pv 1) pe_int)) (pss_one (ps_expr (pe_mtd (pv 0) T.cl_mac c_give (hr.mono (by decide)) (pa_cons pe_int (pa_cons (pe_op op_add (pe_gv T.gBASE) (pv 2)) pa_nil))))) pss_nil)
      (pss_one (ps_ret (pe_mtd (pv 0) T.cl_mac c_go (hr.mono (by decide)) (pa_cons (pv 3) pa_nil)))))))))
abbrev s_keep : Stmt := inClass (top 37) 5
theorem sc_keep : FnScope ["self", "kind", "low"] ["self", "kind"] (defScope s_keep) := ⟨rfl, rfl, rfl, by decide +kernel, rfl, by decide +kernel, by decide +kernel⟩
def t_keep (K : PySem.W.Frag) (A : Ads) : TS :=
    (tSeq (tAsg (tOp qMod (tOp (rIxL K) (tFld K (tVar 0) "registers") (tCall (sp_first_register K A) [] E0 (tCons (tFld K (tVar 0) "code") (tCons (tFld K (tVar 0) "place") tNil)))) (tC (.int 65536))) (gName 2))
    (tIfS (tB (tEqI (tVar 1) (tC (.int 24)))) (tDrop (tMeth A.mac "give" (sp_give K A) [] E0 (tVar 0) (tCons (tC (.int 13)) (tCons (tOp qAdd (tC (.int 4294967296)) (tVar 2)) tNil)))) (tIfS (tB (tEqI (tVar 1) (tC (.int 25)))) (tDrop (tMeth A.mac "give" (sp_give K A) [] E0 (tVar 0) (tCons (tC (.int 15)) (tCons (tOp qAdd (tC (.int 4294967296)) (tVar 2)) tNil)))) (tDrop (tMeth A.mac "give" (sp_give K A) [] E0 (tVar 0) (tCons (tC (.int 14)) (tCons (tOp qAdd (tC (.int 8589934592)) (tOp qMul (tOp qDiv (tVar 2) (tC (.int 32))) (tC (.int 32)))) tNil)))))))
theorem der_keep (T : Txt K mg A) (c_give : Metd P w K mg base 1 A.mac "give" ["self", "which", "number"] (sp_give K A)) (c_first_register : Callee P w K mg base 1 "first_register" ["code", "at"] (sp_first_register K A)) {f : Addr} {cdv : Value} {A0 : Around} {outer : List Env} {s : Shared} {H : Hp} {E : XK} (hr : Room 1 (A0.deeper (envOfC "Machine.keep" (defScope s_keep) s.heap.objs.size f cdv))) :
    PSs (cxOf CX0 P w K mg base ["self", "kind", "low"] "Machine.keep" (defScope s_keep) f cdv A0 outer s H E).nox (defBody s_keep) (t_keep K A) := by
  exact (pss_cons (ps_set (i := 2) sc_keep.nd rfl (Or.inl rfl) (pe_op op_mod (pe_ix ix_list (pe_fld (pv 0) rfl) (pe_cle c_first_register (hr.mono (by decide)) rfl (pa_cons (pe_fld (pv 0) rfl) (pa_cons (pe_fld (pv 0) rfl) pa_nil))) (fun _ _ => rfl)) (pe_gv T.gCODE)))
      (pss_one (ps_if (pt_cmp (pc_eqI (pv 1) pe_int)) (pss_one (ps_expr (pe_mtd (pv 0) T.cl_mac c_give (hr.mono (by decide)) (pa_cons pe_int (pa_cons (pe_op op_add (pe_gv T.gFIRST) (pv 2)) pa_nil))))) (pss_one (ps_if (pt_cmp (pc_eqI (pv 1) pe_int)) (pss_one (ps_expr (pe_mtd (pv 0) T.cl_mac c_give (hr.mono (by decide)) (pa_cons pe_int (pa_cons (pe_op op_add (pe_gv T.gFIRST) (pv 2)) pa_nil))))) (pss_one (ps_expr (pe_mtd (pv 0) T.cl_mac c_give (hr.mono (by decide)) (pa_cons pe_int (pa_cons (pe_op op_add (pe_gv T.gBASE) (pe_op op_mul (pe_op op_fdiv (pv 2) pe_int) pe_int)) pa_nil))))))))))
abbrev s_reckon : Stmt := inClass (top 37) 6
theorem sc_reckon : FnScope ["self", "kind", "one", "other"] ["self", "kind"] (defScope s_reckon) := ⟨rfl, rfl, rfl, by decide +kernel, rfl, by decide +kernel, by decide +kernel⟩
def t_reckon (K : PySem.W.Frag) (A : Ads) : TS :=
    (tSeq (tAsg (tCall (sp_first_register K A) [] E0 (tCons (tFld K (tVar 0) "code") (tCons (tFld K (tVar 0) "place") tNil))) (gName 2))
    (tIfS (tB (tEqI (tVar 1) (tC (.int 2)))) (tDrop (tMeth A.mac "give" (sp_give K A) [] E0 (tVar 0) (tCons (tVar 2) (tCons (tCall (sp_number_at K A) [] E0 (tCons (tFld K (tVar 0) "code") (tCons (tOp qAdd (tFld K (tVar 0) "place") (tC (.int 2))) (tCons (tC (.int 8)) tNil)))) tNil)))) (tIfS (tB (tEqI (tVar 1) (tC (.int 12)))) (tDrop (tMeth A.mac "give" (sp_give K A) [] E0 (tVar 0) (tCons (tVar 2) (tCons (tOp qAdd (tOp (rIxL K) (tFld K (tVar 0) "registers") (tVar 2)) (tCall (sp_signed_at K A) [] E0 (tCons (tFld K (tVar 0) "code") (tCons (tOp qAdd (tFld K (tVar 0) "place") (tC (.int 2))) (tCons (tC (.int 4)) tNil))))) tNil)))) (tSeq (tAsg (tOp (rIxL K) (tFld K (tVar 0) "registers") (tCall (sp_second_register K A) [] E0 (tCons (tFld K (tVar 0) "code") (tCons (tFld K (tVar 0) "place") tNil)))) (gName 3))
    (tDrop (tMeth A.mac "give" (sp_give K A) [] E0 (tVar 0) (tCons (tVar 2) (tCons (tCall (sp_reckoned K A) [] E0 (tCons (tVar 1) (tCons (tOp (rIxL K) (tFld K (tVar 0) "registers") (tVar 2)) (tCons (tVar 3) tNil)))) tNil))))))))
theorem der_reckon (T : Txt K mg A) (c_give : Metd P w K mg base 1 A.mac "give" ["self", "which", "number"] (sp_give K A)) (c_number_at : Callee P w K mg base 1 "number_at" ["code", "at", "many"] (sp_number_at K A)) (c_signed_at : Callee P w K mg base 2 "signed_at" ["code", "at", "many"] (sp_signed_at K A)) (c_reckoned : Callee P w K mg base 1 "reckoned" ["kind", "one", "other"] (sp_reckoned K A)) (c_second_register : Callee P w K mg base 1 "second_register" ["code", "at"] (sp_second_register K A)) (c_first_register : Callee P w K mg base 1 "first_register" ["code", "at"] (sp_first_register K A)) {f : Addr} {cdv : Value} {A0 : Around} {outer : List Env} {s : Shared} {H : Hp} {E : XK} (hr : Room 2 (A0.deeper (envOfC "Machine.reckon" (defScope s_reckon) s.heap.objs.size f cdv))) :
    PSs (cxOf CX0 P w K mg base ["self", "kind", "one", "other"] "Machine.reckon" (defScope s_reckon) f cdv A0 outer s H E).nox (defBody s_reckon) (t_reckon K A) := by
  exact (pss_cons (ps_set (i := 2) sc_reckon.nd rfl (Or.inl rfl) (pe_cle c_first_register (hr.mono (by decide)) rfl (pa_cons (pe_fld (pv 0) rfl) (pa_cons (pe_fld (pv 0) rfl) pa_nil))))
      (pss_one (ps_if (pt_cmp (pc_eqI (pv 1) pe_int)) (pss_one (ps_expr (pe_mtd (pv 0) T.cl_mac c_give (hr.mono (by decide)) (pa_cons (pv 2) (pa_cons (pe_cle c_number_at (hr.mono (by decide)) rfl (pa_cons (pe_fld (pv 0) rfl) (pa_cons (pe_op op_add (pe_fld (pv 0) rfl) pe_int) (pa_cons pe_int pa_nil)))) pa_nil))))) (pss_one (ps_if (pt_cmp (pc_eqI (pv 1) pe_int)) (pss_one (ps_expr (pe_mtd (pv 0) T.cl_mac c_give (hr.mono (by decide)) (pa_cons (pv 2) (pa_cons (pe_op op_add (pe_ix ix_list (pe_fld (pv 0) rfl) (pv 2) (fun _ _ => rfl)) (pe_cle c_signed_at (hr.mono (by decide)) rfl (pa_cons (pe_fld (pv 0) rfl) (pa_cons (pe_op op_add (pe_fld (pv 0) rfl) pe_int) (pa_cons pe_int pa_nil))))) pa_nil))))) (pss_cons (ps_set (i := 3) sc_reckon.nd rfl (Or.inl rfl) (pe_ix ix_list (pe_fld (pv 0) rfl) (pe_cle c_second_register (hr.mono (by decide)) rfl (pa_cons (pe_fld (pv 0) rfl) (pa_cons (pe_fld (pv 0) rfl) pa_nil))) (fun _ _ => rfl)))
      (pss_one (ps_expr (pe_mtd (pv 0) T.cl_mac c_give (hr.mono (by decide)) (pa_cons (pv 2) (pa_cons (pe_cle c_reckoned (hr.mono (by decide)) rfl (pa_cons (pv 1) (pa_cons (pe_ix ix_list (pe_fld (pv 0) rfl) (pv 2) (fun _ _ => rfl)) (pa_cons (pv 3) pa_nil)))) pa_nil)))))))))))
abbrev s_step : Stmt := inClass (top 37) 7
theorem sc_step : FnScope ["self", "long", "kind", "asked"] ["self"] (defScope s_step) := ⟨rfl, rfl, rfl, by decide +kernel, rfl, by decide +kernel, by decide +kernel⟩
def t_step (K : PySem.W.Frag) (A : Ads) : TS :=
    (tSeq (tIfS (tOr (tTest (tOp qLt (tFld K (tVar 0) "place") (tC (.int 0)))) (tTest (tOp qGe (tFld K (tVar 0) "place") (tC (.int 65536))))) (tRet (tTup (tCons (tC (.int 4)) (tCons (tC (.int 0)) tNil)))) tNext)
    (tSeq (tAsg (tCall (sp_length_at K A) [] E0 (tCons (tFld K (tVar 0) "code") (tCons (tFld K (tVar 0) "place") tNil))) (gName 1))
    (tSeq (tAsg (tOp (rIxL K) (tFld K (tVar 0) "code") (tFld K (tVar 0) "place")) (gName 2))
    (tSeq (tIfS (tB (tEqI (tVar 1) (tC (.int 0)))) (tRet (tTup (tCons (tC (.int 4)) (tCons (tC (.int 0)) tNil)))) tNext)
    (tSeq (tIfS (tB (tEqI (tVar 2) (tC (.int 0)))) (tRet (tTup (tCons (tC (.int 0)) (tCons (tC (.int 0)) tNil)))) tNext)
    (tSeq (tIfS (tB (tEqI (tVar 2) (tC (.int 40)))) (tSeq (tAsg (tOp (rIxL K) (tFld K (tVar 0) "code") (tOp qAdd (tFld K (tVar 0) "place") (tC (.int 1)))) (gName 3))
    (tSeq (sFldAug K (tVar 0) (tVar 1) L2.rAdd "place")
    (tRet (tTup (tCons (tC (.int 1)) (tCons (tVar 3) tNil)))))) tNext)
    (tSeq (tIfS (tTest (tChain qLe qLe (tC (.int 16)) (tVar 2) (tC (.int 19)))) (tRet (tMeth A.mac "reach" (sp_reach K A) [] E0 (tVar 0) (tCons (tVar 2) (tCons (tVar 1) tNil)))) tNext)
    (tSeq (tIfS (tTest (tOp qGe (tVar 2) (tC (.int 32)))) (tRet (tMeth A.mac "turn" (sp_turn K A) [] E0 (tVar 0) (tCons (tVar 2) (tCons (tOp qAdd (tFld K (tVar 0) "place") (tVar 1)) tNil)))) tNext)
    (tSeq (tIfS (tTest (tOp qGe (tVar 2) (tC (.int 24)))) (tDrop (tMeth A.mac "keep" (sp_keep K A) [] E0 (tVar 0) (tCons (tVar 2) tNil))) (tIfS (tTest (tOp qGt (tVar 2) (tC (.int 1)))) (tDrop (tMeth A.mac "reckon" (sp_reckon K A) [] E0 (tVar 0) (tCons (tVar 2) tNil))) tNext))
    (tRet (tMeth A.mac "go" (sp_go K A) [] E0 (tVar 0) (tCons (tOp qAdd (tFld K (tVar 0) "place") (tVar 1)) tNil))))))))))))
theorem der_step (T : Txt K mg A) (c_go : Metd P w K mg base 1 A.mac "go" ["self", "place"] (sp_go K A)) (c_keep : Metd P w K mg base 2 A.mac "keep" ["self", "kind"] (sp_keep K A)) (c_reckon : Metd P w K mg base 3 A.mac "reckon" ["self", "kind"] (sp_reckon K A)) (c_turn : Metd P w K mg base 4 A.mac "turn" ["self", "kind", "behind"] (sp_turn K A)) (c_reach : Metd P w K mg base 3 A.mac "reach" ["self", "kind", "long"] (sp_reach K A)) (c_length_at : Callee P w K mg base 1 "length_at" ["code", "at"] (sp_length_at K A)) {f : Addr} {cdv : Value} {A0 : Around} {outer : List Env} {s : Shared} {H : Hp} {E : XK} (hr : Room 4 (A0.deeper (envOfC "Machine.step" (defScope s_step) s.heap.objs.size f cdv))) :
    PSs (cxOf CX0 P w K mg base ["self", "long", "kind", "asked"] "Machine.step" (defScope s_step) f cdv A0 outer s H E).nox (defBody s_step) (t_step K A) := by
  exact (pss_cons (ps_if (PW.pt (pw_or (pt_cmpR op_lt (pe_fld (pv 0) rfl) pe_int (nomark _)) (pw_or1 (pt_cmpR op_ge (pe_fld (pv 0) rfl) (pe_gv T.gCODE) (nomark _))))) (pss_one (ps_ret (pe_tup (pa_cons (pe_gv T.gNOWHERE) (pa_cons pe_int pa_nil))))) pss_nil)
      (pss_cons (ps_set (i := 1) sc_step.nd rfl (Or.inl rfl) (pe_cle c_length_at (hr.mono (by decide)) rfl (pa_cons (pe_fld (pv 0) rfl) (pa_cons (pe_fld (pv 0) rfl) pa_nil))))
      (pss_cons (ps_set (i := 2) sc_step.nd rfl (Or.inl rfl) (pe_ix ix_list (pe_fld (pv 0) rfl) (pe_fld (pv 0) rfl) (fun _ _ => rfl)))
      (pss_cons (ps_if (pt_cmp (pc_eqI (pv 1) pe_int)) (pss_one (ps_ret (pe_tup (pa_cons (pe_gv T.gNOWHERE) (pa_cons pe_int pa_nil))))) pss_nil)
      (pss_cons (ps_if (pt_cmp (pc_eqI (pv 2) pe_int)) (pss_one (ps_ret (pe_tup (pa_cons (pe_gv T.gSTOP) (pa_cons pe_int pa_nil))))) pss_nil)
      (pss_cons (ps_if (pt_cmp (pc_eqI (pv 2) pe_int)) (pss_cons (ps_set (i := 3) sc_step.nd rfl (Or.inl rfl) (pe_ix ix_list (pe_fld (pv 0) rfl) (pe_op op_add (pe_fld (pv 0) rfl) pe_int) (fun _ _ => rfl)))
      (pss_cons (ps_fldaug (pv 0) (pv 1) in_add)
      (pss_one (ps_ret (pe_tup (pa_cons (pe_gv T.gASKED) (pa_cons (pv 3) pa_nil))))))) pss_nil)
      (pss_cons (ps_if (pt_chain op_le op_le pe_int (pv 2) pe_int) (pss_one (ps_ret (pe_mtd (pv 0) T.cl_mac c_reach (hr.mono (by decide)) (pa_cons (pv 2) (pa_cons (pv 1) pa_nil))))) pss_nil)
      (pss_cons (ps_if (pt_cmpR op_ge (pv 2) pe_int (nomark _)) (pss_one (ps_ret (pe_mtd (pv 0) T.cl_mac c_turn (hr.mono (by decide)) (pa_cons (pv 2) (pa_cons (pe_op op_add (pe_fld (pv 0) rfl) (pv 1)) pa_nil))))) pss_nil)
      (pss_cons (ps_if (pt_cmpR op_ge (pv 2) pe_int (nomark _)) (pss_one (ps_expr (pe_mtd (pv 0) T.cl_mac c_keep (hr.mono (by decide)) (pa_cons (pv 2) pa_nil)))) (pss_one (ps_if (pt_cmpR op_gt (pv 2) pe_int (nomark _)) (pss_one (ps_expr (pe_mtd (pv 0) T.cl_mac c_reckon (hr.mono (by decide)) (pa_cons (pv 2) pa_nil)))) pss_nil)))
      (pss_one (ps_ret (pe_mtd (pv 0) T.cl_mac c_go (hr.mono (by decide)) (pa_cons (pe_op op_add (pe_fld (pv 0) rfl) (pv 1)) pa_nil)))))))))))))
abbrev s_run : Stmt := inClass (top 37) 8
theorem sc_run : FnScope ["self", "steps", "turn", "end"] ["self", "steps"] (defScope s_run) := ⟨rfl, rfl, rfl, by decide +kernel, rfl, by decide +kernel, by decide +kernel⟩
def t_run (K : PySem.W.Frag) (A : Ads) : TS :=
    (tSeq (tFor (iRng1 (tCons (tVar 1) tNil)) (gName 2) (tSeq (tAsg (tMeth A.mac "step" (sp_step K A) [] E0 (tVar 0) tNil) (gName 3))
    (tIfS (tB (tNotN (tVar 3))) (tRet (tVar 3)) tNext)))
    (tRet (tTup (tCons (tC (.int 5)) (tCons (tC (.int 0)) tNil)))))
theorem der_run (T : Txt K mg A) (c_step : Metd P w K mg base 5 A.mac "step" ["self"] (sp_step K A)) {f : Addr} {cdv : Value} {A0 : Around} {outer : List Env} {s : Shared} {H : Hp} {E : XK} (hr : Room 5 (A0.deeper (envOfC "Machine.run" (defScope s_run) s.heap.objs.size f cdv))) :
    PSs (cxOf CX0 P w K mg base ["self", "steps", "turn", "end"] "Machine.run" (defScope s_run) f cdv A0 outer s H E).nox (defBody s_run) (t_run K A) := by
  exact (pss_cons (ps_for PassesOwn.never rfl (pi_range1 rfl T.f_range (pa_cons (pv 1) pa_nil)) (pg_name (i := 2) sc_run.nd rfl (Or.inl rfl)) (pss_cons (ps_set (i := 3) sc_run.nd rfl (Or.inl rfl) (pe_mtd0 (pv 0) T.cl_mac c_step (hr.mono (by decide))))
      (pss_one (ps_if (pt_cmp (pc_notN (pv 3))) (pss_one (ps_ret (pv 3))) pss_nil))))
      (pss_one (ps_ret (pe_tup (pa_cons (pe_gv T.gNOT_ENDED) (pa_cons pe_int pa_nil))))))
abbrev s_dsk_init : Stmt := inClass (top 43) 0
theorem sc_dsk_init : FnScope ["self"] ["self"] (defScope s_dsk_init) := ⟨rfl, rfl, rfl, by decide +kernel, rfl, by decide +kernel, by decide +kernel⟩
def t_dsk_init (K : PySem.W.Frag) (A : Ads) : TS :=
    (tSeq (sFld K (tVar 0) (tC .non) "code")
    (sFld K (tVar 0) (tC (.int 0)) "many"))
theorem der_dsk_init (T : Txt K mg A) {f : Addr} {cdv : Value} {A0 : Around} {outer : List Env} {s : Shared} {H : Hp} {E : XK} (hr : Room 0 (A0.deeper (envOfC "Desk.__init__" (defScope s_dsk_init) s.heap.objs.size f cdv))) :
    PSs (cxOf CX0 P w K mg base ["self"] "Desk.__init__" (defScope s_dsk_init) f cdv A0 outer s H E).nox (defBody s_dsk_init) (t_dsk_init K A) := by
  exact (pss_cons (ps_fld (pv 0) pe_non rfl)
      (pss_one (ps_fld (pv 0) pe_int rfl)))
abbrev s_load : Stmt := inClass (top 43) 1
theorem sc_load : FnScope ["self", "many", "code"] ["self", "many", "code"] (defScope s_load) := ⟨rfl, rfl, rfl, by decide +kernel, rfl, by decide +kernel, by decide +kernel⟩
def t_load (K : PySem.W.Frag) (A : Ads) : TS :=
    (tSeq (tIfS (tOr (tTest (tOp qLt (tVar 1) (tC (.int 0)))) (tTest (tOp qGt (tVar 1) (tC (.int 65504))))) (tRet (tLst (tCons (tC (.int (-1))) tNil))) tNext)
    (tSeq (sFld K (tVar 0) (tCall (sp_whole_code K A) [] E0 (tCons (tVar 2) tNil)) "code")
    (tSeq (sFld K (tVar 0) (tCB (rLn K) (tCons (tVar 2) tNil)) "many")
    (tRet (tLst (tCons (tC (.int 0)) tNil))))))
theorem der_load (T : Txt K mg A) (c_whole_code : Callee P w K mg base 1 "whole_code" ["code"] (sp_whole_code K A)) {f : Addr} {cdv : Value} {A0 : Around} {outer : List Env} {s : Shared} {H : Hp} {E : XK} (hr : Room 1 (A0.deeper (envOfC "Desk.load" (defScope s_load) s.heap.objs.size f cdv))) :
    PSs (cxOf CX0 P w K mg base ["self", "many", "code"] "Desk.load" (defScope s_load) f cdv A0 outer s H E).nox (defBody s_load) (t_load K A) := by
  exact (pss_cons (ps_if (PW.pt (pw_or (pt_cmpR op_lt (pv 1) pe_int (nomark _)) (pw_or1 (pt_cmpR op_gt (pv 1) (pe_gv T.gMOST_LOADED) (nomark _))))) (pss_one (ps_ret (pe_lst (pa_cons (pe_gv T.gWRONG) pa_nil)))) pss_nil)
      (pss_cons (ps_fld (pv 0) (pe_cle c_whole_code (hr.mono (by decide)) rfl (pa_cons (pv 2) pa_nil)) rfl)
      (pss_cons (ps_fld (pv 0) (pe_callB call_len_seq (by rfl) T.f_len PySem.boot_len (pa_cons (pv 2) pa_nil)) rfl)
      (pss_one (ps_ret (pe_lst (pa_cons pe_int pa_nil)))))))
abbrev s_check : Stmt := inClass (top 43) 2
theorem sc_check : FnScope ["self"] ["self"] (defScope s_check) := ⟨rfl, rfl, rfl, by decide +kernel, rfl, by decide +kernel, by decide +kernel⟩
def t_check (K : PySem.W.Frag) (A : Ads) : TS :=
    (tSeq (tIfS (tB (tIsN (tFld K (tVar 0) "code"))) (tRet (tLst (tCons (tC (.int (-2))) tNil))) tNext)
    (tRet (tCall (sp_looked_at K A) [] E0 (tCons (tFld K (tVar 0) "code") (tCons (tFld K (tVar 0) "many") tNil)))))
theorem der_check (T : Txt K mg A) (c_looked_at : Callee P w K mg base 4 "looked_at" ["whole", "many"] (sp_looked_at K A)) {f : Addr} {cdv : Value} {A0 : Around} {outer : List Env} {s : Shared} {H : Hp} {E : XK} (hr : Room 4 (A0.deeper (envOfC "Desk.check" (defScope s_check) s.heap.objs.size f cdv))) :
    PSs (cxOf CX0 P w K mg base ["self"] "Desk.check" (defScope s_check) f cdv A0 outer s H E).nox (defBody s_check) (t_check K A) := by
  exact (pss_cons (ps_if (pt_cmp (pc_isN (pe_fld (pv 0) rfl))) (pss_one (ps_ret (pe_lst (pa_cons (pe_gv T.gNO_CODE) pa_nil)))) pss_nil)
      (pss_one (ps_ret (pe_cle c_looked_at (hr.mono (by decide)) rfl (pa_cons (pe_fld (pv 0) rfl) (pa_cons (pe_fld (pv 0) rfl) pa_nil))))))
abbrev s_drun : Stmt := inClass (top 43) 3
theorem sc_drun : FnScope ["self", "numbers", "registers", "given", "steps", "place", "off", "memory", "machine", "end", "what", "changed", "answer", "at"] ["self", "numbers", "registers", "given"] (defScope s_drun) := ⟨rfl, rfl, rfl, by decide +kernel, rfl, by decide +kernel, by decide +kernel⟩
def t_drun (K : PySem.W.Frag) (A : Ads) : TS :=
    (tSeq (tAsg (tVar 1) (gUnl K 3 (gCons (gName 4) (gCons (gName 5) (gCons (gName 6) gNil)))))
    (tSeq (tIfS (tB (tIsN (tFld K (tVar 0) "code"))) (tRet (tLst (tCons (tC (.int (-2))) tNil))) tNext)
    (tSeq (tIfS (tOr (tTest (tOp qLt (tVar 4) (tC (.int 0)))) (tTest (tOp qGt (tVar 4) (tC (.int 16777216))))) (tRet (tLst (tCons (tC (.int (-1))) tNil))) tNext)
    (tSeq (tAsg (tMake A.mem (sp_mem_init K A) [] E0 (tCons (tVar 6) (tCons (tVar 3) tNil))) (gName 7))
    (tSeq (tAsg (tMake A.mac (sp_mac_init K A) [] E0 (tCons (tFld K (tVar 0) "code") (tCons (tVar 5) (tCons (tVar 2) (tCons (tVar 7) tNil))))) (gName 8))
    (tSeq (tAsg (tMeth A.mac "run" (sp_run K A) [] E0 (tVar 8) (tCons (tVar 4) tNil)) (gTup K 2 (gCons (gName 9) (gCons (gName 10) gNil))))
    (tSeq (tAsg (tMeth A.mem "changed" (sp_changed K A) [] E0 (tVar 7) tNil) (gName 11))
    (tSeq (tAsg (tOp rCat (tOp rCat (tLst (tCons (tVar 9) tNil)) (tFld K (tVar 8) "registers")) (tLst (tCons (tFld K (tVar 8) "place") (tCons (tVar 10) (tCons (tCB (rLn K) (tCons (tVar 11) tNil)) tNil))))) (gName 12))
    (tSeq (tFor (iList K (tVar 11)) (gName 13) (tSeq (tDrop (tBM K "list" rAppend (tVar 12) (tCons (tVar 13) tNil)))
    (tDrop (tBM K "list" rAppend (tVar 12) (tCons (tOp (rIxL K) (tFld K (tVar 7) "cells") (tVar 13)) tNil)))))
    (tRet (tVar 12)))))))))))
theorem der_drun (T : Txt K mg A) (c_changed : Metd P w K mg base 1 A.mem "changed" ["self"] (sp_changed K A)) (c_run : Metd P w K mg base 6 A.mac "run" ["self", "steps"] (sp_run K A)) (c_mac_init : Maker P w K mg base 1 "Machine" A.mac ["self", "code", "place", "registers", "memory"] (sp_mac_init K A)) (c_mem_init : Maker P w K mg base 1 "Memory" A.mem ["self", "off", "given"] (sp_mem_init K A)) {f : Addr} {cdv : Value} {A0 : Around} {outer : List Env} {s : Shared} {H : Hp} {E : XK} (hr : Room 6 (A0.deeper (envOfC "Desk.run" (defScope s_drun) s.heap.objs.size f cdv))) :
    PSs (cxOf CX0 P w K mg base ["self", "numbers", "registers", "given", "steps", "place", "off", "memory", "machine", "end", "what", "changed", "answer", "at"] "Desk.run" (defScope s_drun) f cdv A0 outer s H E).nox (defBody s_drun) (t_drun K A) := by
  exact (pss_cons (ps_asg (pv 1) (pg_unl rfl (pgs_cons (pg_name (i := 4) sc_drun.nd rfl (Or.inl rfl)) (pgs_cons (pg_name (i := 5) sc_drun.nd rfl (Or.inl rfl)) (pgs_cons (pg_name (i := 6) sc_drun.nd rfl (Or.inl rfl)) pgs_nil)))))
      (pss_cons (ps_if (pt_cmp (pc_isN (pe_fld (pv 0) rfl))) (pss_one (ps_ret (pe_lst (pa_cons (pe_gv T.gNO_CODE) pa_nil)))) pss_nil)
      (pss_cons (ps_if (PW.pt (pw_or (pt_cmpR op_lt (pv 4) pe_int (nomark _)) (pw_or1 (pt_cmpR op_gt (pv 4) (pe_gv T.gMOST_STEPS) (nomark _))))) (pss_one (ps_ret (pe_lst (pa_cons (pe_gv T.gWRONG) pa_nil)))) pss_nil)
      (pss_cons (ps_set (i := 7) sc_drun.nd rfl (Or.inl rfl) (pe_mk c_mem_init (hr.mono (by decide)) rfl (pa_cons (pv 6) (pa_cons (pv 3) pa_nil))))
      (pss_cons (ps_set (i := 8) sc_drun.nd rfl (Or.inl rfl) (pe_mk c_mac_init (hr.mono (by decide)) rfl (pa_cons (pe_fld (pv 0) rfl) (pa_cons (pv 5) (pa_cons (pv 2) (pa_cons (pv 7) pa_nil))))))
      (pss_cons (ps_asg (pe_mtd (pv 8) T.cl_mac c_run (hr.mono (by decide)) (pa_cons (pv 4) pa_nil)) (pg_tup rfl (pgs_cons (pg_name (i := 9) sc_drun.nd rfl (Or.inl rfl)) (pgs_cons (pg_name (i := 10) sc_drun.nd rfl (Or.inl rfl)) pgs_nil))))
      (pss_cons (ps_set (i := 11) sc_drun.nd rfl (Or.inl rfl) (pe_mtd0 (pv 7) T.cl_mem c_changed (hr.mono (by decide))))
      (pss_cons (ps_set (i := 12) sc_drun.nd rfl (Or.inl rfl) (pe_op op_cat (pe_op op_cat (pe_lst (pa_cons (pv 9) pa_nil)) (pe_fld (pv 8) rfl)) (pe_lst (pa_cons (pe_fld (pv 8) rfl) (pa_cons (pv 10) (pa_cons (pe_callB call_len_seq (by rfl) T.f_len PySem.boot_len (pa_cons (pv 11) pa_nil)) pa_nil))))))
      (pss_cons (ps_for PassesOwn.never rfl (pi_list (pv 11)) (pg_name (i := 13) sc_drun.nd rfl (Or.inl rfl)) (pss_cons (ps_expr (pe_bm PySem.F.plainAttrs_list PySem.F.slot_list_append PySem.F.type_list_append mt_append (pv 12) (pa_cons (pv 13) pa_nil)))
      (pss_one (ps_expr (pe_bm PySem.F.plainAttrs_list PySem.F.slot_list_append PySem.F.type_list_append mt_append (pv 12) (pa_cons (pe_ix ix_list (pe_fld (pv 7) rfl) (pv 13) (fun _ _ => rfl)) pa_nil))))))
      (pss_one (ps_ret (pv 12))))))))))))
abbrev s_row_at : Stmt := top 47
theorem sc_row_at : FnScope ["calls", "at", "end"] ["calls", "at"] (defScope s_row_at) := ⟨rfl, rfl, rfl, by decide +kernel, rfl, by decide +kernel, by decide +kernel⟩
def t_row_at (K : PySem.W.Frag) (A : Ads) : TS :=
    (tSeq (tAsg (tOp qAdd (tOp qAdd (tVar 1) (tC (.int 1))) (tOp (rIxL K) (tVar 0) (tVar 1))) (gName 2))
    (tRet (tTup (tCons (tSl (rSlL K) (tVar 0) (tPart (tOp qAdd (tVar 1) (tC (.int 1)))) (tPart (tVar 2))) (tCons (tVar 2) tNil)))))
theorem der_row_at (T : Txt K mg A) {f : Addr} {cdv : Value} {A0 : Around} {outer : List Env} {s : Shared} {H : Hp} {E : XK} (hr : Room 0 (A0.deeper (envOfC "row_at" (defScope s_row_at) s.heap.objs.size f cdv))) :
    PSs (cxOf CX0 P w K mg base ["calls", "at", "end"] "row_at" (defScope s_row_at) f cdv A0 outer s H E).nox (defBody s_row_at) (t_row_at K A) := by
  exact (pss_cons (ps_set (i := 2) sc_row_at.nd rfl (Or.inl rfl) (pe_op op_add (pe_op op_add (pv 1) pe_int) (pe_ix ix_list (pv 0) (pv 1) (fun _ _ => rfl))))
      (pss_one (ps_ret (pe_tup (pa_cons (pe_slice sl_list (pv 0) (po_some (pe_op op_add (pv 1) pe_int)) (po_some (pv 2))) (pa_cons (pv 2) pa_nil))))))
abbrev s_answers : Stmt := top 48
theorem sc_answers : FnScope ["calls", "desk", "found", "at", "kind", "code", "end", "answer", "registers", "given"] ["calls"] (defScope s_answers) := ⟨rfl, rfl, rfl, by decide +kernel, rfl, by decide +kernel, by decide +kernel⟩
def t_answers (K : PySem.W.Frag) (A : Ads) : TS :=
    (tSeq (tAsg (tMake A.dsk (sp_dsk_init K A) [] E0 tNil) (gName 1))
    (tSeq (tAsg (tLst tNil) (gName 2))
    (tSeq (tAsg (tC (.int 0)) (gName 3))
    (tSeq (tWhile (tTest (tOp qLt (tVar 3) (tCB (rLn K) (tCons (tVar 0) tNil)))) (tSeq (tAsg (tOp (rIxL K) (tVar 0) (tVar 3)) (gName 4))
    (tSeq (tIfS (tB (tEqI (tVar 4) (tC (.int 0)))) (tSeq (tAsg (tCall (sp_row_at K A) [] E0 (tCons (tVar 0) (tCons (tOp qAdd (tVar 3) (tC (.int 2))) tNil))) (gTup K 2 (gCons (gName 5) (gCons (gName 6) gNil))))
    (tAsg (tMeth A.dsk "load" (sp_load K A) [] E0 (tVar 1) (tCons (tOp (rIxL K) (tVar 0) (tOp qAdd (tVar 3) (tC (.int 1)))) (tCons (tVar 5) tNil))) (gName 7))) (tIfS (tB (tEqI (tVar 4) (tC (.int 1)))) (tSeq (tAsg (tOp qAdd (tVar 3) (tC (.int 1))) (gName 6))
    (tAsg (tMeth A.dsk "check" (sp_check K A) [] E0 (tVar 1) tNil) (gName 7))) (tSeq (tAsg (tCall (sp_row_at K A) [] E0 (tCons (tVar 0) (tCons (tOp qAdd (tVar 3) (tC (.int 4))) tNil))) (gTup K 2 (gCons (gName 8) (gCons (gName 6) gNil))))
    (tSeq (tAsg (tCall (sp_row_at K A) [] E0 (tCons (tVar 0) (tCons (tVar 6) tNil))) (gTup K 2 (gCons (gName 9) (gCons (gName 6) gNil))))
    (tAsg (tMeth A.dsk "run" (sp_drun K A) [] E0 (tVar 1) (tCons (tSl (rSlL K) (tVar 0) (tPart (tOp qAdd (tVar 3) (tC (.int 1)))) (tPart (tOp qAdd (tVar 3) (tC (.int 4))))) (tCons (tVar 8) (tCons (tVar 9) tNil)))) (gName 7))))))
    (tSeq (tAsg (tVar 6) (gName 3))
    (tSeq (tDrop (tBM K "list" rAppend (tVar 2) (tCons (tCB (rLn K) (tCons (tVar 7) tNil)) tNil)))
    (tDrop (tBM K "list" rExtend (tVar 2) (tCons (tVar 7) tNil))))))))
    (tRet (tVar 2))))))
theorem der_answers (T : Txt K mg A) (c_load : Metd P w K mg base 2 A.dsk "load" ["self", "many", "code"] (sp_load K A)) (c_row_at : Callee P w K mg base 1 "row_at" ["calls", "at"] (sp_row_at K A)) (c_check : Metd P w K mg base 5 A.dsk "check" ["self"] (sp_check K A)) (c_drun : Metd P w K mg base 7 A.dsk "run" ["self", "numbers", "registers", "given"] (sp_drun K A)) (c_dsk_init : Maker P w K mg base 1 "Desk" A.dsk ["self"] (sp_dsk_init K A)) {f : Addr} {cdv : Value} {A0 : Around} {outer : List Env} {s : Shared} {H : Hp} {E : XK} (hr : Room 7 (A0.deeper (envOfC "answers" (defScope s_answers) s.heap.objs.size f cdv))) :
    PSs (cxOf CX0 P w K mg base ["calls", "desk", "found", "at", "kind", "code", "end", "answer", "registers", "given"] "answers" (defScope s_answers) f cdv A0 outer s H E).nox (defBody s_answers) (t_answers K A) := by
  exact (pss_cons (ps_set (i := 1) sc_answers.nd rfl (Or.inl rfl) (pe_mk0 c_dsk_init (hr.mono (by decide)) rfl ))
      (pss_cons (ps_set (i := 2) sc_answers.nd rfl (Or.inl rfl) (pe_lst pa_nil))
      (pss_cons (ps_set (i := 3) sc_answers.nd rfl (Or.inl rfl) pe_int)
      (pss_cons (ps_while PassesOwn.never (pt_cmpR op_lt (pv 3) (pe_callB call_len_seq (by rfl) T.f_len PySem.boot_len (pa_cons (pv 0) pa_nil)) (nomark _)) (pss_cons (ps_set (i := 4) sc_answers.nd rfl (Or.inl rfl) (pe_ix ix_list (pv 0) (pv 3) (fun _ _ => rfl)))
      (pss_cons (ps_if (pt_cmp (pc_eqI (pv 4) (pe_gv T.gLOAD))) (pss_cons (ps_asg (pe_cle c_row_at (hr.mono (by decide)) rfl (pa_cons (pv 0) (pa_cons (pe_op op_add (pv 3) pe_int) pa_nil))) (pg_tup rfl (pgs_cons (pg_name (i := 5) sc_answers.nd rfl (Or.inl rfl)) (pgs_cons (pg_name (i := 6) sc_answers.nd rfl (Or.inl rfl)) pgs_nil))))
      (pss_one (ps_set (i := 7) sc_answers.nd rfl (Or.inl rfl) (pe_mtd (pv 1) T.cl_dsk c_load (hr.mono (by decide)) (pa_cons (pe_ix ix_list (pv 0) (pe_op op_add (pv 3) pe_int) (fun _ _ => rfl)) (pa_cons (pv 5) pa_nil)))))) (pss_one (ps_if (pt_cmp (pc_eqI (pv 4) (pe_gv T.gCHECK))) (pss_cons (ps_set (i := 6) sc_answers.nd rfl (Or.inl rfl) (pe_op op_add (pv 3) pe_int))
      (pss_one (ps_set (i := 7) sc_answers.nd rfl (Or.inl rfl) (pe_mtd0 (pv 1) T.cl_dsk c_check (hr.mono (by decide)))))) (pss_cons (ps_asg (pe_cle c_row_at (hr.mono (by decide)) rfl (pa_cons (pv 0) (pa_cons (pe_op op_add (pv 3) pe_int) pa_nil))) (pg_tup rfl (pgs_cons (pg_name (i := 8) sc_answers.nd rfl (Or.inl rfl)) (pgs_cons (pg_name (i := 6) sc_answers.nd rfl (Or.inl rfl)) pgs_nil))))
      (pss_cons (ps_asg (pe_cle c_row_at (hr.mono (by decide)) rfl (pa_cons (pv 0) (pa_cons (pv 6) pa_nil))) (pg_tup rfl (pgs_cons (pg_name (i := 9) sc_answers.nd rfl (Or.inl rfl)) (pgs_cons (pg_name (i := 6) sc_answers.nd rfl (Or.inl rfl)) pgs_nil))))
      (pss_one (ps_set (i := 7) sc_answers.nd rfl (Or.inl rfl) (pe_mtd (pv 1) T.cl_dsk c_drun (hr.mono (by decide)) (pa_cons (pe_slice sl_list (pv 0) (po_some (pe_op op_add (pv 3) pe_int)) (po_some (pe_op op_add (pv 3) pe_int))) (pa_cons (pv 8) (pa_cons (pv 9) pa_nil)))))))))))
      (pss_cons (ps_set (i := 3) sc_answers.nd rfl (Or.inl rfl) (pv 6))
      (pss_cons (ps_expr (pe_bm PySem.F.plainAttrs_list PySem.F.slot_list_append PySem.F.type_list_append mt_append (pv 2) (pa_cons (pe_callB call_len_seq (by rfl) T.f_len PySem.boot_len (pa_cons (pv 7) pa_nil)) pa_nil)))
      (pss_one (ps_expr (pe_bm PySem.F.plainAttrs_list PySem.F.slot_list_extend PySem.F.type_list_extend mt_extend (pv 2) (pa_cons (pv 7) pa_nil)))))))))
      (pss_one (ps_ret (pv 2)))))))
end
end Fm

namespace Fm
open PySem PySem.Spec PyProof.Rows L2
/-! ### small words on lists of values -/
theorem nv_len (l : List Nat) : (nv l).length = l.length := List.length_map _
theorem zv_len (l : List Int) : (zv l).length = l.length := List.length_map _
theorem nv_get {l : List Nat} {i : Nat} (h : i < l.length) : (nv l)[i]? = some (.int (Sb16.at_ l i : Nat)) := by
  unfold nv
  rw [List.getElem?_map, at_get h]
  rfl
theorem nv_at {l : List Nat} {i : Nat} (h : i < l.length) : atI (nv l) (i : Int) = some (.int (Sb16.at_ l i : Nat)) := atI_nat (nv_get h)
theorem cutV_nat (xs : List V) (i j : Nat) : cutV xs (some (i : Int)) (some (j : Int)) = (xs.drop i).take (j - i) := by
  unfold cutV
  have a : ∀ (n k d : Nat), HT.sIx n d (some (k : Int)) = min k n := fun n k d => by
    unfold HT.sIx
    simp
    omega
  rw [a, a]
  by_cases h : i ≤ xs.length
  · rw [Nat.min_eq_left h]
    by_cases h2 : j ≤ xs.length
    · rw [Nat.min_eq_left h2]
    · rw [Nat.min_eq_right (by omega)]
      rw [List.take_of_length_le (by rw [List.length_drop]; omega), List.take_of_length_le (by rw [List.length_drop]; omega)]
  · have e : min i xs.length = xs.length := by omega
    rw [e, List.drop_of_length_le (Nat.le_refl _), List.drop_of_length_le (by omega)]
    simp
theorem Same.new {H : Hp} {p : Addr} {o : HO} (h : H p = none) : Same H (upd H p o) := fun b u e => by
  rw [upd_ne (ne_of_none e h)]
  exact e
theorem ifd {p : Prop} [Decidable p] {X Y : Prop} (h1 : p → X) (h2 : ¬ p → Y) : if decide p = true then X else Y := by
  by_cases h : p
  · rw [decide_eq_true h, if_pos rfl]
    exact h1 h
  · rw [decide_eq_false h, if_neg Bool.false_ne_true]
    exact h2 h
theorem ifnd {p : Prop} [Decidable p] {X Y : Prop} (h1 : ¬ p → X) (h2 : p → Y) : if (!decide p) = true then X else Y := by
  by_cases h : p
  · rw [decide_eq_true h]
    exact iteF (h2 h)
  · rw [decide_eq_false h]
    exact iteT (h1 h)
theorem inV_ints (x : Int) (ns : List Int) : inV (.int x) (ns.map V.int) = decide (x ∈ ns) := by
  unfold inV
  induction ns with
  | nil => rfl
  | cons a r ih =>
    rw [List.map_cons, List.any_cons, ih]
    show (a == x || decide (x ∈ r)) = _
    by_cases h : a = x
    · subst h
      simp
    · have h1 : (a == x) = false := beq_eq_false_iff_ne.mpr h
      rw [h1, Bool.false_or]
      have h2 : (x ∈ a :: r) ↔ x ∈ r := by
        rw [List.mem_cons]
        exact ⟨fun z => z.resolve_left fun q => h q.symm, .inr⟩
      exact (decide_eq_decide.mpr h2).symm
theorem ifin {x : Int} {ns : List Int} {X Y : Prop} (h1 : x ∈ ns → X) (h2 : x ∉ ns → Y) : if (if false = true then !inV (.int x) (ns.map V.int) else inV (.int x) (ns.map V.int)) = true then X else Y := by
  rw [if_neg Bool.false_ne_true, inV_ints]
  exact ifd h1 h2
theorem ifnin {x : Int} {ns : List Int} {X Y : Prop} (h1 : x ∉ ns → X) (h2 : x ∈ ns → Y) : if (if true = true then !inV (.int x) (ns.map V.int) else inV (.int x) (ns.map V.int)) = true then X else Y := by
  rw [if_pos rfl, inV_ints]
  exact ifnd h1 h2
theorem vint {a b : Int} (h : a = b) : V.int a = V.int b := congrArg V.int h
theorem byte_of (x j : Nat) : Builtin.bitAnd ((x : Int) / 2 ^ ((8 : Int) * (0 + (j : Int))).toNat) 255 = ((x / 256 ^ j % 256 : Nat) : Int) := by
  rw [bitAnd_m8, Int.zero_add]
  have e : ((8 : Int) * (j : Int)).toNat = 8 * j := by omega
  rw [e, show (2 : Int) ^ (8 * j) = ((256 ^ j : Nat) : Int) by rw [Int.natCast_pow]; show _ = (2 ^ 8 : Int) ^ j; rw [Int.pow_mul]]
  rfl
section
variable {P : Program} {w : World} {K : PySem.W.Frag} {mg : Str → Option Value} {base : Heap} {A : Ads}
theorem len_number_at {vs : List V} {H : Hp} {Q : VK} {E : XK} (h : sp_number_at K A vs H Q E) : vs.length = 3 := by
  obtain ⟨_, _, _, _, rfl, _⟩ := h
  rfl
theorem pure_number_at (T : Txt K mg A) {vs : List V} {H : Hp} {Q : VK} {E : XK} (h : sp_number_at K A vs H Q E) :
    t_number_at K A { nx := fun _ H' => Q .non H', rt := Q } (start ["code", "at", "many", "found", "byte"] vs) H := by
  obtain ⟨c, w, i, n, rfl, hc, k⟩ := h
  refine ⟨_, rfl, _, rfl, _, rfl, _, rfl, _, rfl, _, _, rfl, rfl, _, rfl, _, _, rfl, hc, fun p hp => ?_⟩
  have e1 : (i : Int) + (n : Int) = ((i + n : Nat) : Int) := by omega
  rw [e1, cutV_nat, show i + n - i = n by omega]
  have hs := Same.new (o := .lst (((nv w).drop i).take n)) hp
  have hq : SqL K (upd H p (.lst (((nv w).drop i).take n))) p (((nv w).drop i).take n) := SqL.of upd_same
  refine ⟨p, _, rfl, .inl ⟨hq, ?_⟩⟩
  have e2 : ∀ j, j < (((nv w).drop i).take n).length → (((nv w).drop i).take n)[j]? = some (.int (Sb16.at_ w (i + j) : Nat)) := fun j hj => by
    rw [List.length_take, List.length_drop, nv_len] at hj
    rw [List.getElem?_take_of_lt (by omega), List.getElem?_drop]
    exact nv_get (by omega)
  generalize hxs : ((nv w).drop i).take n = xs at *
  have hl : xs.length = min n (w.length - i) := by rw [← hxs, List.length_take, List.length_drop, nv_len]
  have e3 : Sb16.num w i xs.length = Sb16.num w i n := by
    rw [hl]
    exact num_min w i n
  refine RT.for_Itv (K := K) (a := p) (xs := xs) (fun j σ H' => ∃ b : Option V, σ = [some (.ref c), some (.int i), some (.int n), some (.int (Sb16.num w (i + (xs.length - j)) j : Nat)), b] ∧ Same (upd H p (.lst xs)) H')
    ⟨none, rfl, Same.refl _⟩ (fun j σ H' q => by obtain ⟨_, _, s⟩ := q; exact s.seq hq) ?_ ?_
  · rintro j x σ H' hj hx ⟨b, rfl, s⟩
    have hx2 := e2 (xs.length - 1 - j) (by omega)
    rw [hx] at hx2
    cases hx2
    refine ⟨_, rfl, _, _, rfl, rfl, .inl ⟨by decide, by decide⟩, _, rfl, _, _, rfl, rfl, ?_⟩
    refine ⟨some (.int (Sb16.at_ w (i + (xs.length - 1 - j)) : Nat)), ?_, s⟩
    have e4 := num_rev w i xs.length j hj
    rw [e4]
    simp [List.set]
    omega
  · rintro σ H' ⟨b, rfl, s⟩
    refine ⟨_, rfl, ?_⟩
    rw [Nat.sub_self, Nat.add_zero, e3]
    exact k _ (hs.trans s)
theorem len_signed_at {vs : List V} {H : Hp} {Q : VK} {E : XK} (h : sp_signed_at K A vs H Q E) : vs.length = 3 := by
  obtain ⟨_, _, _, _, rfl, _⟩ := h
  rfl
theorem pure_signed_at (T : Txt K mg A) {vs : List V} {H : Hp} {Q : VK} {E : XK} (h : sp_signed_at K A vs H Q E) :
    t_signed_at K A { nx := fun _ H' => Q .non H', rt := Q } (start ["code", "at", "many", "found"] vs) H := by
  obtain ⟨c, w, i, n, rfl, hc, hb, h1, h100, hl, k⟩ := h
  obtain ⟨n, rfl⟩ : ∃ m, n = m + 1 := ⟨n - 1, by omega⟩
  refine ⟨_, rfl, _, rfl, _, rfl, c, w, i, n + 1, rfl, hc, fun H1 s1 => ?_⟩
  refine ⟨_, rfl, _, rfl, _, rfl, _, _, rfl, rfl, _, _, rfl, rfl, _, _, _, _, rfl, rfl, s1.seq hc, at_of (j := i + n) (by omega) (nv_get (by omega)), _, _, rfl, rfl, _, rfl, ?_⟩
  have e := signed_is hb i n
  have g := k H1 s1
  rw [e] at g
  refine ifd (fun q => ?_) (fun q => ?_)
  · rw [if_pos (by omega)] at g
    refine ⟨_, rfl, _, rfl, _, _, rfl, rfl, .inl ⟨by decide, by decide⟩, _, _, rfl, rfl, ⟨by omega, by omega, by decide⟩, _, _, rfl, rfl, ?_⟩
    have e2 : (1 : Int) * 2 ^ ((8 : Int) * ((n + 1 : Nat) : Int)).toNat = (2 : Int) ^ (8 * (n + 1)) := by
      rw [Int.one_mul]
      congr 1
    rw [e2]
    exact g
  · rw [if_neg (by omega)] at g
    exact ⟨_, rfl, g⟩
theorem len_bytes_of {vs : List V} {H : Hp} {Q : VK} {E : XK} (h : sp_bytes_of K A vs H Q E) : vs.length = 2 := by
  obtain ⟨_, _, rfl, _⟩ := h
  rfl
theorem pure_bytes_of (T : Txt K mg A) {vs : List V} {H : Hp} {Q : VK} {E : XK} (h : sp_bytes_of K A vs H Q E) :
    t_bytes_of K A { nx := fun _ H' => Q .non H', rt := Q } (start ["number", "many", "found", "at"] vs) H := by
  obtain ⟨x, n, rfl, hn, k⟩ := h
  refine ⟨Nat.zero_le _, fun p hp => ?_⟩
  refine ⟨_, rfl, _, rfl, by omega, by omega, for_range (lo := 0) (n := n) (fun j σ H' => j ≤ n ∧ ∃ b : Option V, σ = [some (.int x), some (.int n), some (.ref p), b] ∧ But p H H' ∧ H' p = some (.lst (nv (Sb16.bytesOf j x)))) ⟨Nat.zero_le _, none, rfl, fun b o e nb => ?_, upd_same⟩ ?_ ?_⟩
  · rw [upd_ne nb]
    exact e
  · rintro j σ H' hj ⟨_, b, rfl, hk, hq⟩
    refine ⟨_, rfl, .inl ⟨rfl, _, SqL.of hq⟩, _, rfl, _, rfl, _, _, rfl, rfl, .inl ⟨by decide, by decide⟩, _, _, rfl, rfl, by omega, _, _, rfl, rfl, _, _, _, rfl, rfl, hq, ?_, ?_⟩
    · rw [nv_len, bytesOf_len]
      exact small1000 (by omega)
    · refine ⟨hj, some (.int (0 + (j : Int))), rfl, fun b o e nb => ?_, ?_⟩
      · rw [upd_ne nb]
        exact hk b o e nb
      · rw [upd_same]
        congr 2
        unfold nv Sb16.bytesOf
        rw [List.range_succ, List.map_append, List.map_append, List.map_cons, List.map_cons, List.map_nil, List.map_nil]
        congr 2
        exact vint (byte_of x j)
  · rintro σ H' ⟨_, b, rfl, hk, hq⟩
    exact ⟨_, rfl, k _ _ (fun b o e => hk b o e (ne_of_none e hp)) hp hq⟩
theorem len_length_at {vs : List V} {H : Hp} {Q : VK} {E : XK} (h : sp_length_at K A vs H Q E) : vs.length = 2 := by
  obtain ⟨_, _, _, rfl, _⟩ := h
  rfl
theorem pure_length_at (T : Txt K mg A) {vs : List V} {H : Hp} {Q : VK} {E : XK} (h : sp_length_at K A vs H Q E) :
    t_length_at K A { nx := fun _ H' => Q .non H', rt := Q } (start ["code", "at", "first", "long"] vs) H := by
  obtain ⟨c, w, i, rfl, hc, W, hi, k⟩ := h
  have g := k H (Same.refl H)
  rw [lenAt_is W hi] at g
  have e1 := lens_get (Sb16.at_ w i)
  refine ⟨_, rfl, _, rfl, _, _, _, _, rfl, rfl, hc, nv_at (by rw [W.len]; exact hi), ?_⟩
  refine ⟨rfl, _, rfl, _, _, rfl, rfl, ?_⟩
  have e1 : (LENZ.lookup (Sb16.at_ w i : Int)).getD 0 = ((lenTab (Sb16.at_ w i) : Nat) : Int) := lens_get _
  rw [e1]
  refine ⟨_, rfl, _, rfl, _, _, rfl, rfl, _, rfl, _, _, rfl, .inl hc, _, _, rfl, rfl, _, rfl, ?_⟩
  rw [nv_len, W.len]
  refine ifd (fun q => ?_) (fun q => ?_)
  · rw [if_pos (.inl (by omega))] at g
    exact iteT g
  refine ⟨_, rfl, _, _, rfl, .inr (T.tWi _), rfl, rfl, _, rfl, ?_⟩
  refine ifin (fun q2 => ?_) (fun q2 => ?_)
  · have o := (one_iff _).mpr q2
    have lt : i + 1 < 65536 := by
      have := wc_lt W (i := i) (fun z => by rw [z] at o; exact absurd o (by decide))
      omega
    refine ⟨_, rfl, _, rfl, _, _, rfl, rfl, _, _, _, _, rfl, rfl, hc, at_of (j := i + 1) (by omega) (nv_get (by rw [W.len]; exact lt)), _, _, rfl, rfl, _, rfl, ?_⟩
    refine ifd (fun q3 => ?_) (fun q3 => ?_)
    · rw [if_pos (.inr ⟨o, by omega⟩)] at g
      exact g
    · rw [if_neg (fun z => z.elim (fun z => q (by omega)) fun z => q3 (by omega))] at g
      exact ⟨_, rfl, g⟩
  · rw [if_neg (fun z => z.elim (fun z => q (by omega)) fun z => q2 ((one_iff _).mp z.1))] at g
    refine iteF ?_
    exact ⟨_, rfl, g⟩
theorem len_first_register {vs : List V} {H : Hp} {Q : VK} {E : XK} (h : sp_first_register K A vs H Q E) : vs.length = 2 := by
  obtain ⟨_, _, _, rfl, _⟩ := h
  rfl
theorem pure_first_register (T : Txt K mg A) {vs : List V} {H : Hp} {Q : VK} {E : XK} (h : sp_first_register K A vs H Q E) :
    t_first_register K A { nx := fun _ H' => Q .non H', rt := Q } (start ["code", "at"] vs) H := by
  obtain ⟨c, w, i, rfl, hc, hi, k⟩ := h
  have g := k H (Same.refl H)
  unfold firstOf at g
  refine ⟨_, rfl, _, rfl, _, _, _, _, rfl, rfl, hc, nv_at (by omega), _, _, rfl, .inr (T.tWi _), rfl, rfl, _, rfl, ?_⟩
  refine ifin (fun q => ?_) (fun q => ?_)
  · rw [if_pos ((one_iff _).mpr q)] at g
    exact ⟨_, rfl, _, rfl, _, _, rfl, rfl, _, _, _, _, rfl, rfl, hc, at_of (j := i + 1) (by omega) (nv_get hi), g⟩
  · rw [if_neg (fun z => q ((one_iff _).mp z))] at g
    exact ⟨_, rfl, _, rfl, _, _, rfl, rfl, _, _, _, _, rfl, rfl, hc, at_of (j := i + 1) (by omega) (nv_get hi), _, _, rfl, rfl, ⟨by decide, by decide⟩, g⟩
theorem len_second_register {vs : List V} {H : Hp} {Q : VK} {E : XK} (h : sp_second_register K A vs H Q E) : vs.length = 2 := by
  obtain ⟨_, _, _, rfl, _⟩ := h
  rfl
theorem pure_second_register (T : Txt K mg A) {vs : List V} {H : Hp} {Q : VK} {E : XK} (h : sp_second_register K A vs H Q E) :
    t_second_register K A { nx := fun _ H' => Q .non H', rt := Q } (start ["code", "at"] vs) H := by
  obtain ⟨c, w, i, rfl, hc, hi, k⟩ := h
  exact ⟨_, rfl, _, rfl, _, _, rfl, rfl, _, _, _, _, rfl, rfl, hc, at_of (j := i + 1) (by omega) (nv_get hi), _, _, rfl, rfl, (by show (0 : Int) < 16; decide), k H (Same.refl H)⟩
theorem len_place_told {vs : List V} {H : Hp} {Q : VK} {E : XK} (h : sp_place_told K A vs H Q E) : vs.length = 2 := by
  obtain ⟨_, _, _, rfl, _⟩ := h
  rfl
theorem pure_place_told (T : Txt K mg A) {vs : List V} {H : Hp} {Q : VK} {E : XK} (h : sp_place_told K A vs H Q E) :
    t_place_told K A { nx := fun _ H' => Q .non H', rt := Q } (start ["code", "at", "behind"] vs) H := by
  obtain ⟨c, w, i, rfl, hc, W, hg, k⟩ := h
  obtain ⟨l5, l6, hl, h0⟩ := goes_tab hg
  have hi := wc_lt W h0
  have e1 : LENZ.lookup (Sb16.at_ w i : Int) = some ((lenTab (Sb16.at_ w i) : Nat) : Int) := by
    unfold LENZ
    rw [lens_lookup, hl]
    rfl
  refine ⟨_, rfl, _, rfl, _, rfl, _, _, _, _, rfl, rfl, hc, nv_at (by rw [W.len]; omega), _, _, rfl, rfl, e1, _, _, rfl, rfl, ?_⟩
  refine ⟨_, rfl, _, rfl, _, rfl, _, _, rfl, rfl, c, w, i + lenTab (Sb16.at_ w i) - 4, 4, ?_, hc, W.byte, by decide, by decide, by rw [W.len]; omega, fun H1 s1 => ?_⟩
  · show [V.ref c, V.int _, V.int 4] = [V.ref c, V.int _, V.int _]
    rw [show (i : Int) + (lenTab (Sb16.at_ w i) : Int) - 4 = ((i + lenTab (Sb16.at_ w i) - 4 : Nat) : Int) by omega]
    rfl
  · refine ⟨_, _, rfl, rfl, ?_⟩
    have g := k H1 s1
    unfold toldAt at g
    exact g
theorem len_whole_code {vs : List V} {H : Hp} {Q : VK} {E : XK} (h : sp_whole_code K A vs H Q E) : vs.length = 1 := by
  obtain ⟨_, _, rfl, _⟩ := h
  rfl
theorem line65 {n : Nat} (h : n ≤ 65536) : n ≤ sizeLine := Nat.le_trans h (by decide)
theorem rep_flat (n : Nat) (v : V) : (List.replicate n [v]).flatten = List.replicate n v := by
  induction n with
  | zero => rfl
  | succ n ih => rw [List.replicate_succ, List.flatten_cons, ih, List.replicate_succ]; rfl
theorem nv_rep (n : Nat) : List.replicate n (V.int 0) = nv (List.replicate n 0) := by
  unfold nv
  rw [List.map_replicate]
  rfl
theorem nv_app (a b : List Nat) : nv (a ++ b) = nv a ++ nv b := List.map_append
theorem pure_whole_code (T : Txt K mg A) {vs : List V} {H : Hp} {Q : VK} {E : XK} (h : sp_whole_code K A vs H Q E) :
    t_whole_code K A { nx := fun _ H' => Q .non H', rt := Q } (start ["code"] vs) H := by
  obtain ⟨c, l, rfl, hc, hl, k⟩ := h
  refine ⟨_, rfl, by show 1 ≤ sizeLine; decide, fun p hp => ?_⟩
  have hc1 : upd H p (.lst [V.int 0]) c = some (.lst (nv l)) := by rw [upd_ne (ne_of_none hc hp)]; exact hc
  refine ⟨_, rfl, _, _, rfl, .inl (SqL.of hc1), _, _, rfl, rfl, ?_⟩
  rw [nv_len]
  have e : ((65536 : Int) - (l.length : Int)).toNat = 65536 - l.length := by omega
  refine ⟨_, _, _, rfl, rfl, upd_same, by omega, by omega, by rw [e]; exact line65 (by simp), fun q hq => ?_⟩
  rw [e, rep_flat, nv_rep]
  have hqn : H q = none := by
    have := hq
    by_cases z : q = p
    · subst z
      rw [upd_same] at this
      cases this
    · rw [upd_ne z] at this
      exact this
  have cq : c ≠ q := ne_of_none hc hqn
  refine ⟨_, _, _, _, rfl, rfl, by rw [upd_ne cq]; exact hc1, upd_same, by rw [nv_len, nv_len, List.length_replicate]; exact line65 (by omega), fun r hr => ?_⟩
  rw [← nv_app]
  have s1 : Same H (upd (upd H p (.lst [V.int 0])) q (.lst (nv (List.replicate (65536 - l.length) 0)))) := Same.trans (Same.new hp) (Same.new hq)
  exact k _ r (s1.trans (Same.new hr)) (s1.free hr) upd_same
end
end Fm

namespace Fm
open PySem PySem.Spec PyProof.Rows L2
theorem vi_ne {a b : Nat} {X Y : Prop} (h1 : a ≠ b → X) (h2 : a = b → Y) : if (!decide ((a : Int) = (b : Int))) = true then X else Y :=
  ifnd (fun h => h1 fun z => h (by rw [z])) fun h => h2 (by omega)
section
variable {P : Program} {w : World} {K : PySem.W.Frag} {mg : Str → Option Value} {base : Heap} {A : Ads}
theorem len_fault_at {vs : List V} {H : Hp} {Q : VK} {E : XK} (h : sp_fault_at K A vs H Q E) : vs.length = 2 := by
  obtain ⟨_, _, _, rfl, _⟩ := h
  rfl
theorem pure_fault_at (T : Txt K mg A) {vs : List V} {H : Hp} {Q : VK} {E : XK} (h : sp_fault_at K A vs H Q E) :
    t_fault_at K A { nx := fun _ H' => Q .non H', rt := Q } (start ["whole", "at", "long"] vs) H := by
  obtain ⟨c, w, i, rfl, hc, W, hi, k⟩ := h
  refine ⟨_, rfl, _, rfl, c, w, i, rfl, hc, W, hi, fun H1 s1 => ?_⟩
  have hc1 := s1.seq hc
  refine ⟨_, rfl, _, _, rfl, rfl, _, rfl, ?_⟩
  refine ifd (fun q => ?_) (fun q => ?_)
  · have g := k H1 s1
    rw [fault_none W hi (by omega)] at g
    exact g
  have hl : lenAt w i ≠ 0 := fun z => q (by rw [z]; rfl)
  have lp := lenAt_pos W hi hl
  have f := fault_is W hi hl
  refine ⟨_, rfl, _, _, rfl, rfl, ⟨by decide, by decide⟩, _, rfl, _, rfl, _, _, rfl, rfl, _, _, rfl, rfl, _, _, rfl, rfl, ⟨by decide, by decide⟩, _, _, rfl, rfl, _, rfl, ?_⟩
  refine ifnd (fun c1 => ?_) (fun c1 => ?_)
  · have g := k H1 s1
    rw [f, if_pos (by omega)] at g
    exact g
  rw [if_neg (by omega)] at f
  have hat : (nv w)[i]? = some (.int (Sb16.at_ w i : Nat)) := nv_get (by rw [W.len]; exact hi)
  have tail : ∀ H2, Same H H2 → ¬ (sets (Sb16.at_ w i) = true ∧ 13 ≤ firstOf w i ∧ firstOf w i ≤ 15) →
      (tSeq (tIfS (tAnd (tTest (tOp (rIn K false) (tOp (rIxL K) (tVar 0) (tVar 1)) (tC (.ref A.re)))) (tTest (tOp (rIn K true) (tCall (sp_second_register K A) [] E0 (tCons (tVar 0) (tCons (tVar 1) tNil))) (tC (.ref A.fe))))) (tRet (tC (.int 4))) tNext)
        (tRet (tC (.int 0)))) { nx := fun _ H' => Q .non H', rt := Q } [some (.ref c), some (.int i), some (.int (lenAt w i : Nat))] H2 := by
    intro H2 s2 c2
    rw [if_neg c2] at f
    refine ⟨_, rfl, _, rfl, _, _, _, _, rfl, rfl, s2.seq hc, atI_nat hat, _, _, rfl, .inr (T.tRe _), rfl, rfl, _, rfl, ?_⟩
    refine ifin (fun c3 => ?_) (fun c3 => ?_)
    · have c3' := (reaches_iff _).mpr c3
      have i1 : i < 65504 := wc_lt W fun z => by rw [z] at c3'; exact absurd c3' (by decide)
      refine ⟨_, rfl, _, rfl, c, w, i, rfl, s2.seq hc, by rw [W.len]; omega, fun H3 s3 => ?_⟩
      refine ⟨_, _, rfl, .inr (T.tFe _), rfl, rfl, _, rfl, ?_⟩
      have g := k H3 (s2.trans s3)
      refine ifnin (fun c4 => ?_) (fun c4 => ?_)
      · rw [f, if_pos ⟨c3', fun z => c4 ((fenced_iff _).mp z)⟩] at g
        exact g
      · rw [f, if_neg (fun z => z.2 ((fenced_iff _).mpr c4))] at g
        exact g
    · have g := k H2 s2
      rw [f, if_neg (fun z => c3 ((reaches_iff _).mp z.1))] at g
      exact iteF g
  refine ⟨_, rfl, _, rfl, _, _, _, _, rfl, rfl, hc1, atI_nat hat, _, _, rfl, .inr (T.tSe _), rfl, rfl, _, rfl, ?_⟩
  refine ifin (fun c2 => ?_) (fun c2 => ?_)
  · have c2' := (sets_iff _).mpr c2
    have i1 : i < 65504 := wc_lt W fun z => by rw [z] at c2'; exact absurd c2' (by decide)
    refine ⟨_, rfl, _, rfl, c, w, i, rfl, hc1, by rw [W.len]; omega, fun H2 s2 => ?_⟩
    refine ⟨_, _, rfl, .inr (T.tKe _), rfl, rfl, _, rfl, ?_⟩
    refine ifin (fun c3 => ?_) (fun c3 => ?_)
    · have g := k H2 (s1.trans s2)
      rw [f, if_pos ⟨c2', (kept_iff _).mpr c3⟩] at g
      exact g
    · exact tail H2 (s1.trans s2) fun z => c3 ((kept_iff _).mp z.2)
  · exact iteF (tail H1 s1 fun z => c2 ((sets_iff _).mp z.1))
theorem len_beginnings {vs : List V} {H : Hp} {Q : VK} {E : XK} (h : sp_beginnings K A vs H Q E) : vs.length = 2 := by
  obtain ⟨_, _, _, rfl, _⟩ := h
  rfl
theorem pure_beginnings (T : Txt K mg A) {vs : List V} {H : Hp} {Q : VK} {E : XK} (h : sp_beginnings K A vs H Q E) :
    t_beginnings K A { nx := fun _ H' => Q .non H', rt := Q } (start ["whole", "many", "places", "at", "fault"] vs) H := by
  obtain ⟨c, w, many, rfl, hc, W, hm, k⟩ := h
  refine ⟨Nat.zero_le _, fun pl hpl => ?_⟩
  let Inv : Nat → L2.St → Hp → Prop := fun f σ H' => ∃ (i : Nat) (l : List Nat) (b : Option V), f = many + 1 - i ∧ i ≤ 65536 ∧ l.length ≤ i ∧ begs w many = begsGo w many (many + 1 - i) i l ∧
    σ = [some (.ref c), some (.int many), some (.ref pl), some (.int i), b] ∧ But pl H H' ∧ H' pl = some (.lst (nv l))
  refine ⟨Inv, ⟨many + 1, 0, [], none, rfl, by omega, Nat.le_refl _, rfl, rfl, fun b o e nb => by rw [upd_ne nb]; exact e, upd_same⟩, ?_⟩
  rintro m σ H' ⟨i, l, b, rfl, hi, hl, hb, rfl, hk, hq⟩
  have s1 : Same H H' := fun b o e => hk b o e (ne_of_none e hpl)
  refine ⟨_, rfl, _, rfl, _, _, rfl, rfl, _, rfl, ?_⟩
  refine ifd (fun q => ?_) (fun q => ?_)
  · have q' : i < many := by omega
    obtain ⟨f, hf⟩ : ∃ f, many + 1 - i = f + 1 := ⟨many - i, by omega⟩
    refine ⟨fun σ2 H2 => ∃ m' < many + 1 - i, Inv m' σ2 H2, fun σ2 H2 z => z, ?_⟩
    refine ⟨_, rfl, _, rfl, c, w, i, rfl, s1.seq hc, W, by omega, fun H1 t1 => ?_⟩
    refine ⟨_, rfl, _, _, rfl, rfl, _, rfl, ?_⟩
    rw [hf] at hb
    unfold begsGo at hb
    rw [if_pos q'] at hb
    refine vi_ne (fun c1 => ?_) (fun c1 => ?_)
    · rw [if_pos c1] at hb
      refine ⟨_, rfl, _, rfl, _, rfl, by show 3 ≤ sizeLine; decide, fun p hp => ?_⟩
      refine k _ p pl ((s1.trans t1).trans (Same.new hp)) hpl ?_ ?_
      · rw [upd_ne (ne_of_none (t1 _ _ hq) hp), hb]
        exact t1 _ _ hq
      · rw [upd_same, hb]
    · rw [if_neg (fun z => z c1)] at hb
      have ln := fault_len W (by omega) c1
      have l10 := lenAt_le W (i := i) (by omega)
      refine ⟨_, rfl, .inl ⟨rfl, _, SqL.of (t1 _ _ hq)⟩, _, rfl, _, _, _, rfl, rfl, t1 _ _ hq, by rw [nv_len]; exact Nat.lt_of_le_of_lt (show l.length ≤ 65536 by omega) (by decide), ?_⟩
      have bt : But pl H (upd H1 pl (.lst (nv l ++ [V.int i]))) := fun b o e nb => by
        rw [upd_ne nb]
        exact t1 _ _ (hk b o e nb)
      refine ⟨_, rfl, _, rfl, _, rfl, c, w, i, rfl, Same.seq (fun b o e => bt b o e (ne_of_none e hpl)) hc, W, by omega, fun H2 t2 => ?_⟩
      refine ⟨_, _, rfl, rfl, many + 1 - (i + lenAt w i), by omega, i + lenAt w i, l ++ [i], some (.int (faultAt w i : Nat)), rfl, by omega, by rw [List.length_append]; simp; omega, ?_, ?_, ?_, ?_⟩
      · rw [hb]
        have more : ∀ (f g j : Nat) (l : List Nat), j ≤ many + 1 → many + 1 - j ≤ f → many + 1 - j ≤ g → begsGo w many f j l = begsGo w many g j l := by
          intro f
          induction f with
          | zero =>
            intro g j l h0 h1 h2
            have : many < j := by omega
            cases g with
            | zero => rfl
            | succ g =>
              unfold begsGo
              rw [if_neg (by omega)]
          | succ f ih =>
            intro g j l h0 h1 h2
            cases g with
            | zero =>
              unfold begsGo
              rw [if_neg (by omega)]
            | succ g =>
              unfold begsGo
              by_cases z : j < many
              · rw [if_pos z, if_pos z]
                by_cases y : faultAt w j ≠ 0
                · rw [if_pos y, if_pos y]
                · rw [if_neg y, if_neg y]
                  have := fault_len W (i := j) (by omega) (by omega)
                  by_cases u : j + lenAt w j ≤ many + 1
                  · exact ih g _ _ u (by omega) (by omega)
                  · cases f with
                    | zero =>
                      cases g with
                      | zero => rfl
                      | succ g =>
                        unfold begsGo
                        rw [if_neg (by omega)]
                    | succ f =>
                      cases g with
                      | zero =>
                        unfold begsGo
                        rw [if_neg (by omega)]
                      | succ g =>
                        unfold begsGo
                        rw [if_neg (by omega), if_neg (by omega)]
              · rw [if_neg z, if_neg z]
        by_cases u : i + lenAt w i ≤ many + 1
        · exact more _ _ _ _ u (by omega) (by omega)
        · cases f with
          | zero =>
            have e : many + 1 - (i + lenAt w i) = 0 := by omega
            rw [e]
          | succ f =>
            have e : many + 1 - (i + lenAt w i) = 0 := by omega
            rw [e]
            unfold begsGo
            rw [if_neg (by omega)]
      · simp
      · exact fun b o e nb => t2 _ _ (bt b o e nb)
      · rw [nv_app]
        exact t2 _ _ upd_same
  · have q' : ¬ i < many := by omega
    have hb' : begs w many = (l, i, 0) := by
      rw [hb]
      cases many + 1 - i with
      | zero => rfl
      | succ f =>
        unfold begsGo
        rw [if_neg q']
    refine ⟨_, rfl, _, rfl, by show 3 ≤ sizeLine; decide, fun p hp => ?_⟩
    refine k _ p pl (s1.trans (Same.new hp)) hpl ?_ ?_
    · rw [upd_ne (ne_of_none hq hp), hb']
      exact hq
    · rw [upd_same, hb']
      rfl
end
end Fm

namespace Fm
open PySem PySem.Spec PyProof.Rows L2
theorem putK_le {κ : Type} [DecidableEq κ] (c : List (κ × V)) (k : κ) (x : V) : (putK c k x).length ≤ c.length + 1 := by
  unfold putK
  split
  · rw [List.length_map]
    omega
  · rw [List.length_append]
    simp
/-- the dict holds just these -/
def Holds (kvs : List (L2.Key × V)) (l : List Nat) : Prop := ∀ z : Int, (valV kvs (Sum.inl z)).isSome = l.any fun q => decide ((q : Int) = z)
theorem Holds.put {kvs : List (L2.Key × V)} {l : List Nat} {i x : Nat} {v : V} (h : Holds kvs (l.take i)) (hx : l[i]? = some x) : Holds (putK kvs (Sum.inl (x : Int)) v) (l.take (i + 1)) := fun z => by
  rw [valV_put, List.take_add_one, hx]
  show _ = (l.take i ++ [x]).any _
  rw [List.any_append, ← h z]
  by_cases e : (x : Int) = z
  · subst e
    rw [if_pos rfl]
    simp
  · rw [if_neg (fun q => e (Sum.inl.inj q).symm)]
    simp [e]
section
variable {P : Program} {w : World} {K : PySem.W.Frag} {mg : Str → Option Value} {base : Heap} {A : Ads}
theorem len_looked_at {vs : List V} {H : Hp} {Q : VK} {E : XK} (h : sp_looked_at K A vs H Q E) : vs.length = 2 := by
  obtain ⟨_, _, _, rfl, _⟩ := h
  rfl
theorem pure_looked_at (T : Txt K mg A) {vs : List V} {H : Hp} {Q : VK} {E : XK} (h : sp_looked_at K A vs H Q E) :
    t_looked_at K A { nx := fun _ H' => Q .non H', rt := Q } (start ["whole", "many", "places", "end", "fault", "begun", "place", "told"] vs) H := by
  obtain ⟨c, w, many, rfl, hc, W, hm, k⟩ := h
  refine ⟨_, rfl, _, rfl, c, w, many, rfl, hc, W, hm, fun H1 p pl s1 hpl hl ht => ?_⟩
  have hlt := begs_lt (w := w) (many := many)
  have hlen := begs_len w many
  unfold lookAns at k
  generalize hb : begs w many = B at *
  obtain ⟨ps, e, f⟩ := B
  refine ⟨p, _, rfl, SqT.of ht, rfl, _, _, rfl, _, _, rfl, _, _, rfl, rfl, ?_⟩
  show (tSeq (tIfS (tB (tNeI (tVar 4) (tC (.int 0)))) (tRet (tLst (tCons (tVar 4) (tCons (tVar 3) tNil)))) tNext) _) _ [some (.ref c), some (.int many), some (.ref pl), some (.int (e : Nat)), some (.int (f : Nat)), none, none, none] H1
  refine ⟨_, rfl, _, _, rfl, rfl, _, rfl, ?_⟩
  refine vi_ne (b := 0) (fun c1 => ?_) (fun c1 => ?_)
  · rw [if_pos c1] at k
    refine ⟨_, rfl, _, rfl, by show 2 ≤ sizeLine; decide, fun q hq => ?_⟩
    exact k _ q (s1.trans (Same.new hq)) (s1.free hq) upd_same
  rw [if_neg (fun z => z c1)] at k
  intro bg hbg
  have hl2 : upd H1 bg (.dK []) pl = some (.lst (nv ps)) := by rw [upd_ne (ne_of_none hl hbg)]; exact hl
  have hpsl : ∀ q ∈ ps, q < 65504 := fun q m => Nat.lt_of_lt_of_le (hlt q m) hm
  -- the first loop: what begins
  refine ⟨_, rfl, pl, rfl, ⟨_, SqL.of hl2⟩, for_list (K := K) (a := pl) (xs := nv ps) (fun j σ H' => ∃ (b : Option V) (kvs : List (L2.Key × V)), σ = [some (.ref c), some (.int many), some (.ref pl), some (.int (e : Nat)), some (.int (f : Nat)), some (.ref bg), b, none] ∧
    But bg H1 H' ∧ H' bg = some (.dK kvs) ∧ kvs.length ≤ j ∧ Holds kvs (ps.take j)) ⟨none, [], rfl, fun b o e1 nb => by rw [upd_ne nb]; exact e1, upd_same, Nat.le_refl _, fun z => rfl⟩
    (fun j σ H' _ q => by obtain ⟨_, _, _, kb, _⟩ := q; exact SqL.of (kb _ _ hl (ne_of_none hl hbg))) ?_ ?_⟩
  · rintro j x σ H' hx ⟨b, kvs, rfl, kb, hd, hn, hh⟩
    obtain ⟨y, hy, rfl⟩ : ∃ y, ps[j]? = some y ∧ x = V.int (y : Nat) := by
      unfold nv at hx
      rw [List.getElem?_map] at hx
      obtain ⟨y, h1, h2⟩ := Option.map_eq_some_iff.mp hx
      exact ⟨y, h1, h2.symm⟩
    have hj : j < ps.length := (List.getElem?_eq_some_iff.mp hy).1
    have hps : ps.length ≤ many + 1 := hlen
    refine ⟨_, rfl, _, rfl, bg, _, rfl, DPut.k (k := Sum.inl (y : Int)) hd (Nat.lt_of_le_of_lt (show kvs.length ≤ 65505 by omega) (by decide)), ?_⟩
    exact ⟨some (.int (y : Nat)), putK kvs (Sum.inl (y : Int)) (.bl true), rfl, fun b o e1 nb => by rw [upd_ne nb]; exact kb b o e1 nb, upd_same, Nat.le_trans (putK_le _ _ _) (by omega), hh.put hy⟩
  · rintro σ H2 ⟨b, kvs, rfl, kb, hd, hn, hh⟩
    rw [nv_len, List.take_length] at hh
    have hl3 : H2 pl = some (.lst (nv ps)) := kb _ _ hl (ne_of_none hl hbg)
    have s2 : Same H H2 := fun b o e1 => kb b o (s1 b o e1) fun z => by
      subst z
      rw [s1 b o e1] at hbg
      cases hbg
    refine ⟨_, rfl, pl, rfl, ⟨_, SqL.of hl3⟩, for_list (K := K) (a := pl) (xs := nv ps) (fun j σ H' => ∃ (b b2 : Option V), σ = [some (.ref c), some (.int many), some (.ref pl), some (.int (e : Nat)), some (.int (f : Nat)), some (.ref bg), b, b2] ∧
      Same H2 H' ∧ ∀ q ∈ ps.take j, strays w ps e q = false) ⟨b, none, rfl, Same.refl _, fun q m => absurd m (by simp)⟩ (fun j σ H' _ q => by obtain ⟨_, _, _, kb, _⟩ := q; exact SqL.of (kb _ _ hl3)) ?_ ?_⟩
    · rintro j x σ H' hx ⟨b1, b2, rfl, s3, ha⟩
      obtain ⟨y, hy, rfl⟩ : ∃ y, ps[j]? = some y ∧ x = V.int (y : Nat) := by
        unfold nv at hx
        rw [List.getElem?_map] at hx
        obtain ⟨y, h1, h2⟩ := Option.map_eq_some_iff.mp hx
        exact ⟨y, h1, h2.symm⟩
      have y5 := hpsl y (List.mem_of_getElem? hy)
      have more : strays w ps e y = false → ∀ q ∈ ps.take (j + 1), strays w ps e q = false := fun hy2 q m => by
        rcases (mem_take_more hy q).mp m with z | z
        · exact ha q z
        · rw [z]
          exact hy2
      have hc3 : SqL K H' c (nv w) := (s2.trans s3).seq hc
      refine ⟨_, rfl, _, rfl, _, _, _, _, rfl, rfl, hc3, nv_at (by rw [W.len]; omega), _, _, rfl, .inr (T.tGo _), rfl, rfl, _, rfl, ?_⟩
      refine ifin (fun c2 => ?_) (fun c2 => ?_)
      · have hg := (goes_iff _).mpr c2
        refine ⟨_, rfl, _, rfl, c, w, y, rfl, hc3, W, hg, fun H4 s4 => ?_⟩
        have hd4 : H4 bg = some (.dK kvs) := s4 _ _ (s3 _ _ hd)
        refine ⟨_, rfl, _, rfl, bg, _, rfl, DGet.k (k := Sum.inl (toldAt w y)) hd4, _, rfl, ?_⟩
        rw [hh]
        have st : strays w ps e y = (!(ps.any fun q => decide ((q : Int) = toldAt w y)) && (decide (toldAt w y < (e : Int)) || decide ((65536 : Int) ≤ toldAt w y))) := by
          unfold strays
          rw [hg, Bool.true_and]
        cases ca : ps.any fun q => decide ((q : Int) = toldAt w y) with
        | true =>
          rw [ca] at st
          exact iteF (iteF ⟨_, _, rfl, s3.trans s4, more st⟩)
        | false =>
          rw [ca] at st
          refine iteT ?_
          have hit : strays w ps e y = true → tRet (tLst (tCons (tC (.int 5)) (tCons (tVar 6) tNil))) { nx := fun _ H' => Q .non H', rt := Q } [some (.ref c), some (.int many), some (.ref pl), some (.int (e : Nat)), some (.int (f : Nat)), some (.ref bg), some (.int (y : Nat)), some (.int (toldAt w y))] H4 := fun hs => by
            rw [find_first hy hs ha] at k
            refine ⟨_, rfl, by show 2 ≤ sizeLine; decide, fun q hq => ?_⟩
            exact k _ q (((s2.trans s3).trans s4).trans (Same.new hq)) (((s2.trans s3).trans s4).free hq) upd_same
          refine ⟨_, rfl, _, rfl, _, _, rfl, rfl, _, rfl, ?_⟩
          refine ifd (fun q1 => ?_) (fun q1 => ?_)
          · rw [decide_eq_true q1] at st
            exact iteT (hit st)
          · rw [decide_eq_false q1] at st
            refine ⟨_, rfl, _, _, rfl, rfl, _, rfl, ?_⟩
            refine ifd (fun q2 => ?_) (fun q2 => ?_)
            · rw [decide_eq_true q2] at st
              exact hit st
            · rw [decide_eq_false q2] at st
              exact ⟨_, _, rfl, s3.trans s4, more st⟩
      · refine ⟨_, _, rfl, s3, more ?_⟩
        unfold strays
        have : goes (Sb16.at_ w y) = false := by
          cases z : goes (Sb16.at_ w y) with
          | false => rfl
          | true => exact absurd ((goes_iff _).mp z) c2
        rw [this]
        rfl
    · rintro σ H' ⟨b1, b2, rfl, s3, ha⟩
      rw [nv_len, List.take_length] at ha
      rw [List.find?_eq_none.mpr (fun q m => by rw [ha q m]; decide)] at k
      refine ⟨by show 1 ≤ sizeLine; decide, fun q hq => ?_⟩
      exact k _ q ((s2.trans s3).trans (Same.new hq)) ((s2.trans s3).free hq) upd_same
end
end Fm

namespace Fm
open PySem PySem.Spec PyProof.Rows L2
/-! ### fields by name -/
theorem lkh {k : Str} {v : V} {r : List (Str × V)} : List.lookup k ((k, v) :: r) = some v := by
  have e : (k == k) = true := beq_self_eq_true k
  simp only [List.lookup, e]
theorem lkp {k g : Str} {v : V} {r : List (Str × V)} (h : (k == g) = false) : List.lookup k ((g, v) :: r) = List.lookup k r := by
  simp only [List.lookup, h]
theorem pth {f : Str} {v x : V} {r : List (Str × V)} : putF f v ((f, x) :: r) = (f, v) :: r := if_pos rfl
theorem ptp {f g : Str} {v x : V} {r : List (Str × V)} (h : ¬ g = f) : putF f v ((g, x) :: r) = (g, x) :: putF f v r := if_neg h
theorem memF_cells (cl bd : Addr) : (memF cl bd).lookup ("cells" : Str) = some (.ref cl) := lkh
theorem memF_before (cl bd : Addr) : (memF cl bd).lookup ("before" : Str) = some (.ref bd) := (lkp (by decide +kernel)).trans lkh
theorem memF_new (cl bd : Addr) : putF "before" (.ref bd) (putF "cells" (.ref cl) []) = memF cl bd := (ptp (by decide +kernel)).trans rfl
theorem atNat {xs : List V} {z : Int} {j : Nat} {v : V} (e : z = (j : Int)) (h : xs[j]? = some v) : atI xs z = some v := at_of e h
/-- a loop over enumerate(a list) that stays -/
theorem for_Ite {K : PySem.W.Frag} {a : Addr} {xs : List V} {g : TG} {tb : TS} {D : Ends} {σ : L2.St} {H : Hp} (Pv : Nat → L2.St → Hp → Prop) (h0 : Pv 0 σ H) (hq : ∀ i σ H, Pv i σ H → SqL K H a xs)
    (hs : ∀ (i : Nat) (x : V) (σ : L2.St) (H : Hp) (t : Addr), xs[i]? = some x → Pv i σ H → H t = none → g (.ref t) σ (upd H t (.tup [.int (i : Nat), x])) fun σ2 H2 => tb { D with nx := Pv (i + 1), ct := Pv (i + 1), bk := D.nx } σ2 H2) (hd : ∀ σ H, Pv xs.length σ H → D.nx σ H) :
    ∃ W : Nat → Nat → L2.St → Hp → Prop, (∃ m, W 0 m σ H) ∧ ∀ i m σ H, W i m σ H →
      ((Ite K a).stop i H ∧ D.nx σ H) ∨ ((Ite K a).go i H ∧ ∃ N : L2.St → Hp → Prop, (∀ σ' H', N σ' H' → ∃ m', m' < m ∧ W (i + 1) m' σ' H') ∧ ∀ v H', (Ite K a).yld i H v H' → g v σ H' fun σ2 H2 => tb { D with nx := N, ct := N, bk := D.nx } σ2 H2) := by
  refine ⟨fun i m σ H => m = xs.length - i ∧ i ≤ xs.length ∧ Pv i σ H, ⟨xs.length, rfl, Nat.zero_le _, h0⟩, ?_⟩
  rintro i m σ H ⟨rfl, hi, p⟩
  have hl := hq i σ H p
  by_cases c : i < xs.length
  · refine .inr ⟨⟨xs, xs[i], hl, List.getElem?_eq_getElem c⟩, Pv (i + 1), fun σ' H' p' => ⟨xs.length - (i + 1), by omega, rfl, c, p'⟩, fun v H' y => ?_⟩
    obtain ⟨t, x, rfl, ht, rfl, hx⟩ := y
    exact hs i x σ H t (hx xs hl) p ht
  · have e : i = xs.length := by omega
    subst e
    exact .inl ⟨⟨xs, hl, Nat.le_refl _⟩, hd σ H p⟩
section
variable {P : Program} {w : World} {K : PySem.W.Frag} {mg : Str → Option Value} {base : Heap} {A : Ads}
theorem len_mem_init {vs : List V} {H : Hp} {Q : VK} {E : XK} (h : sp_mem_init K A vs H Q E) : vs.length = 3 := by
  obtain ⟨_, _, _, _, _, rfl, _⟩ := h
  rfl
theorem pure_mem_init (T : Txt K mg A) {vs : List V} {H : Hp} {Q : VK} {E : XK} (h : sp_mem_init K A vs H Q E) :
    t_mem_init K A { nx := fun _ H' => Q .non H', rt := Q } (start ["self", "off", "given"] vs) H := by
  obtain ⟨p, dx, off, g, l, rfl, hp, hg, hl, k⟩ := h
  refine ⟨by show 1 ≤ sizeLine; decide, fun a1 f1 => ?_⟩
  have s1 := Same.new (o := .lst [V.int 0]) f1
  refine ⟨_, rfl, _, _, _, rfl, rfl, upd_same, by omega, by omega, by rw [Int.toNat_natCast]; exact line65 (by simp; omega), fun a2 f2 => ?_⟩
  rw [Int.toNat_natCast, rep_flat, nv_rep]
  have s2 := Same.new (o := .lst (nv (List.replicate off 0))) f2
  refine ⟨_, rfl, _, _, rfl, .inl ((s1.trans s2).seq hg), fun a3 f3 => ?_⟩
  have s3 := Same.new (o := .lst (nv l)) f3
  refine ⟨_, _, _, _, rfl, rfl, s3 _ _ upd_same, upd_same, by rw [nv_len, nv_len, List.length_replicate]; exact line65 (by omega), fun a4 f4 => ?_⟩
  rw [← nv_app]
  have s4 := Same.new (o := .lst (nv (List.replicate off 0 ++ l))) f4
  refine ⟨by show 1 ≤ sizeLine; decide, fun a5 f5 => ?_⟩
  have s5 := Same.new (o := .lst [V.int 0]) f5
  have s05 := (((s1.trans s2).trans s3).trans s4).trans s5
  refine ⟨_, rfl, _, _, rfl, rfl, _, rfl, _, _, rfl, .inl (s05.seq hg), _, _, rfl, rfl, ?_⟩
  rw [nv_len]
  have e : ((65536 : Int) - (off : Int) - (l.length : Int)).toNat = 65536 - off - l.length := by omega
  refine ⟨_, _, _, rfl, rfl, upd_same, by omega, by omega, by rw [e]; exact line65 (by simp; omega), fun a6 f6 => ?_⟩
  rw [e, rep_flat, nv_rep]
  have s6 := Same.new (o := .lst (nv (List.replicate (65536 - off - l.length) 0))) f6
  refine ⟨_, _, _, _, rfl, rfl, s6 _ _ (s5 _ _ upd_same), upd_same, by rw [nv_len, nv_len, List.length_append, List.length_replicate, List.length_replicate]; exact line65 (by omega), fun a7 f7 => ?_⟩
  rw [← nv_app]
  have s06 := s05.trans s6
  have s7 := Same.new (o := .lst (nv (List.replicate off 0 ++ l ++ List.replicate (65536 - off - l.length) 0))) f7
  have s07 := s06.trans s7
  refine ⟨_, rfl, p, A.mem, dx, _, rfl, s07 _ _ hp, T.cl_mem, T.nCells, by show 0 < 1000; decide, ?_⟩
  intro bd f8
  have n7 : a7 ≠ p := fun z => by
    subst z
    rw [s06 _ _ hp] at f7
    cases f7
  have nb : bd ≠ p := fun z => by
    subst z
    rw [upd_same] at f8
    cases f8
  have f8' := f8
  rw [upd_ne nb] at f8'
  have nb7 : bd ≠ a7 := fun z => by
    subst z
    rw [upd_same] at f8'
    cases f8'
  refine ⟨_, rfl, p, A.mem, dx, _, rfl, by rw [upd_ne (fun z => nb z.symm)]; exact upd_same, T.cl_mem, T.nBefore, by show 1 < 1000; decide, ?_⟩
  refine k _ a7 bd (fun b o e1 nbp => ?_) ?_ (s06.free f7) (s07.free f8') ?_ ?_
  · have h7 := s07 _ _ e1
    have nbb : b ≠ bd := fun z => by
      subst z
      rw [h7] at f8'
      cases f8'
    rw [upd_ne nbp, upd_ne nbb, upd_ne nbp]
    exact h7
  · rw [upd_same, memF_new]
  · rw [upd_ne n7, upd_ne (fun z => nb7 z.symm), upd_ne n7, upd_same]
    unfold Sb16Neutral.memory Sb16.SIZE
    rw [List.append_assoc]
  · rw [upd_ne nb, upd_same]
theorem len_got {vs : List V} {H : Hp} {Q : VK} {E : XK} (h : sp_got K A vs H Q E) : vs.length = 3 := by
  obtain ⟨_, _, _, _, _, _, _, rfl, _⟩ := h
  rfl
theorem pure_got (T : Txt K mg A) {vs : List V} {H : Hp} {Q : VK} {E : XK} (h : sp_got K A vs H Q E) :
    t_got K A { nx := fun _ H' => Q .non H', rt := Q } (start ["self", "place", "many", "found", "byte"] vs) H := by
  obtain ⟨mm, dx, cl, bd, d, i, n, rfl, hm, hc, k⟩ := h
  refine ⟨_, rfl, mm, A.mem, dx, _, _, rfl, hm, T.cl_mem, T.nCells, memF_cells _ _, _, rfl, _, rfl, _, rfl, _, rfl, _, _, rfl, rfl, _, rfl, _, _, rfl, SqL.of hc, fun p hp => ?_⟩
  have e1 : (i : Int) + (n : Int) = ((i + n : Nat) : Int) := by omega
  rw [e1, cutV_nat, show i + n - i = n by omega]
  have hs := Same.new (o := .lst (((nv d).drop i).take n)) hp
  have hq : SqL K (upd H p (.lst (((nv d).drop i).take n))) p (((nv d).drop i).take n) := SqL.of upd_same
  refine ⟨p, _, rfl, .inl ⟨hq, ?_⟩⟩
  have e2 : ∀ j, j < (((nv d).drop i).take n).length → (((nv d).drop i).take n)[j]? = some (.int (Sb16.at_ d (i + j) : Nat)) := fun j hj => by
    rw [List.length_take, List.length_drop, nv_len] at hj
    rw [List.getElem?_take_of_lt (by omega), List.getElem?_drop]
    exact nv_get (by omega)
  generalize hxs : ((nv d).drop i).take n = xs at *
  have hl : xs.length = min n (d.length - i) := by rw [← hxs, List.length_take, List.length_drop, nv_len]
  have e3 : Sb16.num d i xs.length = Sb16.num d i n := by
    rw [hl]
    exact num_min d i n
  refine RT.for_Itv (K := K) (a := p) (xs := xs) (fun j σ H' => ∃ b : Option V, σ = [some (.ref mm), some (.int i), some (.int n), some (.int (Sb16.num d (i + (xs.length - j)) j : Nat)), b] ∧ Same (upd H p (.lst xs)) H')
    ⟨none, rfl, Same.refl _⟩ (fun j σ H' q => by obtain ⟨_, _, s⟩ := q; exact s.seq hq) ?_ ?_
  · rintro j x σ H' hj hx ⟨b, rfl, s⟩
    have hx2 := e2 (xs.length - 1 - j) (by omega)
    rw [hx] at hx2
    cases hx2
    refine ⟨_, rfl, _, _, rfl, rfl, .inl ⟨by decide, by decide⟩, _, rfl, _, _, rfl, rfl, ?_⟩
    refine ⟨some (.int (Sb16.at_ d (i + (xs.length - 1 - j)) : Nat)), ?_, s⟩
    have e4 := num_rev d i xs.length j hj
    rw [e4]
    simp [List.set]
    omega
  · rintro σ H' ⟨b, rfl, s⟩
    refine ⟨_, rfl, ?_⟩
    rw [Nat.sub_self, Nat.add_zero, e3]
    exact k _ (hs.trans s)
theorem len_fence {vs : List V} {H : Hp} {Q : VK} {E : XK} (h : sp_fence K A vs H Q E) : vs.length = 2 := by
  obtain ⟨_, _, rfl, _⟩ := h
  rfl
theorem pure_fence (T : Txt K mg A) {vs : List V} {H : Hp} {Q : VK} {E : XK} (h : sp_fence K A vs H Q E) :
    t_fence K A { nx := fun _ H' => Q .non H', rt := Q } (start ["address", "many"] vs) H := by
  obtain ⟨x, n, rfl, k⟩ := h
  rw [reached_is] at k
  have second : ¬ (4294967296 ≤ x ∧ x + n ≤ 4295032832) → (tSeq (tIfS (tAnd (tTest (tOp qGe (tVar 0) (tOp qSub (tC (.int 4294967296)) (tC (.int 65536))))) (tTest (tOp qLe (tOp qAdd (tVar 0) (tVar 1)) (tOp qAdd (tC (.int 4294967296)) (tOp qMul (tC (.int 2)) (tC (.int 65536))))))) (tRet (tC (.int 2))) tNext)
    (tRet (tC (.int 3)))) { nx := fun _ H' => Q .non H', rt := Q } [some (.int x), some (.int n)] H := fun c => by
    rw [if_neg c] at k
    refine ⟨_, rfl, _, _, rfl, rfl, _, _, rfl, rfl, _, rfl, ?_⟩
    refine ifd (fun c1 => ?_) (fun c1 => ?_)
    · refine ⟨_, rfl, _, rfl, _, _, rfl, rfl, _, _, rfl, rfl, .inl ⟨by decide, by decide⟩, _, _, rfl, rfl, _, _, rfl, rfl, _, rfl, ?_⟩
      refine ifd (fun c2 => ?_) (fun c2 => ?_)
      · rw [if_pos (by omega)] at k
        exact k
      · rw [if_neg (by omega)] at k
        exact k
    · rw [if_neg (by omega)] at k
      exact iteF k
  refine ⟨_, rfl, _, _, rfl, rfl, _, rfl, ?_⟩
  refine ifd (fun c1 => ?_) (fun c1 => ?_)
  · refine ⟨_, rfl, _, rfl, _, _, rfl, rfl, _, _, rfl, rfl, _, _, rfl, rfl, _, rfl, ?_⟩
    refine ifd (fun c2 => ?_) (fun c2 => ?_)
    · rw [if_pos (by omega)] at k
      exact k
    · exact second (by omega)
  · exact iteF (second (by omega))
theorem len_reckoned {vs : List V} {H : Hp} {Q : VK} {E : XK} (h : sp_reckoned K A vs H Q E) : vs.length = 3 := by
  obtain ⟨_, _, _, rfl, _⟩ := h
  rfl
theorem mod64 (y : Nat) : ((y : Int) % 64).toNat = y % 64 := by omega
theorem pow64 (x y : Nat) : (x : Int) * 2 ^ ((y : Int) % 64).toNat = ((x * 2 ^ (y % 64) : Nat) : Int) := by
  rw [mod64, Int.natCast_mul, Int.natCast_pow]
  rfl
theorem div64 (x y : Nat) : (x : Int) / 2 ^ ((y : Int) % 64).toNat = ((x / 2 ^ (y % 64) : Nat) : Int) := by
  rw [mod64, Int.natCast_ediv, Int.natCast_pow]
  rfl
theorem W_is : Sb16.W = 18446744073709551616 := by decide
theorem pure_reckoned (T : Txt K mg A) {vs : List V} {H : Hp} {Q : VK} {E : XK} (h : sp_reckoned K A vs H Q E) :
    t_reckoned K A { nx := fun _ H' => Q .non H', rt := Q } (start ["kind", "one", "other"] vs) H := by
  obtain ⟨c, x, y, rfl, c3, c11, hx, hy, k⟩ := h
  rw [W_is] at hx hy
  unfold rk at k
  refine ⟨_, rfl, _, _, rfl, rfl, _, rfl, ?_⟩
  refine ifd (fun q3 => ?_) (fun q3 => ?_)
  · rw [if_pos (by omega)] at k
    exact ⟨_, rfl, k⟩
  rw [if_neg (by omega)] at k
  refine ⟨_, rfl, _, _, rfl, rfl, _, rfl, ?_⟩
  refine ifd (fun q4 => ?_) (fun q4 => ?_)
  · rw [if_pos (by omega)] at k
    exact ⟨_, rfl, _, rfl, _, _, rfl, rfl, k⟩
  rw [if_neg (by omega)] at k
  refine ⟨_, rfl, _, _, rfl, rfl, _, rfl, ?_⟩
  refine ifd (fun q5 => ?_) (fun q5 => ?_)
  · rw [if_pos (by omega)] at k
    exact ⟨_, rfl, _, rfl, _, _, rfl, rfl, k⟩
  rw [if_neg (by omega)] at k
  refine ⟨_, rfl, _, _, rfl, rfl, _, rfl, ?_⟩
  refine ifd (fun q6 => ?_) (fun q6 => ?_)
  · rw [if_pos (by omega)] at k
    exact ⟨_, rfl, _, rfl, _, _, rfl, rfl, .inl ⟨by omega, by omega⟩, k⟩
  rw [if_neg (by omega)] at k
  refine ⟨_, rfl, _, _, rfl, rfl, _, rfl, ?_⟩
  refine ifd (fun q7 => ?_) (fun q7 => ?_)
  · rw [if_pos (by omega)] at k
    refine ⟨_, rfl, _, rfl, _, _, rfl, rfl, ?_⟩
    show Q (.int (Builtin.bitAnd (x : Int) (y : Int))) H
    rw [bitAnd_pp (by omega) (by omega), Int.toNat_natCast, Int.toNat_natCast]
    exact k
  rw [if_neg (by omega)] at k
  refine ⟨_, rfl, _, _, rfl, rfl, _, rfl, ?_⟩
  refine ifd (fun q8 => ?_) (fun q8 => ?_)
  · rw [if_pos (by omega)] at k
    refine ⟨_, rfl, _, rfl, _, _, rfl, rfl, ?_⟩
    show Q (.int (Builtin.bitOr (x : Int) (y : Int))) H
    rw [Bits.bitOr_pp (by omega) (by omega), Int.toNat_natCast, Int.toNat_natCast]
    exact k
  rw [if_neg (by omega)] at k
  refine ⟨_, rfl, _, _, rfl, rfl, _, rfl, ?_⟩
  refine ifd (fun q9 => ?_) (fun q9 => ?_)
  · rw [if_pos (by omega)] at k
    refine ⟨_, rfl, _, rfl, _, _, rfl, rfl, ?_⟩
    show Q (.int (Builtin.bitXor (x : Int) (y : Int))) H
    rw [Bits.bitXor_pp (by omega) (by omega), Int.toNat_natCast, Int.toNat_natCast]
    exact k
  rw [if_neg (by omega)] at k
  refine ⟨_, rfl, _, _, rfl, rfl, _, rfl, ?_⟩
  refine ifd (fun q10 => ?_) (fun q10 => ?_)
  · rw [if_pos (by omega)] at k
    refine ⟨_, rfl, _, rfl, _, _, rfl, rfl, (by show (0 : Int) < 64; decide), _, _, rfl, rfl, ⟨by omega, by omega, by omega⟩, ?_⟩
    show Q (.int ((x : Int) * 2 ^ ((y : Int) % 64).toNat)) H
    rw [pow64]
    exact k
  rw [if_neg (by omega)] at k
  refine ⟨_, rfl, _, rfl, _, _, rfl, rfl, (by show (0 : Int) < 64; decide), _, _, rfl, rfl, (by show (0 : Int) ≤ (y : Int) % 64; omega), ?_⟩
  show Q (.int ((x : Int) / 2 ^ ((y : Int) % 64).toNat)) H
  rw [div64]
  exact k
end
end Fm

namespace Fm
open PySem PySem.Spec PyProof.Rows L2
theorem nv_set (l : List Nat) (i x : Nat) : (nv l).set i (.int (x : Nat)) = nv (l.set i x) := by
  unfold nv
  rw [List.map_set]
theorem nv_getq {l : List Nat} {i : Nat} {x : V} (h : (nv l)[i]? = some x) : ∃ y, l[i]? = some y ∧ x = V.int (y : Nat) := by
  unfold nv at h
  rw [List.getElem?_map] at h
  obtain ⟨y, h1, h2⟩ := Option.map_eq_some_iff.mp h
  exact ⟨y, h1, h2.symm⟩
/-- what the dict of the bytes before tells -/
theorem bef_in {d0 : List Nat} : ∀ {ks : List Nat} {k : Nat}, k ∈ ks → valV (bef d0 ks) (Sum.inl (k : Int)) = some (.int (Sb16.at_ d0 k : Nat))
  | a :: r, k, h => by
    show valV ((Sum.inl (a : Int), V.int (Sb16.at_ d0 a : Nat)) :: bef d0 r) _ = _
    by_cases c : a = k
    · subst c
      rw [valV_pos rfl]
    · rw [valV_neg (fun z => c (by have := Sum.inl.inj z; omega))]
      exact bef_in ((List.mem_cons.mp h).resolve_left fun z => c z.symm)
theorem bef_out {d0 : List Nat} : ∀ {ks : List Nat} {k : Nat}, k ∉ ks → valV (bef d0 ks) (Sum.inl (k : Int)) = none
  | [], _, _ => rfl
  | a :: r, k, h => by
    show valV ((Sum.inl (a : Int), V.int (Sb16.at_ d0 a : Nat)) :: bef d0 r) _ = _
    rw [valV_neg (fun z => h (by have := Sum.inl.inj z; rw [show k = a by omega]; exact List.mem_cons_self ..))]
    exact bef_out fun z => h (List.mem_cons_of_mem _ z)
/-- between two bytes that are put -/
def PutI (H : Hp) (mm cl bd g : Addr) (i : Nat) (l d d0 : List Nat) (j : Nat) (σ : L2.St) (H' : Hp) : Prop := j ≤ l.length ∧ ∃ (b1 b2 : Option V) (ks' : List Nat), σ = [some (.ref mm), some (.int i), some (.ref g), b1, b2] ∧
  H' cl = some (.lst (nv (Sb16.patch d i (l.take j)))) ∧ H' bd = some (.dK (bef d0 ks')) ∧ BK d0 (Sb16.patch d i (l.take j)) ks' ∧ (∀ b o, H b = some o → b ≠ cl → b ≠ bd → H' b = some o)
section
variable {P : Program} {w : World} {K : PySem.W.Frag} {mg : Str → Option Value} {base : Heap} {A : Ads}
theorem len_put {vs : List V} {H : Hp} {Q : VK} {E : XK} (h : sp_put K A vs H Q E) : vs.length = 3 := by
  obtain ⟨_, _, _, _, _, _, _, _, _, _, rfl, _⟩ := h
  rfl
theorem pure_put (T : Txt K mg A) {vs : List V} {H : Hp} {Q : VK} {E : XK} (h : sp_put K A vs H Q E) :
    t_put K A { nx := fun _ H' => Q .non H', rt := Q } (start ["self", "place", "given", "at", "byte"] vs) H := by
  obtain ⟨mm, dx, cl, bd, d, d0, ks, i, g, l, rfl, hm, hc, hb, hg, ngc, hd, hl, B, k⟩ := h
  have ngb : g ≠ bd := ne_of hg hb (by intro z; cases z)
  have ncb : cl ≠ bd := ne_of hc hb (by intro z; cases z)
  have nmc : mm ≠ cl := ne_of hm hc (by intro z; cases z)
  have nmb : mm ≠ bd := ne_of hm hb (by intro z; cases z)
  refine ⟨_, rfl, g, _, rfl, SqL.of hg, for_Ite (K := K) (a := g) (xs := nv l) (PutI H mm cl bd g i l d d0)
    ⟨Nat.zero_le _, none, none, ks, rfl, by rw [List.take_zero, patch_nil]; exact hc, hb, by rw [List.take_zero, patch_nil]; exact B, fun _ _ e _ _ => e⟩
    (fun j σ H' q => by obtain ⟨_, _, _, _, _, _, _, _, kp⟩ := q; exact SqL.of (kp _ _ hg ngc ngb)) ?_ ?_⟩
  · rintro j x σ H' t hx ⟨_, b1, b2, ks', rfl, hc', hb', B', kp⟩ ht
    obtain ⟨y, hy, rfl⟩ := nv_getq hx
    have hj : j < l.length := (List.getElem?_eq_some_iff.mp hy).1
    have lt : (l.take j).length = j := by rw [List.length_take]; omega
    have pl : (Sb16.patch d i (l.take j)).length = 65536 := by rw [patch_len (by omega)]; exact hd
    have s1 := Same.new (o := .tup [V.int (j : Nat), V.int (y : Nat)]) ht
    have e1 : (i : Int) + (j : Int) = ((i + j : Nat) : Int) := by omega
    refine ⟨t, _, rfl, SqT.of upd_same, rfl, _, _, rfl, _, _, rfl, rfl, ?_⟩
    have hm' := s1 _ _ (kp _ _ hm nmc nmb)
    have hc1 := s1 _ _ hc'
    have hb1 := s1 _ _ hb'
    generalize upd H' t (.tup [V.int (j : Nat), V.int (y : Nat)]) = H1 at *
    have put : ∀ (H2 : Hp) (ks2 : List Nat), H2 cl = some (.lst (nv (Sb16.patch d i (l.take j)))) → H2 mm = some (.ins A.mem dx (memF cl bd)) → H2 bd = some (.dK (bef d0 ks2)) →
        ks2 = (if i + j ∈ ks' then ks' else ks' ++ [i + j]) → (∀ b o, H1 b = some o → b ≠ bd → H2 b = some o) →
        ∀ D : Ends, (∀ σ H', PutI H mm cl bd g i l d d0 (j + 1) σ H' → D.nx σ H') → tAsg (tVar 4) (gSub (tFld K (tVar 0) "cells") (tOp qAdd (tVar 1) (tVar 3)) rSetL) D [some (.ref mm), some (.int i), some (.ref g), some (.int (j : Nat)), some (.int (y : Nat))] H2 := by
      intro H2 ks2 h2 hm2 hb2 hk kp2 D hD
      refine ⟨_, rfl, _, rfl, mm, A.mem, dx, _, _, rfl, hm2, T.cl_mem, T.nCells, memF_cells _ _, _, rfl, _, rfl, _, _, rfl, rfl, cl, _, _, i + j, rfl, rfl, h2, ?_, ?_⟩
      · rw [nv_len, pl]
        unfold ixN
        rw [if_pos (by omega), if_pos (by omega)]
        congr 1
      · have pe : Sb16.patch d i (l.take (j + 1)) = (Sb16.patch d i (l.take j)).set (i + j) y := by
          rw [take_more hy, patch_more (by rw [lt]; omega), lt]
        refine hD _ _ ⟨hj, some (.int (j : Nat)), some (.int (y : Nat)), ks2, rfl, ?_, ?_, ?_, fun b o e nc nb => ?_⟩
        · rw [upd_same, nv_set, pe]
        · rw [upd_ne (fun z => ncb z.symm)]
          exact hb2
        · rw [pe, hk]
          exact B'.put (by rw [pl]; omega) (by omega)
        · rw [upd_ne nc]
          exact kp2 b o (s1 b o (kp b o e nc nb)) nb
    refine ⟨_, rfl, mm, A.mem, dx, _, _, rfl, hm', T.cl_mem, T.nBefore, memF_before _ _, bd, rfl, .inl ⟨_, .inl hb1⟩, _, rfl, _, rfl, _, _, rfl, rfl, _, rfl, mm, A.mem, dx, _, _, rfl, hm', T.cl_mem, T.nCells, memF_cells _ _, _, rfl, _, rfl, _, _, rfl, rfl,
      _, _, _, _, rfl, rfl, SqL.of hc1, at_of (j := i + j) e1 (nv_get (by rw [pl]; omega)), _, Sum.inl ((i + j : Nat) : Int), hb1, ?_, ?_, fun v hv => ?_, fun hn => ?_⟩
    · show V.int _ = V.int _
      rw [e1]
    · show (bef d0 ks').length < sizeLine
      unfold bef
      rw [List.length_map]
      exact Nat.lt_of_le_of_lt B'.len (by decide)
    · refine put H1 ks' hc1 hm' hb1 ?_ (fun b o e _ => e) _ fun _ _ z => z
      by_cases c : i + j ∈ ks'
      · rw [if_pos c]
      · rw [bef_out c] at hv
        cases hv
    · have c : i + j ∉ ks' := fun c => by
        rw [bef_in c] at hn
        cases hn
      refine put _ (ks' ++ [i + j]) (by rw [upd_ne ncb]; exact hc1) (by rw [upd_ne nmb]; exact hm') ?_ (by rw [if_neg c]) (fun b o e nb => by rw [upd_ne nb]; exact e) _ fun _ _ z => z
      rw [upd_same, putK_new _ hn]
      have e2 : Sb16.at_ (Sb16.patch d i (l.take j)) (i + j) = Sb16.at_ d0 (i + j) := B'.out _ c
      rw [e2]
      unfold bef
      rw [List.map_append]
      rfl
  · rintro σ H' ⟨_, b1, b2, ks', rfl, hc', hb', B', kp⟩
    rw [nv_len, List.take_length] at hc' B'
    exact k H' ks' hc' hb' B' kp
theorem len_changed {vs : List V} {H : Hp} {Q : VK} {E : XK} (h : sp_changed K A vs H Q E) : vs.length = 1 := by
  obtain ⟨_, _, _, _, _, _, _, rfl, _⟩ := h
  rfl
theorem nats_of {ks : List Nat} {ys : List Int} (h : ys.Perm (ks.map Int.ofNat)) : ∃ zs : List Nat, ys = zs.map Int.ofNat ∧ zs.Perm ks := by
  refine ⟨ys.map Int.toNat, ?_, ?_⟩
  · rw [List.map_map]
    refine (List.map_id _).symm.trans (List.map_congr_left fun y hy => ?_)
    obtain ⟨k, _, e⟩ := List.mem_map.mp (h.mem_iff.mp hy)
    rw [← e]
    rfl
  · have q := h.map Int.toNat
    rw [List.map_map] at q
    have e : ks.map (Int.toNat ∘ Int.ofNat) = ks := (List.map_congr_left fun _ _ => rfl).trans (List.map_id _)
    rw [e] at q
    exact q
theorem pure_changed (T : Txt K mg A) {vs : List V} {H : Hp} {Q : VK} {E : XK} (h : sp_changed K A vs H Q E) :
    t_changed K A { nx := fun _ H' => Q .non H', rt := Q } (start ["self", "place"] vs) H := by
  obtain ⟨mm, dx, cl, bd, d, d0, ks, rfl, hm, hc, hb, hd, h0, B, k⟩ := h
  refine ⟨_, rfl, mm, A.mem, dx, _, _, rfl, hm, T.cl_mem, T.nBefore, memF_before _ _, bd, _, ks.map Int.ofNat, rfl, .inl hb, ?_, fun ys p hp hs hpn => ?_⟩
  · unfold bef
    rw [List.map_map, List.map_map]
    rfl
  obtain ⟨zs, rfl, hz⟩ := nats_of hp
  have hz2 : zs.Pairwise (· < ·) := by
    have nd : zs.Nodup := hz.nodup_iff.mpr B.nd
    have le : zs.Pairwise (· ≤ ·) := (List.pairwise_map.mp hs).imp fun {a b} (z : Int.ofNat a ≤ Int.ofNat b) => Int.ofNat_le.mp z
    refine (le.and nd).imp fun {a b} z => ?_
    have := z.1
    have := z.2
    omega
  have hfin := changed_is B hd h0 (fun x => hz.mem_iff) hz2
  have hzl : zs.length ≤ 65536 := by rw [hz.length_eq]; exact B.len
  have ev : (zs.map Int.ofNat).map V.int = nv zs := by
    rw [List.map_map]
    rfl
  rw [ev]
  have s1 := Same.new (o := .lst (nv zs)) hpn
  have hp1 : upd H p (.lst (nv zs)) p = some (.lst (nv zs)) := upd_same
  generalize upd H p (.lst (nv zs)) = H1 at *
  refine ⟨p, rfl, ⟨_, SqL.of hp1⟩, fun D hD => ?_⟩
  refine lc_list (K := K) (a := p) (xs := nv zs) (fun j H' => Same H1 H' ∧ H' D = some (.lst (nv ((zs.take j).filter fun x => decide (Sb16.at_ d x ≠ Sb16.at_ d0 x)))))
    ⟨Same.new hD, by rw [upd_same]; rfl⟩ (fun j H' _ q => SqL.of (q.1 _ _ hp1)) ?_ ?_
  · rintro j x H' hx ⟨s2, hD'⟩
    obtain ⟨y, hy, rfl⟩ := nv_getq hx
    have ym : y ∈ ks := hz.mem_iff.mp (List.mem_of_getElem? hy)
    have y6 := B.lt y ym
    have s02 : Same H H' := s1.trans s2
    refine ⟨rfl, _, rfl, mm, A.mem, dx, _, _, rfl, s02 _ _ hm, T.cl_mem, T.nCells, memF_cells _ _, _, rfl, _, _, _, _, rfl, rfl, SqL.of (s02 _ _ hc), nv_at (by omega), _, rfl, mm, A.mem, dx, _, _, rfl, s02 _ _ hm, T.cl_mem, T.nBefore, memF_before _ _,
      _, rfl, bd, _, rfl, .inl ⟨_, Sum.inl (y : Int), .inl (s02 _ _ hb), rfl, (bef_in ym).symm⟩, _, _, rfl, rfl, _, rfl, ?_⟩
    · rw [take_more hy, List.filter_append]
      refine vi_ne (fun c => ?_) (fun c => ?_)
      · refine ⟨_, rfl, _, hD', ?_, ?_, ?_⟩
        · rw [nv_len]
          exact Nat.lt_of_le_of_lt (Nat.le_trans (List.length_filter_le _ _) (Nat.le_trans (by rw [List.length_take]; omega) hzl)) (by decide)
        · exact fun b o e => by
            by_cases z : b = D
            · subst z
              rw [e] at hD
              cases hD
            · rw [upd_ne z]
              exact s2 b o e
        · rw [upd_same, List.filter_cons, if_pos (by simpa using c), List.filter_nil, nv_app]
          rfl
      · refine ⟨s2, ?_⟩
        rw [List.filter_cons, if_neg (by simpa using c), List.filter_nil, List.append_nil]
        exact hD'
  · rintro H' ⟨s2, hD'⟩
    rw [nv_len, List.take_length, hfin] at hD'
    exact k H' D (s1.trans s2) (s1.free hD) hD'
end
end Fm

namespace Fm
open PySem PySem.Spec PyProof.Rows L2
/-! ### the machine's fields -/
theorem mfc (c r mm : Addr) (pc : Int) : (macF c r mm pc).lookup ("code" : Str) = some (.ref c) := lkh
theorem mfp (c r mm : Addr) (pc : Int) : (macF c r mm pc).lookup ("place" : Str) = some (.int pc) := (lkp (by decide +kernel)).trans lkh
theorem mfr (c r mm : Addr) (pc : Int) : (macF c r mm pc).lookup ("registers" : Str) = some (.ref r) := (lkp (by decide +kernel)).trans ((lkp (by decide +kernel)).trans lkh)
theorem mfm (c r mm : Addr) (pc : Int) : (macF c r mm pc).lookup ("memory" : Str) = some (.ref mm) := (lkp (by decide +kernel)).trans ((lkp (by decide +kernel)).trans ((lkp (by decide +kernel)).trans lkh))
theorem mf_put (c r mm : Addr) (pc z : Int) : putF "place" (.int z) (macF c r mm pc) = macF c r mm z := (ptp (by decide +kernel)).trans (congrArg _ pth)
/-- a method's name is none of the attributes -/
theorem mf_not {m : Str} (h1 : (m == ("code" : Str)) = false) (h2 : (m == ("place" : Str)) = false) (h3 : (m == ("registers" : Str)) = false) (h4 : (m == ("memory" : Str)) = false) (c r mm : Addr) (pc : Int) : (macF c r mm pc).lookup m = none :=
  (lkp h1).trans ((lkp h2).trans ((lkp h3).trans ((lkp h4).trans rfl)))
theorem mem_not {m : Str} (h1 : (m == ("cells" : Str)) = false) (h2 : (m == ("before" : Str)) = false) (cl bd : Addr) : (memF cl bd).lookup m = none := (lkp h1).trans ((lkp h2).trans rfl)
theorem mac_new (c r mm : Addr) (pc : Int) : putF "memory" (.ref mm) (putF "registers" (.ref r) (putF "place" (.int pc) (putF "code" (.ref c) []))) = macF c r mm pc := by
  have e1 : putF ("place" : Str) (.int pc) (putF ("code" : Str) (.ref c) []) = ([("code", .ref c), ("place", .int pc)] : List (Str × V)) := (ptp (by decide +kernel)).trans rfl
  rw [e1]
  have e2 : putF ("registers" : Str) (.ref r) ([("code", .ref c), ("place", .int pc)] : List (Str × V)) = ([("code", .ref c), ("place", .int pc), ("registers", .ref r)] : List (Str × V)) := (ptp (by decide +kernel)).trans (congrArg _ ((ptp (by decide +kernel)).trans rfl))
  rw [e2]
  exact (ptp (by decide +kernel)).trans (congrArg _ ((ptp (by decide +kernel)).trans (congrArg _ ((ptp (by decide +kernel)).trans rfl))))
/-! ### how the machine's state is carried -/
section
variable {A : Ads} {H H' H'' : Hp} {a : Ma} {m : Sb16.Mach} {w d0 : List Nat}
theorem Fm.of (s : Same H H') : Fm a H H' := fun b o e _ _ _ _ => s b o e
theorem Fm.trans (f : Fm a H H') (g : Fm a H' H'') : Fm a H H'' := fun b o e h1 h2 h3 h4 => g b o (f b o e h1 h2 h3 h4) h1 h2 h3 h4
theorem MAt.same (M : MAt A H a m w d0) (s : Same H H') : MAt A H' a m w d0 :=
  ⟨s _ _ M.om, s _ _ M.oc, s _ _ M.orr, s _ _ M.omm, s _ _ M.ocl, let ⟨ks, h1, h2⟩ := M.obd; ⟨ks, s _ _ h1, h2⟩, M.ncr, M.ncl, M.nrl, M.nmm, M.wc, M.wm, M.d0l⟩
theorem MAt.nmr (M : MAt A H a m w d0) : a.m ≠ a.r := ne_of M.om M.orr (by intro z; cases z)
theorem MAt.nmc (M : MAt A H a m w d0) : a.m ≠ a.c := ne_of M.om M.oc (by intro z; cases z)
theorem MAt.nml (M : MAt A H a m w d0) : a.m ≠ a.cl := ne_of M.om M.ocl (by intro z; cases z)
theorem MAt.nmb (M : MAt A H a m w d0) : a.m ≠ a.bd := let ⟨_, h1, _⟩ := M.obd; ne_of M.om h1 (by intro z; cases z)
theorem MAt.nrb (M : MAt A H a m w d0) : a.r ≠ a.bd := let ⟨_, h1, _⟩ := M.obd; ne_of M.orr h1 (by intro z; cases z)
theorem MAt.ncb (M : MAt A H a m w d0) : a.c ≠ a.bd := let ⟨_, h1, _⟩ := M.obd; ne_of M.oc h1 (by intro z; cases z)
theorem MAt.nlb (M : MAt A H a m w d0) : a.cl ≠ a.bd := let ⟨_, h1, _⟩ := M.obd; ne_of M.ocl h1 (by intro z; cases z)
theorem MAt.nqr (M : MAt A H a m w d0) : a.mm ≠ a.r := ne_of M.omm M.orr (by intro z; cases z)
theorem MAt.nql (M : MAt A H a m w d0) : a.mm ≠ a.cl := ne_of M.omm M.ocl (by intro z; cases z)
theorem MAt.nqb (M : MAt A H a m w d0) : a.mm ≠ a.bd := let ⟨_, h1, _⟩ := M.obd; ne_of M.omm h1 (by intro z; cases z)
/-- a register is set -/
theorem MAt.reg (M : MAt A H a m w d0) (k x : Nat) (hx : x < Sb16.W) : MAt A (upd H a.r (.lst ((nv m.regs).set k (.int (x : Nat))))) a (m.put k x) w d0 where
  om := by rw [upd_ne M.nmr]; exact M.om
  oc := by rw [upd_ne M.ncr]; exact M.oc
  orr := by
    rw [upd_same, nv_set]
    show _ = some (HO.lst (nv (m.regs.set k (x % Sb16.W))))
    rw [Nat.mod_eq_of_lt hx]
  omm := by rw [upd_ne M.nqr]; exact M.omm
  ocl := by rw [upd_ne (fun z => M.nrl z.symm)]; exact M.ocl
  obd := let ⟨ks, h1, h2⟩ := M.obd; ⟨ks, by rw [upd_ne (fun z => M.nrb z.symm)]; exact h1, h2⟩
  ncr := M.ncr
  ncl := M.ncl
  nrl := M.nrl
  nmm := M.nmm
  wc := M.wc
  wm := M.wm.put k x
  d0l := M.d0l
theorem Fm.reg {o : HO} : Fm a H (upd H a.r o) := fun b u e _ h2 _ _ => by
  rw [upd_ne h2]
  exact e
/-- on at a place -/
theorem MAt.place (M : MAt A H a m w d0) (p : Nat) : MAt A (upd H a.m (.ins A.mac a.dm (macF a.c a.r a.mm (p : Nat)))) a { m with pc := p } w d0 where
  om := upd_same
  oc := by rw [upd_ne (fun z => M.nmc z.symm)]; exact M.oc
  orr := by rw [upd_ne (fun z => M.nmr z.symm)]; exact M.orr
  omm := by rw [upd_ne (fun z => M.nmm z.symm)]; exact M.omm
  ocl := by rw [upd_ne (fun z => M.nml z.symm)]; exact M.ocl
  obd := let ⟨ks, h1, h2⟩ := M.obd; ⟨ks, by rw [upd_ne (fun z => M.nmb z.symm)]; exact h1, h2⟩
  ncr := M.ncr
  ncl := M.ncl
  nrl := M.nrl
  nmm := M.nmm
  wc := M.wc
  wm := M.wm.pc p
  d0l := M.d0l
theorem Fm.place {o : HO} : Fm a H (upd H a.m o) := fun b u e h1 _ _ _ => by
  rw [upd_ne h1]
  exact e
/-- bytes were put -/
theorem MAt.put (M : MAt A H a m w d0) {i : Nat} {l : List Nat} {ks' : List Nat} (hl : Byt l) (hi : i + l.length ≤ 65536) (h1 : H' a.cl = some (.lst (nv (Sb16.patch m.data i l)))) (h2 : H' a.bd = some (.dK (bef d0 ks'))) (h3 : BK d0 (Sb16.patch m.data i l) ks')
    (h4 : ∀ b o, H b = some o → b ≠ a.cl → b ≠ a.bd → H' b = some o) : MAt A H' a { m with data := Sb16.patch m.data i l } w d0 where
  om := h4 _ _ M.om M.nml M.nmb
  oc := h4 _ _ M.oc M.ncl M.ncb
  orr := h4 _ _ M.orr M.nrl M.nrb
  omm := h4 _ _ M.omm M.nql M.nqb
  ocl := h1
  obd := ⟨ks', h2, h3⟩
  ncr := M.ncr
  ncl := M.ncl
  nrl := M.nrl
  nmm := M.nmm
  wc := M.wc
  wm := ⟨M.wm.r16, M.wm.rW, by show (Sb16.patch m.data i l).length = 65536; rw [patch_len (by rw [M.wm.dl]; exact hi)]; exact M.wm.dl, byt_patch M.wm.db hl⟩
  d0l := M.d0l
theorem MAt.get (M : MAt A H a m w d0) {k : Nat} (hk : k < 16) : (nv m.regs)[k]? = some (.int (m.reg k : Nat)) := by
  unfold nv
  rw [List.getElem?_map, reg_get M.wm hk]
  rfl
end
section
variable {P : Program} {w : World} {K : PySem.W.Frag} {mg : Str → Option Value} {base : Heap} {A : Ads}
theorem len_mac_init {vs : List V} {H : Hp} {Q : VK} {E : XK} (h : sp_mac_init K A vs H Q E) : vs.length = 5 := by
  obtain ⟨_, _, _, _, _, _, _, rfl, _⟩ := h
  rfl
theorem pure_mac_init (T : Txt K mg A) {vs : List V} {H : Hp} {Q : VK} {E : XK} (h : sp_mac_init K A vs H Q E) :
    t_mac_init K A { nx := fun _ H' => Q .non H', rt := Q } (start ["self", "code", "place", "registers", "memory"] vs) H := by
  obtain ⟨p, dx, c, pc, rg, mm, regs, rfl, hp, hr, k⟩ := h
  refine ⟨_, rfl, _, rfl, p, A.mac, dx, _, rfl, hp, T.cl_mac, T.nCode, by show 0 < 1000; decide, ?_⟩
  refine ⟨_, rfl, _, rfl, p, A.mac, dx, _, rfl, upd_same, T.cl_mac, T.nPlace, by show 1 < 1000; decide, ?_⟩
  rw [upd_upd]
  have n1 : rg ≠ p := ne_of hr hp (by intro z; cases z)
  refine ⟨_, rfl, _, _, rfl, .inl (SqL.of (by rw [upd_ne n1]; exact hr)), fun r hr0 => ?_⟩
  have nr : r ≠ p := fun z => by
    subst z
    rw [upd_same] at hr0
    cases hr0
  have hr1 := hr0
  rw [upd_ne nr] at hr1
  refine ⟨_, rfl, p, A.mac, dx, _, rfl, by rw [upd_ne (fun z => nr z.symm)]; exact upd_same, T.cl_mac, T.nRegs, by show 2 < 1000; decide, ?_⟩
  refine ⟨_, rfl, _, rfl, p, A.mac, dx, _, rfl, upd_same, T.cl_mac, T.nMem, by show 3 < 1000; decide, ?_⟩
  rw [upd_upd]
  refine k _ r (fun b o e nb => ?_) ?_ hr1 ?_
  · have nbr : b ≠ r := fun z => by
      subst z
      rw [e] at hr1
      cases hr1
    rw [upd_ne nb, upd_ne nbr, upd_ne nb]
    exact e
  · rw [upd_same, mac_new]
  · rw [upd_ne nr, upd_same]
theorem len_give {vs : List V} {H : Hp} {Q : VK} {E : XK} (h : sp_give K A vs H Q E) : vs.length = 3 := by
  obtain ⟨_, _, _, _, _, _, rfl, _⟩ := h
  rfl
theorem pure_give (T : Txt K mg A) {vs : List V} {H : Hp} {Q : VK} {E : XK} (h : sp_give K A vs H Q E) :
    t_give K A { nx := fun _ H' => Q .non H', rt := Q } (start ["self", "which", "number"] vs) H := by
  obtain ⟨a, m, w, d0, n, z, rfl, M, hn, k⟩ := h
  refine ⟨_, rfl, _, _, rfl, rfl, (by show (0 : Int) < 18446744073709551616; decide), _, rfl, a.m, A.mac, _, _, _, rfl, M.om, T.cl_mac, T.nRegs, mfr _ _ _ _, _, rfl, a.r, _, _, n, rfl, rfl, M.orr, ?_, ?_⟩
  · rw [nv_len, M.wm.r16]
    unfold ixN
    rw [if_pos (by omega), if_pos (by omega)]
    congr 1
  · have e : z % 18446744073709551616 = (((z % 18446744073709551616).toNat : Nat) : Int) := by omega
    have l : (z % 18446744073709551616).toNat < Sb16.W := by rw [Wv]; omega
    have M1 := M.reg n _ l
    rw [← e] at M1
    exact k _ M1 Fm.reg
theorem len_go {vs : List V} {H : Hp} {Q : VK} {E : XK} (h : sp_go K A vs H Q E) : vs.length = 2 := by
  obtain ⟨_, _, _, _, _, rfl, _⟩ := h
  rfl
theorem pure_go (T : Txt K mg A) {vs : List V} {H : Hp} {Q : VK} {E : XK} (h : sp_go K A vs H Q E) :
    t_go K A { nx := fun _ H' => Q .non H', rt := Q } (start ["self", "place"] vs) H := by
  obtain ⟨a, m, w, d0, z, rfl, M, k⟩ := h
  have out : ¬ (0 ≤ z ∧ z < 65536) → tRet (tTup (tCons (tC (.int 4)) (tCons (tC (.int 0)) tNil))) { nx := fun _ H' => Q .non H', rt := Q } [some (.ref a.m), some (.int z)] H := fun c => by
    rw [to_out c] at k
    refine ⟨by show 2 ≤ sizeLine; decide, fun p hp => ?_⟩
    exact k _ _ (.ends upd_same (M.same (Same.new hp))) (Fm.of (Same.new hp))
  refine ⟨_, rfl, _, _, rfl, rfl, _, rfl, ?_⟩
  refine ifd (fun c1 => ?_) (fun c1 => ?_)
  · exact iteT (out (by omega))
  refine ⟨_, rfl, _, _, rfl, rfl, _, rfl, ?_⟩
  refine ifd (fun c2 => ?_) (fun c2 => ?_)
  · exact out (by omega)
  rw [to_in (by omega) (by omega)] at k
  refine ⟨_, rfl, _, rfl, a.m, A.mac, _, _, rfl, M.om, T.cl_mac, T.nPlace, by show 4 < 1000; decide, ?_⟩
  rw [mf_put]
  have M1 := M.place z.toNat
  rw [show ((z.toNat : Nat) : Int) = z by omega] at M1
  exact k _ _ (.on M1) Fm.place
end
end Fm

namespace Fm
open PySem PySem.Spec PyProof.Rows L2
section
variable {P : Program} {w : World} {K : PySem.W.Frag} {mg : Str → Option Value} {base : Heap} {A : Ads}
theorem len_keep {vs : List V} {H : Hp} {Q : VK} {E : XK} (h : sp_keep K A vs H Q E) : vs.length = 2 := by
  obtain ⟨_, _, _, _, _, _, rfl, _⟩ := h
  rfl
theorem pure_keep (T : Txt K mg A) {vs : List V} {H : Hp} {Q : VK} {E : XK} (h : sp_keep K A vs H Q E) :
    t_keep K A { nx := fun _ H' => Q .non H', rt := Q } (start ["self", "kind", "low"] vs) H := by
  obtain ⟨a, m, w, d0, i, n, rfl, M, hp, hd, h24, h26, k⟩ := h
  have I := ins_of hd
  have on : one (Sb16.at_ w m.pc) = true := by
    have : Sb16.at_ w m.pc = 24 ∨ Sb16.at_ w m.pc = 25 ∨ Sb16.at_ w m.pc = 26 := by omega
    rcases this with z | z | z <;> rw [z] <;> rfl
  have p1 : m.pc < 65504 := wc_lt M.wc (by omega)
  have r16 : Sb16.at_ w (m.pc + 1) < 16 := by
    have : Sb16.at_ w m.pc = 24 ∨ Sb16.at_ w m.pc = 25 ∨ Sb16.at_ w m.pc = 26 := by omega
    obtain ⟨_, _, _, _, _, _, _, _, i24, i25, i26, _⟩ := I
    rcases this with z | z | z
    · exact (i24 z).2.2
    · exact (i25 z).2.2
    · exact (i26 z).2.2
  refine ⟨_, rfl, a.m, A.mac, _, _, _, rfl, M.om, T.cl_mac, T.nRegs, mfr _ _ _ _, _, rfl, a.m, A.mac, _, _, _, rfl, M.om, T.cl_mac, T.nCode, mfc _ _ _ _, _, rfl, a.m, A.mac, _, _, _, rfl, M.om, T.cl_mac, T.nPlace, mfp _ _ _ _, a.c, w, m.pc, rfl, SqL.of M.oc, by rw [M.wc.len]; omega, fun H1 s1 => ?_⟩
  have M1 := M.same s1
  rw [first_whole on]
  refine ⟨_, _, _, _, rfl, rfl, SqL.of M1.orr, atI_nat (M1.get r16), _, _, rfl, rfl, (by show (0 : Int) < 65536; decide), ?_⟩
  obtain ⟨_, _, _, _, _, _, _, _, i24, i25, i26, _⟩ := I
  refine ⟨_, rfl, _, _, rfl, rfl, _, rfl, ?_⟩
  refine ifd (fun c1 => ?_) (fun c1 => ?_)
  · obtain ⟨rfl, _, _⟩ := i24 (by omega)
    refine ⟨_, rfl, a.m, _, _, rfl, M1.om, mf_not (by decide +kernel) (by decide +kernel) (by decide +kernel) (by decide +kernel) _ _ _ _, _, rfl, _, _, rfl, rfl, a, m, w, d0, 13, _, rfl, M1, by decide, fun H2 M2 f2 => ?_⟩
    have e : (4294967296 : Int) + ((m.reg (Sb16.at_ w (m.pc + 1)) : Nat) : Int) % 65536 = ((Sb16.boxed 13 (m.reg (Sb16.at_ w (m.pc + 1))) : Nat) : Int) := by
      rw [boxed13]
      omega
    rw [e, put_nat] at M2
    exact k _ M2 ((Fm.of s1).trans f2)
  refine ⟨_, rfl, _, _, rfl, rfl, _, rfl, ?_⟩
  refine ifd (fun c2 => ?_) (fun c2 => ?_)
  · obtain ⟨rfl, _, _⟩ := i25 (by omega)
    refine ⟨_, rfl, a.m, _, _, rfl, M1.om, mf_not (by decide +kernel) (by decide +kernel) (by decide +kernel) (by decide +kernel) _ _ _ _, _, rfl, _, _, rfl, rfl, a, m, w, d0, 15, _, rfl, M1, by decide, fun H2 M2 f2 => ?_⟩
    have e : (4294967296 : Int) + ((m.reg (Sb16.at_ w (m.pc + 1)) : Nat) : Int) % 65536 = ((Sb16.boxed 15 (m.reg (Sb16.at_ w (m.pc + 1))) : Nat) : Int) := by
      rw [boxed15]
      omega
    rw [e, put_nat] at M2
    exact k _ M2 ((Fm.of s1).trans f2)
  · obtain ⟨rfl, _, _⟩ := i26 (by omega)
    refine ⟨_, rfl, a.m, _, _, rfl, M1.om, mf_not (by decide +kernel) (by decide +kernel) (by decide +kernel) (by decide +kernel) _ _ _ _, _, rfl, _, _, rfl, rfl, ⟨by decide, by decide⟩, _, _, rfl, rfl, .inr ⟨by decide, by decide⟩, _, _, rfl, rfl, a, m, w, d0, 14, _, rfl, M1, by decide, fun H2 M2 f2 => ?_⟩
    have e : (8589934592 : Int) + ((m.reg (Sb16.at_ w (m.pc + 1)) : Nat) : Int) % 65536 / 32 * 32 = ((Sb16.boxed 14 (m.reg (Sb16.at_ w (m.pc + 1))) : Nat) : Int) := by
      rw [boxed14]
      omega
    rw [e, put_nat] at M2
    exact k _ M2 ((Fm.of s1).trans f2)
theorem len_reckon {vs : List V} {H : Hp} {Q : VK} {E : XK} (h : sp_reckon K A vs H Q E) : vs.length = 2 := by
  obtain ⟨_, _, _, _, _, _, rfl, _⟩ := h
  rfl
theorem pure_reckon (T : Txt K mg A) {vs : List V} {H : Hp} {Q : VK} {E : XK} (h : sp_reckon K A vs H Q E) :
    t_reckon K A { nx := fun _ H' => Q .non H', rt := Q } (start ["self", "kind", "one", "other"] vs) H := by
  obtain ⟨a, m, w, d0, i, n, rfl, M, hp, hd, h2, h12, k⟩ := h
  obtain ⟨_, _, i2, i3, i4, i12, _⟩ := ins_of hd
  have p1 : m.pc < 65504 := wc_lt M.wc (by omega)
  have b1 := M.wc.byte (m.pc + 1)
  refine ⟨_, rfl, a.m, A.mac, _, _, _, rfl, M.om, T.cl_mac, T.nCode, mfc _ _ _ _, _, rfl, a.m, A.mac, _, _, _, rfl, M.om, T.cl_mac, T.nPlace, mfp _ _ _ _, a.c, w, m.pc, rfl, SqL.of M.oc, by rw [M.wc.len]; omega, fun H1 s1 => ?_⟩
  have M1 := M.same s1
  refine ⟨_, rfl, _, _, rfl, rfl, _, rfl, ?_⟩
  refine ifd (fun c1 => ?_) (fun c1 => ?_)
  · have z : Sb16.at_ w m.pc = 2 := by omega
    obtain ⟨rfl, _, r16⟩ := i2 z
    rw [first_whole (by rw [z]; rfl)]
    refine ⟨_, rfl, a.m, _, _, rfl, M1.om, mf_not (by decide +kernel) (by decide +kernel) (by decide +kernel) (by decide +kernel) _ _ _ _, _, rfl, _, rfl, a.m, A.mac, _, _, _, rfl, M1.om, T.cl_mac, T.nCode, mfc _ _ _ _, _, rfl, a.m, A.mac, _, _, _, rfl, M1.om, T.cl_mac, T.nPlace, mfp _ _ _ _, _, _, rfl, rfl, a.c, w, m.pc + 2, 8, rfl, SqL.of M1.oc, fun H2 s2 => ?_⟩
    refine ⟨a, m, w, d0, _, _, rfl, M1.same s2, r16, fun H3 M3 f3 => ?_⟩
    rw [put_nat] at M3
    exact k _ M3 ((Fm.of (s1.trans s2)).trans f3)
  refine ⟨_, rfl, _, _, rfl, rfl, _, rfl, ?_⟩
  refine ifd (fun c2 => ?_) (fun c2 => ?_)
  · have z : Sb16.at_ w m.pc = 12 := by omega
    obtain ⟨rfl, _, r16⟩ := i12 z
    rw [first_whole (by rw [z]; rfl)]
    refine ⟨_, rfl, a.m, _, _, rfl, M1.om, mf_not (by decide +kernel) (by decide +kernel) (by decide +kernel) (by decide +kernel) _ _ _ _, _, rfl, _, rfl, a.m, A.mac, _, _, _, rfl, M1.om, T.cl_mac, T.nRegs, mfr _ _ _ _, _, rfl, _, _, _, _, rfl, rfl, SqL.of M1.orr, atI_nat (M1.get r16), _, rfl, a.m, A.mac, _, _, _, rfl, M1.om, T.cl_mac, T.nCode, mfc _ _ _ _, _, rfl, a.m, A.mac, _, _, _, rfl, M1.om, T.cl_mac, T.nPlace, mfp _ _ _ _, _, _, rfl, rfl, a.c, w, m.pc + 2, 4, rfl, SqL.of M1.oc, M1.wc.byte, by decide, by decide, by rw [M1.wc.len]; omega, fun H2 s2 => ?_⟩
    refine ⟨_, _, rfl, rfl, a, m, w, d0, _, _, rfl, M1.same s2, r16, fun H3 M3 f3 => ?_⟩
    rw [put_wrapped] at M3
    exact k _ M3 ((Fm.of (s1.trans s2)).trans f3)
  have on : one (Sb16.at_ w m.pc) = false := by
    have : ∀ k, k ≤ 12 → 2 ≤ k → k ≠ 2 → k ≠ 12 → one k = false := by decide
    exact this _ h12 h2 (by omega) (by omega)
  rw [first_half on]
  have ra : Sb16.at_ w (m.pc + 1) / 16 < 16 := by omega
  have rb : Sb16.at_ w (m.pc + 1) % 16 < 16 := by omega
  refine ⟨_, rfl, a.m, A.mac, _, _, _, rfl, M1.om, T.cl_mac, T.nRegs, mfr _ _ _ _, _, rfl, a.m, A.mac, _, _, _, rfl, M1.om, T.cl_mac, T.nCode, mfc _ _ _ _, _, rfl, a.m, A.mac, _, _, _, rfl, M1.om, T.cl_mac, T.nPlace, mfp _ _ _ _, a.c, w, m.pc, rfl, SqL.of M1.oc, by rw [M1.wc.len]; omega, fun H2 s2 => ?_⟩
  have M2 := M1.same s2
  refine ⟨_, _, _, _, rfl, rfl, SqL.of M2.orr, atI_nat (M2.get rb), ?_⟩
  refine ⟨_, rfl, a.m, _, _, rfl, M2.om, mf_not (by decide +kernel) (by decide +kernel) (by decide +kernel) (by decide +kernel) _ _ _ _, _, rfl, _, rfl, _, rfl, a.m, A.mac, _, _, _, rfl, M2.om, T.cl_mac, T.nRegs, mfr _ _ _ _, _, rfl, _, _, _, _, rfl, rfl, SqL.of M2.orr, atI_nat (M2.get ra), _, rfl, Sb16.at_ w m.pc, m.reg (Sb16.at_ w (m.pc + 1) / 16), m.reg (Sb16.at_ w (m.pc + 1) % 16), rfl, by omega, by omega, reg_lt M2.wm _, reg_lt M2.wm _, ?_⟩
  refine ⟨a, m, w, d0, _, _, rfl, M2, ra, fun H3 M3 f3 => ?_⟩
  by_cases c3 : Sb16.at_ w m.pc = 3
  · obtain ⟨rfl, _⟩ := i3 c3
    rw [c3, put_rk3] at M3
    exact k _ M3 ((Fm.of (s1.trans s2)).trans f3)
  · obtain ⟨rfl, _⟩ := i4 ⟨by omega, by omega⟩
    rw [put_rk m _ _ _ _ (by omega) (by omega) (reg_lt M2.wm _) (reg_lt M2.wm _)] at M3
    exact k _ M3 ((Fm.of (s1.trans s2)).trans f3)
end
end Fm

namespace Fm
open PySem PySem.Spec PyProof.Rows L2
section
variable {P : Program} {w : World} {K : PySem.W.Frag} {mg : Str → Option Value} {base : Heap} {A : Ads}
theorem len_reach {vs : List V} {H : Hp} {Q : VK} {E : XK} (h : sp_reach K A vs H Q E) : vs.length = 3 := by
  obtain ⟨_, _, _, _, _, rfl, _⟩ := h
  rfl
theorem pure_reach (T : Txt K mg A) {vs : List V} {H : Hp} {Q : VK} {E : XK} (h : sp_reach K A vs H Q E) :
    t_reach K A { nx := fun _ H' => Q .non H', rt := Q } (start ["self", "kind", "long", "one", "address", "many", "end"] vs) H := by
  obtain ⟨a, m, w, d0, i, rfl, M, hp, hd, h16, h19, k⟩ := h
  obtain ⟨_, _, _, _, _, _, i16, i18, _⟩ := ins_of hd
  obtain ⟨nx, hnx⟩ : ∃ nx, m.pc + 4 = nx := ⟨_, rfl⟩
  rw [hnx] at k
  have p1 : m.pc < 65504 := wc_lt M.wc (by omega)
  have b1 := M.wc.byte (m.pc + 1)
  have on : one (Sb16.at_ w m.pc) = false := by
    have : ∀ k, k ≤ 19 → 16 ≤ k → one k = false := by decide
    exact this _ h19 h16
  have ra : Sb16.at_ w (m.pc + 1) / 16 < 16 := by omega
  have rb : Sb16.at_ w (m.pc + 1) % 16 < 16 := by omega
  refine ⟨_, rfl, a.m, A.mac, _, _, _, rfl, M.om, T.cl_mac, T.nCode, mfc _ _ _ _, _, rfl, a.m, A.mac, _, _, _, rfl, M.om, T.cl_mac, T.nPlace, mfp _ _ _ _, a.c, w, m.pc, rfl, SqL.of M.oc, by rw [M.wc.len]; omega, fun H1 s1 => ?_⟩
  have M1 := M.same s1
  rw [first_half on]
  refine ⟨_, rfl, a.m, A.mac, _, _, _, rfl, M1.om, T.cl_mac, T.nRegs, mfr _ _ _ _, _, rfl, a.m, A.mac, _, _, _, rfl, M1.om, T.cl_mac, T.nCode, mfc _ _ _ _, _, rfl, a.m, A.mac, _, _, _, rfl, M1.om, T.cl_mac, T.nPlace, mfp _ _ _ _, a.c, w, m.pc, rfl, SqL.of M1.oc, by rw [M1.wc.len]; omega, fun H2 s2 => ?_⟩
  have M2 := M1.same s2
  refine ⟨_, _, _, _, rfl, rfl, SqL.of M2.orr, atI_nat (M2.get rb), _, rfl, a.m, A.mac, _, _, _, rfl, M2.om, T.cl_mac, T.nCode, mfc _ _ _ _, _, rfl, a.m, A.mac, _, _, _, rfl, M2.om, T.cl_mac, T.nPlace, mfp _ _ _ _, _, _, rfl, rfl, a.c, w, m.pc + 2, 2, rfl, SqL.of M2.oc, M2.wc.byte, by decide, by decide, by rw [M2.wc.len]; omega, fun H3 s3 => ?_⟩
  have M3 := M2.same s3
  refine ⟨_, _, rfl, rfl, _, rfl, _, _, rfl, rfl, (by show (0 : Int) < 18446744073709551616; decide), ?_⟩
  dsimp only
  rw [wrapped_int]
  generalize hx : Sb16.wrapped (m.reg (Sb16.at_ w (m.pc + 1) % 16)) (Sb16.signed (8 * 2) (Sb16.num w (m.pc + 2) 2)) = x
  have s03 := (s1.trans s2).trans s3
  -- behind the test for the wide ones: n is how many
  have tail : ∀ (n : Nat) (H4 : Hp), n = wd (Sb16.at_ w m.pc) → Same H3 H4 →
      (tSeq (tAsg (tCall (sp_fence K A) [] E0 (tCons (tVar 4) (tCons (tVar 5) tNil))) (gName 6))
    (tSeq (tIfS (tB (tNeI (tVar 6) (tC (.int 0)))) (tRet (tTup (tCons (tVar 6) (tCons (tVar 4) tNil)))) tNext)
    (tSeq (tIfS (tTest (tOp qLt (tVar 1) (tC (.int 18)))) (tDrop (tMeth A.mac "give" (sp_give K A) [] E0 (tVar 0) (tCons (tVar 3) (tCons (tMeth A.mem "got" (sp_got K A) [] E0 (tFld K (tVar 0) "memory") (tCons (tOp qSub (tVar 4) (tC (.int 4294967296))) (tCons (tVar 5) tNil))) tNil)))) (tDrop (tMeth A.mem "put" (sp_put K A) [] E0 (tFld K (tVar 0) "memory") (tCons (tOp qSub (tVar 4) (tC (.int 4294967296))) (tCons (tCall (sp_bytes_of K A) [] E0 (tCons (tOp (rIxL K) (tFld K (tVar 0) "registers") (tVar 3)) (tCons (tVar 5) tNil))) tNil)))))
    (tRet (tMeth A.mac "go" (sp_go K A) [] E0 (tVar 0) (tCons (tOp qAdd (tFld K (tVar 0) "place") (tVar 2)) tNil)))))) { nx := fun _ H' => Q .non H', rt := Q }
      [some (.ref a.m), some (.int (Sb16.at_ w m.pc : Nat)), some (.int 4), some (.int (Sb16.at_ w (m.pc + 1) / 16 : Nat)), some (.int (x : Nat)), some (.int (n : Nat)), none] H4 := by
    intro n H4 hn s4
    have M4 := M3.same s4
    have s04 := s03.trans s4
    have n8 : n = 1 ∨ n = 8 := by
      rw [hn]
      unfold wd
      split
      · exact .inr rfl
      · exact .inl rfl
    refine ⟨_, rfl, _, rfl, x, n, rfl, ?_⟩
    refine ⟨_, rfl, _, _, rfl, rfl, _, rfl, ?_⟩
    refine vi_ne (b := 0) (fun c1 => ?_) (fun c1 => ?_)
    · refine ⟨_, rfl, _, rfl, by show 2 ≤ sizeLine; decide, fun p hp => ?_⟩
      have e : m.does i nx = .ends (Sb16.reached x n) x m := by
        rcases (show (Sb16.at_ w m.pc = 16 ∨ Sb16.at_ w m.pc = 17) ∨ (Sb16.at_ w m.pc = 18 ∨ Sb16.at_ w m.pc = 19) by omega) with z | z
        · rw [(i16 z).1, does_load z, hx, ← hn, if_neg c1]
        · rw [(i18 z).1, does_store z, hx, ← hn, if_neg c1]
      rw [e] at k
      exact k _ _ (.ends upd_same (M4.same (Same.new hp))) (Fm.of (s04.trans (Same.new hp)))
    have inb := reached0 c1
    obtain ⟨y, hy⟩ : ∃ y, x - 4294967296 = y := ⟨_, rfl⟩
    have hyx : x = y + 4294967296 := by omega
    have y8 : y + n ≤ 65536 := by omega
    have e4 : [V.ref a.m, V.int ((m.pc : Int) + 4)] = [V.ref a.m, V.int (nx : Int)] := by rw [show (m.pc : Int) + 4 = (nx : Int) by omega]
    have ex : (x : Int) - 4294967296 = (y : Int) := by omega
    refine ⟨_, rfl, _, _, rfl, rfl, _, rfl, ?_⟩
    refine ifd (fun c2 => ?_) (fun c2 => ?_)
    · have z : Sb16.at_ w m.pc = 16 ∨ Sb16.at_ w m.pc = 17 := by omega
      refine ⟨_, rfl, a.m, _, _, rfl, M4.om, mf_not (by decide +kernel) (by decide +kernel) (by decide +kernel) (by decide +kernel) _ _ _ _, _, rfl, _, rfl, a.m, A.mac, _, _, _, rfl, M4.om, T.cl_mac, T.nMem, mfm _ _ _ _, a.mm, _, _, rfl, M4.omm, mem_not (by decide +kernel) (by decide +kernel) _ _, _, rfl, _, _, rfl, rfl, _, rfl, a.mm, a.dmm, a.cl, a.bd, m.data, y, n, ?_, M4.omm, M4.ocl, fun H5 s5 => ?_⟩
      · show [V.ref a.mm, V.int ((x : Int) - 4294967296), V.int n] = _
        rw [ex]
      refine ⟨a, m, w, d0, _, _, rfl, M4.same s5, ra, fun H6 M6 f6 => ?_⟩
      rw [put_nat] at M6
      refine ⟨_, rfl, a.m, _, _, rfl, M6.om, mf_not (by decide +kernel) (by decide +kernel) (by decide +kernel) (by decide +kernel) _ _ _ _, _, rfl, a.m, A.mac, _, _, _, rfl, M6.om, T.cl_mac, T.nPlace, mfp _ _ _ _, _, rfl, _, _, rfl, rfl, a, _, w, d0, (nx : Int), e4, M6, fun H7 v R7 f7 => ?_⟩
      have e : m.does i nx = (m.put (Sb16.at_ w (m.pc + 1) / 16) (Sb16.num m.data y n)).to (nx : Int) := by
        rw [(i16 z).1, does_load z, hx, ← hn, if_pos c1, hy]
      rw [e] at k
      have kk := k H7 v
      have f9 : Fm a H H7 := (Fm.of (s04.trans s5)).trans (f6.trans f7)
      have k1 := kk R7
      have k2 := k1 f9
      exact k2
    · have z : Sb16.at_ w m.pc = 18 ∨ Sb16.at_ w m.pc = 19 := by omega
      refine ⟨_, rfl, a.m, A.mac, _, _, _, rfl, M4.om, T.cl_mac, T.nMem, mfm _ _ _ _, a.mm, _, _, rfl, M4.omm, mem_not (by decide +kernel) (by decide +kernel) _ _, _, rfl, _, _, rfl, rfl, _, rfl, a.m, A.mac, _, _, _, rfl, M4.om, T.cl_mac, T.nRegs, mfr _ _ _ _, _, rfl, _, _, _, _, rfl, rfl, SqL.of M4.orr, atI_nat (M4.get ra), _, rfl, m.reg (Sb16.at_ w (m.pc + 1) / 16), n, rfl, by omega, fun H5 g s5 hg hg5 => ?_⟩
      have M5 := M4.same s5
      obtain ⟨ks, hb5, B5⟩ := M5.obd
      refine ⟨a.mm, a.dmm, a.cl, a.bd, m.data, d0, ks, y, g, Sb16.bytesOf n (m.reg (Sb16.at_ w (m.pc + 1) / 16)), ?_, M5.omm, M5.ocl, hb5, hg5, ?_, M5.wm.dl, ?_, B5, fun H6 ks' h1 h2 h3 h4 => ?_⟩
      · show [V.ref a.mm, V.int ((x : Int) - 4294967296), V.ref g] = _
        rw [ex]
      · intro q
        rw [q, M4.ocl] at hg
        cases hg
      · rw [bytesOf_len]
        omega
      have M6 := M5.put (byt_bytesOf _ _) (by rw [bytesOf_len]; omega) h1 h2 h3 h4
      refine ⟨_, rfl, a.m, _, _, rfl, M6.om, mf_not (by decide +kernel) (by decide +kernel) (by decide +kernel) (by decide +kernel) _ _ _ _, _, rfl, a.m, A.mac, _, _, _, rfl, M6.om, T.cl_mac, T.nPlace, mfp _ _ _ _, _, rfl, _, _, rfl, rfl, a, _, w, d0, (nx : Int), e4, M6, fun H7 v R7 f7 => ?_⟩
      have e : m.does i nx = ({ m with data := Sb16.patch m.data y (Sb16.bytesOf n (m.reg (Sb16.at_ w (m.pc + 1) / 16))) } : Sb16.Mach).to (nx : Int) := by
        rw [(i18 z).1, does_store z, hx, ← hn, if_pos c1, hy]
      rw [e] at k
      have kk := k H7 v
      have f6 : Fm a H5 H6 := fun b o e h1 h2 h3 h5 => h4 b o e h3 h5
      have f9 : Fm a H H7 := (Fm.of (s04.trans s5)).trans (f6.trans f7)
      have k1 := kk R7
      have k2 := k1 f9
      exact k2
  refine ⟨_, rfl, by show 2 ≤ sizeLine; decide, fun t ht => ?_⟩
  refine ⟨t, _, rfl, .inr (SqT.of upd_same), rfl, rfl, _, rfl, ?_⟩
  refine ifin (ns := [17, 19]) (fun c => ?_) (fun c => ?_)
  · refine tail 8 _ ?_ (Same.new ht)
    unfold wd
    rw [if_pos (by simp at c; omega)]
  · refine tail 1 _ ?_ (Same.new ht)
    unfold wd
    rw [if_neg (by simp at c; omega)]
end
end Fm

namespace Fm
open PySem PySem.Spec PyProof.Rows L2
section
variable {P : Program} {w : World} {K : PySem.W.Frag} {mg : Str → Option Value} {base : Heap} {A : Ads}
theorem len_turn {vs : List V} {H : Hp} {Q : VK} {E : XK} (h : sp_turn K A vs H Q E) : vs.length = 3 := by
  obtain ⟨_, _, _, _, _, _, rfl, _⟩ := h
  rfl
theorem pure_turn (T : Txt K mg A) {vs : List V} {H : Hp} {Q : VK} {E : XK} (h : sp_turn K A vs H Q E) :
    t_turn K A { nx := fun _ H' => Q .non H', rt := Q } (start ["self", "kind", "behind", "there", "one"] vs) H := by
  obtain ⟨a, m, w, d0, i, n, rfl, M, hp, hd, h32, h36, k⟩ := h
  obtain ⟨_, _, _, _, _, _, _, _, _, _, _, i32, i33, i34, i35, i36, _⟩ := ins_of hd
  have p1 : m.pc < 65504 := wc_lt M.wc (by omega)
  have b1 := M.wc.byte (m.pc + 1)
  have ra : Sb16.at_ w (m.pc + 1) / 16 < 16 := by omega
  have rb : Sb16.at_ w (m.pc + 1) % 16 < 16 := by omega
  have told : ∀ t, n = t → lenTab (Sb16.at_ w m.pc) = t → toldAt w m.pc = ((m.pc + n : Nat) : Int) + Sb16.signed 32 (Sb16.num w (m.pc + t - 4) 4) := fun t h1 h2 => by
    rw [told_is h2, h1]
  obtain ⟨nx, hnx⟩ : ∃ nx, m.pc + n = nx := ⟨_, rfl⟩
  rw [hnx] at k told ⊢
  refine ⟨_, rfl, _, _, rfl, rfl, _, rfl, ?_⟩
  refine ifd (fun c => ?_) (fun c => ?_)
  · obtain ⟨rfl, _⟩ := i32 (by omega)
    rw [does_jump] at k
    refine ⟨_, rfl, a.m, _, _, rfl, M.om, mf_not (by decide +kernel) (by decide +kernel) (by decide +kernel) (by decide +kernel) _ _ _ _, _, rfl, a.m, A.mac, _, _, _, rfl, M.om, T.cl_mac, T.nRegs, mfr _ _ _ _, _, _, _, _, rfl, rfl, SqL.of M.orr, at_of (j := 14) rfl (M.get (by decide)), _, _, rfl, rfl, a, m, w, d0, _, rfl, M, fun H2 v R2 f2 => k H2 v R2 f2⟩
  have hg : goes (Sb16.at_ w m.pc) = true := by
    have : Sb16.at_ w m.pc = 33 ∨ Sb16.at_ w m.pc = 34 ∨ Sb16.at_ w m.pc = 35 ∨ Sb16.at_ w m.pc = 36 := by omega
    rcases this with z | z | z | z <;> rw [z] <;> rfl
  refine ⟨_, rfl, a.m, A.mac, _, _, _, rfl, M.om, T.cl_mac, T.nCode, mfc _ _ _ _, _, rfl, a.m, A.mac, _, _, _, rfl, M.om, T.cl_mac, T.nPlace, mfp _ _ _ _, a.c, w, m.pc, rfl, SqL.of M.oc, M.wc, hg, fun H1 s1 => ?_⟩
  have M1 := M.same s1
  -- the end, where it is none of 35, 36
  have fin : ∀ (z : Int) (b : Option V) (H5 : Hp), Same H H5 → Sb16.at_ w m.pc ≠ 36 → m.does i nx = m.to z →
      (tSeq (tIfS (tB (tEqI (tVar 1) (tC (.int 36)))) (tDrop (tMeth A.mac "give" (sp_give K A) [] E0 (tVar 0) (tCons (tC (.int 12)) (tCons (tOp qAdd (tC (.int 8589934592)) (tVar 2)) tNil)))) tNext)
    (tRet (tMeth A.mac "go" (sp_go K A) [] E0 (tVar 0) (tCons (tVar 3) tNil)))) { nx := fun _ H' => Q .non H', rt := Q } [some (.ref a.m), some (.int (Sb16.at_ w m.pc : Nat)), some (.int (nx : Nat)), some (.int z), b] H5 := by
    intro z b H5 s5 h6 e
    have M5 := M.same s5
    refine ⟨_, rfl, _, _, rfl, rfl, _, rfl, ?_⟩
    refine ifd (fun c => absurd c (by omega)) (fun c => ?_)
    rw [e] at k
    exact ⟨_, rfl, a.m, _, _, rfl, M5.om, mf_not (by decide +kernel) (by decide +kernel) (by decide +kernel) (by decide +kernel) _ _ _ _, _, rfl, a, m, w, d0, z, rfl, M5, fun H6 v R6 f6 => k H6 v R6 ((Fm.of s5).trans f6)⟩
  have rest : ∀ (z : Int) (H5 : Hp), Same H H5 → Sb16.at_ w m.pc ≠ 35 → Sb16.at_ w m.pc ≠ 36 → m.does i nx = m.to z →
      (tSeq (tIfS (tB (tEqI (tVar 1) (tC (.int 35)))) (tSeq (tAsg (tOp (rIxL K) (tFld K (tVar 0) "registers") (tCall (sp_first_register K A) [] E0 (tCons (tFld K (tVar 0) "code") (tCons (tFld K (tVar 0) "place") tNil)))) (gName 4))
    (tIfS (tTest (tOp qGe (tVar 4) (tOp (rIxL K) (tFld K (tVar 0) "registers") (tCall (sp_second_register K A) [] E0 (tCons (tFld K (tVar 0) "code") (tCons (tFld K (tVar 0) "place") tNil)))))) (tAsg (tVar 2) (gName 3)) tNext)) tNext)
    (tSeq (tIfS (tB (tEqI (tVar 1) (tC (.int 36)))) (tDrop (tMeth A.mac "give" (sp_give K A) [] E0 (tVar 0) (tCons (tC (.int 12)) (tCons (tOp qAdd (tC (.int 8589934592)) (tVar 2)) tNil)))) tNext)
    (tRet (tMeth A.mac "go" (sp_go K A) [] E0 (tVar 0) (tCons (tVar 3) tNil))))) { nx := fun _ H' => Q .non H', rt := Q } [some (.ref a.m), some (.int (Sb16.at_ w m.pc : Nat)), some (.int (nx : Nat)), some (.int z), none] H5 := by
    intro z H5 s5 h5 h6 e
    refine ⟨_, rfl, _, _, rfl, rfl, _, rfl, ?_⟩
    refine ifd (fun c => absurd c (by omega)) (fun c => ?_)
    exact fin z none H5 s5 h6 e
  refine ⟨_, rfl, _, _, rfl, rfl, _, rfl, ?_⟩
  refine ifd (fun c34 => ?_) (fun c34 => ?_)
  · have z : Sb16.at_ w m.pc = 34 := by omega
    obtain ⟨hi, h6, r16⟩ := i34 z
    have on : one (Sb16.at_ w m.pc) = true := by rw [z]; rfl
    have ht := (told 6 h6 (by rw [z]; rfl)).trans (by rw [show m.pc + 6 - 4 = m.pc + 2 by omega])
    refine ⟨_, rfl, a.m, A.mac, _, _, _, rfl, M1.om, T.cl_mac, T.nRegs, mfr _ _ _ _, _, rfl, a.m, A.mac, _, _, _, rfl, M1.om, T.cl_mac, T.nCode, mfc _ _ _ _, _, rfl, a.m, A.mac, _, _, _, rfl, M1.om, T.cl_mac, T.nPlace, mfp _ _ _ _, a.c, w, m.pc, rfl, SqL.of M1.oc, by rw [M1.wc.len]; omega, fun H2 s2 => ?_⟩
    have M2 := M1.same s2
    rw [first_whole on]
    refine ⟨_, _, _, _, rfl, rfl, SqL.of M2.orr, atI_nat (M2.get r16), _, _, rfl, rfl, _, rfl, ?_⟩
    have dz : m.does i nx = if m.reg (Sb16.at_ w (m.pc + 1)) = 0 then m.to ((nx : Int) + Sb16.signed 32 (Sb16.num w (m.pc + 2) 4)) else m.to (nx : Int) := by
      rw [hi]
      rfl
    refine vi_ne (b := 0) (fun c => ?_) (fun c => ?_)
    · rw [if_neg c] at dz
      exact ⟨_, rfl, rest _ H2 (s1.trans s2) (by omega) (by omega) dz⟩
    · rw [if_pos c] at dz
      refine rest _ H2 (s1.trans s2) (by omega) (by omega) ?_
      rw [dz, ht]
  refine iteF ?_
  by_cases z35 : Sb16.at_ w m.pc = 35
  · obtain ⟨hi, h6⟩ := i35 z35
    have on : one (Sb16.at_ w m.pc) = false := by rw [z35]; rfl
    have ht := (told 6 h6 (by rw [z35]; rfl)).trans (by rw [show m.pc + 6 - 4 = m.pc + 2 by omega])
    have dz : m.does i nx = if m.reg (Sb16.at_ w (m.pc + 1) / 16) < m.reg (Sb16.at_ w (m.pc + 1) % 16) then m.to ((nx : Int) + Sb16.signed 32 (Sb16.num w (m.pc + 2) 4)) else m.to (nx : Int) := by
      rw [hi]
      rfl
    refine ⟨_, rfl, _, _, rfl, rfl, _, rfl, ?_⟩
    refine ifd (fun c => ?_) (fun c => absurd z35 (by omega))
    refine ⟨_, rfl, a.m, A.mac, _, _, _, rfl, M1.om, T.cl_mac, T.nRegs, mfr _ _ _ _, _, rfl, a.m, A.mac, _, _, _, rfl, M1.om, T.cl_mac, T.nCode, mfc _ _ _ _, _, rfl, a.m, A.mac, _, _, _, rfl, M1.om, T.cl_mac, T.nPlace, mfp _ _ _ _, a.c, w, m.pc, rfl, SqL.of M1.oc, by rw [M1.wc.len]; omega, fun H2 s2 => ?_⟩
    have M2 := M1.same s2
    rw [first_half on]
    refine ⟨_, _, _, _, rfl, rfl, SqL.of M2.orr, atI_nat (M2.get ra), ?_⟩
    refine ⟨_, rfl, _, rfl, a.m, A.mac, _, _, _, rfl, M2.om, T.cl_mac, T.nRegs, mfr _ _ _ _, _, rfl, a.m, A.mac, _, _, _, rfl, M2.om, T.cl_mac, T.nCode, mfc _ _ _ _, _, rfl, a.m, A.mac, _, _, _, rfl, M2.om, T.cl_mac, T.nPlace, mfp _ _ _ _, a.c, w, m.pc, rfl, SqL.of M2.oc, by rw [M2.wc.len]; omega, fun H3 s3 => ?_⟩
    have M3 := M2.same s3
    refine ⟨_, _, _, _, rfl, rfl, SqL.of M3.orr, atI_nat (M3.get rb), _, _, rfl, rfl, _, rfl, ?_⟩
    refine ifd (fun c => ?_) (fun c => ?_)
    · rw [if_neg (by omega)] at dz
      exact ⟨_, rfl, fin _ _ H3 ((s1.trans s2).trans s3) (by omega) dz⟩
    · rw [if_pos (by omega)] at dz
      refine fin _ _ H3 ((s1.trans s2).trans s3) (by omega) ?_
      rw [dz, ht]
  by_cases z36 : Sb16.at_ w m.pc = 36
  · obtain ⟨hi, h5⟩ := i36 z36
    have ht := (told 5 h5 (by rw [z36]; rfl)).trans (by rw [show m.pc + 5 - 4 = m.pc + 1 by omega])
    have dz : m.does i nx = (m.put 12 (Sb16.CODE + nx)).to ((nx : Int) + Sb16.signed 32 (Sb16.num w (m.pc + 1) 4)) := by
      rw [hi]
      rfl
    rw [dz] at k
    refine ⟨_, rfl, _, _, rfl, rfl, _, rfl, ?_⟩
    refine ifd (fun c => absurd z36 (by omega)) (fun c => ?_)
    refine ⟨_, rfl, _, _, rfl, rfl, _, rfl, ?_⟩
    refine ifd (fun c => ?_) (fun c => absurd z36 (by omega))
    refine ⟨_, rfl, a.m, _, _, rfl, M1.om, mf_not (by decide +kernel) (by decide +kernel) (by decide +kernel) (by decide +kernel) _ _ _ _, _, rfl, _, _, rfl, rfl, a, m, w, d0, 12, _, rfl, M1, by decide, fun H2 M2 f2 => ?_⟩
    have e : (8589934592 : Int) + (nx : Int) = ((Sb16.CODE + nx : Nat) : Int) := by
      rw [CODEv]
      omega
    rw [e, put_nat] at M2
    refine ⟨_, rfl, a.m, _, _, rfl, M2.om, mf_not (by decide +kernel) (by decide +kernel) (by decide +kernel) (by decide +kernel) _ _ _ _, _, rfl, a, _, w, d0, _, rfl, M2, fun H3 v R3 f3 => ?_⟩
    rw [ht] at R3
    exact k H3 v R3 ((Fm.of s1).trans (f2.trans f3))
  · have z : Sb16.at_ w m.pc = 33 := by omega
    obtain ⟨hi, h5⟩ := i33 z
    have ht := (told 5 h5 (by rw [z]; rfl)).trans (by rw [show m.pc + 5 - 4 = m.pc + 1 by omega])
    refine rest _ H1 s1 z35 z36 ?_
    rw [hi, ht]
    rfl
theorem len_step {vs : List V} {H : Hp} {Q : VK} {E : XK} (h : sp_step K A vs H Q E) : vs.length = 1 := by
  obtain ⟨_, _, _, _, rfl, _⟩ := h
  rfl
theorem pure_step (T : Txt K mg A) {vs : List V} {H : Hp} {Q : VK} {E : XK} (h : sp_step K A vs H Q E) :
    t_step K A { nx := fun _ H' => Q .non H', rt := Q } (start ["self", "long", "kind", "asked"] vs) H := by
  obtain ⟨a, m, w, d0, rfl, M, k⟩ := h
  have nowhere : ∀ (b1 b2 : Option V) (H5 : Hp), Same H H5 → m.step w = .ends 4 0 m → tRet (tTup (tCons (tC (.int 4)) (tCons (tC (.int 0)) tNil))) { nx := fun _ H' => Q .non H', rt := Q } [some (.ref a.m), b1, b2, none] H5 := by
    intro b1 b2 H5 s5 e
    rw [e] at k
    refine ⟨by show 2 ≤ sizeLine; decide, fun p hp => ?_⟩
    exact k _ _ (.ends upd_same (M.same (s5.trans (Same.new hp)))) (Fm.of (s5.trans (Same.new hp)))
  unfold Sb16.Mach.step at k nowhere
  refine ⟨_, rfl, a.m, A.mac, _, _, _, rfl, M.om, T.cl_mac, T.nPlace, mfp _ _ _ _, _, _, rfl, rfl, _, rfl, ?_⟩
  refine ifd (fun c => absurd c (by omega)) (fun _ => ?_)
  refine ⟨_, rfl, a.m, A.mac, _, _, _, rfl, M.om, T.cl_mac, T.nPlace, mfp _ _ _ _, _, _, rfl, rfl, _, rfl, ?_⟩
  refine ifd (fun c => ?_) (fun c => ?_)
  · refine nowhere _ _ H (Same.refl _) ?_
    rw [if_pos (by show 65536 ≤ m.pc; omega)]
  have hp : m.pc < 65536 := by omega
  rw [if_neg (by show ¬ 65536 ≤ m.pc; omega)] at k nowhere
  refine ⟨_, rfl, a.m, A.mac, _, _, _, rfl, M.om, T.cl_mac, T.nCode, mfc _ _ _ _, _, rfl, a.m, A.mac, _, _, _, rfl, M.om, T.cl_mac, T.nPlace, mfp _ _ _ _, a.c, w, m.pc, rfl, SqL.of M.oc, M.wc, hp, fun H1 s1 => ?_⟩
  have M1 := M.same s1
  refine ⟨_, rfl, a.m, A.mac, _, _, _, rfl, M1.om, T.cl_mac, T.nCode, mfc _ _ _ _, _, rfl, a.m, A.mac, _, _, _, rfl, M1.om, T.cl_mac, T.nPlace, mfp _ _ _ _, _, _, _, _, rfl, rfl, SqL.of M1.oc, nv_at (by rw [M1.wc.len]; exact hp), ?_⟩
  refine ⟨_, rfl, _, _, rfl, rfl, _, rfl, ?_⟩
  refine ifd (fun c => ?_) (fun c => ?_)
  · refine nowhere _ _ H1 s1 ?_
    rw [lenAt_zero M.wc hp (by omega)]
  obtain ⟨l1, l2, x, hd, hl⟩ := lenAt_pos M.wc hp (by omega)
  obtain ⟨i, n⟩ := x
  have hl' : n = lenAt w m.pc := hl
  rw [← hl']
  rw [hd] at k
  replace k : ∀ (H' : Hp) (v : V), Res A H' a w d0 (m.does i (m.pc + n)) v → Fm a H H' → Q v H' := k
  clear nowhere
  have I := ins_of hd
  have kin := kind_in hd
  have nl := next_lt M.wc hp hd
  obtain ⟨nx, hnx⟩ : ∃ nx, m.pc + n = nx := ⟨_, rfl⟩
  rw [hnx] at k nl
  have enx : (m.pc : Int) + (n : Int) = (nx : Int) := by omega
  obtain ⟨i0, i1, i2, i3, i4, i12, i16, i18, i24, i25, i26, i32, i33, i34, i35, i36, i40⟩ := I
  refine ⟨_, rfl, _, _, rfl, rfl, _, rfl, ?_⟩
  refine ifd (fun c0 => ?_) (fun c0 => ?_)
  · obtain ⟨rfl, _⟩ := i0 (by omega)
    refine ⟨by show 2 ≤ sizeLine; decide, fun p hp => ?_⟩
    exact k _ _ (.ends upd_same (M1.same (Same.new hp))) (Fm.of (s1.trans (Same.new hp)))
  have p1 : m.pc < 65504 := wc_lt M.wc (by omega)
  refine ⟨_, rfl, _, _, rfl, rfl, _, rfl, ?_⟩
  refine ifd (fun c40 => ?_) (fun c40 => ?_)
  · obtain ⟨hi, hn⟩ := i40 (by omega)
    refine ⟨_, rfl, a.m, A.mac, _, _, _, rfl, M1.om, T.cl_mac, T.nCode, mfc _ _ _ _, _, rfl, a.m, A.mac, _, _, _, rfl, M1.om, T.cl_mac, T.nPlace, mfp _ _ _ _, _, _, rfl, rfl, _, _, _, _, rfl, rfl, SqL.of M1.oc, at_of (j := m.pc + 1) rfl (nv_get (by rw [M1.wc.len]; omega)), ?_⟩
    refine ⟨_, rfl, a.m, A.mac, _, _, _, rfl, M1.om, T.cl_mac, T.nPlace, mfp _ _ _ _, _, rfl, _, _, rfl, rfl, _, _, M1.om, by show 4 < 1000; decide, ?_⟩
    rw [mf_put, enx]
    have M2 := M1.place nx
    refine ⟨_, rfl, by show 2 ≤ sizeLine; decide, fun p hp => ?_⟩
    rw [hi] at k
    exact k _ _ (.ends upd_same (M2.same (Same.new hp))) ((Fm.of s1).trans (Fm.trans Fm.place (Fm.of (Same.new hp))))
  have fin : ∀ (m' : Sb16.Mach) (H2 : Hp), MAt A H2 a m' w d0 → m'.pc = m.pc → Fm a H H2 → m.does i nx = m'.to (nx : Int) →
      tRet (tMeth A.mac "go" (sp_go K A) [] E0 (tVar 0) (tCons (tOp qAdd (tFld K (tVar 0) "place") (tVar 1)) tNil)) { nx := fun _ H' => Q .non H', rt := Q } [some (.ref a.m), some (.int (n : Nat)), some (.int (Sb16.at_ w m.pc : Nat)), none] H2 := by
    intro m' H2 M2 hpc f2 e
    rw [e] at k
    refine ⟨_, rfl, a.m, _, _, rfl, M2.om, mf_not (by decide +kernel) (by decide +kernel) (by decide +kernel) (by decide +kernel) _ _ _ _, _, rfl, a.m, A.mac, _, _, _, rfl, M2.om, T.cl_mac, T.nPlace, mfp _ _ _ _, _, rfl, _, _, rfl, rfl, a, m', w, d0, (nx : Int), ?_, M2, fun H3 v R3 f3 => k H3 v R3 (f2.trans f3)⟩
    show [V.ref a.m, V.int ((m'.pc : Int) + (n : Int))] = _
    rw [hpc, enx]
  refine ⟨_, rfl, _, _, rfl, rfl, _, rfl, ?_⟩
  have rest : ¬ (16 ≤ Sb16.at_ w m.pc ∧ Sb16.at_ w m.pc ≤ 19) →
      (tSeq (tIfS (tTest (tOp qGe (tVar 2) (tC (.int 32)))) (tRet (tMeth A.mac "turn" (sp_turn K A) [] E0 (tVar 0) (tCons (tVar 2) (tCons (tOp qAdd (tFld K (tVar 0) "place") (tVar 1)) tNil)))) tNext)
    (tSeq (tIfS (tTest (tOp qGe (tVar 2) (tC (.int 24)))) (tDrop (tMeth A.mac "keep" (sp_keep K A) [] E0 (tVar 0) (tCons (tVar 2) tNil))) (tIfS (tTest (tOp qGt (tVar 2) (tC (.int 1)))) (tDrop (tMeth A.mac "reckon" (sp_reckon K A) [] E0 (tVar 0) (tCons (tVar 2) tNil))) tNext))
    (tRet (tMeth A.mac "go" (sp_go K A) [] E0 (tVar 0) (tCons (tOp qAdd (tFld K (tVar 0) "place") (tVar 1)) tNil))))) { nx := fun _ H' => Q .non H', rt := Q } [some (.ref a.m), some (.int (n : Nat)), some (.int (Sb16.at_ w m.pc : Nat)), none] H1 := by
    intro nr
    refine ⟨_, rfl, _, _, rfl, rfl, _, rfl, ?_⟩
    refine ifd (fun c32 => ?_) (fun c32 => ?_)
    · refine ⟨_, rfl, a.m, _, _, rfl, M1.om, mf_not (by decide +kernel) (by decide +kernel) (by decide +kernel) (by decide +kernel) _ _ _ _, _, rfl, _, rfl, a.m, A.mac, _, _, _, rfl, M1.om, T.cl_mac, T.nPlace, mfp _ _ _ _, _, rfl, _, _, rfl, rfl, a, m, w, d0, i, n, ?_, M1, hp, hd, by omega, ?_, fun H3 v R3 f3 => ?_⟩
      · show [V.ref a.m, V.int _, V.int ((m.pc : Int) + (n : Int))] = _
        rw [enx, hnx]
      · unfold Kinds at kin
        omega
      · rw [hnx] at R3
        exact k H3 v R3 ((Fm.of s1).trans f3)
    refine ⟨_, rfl, _, _, rfl, rfl, _, rfl, ?_⟩
    refine ifd (fun c24 => ?_) (fun c24 => ?_)
    · have k3 : Sb16.at_ w m.pc = 24 ∨ Sb16.at_ w m.pc = 25 ∨ Sb16.at_ w m.pc = 26 := by
        unfold Kinds at kin
        omega
      refine ⟨_, rfl, a.m, _, _, rfl, M1.om, mf_not (by decide +kernel) (by decide +kernel) (by decide +kernel) (by decide +kernel) _ _ _ _, _, rfl, a, m, w, d0, i, n, rfl, M1, hp, hd, by omega, by omega, fun H2 M2 f2 => ?_⟩
      refine fin _ H2 M2 (eff_pc _ _) ((Fm.of s1).trans f2) (eff_to ?_)
      rcases k3 with z | z | z
      · exact .inr (.inr (.inr (.inr (.inl ⟨_, _, (i24 z).1⟩))))
      · exact .inr (.inr (.inr (.inr (.inl ⟨_, _, (i25 z).1⟩))))
      · exact .inr (.inr (.inr (.inr (.inl ⟨_, _, (i26 z).1⟩))))
    refine ⟨_, rfl, _, _, rfl, rfl, _, rfl, ?_⟩
    refine ifd (fun c1 => ?_) (fun c1 => ?_)
    · have k3 : Sb16.at_ w m.pc = 2 ∨ Sb16.at_ w m.pc = 3 ∨ (4 ≤ Sb16.at_ w m.pc ∧ Sb16.at_ w m.pc ≤ 11) ∨ Sb16.at_ w m.pc = 12 := by
        unfold Kinds at kin
        omega
      refine ⟨_, rfl, a.m, _, _, rfl, M1.om, mf_not (by decide +kernel) (by decide +kernel) (by decide +kernel) (by decide +kernel) _ _ _ _, _, rfl, a, m, w, d0, i, n, rfl, M1, hp, hd, by omega, by omega, fun H2 M2 f2 => ?_⟩
      refine fin _ H2 M2 (eff_pc _ _) ((Fm.of s1).trans f2) (eff_to ?_)
      rcases k3 with z | z | z | z
      · exact .inl ⟨_, _, (i2 z).1⟩
      · exact .inr (.inl ⟨_, _, (i3 z).1⟩)
      · exact .inr (.inr (.inl ⟨_, _, _, (i4 z).1⟩))
      · exact .inr (.inr (.inr (.inl ⟨_, _, (i12 z).1⟩)))
    · have z : Sb16.at_ w m.pc = 1 := by omega
      refine fin m H1 M1 rfl (Fm.of s1) ?_
      rw [(i1 z).1]
      rfl
  refine ifd (fun c16 => ?_) (fun c16 => ?_)
  · refine ⟨_, _, rfl, rfl, _, rfl, ?_⟩
    refine ifd (fun c19 => ?_) (fun c19 => ?_)
    · have n4 : n = 4 := by
        rcases (show (Sb16.at_ w m.pc = 16 ∨ Sb16.at_ w m.pc = 17) ∨ (Sb16.at_ w m.pc = 18 ∨ Sb16.at_ w m.pc = 19) by omega) with z | z
        · exact (i16 z).2
        · exact (i18 z).2
      subst n4
      refine ⟨_, rfl, a.m, _, _, rfl, M1.om, mf_not (by decide +kernel) (by decide +kernel) (by decide +kernel) (by decide +kernel) _ _ _ _, _, rfl, _, rfl, a, m, w, d0, i, rfl, M1, hp, hd, by omega, by omega, fun H3 v R3 f3 => ?_⟩
      rw [hnx] at R3
      exact k H3 v R3 ((Fm.of s1).trans f3)
    · exact rest (by omega)
  · exact ⟨_, rfl, iteF (rest (by omega))⟩
theorem len_run {vs : List V} {H : Hp} {Q : VK} {E : XK} (h : sp_run K A vs H Q E) : vs.length = 2 := by
  obtain ⟨_, _, _, _, _, rfl, _⟩ := h
  rfl
theorem pure_run (T : Txt K mg A) {vs : List V} {H : Hp} {Q : VK} {E : XK} (h : sp_run K A vs H Q E) :
    t_run K A { nx := fun _ H' => Q .non H', rt := Q } (start ["self", "steps", "turn", "end"] vs) H := by
  obtain ⟨a, m, w, d0, n, rfl, M, hn, k⟩ := h
  refine ⟨_, rfl, _, rfl, by omega, by omega, for_range (lo := 0) (n := n) (fun j σ H' => j ≤ n ∧ ∃ (b1 b2 : Option V) (m' : Sb16.Mach), σ = [some (.ref a.m), some (.int (n : Nat)), b1, b2] ∧ MAt A H' a m' w d0 ∧ Fm a H H' ∧ Sb16.steps w n m = Sb16.steps w (n - j) m')
    ⟨Nat.zero_le _, none, none, m, rfl, M, Fm.of (Same.refl _), rfl⟩ ?_ ?_⟩
  · rintro j σ H' hj ⟨_, b1, b2, m', rfl, M', f', e⟩
    refine ⟨_, rfl, a.m, _, _, rfl, M'.om, mf_not (by decide +kernel) (by decide +kernel) (by decide +kernel) (by decide +kernel) _ _ _ _, a, m', w, d0, rfl, M', fun H2 v R2 f2 => ?_⟩
    obtain ⟨r, hr⟩ : ∃ r, n - j = r + 1 := ⟨n - j - 1, by omega⟩
    replace e : Sb16.steps w n m = (match Sb16.Mach.step w m' with | .on x => Sb16.steps w r x | .ends a b x => .ends a b x) := by
      rw [e, hr]
      rfl
    generalize Sb16.Mach.step w m' = st at R2 e
    cases R2 with
    | on M2 =>
      refine ⟨_, rfl, _, rfl, ?_⟩
      refine iteF ⟨hj, _, _, _, rfl, M2, f'.trans f2, ?_⟩
      rw [e, show n - (j + 1) = r by omega]
    | ends h2 M2 =>
      refine ⟨_, rfl, _, rfl, ?_⟩
      refine iteT ⟨_, rfl, ?_⟩
      have e2 : Sb16.steps w n m = .ends _ _ _ := e
      refine k H2 _ ?_ ?_ (f'.trans f2)
      · rw [e2]
        exact M2
      · rw [e2]
        exact h2
  · rintro σ H' ⟨_, b1, b2, m', rfl, M', f', e⟩
    rw [Nat.sub_self] at e
    have e2 : Sb16.steps w n m = .on m' := e
    refine ⟨by show 2 ≤ sizeLine; decide, fun p hp => ?_⟩
    refine k _ p ?_ ?_ (f'.trans (Fm.of (Same.new hp)))
    · rw [e2]
      exact M'.same (Same.new hp)
    · rw [e2]
      exact upd_same
end
end Fm

namespace Fm
open PySem PySem.Spec PyProof.Rows L2
theorem dfc (c : V) (n : Int) : (dskF c n).lookup ("code" : Str) = some c := lkh
theorem dfm (c : V) (n : Int) : (dskF c n).lookup ("many" : Str) = some (.int n) := (lkp (by decide +kernel)).trans lkh
theorem df_code (c v : V) (n : Int) : putF "code" v (dskF c n) = dskF v n := pth
theorem df_many (c : V) (n z : Int) : putF "many" (.int z) (dskF c n) = dskF c z := (ptp (by decide +kernel)).trans (congrArg _ pth)
theorem df_new : putF "many" (.int 0) (putF "code" .non []) = dskF .non 0 := (ptp (by decide +kernel)).trans rfl
theorem df_not {m : Str} (h1 : (m == ("code" : Str)) = false) (h2 : (m == ("many" : Str)) = false) (c : V) (n : Int) : (dskF c n).lookup m = none := (lkp h1).trans ((lkp h2).trans rfl)
theorem But.same {d : Addr} {H H' : Hp} (s : Same H H') : But d H H' := fun b o e _ => s b o e
theorem But.trans {d : Addr} {H H' H'' : Hp} (f : But d H H') (g : But d H' H'') : But d H H'' := fun b o e n => g b o (f b o e n) n
section
variable {A : Ads} {H H' : Hp} {d fo : Addr} {s : Sb16.State}
theorem DAt.ins (D : DAt A H d fo s) : ∃ dd c n, H d = some (.ins A.dsk dd (dskF c n)) := by
  cases s with
  | none =>
    obtain ⟨dd, h⟩ := D
    exact ⟨dd, _, _, h⟩
  | some c =>
    obtain ⟨dd, a, h, _⟩ := D
    exact ⟨dd, _, _, h⟩
theorem DAt.same (D : DAt A H d fo s) (e : Same H H') : DAt A H' d fo s := by
  cases s with
  | none =>
    obtain ⟨dd, h⟩ := D
    exact ⟨dd, e _ _ h⟩
  | some c =>
    obtain ⟨dd, a, h, h2, h3, h4⟩ := D
    exact ⟨dd, a, e _ _ h, e _ _ h2, h3, h4⟩
end
section
variable {P : Program} {w : World} {K : PySem.W.Frag} {mg : Str → Option Value} {base : Heap} {A : Ads}
theorem len_dsk_init {vs : List V} {H : Hp} {Q : VK} {E : XK} (h : sp_dsk_init K A vs H Q E) : vs.length = 1 := by
  obtain ⟨_, _, rfl, _⟩ := h
  rfl
theorem pure_dsk_init (T : Txt K mg A) {vs : List V} {H : Hp} {Q : VK} {E : XK} (h : sp_dsk_init K A vs H Q E) :
    t_dsk_init K A { nx := fun _ H' => Q .non H', rt := Q } (start ["self"] vs) H := by
  obtain ⟨p, dx, rfl, hp, k⟩ := h
  refine ⟨_, rfl, p, A.dsk, dx, _, rfl, hp, T.cl_dsk, T.nDCode, by show 0 < 1000; decide, ?_⟩
  refine ⟨_, rfl, p, A.dsk, dx, _, rfl, upd_same, T.cl_dsk, T.nDMany, by show 1 < 1000; decide, ?_⟩
  rw [upd_upd]
  refine k _ (fun b o e nb => by rw [upd_ne nb]; exact e) fun fo => ⟨dx, ?_⟩
  rw [upd_same, df_new]
theorem len_load {vs : List V} {H : Hp} {Q : VK} {E : XK} (h : sp_load K A vs H Q E) : vs.length = 3 := by
  obtain ⟨_, _, _, _, _, _, rfl, _⟩ := h
  rfl
theorem pure_load (T : Txt K mg A) {vs : List V} {H : Hp} {Q : VK} {E : XK} (h : sp_load K A vs H Q E) :
    t_load K A { nx := fun _ H' => Q .non H', rt := Q } (start ["self", "many", "code"] vs) H := by
  obtain ⟨d, fo, s, n, g, l, rfl, D, ⟨ofo, hfo⟩, hg, hb, hl, k⟩ := h
  have bad : ¬ (0 ≤ n ∧ n ≤ 65504) → tRet (tLst (tCons (tC (.int (-1))) tNil)) { nx := fun _ H' => Q .non H', rt := Q } [some (.ref d), some (.int n), some (.ref g)] H := fun c => by
    have e : Sb16.spec s (.load l n) = (Sb16.only (-1), s) := by
      show (if Sb16.inside n Sb16.MOST = false then (Sb16.only (-1), s) else _) = _
      rw [if_pos (inside_not (m := Sb16.MOST) c)]
    rw [e] at k
    refine ⟨by show 1 ≤ sizeLine; decide, fun p hp => ?_⟩
    exact k _ p (But.same (Same.new hp)) hp upd_same (D.same (Same.new hp))
  refine ⟨_, rfl, _, _, rfl, rfl, _, rfl, ?_⟩
  refine ifd (fun c1 => ?_) (fun c1 => ?_)
  · exact iteT (bad (by omega))
  refine ⟨_, rfl, _, _, rfl, rfl, _, rfl, ?_⟩
  refine ifd (fun c2 => ?_) (fun c2 => ?_)
  · exact bad (by omega)
  have e : Sb16.spec s (.load l n) = (Sb16.only 0, some l) := by
    show (if Sb16.inside n Sb16.MOST = false then _ else (Sb16.only 0, some l)) = _
    rw [if_neg (by rw [(inside_iff n Sb16.MOST).mpr ⟨by omega, by show n ≤ 65504; omega⟩]; decide)]
  rw [e] at k
  obtain ⟨dd, cv, cn, hd⟩ := D.ins
  refine ⟨_, rfl, g, l, rfl, hg, by omega, fun H1 p s1 hp hp1 => ?_⟩
  have ngd : g ≠ d := ne_of hg hd (by intro z; cases z)
  have npd : p ≠ d := fun z => by
    subst z
    rw [hd] at hp
    cases hp
  refine ⟨_, rfl, d, A.dsk, dd, _, rfl, s1 _ _ hd, T.cl_dsk, T.nDCode, by show 2 < 1000; decide, ?_⟩
  rw [df_code]
  refine ⟨_, rfl, g, _, rfl, .inl (SqL.of (by rw [upd_ne ngd]; exact s1 _ _ hg)), ?_⟩
  refine ⟨_, rfl, d, A.dsk, dd, _, rfl, upd_same, T.cl_dsk, T.nDMany, by show 2 < 1000; decide, ?_⟩
  rw [df_many, upd_upd, nv_len]
  refine ⟨by show 1 ≤ sizeLine; decide, fun q hq => ?_⟩
  have nqd : q ≠ d := fun z => by
    subst z
    rw [upd_same] at hq
    cases hq
  have hq1 := hq
  rw [upd_ne nqd] at hq1
  have nqp : p ≠ q := ne_of_none hp1 hq1
  refine k _ q (fun b o e nb => ?_) (s1.free hq1) upd_same ⟨dd, p, ?_, ?_, npd, hb, hl, fun z => (ne_of_none hfo hp) z.symm⟩
  · rw [upd_ne (ne_of_none (s1 _ _ e) hq1), upd_ne nb]
    exact s1 _ _ e
  · rw [upd_ne (fun z => nqd z.symm), upd_same]
  · rw [upd_ne nqp, upd_ne npd]
    exact hp1
theorem len_check {vs : List V} {H : Hp} {Q : VK} {E : XK} (h : sp_check K A vs H Q E) : vs.length = 1 := by
  obtain ⟨_, _, _, rfl, _⟩ := h
  rfl
theorem pure_check (T : Txt K mg A) {vs : List V} {H : Hp} {Q : VK} {E : XK} (h : sp_check K A vs H Q E) :
    t_check K A { nx := fun _ H' => Q .non H', rt := Q } (start ["self"] vs) H := by
  obtain ⟨d, fo, s, rfl, D, k⟩ := h
  cases s with
  | none =>
    obtain ⟨dd, hd⟩ := D
    refine ⟨_, rfl, d, A.dsk, dd, _, _, rfl, hd, T.cl_dsk, T.nDCode, dfc _ _, _, rfl, ?_⟩
    refine ifd (fun _ => ?_) (fun c => absurd rfl c)
    refine ⟨by show 1 ≤ sizeLine; decide, fun p hp => ?_⟩
    exact k _ p (Same.new hp) hp upd_same
  | some c =>
    obtain ⟨dd, a, hd, ha, _, hb, hl, _⟩ := D
    refine ⟨_, rfl, d, A.dsk, dd, _, _, rfl, hd, T.cl_dsk, T.nDCode, dfc _ _, _, rfl, ?_⟩
    refine ifd (fun c => by cases c) (fun _ => ?_)
    refine ⟨_, rfl, d, A.dsk, dd, _, _, rfl, hd, T.cl_dsk, T.nDCode, dfc _ _, _, rfl, d, A.dsk, dd, _, _, rfl, hd, T.cl_dsk, T.nDMany, dfm _ _, a, wholeOf c, c.length, rfl, SqL.of ha, wc_whole hb hl, hl, fun H1 p s1 hp hp1 => ?_⟩
    rw [step_check hb hl] at k
    exact k H1 p s1 hp hp1
theorem len_row_at {vs : List V} {H : Hp} {Q : VK} {E : XK} (h : sp_row_at K A vs H Q E) : vs.length = 2 := by
  obtain ⟨_, _, _, _, rfl, _⟩ := h
  rfl
theorem zv_get {l : List Int} {i : Nat} {x : Int} (h : l[i]? = some x) : (zv l)[i]? = some (.int x) := by
  unfold zv
  rw [List.getElem?_map, h]
  rfl
theorem zv_cut (l : List Int) (i j : Nat) : ((zv l).drop i).take j = zv ((l.drop i).take j) := by
  unfold zv
  rw [List.map_take, List.map_drop]
theorem pure_row_at (T : Txt K mg A) {vs : List V} {H : Hp} {Q : VK} {E : XK} (h : sp_row_at K A vs H Q E) :
    t_row_at K A { nx := fun _ H' => Q .non H', rt := Q } (start ["calls", "at", "end"] vs) H := by
  obtain ⟨c, l, i, n, rfl, hc, hi, hl, k⟩ := h
  refine ⟨_, rfl, _, _, rfl, rfl, _, rfl, _, rfl, _, _, _, _, rfl, rfl, hc, atI_nat (zv_get hi), _, _, rfl, rfl, ?_⟩
  refine ⟨_, rfl, _, rfl, _, _, rfl, rfl, _, rfl, _, rfl, _, rfl, _, _, rfl, hc, fun p hp => ?_⟩
  have e1 : (i : Int) + 1 = ((i + 1 : Nat) : Int) := by omega
  have e2 : (i : Int) + 1 + (n : Int) = ((i + 1 + n : Nat) : Int) := by omega
  rw [e2, e1, cutV_nat, zv_cut, show i + 1 + n - (i + 1) = n by omega]
  refine ⟨_, rfl, by show 2 ≤ sizeLine; decide, fun t ht => ?_⟩
  refine k _ t p ((Same.new hp).trans (Same.new ht)) hp ?_ ?_
  · rw [upd_ne (ne_of_none upd_same ht), upd_same]
  · rw [upd_same]
    show some (HO.tup [V.ref p, V.int (((i + 1 : Nat) : Int) + (n : Int))]) = _
    rw [show ((i + 1 : Nat) : Int) + (n : Int) = ((i + 1 + n : Nat) : Int) by omega]
end
end Fm

namespace Fm
open PySem PySem.Spec PyProof.Rows L2
theorem zv_app (a b : List Int) : zv (a ++ b) = zv a ++ zv b := List.map_append
theorem zv_nat (l : List Nat) : zv (Sb16Neutral.ints l) = nv l := by
  unfold zv nv Sb16Neutral.ints
  rw [List.map_map]
  rfl
section
variable {P : Program} {w : World} {K : PySem.W.Frag} {mg : Str → Option Value} {base : Heap} {A : Ads}
theorem len_drun {vs : List V} {H : Hp} {Q : VK} {E : XK} (h : sp_drun K A vs H Q E) : vs.length = 4 := by
  obtain ⟨_, _, _, _, _, _, _, _, _, _, _, rfl, _⟩ := h
  rfl
/-- what is told of the bytes that changed, so many of them -/
def pairsOf (l : List (Nat × Nat)) : List Int := l.flatMap fun (y : Nat × Nat) => [(y.1 : Int), (y.2 : Int)]
theorem pairs_len (l : List (Nat × Nat)) : (pairsOf l).length = 2 * l.length := by
  unfold pairsOf
  induction l with
  | nil => rfl
  | cons a r ih =>
    rw [List.flatMap_cons, List.length_append, ih, List.length_cons]
    show 2 + 2 * r.length = 2 * (r.length + 1)
    omega
theorem pairs_more {l : List (Nat × Nat)} {j : Nat} {y : Nat × Nat} (h : l[j]? = some y) : pairsOf (l.take (j + 1)) = pairsOf (l.take j) ++ [(y.1 : Int), (y.2 : Int)] := by
  unfold pairsOf
  rw [take_more h, List.flatMap_append]
  rfl
theorem drun_tail (T : Txt K mg A) {Q : VK} {H8 : Hp} {ch a4 mm dmm cl bd : Addr} {data : List Nat} {L : List (Nat × Nat)} {hd0 : List Int} {v0 v1 v2 v3 v4 v5 v6 v8 v9 v10 : Option V} (hch : H8 ch = some (.lst (nv (L.map Prod.fst)))) (omm : H8 mm = some (.ins A.mem dmm (memF cl bd)))
    (ocl : H8 cl = some (.lst (nv data))) (dl : data.length = 65536) (ha4 : H8 a4 = some (.lst (zv hd0))) (nch : ch ≠ a4) (nmm : mm ≠ a4) (ncl : cl ≠ a4) (hd0l : hd0.length = 20) (hL4 : L.length ≤ 65536)
    (hL2 : L = (L.map Prod.fst).map fun x => (x, Sb16.at_ data x)) (hL3 : ∀ x ∈ L.map Prod.fst, x < 65536) (k : ∀ H', But a4 H8 H' → H' a4 = some (.lst (zv (hd0 ++ pairsOf L))) → Q (.ref a4) H') :
    (tSeq (tFor (iList K (tVar 11)) (gName 13) (tSeq (tDrop (tBM K "list" rAppend (tVar 12) (tCons (tVar 13) tNil)))
    (tDrop (tBM K "list" rAppend (tVar 12) (tCons (tOp (rIxL K) (tFld K (tVar 7) "cells") (tVar 13)) tNil)))))
    (tRet (tVar 12))) { nx := fun _ H' => Q .non H', rt := Q } [v0, v1, v2, v3, v4, v5, v6, some (.ref mm), v8, v9, v10, some (.ref ch), some (.ref a4), none] H8 := by
  refine ⟨_, rfl, ch, rfl, ⟨_, SqL.of hch⟩, for_list (K := K) (a := ch) (xs := nv (L.map Prod.fst)) (fun j σ H' => ∃ b2 : Option V, σ = [v0, v1, v2, v3, v4, v5, v6, some (.ref mm), v8, v9, v10, some (.ref ch), some (.ref a4), b2] ∧
      But a4 H8 H' ∧ H' a4 = some (.lst (zv (hd0 ++ pairsOf (L.take j))))) ⟨none, rfl, fun _ _ e _ => e, by rw [ha4]; unfold pairsOf; simp⟩
    (fun j σ H' _ q => by obtain ⟨_, _, kb, _⟩ := q; exact SqL.of (kb _ _ hch nch)) ?_ ?_⟩
  · rintro j y σ H' hy ⟨b2, rfl, kb, ha⟩
    obtain ⟨z, hz, rfl⟩ := nv_getq hy
    have z6 := hL3 z (List.mem_of_getElem? hz)
    have hj : j < L.length := by
      have := (List.getElem?_eq_some_iff.mp hz).1
      rw [List.length_map] at this
      exact this
    have hLz : L[j]? = some (z, Sb16.at_ data z) := by
      rw [hL2, List.getElem?_map, hz]
      rfl
    have al : (zv (hd0 ++ pairsOf (L.take j))).length ≤ 20 + 2 * 65536 := by
      rw [zv_len, List.length_append, pairs_len, List.length_take]
      omega
    have lt1 : 20 + 2 * 65536 + 2 < sizeLine := by decide
    refine ⟨_, rfl, .inl ⟨rfl, _, SqL.of ha⟩, _, rfl, _, _, _, rfl, rfl, ha, by omega, ?_⟩
    have h1 : But a4 H8 (upd H' a4 (.lst (zv (hd0 ++ pairsOf (L.take j)) ++ [V.int (z : Nat)]))) := fun x o ex nx => by
      rw [upd_ne nx]
      exact kb x o ex nx
    refine ⟨_, rfl, .inl ⟨rfl, _, SqL.of upd_same⟩, _, rfl, mm, A.mem, dmm, _, _, rfl, h1 _ _ omm nmm, T.cl_mem, T.nCells, memF_cells _ _, _, rfl, _, _, _, _, rfl, rfl, SqL.of (h1 _ _ ocl ncl), nv_at (by rw [dl]; exact z6), _, _, _, rfl, rfl, upd_same, ?_, ?_⟩
    · rw [List.length_append, List.length_singleton]
      omega
    · refine ⟨_, rfl, fun x o ex nx => ?_, ?_⟩
      · rw [upd_ne nx]
        exact h1 x o ex nx
      · rw [upd_same, pairs_more hLz, ← List.append_assoc, zv_app (hd0 ++ _)]
        rw [List.append_assoc]
        rfl
  · rintro σ H' ⟨b2, rfl, kb, ha⟩
    rw [nv_len, List.length_map, List.take_length] at ha
    exact ⟨_, rfl, k H' kb ha⟩
theorem pure_drun (T : Txt K mg A) {vs : List V} {H : Hp} {Q : VK} {E : XK} (h : sp_drun K A vs H Q E) :
    t_drun K A { nx := fun _ H' => Q .non H', rt := Q } (start ["self", "numbers", "registers", "given", "steps", "place", "off", "memory", "machine", "end", "what", "changed", "answer", "at"] vs) H := by
  obtain ⟨d, fo, s, nb, rg, g, n, pc, off, r, b, rfl, D, hnb, hrg, hg, hr, hrW, hb, hob, k⟩ := h
  refine ⟨_, rfl, nb, _, rfl, hnb, rfl, _, _, rfl, _, _, rfl, _, _, rfl, rfl, ?_⟩
  cases s with
  | none =>
    obtain ⟨dd, hd⟩ := D
    refine ⟨_, rfl, d, A.dsk, dd, _, _, rfl, hd, T.cl_dsk, T.nDCode, dfc _ _, _, rfl, ?_⟩
    refine ifd (fun _ => ?_) (fun c => absurd rfl c)
    refine ⟨by show 1 ≤ sizeLine; decide, fun p hp => ?_⟩
    exact k _ p (Same.new hp) hp upd_same
  | some c =>
  obtain ⟨dd, ca, hd, hca, _, hbc, hlc, _⟩ := D
  refine ⟨_, rfl, d, A.dsk, dd, _, _, rfl, hd, T.cl_dsk, T.nDCode, dfc _ _, _, rfl, ?_⟩
  refine ifd (fun c => by cases c) (fun _ => ?_)
  have bad : ¬ (0 ≤ n ∧ n ≤ 16777216) → ∀ σ, tRet (tLst (tCons (tC (.int (-1))) tNil)) { nx := fun _ H' => Q .non H', rt := Q } σ H := fun c σ => by
    rw [step_run_bad c] at k
    refine ⟨by show 1 ≤ sizeLine; decide, fun p hp => ?_⟩
    exact k _ p (Same.new hp) hp upd_same
  refine ⟨_, rfl, _, _, rfl, rfl, _, rfl, ?_⟩
  refine ifd (fun c1 => ?_) (fun c1 => ?_)
  · exact iteT (bad (by omega) _)
  refine ⟨_, rfl, _, _, rfl, rfl, _, rfl, ?_⟩
  refine ifd (fun c2 => ?_) (fun c2 => ?_)
  · exact bad (by omega) _
  rw [step_run hr ⟨by omega, by omega⟩] at k
  -- memory
  refine ⟨_, rfl, _, rfl, fun mm dmm fm fd nd => ?_⟩
  refine ⟨mm, dmm, off, g, b, rfl, upd_same, ?_, hob, fun H1 cl bd k1 e1 f1 f2 e2 e3 => ⟨rfl, ?_⟩⟩
  · exact SqL.of (by rw [upd_ne (ne_of_none hg fm), upd_ne (ne_of_none hg fd)]; exact hg)
  have s1 : Same H H1 := Same.made fm fd k1
  have ncm : cl ≠ mm := fun z => by
    subst z
    rw [upd_same] at f1
    cases f1
  have nca : ca ≠ cl := by
    refine ne_of_none (H := upd (upd H dmm (.own mm)) mm (.ins A.mem dmm [])) (a := ca) (b := cl) (o := .lst (nv (wholeOf c))) ?_ f1
    rw [upd_ne (ne_of_none hca fm), upd_ne (ne_of_none hca fd)]
    exact hca
  -- machine
  refine ⟨_, rfl, d, A.dsk, dd, _, _, rfl, s1 _ _ hd, T.cl_dsk, T.nDCode, dfc _ _, _, rfl, _, rfl, _, rfl, fun m dm gm gd nd2 => ?_⟩
  refine ⟨m, dm, ca, (pc : Int), rg, mm, r, rfl, upd_same, ?_, fun H2 rr k2 q1 q2 q3 => ⟨rfl, ?_⟩⟩
  · rw [upd_ne (ne_of_none (s1 _ _ hrg) gm), upd_ne (ne_of_none (s1 _ _ hrg) gd)]
    exact s1 _ _ hrg
  have s2 : Same H1 H2 := Same.made gm gd k2
  have old : ∀ {x o}, H1 x = some o → x ≠ rr := fun {x o} e => by
    refine ne_of_none (H := upd (upd H1 dm (.own m)) m (.ins A.mac dm [])) (a := x) (b := rr) (o := o) ?_ q2
    rw [upd_ne (ne_of_none e gm), upd_ne (ne_of_none e gd)]
    exact e
  have M : MAt A H2 ⟨m, dm, ca, rr, mm, dmm, cl, bd⟩ ⟨r, pc, Sb16Neutral.memory off b⟩ (wholeOf c) (Sb16Neutral.memory off b) :=
    { om := q1, oc := s2 _ _ (s1 _ _ hca), orr := q3, omm := s2 _ _ e1, ocl := s2 _ _ e2, obd := ⟨[], s2 _ _ e3, List.nodup_nil, fun k hk => absurd hk (by simp), fun _ _ => rfl⟩,
      ncr := old (s1 _ _ hca), ncl := nca, nrl := fun z => old e2 z.symm, nmm := fun z => by
        have z : m = mm := z
        subst z
        rw [e1] at gm
        cases gm
      wc := wc_whole hbc hlc, wm := ⟨hr, hrW, memory_len hob, memory_byt hb⟩, d0l := memory_len hob }
  have s02 := s1.trans s2
  have en : n = ((n.toNat : Nat) : Int) := by omega
  refine ⟨_, rfl, m, _, _, rfl, M.om, mf_not (by decide +kernel) (by decide +kernel) (by decide +kernel) (by decide +kernel) _ _ _ _, _, rfl, ⟨m, dm, ca, rr, mm, dmm, cl, bd⟩, _, _, _, n.toNat, ?_, M, by omega, fun H3 p M3 hp3 f3 => ?_⟩
  · show [V.ref m, V.int n] = [V.ref m, V.int ((n.toNat : Nat) : Int)]
    rw [← en]
  rw [steps_whole] at M3 hp3
  generalize hx : ended (Sb16.steps c n.toNat ⟨r, pc, Sb16Neutral.memory off b⟩) = x at *
  obtain ⟨e, wh, m'⟩ := x
  have M3 : MAt A H3 ⟨m, dm, ca, rr, mm, dmm, cl, bd⟩ m' (wholeOf c) (Sb16Neutral.memory off b) := M3
  have hp3 : H3 p = some (.tup [.int (e : Nat), .int (wh : Nat)]) := hp3
  have s03 : Same H H3 := fun x o ex => by
    have e1' := s1 x o ex
    refine f3 x o (s2 x o e1') ?_ (old e1') ?_ ?_
    · exact ne_of_none e1' gm
    · refine ne_of_none (H := upd (upd H dmm (.own mm)) mm (.ins A.mem dmm [])) (o := o) ?_ f1
      rw [upd_ne (ne_of_none ex fm), upd_ne (ne_of_none ex fd)]
      exact ex
    · refine ne_of_none (H := upd (upd H dmm (.own mm)) mm (.ins A.mem dmm [])) (o := o) ?_ f2
      rw [upd_ne (ne_of_none ex fm), upd_ne (ne_of_none ex fd)]
      exact ex
  refine ⟨p, _, rfl, SqT.of hp3, rfl, _, _, rfl, _, _, rfl, rfl, ?_⟩
  -- what changed
  obtain ⟨ks, hb3, B3⟩ := M3.obd
  refine ⟨_, rfl, mm, _, _, rfl, M3.omm, mem_not (by decide +kernel) (by decide +kernel) _ _, mm, dmm, cl, bd, m'.data, _, ks, rfl, M3.omm, M3.ocl, hb3, M3.wm.dl, M3.d0l, B3, fun H4 ch s4 hch hch4 => ?_⟩
  have M4 := M3.same s4
  have s04 := s03.trans s4
  generalize hL : Sb16Neutral.differ (Sb16Neutral.memory off b) m'.data = L at *
  have hL2 : L = (L.map Prod.fst).map fun x => (x, Sb16.at_ m'.data x) := by
    rw [← hL]
    exact differ_snd _ _ (by rw [M3.d0l, M3.wm.dl]) M3.wm.dl
  have hL3 : ∀ x ∈ L.map Prod.fst, x < 65536 := fun x hx => by
    rw [← hL] at hx
    exact ((differ_mem _ _ (by rw [M3.d0l, M3.wm.dl]) M3.wm.dl x).mp hx).1
  have hL4 : L.length ≤ 65536 := by
    have := nodup_le 65536 (L.map Prod.fst) (by
      rw [← hL]
      exact (differ_rising _ _).imp fun {a b} z => Nat.ne_of_lt z) hL3
    rw [List.length_map] at this
    exact this
  -- the answer's head
  refine ⟨_, rfl, by show 1 ≤ sizeLine; decide, fun a1 h1 => ?_⟩
  have t1 := Same.new (o := .lst [V.int (e : Nat)]) h1
  have M5 := M4.same t1
  refine ⟨_, rfl, m, A.mac, dm, _, _, rfl, M5.om, T.cl_mac, T.nRegs, mfr _ _ _ _, _, _, _, _, rfl, rfl, upd_same, M5.orr, ?_, fun a2 h2 => ?_⟩
  · rw [nv_len, M3.wm.r16]
    show 1 + 16 ≤ sizeLine
    decide
  have t2 := Same.new (o := .lst ([V.int (e : Nat)] ++ nv m'.regs)) h2
  have M6 := M5.same t2
  refine ⟨_, rfl, m, A.mac, dm, _, _, rfl, M6.om, T.cl_mac, T.nPlace, mfp _ _ _ _, _, rfl, _, rfl, ch, _, rfl, .inl (SqL.of (t2 _ _ (t1 _ _ hch4))), by show 3 ≤ sizeLine; decide, fun a3 h3 => ?_⟩
  rw [nv_len, List.length_map]
  have t3 := Same.new (o := .lst [V.int (m'.pc : Nat), V.int (wh : Nat), V.int (L.length : Nat)]) h3
  refine ⟨_, _, _, _, rfl, rfl, t3 _ _ upd_same, upd_same, ?_, fun a4 h4 => ?_⟩
  · rw [List.length_append, nv_len, M3.wm.r16]
    show 1 + 16 + 3 ≤ sizeLine
    decide
  have s08 := ((s04.trans t1).trans t2).trans t3
  have f4 : H a4 = none := s08.free h4
  have ha4 : upd (upd (upd (upd H4 a1 (.lst [V.int (e : Nat)])) a2 (.lst ([V.int (e : Nat)] ++ nv m'.regs))) a3 (.lst [V.int (m'.pc : Nat), V.int (wh : Nat), V.int (L.length : Nat)])) a4 (.lst (([V.int (e : Nat)] ++ nv m'.regs) ++ [V.int (m'.pc : Nat), V.int (wh : Nat), V.int (L.length : Nat)])) a4 = some (.lst (([V.int (e : Nat)] ++ nv m'.regs) ++ [V.int (m'.pc : Nat), V.int (wh : Nat), V.int (L.length : Nat)])) := upd_same
  have t4 : Same (upd (upd (upd H4 a1 (.lst [V.int (e : Nat)])) a2 (.lst ([V.int (e : Nat)] ++ nv m'.regs))) a3 (.lst [V.int (m'.pc : Nat), V.int (wh : Nat), V.int (L.length : Nat)])) _ := Same.new (o := .lst (([V.int (e : Nat)] ++ nv m'.regs) ++ [V.int (m'.pc : Nat), V.int (wh : Nat), V.int (L.length : Nat)])) h4
  have M8 := (M6.same t3).same t4
  have s09 := s08.trans t4
  have hch8 := t4 _ _ (t3 _ _ (t2 _ _ (t1 _ _ hch4)))
  have n4 : ∀ {x o}, upd (upd (upd H4 a1 (.lst [V.int (e : Nat)])) a2 (.lst ([V.int (e : Nat)] ++ nv m'.regs))) a3 (.lst [V.int (m'.pc : Nat), V.int (wh : Nat), V.int (L.length : Nat)]) x = some o → x ≠ a4 := fun {x o} ex => ne_of_none ex h4
  have nch : ch ≠ a4 := n4 (t3 _ _ (t2 _ _ (t1 _ _ hch4)))
  have nmm4 : mm ≠ a4 := n4 (M6.same t3).omm
  have ncl4 : cl ≠ a4 := n4 (M6.same t3).ocl
  have ehead : ([V.int (e : Nat)] ++ nv m'.regs) ++ [V.int (m'.pc : Nat), V.int (wh : Nat), V.int (L.length : Nat)] = zv ((e : Int) :: (Sb16Neutral.ints (m'.regs ++ [m'.pc]) ++ [(wh : Int), (L.length : Int)])) := by
    show _ = V.int _ :: zv _
    rw [zv_app, zv_nat, nv_app]
    show [V.int (e : Nat)] ++ nv m'.regs ++ [V.int (m'.pc : Nat), V.int (wh : Nat), V.int (L.length : Nat)] = V.int (e : Nat) :: ((nv m'.regs ++ [V.int (m'.pc : Nat)]) ++ [V.int (wh : Nat), V.int (L.length : Nat)])
    rw [List.append_assoc, List.append_assoc]
    rfl
  have hd0l : ((e : Int) :: (Sb16Neutral.ints (m'.regs ++ [m'.pc]) ++ [(wh : Int), (L.length : Int)])).length = 20 := by
    unfold Sb16Neutral.ints
    rw [List.length_cons, List.length_append, List.length_map, List.length_append, M3.wm.r16]
    rfl
  refine drun_tail T hch8 M8.omm M8.ocl M8.wm.dl (ha4.trans (by rw [ehead])) nch nmm4 ncl4 hd0l hL4 hL2 hL3 fun H' kb ha => ?_
  refine k H' a4 (fun x o ex => kb x o (s09 x o ex) (ne_of_none ex f4)) f4 ?_
  rw [ha]
  unfold runAns
  dsimp only
  rw [hL]
  congr 3
  rw [List.cons_append, List.append_assoc]
  rfl
end
end Fm

namespace Fm
open PySem PySem.Spec PyProof.Rows L2
theorem zv_nats {l : List Int} (h : ∀ x ∈ l, 0 ≤ x) : zv l = nv (Sb16Neutral.nats l) := by
  have e := map_of_nats h
  unfold nv
  rw [show (Sb16Neutral.nats l).map (fun (x : Nat) => V.int (x : Int)) = ((Sb16Neutral.nats l).map Int.ofNat).map V.int by rw [List.map_map]; rfl, e]
  rfl
section
variable {P : Program} {w : World} {K : PySem.W.Frag} {mg : Str → Option Value} {base : Heap} {A : Ads}
theorem len_answers {vs : List V} {H : Hp} {Q : VK} {E : XK} (h : sp_answers K A vs H Q E) : vs.length = 1 := by
  obtain ⟨_, _, rfl, _⟩ := h
  rfl
/-- between two calls -/
def AnsI (A : Ads) (H : Hp) (a d fo : Addr) (l : List Int) (m : Nat) (σ : L2.St) (H' : Hp) : Prop :=
  ∃ (i f : Nat) (s : Sb16.State) (rest : List (List (List Int))) (acc : List Int) (b4 b5 b6 b7 b8 b9 : Option V), m = l.length - i ∧ i ≤ l.length ∧ PyFlat.calls PySb16.shape f (l.drop i) = some rest ∧ (∀ c ∈ rest, Sb16Neutral.asked1 c = true) ∧
    PySb16.answers l = acc ++ PyFlat.told (PyFlat.played Sb16Neutral.step s rest) ∧ σ = [some (.ref a), some (.ref d), some (.ref fo), some (.int (i : Nat)), b4, b5, b6, b7, b8, b9] ∧ Same H H' ∧ DAt A H' d fo s ∧ H' fo = some (.lst (zv acc)) ∧ H fo = none ∧ H d = none
theorem pure_answers (T : Txt K mg A) {vs : List V} {H : Hp} {Q : VK} {E : XK} (h : sp_answers K A vs H Q E) :
    t_answers K A { nx := fun _ H' => Q .non H', rt := Q } (start ["calls", "desk", "found", "at", "kind", "code", "end", "answer", "registers", "given"] vs) H := by
  obtain ⟨a, l, rfl, ha, hasked, k⟩ := h
  obtain ⟨raw, hraw, hall, hans, h10⟩ := asked_start hasked
  -- desk = Desk()
  intro d dd fd fdd nd
  refine ⟨d, dd, rfl, upd_same, fun H1 k1 D1 => ⟨rfl, ?_⟩⟩
  have s1 : Same H H1 := Same.made fd fdd k1
  refine ⟨Nat.zero_le _, fun fo ffo => ?_⟩
  have s2 := Same.new (o := .lst []) ffo
  have hfoH : H fo = none := s1.free ffo
  refine ⟨AnsI A H a d fo l, ⟨l.length, 0, l.length, none, raw, [], none, none, none, none, none, none, rfl, Nat.zero_le _, hraw, hall, hans, rfl, s1.trans s2, (D1 fo).same s2, upd_same, hfoH, fd⟩, ?_⟩
  rintro m σ H' ⟨i, f, s, rest, acc, b4, b5, b6, b7, b8, b9, rfl, hi, hc, hasks, heq, rfl, sH, D, hfo, _, _⟩
  have hfd : fo ≠ d := by
    obtain ⟨_, _, _, q⟩ := D.ins
    exact ne_of hfo q (by intro z; cases z)
  refine ⟨_, rfl, _, rfl, a, _, rfl, .inl (sH.seq ha), _, _, rfl, rfl, _, rfl, ?_⟩
  rw [zv_len]
  refine ifd (fun c => ?_) (fun c => ?_)
  case refine_2 =>
    have e := calls_end (by omega) hc
    subst e
    have e2 : PySb16.answers l = acc := by
      rw [heq]
      unfold PyFlat.told PyFlat.played
      simp
    refine ⟨_, rfl, k H' fo ?_⟩
    rw [hfo, e2]
  have hi' : i < l.length := by omega
  refine ⟨fun σ2 H2 => ∃ m' < l.length - i, AnsI A H a d fo l m' σ2 H2, fun σ2 H2 z => z, ?_⟩
  obtain ⟨p, cc, cs, j, f', hp, rfl, Tn, hcs, hij, hj⟩ := calls_turn hi' hc hasks
  have heq2 : PySb16.answers l = (acc ++ (((Sb16Neutral.step s cc).2.length : Int) :: (Sb16Neutral.step s cc).2)) ++ PyFlat.told (PyFlat.played Sb16Neutral.step (Sb16Neutral.step s cc).1 cs) := by
    rw [heq, told_more, List.append_assoc]
  have hlen : acc.length + (Sb16Neutral.step s cc).2.length + 1 ≤ 10000000 := by
    have := congrArg List.length heq2
    rw [List.length_append, List.length_append, List.length_cons] at this
    omega
  have line : 10000000 < sizeLine := by decide
  -- the end of a turn
  have tail : ∀ (b4 b5 b8 b9 : Option V) (q : Addr) (H2 : Hp), Same H H2 → DAt A H2 d fo (Sb16Neutral.step s cc).1 → H2 fo = some (.lst (zv acc)) → H2 q = some (.lst (zv (Sb16Neutral.step s cc).2)) → q ≠ fo →
      (tSeq (tAsg (tVar 6) (gName 3))
    (tSeq (tDrop (tBM K "list" rAppend (tVar 2) (tCons (tCB (rLn K) (tCons (tVar 7) tNil)) tNil)))
    (tDrop (tBM K "list" rExtend (tVar 2) (tCons (tVar 7) tNil))))) { nx := fun σ2 H2 => ∃ m' < l.length - i, AnsI A H a d fo l m' σ2 H2, rt := Q, bk := tRet (tVar 2) { nx := fun _ H' => Q .non H', rt := Q }, ct := fun σ2 H2 => ∃ m' < l.length - i, AnsI A H a d fo l m' σ2 H2 }
      [some (.ref a), some (.ref d), some (.ref fo), some (.int (i : Nat)), b4, b5, some (.int (j : Nat)), some (.ref q), b8, b9] H2 := by
    intro b4 b5 b8 b9 q H2 t2 D2 hf2 hq2 nq
    refine ⟨_, rfl, ?_⟩
    refine ⟨_, rfl, .inl ⟨rfl, _, SqL.of hf2⟩, _, rfl, q, _, rfl, .inl (SqL.of hq2), _, _, _, rfl, rfl, hf2, by rw [zv_len]; omega, ?_⟩
    rw [zv_len]
    have hq3 : upd H2 fo (.lst (zv acc ++ [V.int ((Sb16Neutral.step s cc).2.length : Nat)])) q = some (.lst (zv (Sb16Neutral.step s cc).2)) := by
      rw [upd_ne nq]
      exact hq2
    refine ⟨_, rfl, .inl ⟨rfl, _, SqL.of upd_same⟩, _, rfl, _, _, _, _, rfl, rfl, upd_same, hq3, by rw [List.length_append, List.length_singleton, zv_len, zv_len]; omega, ?_⟩
    refine ⟨l.length - j, by omega, j, f', (Sb16Neutral.step s cc).1, cs, acc ++ (((Sb16Neutral.step s cc).2.length : Int) :: (Sb16Neutral.step s cc).2), b4, b5, _, _, b8, b9, rfl, hj, hcs, fun c hc => hasks c (List.mem_cons_of_mem _ hc), heq2, rfl, ?_, ?_, ?_, hfoH, fd⟩
    · intro x o ex
      rw [upd_ne (ne_of_none ex hfoH), upd_ne (ne_of_none ex hfoH)]
      exact t2 x o ex
    · rw [upd_upd]
      generalize Sb16Neutral.step s cc = st at *
      obtain ⟨s', an⟩ := st
      have D2 : DAt A H2 d fo s' := D2
      show DAt A _ d fo s'
      cases s' with
      | none =>
        obtain ⟨x, h1⟩ := D2
        exact ⟨x, by rw [upd_ne (fun z => hfd z.symm)]; exact h1⟩
      | some c =>
        obtain ⟨x, ca, h1, h2, h3, h4, h5, h6⟩ := D2
        refine ⟨x, ca, by rw [upd_ne (fun z => hfd z.symm)]; exact h1, ?_, h3, h4, h5, h6⟩
        rw [upd_ne h6]
        exact h2
    · rw [upd_same, zv_app]
      show _ = some (HO.lst (zv acc ++ (V.int _ :: zv _)))
      rw [List.append_assoc]
      rfl
  have hfo1 : ∃ o, H' fo = some o := ⟨_, hfo⟩
  -- which call
  refine ⟨_, rfl, _, rfl, _, _, _, _, rfl, rfl, sH.seq ha, atI_nat (zv_get hp), ?_⟩
  refine ⟨_, rfl, _, _, rfl, rfl, _, rfl, ?_⟩
  cases Tn with
  | load n m h1 h2 h3 hb hl =>
    refine ifd (fun _ => ?_) (fun z => absurd rfl z)
    refine ⟨_, rfl, _, rfl, _, _, rfl, rfl, a, l, i + 2, m, ?_, sH.seq ha, h2, by omega, fun H2 t rw_ s2 f2 hr ht => ?_⟩
    · show [V.ref a, V.int ((i : Int) + 2)] = _
      rw [show (i : Int) + 2 = ((i + 2 : Nat) : Int) by omega]
    refine ⟨t, _, rfl, SqT.of ht, rfl, _, _, rfl, _, _, rfl, rfl, ?_⟩
    obtain ⟨b1, b2⟩ := bytes_of_all hb
    rw [show i + 2 + 1 = i + 3 by omega] at hr
    have hr' : H2 rw_ = some (.lst (nv (Sb16Neutral.nats ((l.drop (i + 3)).take m)))) := by rw [hr, zv_nats b1]
    have D2 := D.same s2
    obtain ⟨dd2, cv, cn, hd2⟩ := D2.ins
    refine ⟨_, rfl, d, dd2, _, rfl, hd2, df_not (by decide +kernel) (by decide +kernel) _ _, _, rfl, _, rfl, _, _, rfl, rfl, _, _, _, _, rfl, rfl, (sH.trans s2).seq ha, at_of (j := i + 1) (by omega) (zv_get h1), _, rfl,
      d, fo, s, n, rw_, Sb16Neutral.nats ((l.drop (i + 3)).take m), rfl, D2, ⟨_, s2 _ _ hfo⟩, hr', b2, by rw [nats_len, take_len h3]; exact hl, fun H3 q k3 f3 hq D3 => ?_⟩
    refine tail _ _ _ _ q H3 ?_ D3 ?_ hq ?_
    · exact fun x o ex => k3 x o (s2 x o (sH x o ex)) (ne_of_none ex fd)
    · exact k3 _ _ (s2 _ _ hfo) hfd
    · intro z
      rw [z, s2 _ _ hfo] at f3
      cases f3
  | check =>
    refine ifd (fun z => absurd z (by decide)) (fun _ => ?_)
    refine ⟨_, rfl, _, _, rfl, rfl, _, rfl, ?_⟩
    refine ifd (fun _ => ?_) (fun z => absurd rfl z)
    refine ⟨_, rfl, _, _, rfl, rfl, ?_⟩
    obtain ⟨dd2, cv, cn, hd2⟩ := D.ins
    refine ⟨_, rfl, d, dd2, _, rfl, hd2, df_not (by decide +kernel) (by decide +kernel) _ _, d, fo, s, rfl, D, fun H3 q s3 f3 hq => ?_⟩
    refine tail _ _ _ _ q H3 (sH.trans s3) ?_ (s3 _ _ hfo) hq ?_
    · rw [step_state_check]
      exact D.same s3
    · intro z
      rw [z, hfo] at f3
      cases f3
  | run n pc off m1 m2 h1 h2 h3 h4 h5 hr hW hb hl =>
    refine ifd (fun z => absurd z (by decide)) (fun _ => ?_)
    refine ⟨_, rfl, _, _, rfl, rfl, _, rfl, ?_⟩
    refine ifd (fun z => absurd z (by decide)) (fun _ => ?_)
    refine ⟨_, rfl, _, rfl, _, _, rfl, rfl, a, l, i + 4, m1, ?_, sH.seq ha, h2, by omega, fun H2 t rg s2 f2 hrg ht => ?_⟩
    · show [V.ref a, V.int ((i : Int) + 4)] = _
      rw [show (i : Int) + 4 = ((i + 4 : Nat) : Int) by omega]
    refine ⟨t, _, rfl, SqT.of ht, rfl, _, _, rfl, _, _, rfl, rfl, ?_⟩
    rw [show i + 4 + 1 = i + 5 by omega] at hrg ⊢
    refine ⟨_, rfl, _, rfl, a, l, i + 5 + m1, m2, rfl, (sH.trans s2).seq ha, h4, by omega, fun H3 t2 g s3 f3 hg ht2 => ?_⟩
    refine ⟨t2, _, rfl, SqT.of ht2, rfl, _, _, rfl, _, _, rfl, rfl, ?_⟩
    rw [show i + 5 + m1 + 1 = i + 6 + m1 by omega] at hg ⊢
    have s03 := (sH.trans s2).trans s3
    have D3 := (D.same s2).same s3
    obtain ⟨dd2, cv, cn, hd2⟩ := D3.ins
    refine ⟨_, rfl, d, dd2, _, rfl, hd2, df_not (by decide +kernel) (by decide +kernel) _ _, _, rfl, _, rfl, _, _, rfl, rfl, _, rfl, _, rfl, _, _, rfl, rfl, _, rfl, _, _, rfl, s03.seq ha, fun nb fnb => ?_⟩
    have e1 : (i : Int) + 1 = ((i + 1 : Nat) : Int) := by omega
    have e4 : (i : Int) + 4 = ((i + 4 : Nat) : Int) := by omega
    rw [e1, e4, cutV_nat, zv_cut, show i + 4 - (i + 1) = 3 by omega, h1]
    have s4 := Same.new (o := .lst (zv [n, (pc : Int), (off : Int)])) fnb
    obtain ⟨b1, b2⟩ := bytes_of_all hb
    have hrg' : H3 rg = some (.lst (nv (Sb16Neutral.nats ((l.drop (i + 5)).take m1)))) := by
      rw [s3 _ _ hrg, zv_nats fun x hx => (hW x hx).1]
    have hg' : H3 g = some (.lst (nv (Sb16Neutral.nats ((l.drop (i + 6 + m1)).take m2)))) := by
      rw [hg, zv_nats b1]
    refine ⟨_, rfl, _, rfl, d, fo, s, nb, rg, g, n, pc, off, Sb16Neutral.nats ((l.drop (i + 5)).take m1), Sb16Neutral.nats ((l.drop (i + 6 + m1)).take m2), rfl, D3.same s4, SqL.of upd_same, s4 _ _ hrg', s4 _ _ hg', ?_, ?_, b2, ?_, fun H5 q s5 f5 hq => ?_⟩
    · rw [nats_len, take_len h3]
      exact hr
    · intro x hx
      unfold Sb16Neutral.nats at hx
      obtain ⟨y, hy, rfl⟩ := List.mem_map.mp hx
      have := hW y hy
      rw [Wv]
      omega
    · rw [nats_len, take_len h5]
      exact hl
    rw [map_of_nats (fun x hx => (hW x hx).1), map_of_nats b1] at hq
    have hfo5 := s5 _ _ (s4 _ _ (s3 _ _ (s2 _ _ hfo)))
    refine tail _ _ _ _ q H5 ((s03.trans s4).trans s5) ?_ hfo5 hq ?_
    · rw [step_state_run]
      exact (D3.same s4).same s5
    · intro z
      rw [z, s4 _ _ (s3 _ _ (s2 _ _ hfo))] at f5
      cases f5
end
end Fm

namespace Fm
open PySem PySem.Spec PyProof.Rows L2
section
variable {P : Program} {w : World} {K : PySem.W.Frag} {mg : Str → Option Value} {base : Heap} {A : Ads}
theorem ok_number_at (T : Txt K mg A) {f : Addr} {fd : FuncData} (F : Fun K "number_at" "number_at" s_number_at f fd) : FnOk P w K mg base CX0 1 f fd ["code", "at", "many"] (sp_number_at K A) :=
  F.ok sc_number_at (fun vs H Q E h => len_number_at h) (fun cdv A0 outer s H vs Q E hr h => ⟨t_number_at K A, der_number_at T hr, pure_number_at T h⟩)
theorem ok_signed_at (T : Txt K mg A) (c_number_at : Callee P w K mg base 1 "number_at" ["code", "at", "many"] (sp_number_at K A)) {f : Addr} {fd : FuncData} (F : Fun K "signed_at" "signed_at" s_signed_at f fd) : FnOk P w K mg base CX0 2 f fd ["code", "at", "many"] (sp_signed_at K A) :=
  F.ok sc_signed_at (fun vs H Q E h => len_signed_at h) (fun cdv A0 outer s H vs Q E hr h => ⟨t_signed_at K A, der_signed_at T c_number_at hr, pure_signed_at T h⟩)
theorem ok_bytes_of (T : Txt K mg A) {f : Addr} {fd : FuncData} (F : Fun K "bytes_of" "bytes_of" s_bytes_of f fd) : FnOk P w K mg base CX0 1 f fd ["number", "many"] (sp_bytes_of K A) :=
  F.ok sc_bytes_of (fun vs H Q E h => len_bytes_of h) (fun cdv A0 outer s H vs Q E hr h => ⟨t_bytes_of K A, der_bytes_of T hr, pure_bytes_of T h⟩)
theorem ok_length_at (T : Txt K mg A) {f : Addr} {fd : FuncData} (F : Fun K "length_at" "length_at" s_length_at f fd) : FnOk P w K mg base CX0 1 f fd ["code", "at"] (sp_length_at K A) :=
  F.ok sc_length_at (fun vs H Q E h => len_length_at h) (fun cdv A0 outer s H vs Q E hr h => ⟨t_length_at K A, der_length_at T hr, pure_length_at T h⟩)
theorem ok_first_register (T : Txt K mg A) {f : Addr} {fd : FuncData} (F : Fun K "first_register" "first_register" s_first_register f fd) : FnOk P w K mg base CX0 1 f fd ["code", "at"] (sp_first_register K A) :=
  F.ok sc_first_register (fun vs H Q E h => len_first_register h) (fun cdv A0 outer s H vs Q E hr h => ⟨t_first_register K A, der_first_register T hr, pure_first_register T h⟩)
theorem ok_second_register (T : Txt K mg A) {f : Addr} {fd : FuncData} (F : Fun K "second_register" "second_register" s_second_register f fd) : FnOk P w K mg base CX0 1 f fd ["code", "at"] (sp_second_register K A) :=
  F.ok sc_second_register (fun vs H Q E h => len_second_register h) (fun cdv A0 outer s H vs Q E hr h => ⟨t_second_register K A, der_second_register T hr, pure_second_register T h⟩)
theorem ok_place_told (T : Txt K mg A) (c_signed_at : Callee P w K mg base 2 "signed_at" ["code", "at", "many"] (sp_signed_at K A)) {f : Addr} {fd : FuncData} (F : Fun K "place_told" "place_told" s_place_told f fd) : FnOk P w K mg base CX0 3 f fd ["code", "at"] (sp_place_told K A) :=
  F.ok sc_place_told (fun vs H Q E h => len_place_told h) (fun cdv A0 outer s H vs Q E hr h => ⟨t_place_told K A, der_place_told T c_signed_at hr, pure_place_told T h⟩)
theorem ok_whole_code (T : Txt K mg A) {f : Addr} {fd : FuncData} (F : Fun K "whole_code" "whole_code" s_whole_code f fd) : FnOk P w K mg base CX0 1 f fd ["code"] (sp_whole_code K A) :=
  F.ok sc_whole_code (fun vs H Q E h => len_whole_code h) (fun cdv A0 outer s H vs Q E hr h => ⟨t_whole_code K A, der_whole_code T hr, pure_whole_code T h⟩)
theorem ok_fault_at (T : Txt K mg A) (c_second_register : Callee P w K mg base 1 "second_register" ["code", "at"] (sp_second_register K A)) (c_first_register : Callee P w K mg base 1 "first_register" ["code", "at"] (sp_first_register K A)) (c_length_at : Callee P w K mg base 1 "length_at" ["code", "at"] (sp_length_at K A)) {f : Addr} {fd : FuncData} (F : Fun K "fault_at" "fault_at" s_fault_at f fd) : FnOk P w K mg base CX0 2 f fd ["whole", "at"] (sp_fault_at K A) :=
  F.ok sc_fault_at (fun vs H Q E h => len_fault_at h) (fun cdv A0 outer s H vs Q E hr h => ⟨t_fault_at K A, der_fault_at T c_second_register c_first_register c_length_at hr, pure_fault_at T h⟩)
theorem ok_beginnings (T : Txt K mg A) (c_length_at : Callee P w K mg base 1 "length_at" ["code", "at"] (sp_length_at K A)) (c_fault_at : Callee P w K mg base 2 "fault_at" ["whole", "at"] (sp_fault_at K A)) {f : Addr} {fd : FuncData} (F : Fun K "beginnings" "beginnings" s_beginnings f fd) : FnOk P w K mg base CX0 3 f fd ["whole", "many"] (sp_beginnings K A) :=
  F.ok sc_beginnings (fun vs H Q E h => len_beginnings h) (fun cdv A0 outer s H vs Q E hr h => ⟨t_beginnings K A, der_beginnings T c_length_at c_fault_at hr, pure_beginnings T h⟩)
theorem ok_looked_at (T : Txt K mg A) (c_place_told : Callee P w K mg base 3 "place_told" ["code", "at"] (sp_place_told K A)) (c_beginnings : Callee P w K mg base 3 "beginnings" ["whole", "many"] (sp_beginnings K A)) {f : Addr} {fd : FuncData} (F : Fun K "looked_at" "looked_at" s_looked_at f fd) : FnOk P w K mg base CX0 4 f fd ["whole", "many"] (sp_looked_at K A) :=
  F.ok sc_looked_at (fun vs H Q E h => len_looked_at h) (fun cdv A0 outer s H vs Q E hr h => ⟨t_looked_at K A, der_looked_at T c_place_told c_beginnings hr, pure_looked_at T h⟩)
theorem ok_mem_init (T : Txt K mg A) {f : Addr} {fd : FuncData} (F : Fun K "__init__" "Memory.__init__" s_mem_init f fd) : FnOk P w K mg base CX0 1 f fd ["self", "off", "given"] (sp_mem_init K A) :=
  F.ok sc_mem_init (fun vs H Q E h => len_mem_init h) (fun cdv A0 outer s H vs Q E hr h => ⟨t_mem_init K A, der_mem_init T hr, pure_mem_init T h⟩)
theorem ok_got (T : Txt K mg A) {f : Addr} {fd : FuncData} (F : Fun K "got" "Memory.got" s_got f fd) : FnOk P w K mg base CX0 1 f fd ["self", "place", "many"] (sp_got K A) :=
  F.ok sc_got (fun vs H Q E h => len_got h) (fun cdv A0 outer s H vs Q E hr h => ⟨t_got K A, der_got T hr, pure_got T h⟩)
theorem ok_put (T : Txt K mg A) {f : Addr} {fd : FuncData} (F : Fun K "put" "Memory.put" s_put f fd) : FnOk P w K mg base CX0 1 f fd ["self", "place", "given"] (sp_put K A) :=
  F.ok sc_put (fun vs H Q E h => len_put h) (fun cdv A0 outer s H vs Q E hr h => ⟨t_put K A, der_put T hr, pure_put T h⟩)
theorem ok_changed (T : Txt K mg A) {f : Addr} {fd : FuncData} (F : Fun K "changed" "Memory.changed" s_changed f fd) : FnOk P w K mg base CX0 1 f fd ["self"] (sp_changed K A) :=
  F.ok sc_changed (fun vs H Q E h => len_changed h) (fun cdv A0 outer s H vs Q E hr h => ⟨t_changed K A, der_changed T hr, pure_changed T h⟩)
theorem ok_fence (T : Txt K mg A) {f : Addr} {fd : FuncData} (F : Fun K "fence" "fence" s_fence f fd) : FnOk P w K mg base CX0 1 f fd ["address", "many"] (sp_fence K A) :=
  F.ok sc_fence (fun vs H Q E h => len_fence h) (fun cdv A0 outer s H vs Q E hr h => ⟨t_fence K A, der_fence T hr, pure_fence T h⟩)
theorem ok_reckoned (T : Txt K mg A) {f : Addr} {fd : FuncData} (F : Fun K "reckoned" "reckoned" s_reckoned f fd) : FnOk P w K mg base CX0 1 f fd ["kind", "one", "other"] (sp_reckoned K A) :=
  F.ok sc_reckoned (fun vs H Q E h => len_reckoned h) (fun cdv A0 outer s H vs Q E hr h => ⟨t_reckoned K A, der_reckoned T hr, pure_reckoned T h⟩)
theorem ok_mac_init (T : Txt K mg A) {f : Addr} {fd : FuncData} (F : Fun K "__init__" "Machine.__init__" s_mac_init f fd) : FnOk P w K mg base CX0 1 f fd ["self", "code", "place", "registers", "memory"] (sp_mac_init K A) :=
  F.ok sc_mac_init (fun vs H Q E h => len_mac_init h) (fun cdv A0 outer s H vs Q E hr h => ⟨t_mac_init K A, der_mac_init T hr, pure_mac_init T h⟩)
theorem ok_give (T : Txt K mg A) {f : Addr} {fd : FuncData} (F : Fun K "give" "Machine.give" s_give f fd) : FnOk P w K mg base CX0 1 f fd ["self", "which", "number"] (sp_give K A) :=
  F.ok sc_give (fun vs H Q E h => len_give h) (fun cdv A0 outer s H vs Q E hr h => ⟨t_give K A, der_give T hr, pure_give T h⟩)
theorem ok_go (T : Txt K mg A) {f : Addr} {fd : FuncData} (F : Fun K "go" "Machine.go" s_go f fd) : FnOk P w K mg base CX0 1 f fd ["self", "place"] (sp_go K A) :=
  F.ok sc_go (fun vs H Q E h => len_go h) (fun cdv A0 outer s H vs Q E hr h => ⟨t_go K A, der_go T hr, pure_go T h⟩)
theorem ok_reach (T : Txt K mg A) (c_go : Metd P w K mg base 1 A.mac "go" ["self", "place"] (sp_go K A)) (c_give : Metd P w K mg base 1 A.mac "give" ["self", "which", "number"] (sp_give K A)) (c_got : Metd P w K mg base 1 A.mem "got" ["self", "place", "many"] (sp_got K A)) (c_put : Metd P w K mg base 1 A.mem "put" ["self", "place", "given"] (sp_put K A)) (c_bytes_of : Callee P w K mg base 1 "bytes_of" ["number", "many"] (sp_bytes_of K A)) (c_fence : Callee P w K mg base 1 "fence" ["address", "many"] (sp_fence K A)) (c_second_register : Callee P w K mg base 1 "second_register" ["code", "at"] (sp_second_register K A)) (c_signed_at : Callee P w K mg base 2 "signed_at" ["code", "at", "many"] (sp_signed_at K A)) (c_first_register : Callee P w K mg base 1 "first_register" ["code", "at"] (sp_first_register K A)) {f : Addr} {fd : FuncData} (F : Fun K "reach" "Machine.reach" s_reach f fd) : FnOk P w K mg base CX0 3 f fd ["self", "kind", "long"] (sp_reach K A) :=
  F.ok sc_reach (fun vs H Q E h => len_reach h) (fun cdv A0 outer s H vs Q E hr h => ⟨t_reach K A, der_reach T c_go c_give c_got c_put c_bytes_of c_fence c_second_register c_signed_at c_first_register hr, pure_reach T h⟩)
theorem ok_turn (T : Txt K mg A) (c_go : Metd P w K mg base 1 A.mac "go" ["self", "place"] (sp_go K A)) (c_give : Metd P w K mg base 1 A.mac "give" ["self", "which", "number"] (sp_give K A)) (c_second_register : Callee P w K mg base 1 "second_register" ["code", "at"] (sp_second_register K A)) (c_first_register : Callee P w K mg base 1 "first_register" ["code", "at"] (sp_first_register K A)) (c_place_told : Callee P w K mg base 3 "place_told" ["code", "at"] (sp_place_told K A)) {f : Addr} {fd : FuncData} (F : Fun K "turn" "Machine.turn" s_turn f fd) : FnOk P w K mg base CX0 4 f fd ["self", "kind", "behind"] (sp_turn K A) :=
  F.ok sc_turn (fun vs H Q E h => len_turn h) (fun cdv A0 outer s H vs Q E hr h => ⟨t_turn K A, der_turn T c_go c_give c_second_register c_first_register c_place_told hr, pure_turn T h⟩)
theorem ok_keep (T : Txt K mg A) (c_give : Metd P w K mg base 1 A.mac "give" ["self", "which", "number"] (sp_give K A)) (c_first_register : Callee P w K mg base 1 "first_register" ["code", "at"] (sp_first_register K A)) {f : Addr} {fd : FuncData} (F : Fun K "keep" "Machine.keep" s_keep f fd) : FnOk P w K mg base CX0 2 f fd ["self", "kind"] (sp_keep K A) :=
  F.ok sc_keep (fun vs H Q E h => len_keep h) (fun cdv A0 outer s H vs Q E hr h => ⟨t_keep K A, der_keep T c_give c_first_register hr, pure_keep T h⟩)
theorem ok_reckon (T : Txt K mg A) (c_give : Metd P w K mg base 1 A.mac "give" ["self", "which", "number"] (sp_give K A)) (c_number_at : Callee P w K mg base 1 "number_at" ["code", "at", "many"] (sp_number_at K A)) (c_signed_at : Callee P w K mg base 2 "signed_at" ["code", "at", "many"] (sp_signed_at K A)) (c_reckoned : Callee P w K mg base 1 "reckoned" ["kind", "one", "other"] (sp_reckoned K A)) (c_second_register : Callee P w K mg base 1 "second_register" ["code", "at"] (sp_second_register K A)) (c_first_register : Callee P w K mg base 1 "first_register" ["code", "at"] (sp_first_register K A)) {f : Addr} {fd : FuncData} (F : Fun K "reckon" "Machine.reckon" s_reckon f fd) : FnOk P w K mg base CX0 3 f fd ["self", "kind"] (sp_reckon K A) :=
  F.ok sc_reckon (fun vs H Q E h => len_reckon h) (fun cdv A0 outer s H vs Q E hr h => ⟨t_reckon K A, der_reckon T c_give c_number_at c_signed_at c_reckoned c_second_register c_first_register hr, pure_reckon T h⟩)
theorem ok_step (T : Txt K mg A) (c_go : Metd P w K mg base 1 A.mac "go" ["self", "place"] (sp_go K A)) (c_keep : Metd P w K mg base 2 A.mac "keep" ["self", "kind"] (sp_keep K A)) (c_reckon : Metd P w K mg base 3 A.mac "reckon" ["self", "kind"] (sp_reckon K A)) (c_turn : Metd P w K mg base 4 A.mac "turn" ["self", "kind", "behind"] (sp_turn K A)) (c_reach : Metd P w K mg base 3 A.mac "reach" ["self", "kind", "long"] (sp_reach K A)) (c_length_at : Callee P w K mg base 1 "length_at" ["code", "at"] (sp_length_at K A)) {f : Addr} {fd : FuncData} (F : Fun K "step" "Machine.step" s_step f fd) : FnOk P w K mg base CX0 5 f fd ["self"] (sp_step K A) :=
  F.ok sc_step (fun vs H Q E h => len_step h) (fun cdv A0 outer s H vs Q E hr h => ⟨t_step K A, der_step T c_go c_keep c_reckon c_turn c_reach c_length_at hr, pure_step T h⟩)
theorem ok_run (T : Txt K mg A) (c_step : Metd P w K mg base 5 A.mac "step" ["self"] (sp_step K A)) {f : Addr} {fd : FuncData} (F : Fun K "run" "Machine.run" s_run f fd) : FnOk P w K mg base CX0 6 f fd ["self", "steps"] (sp_run K A) :=
  F.ok sc_run (fun vs H Q E h => len_run h) (fun cdv A0 outer s H vs Q E hr h => ⟨t_run K A, der_run T c_step hr, pure_run T h⟩)
theorem ok_dsk_init (T : Txt K mg A) {f : Addr} {fd : FuncData} (F : Fun K "__init__" "Desk.__init__" s_dsk_init f fd) : FnOk P w K mg base CX0 1 f fd ["self"] (sp_dsk_init K A) :=
  F.ok sc_dsk_init (fun vs H Q E h => len_dsk_init h) (fun cdv A0 outer s H vs Q E hr h => ⟨t_dsk_init K A, der_dsk_init T hr, pure_dsk_init T h⟩)
theorem ok_load (T : Txt K mg A) (c_whole_code : Callee P w K mg base 1 "whole_code" ["code"] (sp_whole_code K A)) {f : Addr} {fd : FuncData} (F : Fun K "load" "Desk.load" s_load f fd) : FnOk P w K mg base CX0 2 f fd ["self", "many", "code"] (sp_load K A) :=
  F.ok sc_load (fun vs H Q E h => len_load h) (fun cdv A0 outer s H vs Q E hr h => ⟨t_load K A, der_load T c_whole_code hr, pure_load T h⟩)
theorem ok_check (T : Txt K mg A) (c_looked_at : Callee P w K mg base 4 "looked_at" ["whole", "many"] (sp_looked_at K A)) {f : Addr} {fd : FuncData} (F : Fun K "check" "Desk.check" s_check f fd) : FnOk P w K mg base CX0 5 f fd ["self"] (sp_check K A) :=
  F.ok sc_check (fun vs H Q E h => len_check h) (fun cdv A0 outer s H vs Q E hr h => ⟨t_check K A, der_check T c_looked_at hr, pure_check T h⟩)
theorem ok_drun (T : Txt K mg A) (c_changed : Metd P w K mg base 1 A.mem "changed" ["self"] (sp_changed K A)) (c_run : Metd P w K mg base 6 A.mac "run" ["self", "steps"] (sp_run K A)) (c_mac_init : Maker P w K mg base 1 "Machine" A.mac ["self", "code", "place", "registers", "memory"] (sp_mac_init K A)) (c_mem_init : Maker P w K mg base 1 "Memory" A.mem ["self", "off", "given"] (sp_mem_init K A)) {f : Addr} {fd : FuncData} (F : Fun K "run" "Desk.run" s_drun f fd) : FnOk P w K mg base CX0 7 f fd ["self", "numbers", "registers", "given"] (sp_drun K A) :=
  F.ok sc_drun (fun vs H Q E h => len_drun h) (fun cdv A0 outer s H vs Q E hr h => ⟨t_drun K A, der_drun T c_changed c_run c_mac_init c_mem_init hr, pure_drun T h⟩)
theorem ok_row_at (T : Txt K mg A) {f : Addr} {fd : FuncData} (F : Fun K "row_at" "row_at" s_row_at f fd) : FnOk P w K mg base CX0 1 f fd ["calls", "at"] (sp_row_at K A) :=
  F.ok sc_row_at (fun vs H Q E h => len_row_at h) (fun cdv A0 outer s H vs Q E hr h => ⟨t_row_at K A, der_row_at T hr, pure_row_at T h⟩)
theorem ok_answers (T : Txt K mg A) (c_load : Metd P w K mg base 2 A.dsk "load" ["self", "many", "code"] (sp_load K A)) (c_row_at : Callee P w K mg base 1 "row_at" ["calls", "at"] (sp_row_at K A)) (c_check : Metd P w K mg base 5 A.dsk "check" ["self"] (sp_check K A)) (c_drun : Metd P w K mg base 7 A.dsk "run" ["self", "numbers", "registers", "given"] (sp_drun K A)) (c_dsk_init : Maker P w K mg base 1 "Desk" A.dsk ["self"] (sp_dsk_init K A)) {f : Addr} {fd : FuncData} (F : Fun K "answers" "answers" s_answers f fd) : FnOk P w K mg base CX0 8 f fd ["calls"] (sp_answers K A) :=
  F.ok sc_answers (fun vs H Q E h => len_answers h) (fun cdv A0 outer s H vs Q E hr h => ⟨t_answers K A, der_answers T c_load c_row_at c_check c_drun c_dsk_init hr, pure_answers T h⟩)
end
end Fm

namespace Fm
open PySem PySem.Spec PyProof.Rows L2
/-! the end: what the top has written, every address a letter (printed by gen2.py) -/
def spAns (K : PySem.W.Frag) : Sp := fun vs H Q _ => ∃ (a : Addr) (l : List Int), vs = [.ref a] ∧ SqL K H a (zv l) ∧ PySb16.answers_asked l = true ∧ ∀ H' p, H' p = some (.lst (zv (PySb16.answers l))) → Q (.ref p) H'
theorem all_mk {P : Program} {w : World} {K : PySem.W.Frag} {h : Heap} {mg : Str → Option Value} {fa : Addr} (X : K.In h) (G : h.Ns mainGlobals mg) (hfa : mg "answers" = some (.ref fa))
    {C_mem C_mac C_dsk le wi go se re ke fe : Addr}
    {t_WORD : Tok}
    {t_CODE : Tok}
    {t_REGISTERS : Tok}
    {t_BUNDLE : Tok}
    {t_BYTES : Tok}
    {t_FIRST : Tok}
    {t_BASE : Tok}
    {t_STOP : Tok}
    {t_ASKED : Tok}
    {t_NOWHERE : Tok}
    {t_NOT_ENDED : Tok}
    {t_WRONG : Tok}
    {t_NO_CODE : Tok}
    {t_MOST_LOADED : Tok}
    {t_MOST_STEPS : Tok}
    {t_LOAD : Tok}
    {t_CHECK : Tok}
    {le_es : Array DictEntry} {le_n : Nat}
    {wi_i : Array Value} {wi_n : Nat} {wi_d : Option Addr} {wi_s : Array (Option Value)}
    {go_i : Array Value} {go_n : Nat} {go_d : Option Addr} {go_s : Array (Option Value)}
    {se_i : Array Value} {se_n : Nat} {se_d : Option Addr} {se_s : Array (Option Value)}
    {re_i : Array Value} {re_n : Nat} {re_d : Option Addr} {re_s : Array (Option Value)}
    {ke_i : Array Value} {ke_n : Nat} {ke_d : Option Addr} {ke_s : Array (Option Value)}
    {fe_i : Array Value} {fe_n : Nat} {fe_d : Option Addr} {fe_s : Array (Option Value)}
    {f_number_at : Addr} {od_number_at an_number_at : Option Addr} {sl_number_at : Array (Option Value)} {oc_number_at kV_number_at dc_number_at pm_number_at cd_number_at ct_number_at : Value}
    {f_signed_at : Addr} {od_signed_at an_signed_at : Option Addr} {sl_signed_at : Array (Option Value)} {oc_signed_at kV_signed_at dc_signed_at pm_signed_at cd_signed_at ct_signed_at : Value}
    {f_bytes_of : Addr} {od_bytes_of an_bytes_of : Option Addr} {sl_bytes_of : Array (Option Value)} {oc_bytes_of kV_bytes_of dc_bytes_of pm_bytes_of cd_bytes_of ct_bytes_of : Value}
    {f_length_at : Addr} {od_length_at an_length_at : Option Addr} {sl_length_at : Array (Option Value)} {oc_length_at kV_length_at dc_length_at pm_length_at cd_length_at ct_length_at : Value}
    {f_first_register : Addr} {od_first_register an_first_register : Option Addr} {sl_first_register : Array (Option Value)} {oc_first_register kV_first_register dc_first_register pm_first_register cd_first_register ct_first_register : Value}
    {f_second_register : Addr} {od_second_register an_second_register : Option Addr} {sl_second_register : Array (Option Value)} {oc_second_register kV_second_register dc_second_register pm_second_register cd_second_register ct_second_register : Value}
    {f_place_told : Addr} {od_place_told an_place_told : Option Addr} {sl_place_told : Array (Option Value)} {oc_place_told kV_place_told dc_place_told pm_place_told cd_place_told ct_place_told : Value}
    {f_whole_code : Addr} {od_whole_code an_whole_code : Option Addr} {sl_whole_code : Array (Option Value)} {oc_whole_code kV_whole_code dc_whole_code pm_whole_code cd_whole_code ct_whole_code : Value}
    {f_fault_at : Addr} {od_fault_at an_fault_at : Option Addr} {sl_fault_at : Array (Option Value)} {oc_fault_at kV_fault_at dc_fault_at pm_fault_at cd_fault_at ct_fault_at : Value}
    {f_beginnings : Addr} {od_beginnings an_beginnings : Option Addr} {sl_beginnings : Array (Option Value)} {oc_beginnings kV_beginnings dc_beginnings pm_beginnings cd_beginnings ct_beginnings : Value}
    {f_looked_at : Addr} {od_looked_at an_looked_at : Option Addr} {sl_looked_at : Array (Option Value)} {oc_looked_at kV_looked_at dc_looked_at pm_looked_at cd_looked_at ct_looked_at : Value}
    {f_mem_init : Addr} {od_mem_init an_mem_init : Option Addr} {sl_mem_init : Array (Option Value)} {oc_mem_init kV_mem_init dc_mem_init pm_mem_init cd_mem_init ct_mem_init : Value}
    {f_got : Addr} {od_got an_got : Option Addr} {sl_got : Array (Option Value)} {oc_got kV_got dc_got pm_got cd_got ct_got : Value}
    {f_put : Addr} {od_put an_put : Option Addr} {sl_put : Array (Option Value)} {oc_put kV_put dc_put pm_put cd_put ct_put : Value}
    {f_changed : Addr} {od_changed an_changed : Option Addr} {sl_changed : Array (Option Value)} {oc_changed kV_changed dc_changed pm_changed cd_changed ct_changed : Value}
    {f_fence : Addr} {od_fence an_fence : Option Addr} {sl_fence : Array (Option Value)} {oc_fence kV_fence dc_fence pm_fence cd_fence ct_fence : Value}
    {f_reckoned : Addr} {od_reckoned an_reckoned : Option Addr} {sl_reckoned : Array (Option Value)} {oc_reckoned kV_reckoned dc_reckoned pm_reckoned cd_reckoned ct_reckoned : Value}
    {f_mac_init : Addr} {od_mac_init an_mac_init : Option Addr} {sl_mac_init : Array (Option Value)} {oc_mac_init kV_mac_init dc_mac_init pm_mac_init cd_mac_init ct_mac_init : Value}
    {f_give : Addr} {od_give an_give : Option Addr} {sl_give : Array (Option Value)} {oc_give kV_give dc_give pm_give cd_give ct_give : Value}
    {f_go : Addr} {od_go an_go : Option Addr} {sl_go : Array (Option Value)} {oc_go kV_go dc_go pm_go cd_go ct_go : Value}
    {f_reach : Addr} {od_reach an_reach : Option Addr} {sl_reach : Array (Option Value)} {oc_reach kV_reach dc_reach pm_reach cd_reach ct_reach : Value}
    {f_turn : Addr} {od_turn an_turn : Option Addr} {sl_turn : Array (Option Value)} {oc_turn kV_turn dc_turn pm_turn cd_turn ct_turn : Value}
    {f_keep : Addr} {od_keep an_keep : Option Addr} {sl_keep : Array (Option Value)} {oc_keep kV_keep dc_keep pm_keep cd_keep ct_keep : Value}
    {f_reckon : Addr} {od_reckon an_reckon : Option Addr} {sl_reckon : Array (Option Value)} {oc_reckon kV_reckon dc_reckon pm_reckon cd_reckon ct_reckon : Value}
    {f_step : Addr} {od_step an_step : Option Addr} {sl_step : Array (Option Value)} {oc_step kV_step dc_step pm_step cd_step ct_step : Value}
    {f_run : Addr} {od_run an_run : Option Addr} {sl_run : Array (Option Value)} {oc_run kV_run dc_run pm_run cd_run ct_run : Value}
    {f_dsk_init : Addr} {od_dsk_init an_dsk_init : Option Addr} {sl_dsk_init : Array (Option Value)} {oc_dsk_init kV_dsk_init dc_dsk_init pm_dsk_init cd_dsk_init ct_dsk_init : Value}
    {f_load : Addr} {od_load an_load : Option Addr} {sl_load : Array (Option Value)} {oc_load kV_load dc_load pm_load cd_load ct_load : Value}
    {f_check : Addr} {od_check an_check : Option Addr} {sl_check : Array (Option Value)} {oc_check kV_check dc_check pm_check cd_check ct_check : Value}
    {f_drun : Addr} {od_drun an_drun : Option Addr} {sl_drun : Array (Option Value)} {oc_drun kV_drun dc_drun pm_drun cd_drun ct_drun : Value}
    {f_row_at : Addr} {od_row_at an_row_at : Option Addr} {sl_row_at : Array (Option Value)} {oc_row_at kV_row_at dc_row_at pm_row_at cd_row_at ct_row_at : Value}
    {f_answers : Addr} {od_answers an_answers : Option Addr} {sl_answers : Array (Option Value)} {oc_answers kV_answers dc_answers pm_answers cd_answers ct_answers : Value}
    (a_mem : PySem.W.nsIn K mainGlobals "Memory" = some (some (.ref C_mem)))
    (pg_mem : PySem.W.plainGet K C_mem Str.empty = true)
    (hd_mem : PySem.W.hasDictIn K C_mem = true)
    (po_mem : PySem.W.plainOver K C_mem = true)
    (sa_mem : PySem.W.findIn K (.ref C_mem) "__setattr__" = some (some (.builtin "object.__setattr__")))
    (mk_mem : PySem.W.makesIn K C_mem = true)
    (kc_mem : PySem.W.keepIn K (.ref C_mem) = true)
    (n_mem_cells : PySem.W.findIn K (.ref C_mem) "cells" = some none)
    (n_mem_before : PySem.W.findIn K (.ref C_mem) "before" = some none)
    (a_mac : PySem.W.nsIn K mainGlobals "Machine" = some (some (.ref C_mac)))
    (pg_mac : PySem.W.plainGet K C_mac Str.empty = true)
    (hd_mac : PySem.W.hasDictIn K C_mac = true)
    (po_mac : PySem.W.plainOver K C_mac = true)
    (sa_mac : PySem.W.findIn K (.ref C_mac) "__setattr__" = some (some (.builtin "object.__setattr__")))
    (mk_mac : PySem.W.makesIn K C_mac = true)
    (kc_mac : PySem.W.keepIn K (.ref C_mac) = true)
    (n_mac_code : PySem.W.findIn K (.ref C_mac) "code" = some none)
    (n_mac_place : PySem.W.findIn K (.ref C_mac) "place" = some none)
    (n_mac_registers : PySem.W.findIn K (.ref C_mac) "registers" = some none)
    (n_mac_memory : PySem.W.findIn K (.ref C_mac) "memory" = some none)
    (a_dsk : PySem.W.nsIn K mainGlobals "Desk" = some (some (.ref C_dsk)))
    (pg_dsk : PySem.W.plainGet K C_dsk Str.empty = true)
    (hd_dsk : PySem.W.hasDictIn K C_dsk = true)
    (po_dsk : PySem.W.plainOver K C_dsk = true)
    (sa_dsk : PySem.W.findIn K (.ref C_dsk) "__setattr__" = some (some (.builtin "object.__setattr__")))
    (mk_dsk : PySem.W.makesIn K C_dsk = true)
    (kc_dsk : PySem.W.keepIn K (.ref C_dsk) = true)
    (n_dsk_code : PySem.W.findIn K (.ref C_dsk) "code" = some none)
    (n_dsk_many : PySem.W.findIn K (.ref C_dsk) "many" = some none)
    (g_WORD : PySem.W.nsIn K mainGlobals "WORD" = some (some (.int 18446744073709551616 t_WORD)))
    (g_CODE : PySem.W.nsIn K mainGlobals "CODE" = some (some (.int 65536 t_CODE)))
    (g_REGISTERS : PySem.W.nsIn K mainGlobals "REGISTERS" = some (some (.int 16 t_REGISTERS)))
    (g_BUNDLE : PySem.W.nsIn K mainGlobals "BUNDLE" = some (some (.int 32 t_BUNDLE)))
    (g_BYTES : PySem.W.nsIn K mainGlobals "BYTES" = some (some (.int 65536 t_BYTES)))
    (g_FIRST : PySem.W.nsIn K mainGlobals "FIRST" = some (some (.int 4294967296 t_FIRST)))
    (g_BASE : PySem.W.nsIn K mainGlobals "BASE" = some (some (.int 8589934592 t_BASE)))
    (g_STOP : PySem.W.nsIn K mainGlobals "STOP" = some (some (.int 0 t_STOP)))
    (g_ASKED : PySem.W.nsIn K mainGlobals "ASKED" = some (some (.int 1 t_ASKED)))
    (g_NOWHERE : PySem.W.nsIn K mainGlobals "NOWHERE" = some (some (.int 4 t_NOWHERE)))
    (g_NOT_ENDED : PySem.W.nsIn K mainGlobals "NOT_ENDED" = some (some (.int 5 t_NOT_ENDED)))
    (g_WRONG : PySem.W.nsIn K mainGlobals "WRONG" = some (some (.int (-1) t_WRONG)))
    (g_NO_CODE : PySem.W.nsIn K mainGlobals "NO_CODE" = some (some (.int (-2) t_NO_CODE)))
    (g_MOST_LOADED : PySem.W.nsIn K mainGlobals "MOST_LOADED" = some (some (.int 65504 t_MOST_LOADED)))
    (g_MOST_STEPS : PySem.W.nsIn K mainGlobals "MOST_STEPS" = some (some (.int 16777216 t_MOST_STEPS)))
    (g_LOAD : PySem.W.nsIn K mainGlobals "LOAD" = some (some (.int 0 t_LOAD)))
    (g_CHECK : PySem.W.nsIn K mainGlobals "CHECK" = some (some (.int 1 t_CHECK)))
    (g_LENGTHS : PySem.W.nsIn K mainGlobals "LENGTHS" = some (some (.ref le)))
    (l_LENGTHS : K.lookup le = some ⟨.type "dict", none, .dict le_es le_n, #[]⟩)
    (s_LENGTHS : (le == sysModules) = false)
    (e_LENGTHS : IEnts le_es.toList LENZ)
    (g_WITH_ONE : PySem.W.nsIn K mainGlobals "WITH_ONE" = some (some (.ref wi)))
    (l_WITH_ONE : K.lookup wi = some ⟨.type "tuple", wi_d, .seq wi_i wi_n, wi_s⟩)
    (v_WITH_ONE : Vals (([2, 12, 24, 25, 26, 34] : List Int).map V.int) wi_i.toList)
    (z_WITH_ONE : wi_i.size ≤ 16)
    (g_GOES_ON : PySem.W.nsIn K mainGlobals "GOES_ON" = some (some (.ref go)))
    (l_GOES_ON : K.lookup go = some ⟨.type "tuple", go_d, .seq go_i go_n, go_s⟩)
    (v_GOES_ON : Vals (([33, 34, 35, 36] : List Int).map V.int) go_i.toList)
    (z_GOES_ON : go_i.size ≤ 16)
    (g_SETS : PySem.W.nsIn K mainGlobals "SETS" = some (some (.ref se)))
    (l_SETS : K.lookup se = some ⟨.type "tuple", se_d, .seq se_i se_n, se_s⟩)
    (v_SETS : Vals (([2, 3, 4, 5, 6, 7, 8, 9, 10, 11, 12, 16, 17] : List Int).map V.int) se_i.toList)
    (z_SETS : se_i.size ≤ 16)
    (g_REACHES : PySem.W.nsIn K mainGlobals "REACHES" = some (some (.ref re)))
    (l_REACHES : K.lookup re = some ⟨.type "tuple", re_d, .seq re_i re_n, re_s⟩)
    (v_REACHES : Vals (([16, 17, 18, 19] : List Int).map V.int) re_i.toList)
    (z_REACHES : re_i.size ≤ 16)
    (g_KEPT : PySem.W.nsIn K mainGlobals "KEPT" = some (some (.ref ke)))
    (l_KEPT : K.lookup ke = some ⟨.type "tuple", ke_d, .seq ke_i ke_n, ke_s⟩)
    (v_KEPT : Vals (([13, 14, 15] : List Int).map V.int) ke_i.toList)
    (z_KEPT : ke_i.size ≤ 16)
    (g_FENCED : PySem.W.nsIn K mainGlobals "FENCED" = some (some (.ref fe)))
    (l_FENCED : K.lookup fe = some ⟨.type "tuple", fe_d, .seq fe_i fe_n, fe_s⟩)
    (v_FENCED : Vals (([13, 15] : List Int).map V.int) fe_i.toList)
    (z_FENCED : fe_i.size ≤ 16)
    (f_len : PySem.W.nsIn K mainGlobals "len" = some none)
    (f_list : PySem.W.nsIn K mainGlobals "list" = some none)
    (f_sorted : PySem.W.nsIn K mainGlobals "sorted" = some none)
    (f_range : PySem.W.nsIn K mainGlobals "range" = some none)
    (f_reversed : PySem.W.nsIn K mainGlobals "reversed" = some none)
    (f_enumerate : PySem.W.nsIn K mainGlobals "enumerate" = some none)
    (a_number_at : PySem.W.nsIn K mainGlobals "number_at" = some (some (.ref f_number_at)))
    (l_number_at : K.lookup f_number_at = some ⟨oc_number_at, od_number_at, .func (PySem.W.fnOf "number_at" "number_at" (defArgs s_number_at) (defBody s_number_at) (defScope s_number_at) .none kV_number_at dc_number_at pm_number_at an_number_at cd_number_at ct_number_at), sl_number_at⟩)
    (c_number_at : PySem.W.codeIn K cd_number_at "number_at" = true)
    (k_number_at : PySem.W.keepIn K (.ref f_number_at) = true)
    (a_signed_at : PySem.W.nsIn K mainGlobals "signed_at" = some (some (.ref f_signed_at)))
    (l_signed_at : K.lookup f_signed_at = some ⟨oc_signed_at, od_signed_at, .func (PySem.W.fnOf "signed_at" "signed_at" (defArgs s_signed_at) (defBody s_signed_at) (defScope s_signed_at) .none kV_signed_at dc_signed_at pm_signed_at an_signed_at cd_signed_at ct_signed_at), sl_signed_at⟩)
    (c_signed_at : PySem.W.codeIn K cd_signed_at "signed_at" = true)
    (k_signed_at : PySem.W.keepIn K (.ref f_signed_at) = true)
    (a_bytes_of : PySem.W.nsIn K mainGlobals "bytes_of" = some (some (.ref f_bytes_of)))
    (l_bytes_of : K.lookup f_bytes_of = some ⟨oc_bytes_of, od_bytes_of, .func (PySem.W.fnOf "bytes_of" "bytes_of" (defArgs s_bytes_of) (defBody s_bytes_of) (defScope s_bytes_of) .none kV_bytes_of dc_bytes_of pm_bytes_of an_bytes_of cd_bytes_of ct_bytes_of), sl_bytes_of⟩)
    (c_bytes_of : PySem.W.codeIn K cd_bytes_of "bytes_of" = true)
    (k_bytes_of : PySem.W.keepIn K (.ref f_bytes_of) = true)
    (a_length_at : PySem.W.nsIn K mainGlobals "length_at" = some (some (.ref f_length_at)))
    (l_length_at : K.lookup f_length_at = some ⟨oc_length_at, od_length_at, .func (PySem.W.fnOf "length_at" "length_at" (defArgs s_length_at) (defBody s_length_at) (defScope s_length_at) .none kV_length_at dc_length_at pm_length_at an_length_at cd_length_at ct_length_at), sl_length_at⟩)
    (c_length_at : PySem.W.codeIn K cd_length_at "length_at" = true)
    (k_length_at : PySem.W.keepIn K (.ref f_length_at) = true)
    (a_first_register : PySem.W.nsIn K mainGlobals "first_register" = some (some (.ref f_first_register)))
    (l_first_register : K.lookup f_first_register = some ⟨oc_first_register, od_first_register, .func (PySem.W.fnOf "first_register" "first_register" (defArgs s_first_register) (defBody s_first_register) (defScope s_first_register) .none kV_first_register dc_first_register pm_first_register an_first_register cd_first_register ct_first_register), sl_first_register⟩)
    (c_first_register : PySem.W.codeIn K cd_first_register "first_register" = true)
    (k_first_register : PySem.W.keepIn K (.ref f_first_register) = true)
    (a_second_register : PySem.W.nsIn K mainGlobals "second_register" = some (some (.ref f_second_register)))
    (l_second_register : K.lookup f_second_register = some ⟨oc_second_register, od_second_register, .func (PySem.W.fnOf "second_register" "second_register" (defArgs s_second_register) (defBody s_second_register) (defScope s_second_register) .none kV_second_register dc_second_register pm_second_register an_second_register cd_second_register ct_second_register), sl_second_register⟩)
    (c_second_register : PySem.W.codeIn K cd_second_register "second_register" = true)
    (k_second_register : PySem.W.keepIn K (.ref f_second_register) = true)
    (a_place_told : PySem.W.nsIn K mainGlobals "place_told" = some (some (.ref f_place_told)))
    (l_place_told : K.lookup f_place_told = some ⟨oc_place_told, od_place_told, .func (PySem.W.fnOf "place_told" "place_told" (defArgs s_place_told) (defBody s_place_told) (defScope s_place_told) .none kV_place_told dc_place_told pm_place_told an_place_told cd_place_told ct_place_told), sl_place_told⟩)
    (c_place_told : PySem.W.codeIn K cd_place_told "place_told" = true)
    (k_place_told : PySem.W.keepIn K (.ref f_place_told) = true)
    (a_whole_code : PySem.W.nsIn K mainGlobals "whole_code" = some (some (.ref f_whole_code)))
    (l_whole_code : K.lookup f_whole_code = some ⟨oc_whole_code, od_whole_code, .func (PySem.W.fnOf "whole_code" "whole_code" (defArgs s_whole_code) (defBody s_whole_code) (defScope s_whole_code) .none kV_whole_code dc_whole_code pm_whole_code an_whole_code cd_whole_code ct_whole_code), sl_whole_code⟩)
    (c_whole_code : PySem.W.codeIn K cd_whole_code "whole_code" = true)
    (k_whole_code : PySem.W.keepIn K (.ref f_whole_code) = true)
    (a_fault_at : PySem.W.nsIn K mainGlobals "fault_at" = some (some (.ref f_fault_at)))
    (l_fault_at : K.lookup f_fault_at = some ⟨oc_fault_at, od_fault_at, .func (PySem.W.fnOf "fault_at" "fault_at" (defArgs s_fault_at) (defBody s_fault_at) (defScope s_fault_at) .none kV_fault_at dc_fault_at pm_fault_at an_fault_at cd_fault_at ct_fault_at), sl_fault_at⟩)
    (c_fault_at : PySem.W.codeIn K cd_fault_at "fault_at" = true)
    (k_fault_at : PySem.W.keepIn K (.ref f_fault_at) = true)
    (a_beginnings : PySem.W.nsIn K mainGlobals "beginnings" = some (some (.ref f_beginnings)))
    (l_beginnings : K.lookup f_beginnings = some ⟨oc_beginnings, od_beginnings, .func (PySem.W.fnOf "beginnings" "beginnings" (defArgs s_beginnings) (defBody s_beginnings) (defScope s_beginnings) .none kV_beginnings dc_beginnings pm_beginnings an_beginnings cd_beginnings ct_beginnings), sl_beginnings⟩)
    (c_beginnings : PySem.W.codeIn K cd_beginnings "beginnings" = true)
    (k_beginnings : PySem.W.keepIn K (.ref f_beginnings) = true)
    (a_looked_at : PySem.W.nsIn K mainGlobals "looked_at" = some (some (.ref f_looked_at)))
    (l_looked_at : K.lookup f_looked_at = some ⟨oc_looked_at, od_looked_at, .func (PySem.W.fnOf "looked_at" "looked_at" (defArgs s_looked_at) (defBody s_looked_at) (defScope s_looked_at) .none kV_looked_at dc_looked_at pm_looked_at an_looked_at cd_looked_at ct_looked_at), sl_looked_at⟩)
    (c_looked_at : PySem.W.codeIn K cd_looked_at "looked_at" = true)
    (k_looked_at : PySem.W.keepIn K (.ref f_looked_at) = true)
    (a_mem_init : PySem.W.findIn K (.ref C_mem) "__init__" = some (some (.ref f_mem_init)))
    (i_mem_init : PySem.W.isFn K (.ref f_mem_init) = true)
    (l_mem_init : K.lookup f_mem_init = some ⟨oc_mem_init, od_mem_init, .func (PySem.W.fnOf "__init__" "Memory.__init__" (defArgs s_mem_init) (defBody s_mem_init) (defScope s_mem_init) .none kV_mem_init dc_mem_init pm_mem_init an_mem_init cd_mem_init ct_mem_init), sl_mem_init⟩)
    (c_mem_init : PySem.W.codeIn K cd_mem_init "Memory.__init__" = true)
    (k_mem_init : PySem.W.keepIn K (.ref f_mem_init) = true)
    (a_got : PySem.W.findIn K (.ref C_mem) "got" = some (some (.ref f_got)))
    (i_got : PySem.W.isFn K (.ref f_got) = true)
    (l_got : K.lookup f_got = some ⟨oc_got, od_got, .func (PySem.W.fnOf "got" "Memory.got" (defArgs s_got) (defBody s_got) (defScope s_got) .none kV_got dc_got pm_got an_got cd_got ct_got), sl_got⟩)
    (c_got : PySem.W.codeIn K cd_got "Memory.got" = true)
    (k_got : PySem.W.keepIn K (.ref f_got) = true)
    (a_put : PySem.W.findIn K (.ref C_mem) "put" = some (some (.ref f_put)))
    (i_put : PySem.W.isFn K (.ref f_put) = true)
    (l_put : K.lookup f_put = some ⟨oc_put, od_put, .func (PySem.W.fnOf "put" "Memory.put" (defArgs s_put) (defBody s_put) (defScope s_put) .none kV_put dc_put pm_put an_put cd_put ct_put), sl_put⟩)
    (c_put : PySem.W.codeIn K cd_put "Memory.put" = true)
    (k_put : PySem.W.keepIn K (.ref f_put) = true)
    (a_changed : PySem.W.findIn K (.ref C_mem) "changed" = some (some (.ref f_changed)))
    (i_changed : PySem.W.isFn K (.ref f_changed) = true)
    (l_changed : K.lookup f_changed = some ⟨oc_changed, od_changed, .func (PySem.W.fnOf "changed" "Memory.changed" (defArgs s_changed) (defBody s_changed) (defScope s_changed) .none kV_changed dc_changed pm_changed an_changed cd_changed ct_changed), sl_changed⟩)
    (c_changed : PySem.W.codeIn K cd_changed "Memory.changed" = true)
    (k_changed : PySem.W.keepIn K (.ref f_changed) = true)
    (a_fence : PySem.W.nsIn K mainGlobals "fence" = some (some (.ref f_fence)))
    (l_fence : K.lookup f_fence = some ⟨oc_fence, od_fence, .func (PySem.W.fnOf "fence" "fence" (defArgs s_fence) (defBody s_fence) (defScope s_fence) .none kV_fence dc_fence pm_fence an_fence cd_fence ct_fence), sl_fence⟩)
    (c_fence : PySem.W.codeIn K cd_fence "fence" = true)
    (k_fence : PySem.W.keepIn K (.ref f_fence) = true)
    (a_reckoned : PySem.W.nsIn K mainGlobals "reckoned" = some (some (.ref f_reckoned)))
    (l_reckoned : K.lookup f_reckoned = some ⟨oc_reckoned, od_reckoned, .func (PySem.W.fnOf "reckoned" "reckoned" (defArgs s_reckoned) (defBody s_reckoned) (defScope s_reckoned) .none kV_reckoned dc_reckoned pm_reckoned an_reckoned cd_reckoned ct_reckoned), sl_reckoned⟩)
    (c_reckoned : PySem.W.codeIn K cd_reckoned "reckoned" = true)
    (k_reckoned : PySem.W.keepIn K (.ref f_reckoned) = true)
    (a_mac_init : PySem.W.findIn K (.ref C_mac) "__init__" = some (some (.ref f_mac_init)))
    (i_mac_init : PySem.W.isFn K (.ref f_mac_init) = true)
    (l_mac_init : K.lookup f_mac_init = some ⟨oc_mac_init, od_mac_init, .func (PySem.W.fnOf "__init__" "Machine.__init__" (defArgs s_mac_init) (defBody s_mac_init) (defScope s_mac_init) .none kV_mac_init dc_mac_init pm_mac_init an_mac_init cd_mac_init ct_mac_init), sl_mac_init⟩)
    (c_mac_init : PySem.W.codeIn K cd_mac_init "Machine.__init__" = true)
    (k_mac_init : PySem.W.keepIn K (.ref f_mac_init) = true)
    (a_give : PySem.W.findIn K (.ref C_mac) "give" = some (some (.ref f_give)))
    (i_give : PySem.W.isFn K (.ref f_give) = true)
    (l_give : K.lookup f_give = some ⟨oc_give, od_give, .func (PySem.W.fnOf "give" "Machine.give" (defArgs s_give) (defBody s_give) (defScope s_give) .none kV_give dc_give pm_give an_give cd_give ct_give), sl_give⟩)
    (c_give : PySem.W.codeIn K cd_give "Machine.give" = true)
    (k_give : PySem.W.keepIn K (.ref f_give) = true)
    (a_go : PySem.W.findIn K (.ref C_mac) "go" = some (some (.ref f_go)))
    (i_go : PySem.W.isFn K (.ref f_go) = true)
    (l_go : K.lookup f_go = some ⟨oc_go, od_go, .func (PySem.W.fnOf "go" "Machine.go" (defArgs s_go) (defBody s_go) (defScope s_go) .none kV_go dc_go pm_go an_go cd_go ct_go), sl_go⟩)
    (c_go : PySem.W.codeIn K cd_go "Machine.go" = true)
    (k_go : PySem.W.keepIn K (.ref f_go) = true)
    (a_reach : PySem.W.findIn K (.ref C_mac) "reach" = some (some (.ref f_reach)))
    (i_reach : PySem.W.isFn K (.ref f_reach) = true)
    (l_reach : K.lookup f_reach = some ⟨oc_reach, od_reach, .func (PySem.W.fnOf "reach" "Machine.reach" (defArgs s_reach) (defBody s_reach) (defScope s_reach) .none kV_reach dc_reach pm_reach an_reach cd_reach ct_reach), sl_reach⟩)
    (c_reach : PySem.W.codeIn K cd_reach "Machine.reach" = true)
    (k_reach : PySem.W.keepIn K (.ref f_reach) = true)
    (a_turn : PySem.W.findIn K (.ref C_mac) "turn" = some (some (.ref f_turn)))
    (i_turn : PySem.W.isFn K (.ref f_turn) = true)
    (l_turn : K.lookup f_turn = some ⟨oc_turn, od_turn, .func (PySem.W.fnOf "turn" "Machine.turn" (defArgs s_turn) (defBody s_turn) (defScope s_turn) .none kV_turn dc_turn pm_turn an_turn cd_turn ct_turn), sl_turn⟩)
    (c_turn : PySem.W.codeIn K cd_turn "Machine.turn" = true)
    (k_turn : PySem.W.keepIn K (.ref f_turn) = true)
    (a_keep : PySem.W.findIn K (.ref C_mac) "keep" = some (some (.ref f_keep)))
    (i_keep : PySem.W.isFn K (.ref f_keep) = true)
    (l_keep : K.lookup f_keep = some ⟨oc_keep, od_keep, .func (PySem.W.fnOf "keep" "Machine.keep" (defArgs s_keep) (defBody s_keep) (defScope s_keep) .none kV_keep dc_keep pm_keep an_keep cd_keep ct_keep), sl_keep⟩)
    (c_keep : PySem.W.codeIn K cd_keep "Machine.keep" = true)
    (k_keep : PySem.W.keepIn K (.ref f_keep) = true)
    (a_reckon : PySem.W.findIn K (.ref C_mac) "reckon" = some (some (.ref f_reckon)))
    (i_reckon : PySem.W.isFn K (.ref f_reckon) = true)
    (l_reckon : K.lookup f_reckon = some ⟨oc_reckon, od_reckon, .func (PySem.W.fnOf "reckon" "Machine.reckon" (defArgs s_reckon) (defBody s_reckon) (defScope s_reckon) .none kV_reckon dc_reckon pm_reckon an_reckon cd_reckon ct_reckon), sl_reckon⟩)
    (c_reckon : PySem.W.codeIn K cd_reckon "Machine.reckon" = true)
    (k_reckon : PySem.W.keepIn K (.ref f_reckon) = true)
    (a_step : PySem.W.findIn K (.ref C_mac) "step" = some (some (.ref f_step)))
    (i_step : PySem.W.isFn K (.ref f_step) = true)
    (l_step : K.lookup f_step = some ⟨oc_step, od_step, .func (PySem.W.fnOf "step" "Machine.step" (defArgs s_step) (defBody s_step) (defScope s_step) .none kV_step dc_step pm_step an_step cd_step ct_step), sl_step⟩)
    (c_step : PySem.W.codeIn K cd_step "Machine.step" = true)
    (k_step : PySem.W.keepIn K (.ref f_step) = true)
    (a_run : PySem.W.findIn K (.ref C_mac) "run" = some (some (.ref f_run)))
    (i_run : PySem.W.isFn K (.ref f_run) = true)
    (l_run : K.lookup f_run = some ⟨oc_run, od_run, .func (PySem.W.fnOf "run" "Machine.run" (defArgs s_run) (defBody s_run) (defScope s_run) .none kV_run dc_run pm_run an_run cd_run ct_run), sl_run⟩)
    (c_run : PySem.W.codeIn K cd_run "Machine.run" = true)
    (k_run : PySem.W.keepIn K (.ref f_run) = true)
    (a_dsk_init : PySem.W.findIn K (.ref C_dsk) "__init__" = some (some (.ref f_dsk_init)))
    (i_dsk_init : PySem.W.isFn K (.ref f_dsk_init) = true)
    (l_dsk_init : K.lookup f_dsk_init = some ⟨oc_dsk_init, od_dsk_init, .func (PySem.W.fnOf "__init__" "Desk.__init__" (defArgs s_dsk_init) (defBody s_dsk_init) (defScope s_dsk_init) .none kV_dsk_init dc_dsk_init pm_dsk_init an_dsk_init cd_dsk_init ct_dsk_init), sl_dsk_init⟩)
    (c_dsk_init : PySem.W.codeIn K cd_dsk_init "Desk.__init__" = true)
    (k_dsk_init : PySem.W.keepIn K (.ref f_dsk_init) = true)
    (a_load : PySem.W.findIn K (.ref C_dsk) "load" = some (some (.ref f_load)))
    (i_load : PySem.W.isFn K (.ref f_load) = true)
    (l_load : K.lookup f_load = some ⟨oc_load, od_load, .func (PySem.W.fnOf "load" "Desk.load" (defArgs s_load) (defBody s_load) (defScope s_load) .none kV_load dc_load pm_load an_load cd_load ct_load), sl_load⟩)
    (c_load : PySem.W.codeIn K cd_load "Desk.load" = true)
    (k_load : PySem.W.keepIn K (.ref f_load) = true)
    (a_check : PySem.W.findIn K (.ref C_dsk) "check" = some (some (.ref f_check)))
    (i_check : PySem.W.isFn K (.ref f_check) = true)
    (l_check : K.lookup f_check = some ⟨oc_check, od_check, .func (PySem.W.fnOf "check" "Desk.check" (defArgs s_check) (defBody s_check) (defScope s_check) .none kV_check dc_check pm_check an_check cd_check ct_check), sl_check⟩)
    (c_check : PySem.W.codeIn K cd_check "Desk.check" = true)
    (k_check : PySem.W.keepIn K (.ref f_check) = true)
    (a_drun : PySem.W.findIn K (.ref C_dsk) "run" = some (some (.ref f_drun)))
    (i_drun : PySem.W.isFn K (.ref f_drun) = true)
    (l_drun : K.lookup f_drun = some ⟨oc_drun, od_drun, .func (PySem.W.fnOf "run" "Desk.run" (defArgs s_drun) (defBody s_drun) (defScope s_drun) .none kV_drun dc_drun pm_drun an_drun cd_drun ct_drun), sl_drun⟩)
    (c_drun : PySem.W.codeIn K cd_drun "Desk.run" = true)
    (k_drun : PySem.W.keepIn K (.ref f_drun) = true)
    (a_row_at : PySem.W.nsIn K mainGlobals "row_at" = some (some (.ref f_row_at)))
    (l_row_at : K.lookup f_row_at = some ⟨oc_row_at, od_row_at, .func (PySem.W.fnOf "row_at" "row_at" (defArgs s_row_at) (defBody s_row_at) (defScope s_row_at) .none kV_row_at dc_row_at pm_row_at an_row_at cd_row_at ct_row_at), sl_row_at⟩)
    (c_row_at : PySem.W.codeIn K cd_row_at "row_at" = true)
    (k_row_at : PySem.W.keepIn K (.ref f_row_at) = true)
    (a_answers : PySem.W.nsIn K mainGlobals "answers" = some (some (.ref f_answers)))
    (l_answers : K.lookup f_answers = some ⟨oc_answers, od_answers, .func (PySem.W.fnOf "answers" "answers" (defArgs s_answers) (defBody s_answers) (defScope s_answers) .none kV_answers dc_answers pm_answers an_answers cd_answers ct_answers), sl_answers⟩)
    (c_answers : PySem.W.codeIn K cd_answers "answers" = true)
    (k_answers : PySem.W.keepIn K (.ref f_answers) = true) :
    ∃ fd : FuncData, (∀ (s : Shared) (us : List Value), us.length = (["calls"] : List Str).length → BindsTo s fd ⟨us, []⟩ ((["calls"] : List Str).zip us)) ∧ ∀ base : Heap, K.In base → base.Ns mainGlobals mg → FnOk P w K mg base CX0 8 fa fd ["calls"] (spAns K) := by
  have e := hfa.symm.trans (PySem.W.mg_of X G a_answers)
  cases e
  have T : Txt K mg ⟨C_mem, C_mac, C_dsk, le, wi, go, se, re, ke, fe⟩ := ⟨⟨pg_mem, hd_mem, po_mem, sa_mem⟩,
    ⟨pg_mac, hd_mac, po_mac, sa_mac⟩,
    ⟨pg_dsk, hd_dsk, po_dsk, sa_dsk⟩,
    n_mem_cells,
    n_mem_before,
    n_mac_code,
    n_mac_place,
    n_mac_registers,
    n_mac_memory,
    n_dsk_code,
    n_dsk_many,
    ⟨_, PySem.W.mg_of X G g_WORD, ⟨_, rfl⟩⟩,
    ⟨_, PySem.W.mg_of X G g_CODE, ⟨_, rfl⟩⟩,
    ⟨_, PySem.W.mg_of X G g_REGISTERS, ⟨_, rfl⟩⟩,
    ⟨_, PySem.W.mg_of X G g_BUNDLE, ⟨_, rfl⟩⟩,
    ⟨_, PySem.W.mg_of X G g_BYTES, ⟨_, rfl⟩⟩,
    ⟨_, PySem.W.mg_of X G g_FIRST, ⟨_, rfl⟩⟩,
    ⟨_, PySem.W.mg_of X G g_BASE, ⟨_, rfl⟩⟩,
    ⟨_, PySem.W.mg_of X G g_STOP, ⟨_, rfl⟩⟩,
    ⟨_, PySem.W.mg_of X G g_ASKED, ⟨_, rfl⟩⟩,
    ⟨_, PySem.W.mg_of X G g_NOWHERE, ⟨_, rfl⟩⟩,
    ⟨_, PySem.W.mg_of X G g_NOT_ENDED, ⟨_, rfl⟩⟩,
    ⟨_, PySem.W.mg_of X G g_WRONG, ⟨_, rfl⟩⟩,
    ⟨_, PySem.W.mg_of X G g_NO_CODE, ⟨_, rfl⟩⟩,
    ⟨_, PySem.W.mg_of X G g_MOST_LOADED, ⟨_, rfl⟩⟩,
    ⟨_, PySem.W.mg_of X G g_MOST_STEPS, ⟨_, rfl⟩⟩,
    ⟨_, PySem.W.mg_of X G g_LOAD, ⟨_, rfl⟩⟩,
    ⟨_, PySem.W.mg_of X G g_CHECK, ⟨_, rfl⟩⟩,
    ⟨_, PySem.W.mg_of X G g_LENGTHS, rfl⟩,
    ⟨s_LENGTHS, _, _, l_LENGTHS, e_LENGTHS⟩,
    ⟨_, PySem.W.mg_of X G g_WITH_ONE, rfl⟩,
    ⟨_, PySem.W.mg_of X G g_GOES_ON, rfl⟩,
    ⟨_, PySem.W.mg_of X G g_SETS, rfl⟩,
    ⟨_, PySem.W.mg_of X G g_REACHES, rfl⟩,
    ⟨_, PySem.W.mg_of X G g_KEPT, rfl⟩,
    ⟨_, PySem.W.mg_of X G g_FENCED, rfl⟩,
    fun _ => .inr ⟨_, _, _, l_WITH_ONE, rfl, rfl, Nat.le_trans z_WITH_ONE (by decide), v_WITH_ONE⟩,
    fun _ => .inr ⟨_, _, _, l_GOES_ON, rfl, rfl, Nat.le_trans z_GOES_ON (by decide), v_GOES_ON⟩,
    fun _ => .inr ⟨_, _, _, l_SETS, rfl, rfl, Nat.le_trans z_SETS (by decide), v_SETS⟩,
    fun _ => .inr ⟨_, _, _, l_REACHES, rfl, rfl, Nat.le_trans z_REACHES (by decide), v_REACHES⟩,
    fun _ => .inr ⟨_, _, _, l_KEPT, rfl, rfl, Nat.le_trans z_KEPT (by decide), v_KEPT⟩,
    fun _ => .inr ⟨_, _, _, l_FENCED, rfl, rfl, Nat.le_trans z_FENCED (by decide), v_FENCED⟩,
    PySem.W.mg_none_of X G f_len,
    PySem.W.mg_none_of X G f_list,
    PySem.W.mg_none_of X G f_sorted,
    PySem.W.mg_none_of X G f_range,
    PySem.W.mg_none_of X G f_reversed,
    PySem.W.mg_none_of X G f_enumerate⟩
  have F_number_at := fun_mk (st := s_number_at) l_number_at c_number_at k_number_at
  have b_number_at := F_number_at.binds (ps := ["code", "at", "many"]) fun _ _ _ _ _ _ us hl => match us, hl with | [_, _, _], _ => rfl
  have F_signed_at := fun_mk (st := s_signed_at) l_signed_at c_signed_at k_signed_at
  have b_signed_at := F_signed_at.binds (ps := ["code", "at", "many"]) fun _ _ _ _ _ _ us hl => match us, hl with | [_, _, _], _ => rfl
  have F_bytes_of := fun_mk (st := s_bytes_of) l_bytes_of c_bytes_of k_bytes_of
  have b_bytes_of := F_bytes_of.binds (ps := ["number", "many"]) fun _ _ _ _ _ _ us hl => match us, hl with | [_, _], _ => rfl
  have F_length_at := fun_mk (st := s_length_at) l_length_at c_length_at k_length_at
  have b_length_at := F_length_at.binds (ps := ["code", "at"]) fun _ _ _ _ _ _ us hl => match us, hl with | [_, _], _ => rfl
  have F_first_register := fun_mk (st := s_first_register) l_first_register c_first_register k_first_register
  have b_first_register := F_first_register.binds (ps := ["code", "at"]) fun _ _ _ _ _ _ us hl => match us, hl with | [_, _], _ => rfl
  have F_second_register := fun_mk (st := s_second_register) l_second_register c_second_register k_second_register
  have b_second_register := F_second_register.binds (ps := ["code", "at"]) fun _ _ _ _ _ _ us hl => match us, hl with | [_, _], _ => rfl
  have F_place_told := fun_mk (st := s_place_told) l_place_told c_place_told k_place_told
  have b_place_told := F_place_told.binds (ps := ["code", "at"]) fun _ _ _ _ _ _ us hl => match us, hl with | [_, _], _ => rfl
  have F_whole_code := fun_mk (st := s_whole_code) l_whole_code c_whole_code k_whole_code
  have b_whole_code := F_whole_code.binds (ps := ["code"]) fun _ _ _ _ _ _ us hl => match us, hl with | [_], _ => rfl
  have F_fault_at := fun_mk (st := s_fault_at) l_fault_at c_fault_at k_fault_at
  have b_fault_at := F_fault_at.binds (ps := ["whole", "at"]) fun _ _ _ _ _ _ us hl => match us, hl with | [_, _], _ => rfl
  have F_beginnings := fun_mk (st := s_beginnings) l_beginnings c_beginnings k_beginnings
  have b_beginnings := F_beginnings.binds (ps := ["whole", "many"]) fun _ _ _ _ _ _ us hl => match us, hl with | [_, _], _ => rfl
  have F_looked_at := fun_mk (st := s_looked_at) l_looked_at c_looked_at k_looked_at
  have b_looked_at := F_looked_at.binds (ps := ["whole", "many"]) fun _ _ _ _ _ _ us hl => match us, hl with | [_, _], _ => rfl
  have F_mem_init := fun_mk (st := s_mem_init) l_mem_init c_mem_init k_mem_init
  have b_mem_init := F_mem_init.binds (ps := ["self", "off", "given"]) fun _ _ _ _ _ _ us hl => match us, hl with | [_, _, _], _ => rfl
  have F_got := fun_mk (st := s_got) l_got c_got k_got
  have b_got := F_got.binds (ps := ["self", "place", "many"]) fun _ _ _ _ _ _ us hl => match us, hl with | [_, _, _], _ => rfl
  have F_put := fun_mk (st := s_put) l_put c_put k_put
  have b_put := F_put.binds (ps := ["self", "place", "given"]) fun _ _ _ _ _ _ us hl => match us, hl with | [_, _, _], _ => rfl
  have F_changed := fun_mk (st := s_changed) l_changed c_changed k_changed
  have b_changed := F_changed.binds (ps := ["self"]) fun _ _ _ _ _ _ us hl => match us, hl with | [_], _ => rfl
  have F_fence := fun_mk (st := s_fence) l_fence c_fence k_fence
  have b_fence := F_fence.binds (ps := ["address", "many"]) fun _ _ _ _ _ _ us hl => match us, hl with | [_, _], _ => rfl
  have F_reckoned := fun_mk (st := s_reckoned) l_reckoned c_reckoned k_reckoned
  have b_reckoned := F_reckoned.binds (ps := ["kind", "one", "other"]) fun _ _ _ _ _ _ us hl => match us, hl with | [_, _, _], _ => rfl
  have F_mac_init := fun_mk (st := s_mac_init) l_mac_init c_mac_init k_mac_init
  have b_mac_init := F_mac_init.binds (ps := ["self", "code", "place", "registers", "memory"]) fun _ _ _ _ _ _ us hl => match us, hl with | [_, _, _, _, _], _ => rfl
  have F_give := fun_mk (st := s_give) l_give c_give k_give
  have b_give := F_give.binds (ps := ["self", "which", "number"]) fun _ _ _ _ _ _ us hl => match us, hl with | [_, _, _], _ => rfl
  have F_go := fun_mk (st := s_go) l_go c_go k_go
  have b_go := F_go.binds (ps := ["self", "place"]) fun _ _ _ _ _ _ us hl => match us, hl with | [_, _], _ => rfl
  have F_reach := fun_mk (st := s_reach) l_reach c_reach k_reach
  have b_reach := F_reach.binds (ps := ["self", "kind", "long"]) fun _ _ _ _ _ _ us hl => match us, hl with | [_, _, _], _ => rfl
  have F_turn := fun_mk (st := s_turn) l_turn c_turn k_turn
  have b_turn := F_turn.binds (ps := ["self", "kind", "behind"]) fun _ _ _ _ _ _ us hl => match us, hl with | [_, _, _], _ => rfl
  have F_keep := fun_mk (st := s_keep) l_keep c_keep k_keep
  have b_keep := F_keep.binds (ps := ["self", "kind"]) fun _ _ _ _ _ _ us hl => match us, hl with | [_, _], _ => rfl
  have F_reckon := fun_mk (st := s_reckon) l_reckon c_reckon k_reckon
  have b_reckon := F_reckon.binds (ps := ["self", "kind"]) fun _ _ _ _ _ _ us hl => match us, hl with | [_, _], _ => rfl
  have F_step := fun_mk (st := s_step) l_step c_step k_step
  have b_step := F_step.binds (ps := ["self"]) fun _ _ _ _ _ _ us hl => match us, hl with | [_], _ => rfl
  have F_run := fun_mk (st := s_run) l_run c_run k_run
  have b_run := F_run.binds (ps := ["self", "steps"]) fun _ _ _ _ _ _ us hl => match us, hl with | [_, _], _ => rfl
  have F_dsk_init := fun_mk (st := s_dsk_init) l_dsk_init c_dsk_init k_dsk_init
  have b_dsk_init := F_dsk_init.binds (ps := ["self"]) fun _ _ _ _ _ _ us hl => match us, hl with | [_], _ => rfl
  have F_load := fun_mk (st := s_load) l_load c_load k_load
  have b_load := F_load.binds (ps := ["self", "many", "code"]) fun _ _ _ _ _ _ us hl => match us, hl with | [_, _, _], _ => rfl
  have F_check := fun_mk (st := s_check) l_check c_check k_check
  have b_check := F_check.binds (ps := ["self"]) fun _ _ _ _ _ _ us hl => match us, hl with | [_], _ => rfl
  have F_drun := fun_mk (st := s_drun) l_drun c_drun k_drun
  have b_drun := F_drun.binds (ps := ["self", "numbers", "registers", "given"]) fun _ _ _ _ _ _ us hl => match us, hl with | [_, _, _, _], _ => rfl
  have F_row_at := fun_mk (st := s_row_at) l_row_at c_row_at k_row_at
  have b_row_at := F_row_at.binds (ps := ["calls", "at"]) fun _ _ _ _ _ _ us hl => match us, hl with | [_, _], _ => rfl
  have F_answers := fun_mk (st := s_answers) l_answers c_answers k_answers
  have b_answers := F_answers.binds (ps := ["calls"]) fun _ _ _ _ _ _ us hl => match us, hl with | [_], _ => rfl
  refine ⟨PySem.W.fnOf "answers" "answers" (defArgs s_answers) (defBody s_answers) (defScope s_answers) .none kV_answers dc_answers pm_answers an_answers cd_answers ct_answers, fun s us hu => match us, hu with | [_], _ => .of_eq rfl, fun base _ _ => ?_⟩
  have m_whole_code : Callee P w K mg base 1 "whole_code" ["code"] (sp_whole_code K ⟨C_mem, C_mac, C_dsk, le, wi, go, se, re, ke, fe⟩) := ⟨_, _, ok_whole_code T F_whole_code, PySem.W.mg_of X G a_whole_code, k_whole_code, b_whole_code⟩
  have m_load : Metd P w K mg base 2 C_dsk "load" ["self", "many", "code"] (sp_load K ⟨C_mem, C_mac, C_dsk, le, wi, go, se, re, ke, fe⟩) := ⟨_, _, ok_load T m_whole_code F_load, ⟨a_load, i_load, k_load⟩, b_load⟩
  have m_row_at : Callee P w K mg base 1 "row_at" ["calls", "at"] (sp_row_at K ⟨C_mem, C_mac, C_dsk, le, wi, go, se, re, ke, fe⟩) := ⟨_, _, ok_row_at T F_row_at, PySem.W.mg_of X G a_row_at, k_row_at, b_row_at⟩
  have m_number_at : Callee P w K mg base 1 "number_at" ["code", "at", "many"] (sp_number_at K ⟨C_mem, C_mac, C_dsk, le, wi, go, se, re, ke, fe⟩) := ⟨_, _, ok_number_at T F_number_at, PySem.W.mg_of X G a_number_at, k_number_at, b_number_at⟩
  have m_signed_at : Callee P w K mg base 2 "signed_at" ["code", "at", "many"] (sp_signed_at K ⟨C_mem, C_mac, C_dsk, le, wi, go, se, re, ke, fe⟩) := ⟨_, _, ok_signed_at T m_number_at F_signed_at, PySem.W.mg_of X G a_signed_at, k_signed_at, b_signed_at⟩
  have m_place_told : Callee P w K mg base 3 "place_told" ["code", "at"] (sp_place_told K ⟨C_mem, C_mac, C_dsk, le, wi, go, se, re, ke, fe⟩) := ⟨_, _, ok_place_told T m_signed_at F_place_told, PySem.W.mg_of X G a_place_told, k_place_told, b_place_told⟩
  have m_length_at : Callee P w K mg base 1 "length_at" ["code", "at"] (sp_length_at K ⟨C_mem, C_mac, C_dsk, le, wi, go, se, re, ke, fe⟩) := ⟨_, _, ok_length_at T F_length_at, PySem.W.mg_of X G a_length_at, k_length_at, b_length_at⟩
  have m_second_register : Callee P w K mg base 1 "second_register" ["code", "at"] (sp_second_register K ⟨C_mem, C_mac, C_dsk, le, wi, go, se, re, ke, fe⟩) := ⟨_, _, ok_second_register T F_second_register, PySem.W.mg_of X G a_second_register, k_second_register, b_second_register⟩
  have m_first_register : Callee P w K mg base 1 "first_register" ["code", "at"] (sp_first_register K ⟨C_mem, C_mac, C_dsk, le, wi, go, se, re, ke, fe⟩) := ⟨_, _, ok_first_register T F_first_register, PySem.W.mg_of X G a_first_register, k_first_register, b_first_register⟩
  have m_fault_at : Callee P w K mg base 2 "fault_at" ["whole", "at"] (sp_fault_at K ⟨C_mem, C_mac, C_dsk, le, wi, go, se, re, ke, fe⟩) := ⟨_, _, ok_fault_at T m_second_register m_first_register m_length_at F_fault_at, PySem.W.mg_of X G a_fault_at, k_fault_at, b_fault_at⟩
  have m_beginnings : Callee P w K mg base 3 "beginnings" ["whole", "many"] (sp_beginnings K ⟨C_mem, C_mac, C_dsk, le, wi, go, se, re, ke, fe⟩) := ⟨_, _, ok_beginnings T m_length_at m_fault_at F_beginnings, PySem.W.mg_of X G a_beginnings, k_beginnings, b_beginnings⟩
  have m_looked_at : Callee P w K mg base 4 "looked_at" ["whole", "many"] (sp_looked_at K ⟨C_mem, C_mac, C_dsk, le, wi, go, se, re, ke, fe⟩) := ⟨_, _, ok_looked_at T m_place_told m_beginnings F_looked_at, PySem.W.mg_of X G a_looked_at, k_looked_at, b_looked_at⟩
  have m_check : Metd P w K mg base 5 C_dsk "check" ["self"] (sp_check K ⟨C_mem, C_mac, C_dsk, le, wi, go, se, re, ke, fe⟩) := ⟨_, _, ok_check T m_looked_at F_check, ⟨a_check, i_check, k_check⟩, b_check⟩
  have m_changed : Metd P w K mg base 1 C_mem "changed" ["self"] (sp_changed K ⟨C_mem, C_mac, C_dsk, le, wi, go, se, re, ke, fe⟩) := ⟨_, _, ok_changed T F_changed, ⟨a_changed, i_changed, k_changed⟩, b_changed⟩
  have m_go : Metd P w K mg base 1 C_mac "go" ["self", "place"] (sp_go K ⟨C_mem, C_mac, C_dsk, le, wi, go, se, re, ke, fe⟩) := ⟨_, _, ok_go T F_go, ⟨a_go, i_go, k_go⟩, b_go⟩
  have m_give : Metd P w K mg base 1 C_mac "give" ["self", "which", "number"] (sp_give K ⟨C_mem, C_mac, C_dsk, le, wi, go, se, re, ke, fe⟩) := ⟨_, _, ok_give T F_give, ⟨a_give, i_give, k_give⟩, b_give⟩
  have m_keep : Metd P w K mg base 2 C_mac "keep" ["self", "kind"] (sp_keep K ⟨C_mem, C_mac, C_dsk, le, wi, go, se, re, ke, fe⟩) := ⟨_, _, ok_keep T m_give m_first_register F_keep, ⟨a_keep, i_keep, k_keep⟩, b_keep⟩
  have m_reckoned : Callee P w K mg base 1 "reckoned" ["kind", "one", "other"] (sp_reckoned K ⟨C_mem, C_mac, C_dsk, le, wi, go, se, re, ke, fe⟩) := ⟨_, _, ok_reckoned T F_reckoned, PySem.W.mg_of X G a_reckoned, k_reckoned, b_reckoned⟩
  have m_reckon : Metd P w K mg base 3 C_mac "reckon" ["self", "kind"] (sp_reckon K ⟨C_mem, C_mac, C_dsk, le, wi, go, se, re, ke, fe⟩) := ⟨_, _, ok_reckon T m_give m_number_at m_signed_at m_reckoned m_second_register m_first_register F_reckon, ⟨a_reckon, i_reckon, k_reckon⟩, b_reckon⟩
  have m_turn : Metd P w K mg base 4 C_mac "turn" ["self", "kind", "behind"] (sp_turn K ⟨C_mem, C_mac, C_dsk, le, wi, go, se, re, ke, fe⟩) := ⟨_, _, ok_turn T m_go m_give m_second_register m_first_register m_place_told F_turn, ⟨a_turn, i_turn, k_turn⟩, b_turn⟩
  have m_got : Metd P w K mg base 1 C_mem "got" ["self", "place", "many"] (sp_got K ⟨C_mem, C_mac, C_dsk, le, wi, go, se, re, ke, fe⟩) := ⟨_, _, ok_got T F_got, ⟨a_got, i_got, k_got⟩, b_got⟩
  have m_put : Metd P w K mg base 1 C_mem "put" ["self", "place", "given"] (sp_put K ⟨C_mem, C_mac, C_dsk, le, wi, go, se, re, ke, fe⟩) := ⟨_, _, ok_put T F_put, ⟨a_put, i_put, k_put⟩, b_put⟩
  have m_bytes_of : Callee P w K mg base 1 "bytes_of" ["number", "many"] (sp_bytes_of K ⟨C_mem, C_mac, C_dsk, le, wi, go, se, re, ke, fe⟩) := ⟨_, _, ok_bytes_of T F_bytes_of, PySem.W.mg_of X G a_bytes_of, k_bytes_of, b_bytes_of⟩
  have m_fence : Callee P w K mg base 1 "fence" ["address", "many"] (sp_fence K ⟨C_mem, C_mac, C_dsk, le, wi, go, se, re, ke, fe⟩) := ⟨_, _, ok_fence T F_fence, PySem.W.mg_of X G a_fence, k_fence, b_fence⟩
  have m_reach : Metd P w K mg base 3 C_mac "reach" ["self", "kind", "long"] (sp_reach K ⟨C_mem, C_mac, C_dsk, le, wi, go, se, re, ke, fe⟩) := ⟨_, _, ok_reach T m_go m_give m_got m_put m_bytes_of m_fence m_second_register m_signed_at m_first_register F_reach, ⟨a_reach, i_reach, k_reach⟩, b_reach⟩
  have m_step : Metd P w K mg base 5 C_mac "step" ["self"] (sp_step K ⟨C_mem, C_mac, C_dsk, le, wi, go, se, re, ke, fe⟩) := ⟨_, _, ok_step T m_go m_keep m_reckon m_turn m_reach m_length_at F_step, ⟨a_step, i_step, k_step⟩, b_step⟩
  have m_run : Metd P w K mg base 6 C_mac "run" ["self", "steps"] (sp_run K ⟨C_mem, C_mac, C_dsk, le, wi, go, se, re, ke, fe⟩) := ⟨_, _, ok_run T m_step F_run, ⟨a_run, i_run, k_run⟩, b_run⟩
  have m_mac_init : Maker P w K mg base 1 "Machine" C_mac ["self", "code", "place", "registers", "memory"] (sp_mac_init K ⟨C_mem, C_mac, C_dsk, le, wi, go, se, re, ke, fe⟩) := ⟨_, _, ok_mac_init T F_mac_init, ⟨mk_mac, a_mac_init, i_mac_init, kc_mac⟩, PySem.W.mg_of X G a_mac, b_mac_init⟩
  have m_mem_init : Maker P w K mg base 1 "Memory" C_mem ["self", "off", "given"] (sp_mem_init K ⟨C_mem, C_mac, C_dsk, le, wi, go, se, re, ke, fe⟩) := ⟨_, _, ok_mem_init T F_mem_init, ⟨mk_mem, a_mem_init, i_mem_init, kc_mem⟩, PySem.W.mg_of X G a_mem, b_mem_init⟩
  have m_drun : Metd P w K mg base 7 C_dsk "run" ["self", "numbers", "registers", "given"] (sp_drun K ⟨C_mem, C_mac, C_dsk, le, wi, go, se, re, ke, fe⟩) := ⟨_, _, ok_drun T m_changed m_run m_mac_init m_mem_init F_drun, ⟨a_drun, i_drun, k_drun⟩, b_drun⟩
  have m_dsk_init : Maker P w K mg base 1 "Desk" C_dsk ["self"] (sp_dsk_init K ⟨C_mem, C_mac, C_dsk, le, wi, go, se, re, ke, fe⟩) := ⟨_, _, ok_dsk_init T F_dsk_init, ⟨mk_dsk, a_dsk_init, i_dsk_init, kc_dsk⟩, PySem.W.mg_of X G a_dsk, b_dsk_init⟩
  exact ok_answers T m_load m_row_at m_check m_drun m_dsk_init F_answers
end Fm
open PySem PySem.W PyProof.Rows
set_option maxRecDepth 100000 in
set_option maxHeartbeats 8000000 in
theorem PySem.Challenge.cw_fencerun_s01_answers_holds : PySem.Challenge.rw_fencerun_s01_answers.Holds := by
  w_on; k_headS; (case hw => exact ⟨[.list [.int 1]], by decide +kernel, by decide +kernel⟩)
  k_fillS
  refine L2.walk_specK (r := PySem.Challenge.rw_fencerun_s01_answers) (k := 8) (CX := L2.CX0) (ps := ["calls"]) (sp := Fm.spAns) (by decide +kernel) rfl rfl ⟨rfl, by decide, by decide⟩ (fun w h Y => PySem.W.kIn_of Y) ?F ?S (fun _ _ _ _ z => z)
  case F =>
    intro w mg fa h Y KX G hmg
    refine' Fm.all_mk KX G hmg ?a_mem ?pg_mem ?hd_mem ?po_mem ?sa_mem ?mk_mem ?kc_mem ?n_mem_cells ?n_mem_before ?a_mac ?pg_mac ?hd_mac ?po_mac ?sa_mac ?mk_mac ?kc_mac ?n_mac_code ?n_mac_place ?n_mac_registers ?n_mac_memory ?a_dsk ?pg_dsk ?hd_dsk ?po_dsk ?sa_dsk ?mk_dsk ?kc_dsk ?n_dsk_code ?n_dsk_many ?g_WORD ?g_CODE ?g_REGISTERS ?g_BUNDLE ?g_BYTES ?g_FIRST ?g_BASE ?g_STOP ?g_ASKED ?g_NOWHERE ?g_NOT_ENDED ?g_WRONG ?g_NO_CODE ?g_MOST_LOADED ?g_MOST_STEPS ?g_LOAD ?g_CHECK ?g_LENGTHS ?l_LENGTHS ?s_LENGTHS ?e_LENGTHS ?g_WITH_ONE ?l_WITH_ONE ?v_WITH_ONE ?z_WITH_ONE ?g_GOES_ON ?l_GOES_ON ?v_GOES_ON ?z_GOES_ON ?g_SETS ?l_SETS ?v_SETS ?z_SETS ?g_REACHES ?l_REACHES ?v_REACHES ?z_REACHES ?g_KEPT ?l_KEPT ?v_KEPT ?z_KEPT ?g_FENCED ?l_FENCED ?v_FENCED ?z_FENCED ?f_len ?f_list ?f_sorted ?f_range ?f_reversed ?f_enumerate ?a_number_at ?l_number_at ?c_number_at ?k_number_at ?a_signed_at ?l_signed_at ?c_signed_at ?k_signed_at ?a_bytes_of ?l_bytes_of ?c_bytes_of ?k_bytes_of ?a_length_at ?l_length_at ?c_length_at ?k_length_at ?a_first_register ?l_first_register ?c_first_register ?k_first_register ?a_second_register ?l_second_register ?c_second_register ?k_second_register ?a_place_told ?l_place_told ?c_place_told ?k_place_told ?a_whole_code ?l_whole_code ?c_whole_code ?k_whole_code ?a_fault_at ?l_fault_at ?c_fault_at ?k_fault_at ?a_beginnings ?l_beginnings ?c_beginnings ?k_beginnings ?a_looked_at ?l_looked_at ?c_looked_at ?k_looked_at ?a_mem_init ?i_mem_init ?l_mem_init ?c_mem_init ?k_mem_init ?a_got ?i_got ?l_got ?c_got ?k_got ?a_put ?i_put ?l_put ?c_put ?k_put ?a_changed ?i_changed ?l_changed ?c_changed ?k_changed ?a_fence ?l_fence ?c_fence ?k_fence ?a_reckoned ?l_reckoned ?c_reckoned ?k_reckoned ?a_mac_init ?i_mac_init ?l_mac_init ?c_mac_init ?k_mac_init ?a_give ?i_give ?l_give ?c_give ?k_give ?a_go ?i_go ?l_go ?c_go ?k_go ?a_reach ?i_reach ?l_reach ?c_reach ?k_reach ?a_turn ?i_turn ?l_turn ?c_turn ?k_turn ?a_keep ?i_keep ?l_keep ?c_keep ?k_keep ?a_reckon ?i_reckon ?l_reckon ?c_reckon ?k_reckon ?a_step ?i_step ?l_step ?c_step ?k_step ?a_run ?i_run ?l_run ?c_run ?k_run ?a_dsk_init ?i_dsk_init ?l_dsk_init ?c_dsk_init ?k_dsk_init ?a_load ?i_load ?l_load ?c_load ?k_load ?a_check ?i_check ?l_check ?c_check ?k_check ?a_drun ?i_drun ?l_drun ?c_drun ?k_drun ?a_row_at ?l_row_at ?c_row_at ?k_row_at ?a_answers ?l_answers ?c_answers ?k_answers
    (case a_mem => k_is)
    (case pg_mem => k_is)
    (case hd_mem => k_is)
    (case po_mem => k_is)
    (case sa_mem => k_is)
    (case mk_mem => k_is)
    (case kc_mem => k_is)
    (case n_mem_cells => k_is)
    (case n_mem_before => k_is)
    (case a_mac => k_is)
    (case pg_mac => k_is)
    (case hd_mac => k_is)
    (case po_mac => k_is)
    (case sa_mac => k_is)
    (case mk_mac => k_is)
    (case kc_mac => k_is)
    (case n_mac_code => k_is)
    (case n_mac_place => k_is)
    (case n_mac_registers => k_is)
    (case n_mac_memory => k_is)
    (case a_dsk => k_is)
    (case pg_dsk => k_is)
    (case hd_dsk => k_is)
    (case po_dsk => k_is)
    (case sa_dsk => k_is)
    (case mk_dsk => k_is)
    (case kc_dsk => k_is)
    (case n_dsk_code => k_is)
    (case n_dsk_many => k_is)
    (case g_WORD => k_is)
    (case g_CODE => k_is)
    (case g_REGISTERS => k_is)
    (case g_BUNDLE => k_is)
    (case g_BYTES => k_is)
    (case g_FIRST => k_is)
    (case g_BASE => k_is)
    (case g_STOP => k_is)
    (case g_ASKED => k_is)
    (case g_NOWHERE => k_is)
    (case g_NOT_ENDED => k_is)
    (case g_WRONG => k_is)
    (case g_NO_CODE => k_is)
    (case g_MOST_LOADED => k_is)
    (case g_MOST_STEPS => k_is)
    (case g_LOAD => k_is)
    (case g_CHECK => k_is)
    (case g_LENGTHS => k_is)
    (case l_LENGTHS => k_is)
    (case s_LENGTHS => rfl)
    (case e_LENGTHS => exact (.cons 0 1 _ _ rfl rfl rfl (.cons 1 1 _ _ rfl rfl rfl (.cons 2 10 _ _ rfl rfl rfl (.cons 3 2 _ _ rfl rfl rfl (.cons 4 2 _ _ rfl rfl rfl (.cons 5 2 _ _ rfl rfl rfl (.cons 6 2 _ _ rfl rfl rfl (.cons 7 2 _ _ rfl rfl rfl (.cons 8 2 _ _ rfl rfl rfl (.cons 9 2 _ _ rfl rfl rfl (.cons 10 2 _ _ rfl rfl rfl (.cons 11 2 _ _ rfl rfl rfl (.cons 12 6 _ _ rfl rfl rfl (.cons 16 4 _ _ rfl rfl rfl (.cons 17 4 _ _ rfl rfl rfl (.cons 18 4 _ _ rfl rfl rfl (.cons 19 4 _ _ rfl rfl rfl (.cons 24 2 _ _ rfl rfl rfl (.cons 25 2 _ _ rfl rfl rfl (.cons 26 2 _ _ rfl rfl rfl (.cons 32 1 _ _ rfl rfl rfl (.cons 33 5 _ _ rfl rfl rfl (.cons 34 6 _ _ rfl rfl rfl (.cons 35 6 _ _ rfl rfl rfl (.cons 36 5 _ _ rfl rfl rfl (.cons 40 2 _ _ rfl rfl rfl .nil)))))))))))))))))))))))))))
    (case g_WITH_ONE => k_is)
    (case l_WITH_ONE => k_is)
    (case v_WITH_ONE => exact (.cons ⟨_, rfl⟩ (.cons ⟨_, rfl⟩ (.cons ⟨_, rfl⟩ (.cons ⟨_, rfl⟩ (.cons ⟨_, rfl⟩ (.cons ⟨_, rfl⟩ .nil)))))))
    (case z_WITH_ONE => decide)
    (case g_GOES_ON => k_is)
    (case l_GOES_ON => k_is)
    (case v_GOES_ON => exact (.cons ⟨_, rfl⟩ (.cons ⟨_, rfl⟩ (.cons ⟨_, rfl⟩ (.cons ⟨_, rfl⟩ .nil)))))
    (case z_GOES_ON => decide)
    (case g_SETS => k_is)
    (case l_SETS => k_is)
    (case v_SETS => exact (.cons ⟨_, rfl⟩ (.cons ⟨_, rfl⟩ (.cons ⟨_, rfl⟩ (.cons ⟨_, rfl⟩ (.cons ⟨_, rfl⟩ (.cons ⟨_, rfl⟩ (.cons ⟨_, rfl⟩ (.cons ⟨_, rfl⟩ (.cons ⟨_, rfl⟩ (.cons ⟨_, rfl⟩ (.cons ⟨_, rfl⟩ (.cons ⟨_, rfl⟩ (.cons ⟨_, rfl⟩ .nil))))))))))))))
    (case z_SETS => decide)
    (case g_REACHES => k_is)
    (case l_REACHES => k_is)
    (case v_REACHES => exact (.cons ⟨_, rfl⟩ (.cons ⟨_, rfl⟩ (.cons ⟨_, rfl⟩ (.cons ⟨_, rfl⟩ .nil)))))
    (case z_REACHES => decide)
    (case g_KEPT => k_is)
    (case l_KEPT => k_is)
    (case v_KEPT => exact (.cons ⟨_, rfl⟩ (.cons ⟨_, rfl⟩ (.cons ⟨_, rfl⟩ .nil))))
    (case z_KEPT => decide)
    (case g_FENCED => k_is)
    (case l_FENCED => k_is)
    (case v_FENCED => exact (.cons ⟨_, rfl⟩ (.cons ⟨_, rfl⟩ .nil)))
    (case z_FENCED => decide)
    (case f_len => k_is)
    (case f_list => k_is)
    (case f_sorted => k_is)
    (case f_range => k_is)
    (case f_reversed => k_is)
    (case f_enumerate => k_is)
    (case a_number_at => k_is)
    (case l_number_at => k_is)
    (case c_number_at => k_is)
    (case k_number_at => k_is)
    (case a_signed_at => k_is)
    (case l_signed_at => k_is)
    (case c_signed_at => k_is)
    (case k_signed_at => k_is)
    (case a_bytes_of => k_is)
    (case l_bytes_of => k_is)
    (case c_bytes_of => k_is)
    (case k_bytes_of => k_is)
    (case a_length_at => k_is)
    (case l_length_at => k_is)
    (case c_length_at => k_is)
    (case k_length_at => k_is)
    (case a_first_register => k_is)
    (case l_first_register => k_is)
    (case c_first_register => k_is)
    (case k_first_register => k_is)
    (case a_second_register => k_is)
    (case l_second_register => k_is)
    (case c_second_register => k_is)
    (case k_second_register => k_is)
    (case a_place_told => k_is)
    (case l_place_told => k_is)
    (case c_place_told => k_is)
    (case k_place_told => k_is)
    (case a_whole_code => k_is)
    (case l_whole_code => k_is)
    (case c_whole_code => k_is)
    (case k_whole_code => k_is)
    (case a_fault_at => k_is)
    (case l_fault_at => k_is)
    (case c_fault_at => k_is)
    (case k_fault_at => k_is)
    (case a_beginnings => k_is)
    (case l_beginnings => k_is)
    (case c_beginnings => k_is)
    (case k_beginnings => k_is)
    (case a_looked_at => k_is)
    (case l_looked_at => k_is)
    (case c_looked_at => k_is)
    (case k_looked_at => k_is)
    (case a_mem_init => k_is)
    (case i_mem_init => k_is)
    (case l_mem_init => k_is)
    (case c_mem_init => k_is)
    (case k_mem_init => k_is)
    (case a_got => k_is)
    (case i_got => k_is)
    (case l_got => k_is)
    (case c_got => k_is)
    (case k_got => k_is)
    (case a_put => k_is)
    (case i_put => k_is)
    (case l_put => k_is)
    (case c_put => k_is)
    (case k_put => k_is)
    (case a_changed => k_is)
    (case i_changed => k_is)
    (case l_changed => k_is)
    (case c_changed => k_is)
    (case k_changed => k_is)
    (case a_fence => k_is)
    (case l_fence => k_is)
    (case c_fence => k_is)
    (case k_fence => k_is)
    (case a_reckoned => k_is)
    (case l_reckoned => k_is)
    (case c_reckoned => k_is)
    (case k_reckoned => k_is)
    (case a_mac_init => k_is)
    (case i_mac_init => k_is)
    (case l_mac_init => k_is)
    (case c_mac_init => k_is)
    (case k_mac_init => k_is)
    (case a_give => k_is)
    (case i_give => k_is)
    (case l_give => k_is)
    (case c_give => k_is)
    (case k_give => k_is)
    (case a_go => k_is)
    (case i_go => k_is)
    (case l_go => k_is)
    (case c_go => k_is)
    (case k_go => k_is)
    (case a_reach => k_is)
    (case i_reach => k_is)
    (case l_reach => k_is)
    (case c_reach => k_is)
    (case k_reach => k_is)
    (case a_turn => k_is)
    (case i_turn => k_is)
    (case l_turn => k_is)
    (case c_turn => k_is)
    (case k_turn => k_is)
    (case a_keep => k_is)
    (case i_keep => k_is)
    (case l_keep => k_is)
    (case c_keep => k_is)
    (case k_keep => k_is)
    (case a_reckon => k_is)
    (case i_reckon => k_is)
    (case l_reckon => k_is)
    (case c_reckon => k_is)
    (case k_reckon => k_is)
    (case a_step => k_is)
    (case i_step => k_is)
    (case l_step => k_is)
    (case c_step => k_is)
    (case k_step => k_is)
    (case a_run => k_is)
    (case i_run => k_is)
    (case l_run => k_is)
    (case c_run => k_is)
    (case k_run => k_is)
    (case a_dsk_init => k_is)
    (case i_dsk_init => k_is)
    (case l_dsk_init => k_is)
    (case c_dsk_init => k_is)
    (case k_dsk_init => k_is)
    (case a_load => k_is)
    (case i_load => k_is)
    (case l_load => k_is)
    (case c_load => k_is)
    (case k_load => k_is)
    (case a_check => k_is)
    (case i_check => k_is)
    (case l_check => k_is)
    (case c_check => k_is)
    (case k_check => k_is)
    (case a_drun => k_is)
    (case i_drun => k_is)
    (case l_drun => k_is)
    (case c_drun => k_is)
    (case k_drun => k_is)
    (case a_row_at => k_is)
    (case l_row_at => k_is)
    (case c_row_at => k_is)
    (case k_row_at => k_is)
    (case a_answers => k_is)
    (case l_answers => k_is)
    (case c_answers => k_is)
    (case k_answers => k_is)
  case S =>
    intro K H xs a hO hwi hask hx
    cases hx with
    | cons h1 h2 =>
      cases h2
      cases h1 with
      | lst hs ha =>
        have e := L2.ints_dw a.1 _ ha
        subst e
        exact ⟨_, a.1, rfl, hs, hask, fun H' p hp => .lst (L2.SqL.of hp) (L2.dw_ints _)⟩
#print axioms PySem.Challenge.cw_fencerun_s01_answers_holds
