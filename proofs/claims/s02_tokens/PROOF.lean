import PyProof.Rows.All
import Wide.All
import OpenK.AllK
import Wide.FinOn
import Open.SpecLaws
import KE.OsGo
import HandS.ForSpec
import HandS.ForMost
import HandS.Walk
import HandS.Codes
import HandS.Evl
import PySem.Challenge.RW_madeimage_s02_tokens
set_option Elab.async false
namespace Tk
abbrev B := List Nat
/-! ### 1. tokens without their places -/
/-- a token without its place: kind, bytes, worth, how many bytes of the text -/
structure Core where
  kind : Nat
  b : B
  n : Int
  len : Nat
def cName (l : B) : Option Core :=
  if 32 < (l.takeWhile Rd24.inName).length then none
  else some ⟨if Rd24.WORDS.contains (l.takeWhile Rd24.inName) = true then 1 else 0, l.takeWhile Rd24.inName, 0, (l.takeWhile Rd24.inName).length⟩
/-- hexadecimal digits, from the first of them on -/
def cHex (l : B) : Option Core :=
  if (l.takeWhile Rd24.isHex).isEmpty = true ∨ 16 < (l.takeWhile Rd24.isHex).length ∨ Rd24.inName ((l.drop (l.takeWhile Rd24.isHex).length).headD 0) = true then none
  else some ⟨2, [], Rd24.signed (Rd24.valueOf 16 (l.takeWhile Rd24.isHex)), (l.takeWhile Rd24.isHex).length⟩
def cDec (l : B) : Option Core :=
  if 9223372036854775807 < Rd24.valueOf 10 (l.takeWhile Rd24.digit) ∨ Rd24.inName ((l.drop (l.takeWhile Rd24.digit).length).headD 0) = true then none
  else some ⟨2, [], (Rd24.valueOf 10 (l.takeWhile Rd24.digit) : Int), (l.takeWhile Rd24.digit).length⟩
def cNum (l : B) : Option Core :=
  if l.headD 0 = 48 ∧ (l.drop 1).headD 0 = 120 then (cHex (l.drop 2)).map fun c => { c with len := 2 + c.len } else cDec l
/-- behind the first quote -/
def cStr (l : B) : Option Core := (Rd24.stringOf l).bind fun x => if 1024 < x.1.length then none else some ⟨3, x.1, 0, x.2.1 + 1⟩
def cSign (l : B) : Option Core :=
  if Rd24.TWO.contains (l.take 2) = true then some ⟨4, l.take 2, 0, 2⟩
  else if Rd24.ONE.contains (l.headD 0) = true then some ⟨4, [l.headD 0], 0, 1⟩ else none
def core (l : B) : Option Core :=
  if Rd24.digit (l.headD 0) = true then cNum l
  else if Rd24.inName (l.headD 0) = true then cName l
  else if l.headD 0 = 34 then cStr (l.drop 1)
  else cSign l
theorem letter_not_digit {c : Nat} (h : Rd24.letter c = true) : Rd24.digit c = false := by
  simp [Rd24.letter] at h
  simp [Rd24.digit]
  omega
theorem core_num {c : Nat} {r : B} (h : Rd24.digit c = true) : core (c :: r) = cNum (c :: r) := by
  unfold core
  rw [List.headD_cons, if_pos h]
theorem core_name {c : Nat} {r : B} (h : Rd24.letter c = true) : core (c :: r) = cName (c :: r) := by
  unfold core
  have h3 : Rd24.inName c = true := by simp [Rd24.inName, h]
  rw [List.headD_cons, if_neg (by rw [letter_not_digit h]; exact Bool.false_ne_true), if_pos h3]
theorem not_inName {c : Nat} (h1 : ¬ Rd24.letter c = true) (h2 : ¬ Rd24.digit c = true) : ¬ Rd24.inName c = true := by simp [Rd24.inName, h1, h2]
theorem core_str {r : B} : core (34 :: r) = cStr r := by
  unfold core
  rw [List.headD_cons, if_neg (by decide), if_neg (by decide), if_pos rfl]
  rfl
theorem core_sign {c : Nat} {r : B} (h1 : ¬ Rd24.letter c = true) (h2 : ¬ Rd24.digit c = true) (h3 : ¬ c = 34) : core (c :: r) = cSign (c :: r) := by
  unfold core
  rw [List.headD_cons, if_neg h2, if_neg (not_inName h1 h2), if_neg h3]
/-- what stands between a core and the specification's token -/
def Agree (l : B) (line col : Nat) (o : Option Core) (t : Option (Rd24.Tok × Nat)) : Prop :=
  (o = none → t = none) ∧ (∀ c, o = some c → ∃ b, t = some (⟨c.kind, b, c.n, line, col⟩, c.len) ∧ (c.kind ≠ 2 → b = c.b))
theorem agree_none {l : B} {line col : Nat} : Agree l line col none none := ⟨fun _ => rfl, fun _ h => by cases h⟩
theorem agree_some {l : B} {line col : Nat} {c : Core} {b : B} (h : c.kind ≠ 2 → b = c.b) : Agree l line col (some c) (some (⟨c.kind, b, c.n, line, col⟩, c.len)) :=
  ⟨fun h => (by cases h), fun x e => by cases e; exact ⟨b, rfl, h⟩⟩
theorem agree_ite {l : B} {line col : Nat} {p : Prop} [Decidable p] {c : Core} {b : B} (h : c.kind ≠ 2 → b = c.b) : Agree l line col (if p then none else some c) (if p then none else some (⟨c.kind, b, c.n, line, col⟩, c.len)) := by
  by_cases q : p
  · rw [if_pos q, if_pos q]
    exact agree_none
  · rw [if_neg q, if_neg q]
    exact agree_some h
/-- the specification's token is the core with a place (bytes of numbers apart: nobody asks for them) -/
theorem token_core (l : B) (line col : Nat) (hl : l ≠ []) : Agree l line col (core l) (Rd24.tokenOf l line col) := by
  cases l with
  | nil => exact absurd rfl hl
  | cons c r =>
    unfold Rd24.tokenOf
    by_cases h1 : Rd24.letter c = true
    · rw [core_name h1]
      dsimp only
      rw [if_pos h1]
      exact agree_ite (c := ⟨_, _, 0, _⟩) fun _ => rfl
    · by_cases h2 : Rd24.digit c = true
      · rw [core_num h2]
        dsimp only
        rw [if_neg h1, if_pos h2]
        unfold cNum
        rw [List.headD_cons]
        by_cases h3 : c = 48 ∧ r.headD 0 = 120
        · rw [if_pos h3, if_pos (show c = 48 ∧ (List.drop 1 (c :: r)).headD 0 = 120 from h3)]
          unfold cHex
          have e1 : List.drop 2 (c :: r) = List.drop 1 r := rfl
          have e2 : (List.drop 1 r).drop ((List.takeWhile Rd24.isHex (List.drop 1 r)).length) = r.drop (1 + (List.takeWhile Rd24.isHex (List.drop 1 r)).length) := by
            rw [List.drop_drop]
          rw [e1, e2]
          by_cases q : (List.takeWhile Rd24.isHex (List.drop 1 r)).isEmpty = true ∨ 16 < (List.takeWhile Rd24.isHex (List.drop 1 r)).length ∨ Rd24.inName ((r.drop (1 + (List.takeWhile Rd24.isHex (List.drop 1 r)).length)).headD 0) = true
          · rw [if_pos q, if_pos q]
            exact agree_none
          · rw [if_neg q, if_neg q]
            exact agree_some (c := ⟨2, [], _, _⟩) fun z => absurd rfl z
        · rw [if_neg h3, if_neg (show ¬ (c = 48 ∧ (List.drop 1 (c :: r)).headD 0 = 120) from h3)]
          exact agree_ite (c := ⟨2, [], _, _⟩) fun z => absurd rfl z
      · dsimp only
        rw [if_neg h1, if_neg h2]
        by_cases h4 : c = 34
        · subst h4
          rw [core_str, if_pos rfl]
          unfold cStr
          cases Rd24.stringOf r with
          | none => exact agree_none
          | some x => exact agree_ite (c := ⟨3, _, 0, _⟩) fun _ => rfl
        · rw [core_sign h1 h2 h4, if_neg h4]
          unfold cSign
          rw [List.headD_cons]
          by_cases q : Rd24.TWO.contains (List.take 2 (c :: r)) = true
          · rw [if_pos q, if_pos q]
            exact agree_some (c := ⟨4, _, 0, 2⟩) fun _ => rfl
          · rw [if_neg q, if_neg q]
            by_cases q2 : Rd24.ONE.contains c = true
            · rw [if_pos q2, if_pos q2]
              exact agree_some (c := ⟨4, _, 0, 1⟩) fun _ => rfl
            · rw [if_neg q2, if_neg q2]
              exact agree_none
end Tk
namespace Tk
/-! ### 2. bytes at places -/
def bAt (t : B) (i : Nat) : Int := match t[i]? with
  | some c => (c : Int)
  | none => -1
theorem drop_some {t : B} {i c : Nat} (h : t[i]? = some c) : t.drop i = c :: t.drop (i + 1) := by
  obtain ⟨hi, e⟩ := List.getElem?_eq_some_iff.mp h
  rw [← e]
  exact (List.getElem_cons_drop hi).symm
theorem drop_none {t : B} {i : Nat} (h : t[i]? = none) : t.drop i = [] := List.drop_eq_nil_of_le (List.getElem?_eq_none_iff.mp h)
theorem bAt_some {t : B} {i c : Nat} (h : t[i]? = some c) : bAt t i = (c : Int) := by
  unfold bAt
  rw [h]
theorem bAt_none {t : B} {i : Nat} (h : t[i]? = none) : bAt t i = -1 := by
  unfold bAt
  rw [h]
theorem bAt_lt {t : B} {i : Nat} (h : i < t.length) : t[i]? = some t[i] := List.getElem?_eq_getElem h
/-- either no byte, or one -/
theorem bAt_cases (t : B) (i : Nat) : (t[i]? = none ∧ bAt t i = -1 ∧ t.drop i = [] ∧ t.length ≤ i) ∨ ∃ c : Nat, t[i]? = some c ∧ bAt t i = (c : Int) ∧ t.drop i = c :: t.drop (i + 1) ∧ i < t.length := by
  cases h : t[i]? with
  | none => exact .inl ⟨rfl, bAt_none h, drop_none h, List.getElem?_eq_none_iff.mp h⟩
  | some c => exact .inr ⟨c, rfl, bAt_some h, drop_some h, (List.getElem?_eq_some_iff.mp h).1⟩
theorem bAt_neg {t : B} {i : Nat} (h : bAt t i < 0) : t[i]? = none := by
  rcases bAt_cases t i with ⟨e, _⟩ | ⟨c, _, e, _⟩
  · exact e
  · rw [e] at h
    omega
/-! ### 3. what the small functions say of a byte -/
def digI (b : Int) : Int := if 48 ≤ b ∧ b ≤ 57 then b - 48 else -1
def hexI (b : Int) : Int := if 65 ≤ b ∧ b ≤ 70 then b - 55 else if 97 ≤ b ∧ b ≤ 102 then b - 87 else digI b
def nmI (b : Int) : Bool := decide (65 ≤ b ∧ b ≤ 90) || (decide (97 ≤ b ∧ b ≤ 122) || (decide (b = 95) || decide (48 ≤ b ∧ b ≤ 57)))
def escI (b : Int) : Int := if b = 110 then 10 else if b = 116 then 9 else if b = 92 then 92 else if b = 34 then 34 else -1
theorem digI_nn {b : Int} : 0 ≤ digI b ↔ 48 ≤ b ∧ b ≤ 57 := by
  unfold digI
  by_cases h : 48 ≤ b ∧ b ≤ 57
  · rw [if_pos h]; omega
  · rw [if_neg h]; omega
theorem digit_iff (c : Nat) : Rd24.digit c = true ↔ 0 ≤ digI c := by
  rw [digI_nn]
  simp [Rd24.digit]
  omega
theorem nm_iff (c : Nat) : Rd24.inName c = nmI c := by
  apply Bool.eq_iff_iff.mpr
  simp [Rd24.inName, Rd24.letter, Rd24.digit, nmI]
  omega
theorem nmI_neg : nmI (-1) = false := by decide
theorem hex_some {c : Nat} (h : 0 ≤ hexI c) : Rd24.hexOf c = some (hexI c).toNat := by
  unfold hexI digI at h ⊢
  unfold Rd24.hexOf
  by_cases h1 : Rd24.digit c = true
  · have := digI_nn.mp ((digit_iff c).mp h1)
    rw [if_pos h1, if_neg (by omega), if_neg (by omega), if_pos this]
    congr 1
    omega
  · have := mt (digit_iff c).mpr h1
    rw [digI_nn] at this
    rw [if_neg h1]
    by_cases h2 : 97 ≤ c ∧ c ≤ 102
    · rw [if_pos h2, if_neg (by omega), if_pos (by omega)]
      congr 1
      omega
    · rw [if_neg h2]
      by_cases h3 : 65 ≤ c ∧ c ≤ 70
      · rw [if_pos h3, if_pos (by omega)]
        congr 1
        omega
      · rw [if_neg (by omega), if_neg (by omega), if_neg this] at h
        omega
theorem hex_none {c : Nat} (h : ¬ 0 ≤ hexI c) : Rd24.hexOf c = none := by
  unfold hexI digI at h
  unfold Rd24.hexOf
  have h1 : ¬ Rd24.digit c = true := fun q => by
    have := digI_nn.mp ((digit_iff c).mp q)
    rw [if_neg (by omega), if_neg (by omega), if_pos this] at h
    omega
  have h2 : ¬ (97 ≤ c ∧ c ≤ 102) := fun q => by
    rw [if_neg (by omega), if_pos (by omega)] at h
    omega
  have h3 : ¬ (65 ≤ c ∧ c ≤ 70) := fun q => by
    rw [if_pos (by omega)] at h
    omega
  rw [if_neg h1, if_neg h2, if_neg h3]
theorem isHex_iff (c : Nat) : Rd24.isHex c = true ↔ 0 ≤ hexI c := by
  unfold Rd24.isHex
  by_cases h : 0 ≤ hexI c
  · rw [hex_some h]
    simp [h]
  · rw [hex_none h]
    simp [h]
theorem dig_hex {c : Nat} (h : 0 ≤ digI c) : hexI c = digI c := by
  have := digI_nn.mp h
  unfold hexI
  rw [if_neg (by omega), if_neg (by omega)]
theorem hexI_m1 : hexI (-1) = -1 := by decide
theorem digI_m1 : digI (-1) = -1 := by decide
theorem hexI_le {b : Int} : hexI b ≤ 15 := by
  unfold hexI digI
  split
  · omega
  · split
    · omega
    · split <;> omega
/-- worth: one digit more -/
theorem value_more (base : Nat) (l : B) (c : Nat) : Rd24.valueOf base (l ++ [c]) = base * Rd24.valueOf base l + (Rd24.hexOf c).getD 0 := by
  unfold Rd24.valueOf
  rw [List.foldl_append]
  rfl
theorem value_hex {base : Nat} {l : B} {c : Nat} (h : 0 ≤ hexI c) : ((Rd24.valueOf base (l ++ [c]) : Nat) : Int) = (base : Int) * (Rd24.valueOf base l : Nat) + hexI c := by
  rw [value_more, hex_some h]
  show (((base * Rd24.valueOf base l + (hexI c).toNat : Nat)) : Int) = _
  rw [Int.natCast_add, Int.natCast_mul, Int.toNat_of_nonneg h]
theorem value_dig {base : Nat} {l : B} {c : Nat} (h : 0 ≤ digI c) : ((Rd24.valueOf base (l ++ [c]) : Nat) : Int) = (base : Int) * (Rd24.valueOf base l : Nat) + digI c := by
  rw [← dig_hex h]
  exact value_hex (by rw [dig_hex h]; exact h)
theorem hexOf_lt {c v : Nat} (h : Rd24.hexOf c = some v) : v < 16 := by
  by_cases q : 0 ≤ hexI c
  · rw [hex_some q] at h
    cases h
    have := hexI_le (b := c)
    omega
  · rw [hex_none q] at h
    cases h
theorem value16_lt : ∀ (l : B), Rd24.valueOf 16 l < 16 ^ l.length := by
  intro l
  have key : ∀ (l : B) (n : Nat), l.foldl (fun n c => 16 * n + (Rd24.hexOf c).getD 0) n < (n + 1) * 16 ^ l.length := by
    intro l
    induction l with
    | nil => intro n; simp
    | cons c r ih =>
      intro n
      have h1 : (Rd24.hexOf c).getD 0 < 16 := by
        cases e : Rd24.hexOf c with
        | none => decide
        | some v => exact hexOf_lt e
      have h2 := ih (16 * n + (Rd24.hexOf c).getD 0)
      rw [List.foldl_cons, List.length_cons, Nat.pow_succ]
      refine Nat.lt_of_lt_of_le h2 ?_
      rw [Nat.mul_comm (16 ^ r.length) 16, ← Nat.mul_assoc]
      exact Nat.mul_le_mul_right _ (by omega)
  have := key l 0
  simpa [Rd24.valueOf] using this
/-- the sign, for sixteen digits at most -/
theorem signed_of {l : B} (h : l.length ≤ 16) : Rd24.signed (Rd24.valueOf 16 l) = if (9223372036854775808 : Int) ≤ (Rd24.valueOf 16 l : Nat) then ((Rd24.valueOf 16 l : Nat) : Int) - 18446744073709551616 else ((Rd24.valueOf 16 l : Nat) : Int) := by
  have h1 : Rd24.valueOf 16 l < 16 ^ 16 := Nat.lt_of_lt_of_le (value16_lt l) (Nat.pow_le_pow_right (by decide) h)
  have h2 : Rd24.valueOf 16 l % 2 ^ 64 = Rd24.valueOf 16 l := Nat.mod_eq_of_lt (by
    have : (16 : Nat) ^ 16 = 2 ^ 64 := by decide
    omega)
  unfold Rd24.signed
  rw [h2]
  have e63 : (2 : Nat) ^ 63 = 9223372036854775808 := by decide
  rw [e63]
  by_cases q : Rd24.valueOf 16 l < 9223372036854775808
  · rw [if_pos q, if_neg (by omega)]
  · rw [if_neg q, if_pos (by omega)]
/-! ### 4. runs of bytes -/
theorem tw_some {p : Nat → Bool} {t : B} {i c : Nat} (h : t[i]? = some c) (hp : p c = true) : (t.drop i).takeWhile p = c :: (t.drop (i + 1)).takeWhile p := by
  rw [drop_some h, List.takeWhile_cons, if_pos hp]
theorem tw_stop {p : Nat → Bool} {t : B} {i c : Nat} (h : t[i]? = some c) (hp : ¬ p c = true) : (t.drop i).takeWhile p = [] := by
  rw [drop_some h, List.takeWhile_cons, if_neg hp]
theorem tw_none {p : Nat → Bool} {t : B} {i : Nat} (h : t[i]? = none) : (t.drop i).takeWhile p = [] := by
  rw [drop_none h]
  rfl
/-- what a test of the byte says of the run: it goes on, or it's at its end -/
theorem tw_test {p : Nat → Bool} {q : Int → Bool} (hq : ∀ c : Nat, p c = q c) (h1 : q (-1) = false) (t : B) (i : Nat) :
    (q (bAt t i) = true → ∃ c, t[i]? = some c ∧ (t.drop i).takeWhile p = c :: (t.drop (i + 1)).takeWhile p ∧ p c = true) ∧ (q (bAt t i) = false → (t.drop i).takeWhile p = []) := by
  rcases bAt_cases t i with ⟨e, eb, _⟩ | ⟨c, e, eb, _⟩
  · rw [eb]
    exact ⟨fun z => absurd z (by rw [h1]; decide), fun _ => tw_none e⟩
  · rw [eb]
    refine ⟨fun z => ⟨c, e, tw_some e (by rw [hq]; exact z), by rw [hq]; exact z⟩, fun z => tw_stop e (by rw [hq, z]; decide)⟩
theorem headD_bAt (t : B) (i : Nat) (q : Int → Bool) (p : Nat → Bool) (hq : ∀ c : Nat, p c = q c) (h1 : q (-1) = false) (h0 : p 0 = false) : p ((t.drop i).headD 0) = q (bAt t i) := by
  rcases bAt_cases t i with ⟨_, eb, ed, _⟩ | ⟨c, _, eb, ed, _⟩
  · rw [eb, ed, h1]
    exact h0
  · rw [eb, ed, ← hq]
    rfl
theorem headD_nm (t : B) (i : Nat) : Rd24.inName ((t.drop i).headD 0) = nmI (bAt t i) := headD_bAt t i nmI Rd24.inName nm_iff nmI_neg (by decide)
end Tk
namespace Tk
/-! ### 5. a byte of a string -/
/-- string_byte: the place behind, the byte; -1: none -/
def sB (t : B) (i : Nat) : Nat × Int :=
  if bAt t i ≠ 92 then (if 32 ≤ bAt t i ∧ bAt t i ≤ 126 ∧ bAt t i ≠ 34 then (i + 1, bAt t i) else (i, -1))
  else if bAt t (i + 1) = 120 then (if 0 ≤ hexI (bAt t (i + 2)) ∧ 0 ≤ hexI (bAt t (i + 3)) then (i + 4, 16 * hexI (bAt t (i + 2)) + hexI (bAt t (i + 3))) else (i, -1))
  else (i + 2, escI (bAt t (i + 1)))
abbrev SO := Option (B × Nat × B)
def more (y : Nat) (k : Nat) (o : SO) : SO := o.map fun x => (y :: x.1, x.2.1 + k, x.2.2)
theorem str_plain {c : Nat} {r : B} (h1 : c ≠ 92) (h2 : c ≠ 34) : Rd24.stringOf (c :: r) = if c ≠ 92 ∧ 32 ≤ c ∧ c ≤ 126 then more c 1 (Rd24.stringOf r) else none := by
  rw [Rd24.stringOf]
  · rfl
  all_goals (intros; simp_all)
theorem str_esc {c y : Nat} {r : B} (h : escI c = (y : Int)) : Rd24.stringOf (92 :: c :: r) = more y 2 (Rd24.stringOf r) := by
  unfold escI at h
  by_cases h1 : (c : Int) = 110
  · rw [if_pos h1] at h
    obtain rfl : c = 110 := by omega
    obtain rfl : y = 10 := by omega
    rfl
  · rw [if_neg h1] at h
    by_cases h2 : (c : Int) = 116
    · rw [if_pos h2] at h
      obtain rfl : c = 116 := by omega
      obtain rfl : y = 9 := by omega
      rfl
    · rw [if_neg h2] at h
      by_cases h3 : (c : Int) = 92
      · rw [if_pos h3] at h
        obtain rfl : c = 92 := by omega
        obtain rfl : y = 92 := by omega
        rfl
      · rw [if_neg h3] at h
        by_cases h4 : (c : Int) = 34
        · rw [if_pos h4] at h
          obtain rfl : c = 34 := by omega
          obtain rfl : y = 34 := by omega
          rfl
        · rw [if_neg h4] at h
          omega
theorem str_hex {a b p q : Nat} {r : B} (ha : Rd24.hexOf a = some p) (hb : Rd24.hexOf b = some q) : Rd24.stringOf (92 :: 120 :: a :: b :: r) = more (16 * p + q) 4 (Rd24.stringOf r) := by
  rw [Rd24.stringOf, ha, hb]
  rfl
theorem str_hex1 {a b : Nat} {r : B} (ha : Rd24.hexOf a = none) : Rd24.stringOf (92 :: 120 :: a :: b :: r) = none := by
  rw [Rd24.stringOf, ha]
  rfl
theorem str_hex2 {a b : Nat} {r : B} (hb : Rd24.hexOf b = none) : Rd24.stringOf (92 :: 120 :: a :: b :: r) = none := by
  rw [Rd24.stringOf, hb]
  cases Rd24.hexOf a <;> rfl
theorem str_back {r : B} (h : ∀ c s, r = c :: s → c ≠ 110 ∧ c ≠ 116 ∧ c ≠ 92 ∧ c ≠ 34 ∧ (c = 120 → s.length < 2)) : Rd24.stringOf (92 :: r) = none := by
  rw [Rd24.stringOf]
  · exact if_neg fun z => z.1 rfl
  all_goals (intros; subst_vars)

  · contradiction
  · exact absurd rfl (h _ _ rfl).1
  · exact absurd rfl (h _ _ rfl).2.1
  · exact absurd rfl (h _ _ rfl).2.2.1
  · exact absurd rfl (h _ _ rfl).2.2.2.1
  · have := (h _ _ rfl).2.2.2.2 rfl
    simp at this
    omega
/-- one step of a string: a byte y, or its end, or what can't be -/
theorem sB_step (t : B) (i : Nat) : (∀ y : Int, (sB t i).2 = y → 0 ≤ y → Rd24.stringOf (t.drop i) = more y.toNat ((sB t i).1 - i) (Rd24.stringOf (t.drop (sB t i).1)) ∧ i < (sB t i).1 ∧ i < t.length) ∧
    ((sB t i).2 < 0 → (bAt t i = 34 → Rd24.stringOf (t.drop i) = some ([], 1, t.drop (i + 1))) ∧ (bAt t i ≠ 34 → Rd24.stringOf (t.drop i) = none)) := by
  unfold sB
  rcases bAt_cases t i with ⟨_, eb, ed, _⟩ | ⟨c, _, eb, ed, hlt⟩
  · rw [eb, if_pos (by decide), if_neg (by omega)]
    refine ⟨fun y e h => ?_, fun _ => ⟨fun z => absurd z (by decide), fun _ => by rw [ed]; rfl⟩⟩
    have e' : (-1 : Int) = y := e
    omega
  · rw [eb, ed]
    by_cases h1 : (c : Int) ≠ 92
    · rw [if_pos h1]
      by_cases h2 : 32 ≤ (c : Int) ∧ (c : Int) ≤ 126 ∧ (c : Int) ≠ 34
      · rw [if_pos h2]
        refine ⟨fun y e h => ?_, fun z => ?_⟩
        · obtain rfl : (c : Int) = y := e
          refine ⟨?_, by show i < i + 1; omega, hlt⟩
          rw [str_plain (by omega) (by omega), if_pos (by omega)]
          show more c 1 _ = more (c : Int).toNat (i + 1 - i) (Rd24.stringOf (t.drop (i + 1)))
          rw [Int.toNat_natCast, Nat.add_sub_cancel_left]
        · have z' : (c : Int) < 0 := z
          omega
      · rw [if_neg h2]
        refine ⟨fun y e h => ?_, fun _ => ⟨fun z => ?_, fun z => ?_⟩⟩
        · have e' : (-1 : Int) = y := e
          omega
        · obtain rfl : c = 34 := by omega
          rfl
        · rw [str_plain (by omega) (by omega), if_neg (by omega)]
    · rw [if_neg h1]
      have h1' : c = 92 := by omega
      subst h1'
      rcases bAt_cases t (i + 1) with ⟨_, eb1, ed1, _⟩ | ⟨c1, _, eb1, ed1, _⟩
      · rw [eb1, if_neg (by decide), ed1]
        refine ⟨fun y e h => ?_, fun _ => ⟨fun z => absurd z (by decide), fun _ => rfl⟩⟩
        have e' : escI (-1) = y := e
        have : escI (-1) = -1 := by decide
        omega
      · rw [eb1, ed1]
        by_cases h3 : (c1 : Int) = 120
        · rw [if_pos h3]
          have h3' : c1 = 120 := by omega
          subst h3'
          rcases bAt_cases t (i + 2) with ⟨_, eb2, ed2, l2⟩ | ⟨c2, _, eb2, ed2, _⟩
          · rw [eb2, if_neg (by rw [hexI_m1]; omega)]
            refine ⟨fun y e h => ?_, fun _ => ⟨fun z => absurd z (by decide), fun _ => ?_⟩⟩
            · have e' : (-1 : Int) = y := e
              omega
            · rw [ed2]
              exact str_back fun c s e => by
                cases e
                refine ⟨by decide, by decide, by decide, by decide, fun _ => by simp⟩
          · rcases bAt_cases t (i + 3) with ⟨_, eb3, ed3, l3⟩ | ⟨c3, _, eb3, ed3, _⟩
            · rw [eb2, eb3, if_neg (by rw [hexI_m1]; omega)]
              refine ⟨fun y e h => ?_, fun _ => ⟨fun z => absurd z (by decide), fun _ => ?_⟩⟩
              · have e' : (-1 : Int) = y := e
                omega
              · rw [ed2, ed3]
                exact str_back fun c s e => by
                  cases e
                  refine ⟨by decide, by decide, by decide, by decide, fun _ => by simp⟩
            · rw [eb2, eb3, ed2, ed3]
              by_cases h4 : 0 ≤ hexI c2 ∧ 0 ≤ hexI c3
              · rw [if_pos h4]
                refine ⟨fun y e h => ?_, fun z => ?_⟩
                · obtain rfl : 16 * hexI c2 + hexI c3 = y := e
                  refine ⟨?_, by show i < i + 4; omega, hlt⟩
                  rw [str_hex (hex_some h4.1) (hex_some h4.2)]
                  show more _ 4 _ = more (16 * hexI c2 + hexI c3).toNat (i + 4 - i) (Rd24.stringOf (t.drop (i + 4)))
                  rw [Nat.add_sub_cancel_left, show (16 * hexI c2 + hexI c3).toNat = 16 * (hexI c2).toNat + (hexI c3).toNat by omega]
                · have z' : 16 * hexI c2 + hexI c3 < 0 := z
                  omega
              · rw [if_neg h4]
                refine ⟨fun y e h => ?_, fun _ => ⟨fun z => absurd z (by decide), fun _ => ?_⟩⟩
                · have e' : (-1 : Int) = y := e
                  omega
                · by_cases h5 : 0 ≤ hexI c2
                  · exact str_hex2 (hex_none fun z => h4 ⟨h5, z⟩)
                  · exact str_hex1 (hex_none h5)
        · rw [if_neg h3]
          refine ⟨fun y e h => ?_, fun z => ⟨fun z => absurd z (by decide), fun _ => ?_⟩⟩
          · have e' : escI c1 = y := e
            refine ⟨?_, by show i < i + 2; omega, hlt⟩
            rw [str_esc (y := y.toNat) (by omega)]
            show more _ 2 _ = more y.toNat (i + 2 - i) (Rd24.stringOf (t.drop (i + 2)))
            rw [Nat.add_sub_cancel_left]
          · have z' : escI c1 < 0 := z
            refine str_back fun c s e => ?_
            cases e
            refine ⟨fun q => ?_, fun q => ?_, fun q => ?_, fun q => ?_, fun q => absurd q (by omega)⟩
            all_goals (subst q; revert z'; decide)
end Tk
namespace Tk
/-! ### 6. how long a token is -/
theorem sB_le (t : B) (i : Nat) (h : 0 ≤ (sB t i).2) : (sB t i).1 ≤ t.length := by
  unfold sB at h ⊢
  rcases bAt_cases t i with ⟨_, eb, ed, _⟩ | ⟨c, _, eb, ed, hlt⟩
  · rw [eb, if_pos (by decide), if_neg (by omega)] at h
    exact absurd h (by show ¬ (0 : Int) ≤ -1; decide)
  · rw [eb] at h ⊢
    by_cases h1 : (c : Int) ≠ 92
    · rw [if_pos h1] at h ⊢
      by_cases h2 : 32 ≤ (c : Int) ∧ (c : Int) ≤ 126 ∧ (c : Int) ≠ 34
      · rw [if_pos h2]
        exact hlt
      · rw [if_neg h2] at h
        exact absurd h (by show ¬ (0 : Int) ≤ -1; decide)
    · rw [if_neg h1] at h ⊢
      rcases bAt_cases t (i + 1) with ⟨_, eb1, ed1, _⟩ | ⟨c1, _, eb1, ed1, hl1⟩
      · rw [eb1, if_neg (by decide)] at h
        exact absurd h (by show ¬ (0 : Int) ≤ escI (-1); decide)
      · rw [eb1] at h ⊢
        by_cases h3 : (c1 : Int) = 120
        · rw [if_pos h3] at h ⊢
          by_cases h4 : 0 ≤ hexI (bAt t (i + 2)) ∧ 0 ≤ hexI (bAt t (i + 3))
          · rw [if_pos h4]
            rcases bAt_cases t (i + 3) with ⟨_, eb2, _⟩ | ⟨_, _, _, _, l2⟩
            · rw [eb2, hexI_m1] at h4
              omega
            · exact l2
          · rw [if_neg h4] at h
            exact absurd h (by show ¬ (0 : Int) ≤ -1; decide)
        · rw [if_neg h3]
          exact hl1
theorem str_len : ∀ (n : Nat) (t : B) (i : Nat) (x : B × Nat × B), t.length - i ≤ n → Rd24.stringOf (t.drop i) = some x → x.1.length + 1 ≤ x.2.1 ∧ x.2.1 + i ≤ t.length
  | n, t, i, x, hn, e => by
    obtain ⟨s1, s2⟩ := sB_step t i
    by_cases h : 0 ≤ (sB t i).2
    · obtain ⟨e1, h1, h2⟩ := s1 _ rfl h
      rw [e1] at e
      unfold more at e
      cases q : Rd24.stringOf (t.drop (sB t i).1) with
      | none =>
        rw [q] at e
        cases e
      | some y =>
        rw [q] at e
        cases e
        have h3 := sB_le t i h
        match n, hn with
        | 0, hn => omega
        | n + 1, hn =>
          obtain ⟨a, b⟩ := str_len n t (sB t i).1 y (by omega) q
          refine ⟨?_, ?_⟩
          · show y.1.length + 1 + 1 ≤ y.2.1 + ((sB t i).1 - i)
            omega
          · show y.2.1 + ((sB t i).1 - i) + i ≤ t.length
            omega
    · obtain ⟨a, b⟩ := s2 (by omega)
      by_cases h34 : bAt t i = 34
      · rw [a h34] at e
        cases e
        rcases bAt_cases t i with ⟨_, eb, _⟩ | ⟨c, _, _, _, hlt⟩
        · rw [eb] at h34
          exact absurd h34 (by decide)
        · refine ⟨by show 0 + 1 ≤ 1; omega, ?_⟩
          show 1 + i ≤ t.length
          omega
      · rw [b h34] at e
        cases e
theorem tw_len (p : Nat → Bool) (l : B) : (l.takeWhile p).length ≤ l.length := by
  induction l with
  | nil => exact Nat.le_refl _
  | cons c r ih =>
    rw [List.takeWhile_cons]
    split
    · exact Nat.succ_le_succ ih
    · exact Nat.zero_le _
/-- kind 4: one sign, or two -/
def Sgn (b : B) : Prop := (∃ c, b = [c] ∧ c < 256) ∨ ∃ c d, b = [c, d] ∧ 1 ≤ c ∧ d < 256
theorem two_sgn {l : B} (h : Rd24.TWO.contains l = true) : l.length = 2 ∧ Sgn l := by
  have e : l ∈ Rd24.TWO := List.contains_iff_mem.mp h
  have : l = [61, 61] ∨ l = [33, 61] ∨ l = [60, 61] ∨ l = [62, 61] := by
    have q : Rd24.TWO = [[61, 61], [33, 61], [60, 61], [62, 61]] := by decide
    rw [q] at e
    simpa using e
  rcases this with rfl | rfl | rfl | rfl <;> exact ⟨rfl, .inr ⟨_, _, rfl, by decide, by decide⟩⟩
theorem one_lt {c : Nat} (h : Rd24.ONE.contains c = true) : c < 256 := by
  have e : c ∈ Rd24.ONE := List.contains_iff_mem.mp h
  have q : ∀ x ∈ Rd24.ONE, x < 256 := by decide
  exact q c e
/-- what the scanner asks of a token that's there -/
structure Fits (l : B) (c : Core) : Prop where
  pos : 1 ≤ c.len
  le : c.len ≤ l.length
  bl : c.b.length ≤ c.len
  kind : c.kind ≤ 4
  sgn : c.kind = 4 → Sgn c.b
theorem core_fits {l : B} {c : Core} (hl : l ≠ []) (h : core l = some c) : Fits l c := by
  cases l with
  | nil => exact absurd rfl hl
  | cons a r =>
    by_cases h1 : Rd24.letter a = true
    · rw [core_name h1] at h
      unfold cName at h
      by_cases q : 32 < (List.takeWhile Rd24.inName (a :: r)).length
      · rw [if_pos q] at h
        cases h
      · rw [if_neg q] at h
        cases h
        have h3 : Rd24.inName a = true := by simp [Rd24.inName, h1]
        refine ⟨?_, tw_len _ _, Nat.le_refl _, ?_, fun z => ?_⟩
        · show 1 ≤ (List.takeWhile Rd24.inName (a :: r)).length
          rw [List.takeWhile_cons, if_pos h3]
          exact Nat.succ_le_succ (Nat.zero_le _)
        · show (if _ then 1 else 0) ≤ 4
          split <;> decide
        · have z' : (if Rd24.WORDS.contains (List.takeWhile Rd24.inName (a :: r)) = true then 1 else 0) = 4 := z
          split at z' <;> cases z'
    · by_cases h2 : Rd24.digit a = true
      · rw [core_num h2] at h
        unfold cNum at h
        rw [List.headD_cons] at h
        by_cases h3 : a = 48 ∧ (List.drop 1 (a :: r)).headD 0 = 120
        · rw [if_pos h3] at h
          unfold cHex at h
          have e1 : List.drop 2 (a :: r) = List.drop 1 r := rfl
          rw [e1] at h
          by_cases q : (List.takeWhile Rd24.isHex (List.drop 1 r)).isEmpty = true ∨ 16 < (List.takeWhile Rd24.isHex (List.drop 1 r)).length ∨ Rd24.inName (((List.drop 1 r).drop (List.takeWhile Rd24.isHex (List.drop 1 r)).length).headD 0) = true
          · rw [if_pos q] at h
            cases h
          · rw [if_neg q] at h
            cases h
            have e2 := h3.2
            have h5 : r ≠ [] := fun z => by
              rw [z] at e2
              exact absurd e2 (by show ¬ (0 = 120); decide)
            have h6 : 1 ≤ r.length := List.length_pos_iff.mpr h5
            have h7 := tw_len Rd24.isHex (List.drop 1 r)
            rw [List.length_drop] at h7
            refine ⟨by show 1 ≤ 2 + _; omega, ?_, Nat.zero_le _, by show 2 ≤ 4; omega, fun z => absurd z (by show ¬ (2 = 4); omega)⟩
            show 2 + (List.takeWhile Rd24.isHex (List.drop 1 r)).length ≤ r.length + 1
            omega
        · rw [if_neg h3] at h
          unfold cDec at h
          by_cases q : 9223372036854775807 < Rd24.valueOf 10 (List.takeWhile Rd24.digit (a :: r)) ∨ Rd24.inName ((List.drop (List.takeWhile Rd24.digit (a :: r)).length (a :: r)).headD 0) = true
          · rw [if_pos q] at h
            cases h
          · rw [if_neg q] at h
            cases h
            refine ⟨?_, tw_len _ _, Nat.zero_le _, by show 2 ≤ 4; omega, fun z => absurd z (by show ¬ (2 = 4); omega)⟩
            show 1 ≤ (List.takeWhile Rd24.digit (a :: r)).length
            rw [List.takeWhile_cons, if_pos h2]
            exact Nat.succ_le_succ (Nat.zero_le _)
      · by_cases h4 : a = 34
        · subst h4
          rw [core_str] at h
          unfold cStr at h
          cases e : Rd24.stringOf r with
          | none =>
            rw [e] at h
            cases h
          | some x =>
            rw [e, Option.bind_some] at h
            by_cases q : 1024 < x.1.length
            · rw [if_pos q] at h
              cases h
            · rw [if_neg q] at h
              cases h
              obtain ⟨b1, b2⟩ := str_len r.length r 0 x (Nat.sub_le _ _) e
              refine ⟨by show 1 ≤ x.2.1 + 1; omega, by show x.2.1 + 1 ≤ r.length + 1; omega, by show x.1.length ≤ x.2.1 + 1; omega, by show 3 ≤ 4; omega, fun z => absurd z (by show ¬ (3 = 4); omega)⟩
        · rw [core_sign h1 h2 h4] at h
          unfold cSign at h
          rw [List.headD_cons] at h
          by_cases q : Rd24.TWO.contains (List.take 2 (a :: r)) = true
          · rw [if_pos q] at h
            cases h
            obtain ⟨b1, b2⟩ := two_sgn q
            refine ⟨by show 1 ≤ 2; omega, ?_, by show (List.take 2 (a :: r)).length ≤ 2; omega, by show 4 ≤ 4; omega, fun _ => b2⟩
            rw [List.length_take] at b1
            show 2 ≤ (a :: r).length
            omega
          · rw [if_neg q] at h
            by_cases q2 : Rd24.ONE.contains a = true
            · rw [if_pos q2] at h
              cases h
              exact ⟨by show 1 ≤ 1; omega, by show 1 ≤ r.length + 1; omega, by show 1 ≤ 1; omega, by show 4 ≤ 4; omega, fun _ => .inl ⟨a, rfl, one_lt q2⟩⟩
            · rw [if_neg q2] at h
              cases h
/-! ### 7. the specification's scanner, without its fuel -/
def tk (line col : Nat) (l : B) : List Rd24.Tok := Rd24.tokens (l.length + 1) line col l
theorem fuel : ∀ (f g line col : Nat) (l : B), l.length < f → l.length < g → Rd24.tokens f line col l = Rd24.tokens g line col l
  | 0, _, _, _, _, h, _ => absurd h (Nat.not_lt_zero _)
  | _ + 1, 0, _, _, _, _, h => absurd h (Nat.not_lt_zero _)
  | f + 1, g + 1, line, col, [], _, _ => rfl
  | f + 1, g + 1, line, col, c :: r, h1, h2 => by
    have h1' : r.length < f := Nat.lt_of_succ_lt_succ h1
    have h2' : r.length < g := Nat.lt_of_succ_lt_succ h2
    rw [Rd24.tokens, Rd24.tokens]
    by_cases q1 : c = 10
    · rw [if_pos q1, if_pos q1]
      exact fuel f g _ _ r h1' h2'
    · rw [if_neg q1, if_neg q1]
      by_cases q2 : c = 32 ∨ c = 9 ∨ c = 13
      · rw [if_pos q2, if_pos q2]
        exact fuel f g _ _ r h1' h2'
      · rw [if_neg q2, if_neg q2]
        by_cases q3 : c = 35
        · rw [if_pos q3, if_pos q3]
          dsimp only
          refine fuel f g _ _ _ ?_ ?_ <;> (rw [List.length_drop]; omega)
        · rw [if_neg q3, if_neg q3]
          obtain ⟨a1, a2⟩ := token_core (c :: r) line col (by simp)
          cases e : core (c :: r) with
          | none =>
            rw [a1 e]
          | some x =>
            obtain ⟨b, e2, _⟩ := a2 x e
            have F := core_fits (by simp) e
            rw [e2]
            dsimp only
            rw [fuel f g line (col + x.len) ((c :: r).drop x.len) ?_ ?_]
            all_goals
              rw [List.length_drop, List.length_cons]
              have := F.pos
              omega
theorem tk_nil {line col : Nat} : tk line col [] = [⟨5, [], 0, line, col⟩] := rfl
theorem tk_line {line col : Nat} {r : B} : tk line col (10 :: r) = tk (line + 1) 1 r := by
  unfold tk
  rw [Rd24.tokens, if_pos rfl]
  exact fuel _ _ _ _ _ (by simp) (by simp)
theorem tk_blank {line col c : Nat} {r : B} (h : c = 32 ∨ c = 9 ∨ c = 13) : tk line col (c :: r) = tk line (col + 1) r := by
  unfold tk
  rw [Rd24.tokens, if_neg (by omega), if_pos h]
  exact fuel _ _ _ _ _ (by simp) (by simp)
theorem tk_note {line col : Nat} {r : B} : tk line col (35 :: r) = tk line (col + 1 + (r.takeWhile fun d => d != 10).length) (r.drop (r.takeWhile fun d => d != 10).length) := by
  unfold tk
  rw [Rd24.tokens, if_neg (by decide), if_neg (by decide), if_pos rfl]
  dsimp only
  refine fuel _ _ _ _ _ ?_ ?_
  · rw [List.length_drop, List.length_cons]
    omega
  · omega
theorem tk_bad {line col c : Nat} {r : B} (h : ¬ (c = 32 ∨ c = 9 ∨ c = 13 ∨ c = 10)) (h2 : c ≠ 35) (e : core (c :: r) = none) : tk line col (c :: r) = [⟨6, [], 0, line, col⟩] := by
  unfold tk
  rw [Rd24.tokens, if_neg (by omega), if_neg (by omega), if_neg h2]
  rw [(token_core (c :: r) line col (by simp)).1 e]
theorem tk_token {line col c : Nat} {r : B} {x : Core} (h : ¬ (c = 32 ∨ c = 9 ∨ c = 13 ∨ c = 10)) (h2 : c ≠ 35) (e : core (c :: r) = some x) :
    ∃ b, tk line col (c :: r) = ⟨x.kind, b, x.n, line, col⟩ :: tk line (col + x.len) ((c :: r).drop x.len) ∧ (x.kind ≠ 2 → b = x.b) := by
  obtain ⟨b, e2, e3⟩ := (token_core (c :: r) line col (by simp)).2 x e
  refine ⟨b, ?_, e3⟩
  have F := core_fits (by simp) e
  unfold tk
  rw [Rd24.tokens, if_neg (by omega), if_neg (by omega), if_neg h2, e2]
  dsimp only
  rw [fuel _ (((c :: r).drop x.len).length + 1) line (col + x.len) ((c :: r).drop x.len) ?_ (by omega)]
  rw [List.length_drop, List.length_cons]
  have := F.pos
  omega
theorem tokensOf_tk (t : B) : Rd24.tokensOf t = tk 1 1 t := rfl
end Tk
namespace Tk
/-! ### 8. what is told -/
def asInts (b : B) : List Int := b.map fun (c : Nat) => (c : Int)
/-- token_bytes -/
def worthOf (k : Nat) (b : B) (n : Int) : List Int := if k = 2 then [n] else asInts b
def toldT (x : Rd24.Tok) : List Int := [(x.kind : Int), (x.line : Int), (x.col : Int), ((worthOf x.kind x.b x.n).length : Int)] ++ worthOf x.kind x.b x.n
theorem told_is (x : Rd24.Tok) : Rd24.tellTok x = toldT x := by
  unfold Rd24.tellTok toldT worthOf
  by_cases h : x.kind = 2
  · rw [if_pos h, if_pos h, h]
    rfl
  · rw [if_neg h, if_neg h]
    unfold Rd24.row_ asInts Rd24.nats
    rw [List.length_map]
    rfl
theorem told_len (x : Rd24.Tok) : (toldT x).length = 4 + (worthOf x.kind x.b x.n).length := by
  unfold toldT
  rw [List.length_append]
  rfl
def sumL (l : List Rd24.Tok) : Nat := (l.map fun x => (toldT x).length).sum
/-- tokens, and what ends them -/
structure Shape (l : B) (ts init : List Rd24.Tok) (last : Rd24.Tok) : Prop where
  eq : ts = init ++ [last]
  four : ∀ x ∈ init, x.kind ≤ 4
  two : last.kind = 5 ∨ last.kind = 6
  sum : sumL init ≤ 5 * l.length
theorem Shape.mono {l l' : B} {ts init : List Rd24.Tok} {last : Rd24.Tok} (s : Shape l ts init last) (h : l.length ≤ l'.length) : Shape l' ts init last := ⟨s.eq, s.four, s.two, Nat.le_trans s.sum (Nat.mul_le_mul_left 5 h)⟩
theorem tk_shape : ∀ (n : Nat) (l : B) (line col : Nat), l.length ≤ n → ∃ init last, Shape l (tk line col l) init last
  | _, [], line, col, _ => ⟨[], _, tk_nil, (fun _ h => by cases h), .inl rfl, Nat.zero_le _⟩
  | 0, c :: r, _, _, h => absurd h (Nat.not_succ_le_zero _)
  | n + 1, c :: r, line, col, h => by
    have hr : r.length ≤ n := Nat.le_of_succ_le_succ h
    by_cases h1 : c = 10
    · subst h1
      rw [tk_line]
      obtain ⟨i, l, s⟩ := tk_shape n r (line + 1) 1 hr
      exact ⟨i, l, s.mono (Nat.le_succ _)⟩
    · by_cases h2 : c = 32 ∨ c = 9 ∨ c = 13
      · rw [tk_blank h2]
        obtain ⟨i, l, s⟩ := tk_shape n r line (col + 1) hr
        exact ⟨i, l, s.mono (Nat.le_succ _)⟩
      · by_cases h3 : c = 35
        · subst h3
          rw [tk_note]
          have hd : (r.drop (r.takeWhile fun d => d != 10).length).length ≤ r.length := by
            rw [List.length_drop]
            omega
          obtain ⟨i, l, s⟩ := tk_shape n (r.drop (r.takeWhile fun d => d != 10).length) line (col + 1 + (r.takeWhile fun d => d != 10).length) (Nat.le_trans hd hr)
          exact ⟨i, l, s.mono (Nat.le_trans hd (Nat.le_succ _))⟩
        · cases e : core (c :: r) with
          | none =>
            rw [tk_bad (by omega) h3 e]
            exact ⟨[], _, rfl, (fun _ h => by cases h), .inr rfl, Nat.zero_le _⟩
          | some x =>
            obtain ⟨b, e2, e3⟩ := tk_token (line := line) (col := col) (by omega) h3 e
            rw [e2]
            have F := core_fits (by simp) e
            have f1 := F.pos
            have f2 := F.le
            have hd : ((c :: r).drop x.len).length + x.len = (c :: r).length := by
              rw [List.length_drop]
              omega
            obtain ⟨i, l, s⟩ := tk_shape n ((c :: r).drop x.len) line (col + x.len) (by
              rw [List.length_cons] at hd
              omega)
            refine ⟨⟨x.kind, b, x.n, line, col⟩ :: i, l, by rw [s.eq]; rfl, fun y hy => ?_, s.two, ?_⟩
            · rcases List.mem_cons.mp hy with rfl | hy
              · exact F.kind
              · exact s.four y hy
            · have s5 := s.sum
              have hw : (worthOf x.kind b x.n).length ≤ x.len := by
                unfold worthOf
                by_cases q : x.kind = 2
                · rw [if_pos q]
                  exact f1
                · rw [if_neg q, e3 q]
                  unfold asInts
                  rw [List.length_map]
                  exact F.bl
              unfold sumL at s5 ⊢
              rw [List.map_cons, List.sum_cons, told_len]
              show 4 + (worthOf x.kind b x.n).length + _ ≤ _
              omega
theorem find_last {ts init : List Rd24.Tok} {last : Rd24.Tok} (e : ts = init ++ [last]) (h : ∀ x ∈ init, x.kind ≤ 4) : ts.find? (fun t => t.kind == 6) = if last.kind = 6 then some last else none := by
  have h0 : init.find? (fun t => t.kind == 6) = none := by
    rw [List.find?_eq_none]
    intro x hx
    have := h x hx
    simp
    omega
  rw [e, List.find?_append, h0, Option.none_or]
  by_cases q : last.kind = 6
  · rw [if_pos q]
    simp [q]
  · rw [if_neg q]
    simp [q]
/-- what is due -/
theorem due {t : B} {init : List Rd24.Tok} {last : Rd24.Tok} (ht : ∀ c ∈ t, c ≤ 255) (hl : t.length ≤ 20000) (s : Shape t (Rd24.tokensOf t) init last) :
    PyRd24.tokens (asInts t) = if last.kind = 6 then [-1, (last.line : Int), (last.col : Int)] else (init.length : Int) :: init.flatMap toldT := by
  have e1 : Rd24Neutral.natsOf (asInts t) = t := by
    unfold Rd24Neutral.natsOf asInts
    rw [List.map_map]
    have : ∀ c ∈ t, (Int.toNat ∘ fun c : Nat => (c : Int)) c = c := fun c _ => Int.toNat_natCast c
    rw [List.map_congr_left this]
    exact List.map_id' t
  have ok : Rd24.okText t = true := by
    unfold Rd24.okText
    rw [Bool.and_eq_true, List.all_eq_true]
    exact ⟨decide_eq_true (by omega), fun c hc => decide_eq_true (by have := ht c hc; omega)⟩
  show (Rd24.answer (.tokens (Rd24Neutral.natsOf (asInts t)))).value :: (Rd24.answer (.tokens (Rd24Neutral.natsOf (asInts t)))).out = _
  rw [e1]
  unfold Rd24.answer
  dsimp only
  rw [if_neg (by rw [ok]; decide), find_last s.eq s.four]
  by_cases q : last.kind = 6
  · rw [if_pos q, if_pos q]
    rfl
  · rw [if_neg q, if_neg q]
    have e2 : (Rd24.tokensOf t).dropLast = init := by
      rw [s.eq]
      exact List.dropLast_concat
    show (((Rd24.tokensOf t).dropLast.length : Nat) : Int) :: (Rd24.tokensOf t).dropLast.flatMap Rd24.tellTok = _
    rw [e2]
    congr 1
    exact congrArg (fun g => init.flatMap g) (funext told_is)
end Tk
set_option maxRecDepth 100000
set_option maxHeartbeats 4000000
namespace Tk
open PySem PySem.Spec PyProof.Rows L2
/-! ### 9. the text's defs, the constants of its top -/
def top (i : Nat) : Stmt := PySem.Challenge.pw_madeimage_s02_tokens.main.body.getD i (.Pass ⟨0, 0, 0, 0⟩)
/-- bytes as Python's asInts -/
def vI (t : B) : List V := (asInts t).map V.int
theorem vI_get {t : B} {i c : Nat} (h : t[i]? = some c) : (vI t)[i]? = some (.int (c : Int)) := by
  unfold vI asInts
  rw [List.getElem?_map, List.getElem?_map, h]
  rfl
theorem vI_len (t : B) : (vI t).length = t.length := by
  unfold vI asInts
  rw [List.length_map, List.length_map]
/-- a name of the module holds a value that needs no heap -/
def Kv (mg : Str → Option Value) (x : Str) (v : V) : Prop := ∃ u, mg x = some u ∧ RelV v u
/-- a name of the module holds a tuple -/
def Tab (K : PySem.W.Frag) (mg : Str → Option Value) (x : Str) (xs : List V) : Prop := ∃ a, Kv mg x (.ref a) ∧ ∀ H : Hp, SqT K H a xs
def onesV : List V := [.int 40, .int 41, .int 123, .int 125, .int 91, .int 93, .int 44, .int 59, .int 58, .int 46, .int 61, .int 60, .int 62, .int 43, .int 45, .int 42, .int 47, .int 37]
def twosV : List V := [.int 15677, .int 8509, .int 15421, .int 15933]
def blanksV : List V := [.int 32, .int 9, .int 13, .int 10]
def strOf (b : B) : Str := ⟨b.toArray⟩
def wordsV : List V := Rd24.WORDS.map fun b => .str (strOf b)
def signsS : Str := "ABCDEFGHIJKLMNOPQRSTUVWXYZabcdefghijklmnopqrstuvwxyz_0123456789"
/-- the written dict ESCAPES -/
structure EscAt (K : PySem.W.Frag) (a : Addr) : Prop where
  at_ : ∃ (t1 t2 t3 t4 u1 u2 u3 u4 : Tok) (n : Nat), K.lookup a = some ⟨.type "dict", none, .dict #[⟨110, .int 110 t1, .int 10 u1⟩, ⟨116, .int 116 t2, .int 9 u2⟩, ⟨92, .int 92 t3, .int 92 u3⟩, ⟨34, .int 34 t4, .int 34 u4⟩] n, #[]⟩
  low : (a == sysModules) = false
structure Txt (K : PySem.W.Frag) (mg : Str → Option Value) : Prop where
  kNAME : Kv mg "NAME" (.int 0)
  kWORD : Kv mg "WORD" (.int 1)
  kNUMBER : Kv mg "NUMBER" (.int 2)
  kSTRING : Kv mg "STRING" (.int 3)
  kSIGN : Kv mg "SIGN" (.int 4)
  kBAD : Kv mg "BAD" (.int 5)
  kEND : Kv mg "END" (.int 6)
  kNAME_SIGNS : Kv mg "NAME_SIGNS" (.str signsS)
  kFIRST_SIGNS : Kv mg "FIRST_SIGNS" (.int 53)
  kLINE_END : Kv mg "LINE_END" (.int 10)
  kCOMMENT : Kv mg "COMMENT" (.int 35)
  kQUOTE : Kv mg "QUOTE" (.int 34)
  kBACK : Kv mg "BACK" (.int 92)
  kNOUGHT : Kv mg "NOUGHT" (.int 48)
  kSMALL_X : Kv mg "SMALL_X" (.int 120)
  kMOST_NAME : Kv mg "MOST_NAME" (.int 32)
  kMOST_STRING : Kv mg "MOST_STRING" (.int 1024)
  kMOST_HEX : Kv mg "MOST_HEX" (.int 16)
  kMOST_NUMBER : Kv mg "MOST_NUMBER" (.int 9223372036854775807)
  kHALF_WORDS : Kv mg "HALF_WORDS" (.int 9223372036854775808)
  kALL_WORDS : Kv mg "ALL_WORDS" (.int 18446744073709551616)
  kNOT_SO : Kv mg "NOT_SO" (.int (-8))
  kNO_TOKEN : Kv mg "NO_TOKEN" (.int (-1))
  kMOST_TEXT : Kv mg "MOST_TEXT" (.int 65536)
  tONES : Tab K mg "ONES" onesV
  tTWOS : Tab K mg "TWOS" twosV
  tWORDS : Tab K mg "WORDS" wordsV
  tBLANKS : Tab K mg "BLANKS" blanksV
  esc : ∃ a, Kv mg "ESCAPES" (.ref a) ∧ EscAt K a
  nlen : mg "len" = none
  ntuple : mg "tuple" = none
  nlist : mg "list" = none
  nord : mg "ord" = none
/-! ### 10. heaps -/
theorem same_upd {H : Hp} {p : Addr} {o : HO} (h : H p = none) : Same H (upd H p o) := fun b x e => by
  rw [upd_ne (ne_of_none e h)]
  exact e
/-! ### 10b. readings that leave the heap as it is -/
theorem ite_b {c : Prop} [Decidable c] {A B : Prop} (h1 : c → A) (h2 : ¬ c → B) : if (decide c) = true then A else B := by
  by_cases h : c
  · rw [decide_eq_true h, if_pos rfl]
    exact h1 h
  · rw [decide_eq_false h, if_neg Bool.false_ne_true]
    exact h2 h
def Pu (t : TE) (σ : L2.St) (H : Hp) (v : V) : Prop := ∀ Q : VK, Q v H → t σ H Q
def PuT (t : TT) (σ : L2.St) (H : Hp) (b : Bool) : Prop := ∀ Q : Bool → Hp → Prop, Q b H → t σ H Q
def PuA (t : TA) (σ : L2.St) (H : Hp) (vs : List V) : Prop := ∀ Q : List V → Hp → Prop, Q vs H → t σ H Q
section
variable {K : PySem.W.Frag} {σ : L2.St} {H : Hp} {ta tb tc te : TE} {t u : TT} {x y z v : V} {r : R2}
theorem pu_var {i : Nat} (h : σ[i]? = some (some v)) : Pu (tVar i) σ H v := fun _ q => ⟨v, h, q⟩
theorem pu_c : Pu (tC v) σ H v := fun _ q => q
theorem pu_is (h : Pu te σ H v) (e : v = z) : Pu te σ H z := by
  rw [← e]
  exact h
theorem put_is {a b : Bool} (h : PuT t σ H a) (e : a = b) : PuT t σ H b := by
  rw [← e]
  exact h
theorem pu_op (ha : Pu ta σ H x) (hb : Pu tb σ H y) (hr : ∀ Q : VK, Q z H → r x y H Q) : Pu (tOp r ta tb) σ H z := fun Q q => ha _ (hb _ (hr Q q))
theorem pu_I0 {g : Int → Int → V} {i j : Int} (ha : Pu ta σ H (.int i)) (hb : Pu tb σ H (.int j)) : Pu (tOp (rI0 g) ta tb) σ H (g i j) := pu_op ha hb fun _ q => ⟨i, j, rfl, rfl, q⟩
theorem pu_I {C : Int → Int → Prop} {g : Int → Int → V} {i j : Int} (ha : Pu ta σ H (.int i)) (hb : Pu tb σ H (.int j)) (hc : C i j) : Pu (tOp (rI C g) ta tb) σ H (g i j) := pu_op ha hb fun _ q => ⟨i, j, rfl, rfl, hc, q⟩
theorem pu_eq (ha : Pu ta σ H x) (hb : Pu tb σ H y) (h : scal x y = true) : Pu (tOp rEq ta tb) σ H (.bl (decide (x = y))) := pu_op ha hb fun _ q => ⟨h, q⟩
theorem pu_ne (ha : Pu ta σ H x) (hb : Pu tb σ H y) (h : scal x y = true) : Pu (tOp rNe ta tb) σ H (.bl (!decide (x = y))) := pu_op ha hb fun _ q => ⟨h, q⟩
theorem pu_neg {i : Int} (ha : Pu ta σ H (.int i)) : Pu (tUn (rU fun i => .int (-i)) ta) σ H (.int (-i)) := fun _ q => ha _ ⟨i, rfl, q⟩
theorem pu_ixL {p : Addr} {xs : List V} {i : Int} (ha : Pu ta σ H (.ref p)) (hb : Pu tb σ H (.int i)) (h : SqL K H p xs) (hv : atI xs i = some v) : Pu (tOp (rIxL K) ta tb) σ H v := pu_op ha hb fun _ q => ⟨p, xs, i, v, rfl, rfl, h, hv, q⟩
theorem pu_ixT {p : Addr} {xs : List V} {i : Int} (ha : Pu ta σ H (.ref p)) (hb : Pu tb σ H (.int i)) (h : SqT K H p xs) (hv : atI xs i = some v) : Pu (tOp (rIxT K) ta tb) σ H v := pu_op ha hb fun _ q => ⟨p, xs, i, v, rfl, rfl, h, hv, q⟩
theorem pu_in {neg : Bool} {p : Addr} {xs : List V} (ha : Pu ta σ H x) (hb : Pu tb σ H (.ref p)) (h : SqT K H p xs) (hx : flatV x = true) (hf : xs.all flatV = true) : Pu (tOp (rIn K neg) ta tb) σ H (.bl (if neg then !inV x xs else inV x xs)) :=
  pu_op ha hb fun _ q => ⟨p, xs, rfl, .inr h, hx, hf, q⟩
theorem pu_lt {i j : Int} (ha : Pu ta σ H (.int i)) (hb : Pu tb σ H (.int j)) : Pu (tOp (rI0 fun i j => .bl (decide (i < j))) ta tb) σ H (.bl (decide (i < j))) := pu_I0 ha hb
theorem pu_gt {i j : Int} (ha : Pu ta σ H (.int i)) (hb : Pu tb σ H (.int j)) : Pu (tOp (rI0 fun i j => .bl (decide (j < i))) ta tb) σ H (.bl (decide (j < i))) := pu_I0 ha hb
theorem pu_ge {i j : Int} (ha : Pu ta σ H (.int i)) (hb : Pu tb σ H (.int j)) : Pu (tOp (rI0 fun i j => .bl (decide (j ≤ i))) ta tb) σ H (.bl (decide (j ≤ i))) := pu_I0 ha hb
theorem pu_add {i j : Int} (ha : Pu ta σ H (.int i)) (hb : Pu tb σ H (.int j)) : Pu (tOp (rI0 fun i j => .int (i + j)) ta tb) σ H (.int (i + j)) := pu_I0 ha hb
theorem pu_sub {i j : Int} (ha : Pu ta σ H (.int i)) (hb : Pu tb σ H (.int j)) : Pu (tOp (rI0 fun i j => .int (i - j)) ta tb) σ H (.int (i - j)) := pu_I0 ha hb
theorem pu_mul {i j : Int} (ha : Pu ta σ H (.int i)) (hb : Pu tb σ H (.int j)) (hc : CMul i j) : Pu (tOp (rI CMul fun i j => .int (i * j)) ta tb) σ H (.int (i * j)) := pu_I ha hb hc
theorem pua_nil : PuA tNil σ H [] := fun _ q => q
theorem pua_cons {tr : TA} {vs : List V} (h : Pu te σ H x) (hr : PuA tr σ H vs) : PuA (tCons te tr) σ H (x :: vs) := fun _ q => h _ (hr _ q)
theorem pua1 (h : Pu te σ H x) : PuA (tCons te tNil) σ H [x] := pua_cons h pua_nil
theorem pua2 (h : Pu ta σ H x) (h2 : Pu tb σ H y) : PuA (tCons ta (tCons tb tNil)) σ H [x, y] := pua_cons h (pua1 h2)
theorem pu_call {sp : Sp} {vs dvs : List V} {E : XK} {ta : TA} (h : PuA ta σ H vs) (hs : ∀ (Q : VK) (E : XK), Q z H → sp (vs ++ dvs) H Q E) : Pu (tCall sp dvs E ta) σ H z := fun Q q => h _ (hs Q E q)
theorem pu_lenL {p : Addr} {xs : List V} (ha : Pu ta σ H (.ref p)) (h : SqL K H p xs) : Pu (tCB (fun xs H Q => ∃ p ys, xs = [V.ref p] ∧ (SqL K H p ys ∨ SqT K H p ys) ∧ Q (.int ys.length) H) (tCons ta tNil)) σ H (.int (xs.length : Int)) := fun _ q => ha _ ⟨p, xs, rfl, .inl h, q⟩
theorem put_test {b : Bool} (h : Pu te σ H (.bl b)) : PuT (tTest te) σ H b := fun _ q => h _ ⟨b, rfl, q⟩
theorem put_and {a b : Bool} (h1 : PuT t σ H a) (h2 : a = true → PuT u σ H b) : PuT (tAnd t u) σ H (a && b) := fun Q q => h1 _ (by
  cases a with
  | true => exact h2 rfl Q q
  | false => exact q)
theorem put_or {a b : Bool} (h1 : PuT t σ H a) (h2 : a = false → PuT u σ H b) : PuT (tOr t u) σ H (a || b) := fun Q q => h1 _ (by
  cases a with
  | true => exact q
  | false => exact h2 rfl Q q)
theorem put_not {a : Bool} (h1 : PuT t σ H a) : PuT (tNot t) σ H (!a) := fun _ q => h1 _ q
abbrev rLe : R2 := rI0 fun i j => .bl (decide (i ≤ j))
/-- lo <= b <= hi -/
theorem put_range {lo b hi : Int} (ha : Pu ta σ H (.int lo)) (hb : Pu tb σ H (.int b)) (hc : Pu tc σ H (.int hi)) : PuT (tTest (tChain rLe rLe ta tb tc)) σ H (decide (lo ≤ b ∧ b ≤ hi)) := fun Q q => ha _ (hb _ ⟨lo, b, rfl, rfl, _, rfl, ite_b
  (fun e1 => hc _ ⟨b, hi, rfl, rfl, _, rfl, by
    rw [show decide (b ≤ hi) = decide (lo ≤ b ∧ b ≤ hi) by simp [e1]]
    exact q⟩)
  (fun e1 => ⟨_, rfl, by
    rw [decide_eq_false (fun z => e1 z.1)] at q
    exact q⟩)⟩)
variable {D : Ends} {tu tw : TS}
theorem u_if {b : Bool} (h : PuT t σ H b) (h1 : b = true → tu D σ H) (h2 : b = false → tw D σ H) : tIfS t tu tw D σ H := h _ (by
  cases b with
  | true => exact h1 rfl
  | false => exact h2 rfl)
/-- an if without an else, and what follows -/
theorem u_ifr {b : Bool} (h : PuT t σ H b) (h1 : b = true → tu { D with nx := tw D } σ H) (h2 : b = false → tw D σ H) : tSeq (tIfS t tu tNext) tw D σ H := h _ (by
  cases b with
  | true => exact h1 rfl
  | false => exact h2 rfl)
theorem u_ret (h : Pu te σ H v) (k : D.rt v H) : tRet te D σ H := h _ k
theorem u_asg {i : Nat} (h : Pu te σ H v) (k : D.nx (σ.set i (some v)) H) : tAsg te (gName i) D σ H := h _ k
theorem u_aug {i : Nat} {f : Int → Int → Int} {a b : Int} (hx : σ[i]? = some (some (.int a))) (h : Pu te σ H (.int b)) (k : D.nx (σ.set i (some (.int (f a b)))) H) : tAug i te (ipI f) D σ H := ⟨.int a, hx, h _ ⟨a, b, rfl, rfl, k⟩⟩
/-- a while, by a word that falls; its test leaves the heap -/
theorem u_while (W : Nat → L2.St → Hp → Prop) (m0 : Nat) (h0 : W m0 σ H)
    (hs : ∀ m σ' H', W m σ' H' → ∃ b, PuT t σ' H' b ∧ (b = true → tu { D with nx := fun σ2 H2 => ∃ m', m' < m ∧ W m' σ2 H2, ct := fun σ2 H2 => ∃ m', m' < m ∧ W m' σ2 H2, bk := D.nx } σ' H') ∧ (b = false → D.nx σ' H')) : tWhile t tu D σ H :=
  ⟨W, ⟨m0, h0⟩, fun m σ' H' hw => by
    obtain ⟨b, hb, h1, h2⟩ := hs m σ' H' hw
    refine hb _ ?_
    cases b with
    | true => exact ⟨_, fun _ _ x => x, h1 rfl⟩
    | false => exact h2 rfl⟩
/-- xs.append(e) -/
theorem u_app {l : Addr} {xs : List V} (hl : H l = some (.lst xs)) (ha : Pu ta σ H (.ref l)) (h : Pu te σ H v) (hz : xs.length < 100000) (k : D.nx σ (upd H l (.lst (xs ++ [v])))) :
    tDrop (tBM K "list" rAppend ta (tCons te tNil)) D σ H := ha _ ⟨.inl ⟨rfl, xs, SqL.of hl⟩, h _ ⟨l, xs, v, rfl, rfl, hl, Nat.lt_of_lt_of_le hz (by decide), k⟩⟩
/-- return a new tuple -/
theorem u_rett {ta : TA} {vs : List V} (h : PuA ta σ H vs) (hl : vs.length ≤ 100000) (k : ∀ p, H p = none → D.rt (.ref p) (upd H p (.tup vs))) : tRet (tTup ta) D σ H := h _ ⟨Nat.le_trans hl (by decide), k⟩
/-- a new tuple -/
theorem u_tup {ta : TA} {vs : List V} {Q : VK} (h : PuA ta σ H vs) (hl : vs.length ≤ 100000) (k : ∀ p, H p = none → Q (.ref p) (upd H p (.tup vs))) : tTup ta σ H Q := h _ ⟨Nat.le_trans hl (by decide), k⟩
end
/-! ### 10c. what a token's def promises -/
def codeOf : B → Int
  | [c] => (c : Int)
  | [c, d] => 256 * (c : Int) + (d : Int)
  | _ => 0
def ValOk (H : Hp) (v : V) (k : Nat) (b : B) (n : Int) : Prop :=
  ((k = 0 ∨ k = 1) → v = .str (strOf b)) ∧ (k = 2 → v = .int n) ∧ (k = 3 → ∃ q, v = .ref q ∧ H q = some (.tup (vI b))) ∧ (k = 4 → v = .int (codeOf b))
theorem ValOk.same {H H' : Hp} {v : V} {k : Nat} {b : B} {n : Int} (h : ValOk H v k b n) (s : Same H H') : ValOk H' v k b n :=
  ⟨h.1, h.2.1, fun e => (by obtain ⟨q, e1, e2⟩ := h.2.2.1 e; exact ⟨q, e1, s _ _ e2⟩), h.2.2.2⟩
def Res (o : Option Core) (i : Nat) (e k : Int) (v : V) (H : Hp) : Prop := match o with
  | none => k = 5
  | some c => e = ((i + c.len : Nat) : Int) ∧ k = (c.kind : Int) ∧ ValOk H v c.kind c.b c.n
def spTokF (K : PySem.W.Frag) (ok : Nat → B → Prop) (m : B → Option Core) : Sp := fun vs H Q _ => ∃ (a : Addr) (t : B) (i : Nat), vs = [.ref a, .int (i : Int)] ∧ SqL K H a (vI t) ∧ t.length ≤ 20000 ∧ ok i t ∧
  ∀ (H' : Hp) (p : Addr) (e k : Int) (v : V), Same H H' → H p = none → H' p = some (.tup [.int e, .int k, v]) → Res (m (t.drop i)) i e k v H' → Q (.ref p) H'
theorem same_len : ∀ {vs : List V} {H : Hp} {Q : VK} {E : XK} {K : PySem.W.Frag} {ok : Nat → B → Prop} {m : B → Option Core}, spTokF K ok m vs H Q E → vs.length = (["text", "at"] : List Str).length := fun h => by
  obtain ⟨a, t, i, rfl, _⟩ := h
  rfl
section
variable {P : Program} {w : World} {K : PySem.W.Frag} {mg : Str → Option Value} {base : Heap}
/-! ### 11. byte_at -/
def spByteAt (K : PySem.W.Frag) : Sp := fun vs H Q _ => ∃ (a : Addr) (t : B) (i : Nat), vs = [.ref a, .int i] ∧ SqL K H a (vI t) ∧ Q (.int (bAt t i)) H
abbrev sByteAt : Stmt := top 51
theorem scByteAt : FnScope ["text", "at"] ["text", "at"] (defScope sByteAt) := ⟨rfl, rfl, rfl, by decide +kernel, rfl, by decide +kernel, by decide +kernel⟩
theorem cal_byte_at {f : Addr} {fd : FuncData} (F : Fun K "byte_at" "byte_at" sByteAt f fd) (T : Txt K mg) (hm : mg "byte_at" = some (.ref f)) (hb : Binds K fd ["text", "at"] []) : C8.Cal P w K mg base 1 "byte_at" (spByteAt K) [] := by
  refine ⟨f, fd, _, [], F.ok scByteAt (fun vs H Q E h => ?_) (fun cdv A outer s H vs Q E hr h => ?_), hm, F.kp, hb, .nil⟩
  · obtain ⟨a, t, i, rfl, _⟩ := h
    rfl
  · obtain ⟨a, t, i, rfl, hS, q⟩ := h
    refine ⟨_, pss_cons (ps_if (pt_cmpR op_lt (pv 1) (pe_callB call_len_seq (by rfl) T.nlen PySem.boot_len (pa_cons (pv 0) pa_nil)) (nomark _))
        (pss_one (ps_ret (pe_ix ix_list (pv 0) (pv 1) (fun _ _ => rfl)))) pss_nil)
      (pss_one (ps_ret (pe_un un_neg pe_int))), ?_⟩
    refine ⟨_, rfl, .ref a, rfl, a, vI t, rfl, .inl hS, _, _, rfl, rfl, _, rfl, ite2 (fun e => ?_) (fun e => ?_)⟩
    · have e' := of_decide_eq_true e
      rw [vI_len] at e'
      have hi : i < t.length := by omega
      refine ⟨.ref a, rfl, _, rfl, a, _, _, _, rfl, rfl, hS, atI_nat (vI_get (bAt_lt hi)), ?_⟩
      rw [bAt_some (bAt_lt hi)] at q
      exact q
    · have e' : ¬ (i : Int) < ((vI t).length : Int) := fun z => e (decide_eq_true z)
      rw [vI_len] at e'
      rw [bAt_none (List.getElem?_eq_none_iff.mpr (by omega))] at q
      exact ⟨_, rfl, q⟩
end
end Tk
namespace Tk
open PySem PySem.Spec PyProof.Rows L2
/-! ### 12. digit_of, hex_of, name_sign -/
def emptyS : Str := ""
def nsS (b : Int) : Str := if nmI b = true then strOf [b.toNat] else emptyS
theorem signs_big {k : Nat} (h : k < 26) : signsS.cps[k]? = some (k + 65) := by
  have q : ∀ k < 26, signsS.cps[k]? = some (k + 65) := by decide +kernel
  exact q k h
theorem signs_small {k : Nat} (h : k < 26) : signsS.cps[k + 26]? = some (k + 97) := by
  have q : ∀ k < 26, signsS.cps[k + 26]? = some (k + 97) := by decide +kernel
  exact q k h
theorem signs_digit {k : Nat} (h : k < 10) : signsS.cps[k + 53]? = some (k + 48) := by
  have q : ∀ k < 10, signsS.cps[k + 53]? = some (k + 48) := by decide +kernel
  exact q k h
theorem signs_len : signsS.length = 63 := by decide +kernel
theorem under_is : (("_" : String) : Str) = strOf [95] := by decide +kernel
theorem ns_eq {b : Int} {c : Nat} (h : nmI b = true) (e : b = (c : Int)) : nsS b = strOf [c] := by
  unfold nsS
  rw [if_pos h, e, Int.toNat_natCast]
theorem nsS_ne (b : Int) : (!decide (V.str (nsS b) = V.str emptyS)) = nmI b := by
  unfold nsS
  cases h : nmI b with
  | true =>
    rw [if_pos rfl, decide_eq_false]
    · rfl
    · intro e
      have e1 := congrArg (fun x : Str => x.cps.size) (V.str.inj e)
      have e2 : emptyS.cps.size = 0 := by decide +kernel
      have e3 : (strOf [b.toNat]).cps.size = emptyS.cps.size := e1
      rw [e2] at e3
      exact absurd e3 (show ¬ (1 : Nat) = 0 by decide)
  | false =>
    rw [if_neg Bool.false_ne_true, decide_eq_true rfl]
    rfl
section
variable {P : Program} {w : World} {K : PySem.W.Frag} {mg : Str → Option Value} {base : Heap}
def spDigit : Sp := fun vs H Q _ => ∃ b : Int, vs = [.int b] ∧ Q (.int (digI b)) H
abbrev sDigit : Stmt := top 52
theorem scDigit : FnScope ["byte"] ["byte"] (defScope sDigit) := ⟨rfl, rfl, rfl, by decide +kernel, rfl, by decide +kernel, by decide +kernel⟩
theorem cal_digit_of {f : Addr} {fd : FuncData} (F : Fun K "digit_of" "digit_of" sDigit f fd) (T : Txt K mg) (hm : mg "digit_of" = some (.ref f)) (hb : Binds K fd ["byte"] []) : C8.Cal P w K mg base 1 "digit_of" spDigit [] := by
  refine ⟨f, fd, _, [], F.ok scDigit (fun vs H Q E h => ?_) (fun cdv A outer s H vs Q E hr h => ?_), hm, F.kp, hb, .nil⟩
  · obtain ⟨b, rfl, _⟩ := h
    rfl
  · obtain ⟨b, rfl, q⟩ := h
    refine ⟨_, pss_cons (ps_if (pt_chain op_le op_le (C8.pe_gc (by rfl) T.kNOUGHT) (pv 0) pe_int)
        (pss_one (ps_ret (pe_op op_sub (pv 0) (C8.pe_gc (by rfl) T.kNOUGHT)))) pss_nil)
      (pss_one (ps_ret (pe_un un_neg pe_int))), ?_⟩
    unfold digI at q
    refine u_ifr (put_range pu_c (pu_var rfl) pu_c) (fun e => ?_) (fun e => ?_)
    · rw [if_pos (of_decide_eq_true e)] at q
      exact u_ret (pu_sub (pu_var rfl) pu_c) q
    · rw [if_neg (of_decide_eq_false e)] at q
      exact u_ret (pu_neg pu_c) q
def spHex : Sp := fun vs H Q _ => ∃ b : Int, vs = [.int b] ∧ Q (.int (hexI b)) H
abbrev sHex : Stmt := top 53
theorem scHex : FnScope ["byte"] ["byte"] (defScope sHex) := ⟨rfl, rfl, rfl, by decide +kernel, rfl, by decide +kernel, by decide +kernel⟩
theorem cal_hex_of {f : Addr} {fd : FuncData} (F : Fun K "hex_of" "hex_of" sHex f fd) (cD : C8.Cal P w K mg base 1 "digit_of" spDigit []) (hm : mg "hex_of" = some (.ref f)) (hb : Binds K fd ["byte"] []) : C8.Cal P w K mg base 2 "hex_of" spHex [] := by
  refine ⟨f, fd, _, [], F.ok scHex (fun vs H Q E h => ?_) (fun cdv A outer s H vs Q E hr h => ?_), hm, F.kp, hb, .nil⟩
  · obtain ⟨b, rfl, _⟩ := h
    rfl
  · obtain ⟨b, rfl, q⟩ := h
    refine ⟨_, pss_cons (ps_if (pt_chain op_le op_le pe_int (pv 0) pe_int) (pss_one (ps_ret (pe_op op_sub (pv 0) pe_int))) pss_nil)
      (pss_cons (ps_if (pt_chain op_le op_le pe_int (pv 0) pe_int) (pss_one (ps_ret (pe_op op_sub (pv 0) pe_int))) pss_nil)
      (pss_one (ps_ret (C8.pe_c cD hr (by decide) (by rfl) (pa_cons (pv 0) pa_nil))))), ?_⟩
    unfold hexI at q
    refine u_ifr (put_range pu_c (pu_var rfl) pu_c) (fun e => ?_) (fun e => ?_)
    · rw [if_pos (of_decide_eq_true e)] at q
      exact u_ret (pu_sub (pu_var rfl) pu_c) q
    · rw [if_neg (of_decide_eq_false e)] at q
      refine u_ifr (put_range pu_c (pu_var rfl) pu_c) (fun e => ?_) (fun e => ?_)
      · rw [if_pos (of_decide_eq_true e)] at q
        exact u_ret (pu_sub (pu_var rfl) pu_c) q
      · rw [if_neg (of_decide_eq_false e)] at q
        exact u_ret (pu_call (pua1 (pu_var rfl)) fun Q E q => ⟨b, rfl, q⟩) q
def spSign1 : Sp := fun vs H Q _ => ∃ b : Int, vs = [.int b] ∧ Q (.str (nsS b)) H
abbrev sSign1 : Stmt := top 54
theorem scSign1 : FnScope ["byte"] ["byte"] (defScope sSign1) := ⟨rfl, rfl, rfl, by decide +kernel, rfl, by decide +kernel, by decide +kernel⟩
theorem pu_digit {te : TE} {σ : L2.St} {H : Hp} {b : Int} (h : Pu te σ H (.int b)) : Pu (tCall spDigit [] E0 (tCons te tNil)) σ H (.int (digI b)) := pu_call (pua1 h) fun _ _ q => ⟨b, rfl, q⟩
theorem pu_hex {te : TE} {σ : L2.St} {H : Hp} {b : Int} (h : Pu te σ H (.int b)) : Pu (tCall spHex [] E0 (tCons te tNil)) σ H (.int (hexI b)) := pu_call (pua1 h) fun _ _ q => ⟨b, rfl, q⟩
theorem pu_nsig {te : TE} {σ : L2.St} {H : Hp} {b : Int} (h : Pu te σ H (.int b)) : Pu (tCall spSign1 [] E0 (tCons te tNil)) σ H (.str (nsS b)) := pu_call (pua1 h) fun _ _ q => ⟨b, rfl, q⟩
theorem pu_byte {ta tb : TE} {σ : L2.St} {H : Hp} {a : Addr} {t : B} {i : Nat} {j : Int} (h : Pu ta σ H (.ref a)) (h2 : Pu tb σ H (.int j)) (hS : SqL K H a (vI t)) (e : j = (i : Int)) : Pu (tCall (spByteAt K) [] E0 (tCons ta (tCons tb tNil))) σ H (.int (bAt t i)) :=
  pu_call (pua2 h h2) fun _ _ q => ⟨a, t, i, by rw [e]; rfl, hS, q⟩
/-- NAME_SIGNS[i] -/
theorem pu_signs {ta tb : TE} {σ : L2.St} {H : Hp} {i : Int} {c : Nat} (ha : Pu ta σ H (.str signsS)) (hb : Pu tb σ H (.int i)) (h0 : 0 ≤ i) (h1 : i < 63) (hc : signsS.cps[i.toNat]? = some c) :
    Pu (tOp (fun x y H Q => ∃ z i c, x = .str z ∧ y = .int i ∧ 0 ≤ i ∧ i < 2 ^ 63 ∧ i < z.length ∧ z.cps[i.toNat]? = some c ∧ Q (.str ⟨#[c]⟩) H) ta tb) σ H (.str (strOf [c])) :=
  pu_op ha hb fun _ q => ⟨signsS, i, c, rfl, rfl, h0, Int.lt_trans h1 (by decide), by rw [signs_len]; exact h1, hc, q⟩
theorem cal_name_sign {f : Addr} {fd : FuncData} (F : Fun K "name_sign" "name_sign" sSign1 f fd) (T : Txt K mg) (cD : C8.Cal P w K mg base 1 "digit_of" spDigit []) (hm : mg "name_sign" = some (.ref f)) (hb : Binds K fd ["byte"] []) : C8.Cal P w K mg base 2 "name_sign" spSign1 [] := by
  refine ⟨f, fd, _, [], F.ok scSign1 (fun vs H Q E h => ?_) (fun cdv A outer s H vs Q E hr h => ?_), hm, F.kp, hb, .nil⟩
  · obtain ⟨b, rfl, _⟩ := h
    rfl
  · obtain ⟨b, rfl, q⟩ := h
    refine ⟨_, pss_cons (ps_if (pt_chain op_le op_le pe_int (pv 0) pe_int) (pss_one (ps_ret (pe_item_str (C8.pe_gc (by rfl) T.kNAME_SIGNS) (pe_op op_sub (pv 0) pe_int) (fun _ _ => rfl)))) pss_nil)
      (pss_cons (ps_if (pt_chain op_le op_le pe_int (pv 0) pe_int) (pss_one (ps_ret (pe_item_str (C8.pe_gc (by rfl) T.kNAME_SIGNS) (pe_op op_sub (pv 0) pe_int) (fun _ _ => rfl)))) pss_nil)
      (pss_cons (ps_if (pt_cmpR op_eq (pv 0) pe_int (nomark _)) (pss_one (ps_ret pe_str)) pss_nil)
      (pss_cons (ps_if (pt_cmpR op_ge (C8.pe_c cD hr (by decide) (by rfl) (pa_cons (pv 0) pa_nil)) pe_int (nomark _))
        (pss_one (ps_ret (pe_item_str (C8.pe_gc (by rfl) T.kNAME_SIGNS) (pe_op op_add (C8.pe_gc (by rfl) T.kFIRST_SIGNS) (C8.pe_c cD hr (by decide) (by rfl) (pa_cons (pv 0) pa_nil))) (fun _ _ => rfl)))) pss_nil)
      (pss_one (ps_ret pe_str))))), ?_⟩
    refine u_ifr (put_range pu_c (pu_var rfl) pu_c) (fun e => ?_) (fun e => ?_)
    · have e1 := of_decide_eq_true e
      have hn : nmI b = true := by simp [nmI, e1]
      rw [ns_eq hn (c := b.toNat) (by omega)] at q
      refine u_ret (pu_signs (c := b.toNat) pu_c (pu_sub (pu_var rfl) pu_c) (by omega) (by omega) ?_) q
      rw [signs_big (by omega)]
      congr 1
      omega
    · have e1 := of_decide_eq_false e
      refine u_ifr (put_range pu_c (pu_var rfl) pu_c) (fun e => ?_) (fun e => ?_)
      · have e2 := of_decide_eq_true e
        have hn : nmI b = true := by simp [nmI, e2]
        rw [ns_eq hn (c := b.toNat) (by omega)] at q
        refine u_ret (pu_signs (c := b.toNat) pu_c (pu_sub (pu_var rfl) pu_c) (by omega) (by omega) ?_) q
        rw [show (b - 71).toNat = (b - 97).toNat + 26 by omega, signs_small (by omega)]
        congr 1
        omega
      · have e2 := of_decide_eq_false e
        refine u_ifr (put_test (pu_eq (pu_var rfl) pu_c rfl)) (fun e => ?_) (fun e => ?_)
        · have e3 : b = 95 := V.int.inj (of_decide_eq_true e)
          have hn : nmI b = true := by simp [nmI, e3]
          rw [ns_eq hn (c := 95) e3] at q
          refine u_ret (pu_is pu_c (congrArg V.str under_is)) q
        · have e3 : ¬ b = 95 := fun z => of_decide_eq_false e (congrArg V.int z)
          refine u_ifr (put_test (pu_ge (pu_digit (pu_var rfl)) pu_c)) (fun e => ?_) (fun e => ?_)
          · have e4 := of_decide_eq_true e
            have e5 := digI_nn.mp e4
            have e6 : digI b = b - 48 := if_pos e5
            have hn : nmI b = true := by simp [nmI, e5]
            rw [ns_eq hn (c := b.toNat) (by omega)] at q
            refine u_ret (pu_signs (c := b.toNat) pu_c (pu_add pu_c (pu_digit (pu_var rfl))) (by omega) (by omega) ?_) q
            rw [show (53 + digI b).toNat = (b - 48).toNat + 53 by omega, signs_digit (by omega)]
            congr 1
            omega
          · have e4 := of_decide_eq_false e
            have e5 := fun z => e4 (digI_nn.mpr z)
            have hn : nmI b = false := by
              unfold nmI
              rw [decide_eq_false e1, decide_eq_false e2, decide_eq_false e3, decide_eq_false e5]
              rfl
            unfold nsS at q
            rw [hn, if_neg Bool.false_ne_true] at q
            exact u_ret pu_c q
end
end Tk
namespace Tk
open PySem PySem.Spec PyProof.Rows L2
/-! ### 13. name_from, named -/
theorem join_ones : ∀ w : B, Txt.join emptyS (w.map fun c => strOf [c]) = strOf w := by
  intro w
  have key : ∀ w : B, Str.join emptyS (w.map fun c => strOf [c]) = strOf w := by
    intro w
    induction w with
    | nil => rfl
    | cons c r ih =>
      cases r with
      | nil => rfl
      | cons d r =>
        show strOf [c] ++ emptyS ++ Str.join emptyS ((d :: r).map fun c => strOf [c]) = strOf (c :: d :: r)
        rw [ih]
        have e : emptyS = ⟨#[]⟩ := by decide +kernel
        rw [e]
        show Str.mk ((([c] : List Nat).toArray ++ #[]) ++ (d :: r).toArray) = Str.mk (c :: d :: r).toArray
        congr 1
        simp
  show Builtin.Str.glued emptyS _ = _
  rw [PySem.StrLaws.glued_eq_join]
  exact key w
theorem empty_len : emptyS.length = 0 := by decide +kernel
theorem ones_sum (w : B) : ((w.map fun c => strOf [c]).map (·.length)).sum = w.length := by
  induction w with
  | nil => rfl
  | cons c r ih =>
    rw [List.map_cons, List.map_cons, List.sum_cons, ih, List.length_cons]
    show 1 + r.length = r.length + 1
    omega
theorem pu_join {K : PySem.W.Frag} {σ : L2.St} {H : Hp} {to te : TE} {o : Addr} {ws : B} (h1 : Pu to σ H (.str emptyS)) (h2 : Pu te σ H (.ref o)) (ho : H o = some (.lst (ws.map fun c => V.str (strOf [c])))) (hl : ws.length ≤ 20000) :
    Pu (tM1 (fun x xs H Q => ∃ a p, ∃ ys : List Str, x = .str a ∧ xs = [.ref p] ∧ (SqL K H p (ys.map V.str) ∨ SqT K H p (ys.map V.str)) ∧ (ys.map (·.length)).sum + ys.length * a.length ≤ 16777216 ∧ Q (.str (Txt.join a ys)) H) to te) σ H (.str (strOf ws)) := fun Q q =>
  h1 _ ⟨⟨_, rfl⟩, h2 _ ⟨emptyS, o, ws.map fun c => strOf [c], rfl, rfl, .inl (SqL.of (by rw [List.map_map]; exact ho)), by
    rw [ones_sum, empty_len]
    omega, by
    rw [join_ones]
    exact q⟩⟩
section
variable {P : Program} {w : World} {K : PySem.W.Frag} {mg : Str → Option Value} {base : Heap}
def spNameFrom (K : PySem.W.Frag) : Sp := fun vs H Q _ => ∃ (a : Addr) (t : B) (i : Nat), vs = [.ref a, .int (i : Int)] ∧ SqL K H a (vI t) ∧ t.length ≤ 20000 ∧
  ∀ (H' : Hp) (p : Addr), Same H H' → H p = none → H' p = some (.tup [.int ((i + ((t.drop i).takeWhile Rd24.inName).length : Nat) : Int), .str (strOf ((t.drop i).takeWhile Rd24.inName))]) → Q (.ref p) H'
abbrev sNameFrom : Stmt := top 55
theorem scNameFrom : FnScope ["text", "at", "signs"] ["text", "at"] (defScope sNameFrom) := ⟨rfl, rfl, rfl, by decide +kernel, rfl, by decide +kernel, by decide +kernel⟩
theorem cal_name_from {f : Addr} {fd : FuncData} (F : Fun K "name_from" "name_from" sNameFrom f fd) (cB : C8.Cal P w K mg base 1 "byte_at" (spByteAt K) []) (cN : C8.Cal P w K mg base 2 "name_sign" spSign1 []) (hm : mg "name_from" = some (.ref f)) (hb : Binds K fd ["text", "at"] []) :
    C8.Cal P w K mg base 3 "name_from" (spNameFrom K) [] := by
  refine ⟨f, fd, _, [], F.ok scNameFrom (fun vs H Q E h => ?_) (fun cdv A outer s H vs Q E hr h => ?_), hm, F.kp, hb, .nil⟩
  · obtain ⟨a, t, i, rfl, _⟩ := h
    rfl
  · obtain ⟨a, t, i, rfl, hS, hlen, q⟩ := h
    refine ⟨_, pss_cons (ps_set (i := 2) scNameFrom.nd rfl (.inl rfl) (pe_lst pa_nil))
      (pss_cons (ps_while PassesOwn.never (pt_cmpR op_ne (C8.pe_c cN hr (by decide) (by rfl) (pa_cons (C8.pe_c cB hr (by decide) (by rfl) (pa_cons (pv 0) (pa_cons (pv 1) pa_nil))) pa_nil)) pe_str (nomark _))
        (pss_cons (ps_expr (pe_bm PySem.F.plainAttrs_list PySem.F.slot_list_append PySem.F.type_list_append mt_append (pv 2) (pa_cons (C8.pe_c cN hr (by decide) (by rfl) (pa_cons (pe_ix ix_list (pv 0) (pv 1) (fun _ _ => rfl)) pa_nil)) pa_nil)))
        (pss_one (ps_aug (i := 1) scNameFrom.nd rfl (.inl rfl) pe_int ip_add))))
      (pss_one (ps_ret (pe_tup (pa_cons (pv 1) (pa_cons (pe_join pe_str (pv 2)) pa_nil)))))), ?_⟩
    -- signs = []
    refine ⟨Nat.zero_le _, fun o no => ?_⟩
    have s1 : Same H (upd H o (.lst [])) := same_upd no
    refine u_while (fun m σ H' => ∃ (pre : B) (j : Nat), σ = [some (.ref a), some (.int (j : Int)), some (.ref o)] ∧ (t.drop i).takeWhile Rd24.inName = pre ++ (t.drop j).takeWhile Rd24.inName ∧ j = i + pre.length ∧ m = t.length - j ∧ Same H H' ∧ H' o = some (.lst (pre.map fun c => V.str (strOf [c]))))
      _ ⟨[], i, rfl, rfl, rfl, rfl, s1, upd_same⟩ ?_
    rintro m σ H1 ⟨pre, j, rfl, ew, ej, em, s2, ho⟩
    have hS1 : SqL K H1 a (vI t) := s2.seq hS
    have hw : pre.length ≤ 20000 := by
      have h1 := tw_len Rd24.inName (t.drop i)
      rw [ew, List.length_append, List.length_drop] at h1
      omega
    obtain ⟨go, stop⟩ := tw_test nm_iff nmI_neg t j
    refine ⟨nmI (bAt t j), put_is (put_test (pu_ne (pu_nsig (pu_byte (pu_var rfl) (pu_var rfl) hS1 rfl)) pu_c rfl)) (nsS_ne _), fun hb => ?_, fun hb => ?_⟩
    · obtain ⟨c, hc, et, hp⟩ := go hb
      have hj := (List.getElem?_eq_some_iff.mp hc).1
      refine u_app ho (pu_var rfl) (pu_nsig (pu_ixL (pu_var rfl) (pu_var rfl) hS1 (atI_nat (vI_get hc)))) (by rw [List.length_map]; omega) ?_
      refine u_aug rfl pu_c ?_
      refine ⟨t.length - (j + 1), by omega, pre ++ [c], j + 1, rfl, ?_, ?_, rfl, ?_, ?_⟩
      · rw [ew, et, List.append_assoc]
        rfl
      · rw [List.length_append, ej]
        rfl
      · exact fun b x e => by
          rw [upd_ne (ne_of_none e no)]
          exact s2 _ _ e
      · rw [upd_same, List.map_append, ns_eq (by rw [← nm_iff]; exact hp) rfl]
        rfl
    · have e0 := stop hb
      rw [e0, List.append_nil] at ew
      refine u_rett (pua2 (pu_var rfl) (pu_join pu_c (pu_var rfl) ho hw)) (by show 2 ≤ 100000; decide) fun p hp => ?_
      refine q _ p (s2.trans (same_upd hp)) (s2.free hp) ?_
      rw [upd_same, ew, ej]
end
end Tk
namespace Tk
open PySem PySem.Spec PyProof.Rows L2
/-! ### 14. named, decimal, hexadecimal, number -/
theorem strOf_inj {a b : B} (h : strOf a = strOf b) : a = b := by
  have e := congrArg (fun x : Str => x.cps.toList) h
  simpa [strOf] using e
theorem words_in (w : B) : inV (.str (strOf w)) wordsV = Rd24.WORDS.contains w := by
  unfold inV wordsV
  rw [List.any_map]
  apply Bool.eq_iff_iff.mpr
  rw [List.any_eq_true, List.contains_iff_mem]
  constructor
  · rintro ⟨x, hx, e⟩
    have e1 : (strOf x == strOf w) = true := e
    rw [← strOf_inj (of_decide_eq_true e1)]
    exact hx
  · intro h
    exact ⟨w, h, (show (strOf w == strOf w) = true from beq_self_eq_true _)⟩
theorem words_flat : wordsV.all flatV = true := by decide +kernel
theorem valOk_non {H : Hp} {k : Nat} {b : B} {n : Int} (h : 4 < k) : ValOk H .non k b n := ⟨fun e => (by omega), fun e => (by omega), fun e => (by omega), fun e => (by omega)⟩
theorem valOk_name {H : Hp} {k : Nat} {b : B} {n : Int} (h : k = 0 ∨ k = 1) : ValOk H (.str (strOf b)) k b n := ⟨fun _ => rfl, fun e => (by omega), fun e => (by omega), fun e => (by omega)⟩
theorem valOk_num {H : Hp} {b : B} {n : Int} : ValOk H (.int n) 2 b n := ⟨fun e => (by omega), fun _ => rfl, fun e => (by omega), fun e => (by omega)⟩
section
variable {P : Program} {w : World} {K : PySem.W.Frag} {mg : Str → Option Value} {base : Heap}
abbrev okLt : Nat → B → Prop := fun i t => i < t.length
abbrev okB : Nat → B → Prop := fun i t => i < t.length ∧ ∀ c ∈ t, c ≤ 255
abbrev okAll : Nat → B → Prop := fun _ _ => True
abbrev sNamed : Stmt := top 56
theorem scNamed : FnScope ["text", "at", "end", "name"] ["text", "at"] (defScope sNamed) := ⟨rfl, rfl, rfl, by decide +kernel, rfl, by decide +kernel, by decide +kernel⟩
theorem cal_named {f : Addr} {fd : FuncData} (F : Fun K "named" "named" sNamed f fd) (T : Txt K mg) (cF : C8.Cal P w K mg base 3 "name_from" (spNameFrom K) []) (hm : mg "named" = some (.ref f)) (hb : Binds K fd ["text", "at"] []) :
    C8.Cal P w K mg base 4 "named" (spTokF K okAll cName) [] := by
  refine ⟨f, fd, _, [], F.ok scNamed (fun vs H Q E h => same_len h) (fun cdv A outer s H vs Q E hr h => ?_), hm, F.kp, hb, .nil⟩
  obtain ⟨a, t, i, rfl, hS, hlen, _, q⟩ := h
  obtain ⟨aW, gW, tW⟩ := T.tWORDS
  refine ⟨_, pss_cons (ps_asg (C8.pe_c cF hr (by decide) (by rfl) (pa_cons (pv 0) (pa_cons (pv 1) pa_nil))) (pg_tup rfl (pgs_cons (pg_name (i := 2) scNamed.nd rfl (.inl rfl)) (pgs_cons (pg_name (i := 3) scNamed.nd rfl (.inl rfl)) pgs_nil))))
      (pss_cons (ps_if (pt_cmpR op_in_seq (pv 3) (C8.pe_gc (by rfl) gW) rfl) (pss_one (ps_ret (pe_tup (pa_cons (pv 2) (pa_cons (C8.pe_gc (by rfl) T.kWORD) (pa_cons (pv 3) pa_nil)))))) pss_nil)
      (pss_cons (ps_if (pt_cmpR op_gt (pe_callB call_len_str (by rfl) T.nlen PySem.boot_len (pa_cons (pv 3) pa_nil)) (C8.pe_gc (by rfl) T.kMOST_NAME) (nomark _)) (pss_one (ps_ret (pe_tup (pa_cons (pv 2) (pa_cons (C8.pe_gc (by rfl) T.kBAD) (pa_cons pe_non pa_nil)))))) pss_nil)
      (pss_one (ps_ret (pe_tup (pa_cons (pv 2) (pa_cons (C8.pe_gc (by rfl) T.kNAME) (pa_cons (pv 3) pa_nil)))))))), ?_⟩
  -- end, name = name_from(text, at)
  refine ⟨.ref a, rfl, .int (i : Int), rfl, a, t, i, rfl, hS, hlen, fun H1 p s1 _ hp => ?_⟩
  refine ⟨p, _, rfl, SqT.of hp, rfl, _, _, rfl, _, _, rfl, rfl, ?_⟩
  have hw : ((t.drop i).takeWhile Rd24.inName).length ≤ 20000 := by
    have h1 := tw_len Rd24.inName (t.drop i)
    rw [List.length_drop] at h1
    omega
  generalize ew : (t.drop i).takeWhile Rd24.inName = wd at hw hp ⊢
  have q' : ∀ (H' : Hp) (p' : Addr) (k : Int) (v : V), H1 p' = none → H' = upd H1 p' (.tup [.int ((i + wd.length : Nat) : Int), .int k, v]) → Res (cName (t.drop i)) i ((i + wd.length : Nat) : Int) k v H' → Q (.ref p') H' := fun H' p' k v hn e r => by
    subst e
    exact q _ p' _ k v (s1.trans (same_upd hn)) (s1.free hn) upd_same r
  have ec : cName (t.drop i) = if 32 < wd.length then none else some ⟨if Rd24.WORDS.contains wd = true then 1 else 0, wd, 0, wd.length⟩ := by
    unfold cName
    rw [ew]
  rw [ec] at q'
  have wl : ∀ b ∈ Rd24.WORDS, b.length ≤ 32 := by decide
  refine u_ifr (put_test (pu_in (neg := false) (pu_var rfl) pu_c (tW _) rfl words_flat)) (fun e => ?_) (fun e => ?_)
  · have e1 : Rd24.WORDS.contains wd = true := by
      rw [← words_in]
      exact e
    have e2 := wl wd (List.contains_iff_mem.mp e1)
    rw [if_neg (by omega), if_pos e1] at q'
    refine u_rett (pua_cons (pu_var rfl) (pua2 pu_c (pu_var rfl))) (by show 3 ≤ 100000; decide) fun p' hn => q' _ p' _ _ hn rfl ⟨rfl, rfl, valOk_name (.inr rfl)⟩
  · have e1 : ¬ Rd24.WORDS.contains wd = true := by
      rw [← words_in]
      intro z
      have e' : inV (.str (strOf wd)) wordsV = false := e
      rw [e'] at z
      cases z
    rw [if_neg e1] at q'
    have pl : ∀ {σ : L2.St} {H : Hp} {te : TE}, Pu te σ H (.str (strOf wd)) → Pu (tCB (fun xs H Q => ∃ z : Str, xs = [V.str z] ∧ z.length ≤ sizeLine ∧ Q (.int z.length) H) (tCons te tNil)) σ H (.int (wd.length : Int)) := fun h _ z =>
      h _ ⟨strOf wd, rfl, by
        show wd.toArray.size ≤ sizeLine
        rw [List.size_toArray]
        exact Nat.le_trans hw (by decide), by
        have e3 : (strOf wd).length = wd.length := List.size_toArray
        rw [e3]
        exact z⟩
    refine u_ifr (put_test (pu_gt (pl (pu_var rfl)) pu_c)) (fun e => ?_) (fun e => ?_)
    · have e2 := of_decide_eq_true e
      rw [if_pos (by omega)] at q'
      exact u_rett (pua_cons (pu_var rfl) (pua2 pu_c pu_c)) (by show 3 ≤ 100000; decide) fun p' hn => q' _ p' _ _ hn rfl rfl
    · have e2 := of_decide_eq_false e
      rw [if_neg (by omega)] at q'
      refine u_rett (pua_cons (pu_var rfl) (pua2 pu_c (pu_var rfl))) (by show 3 ≤ 100000; decide) fun p' hn => q' _ p' _ _ hn rfl ⟨rfl, rfl, valOk_name (.inl rfl)⟩
abbrev sDecimal : Stmt := top 57
theorem scDecimal : FnScope ["text", "at", "worth"] ["text", "at"] (defScope sDecimal) := ⟨rfl, rfl, rfl, by decide +kernel, rfl, by decide +kernel, by decide +kernel⟩
theorem dig_test (t : B) (j : Nat) : (decide (0 ≤ digI (bAt t j)) = true → ∃ c, t[j]? = some c ∧ (t.drop j).takeWhile Rd24.digit = c :: (t.drop (j + 1)).takeWhile Rd24.digit ∧ Rd24.digit c = true) ∧ (decide (0 ≤ digI (bAt t j)) = false → (t.drop j).takeWhile Rd24.digit = []) :=
  tw_test (q := fun b => decide (0 ≤ digI b)) (fun c => Bool.eq_iff_iff.mpr ((digit_iff c).trans (by simp))) (by decide) t j
theorem hex_test (t : B) (j : Nat) : (decide (0 ≤ hexI (bAt t j)) = true → ∃ c, t[j]? = some c ∧ (t.drop j).takeWhile Rd24.isHex = c :: (t.drop (j + 1)).takeWhile Rd24.isHex ∧ Rd24.isHex c = true) ∧ (decide (0 ≤ hexI (bAt t j)) = false → (t.drop j).takeWhile Rd24.isHex = []) :=
  tw_test (q := fun b => decide (0 ≤ hexI b)) (fun c => Bool.eq_iff_iff.mpr ((isHex_iff c).trans (by simp))) (by decide) t j
theorem cal_decimal {f : Addr} {fd : FuncData} (F : Fun K "decimal" "decimal" sDecimal f fd) (T : Txt K mg) (cB : C8.Cal P w K mg base 1 "byte_at" (spByteAt K) []) (cD : C8.Cal P w K mg base 1 "digit_of" spDigit []) (cN : C8.Cal P w K mg base 2 "name_sign" spSign1 [])
    (hm : mg "decimal" = some (.ref f)) (hb : Binds K fd ["text", "at"] []) : C8.Cal P w K mg base 3 "decimal" (spTokF K okAll cDec) [] := by
  refine ⟨f, fd, _, [], F.ok scDecimal (fun vs H Q E h => same_len h) (fun cdv A outer s H vs Q E hr h => ?_), hm, F.kp, hb, .nil⟩
  obtain ⟨a, t, i, rfl, hS, hlen, _, q⟩ := h
  refine ⟨_, pss_cons (ps_set (i := 2) scDecimal.nd rfl (.inl rfl) pe_int)
      (pss_cons (ps_while PassesOwn.never (pt_cmpR op_ge (C8.pe_c cD hr (by decide) (by rfl) (pa_cons (C8.pe_c cB hr (by decide) (by rfl) (pa_cons (pv 0) (pa_cons (pv 1) pa_nil))) pa_nil)) pe_int (nomark _))
        (pss_cons (ps_set (i := 2) scDecimal.nd rfl (.inl rfl) (pe_op op_add (pe_op op_mul pe_int (pv 2)) (C8.pe_c cD hr (by decide) (by rfl) (pa_cons (pe_ix ix_list (pv 0) (pv 1) (fun _ _ => rfl)) pa_nil))))
        (pss_one (ps_aug (i := 1) scDecimal.nd rfl (.inl rfl) pe_int ip_add))))
      (pss_cons (ps_if (PW.pt (pw_or (pt_cmpR op_gt (pv 2) (C8.pe_gc (by rfl) T.kMOST_NUMBER) (nomark _)) (pw_or1 (pt_cmpR op_ne (C8.pe_c cN hr (by decide) (by rfl) (pa_cons (C8.pe_c cB hr (by decide) (by rfl) (pa_cons (pv 0) (pa_cons (pv 1) pa_nil))) pa_nil)) pe_str (nomark _)))))
        (pss_one (ps_ret (pe_tup (pa_cons (pv 1) (pa_cons (C8.pe_gc (by rfl) T.kBAD) (pa_cons pe_non pa_nil)))))) pss_nil)
      (pss_one (ps_ret (pe_tup (pa_cons (pv 1) (pa_cons (C8.pe_gc (by rfl) T.kNUMBER) (pa_cons (pv 2) pa_nil)))))))), ?_⟩
  refine u_asg pu_c ?_
  refine u_while (fun m σ H' => ∃ (pre : B) (j : Nat), σ = [some (.ref a), some (.int (j : Int)), some (.int ((Rd24.valueOf 10 pre : Nat) : Int))] ∧ (t.drop i).takeWhile Rd24.digit = pre ++ (t.drop j).takeWhile Rd24.digit ∧ j = i + pre.length ∧ m = t.length - j ∧ H' = H)
    _ ⟨[], i, rfl, rfl, rfl, rfl, rfl⟩ ?_
  rintro m σ H1 ⟨pre, j, rfl, ew, ej, em, rfl⟩
  obtain ⟨go, stop⟩ := dig_test t j
  refine ⟨_, put_test (pu_ge (pu_digit (pu_byte (pu_var rfl) (pu_var rfl) hS rfl)) pu_c), fun hb => ?_, fun hb => ?_⟩
  · obtain ⟨c, hc, et, hp⟩ := go hb
    have hj := (List.getElem?_eq_some_iff.mp hc).1
    have hd := (digit_iff c).mp hp
    refine u_asg (pu_add (pu_mul pu_c (pu_var rfl) (.inl ⟨by decide, by decide⟩)) (pu_digit (pu_ixL (pu_var rfl) (pu_var rfl) hS (atI_nat (vI_get hc))))) ?_
    refine u_aug rfl pu_c ?_
    refine ⟨t.length - (j + 1), by omega, pre ++ [c], j + 1, ?_, ?_, ?_, rfl, rfl⟩
    · rw [value_dig hd]
      rfl
    · rw [ew, et, List.append_assoc]
      rfl
    · rw [List.length_append, ej]
      rfl
  · have e0 := stop hb
    rw [e0, List.append_nil] at ew
    have ec : cDec (t.drop i) = if 9223372036854775807 < Rd24.valueOf 10 pre ∨ nmI (bAt t j) = true then none else some ⟨2, [], (Rd24.valueOf 10 pre : Int), pre.length⟩ := by
      unfold cDec
      rw [ew, List.drop_drop, ← ej, headD_nm]
    rw [ec] at q
    subst ej
    refine u_ifr (put_or (put_test (pu_gt (pu_var rfl) pu_c)) fun _ => put_is (put_test (pu_ne (pu_nsig (pu_byte (pu_var rfl) (pu_var rfl) hS rfl)) pu_c rfl)) (nsS_ne _)) (fun e => ?_) (fun e => ?_)
    · have e1 : 9223372036854775807 < Rd24.valueOf 10 pre ∨ nmI (bAt t (i + pre.length)) = true := by
        rcases Bool.or_eq_true_iff.mp e with z | z
        · exact .inl (by have z3 : (9223372036854775807 : Int) < (Rd24.valueOf 10 pre : Nat) := of_decide_eq_true z; omega)
        · exact .inr z
      rw [if_pos e1] at q
      exact u_rett (pua_cons (pu_var rfl) (pua2 pu_c pu_c)) (by show 3 ≤ 100000; decide) fun p hn => q _ p _ _ _ (same_upd hn) hn upd_same rfl
    · have e1 : ¬ (9223372036854775807 < Rd24.valueOf 10 pre ∨ nmI (bAt t (i + pre.length)) = true) := by
        obtain ⟨z1, z2⟩ := Bool.or_eq_false_iff.mp e
        rintro (z | z)
        · have z3 : ¬ (9223372036854775807 : Int) < (Rd24.valueOf 10 pre : Nat) := of_decide_eq_false z1
          omega
        · rw [z] at z2
          cases z2
      rw [if_neg e1] at q
      exact u_rett (pua_cons (pu_var rfl) (pua2 pu_c (pu_var rfl))) (by show 3 ≤ 100000; decide) fun p hn => q _ p _ _ _ (same_upd hn) hn upd_same ⟨rfl, rfl, valOk_num⟩
abbrev sHexa : Stmt := top 58
theorem scHexa : FnScope ["text", "at", "worth", "end"] ["text", "at"] (defScope sHexa) := ⟨rfl, rfl, rfl, by decide +kernel, rfl, by decide +kernel, by decide +kernel⟩
theorem cal_hexadecimal {f : Addr} {fd : FuncData} (F : Fun K "hexadecimal" "hexadecimal" sHexa f fd) (T : Txt K mg) (cB : C8.Cal P w K mg base 1 "byte_at" (spByteAt K) []) (cD : C8.Cal P w K mg base 2 "hex_of" spHex []) (cN : C8.Cal P w K mg base 2 "name_sign" spSign1 [])
    (hm : mg "hexadecimal" = some (.ref f)) (hb : Binds K fd ["text", "at"] []) : C8.Cal P w K mg base 3 "hexadecimal" (spTokF K okAll cHex) [] := by
  refine ⟨f, fd, _, [], F.ok scHexa (fun vs H Q E h => same_len h) (fun cdv A outer s H vs Q E hr h => ?_), hm, F.kp, hb, .nil⟩
  obtain ⟨a, t, i, rfl, hS, hlen, _, q⟩ := h
  refine ⟨_, pss_cons (ps_set (i := 2) scHexa.nd rfl (.inl rfl) pe_int)
      (pss_cons (ps_set (i := 3) scHexa.nd rfl (.inl rfl) (pv 1))
      (pss_cons (ps_while PassesOwn.never (pt_cmpR op_ge (C8.pe_c cD hr (by decide) (by rfl) (pa_cons (C8.pe_c cB hr (by decide) (by rfl) (pa_cons (pv 0) (pa_cons (pv 3) pa_nil))) pa_nil)) pe_int (nomark _))
        (pss_cons (ps_set (i := 2) scHexa.nd rfl (.inl rfl) (pe_op op_add (pe_op op_mul pe_int (pv 2)) (C8.pe_c cD hr (by decide) (by rfl) (pa_cons (pe_ix ix_list (pv 0) (pv 3) (fun _ _ => rfl)) pa_nil))))
        (pss_one (ps_aug (i := 3) scHexa.nd rfl (.inl rfl) pe_int ip_add))))
      (pss_cons (ps_if (PW.pt (pw_or (pt_not (pt_chain op_le op_le pe_int (pe_op op_sub (pv 3) (pv 1)) (C8.pe_gc (by rfl) T.kMOST_HEX))) (pw_or1 (pt_cmpR op_ne (C8.pe_c cN hr (by decide) (by rfl) (pa_cons (C8.pe_c cB hr (by decide) (by rfl) (pa_cons (pv 0) (pa_cons (pv 3) pa_nil))) pa_nil)) pe_str (nomark _)))))
        (pss_one (ps_ret (pe_tup (pa_cons (pv 3) (pa_cons (C8.pe_gc (by rfl) T.kBAD) (pa_cons pe_non pa_nil)))))) pss_nil)
      (pss_cons (ps_if (pt_cmpR op_ge (pv 2) (C8.pe_gc (by rfl) T.kHALF_WORDS) (nomark _))
        (pss_one (ps_ret (pe_tup (pa_cons (pv 3) (pa_cons (C8.pe_gc (by rfl) T.kNUMBER) (pa_cons (pe_op op_sub (pv 2) (C8.pe_gc (by rfl) T.kALL_WORDS)) pa_nil)))))) pss_nil)
      (pss_one (ps_ret (pe_tup (pa_cons (pv 3) (pa_cons (C8.pe_gc (by rfl) T.kNUMBER) (pa_cons (pv 2) pa_nil)))))))))), ?_⟩
  refine u_asg pu_c (u_asg (pu_var rfl) ?_)
  refine u_while (fun m σ H' => ∃ (pre : B) (j : Nat), σ = [some (.ref a), some (.int (i : Int)), some (.int ((Rd24.valueOf 16 pre : Nat) : Int)), some (.int (j : Int))] ∧ (t.drop i).takeWhile Rd24.isHex = pre ++ (t.drop j).takeWhile Rd24.isHex ∧ j = i + pre.length ∧ m = t.length - j ∧ H' = H)
    _ ⟨[], i, rfl, rfl, rfl, rfl, rfl⟩ ?_
  rintro m σ H1 ⟨pre, j, rfl, ew, ej, em, rfl⟩
  obtain ⟨go, stop⟩ := hex_test t j
  refine ⟨_, put_test (pu_ge (pu_hex (pu_byte (pu_var rfl) (pu_var rfl) hS rfl)) pu_c), fun hb => ?_, fun hb => ?_⟩
  · obtain ⟨c, hc, et, hp⟩ := go hb
    have hj := (List.getElem?_eq_some_iff.mp hc).1
    have hd := (isHex_iff c).mp hp
    refine u_asg (pu_add (pu_mul pu_c (pu_var rfl) (.inl ⟨by decide, by decide⟩)) (pu_hex (pu_ixL (pu_var rfl) (pu_var rfl) hS (atI_nat (vI_get hc))))) ?_
    refine u_aug rfl pu_c ?_
    refine ⟨t.length - (j + 1), by omega, pre ++ [c], j + 1, ?_, ?_, ?_, rfl, rfl⟩
    · rw [value_hex hd]
      rfl
    · rw [ew, et, List.append_assoc]
      rfl
    · rw [List.length_append, ej]
      rfl
  · have e0 := stop hb
    rw [e0, List.append_nil] at ew
    have ec : cHex (t.drop i) = if pre.isEmpty = true ∨ 16 < pre.length ∨ nmI (bAt t j) = true then none else some ⟨2, [], Rd24.signed (Rd24.valueOf 16 pre), pre.length⟩ := by
      unfold cHex
      rw [ew, List.drop_drop, ← ej, headD_nm]
    rw [ec] at q
    subst ej
    have ee : (((i + pre.length : Nat) : Int) - (i : Int)) = (pre.length : Int) := by omega
    refine u_ifr (put_or (put_not (put_range pu_c (pu_is (pu_sub (pu_var rfl) (pu_var rfl)) (congrArg V.int ee)) pu_c)) fun _ => put_is (put_test (pu_ne (pu_nsig (pu_byte (pu_var rfl) (pu_var rfl) hS rfl)) pu_c rfl)) (nsS_ne _)) (fun e => ?_) (fun e => ?_)
    · have e1 : pre.isEmpty = true ∨ 16 < pre.length ∨ nmI (bAt t (i + pre.length)) = true := by
        rcases Bool.or_eq_true_iff.mp e with z | z
        · have z1 : ¬ ((1 : Int) ≤ pre.length ∧ (pre.length : Int) ≤ 16) := by
            intro z2
            rw [decide_eq_true z2] at z
            cases z
          cases pre with
          | nil => exact .inl rfl
          | cons x r =>
            rw [List.length_cons] at z1 ⊢
            exact .inr (.inl (by omega))
        · exact .inr (.inr z)
      rw [if_pos e1] at q
      exact u_rett (pua_cons (pu_var rfl) (pua2 pu_c pu_c)) (by show 3 ≤ 100000; decide) fun p hn => q _ p _ _ _ (same_upd hn) hn upd_same rfl
    · obtain ⟨z1, z2⟩ := Bool.or_eq_false_iff.mp e
      have z3 : (1 : Int) ≤ pre.length ∧ (pre.length : Int) ≤ 16 := by
        apply Classical.byContradiction
        intro z4
        rw [decide_eq_false z4] at z1
        cases z1
      have e1 : ¬ (pre.isEmpty = true ∨ 16 < pre.length ∨ nmI (bAt t (i + pre.length)) = true) := by
        rintro (z | z | z)
        · cases pre with
          | nil => exact absurd z3.1 (by decide)
          | cons x r => cases z
        · omega
        · rw [z] at z2
          cases z2
      rw [if_neg e1, signed_of (by omega)] at q
      refine u_ifr (put_test (pu_ge (pu_var rfl) pu_c)) (fun e => ?_) (fun e => ?_)
      · rw [if_pos (of_decide_eq_true e)] at q
        exact u_rett (pua_cons (pu_var rfl) (pua2 pu_c (pu_sub (pu_var rfl) pu_c))) (by show 3 ≤ 100000; decide) fun p hn => q _ p _ _ _ (same_upd hn) hn upd_same ⟨rfl, rfl, valOk_num⟩
      · rw [if_neg (of_decide_eq_false e)] at q
        exact u_rett (pua_cons (pu_var rfl) (pua2 pu_c (pu_var rfl))) (by show 3 ≤ 100000; decide) fun p hn => q _ p _ _ _ (same_upd hn) hn upd_same ⟨rfl, rfl, valOk_num⟩
abbrev sNumber : Stmt := top 59
theorem scNumber : FnScope ["text", "at"] ["text", "at"] (defScope sNumber) := ⟨rfl, rfl, rfl, by decide +kernel, rfl, by decide +kernel, by decide +kernel⟩
theorem cal_number {f : Addr} {fd : FuncData} (F : Fun K "number" "number" sNumber f fd) (T : Txt K mg) (cB : C8.Cal P w K mg base 1 "byte_at" (spByteAt K) []) (cD : C8.Cal P w K mg base 3 "decimal" (spTokF K okAll cDec) []) (cH : C8.Cal P w K mg base 3 "hexadecimal" (spTokF K okAll cHex) [])
    (hm : mg "number" = some (.ref f)) (hb : Binds K fd ["text", "at"] []) : C8.Cal P w K mg base 4 "number" (spTokF K okLt cNum) [] := by
  refine ⟨f, fd, _, [], F.ok scNumber (fun vs H Q E h => same_len h) (fun cdv A outer s H vs Q E hr h => ?_), hm, F.kp, hb, .nil⟩
  obtain ⟨a, t, i, rfl, hS, hlen, hi, q⟩ := h
  refine ⟨_, pss_cons (ps_if (PW.pt (pw_and (pt_cmpR op_eq (pe_ix ix_list (pv 0) (pv 1) (fun _ _ => rfl)) (C8.pe_gc (by rfl) T.kNOUGHT) (nomark _)) (pw_and1 (pt_cmpR op_eq (C8.pe_c cB hr (by decide) (by rfl) (pa_cons (pv 0) (pa_cons (pe_op op_add (pv 1) pe_int) pa_nil))) (C8.pe_gc (by rfl) T.kSMALL_X) (nomark _)))))
        (pss_one (ps_ret (C8.pe_c cH hr (by decide) (by rfl) (pa_cons (pv 0) (pa_cons (pe_op op_add (pv 1) pe_int) pa_nil))))) pss_nil)
      (pss_one (ps_ret (C8.pe_c cD hr (by decide) (by rfl) (pa_cons (pv 0) (pa_cons (pv 1) pa_nil))))), ?_⟩
  have hc := bAt_lt hi
  have h1 : (t.drop i).headD 0 = t[i] := by
    rw [drop_some hc]
    rfl
  have h2 : (((t.drop i).drop 1).headD 0 = 120) ↔ bAt t (i + 1) = 120 := by
    rw [List.drop_drop]
    rcases bAt_cases t (i + 1) with ⟨_, eb, ed, _⟩ | ⟨c, _, eb, ed, _⟩
    · rw [eb, ed]
      exact ⟨fun z => absurd z (by decide), fun z => absurd z (by decide)⟩
    · rw [eb, ed]
      show c = 120 ↔ _
      omega
  have ec : cNum (t.drop i) = if t[i] = 48 ∧ bAt t (i + 1) = 120 then (cHex (t.drop (i + 2))).map fun c => { c with len := 2 + c.len } else cDec (t.drop i) := by
    unfold cNum
    rw [h1]
    by_cases z : t[i] = 48 ∧ bAt t (i + 1) = 120
    · rw [if_pos z, if_pos ⟨z.1, h2.mpr z.2⟩, List.drop_drop]
    · rw [if_neg z, if_neg (fun y => z ⟨y.1, h2.mp y.2⟩)]
  rw [ec] at q
  refine u_ifr (put_and (put_test (pu_eq (pu_ixL (pu_var rfl) (pu_var rfl) hS (atI_nat (vI_get hc))) pu_c rfl)) fun _ => put_test (pu_eq (pu_byte (i := i + 1) (pu_var rfl) (pu_add (pu_var rfl) pu_c) hS (by omega)) pu_c rfl)) (fun e => ?_) (fun e => ?_)
  · obtain ⟨z1, z2⟩ := Bool.and_eq_true_iff.mp e
    have y1 := V.int.inj (of_decide_eq_true z1)
    have y2 := V.int.inj (of_decide_eq_true z2)
    rw [if_pos ⟨by omega, y2⟩] at q
    refine ⟨.ref a, rfl, .int (i : Int), rfl, _, _, rfl, rfl, a, t, i + 2, rfl, hS, hlen, trivial, fun H' p e k v s1 hp h3 r => q H' p e k v s1 hp h3 ?_⟩
    cases hx : cHex (t.drop (i + 2)) with
    | none =>
      rw [hx] at r
      exact r
    | some c =>
      rw [hx] at r
      obtain ⟨r1, r2, r3⟩ := r
      refine ⟨?_, r2, r3⟩
      rw [r1]
      show (((i + 2 + c.len : Nat)) : Int) = ((i + (2 + c.len) : Nat) : Int)
      omega
  · have y : ¬ (t[i] = 48 ∧ bAt t (i + 1) = 120) := by
      rintro ⟨y1, y2⟩
      have z1 : decide (V.int (t[i] : Int) = V.int 48) = true := decide_eq_true (congrArg V.int (by omega))
      have z2 : decide (V.int (bAt t (i + 1)) = V.int 120) = true := decide_eq_true (congrArg V.int y2)
      rw [z1, z2] at e
      cases e
    rw [if_neg y] at q
    exact ⟨.ref a, rfl, .int (i : Int), rfl, a, t, i, rfl, hS, hlen, trivial, q⟩
end
end Tk
namespace Tk
open PySem PySem.Spec PyProof.Rows L2
/-! ### 15. ESCAPES.get(behind, -1) -/
section
variable {X : Cx} {pins : List (Addr × Obj)} {σ : L2.St} {H : Hp} {s : Shared} {a : Addr}
theorem esc_map (I : Inv X pins σ H s) (T : EscAt X.K a) : ∃ f : Int → Option Value, s.heap.MapOf (PySem.intKind X.prog X.w) a f ∧ ∀ (i : Int) (d : Value), RelV (.int (-1)) d → RelV (.int (escI i)) ((f i).getD d) := by
  obtain ⟨t1, t2, t3, t4, u1, u2, u3, u4, n, hl⟩ := T.at_
  refine ⟨fun k => findBy Value.isInt #[⟨110, .int 110 t1, .int 10 u1⟩, ⟨116, .int 116 t2, .int 9 u2⟩, ⟨92, .int 92 t3, .int 92 u3⟩, ⟨34, .int 34 t4, .int 34 u4⟩] k, ⟨_, _, n, I.kIn _ _ hl, ⟨rfl, rfl, rfl⟩, rfl, ?_, fun _ => rfl⟩, ?_⟩
  · intro e he
    have hc : e = ⟨110, .int 110 t1, .int 10 u1⟩ ∨ e = ⟨116, .int 116 t2, .int 9 u2⟩ ∨ e = ⟨92, .int 92 t3, .int 92 u3⟩ ∨ e = ⟨34, .int 34 t4, .int 34 u4⟩ := by simpa using he
    rcases hc with rfl | rfl | rfl | rfl
    · exact ⟨110, rfl, (show (110 : Int) = hashInt 110 by decide +kernel)⟩
    · exact ⟨116, rfl, (show (116 : Int) = hashInt 116 by decide +kernel)⟩
    · exact ⟨92, rfl, (show (92 : Int) = hashInt 92 by decide +kernel)⟩
    · exact ⟨34, rfl, (show (34 : Int) = hashInt 34 by decide +kernel)⟩
  · intro i d hd
    have ef : findBy Value.isInt #[⟨110, .int 110 t1, .int 10 u1⟩, ⟨116, .int 116 t2, .int 9 u2⟩, ⟨92, .int 92 t3, .int 92 u3⟩, ⟨34, .int 34 t4, .int 34 u4⟩] i =
        if i = 110 then some (.int 10 u1) else if i = 116 then some (.int 9 u2) else if i = 92 then some (.int 92 u3) else if i = 34 then some (.int 34 u4) else none := by
      have b1 : ∀ (j : Int) (t : Tok), Value.isInt i (.int j t) = decide (i = j) := fun j t => by
        show (j == i) = decide (i = j)
        by_cases h : i = j
        · subst h
          rw [decide_eq_true rfl]
          exact beq_self_eq_true i
        · rw [decide_eq_false h]
          exact beq_false_of_ne fun z => h z.symm
      unfold findBy
      rw [List.find?_toArray]
      simp only [List.find?_cons, b1]
      by_cases h1 : i = 110
      · simp [h1]
      · by_cases h2 : i = 116
        · simp [h2]
        · by_cases h3 : i = 92
          · simp [h3]
          · by_cases h4 : i = 34
            · simp [h4]
            · simp [h1, h2, h3, h4]
    show RelV (.int (escI i)) ((findBy Value.isInt _ i).getD d)
    rw [ef]
    unfold escI
    by_cases h1 : i = 110
    · rw [if_pos h1, if_pos h1]
      exact ⟨_, rfl⟩
    · rw [if_neg h1, if_neg h1]
      by_cases h2 : i = 116
      · rw [if_pos h2, if_pos h2]
        exact ⟨_, rfl⟩
      · rw [if_neg h2, if_neg h2]
        by_cases h3 : i = 92
        · rw [if_pos h3, if_pos h3]
          exact ⟨_, rfl⟩
        · rw [if_neg h3, if_neg h3]
          by_cases h4 : i = 34
          · rw [if_pos h4, if_pos h4]
            exact ⟨_, rfl⟩
          · rw [if_neg h4, if_neg h4]
            exact hd
end
def tEsc (K : PySem.W.Frag) (td ty tx : TE) : TE := fun σ H Q => td σ H fun x H1 => ∃ a, x = .ref a ∧ EscAt K a ∧ ty σ H1 fun y H2 => tx σ H2 fun z H3 => ∃ i : Int, y = .int i ∧ z = .int (-1) ∧ Q (.int (escI i)) H3
theorem pe_esc {X : Cx} {o e f : Expr} {apos cpos : Pos} {td ty tx : TE} (ho : PE X o td) (he : PE X e ty) (hf : PE X f tx) (m : M2 X o "get" apos e f cpos) : PE X (.Call (.Attribute o "get" apos) [e, f] [] cpos) (tEsc X.K td ty tx) := by
  refine ⟨fun pins s σ H Q I h => ?_⟩
  refine wpAny_Call_method m.base m.few m.line PySem.F.plainAttrs_dict PySem.F.slot_dict_get PySem.F.type_dict_get (thn (ho.run pins s σ H _ I h) fun u s1 ⟨x, H1, I1, rx, a, ex, T, q1⟩ => ?_)
  subst ex
  obtain rfl : u = Value.ref a := rx
  obtain ⟨f1, m1, _⟩ := esc_map I1 T
  refine ⟨m1.typeIs, m1.noDict, ?_⟩
  rw [m.trees]
  refine Calls.callWith_builtin rfl (Calls.evalArgs_plain (Calls.spliced_cons (thn (he.run pins s1 σ H1 _ I1 q1) fun iv s2 ⟨y, H2, I2, ry, q2⟩ =>
    Calls.spliced_cons (thn (hf.run pins s2 σ H2 _ I2 q2) fun fv s3 ⟨z, H3, I3, rz, i, ey, ez, q3⟩ => Calls.spliced_nil ?_))))
  subst ey ez
  obtain ⟨t, rfl⟩ : ∃ t, iv = Value.int i t := ry
  obtain ⟨f3, m3, r3⟩ := esc_map I3 T
  refine call_meetsIn PySem.F.slot_dict_get m3.typeIs PySem.F.entry_dict_get (PySem.F.args_dict_get_3 _ _ _) (meets_dict_get_default (PySem.intKind X.prog X.w) (d := a) (k := i) (by show (i == i) = true; exact beq_self_eq_true i) T.low fv) ⟨f3, m3, ?_⟩
  exact ⟨_, H3, I3.tok _, r3 i fv rz, q3⟩
/-! ### 16. string_byte, string -/
section
variable {P : Program} {w : World} {K : PySem.W.Frag} {mg : Str → Option Value} {base : Heap}
def spStrByte (K : PySem.W.Frag) : Sp := fun vs H Q _ => ∃ (a : Addr) (t : B) (i : Nat), vs = [.ref a, .int (i : Int)] ∧ SqL K H a (vI t) ∧
  ∀ (H' : Hp) (p : Addr), Same H H' → H p = none → H' p = some (.tup [.int ((sB t i).1 : Nat), .int (sB t i).2]) → Q (.ref p) H'
abbrev sStrByte : Stmt := top 60
theorem scStrByte : FnScope ["text", "at", "byte", "behind", "high", "low"] ["text", "at"] (defScope sStrByte) := ⟨rfl, rfl, rfl, by decide +kernel, rfl, by decide +kernel, by decide +kernel⟩
theorem cal_string_byte {f : Addr} {fd : FuncData} (F : Fun K "string_byte" "string_byte" sStrByte f fd) (T : Txt K mg) (cB : C8.Cal P w K mg base 1 "byte_at" (spByteAt K) []) (cX : C8.Cal P w K mg base 2 "hex_of" spHex [])
    (hm : mg "string_byte" = some (.ref f)) (hb : Binds K fd ["text", "at"] []) : C8.Cal P w K mg base 3 "string_byte" (spStrByte K) [] := by
  refine ⟨f, fd, _, [], F.ok scStrByte (fun vs H Q E h => ?_) (fun cdv A outer s H vs Q E hr h => ?_), hm, F.kp, hb, .nil⟩
  · obtain ⟨a, t, i, rfl, _⟩ := h
    rfl
  obtain ⟨a, t, i, rfl, hS, q⟩ := h
  obtain ⟨aE, gE, tE⟩ := T.esc
  refine ⟨_, pss_cons (ps_set (i := 2) scStrByte.nd rfl (.inl rfl) (C8.pe_c cB hr (by decide) (by rfl) (pa_cons (pv 0) (pa_cons (pv 1) pa_nil))))
    (pss_cons (ps_if (pt_cmpR op_ne (pv 2) (C8.pe_gc (by rfl) T.kBACK) (nomark _))
      (pss_cons (ps_if (PW.pt (pw_and (pt_chain op_le op_le pe_int (pv 2) pe_int) (pw_and1 (pt_cmpR op_ne (pv 2) (C8.pe_gc (by rfl) T.kQUOTE) (nomark _)))))
        (pss_one (ps_ret (pe_tup (pa_cons (pe_op op_add (pv 1) pe_int) (pa_cons (pv 2) pa_nil))))) pss_nil)
      (pss_one (ps_ret (pe_tup (pa_cons (pv 1) (pa_cons (pe_un un_neg pe_int) pa_nil)))))) pss_nil)
    (pss_cons (ps_set (i := 3) scStrByte.nd rfl (.inl rfl) (C8.pe_c cB hr (by decide) (by rfl) (pa_cons (pv 0) (pa_cons (pe_op op_add (pv 1) pe_int) pa_nil))))
    (pss_cons (ps_if (pt_cmpR op_eq (pv 3) (C8.pe_gc (by rfl) T.kSMALL_X) (nomark _))
      (pss_cons (ps_set (i := 4) scStrByte.nd rfl (.inl rfl) (C8.pe_c cX hr (by decide) (by rfl) (pa_cons (C8.pe_c cB hr (by decide) (by rfl) (pa_cons (pv 0) (pa_cons (pe_op op_add (pv 1) pe_int) pa_nil))) pa_nil)))
      (pss_cons (ps_set (i := 5) scStrByte.nd rfl (.inl rfl) (C8.pe_c cX hr (by decide) (by rfl) (pa_cons (C8.pe_c cB hr (by decide) (by rfl) (pa_cons (pv 0) (pa_cons (pe_op op_add (pv 1) pe_int) pa_nil))) pa_nil)))
      (pss_cons (ps_if (PW.pt (pw_and (pt_cmpR op_ge (pv 4) pe_int (nomark _)) (pw_and1 (pt_cmpR op_ge (pv 5) pe_int (nomark _)))))
        (pss_one (ps_ret (pe_tup (pa_cons (pe_op op_add (pv 1) pe_int) (pa_cons (pe_op op_add (pe_op op_mul pe_int (pv 4)) (pv 5)) pa_nil))))) pss_nil)
      (pss_one (ps_ret (pe_tup (pa_cons (pv 1) (pa_cons (pe_un un_neg pe_int) pa_nil)))))))) pss_nil)
    (pss_one (ps_ret (pe_tup (pa_cons (pe_op op_add (pv 1) pe_int) (pa_cons (pe_esc (C8.pe_gc (by rfl) gE) (pv 3) (pe_un un_neg pe_int) ⟨rfl, rfl, rfl, rfl⟩) pa_nil)))))))), ?_⟩
  have fin : ∀ {D : Ends} {σ : L2.St} {ta tb : TE} {e : Nat} {y j : Int}, D.rt = Q → sB t i = (e, y) → Pu ta σ H (.int j) → j = (e : Int) → Pu tb σ H (.int y) → tRet (tTup (tCons ta (tCons tb tNil))) D σ H := fun hD hs h1 ej h2 =>
    u_rett (pua2 h1 h2) (by show 2 ≤ 100000; decide) fun p hn => by
      rw [hD]
      exact q _ p (same_upd hn) hn (by rw [upd_same, hs, ej])
  unfold sB at fin
  refine u_asg (pu_byte (pu_var rfl) (pu_var rfl) hS rfl) ?_
  refine u_ifr (put_test (pu_ne (pu_var rfl) pu_c rfl)) (fun e => ?_) (fun e => ?_)
  · have e1 : bAt t i ≠ 92 := fun z => by
      rw [decide_eq_true (congrArg V.int z)] at e
      cases e
    rw [if_pos e1] at fin
    refine u_ifr (put_and (put_range pu_c (pu_var rfl) pu_c) fun _ => put_test (pu_ne (pu_var rfl) pu_c rfl)) (fun e => ?_) (fun e => ?_)
    · obtain ⟨z1, z2⟩ := Bool.and_eq_true_iff.mp e
      have y1 := of_decide_eq_true z1
      have y2 : bAt t i ≠ 34 := fun z => by
        rw [decide_eq_true (congrArg V.int z)] at z2
        cases z2
      rw [if_pos ⟨y1.1, y1.2, y2⟩] at fin
      exact fin rfl rfl (pu_add (pu_var rfl) pu_c) (by omega) (pu_var rfl)
    · have y : ¬ (32 ≤ bAt t i ∧ bAt t i ≤ 126 ∧ bAt t i ≠ 34) := by
        rintro ⟨y1, y2, y3⟩
        rw [decide_eq_true (⟨y1, y2⟩ : 32 ≤ bAt t i ∧ bAt t i ≤ 126), decide_eq_false (fun z => y3 (V.int.inj z))] at e
        cases e
      rw [if_neg y] at fin
      exact fin rfl rfl (pu_var rfl) rfl (pu_neg pu_c)
  · have e1 : ¬ bAt t i ≠ 92 := fun z => by
      rw [decide_eq_false (fun y => z (V.int.inj y))] at e
      cases e
    rw [if_neg e1] at fin
    refine u_asg (pu_byte (i := i + 1) (pu_var rfl) (pu_add (pu_var rfl) pu_c) hS (by omega)) ?_
    refine u_ifr (put_test (pu_eq (pu_var rfl) pu_c rfl)) (fun e => ?_) (fun e => ?_)
    · rw [if_pos (V.int.inj (of_decide_eq_true e))] at fin
      refine u_asg (pu_hex (pu_byte (i := i + 2) (pu_var rfl) (pu_add (pu_var rfl) pu_c) hS (by omega))) ?_
      refine u_asg (pu_hex (pu_byte (i := i + 3) (pu_var rfl) (pu_add (pu_var rfl) pu_c) hS (by omega))) ?_
      refine u_ifr (put_and (put_test (pu_ge (pu_var rfl) pu_c)) fun _ => put_test (pu_ge (pu_var rfl) pu_c)) (fun e => ?_) (fun e => ?_)
      · obtain ⟨z1, z2⟩ := Bool.and_eq_true_iff.mp e
        rw [if_pos ⟨of_decide_eq_true z1, of_decide_eq_true z2⟩] at fin
        exact fin rfl rfl (pu_add (pu_var rfl) pu_c) (by omega) (pu_add (pu_mul pu_c (pu_var rfl) (.inl ⟨by decide, by decide⟩)) (pu_var rfl))
      · have y : ¬ (0 ≤ hexI (bAt t (i + 2)) ∧ 0 ≤ hexI (bAt t (i + 3))) := by
          rintro ⟨y1, y2⟩
          rw [decide_eq_true y1, decide_eq_true y2] at e
          cases e
        rw [if_neg y] at fin
        exact fin rfl rfl (pu_var rfl) rfl (pu_neg pu_c)
    · rw [if_neg (fun z => of_decide_eq_false e (congrArg V.int z))] at fin
      exact fin rfl rfl (pu_add (pu_var rfl) pu_c) (by omega) (fun Q z => ⟨aE, rfl, tE, _, rfl, _, rfl, _, rfl, rfl, z⟩)
end
end Tk
namespace Tk
open PySem PySem.Spec PyProof.Rows L2
/-! ### 17. string, sign, token_at, comment_end -/
theorem vI_snoc (l : B) (c : Nat) : vI (l ++ [c]) = vI l ++ [.int (c : Int)] := by
  unfold vI asInts
  rw [List.map_append, List.map_append]
  rfl
def cStr1 (l : B) : Option Core := cStr (l.drop 1)
theorem int_in (l : B) (c : Nat) : inV (.int (c : Int)) (vI l) = l.contains c := by
  unfold inV vI asInts
  rw [List.map_map, List.any_map]
  apply Bool.eq_iff_iff.mpr
  rw [List.any_eq_true, List.contains_iff_mem]
  constructor
  · rintro ⟨x, hx, e⟩
    have e1 : ((x : Int) == (c : Int)) = true := e
    have e2 : (x : Int) = (c : Int) := eq_of_beq e1
    have e3 : x = c := by omega
    rw [← e3]
    exact hx
  · intro h
    exact ⟨c, h, (show ((c : Int) == (c : Int)) = true from beq_self_eq_true _)⟩
theorem ones_is : onesV = vI Rd24.ONE := by decide +kernel
theorem twos_in {c d : Nat} (hc : c ≤ 255) (hd : d ≤ 255) : inV (.int (256 * (c : Int) + d)) twosV = Rd24.TWO.contains [c, d] := by
  have e1 : Rd24.TWO = [[61, 61], [33, 61], [60, 61], [62, 61]] := by decide +kernel
  have e2 : twosV = vI [15677, 8509, 15421, 15933] := rfl
  have e3 : (256 * (c : Int) + d) = ((256 * c + d : Nat) : Int) := by omega
  rw [e1, e2, e3, int_in]
  apply Bool.eq_iff_iff.mpr
  rw [List.contains_iff_mem, List.contains_iff_mem]
  simp
  omega
theorem flat_vI (l : B) : (vI l).all flatV = true := by
  unfold vI asInts
  rw [List.all_eq_true]
  intro x hx
  obtain ⟨y, _, rfl⟩ := List.mem_map.mp hx
  rfl
section
variable {P : Program} {w : World} {K : PySem.W.Frag} {mg : Str → Option Value} {base : Heap}
abbrev sString : Stmt := top 61
theorem scString : FnScope ["text", "at", "found", "here", "end", "byte"] ["text", "at"] (defScope sString) := ⟨rfl, rfl, rfl, by decide +kernel, rfl, by decide +kernel, by decide +kernel⟩
theorem cal_string {f : Addr} {fd : FuncData} (F : Fun K "string" "string" sString f fd) (T : Txt K mg) (cB : C8.Cal P w K mg base 1 "byte_at" (spByteAt K) []) (cS : C8.Cal P w K mg base 3 "string_byte" (spStrByte K) [])
    (hm : mg "string" = some (.ref f)) (hb : Binds K fd ["text", "at"] []) : C8.Cal P w K mg base 4 "string" (spTokF K okLt cStr1) [] := by
  refine ⟨f, fd, _, [], F.ok scString (fun vs H Q E h => same_len h) (fun cdv A outer s H vs Q E hr h => ?_), hm, F.kp, hb, .nil⟩
  obtain ⟨a, t, i, rfl, hS, hlen, hi, q⟩ := h
  refine ⟨_, pss_cons (ps_set (i := 2) scString.nd rfl (.inl rfl) (pe_lst pa_nil))
    (pss_cons (ps_set (i := 3) scString.nd rfl (.inl rfl) (pe_op op_add (pv 1) pe_int))
    (pss_cons (ps_asg (C8.pe_c cS hr (by decide) (by rfl) (pa_cons (pv 0) (pa_cons (pv 3) pa_nil))) (pg_tup rfl (pgs_cons (pg_name (i := 4) scString.nd rfl (.inl rfl)) (pgs_cons (pg_name (i := 5) scString.nd rfl (.inl rfl)) pgs_nil))))
    (pss_cons (ps_while PassesOwn.never (pt_cmpR op_ge (pv 5) pe_int (nomark _))
      (pss_cons (ps_expr (pe_bm PySem.F.plainAttrs_list PySem.F.slot_list_append PySem.F.type_list_append mt_append (pv 2) (pa_cons (pv 5) pa_nil)))
      (pss_cons (ps_set (i := 3) scString.nd rfl (.inl rfl) (pv 4))
      (pss_one (ps_asg (C8.pe_c cS hr (by decide) (by rfl) (pa_cons (pv 0) (pa_cons (pv 3) pa_nil))) (pg_tup rfl (pgs_cons (pg_name (i := 4) scString.nd rfl (.inl rfl)) (pgs_cons (pg_name (i := 5) scString.nd rfl (.inl rfl)) pgs_nil))))))))
    (pss_cons (ps_if (PW.pt (pw_or (pt_cmpR op_ne (C8.pe_c cB hr (by decide) (by rfl) (pa_cons (pv 0) (pa_cons (pv 3) pa_nil))) (C8.pe_gc (by rfl) T.kQUOTE) (nomark _)) (pw_or1 (pt_cmpR op_gt (pe_callB call_len_seq (by rfl) T.nlen PySem.boot_len (pa_cons (pv 2) pa_nil)) (C8.pe_gc (by rfl) T.kMOST_STRING) (nomark _)))))
      (pss_one (ps_ret (pe_tup (pa_cons (pv 3) (pa_cons (C8.pe_gc (by rfl) T.kBAD) (pa_cons pe_non pa_nil)))))) pss_nil)
    (pss_one (ps_ret (pe_tup (pa_cons (pe_op op_add (pv 3) pe_int) (pa_cons (C8.pe_gc (by rfl) T.kSTRING) (pa_cons (pe_callTy call_tuple_of (by rfl) T.ntuple (by decide +kernel) (pa_cons (pv 2) pa_nil)) pa_nil)))))))))), ?_⟩
  -- found = []
  refine ⟨Nat.zero_le _, fun o no => ?_⟩
  have s1 : Same H (upd H o (.lst [])) := same_upd no
  -- here = at + 1
  refine u_asg (pu_is (pu_add (pu_var rfl) pu_c) (congrArg V.int (show (i : Int) + 1 = ((i + 1 : Nat) : Int) by omega))) ?_
  -- end, byte = string_byte(text, here)
  refine ⟨.ref a, rfl, .int ((i + 1 : Nat) : Int), rfl, a, t, i + 1, rfl, s1.seq hS, fun H1 p1 s2 n1 hp1 => ?_⟩
  refine ⟨p1, _, rfl, SqT.of hp1, rfl, _, _, rfl, _, _, rfl, rfl, ?_⟩
  refine u_while (fun m σ H' => ∃ (pre : B) (j : Nat), σ = [some (.ref a), some (.int (i : Int)), some (.ref o), some (.int (j : Int)), some (.int ((sB t j).1 : Nat)), some (.int (sB t j).2)] ∧
      Rd24.stringOf (t.drop (i + 1)) = (Rd24.stringOf (t.drop j)).map (fun x => (pre ++ x.1, x.2.1 + (j - (i + 1)), x.2.2)) ∧ i + 1 ≤ j ∧ j ≤ t.length ∧ pre.length ≤ j - (i + 1) ∧ m = t.length - j ∧ Same H H' ∧ H' o = some (.lst (vI pre)))
    _ ⟨[], i + 1, rfl, ?_, Nat.le_refl _, hi, Nat.zero_le _, rfl, s1.trans s2, s2 _ _ upd_same⟩ ?_
  · cases Rd24.stringOf (t.drop (i + 1)) with
    | none => rfl
    | some x =>
      show some x = some ([] ++ x.1, x.2.1 + (i + 1 - (i + 1)), x.2.2)
      rw [Nat.sub_self]
      rfl
  rintro m σ H2 ⟨pre, j, rfl, es, h1, h2, h3, em, s3, ho⟩
  have hS2 := s3.seq hS
  obtain ⟨go, stop⟩ := sB_step t j
  refine ⟨_, put_test (pu_ge (pu_var rfl) pu_c), fun hb => ?_, fun hb => ?_⟩
  · have y0 : 0 ≤ (sB t j).2 := of_decide_eq_true hb
    obtain ⟨g1, g2, g3⟩ := go _ rfl y0
    have g4 := sB_le t j y0
    refine u_app ho (pu_var rfl) (pu_var rfl) (by rw [vI_len]; omega) ?_
    refine u_asg (pu_var rfl) ?_
    have s4 : Same H (upd H2 o (.lst (vI pre ++ [.int (sB t j).2]))) := fun b x e => by
      rw [upd_ne (ne_of_none e no)]
      exact s3 _ _ e
    refine ⟨.ref a, rfl, .int ((sB t j).1 : Nat), rfl, a, t, (sB t j).1, rfl, s4.seq hS, fun H3 p3 s5 n3 hp3 => ?_⟩
    refine ⟨p3, _, rfl, SqT.of hp3, rfl, _, _, rfl, _, _, rfl, rfl, ?_⟩
    refine ⟨t.length - (sB t j).1, by omega, pre ++ [(sB t j).2.toNat], (sB t j).1, rfl, ?_, by omega, g4, ?_, rfl, s4.trans s5, ?_⟩
    · rw [es, g1]
      unfold more
      cases Rd24.stringOf (t.drop (sB t j).1) with
      | none => rfl
      | some x =>
        show some (pre ++ (sB t j).2.toNat :: x.1, x.2.1 + ((sB t j).1 - j) + (j - (i + 1)), x.2.2) = some (pre ++ [(sB t j).2.toNat] ++ x.1, x.2.1 + ((sB t j).1 - (i + 1)), x.2.2)
        rw [List.append_assoc, show x.2.1 + ((sB t j).1 - j) + (j - (i + 1)) = x.2.1 + ((sB t j).1 - (i + 1)) by omega]
        rfl
    · rw [List.length_append]
      show pre.length + 1 ≤ _
      omega
    · rw [s5 _ _ upd_same, vI_snoc, Int.toNat_of_nonneg y0]
  · have y0 : (sB t j).2 < 0 := by
      have := of_decide_eq_false hb
      omega
    obtain ⟨z1, z2⟩ := stop y0
    refine u_ifr (put_or (put_test (pu_ne (pu_byte (pu_var rfl) (pu_var rfl) hS2 rfl) pu_c rfl)) fun _ => put_test (pu_gt (pu_is (pu_lenL (pu_var rfl) (SqL.of ho)) (congrArg (fun n : Nat => V.int (n : Int)) (vI_len pre))) pu_c)) (fun e => ?_) (fun e => ?_)
    · have en : cStr1 (t.drop i) = none := by
        unfold cStr1 cStr
        rw [List.drop_drop, es]
        by_cases y : bAt t j = 34
        · rw [z1 y]
          have y2 : 1024 < pre.length := by
            rcases Bool.or_eq_true_iff.mp e with x | x
            · rw [decide_eq_true (congrArg V.int y)] at x
              cases x
            · have x' : (1024 : Int) < (pre.length : Nat) := of_decide_eq_true x
              omega
          show (if 1024 < (pre ++ []).length then none else some _) = none
          rw [List.append_nil, if_pos y2]
        · rw [z2 y]
          rfl
      exact u_rett (pua_cons (pu_var rfl) (pua2 pu_c pu_c)) (by show 3 ≤ 100000; decide) fun p hn => q _ p _ _ _ (s3.trans (same_upd hn)) (s3.free hn) upd_same (by rw [en]; rfl)
    · obtain ⟨x1, x2⟩ := Bool.or_eq_false_iff.mp e
      have y : bAt t j = 34 := by
        apply Classical.byContradiction
        intro y
        rw [decide_eq_false (fun x => y (V.int.inj x))] at x1
        cases x1
      have y2 : ¬ 1024 < pre.length := by
        have x' : ¬ (1024 : Int) < (pre.length : Nat) := of_decide_eq_false x2
        omega
      have en : cStr1 (t.drop i) = some ⟨3, pre, 0, 1 + (j - (i + 1)) + 1⟩ := by
        unfold cStr1 cStr
        rw [List.drop_drop, es, z1 y]
        show (if 1024 < (pre ++ []).length then none else some (⟨3, pre ++ [], 0, 1 + (j - (i + 1)) + 1⟩ : Core)) = _
        rw [List.append_nil, if_neg y2]
      refine ⟨_, rfl, _, _, rfl, rfl, _, rfl, o, vI pre, rfl, .inl ⟨SqL.of ho, fun l nl => ?_⟩⟩
      refine ⟨by show 3 ≤ sizeLine; decide, fun p hn => ?_⟩
      have s5 : Same H2 (upd H2 l (.tup (vI pre))) := same_upd nl
      have s6 := same_upd (o := .tup [.int ((j : Int) + 1), .int 3, .ref l]) hn
      refine q _ p _ _ _ ((s3.trans s5).trans s6) ((s3.trans s5).free hn) upd_same ?_
      rw [en]
      refine ⟨?_, rfl, ⟨fun x => absurd x (by show ¬ (3 = 0 ∨ 3 = 1); omega), fun x => absurd x (by show ¬ 3 = 2; omega), fun _ => ⟨l, rfl, s6 _ _ upd_same⟩, fun x => absurd x (by show ¬ 3 = 4; omega)⟩⟩
      show (j : Int) + 1 = ((i + (1 + (j - (i + 1)) + 1) : Nat) : Int)
      omega
end
end Tk
namespace Tk
open PySem PySem.Spec PyProof.Rows L2
/-! ### 18. sign, token_at, comment_end -/
theorem valOk_sign {H : Hp} {b : B} {n z : Int} (h : z = codeOf b) : ValOk H (.int z) 4 b n := ⟨fun e => (by omega), fun e => (by omega), fun e => (by omega), fun _ => by rw [h]⟩
theorem two_len {l : B} (h : Rd24.TWO.contains l = true) : l.length = 2 := (two_sgn h).1
section
variable {P : Program} {w : World} {K : PySem.W.Frag} {mg : Str → Option Value} {base : Heap}
abbrev sSgn : Stmt := top 62
theorem scSgn : FnScope ["text", "at", "two"] ["text", "at"] (defScope sSgn) := ⟨rfl, rfl, rfl, by decide +kernel, rfl, by decide +kernel, by decide +kernel⟩
theorem cal_sign {f : Addr} {fd : FuncData} (F : Fun K "sign" "sign" sSgn f fd) (T : Txt K mg) (cB : C8.Cal P w K mg base 1 "byte_at" (spByteAt K) []) (hm : mg "sign" = some (.ref f)) (hb : Binds K fd ["text", "at"] []) :
    C8.Cal P w K mg base 2 "sign" (spTokF K okB cSign) [] := by
  refine ⟨f, fd, _, [], F.ok scSgn (fun vs H Q E h => same_len h) (fun cdv A outer s H vs Q E hr h => ?_), hm, F.kp, hb, .nil⟩
  obtain ⟨a, t, i, rfl, hS, hlen, ⟨hi, h255⟩, q⟩ := h
  obtain ⟨a1, g1, t1⟩ := T.tONES
  obtain ⟨a2, g2, t2⟩ := T.tTWOS
  refine ⟨_, pss_cons (ps_set (i := 2) scSgn.nd rfl (.inl rfl) (pe_op op_add (pe_op op_mul pe_int (pe_ix ix_list (pv 0) (pv 1) (fun _ _ => rfl))) (C8.pe_c cB hr (by decide) (by rfl) (pa_cons (pv 0) (pa_cons (pe_op op_add (pv 1) pe_int) pa_nil)))))
    (pss_cons (ps_if (PW.pt (pw_and (pt_cmpR op_ge (C8.pe_c cB hr (by decide) (by rfl) (pa_cons (pv 0) (pa_cons (pe_op op_add (pv 1) pe_int) pa_nil))) pe_int (nomark _)) (pw_and1 (pt_cmpR op_in_seq (pv 2) (C8.pe_gc (by rfl) g2) rfl))))
      (pss_one (ps_ret (pe_tup (pa_cons (pe_op op_add (pv 1) pe_int) (pa_cons (C8.pe_gc (by rfl) T.kSIGN) (pa_cons (pv 2) pa_nil)))))) pss_nil)
    (pss_cons (ps_if (pt_cmpR op_in_seq (pe_ix ix_list (pv 0) (pv 1) (fun _ _ => rfl)) (C8.pe_gc (by rfl) g1) rfl)
      (pss_one (ps_ret (pe_tup (pa_cons (pe_op op_add (pv 1) pe_int) (pa_cons (C8.pe_gc (by rfl) T.kSIGN) (pa_cons (pe_ix ix_list (pv 0) (pv 1) (fun _ _ => rfl)) pa_nil)))))) pss_nil)
    (pss_one (ps_ret (pe_tup (pa_cons (pv 1) (pa_cons (C8.pe_gc (by rfl) T.kBAD) (pa_cons pe_non pa_nil)))))))), ?_⟩
  have hc := bAt_lt hi
  have hc255 : t[i] ≤ 255 := h255 _ (List.getElem_mem hi)
  have ed := drop_some hc
  have ei := atI_nat (vI_get hc)
  have e1 : (t.drop i).headD 0 = t[i] := by
    rw [ed]
    rfl
  refine u_asg (pu_add (pu_mul pu_c (pu_ixL (pu_var rfl) (pu_var rfl) hS ei) (.inl ⟨by decide, by decide⟩)) (pu_byte (i := i + 1) (pu_var rfl) (pu_add (pu_var rfl) pu_c) hS (by omega))) ?_
  have flat2 : twosV.all flatV = true := by decide
  have flat1 : onesV.all flatV = true := by decide
  -- what the two bytes say
  have two : (decide (0 ≤ bAt t (i + 1)) && inV (.int (256 * (t[i] : Int) + bAt t (i + 1))) twosV) = Rd24.TWO.contains ((t.drop i).take 2) := by
    rcases bAt_cases t (i + 1) with ⟨_, eb, ed1, _⟩ | ⟨d, hd, eb, ed1, hl1⟩
    · rw [eb, ed, ed1]
      have : Rd24.TWO.contains (List.take 2 [t[i]]) = false := by
        cases z : Rd24.TWO.contains (List.take 2 [t[i]]) with
        | false => rfl
        | true => exact absurd (two_len z) (by show ¬ (1 = 2); omega)
      rw [this]
      rfl
    · have hd255 : d ≤ 255 := h255 _ (List.mem_of_getElem? hd)
      rw [eb, ed, ed1]
      show (decide (0 ≤ (d : Int)) && inV (.int (256 * (t[i] : Int) + (d : Int))) twosV) = Rd24.TWO.contains [t[i], d]
      rw [twos_in hc255 hd255, decide_eq_true (show 0 ≤ (d : Int) by omega), Bool.true_and]
  refine u_ifr (put_and (put_test (pu_ge (pu_byte (i := i + 1) (pu_var rfl) (pu_add (pu_var rfl) pu_c) hS (by omega)) pu_c)) fun _ => put_test (pu_in (neg := false) (pu_var rfl) pu_c (t2 _) rfl flat2)) (fun e => ?_) (fun e => ?_)
  · have e2 : Rd24.TWO.contains ((t.drop i).take 2) = true := by
      rw [← two]
      exact e
    have en : cSign (t.drop i) = some ⟨4, (t.drop i).take 2, 0, 2⟩ := if_pos e2
    refine u_rett (pua_cons (pu_add (pu_var rfl) pu_c) (pua2 pu_c (pu_var rfl))) (by show 3 ≤ 100000; decide) fun p hn => q _ p _ _ _ (same_upd hn) hn upd_same ?_
    rw [en]
    refine ⟨by show (i : Int) + 2 = ((i + 2 : Nat) : Int); omega, rfl, valOk_sign ?_⟩
    rcases bAt_cases t (i + 1) with ⟨_, eb, ed1, _⟩ | ⟨d, hd, eb, ed1, hl1⟩
    · rw [ed, ed1] at e2
      exact absurd (two_len e2) (by show ¬ (1 = 2); omega)
    · rw [eb, ed, ed1]
      rfl
  · have e2 : ¬ Rd24.TWO.contains ((t.drop i).take 2) = true := fun z => by
      rw [← two] at z
      have e' : (decide (0 ≤ bAt t (i + 1)) && inV (.int (256 * (t[i] : Int) + bAt t (i + 1))) twosV) = false := e
      rw [z] at e'
      cases e'
    have en : cSign (t.drop i) = if Rd24.ONE.contains t[i] = true then some ⟨4, [t[i]], 0, 1⟩ else none := by
      unfold cSign
      rw [if_neg e2, e1]
    have one : inV (.int (t[i] : Int)) onesV = Rd24.ONE.contains t[i] := by rw [ones_is, int_in]
    refine u_ifr (put_test (pu_in (neg := false) (pu_ixL (pu_var rfl) (pu_var rfl) hS ei) pu_c (t1 _) rfl flat1)) (fun e => ?_) (fun e => ?_)
    · have e3 : Rd24.ONE.contains t[i] = true := by
        rw [← one]
        exact e
      rw [if_pos e3] at en
      refine u_rett (pua_cons (pu_add (pu_var rfl) pu_c) (pua2 pu_c (pu_ixL (pu_var rfl) (pu_var rfl) hS ei))) (by show 3 ≤ 100000; decide) fun p hn => q _ p _ _ _ (same_upd hn) hn upd_same ?_
      rw [en]
      exact ⟨by show (i : Int) + 1 = ((i + 1 : Nat) : Int); omega, rfl, valOk_sign rfl⟩
    · have e3 : ¬ Rd24.ONE.contains t[i] = true := fun z => by
        rw [← one] at z
        have e' : inV (.int (t[i] : Int)) onesV = false := e
        rw [z] at e'
        cases e'
      rw [if_neg e3] at en
      exact u_rett (pua_cons (pu_var rfl) (pua2 pu_c pu_c)) (by show 3 ≤ 100000; decide) fun p hn => q _ p _ _ _ (same_upd hn) hn upd_same (by rw [en]; rfl)
abbrev sTokenAt : Stmt := top 63
theorem scTokenAt : FnScope ["text", "at"] ["text", "at"] (defScope sTokenAt) := ⟨rfl, rfl, rfl, by decide +kernel, rfl, by decide +kernel, by decide +kernel⟩
theorem cal_token_at {f : Addr} {fd : FuncData} (F : Fun K "token_at" "token_at" sTokenAt f fd) (T : Txt K mg) (cD : C8.Cal P w K mg base 1 "digit_of" spDigit []) (cN : C8.Cal P w K mg base 2 "name_sign" spSign1 [])
    (cNu : C8.Cal P w K mg base 4 "number" (spTokF K okLt cNum) []) (cNa : C8.Cal P w K mg base 4 "named" (spTokF K okAll cName) []) (cSt : C8.Cal P w K mg base 4 "string" (spTokF K okLt cStr1) []) (cSi : C8.Cal P w K mg base 2 "sign" (spTokF K okB cSign) [])
    (hm : mg "token_at" = some (.ref f)) (hb : Binds K fd ["text", "at"] []) : C8.Cal P w K mg base 5 "token_at" (spTokF K okB core) [] := by
  refine ⟨f, fd, _, [], F.ok scTokenAt (fun vs H Q E h => same_len h) (fun cdv A outer s H vs Q E hr h => ?_), hm, F.kp, hb, .nil⟩
  obtain ⟨a, t, i, rfl, hS, hlen, ⟨hi, h255⟩, q⟩ := h
  refine ⟨_, pss_cons (ps_if (pt_cmpR op_ge (C8.pe_c cD hr (by decide) (by rfl) (pa_cons (pe_ix ix_list (pv 0) (pv 1) (fun _ _ => rfl)) pa_nil)) pe_int (nomark _))
      (pss_one (ps_ret (C8.pe_c cNu hr (by decide) (by rfl) (pa_cons (pv 0) (pa_cons (pv 1) pa_nil))))) pss_nil)
    (pss_cons (ps_if (pt_cmpR op_ne (C8.pe_c cN hr (by decide) (by rfl) (pa_cons (pe_ix ix_list (pv 0) (pv 1) (fun _ _ => rfl)) pa_nil)) pe_str (nomark _))
      (pss_one (ps_ret (C8.pe_c cNa hr (by decide) (by rfl) (pa_cons (pv 0) (pa_cons (pv 1) pa_nil))))) pss_nil)
    (pss_cons (ps_if (pt_cmpR op_eq (pe_ix ix_list (pv 0) (pv 1) (fun _ _ => rfl)) (C8.pe_gc (by rfl) T.kQUOTE) (nomark _))
      (pss_one (ps_ret (C8.pe_c cSt hr (by decide) (by rfl) (pa_cons (pv 0) (pa_cons (pv 1) pa_nil))))) pss_nil)
    (pss_one (ps_ret (C8.pe_c cSi hr (by decide) (by rfl) (pa_cons (pv 0) (pa_cons (pv 1) pa_nil))))))), ?_⟩
  have hc := bAt_lt hi
  have ei := atI_nat (vI_get hc)
  have e1 : (t.drop i).headD 0 = t[i] := by
    rw [drop_some hc]
    rfl
  have ec : core (t.drop i) = if Rd24.digit t[i] = true then cNum (t.drop i) else if Rd24.inName t[i] = true then cName (t.drop i) else if t[i] = 34 then cStr1 (t.drop i) else cSign (t.drop i) := by
    unfold core
    rw [e1]
    rfl
  rw [ec] at q
  refine u_ifr (put_test (pu_ge (pu_digit (pu_ixL (pu_var rfl) (pu_var rfl) hS ei)) pu_c)) (fun e => ?_) (fun e => ?_)
  · rw [if_pos ((digit_iff _).mpr (of_decide_eq_true e))] at q
    exact ⟨.ref a, rfl, .int (i : Int), rfl, a, t, i, rfl, hS, hlen, hi, q⟩
  · rw [if_neg (fun z => of_decide_eq_false e ((digit_iff _).mp z))] at q
    refine u_ifr (put_is (put_test (pu_ne (pu_nsig (pu_ixL (pu_var rfl) (pu_var rfl) hS ei)) pu_c rfl)) (nsS_ne _)) (fun e => ?_) (fun e => ?_)
    · rw [if_pos (by rw [nm_iff]; exact e)] at q
      exact ⟨.ref a, rfl, .int (i : Int), rfl, a, t, i, rfl, hS, hlen, trivial, q⟩
    · rw [if_neg (by rw [nm_iff, e]; decide)] at q
      refine u_ifr (put_test (pu_eq (pu_ixL (pu_var rfl) (pu_var rfl) hS ei) pu_c rfl)) (fun e => ?_) (fun e => ?_)
      · have e2 := V.int.inj (of_decide_eq_true e)
        rw [if_pos (by omega)] at q
        exact ⟨.ref a, rfl, .int (i : Int), rfl, a, t, i, rfl, hS, hlen, hi, q⟩
      · rw [if_neg (fun z => of_decide_eq_false e (congrArg V.int (by omega)))] at q
        exact ⟨.ref a, rfl, .int (i : Int), rfl, a, t, i, rfl, hS, hlen, ⟨hi, h255⟩, q⟩
def spNote (K : PySem.W.Frag) : Sp := fun vs H Q _ => ∃ (a : Addr) (t : B) (i : Nat), vs = [.ref a, .int (i : Int)] ∧ SqL K H a (vI t) ∧
  ∀ (H' : Hp), Same H H' → Q (.int ((i + ((t.drop i).takeWhile fun d => d != 10).length : Nat) : Int)) H'
abbrev sNote : Stmt := top 64
theorem scNote : FnScope ["text", "at"] ["text", "at"] (defScope sNote) := ⟨rfl, rfl, rfl, by decide +kernel, rfl, by decide +kernel, by decide +kernel⟩
theorem cal_comment_end {f : Addr} {fd : FuncData} (F : Fun K "comment_end" "comment_end" sNote f fd) (T : Txt K mg) (cB : C8.Cal P w K mg base 1 "byte_at" (spByteAt K) []) (hm : mg "comment_end" = some (.ref f)) (hb : Binds K fd ["text", "at"] []) :
    C8.Cal P w K mg base 2 "comment_end" (spNote K) [] := by
  refine ⟨f, fd, _, [], F.ok scNote (fun vs H Q E h => ?_) (fun cdv A outer s H vs Q E hr h => ?_), hm, F.kp, hb, .nil⟩
  · obtain ⟨a, t, i, rfl, _⟩ := h
    rfl
  obtain ⟨a, t, i, rfl, hS, q⟩ := h
  refine ⟨_, pss_cons (ps_while PassesOwn.never (pt_cmpR op_notIn_seq (C8.pe_c cB hr (by decide) (by rfl) (pa_cons (pv 0) (pa_cons (pv 1) pa_nil))) (pe_tup (pa_cons (C8.pe_gc (by rfl) T.kLINE_END) (pa_cons (pe_un un_neg pe_int) pa_nil))) rfl)
      (pss_one (ps_aug (i := 1) scNote.nd rfl (.inl rfl) pe_int ip_add)))
    (pss_one (ps_ret (pv 1))), ?_⟩
  refine ⟨fun m σ H' => ∃ (pre : B) (j : Nat), σ = [some (.ref a), some (.int (j : Int))] ∧ (t.drop i).takeWhile (fun d => d != 10) = pre ++ (t.drop j).takeWhile (fun d => d != 10) ∧ j = i + pre.length ∧ m = t.length - j ∧ Same H H',
    ⟨_, [], i, rfl, rfl, rfl, rfl, Same.refl H⟩, ?_⟩
  rintro m σ H1 ⟨pre, j, rfl, ew, ej, em, s1⟩
  obtain ⟨go, stop⟩ := tw_test (p := fun d => d != 10) (q := fun b => decide (b ≠ 10 ∧ b ≠ -1)) (fun c => by
    apply Bool.eq_iff_iff.mpr
    simp
    omega) (by decide) t j
  refine pu_byte (pu_var rfl) (pu_var rfl) (s1.seq hS) rfl _ ?_
  refine ⟨1, rfl, by show 2 ≤ sizeLine; decide, fun p hn => ?_⟩
  have s2 := same_upd (o := .tup [.int 10, .int (-1)]) hn
  refine ⟨p, [.int 10, .int (-1)], rfl, .inr (SqT.of upd_same), rfl, rfl, _, rfl, ?_⟩
  have ev : (if true then !inV (.int (bAt t j)) [.int 10, .int (-1)] else inV (.int (bAt t j)) [.int 10, .int (-1)]) = decide (bAt t j ≠ 10 ∧ bAt t j ≠ -1) := by
    show (!((((10 : Int) == bAt t j)) || (((-1 : Int) == bAt t j) || false))) = _
    apply Bool.eq_iff_iff.mpr
    simp
    omega
  show (if (if true = true then !inV (.int (bAt t j)) [.int 10, .int (-1)] else inV (.int (bAt t j)) [.int 10, .int (-1)]) = true then _ else _)
  rw [ev]
  cases hq : decide (bAt t j ≠ 10 ∧ bAt t j ≠ -1) with
  | true =>
    obtain ⟨c, hc, et, hp⟩ := go hq
    have hj := (List.getElem?_eq_some_iff.mp hc).1
    rw [if_pos rfl]
    refine ⟨fun σ2 H2 => ∃ m', m' < m ∧ _, fun σ2 H2 x => x, ?_⟩
    refine u_aug rfl pu_c ?_
    refine ⟨t.length - (j + 1), by omega, pre ++ [c], j + 1, rfl, ?_, ?_, rfl, s1.trans s2⟩
    · rw [ew, et, List.append_assoc]
      rfl
    · rw [List.length_append, ej]
      rfl
  | false =>
    have e0 := stop hq
    rw [e0, List.append_nil] at ew
    rw [if_neg Bool.false_ne_true]
    refine u_ret (pu_var rfl) ?_
    have q1 := q _ (s1.trans s2)
    rw [ew, ← ej] at q1
    exact q1
end
end Tk
namespace Tk
open PySem PySem.Spec PyProof.Rows L2
/-! ### 19. bytes_of, token_bytes -/
theorem vI_take_more {b : B} {i c : Nat} (h : b[i]? = some c) : vI (b.take (i + 1)) = vI (b.take i) ++ [.int (c : Int)] := by
  rw [List.take_add_one, h]
  exact vI_snoc _ _
section
variable {P : Program} {w : World} {K : PySem.W.Frag} {mg : Str → Option Value} {base : Heap}
def spBytesOf : Sp := fun vs H Q _ => ∃ b : B, vs = [.str (strOf b)] ∧ b.length ≤ 20000 ∧ ∀ (H' : Hp) (p : Addr), Same H H' → H p = none → H' p = some (.tup (vI b)) → Q (.ref p) H'
abbrev sBytesOf : Stmt := top 33
theorem scBytesOf : FnScope ["text", "sign"] ["text"] (defScope sBytesOf) := ⟨rfl, rfl, rfl, by decide +kernel, rfl, by decide +kernel, by decide +kernel⟩
theorem cal_bytes_of {f : Addr} {fd : FuncData} (F : Fun K "bytes_of" "bytes_of" sBytesOf f fd) (T : Txt K mg) (hm : mg "bytes_of" = some (.ref f)) (hb : Binds K fd ["text"] []) : C8.Cal P w K mg base 1 "bytes_of" spBytesOf [] := by
  refine ⟨f, fd, _, [], F.ok scBytesOf (fun vs H Q E h => ?_) (fun cdv A outer s H vs Q E hr h => ?_), hm, F.kp, hb, .nil⟩
  · obtain ⟨b, rfl, _⟩ := h
    rfl
  obtain ⟨b, rfl, hlen, q⟩ := h
  refine ⟨_, pss_one (ps_ret (pe_callTy call_tuple_of (by rfl) T.ntuple (by decide +kernel) (pa_cons
    (pe_lc (own := [("sign", 1)]) (g := gName 1) (tt := tYes) rfl scBytesOf.nd (pi_str (pv 0)) (blkOk_by (N := ["text", "sign"]) (sc := defScope sBytesOf) (by decide +kernel)) (fun _ _ _ _ _ => pg_name (i := 1) scBytesOf.nd rfl (Or.inl rfl)) (fun _ _ _ _ _ => pts_nil)
      (fun _ _ _ _ _ => pe_callB call_ord (by rfl) T.nord (by decide +kernel) (pa_cons (pv 1) pa_nil))) pa_nil))), ?_⟩
  refine ⟨.str (strOf b), rfl, strOf b, rfl, fun D nD => ?_⟩
  have s1 := same_upd (o := .lst []) nD
  have hz : (strOf b).cps.size = b.length := List.size_toArray
  refine lc_it (walk_str (z := strOf b)) (fun i H' => Same H H' ∧ H' D = some (.lst (vI (b.take i)))) ⟨s1, upd_same⟩ (fun _ _ _ _ => trivial) ?_ ?_
  · rintro i x H1 H2 hi ⟨s2, hD⟩ ⟨rfl, c, hc, rfl⟩
    have hc' : b[i]? = some c := by
      rw [← hc]
      show _ = b.toArray[i]?
      rw [List.getElem?_toArray]
    refine ⟨rfl, .str ⟨#[c]⟩, rfl, ⟨#[c]⟩, rfl, rfl, vI (b.take i), hD, ?_, ?_, ?_⟩
    · rw [vI_len, List.length_take]
      exact Nat.lt_of_le_of_lt (Nat.min_le_right _ _) (Nat.lt_of_le_of_lt hlen (by decide))
    · exact fun y o e => by
        rw [upd_ne (ne_of_none e nD)]
        exact s2 _ _ e
    · rw [upd_same, vI_take_more hc']
      rfl
  · rintro H1 ⟨s2, hD⟩
    rw [hz, List.take_length] at hD
    exact ⟨D, vI b, rfl, .inl ⟨SqL.of hD, fun l nl => q _ l (s2.trans (same_upd nl)) (s2.free nl) upd_same⟩⟩
/-- a token's place and kind, its worth at v -/
def spTokBytes : Sp := fun vs H Q _ => ∃ (p : Addr) (k : Nat) (x y v : V) (b : B) (n : Int), vs = [.ref p] ∧ H p = some (.tup [.int (k : Int), x, y, v]) ∧ ValOk H v k b n ∧ k ≤ 4 ∧ (k ≠ 2 → b.length ≤ 20000) ∧ (k = 4 → Sgn b) ∧
  ∀ (H' : Hp) (p' : Addr), Same H H' → H p' = none → H' p' = some (.lst ((worthOf k b n).map V.int)) → Q (.ref p') H'
abbrev sTokBytes : Stmt := top 70
theorem scTokBytes : FnScope ["token"] ["token"] (defScope sTokBytes) := ⟨rfl, rfl, rfl, by decide +kernel, rfl, by decide +kernel, by decide +kernel⟩
theorem u_retl {σ : L2.St} {H : Hp} {D : Ends} {ta : TA} {vs : List V} (h : PuA ta σ H vs) (hl : vs.length ≤ 100000) (k : ∀ p, H p = none → D.rt (.ref p) (upd H p (.lst vs))) : tRet (tLst ta) D σ H := h _ ⟨Nat.le_trans hl (by decide), k⟩
theorem cal_token_bytes {f : Addr} {fd : FuncData} (F : Fun K "token_bytes" "token_bytes" sTokBytes f fd) (T : Txt K mg) (cB : C8.Cal P w K mg base 1 "bytes_of" spBytesOf []) (hm : mg "token_bytes" = some (.ref f)) (hb : Binds K fd ["token"] []) : C8.Cal P w K mg base 2 "token_bytes" spTokBytes [] := by
  refine ⟨f, fd, _, [], F.ok scTokBytes (fun vs H Q E h => ?_) (fun cdv A outer s H vs Q E hr h => ?_), hm, F.kp, hb, .nil⟩
  · obtain ⟨p, k, x, y, v, b, n, rfl, _⟩ := h
    rfl
  obtain ⟨p, k, x, y, v, b, n, rfl, hp, ⟨v01, v2, v3, v4⟩, k4, kb, ks, q⟩ := h
  refine ⟨_, pss_cons (ps_if (pt_cmpR op_eq (pe_ix ix_tup (pv 0) pe_int (fun _ _ => rfl)) (C8.pe_gc (by rfl) T.kNUMBER) (nomark _)) (pss_one (ps_ret (pe_lst (pa_cons (pe_ix ix_tup (pv 0) pe_int (fun _ _ => rfl)) pa_nil)))) pss_nil)
    (pss_cons (ps_if (pt_cmpR op_eq (pe_ix ix_tup (pv 0) pe_int (fun _ _ => rfl)) (C8.pe_gc (by rfl) T.kSTRING) (nomark _)) (pss_one (ps_ret (pe_callTy call_list_of (by rfl) T.nlist (by decide +kernel) (pa_cons (pe_ix ix_tup (pv 0) pe_int (fun _ _ => rfl)) pa_nil)))) pss_nil)
    (pss_cons (ps_if (pt_cmpR op_ne (pe_ix ix_tup (pv 0) pe_int (fun _ _ => rfl)) (C8.pe_gc (by rfl) T.kSIGN) (nomark _)) (pss_one (ps_ret (pe_callTy call_list_of (by rfl) T.nlist (by decide +kernel) (pa_cons (C8.pe_c cB hr (by decide) (by rfl) (pa_cons (pe_ix ix_tup (pv 0) pe_int (fun _ _ => rfl)) pa_nil)) pa_nil)))) pss_nil)
    (pss_cons (ps_if (pt_cmpR op_lt (pe_ix ix_tup (pv 0) pe_int (fun _ _ => rfl)) pe_int (nomark _)) (pss_one (ps_ret (pe_lst (pa_cons (pe_ix ix_tup (pv 0) pe_int (fun _ _ => rfl)) pa_nil)))) pss_nil)
    (pss_one (ps_ret (pe_lst (pa_cons (pe_op op_fdiv (pe_ix ix_tup (pv 0) pe_int (fun _ _ => rfl)) pe_int) (pa_cons (pe_op op_mod (pe_ix ix_tup (pv 0) pe_int (fun _ _ => rfl)) pe_int) pa_nil)))))))), ?_⟩
  have hT : SqT K H p [.int (k : Int), x, y, v] := SqT.of hp
  have g0 : Pu (tOp (rIxT K) (tVar 0) (tC (.int 0))) (start ["token"] [.ref p]) H (.int (k : Int)) := pu_ixT (pu_var rfl) pu_c hT rfl
  have g3 : Pu (tOp (rIxT K) (tVar 0) (tC (.int 3))) (start ["token"] [.ref p]) H v := pu_ixT (pu_var rfl) pu_c hT rfl
  refine u_ifr (put_test (pu_eq g0 pu_c rfl)) (fun e => ?_) (fun e => ?_)
  · have ek : k = 2 := by
      have := V.int.inj (of_decide_eq_true e)
      omega
    have ew : (worthOf k b n).map V.int = [.int n] := by
      unfold worthOf
      rw [if_pos ek]
      rfl
    rw [ew] at q
    rw [v2 ek] at g3
    exact u_retl (pua1 g3) (by show 1 ≤ 100000; decide) fun p' hn => q _ p' (same_upd hn) hn upd_same
  · have nk2 : k ≠ 2 := fun z => of_decide_eq_false e (congrArg V.int (by omega))
    have ew : (worthOf k b n).map V.int = vI b := by
      unfold worthOf
      rw [if_neg nk2]
      rfl
    rw [ew] at q
    refine u_ifr (put_test (pu_eq g0 pu_c rfl)) (fun e => ?_) (fun e => ?_)
    · have ek : k = 3 := by
        have := V.int.inj (of_decide_eq_true e)
        omega
      obtain ⟨u, rfl, hu⟩ := v3 ek
      exact g3 _ ⟨u, vI b, rfl, .inr (SqT.of hu), fun l nl => q _ l (same_upd nl) nl upd_same⟩
    · have nk3 : k ≠ 3 := fun z => of_decide_eq_false e (congrArg V.int (by omega))
      refine u_ifr (put_test (pu_ne g0 pu_c rfl)) (fun e => ?_) (fun e => ?_)
      · have nk4 : k ≠ 4 := fun z => by
          rw [decide_eq_true (congrArg V.int (by omega))] at e
          cases e
        have ev := v01 (by omega)
        subst ev
        refine g3 _ ⟨b, rfl, kb nk2, fun H1 u s1 nu hu => ?_⟩
        exact ⟨u, vI b, rfl, .inr (SqT.of hu), fun l nl => q _ l (s1.trans (same_upd nl)) (s1.free nl) upd_same⟩
      · have ek : k = 4 := by
          apply Classical.byContradiction
          intro z
          rw [decide_eq_false (fun y => z (by have := V.int.inj y; omega))] at e
          cases e
        have ev := v4 ek
        subst ev
        rcases ks ek with ⟨c, rfl, hc⟩ | ⟨c, d, rfl, hc, hd⟩
        · refine u_ifr (put_test (pu_lt g3 pu_c)) (fun e => ?_) (fun e => ?_)
          · exact u_retl (pua1 g3) (by show 1 ≤ 100000; decide) fun p' hn => q _ p' (same_upd hn) hn upd_same
          · exact absurd (show codeOf [c] < 256 by show (c : Int) < 256; omega) (of_decide_eq_false e)
        · have e0 : codeOf [c, d] = 256 * (c : Int) + d := rfl
          refine u_ifr (put_test (pu_lt g3 pu_c)) (fun e => ?_) (fun e => ?_)
          · have e' := of_decide_eq_true e
            rw [e0] at e'
            omega
          · have e1 : codeOf [c, d] / 256 = (c : Int) := by
              rw [e0]
              omega
            have e2 : codeOf [c, d] % 256 = (d : Int) := by
              rw [e0]
              omega
            have h1 := pu_I (C := CDiv) (g := fun i j => .int (i / j)) (j := 256) g3 (pu_c (v := .int 256)) ⟨by decide, by decide⟩
            have h2 := pu_I (C := fun _ j => 0 < j) (g := fun i j => .int (i % j)) (j := 256) g3 (pu_c (v := .int 256)) (by decide)
            rw [e1] at h1
            rw [e2] at h2
            exact u_retl (pua2 h1 h2) (by show 2 ≤ 100000; decide) fun p' hn => q _ p' (same_upd hn) hn upd_same
end
end Tk
namespace Tk
open PySem PySem.Spec PyProof.Rows L2
/-! ### 20. scanned -/
/-- kinds by the text's numbers: its end and what can't be stand the other way round -/
def pk (k : Nat) : Nat := if k = 5 then 6 else if k = 6 then 5 else k
structure TokAt (H : Hp) (x : Rd24.Tok) (v : V) : Prop where
  at_ : ∃ (p : Addr) (u : V), v = .ref p ∧ H p = some (.tup [.int (pk x.kind : Nat), .int (x.line : Int), .int (x.col : Int), u]) ∧ ValOk H u x.kind x.b x.n
  bl : x.kind ≠ 2 → x.b.length ≤ 20000
  sg : x.kind = 4 → Sgn x.b
/-- tokens, told one by one -/
def Toks (H : Hp) (xs : List Rd24.Tok) (vs : List V) : Prop := Paired (TokAt H) xs vs
theorem TokAt.mono {H H' : Hp} {x : Rd24.Tok} {v : V} (h : TokAt H x v) (s : ∀ p vs, H p = some (.tup vs) → H' p = some (.tup vs)) : TokAt H' x v := by
  obtain ⟨⟨p, u, e1, e2, v1, v2, v3, v4⟩, b, g⟩ := h
  exact ⟨⟨p, u, e1, s _ _ e2, v1, v2, (fun e => by obtain ⟨q, x1, x2⟩ := v3 e; exact ⟨q, x1, s _ _ x2⟩), v4⟩, b, g⟩
theorem Toks.mono {H H' : Hp} {xs : List Rd24.Tok} {vs : List V} (h : Toks H xs vs) (s : ∀ p vs, H p = some (.tup vs) → H' p = some (.tup vs)) : Toks H' xs vs := L2.Paired.mapP h fun _ _ q => q.mono s
theorem Toks.snoc {H : Hp} {x : Rd24.Tok} {v : V} : ∀ {xs : List Rd24.Tok} {vs : List V}, Toks H xs vs → TokAt H x v → Toks H (xs ++ [x]) (vs ++ [v])
  | _, _, .nil, h => .cons h .nil
  | _, _, .cons a r, h => .cons a (Toks.snoc r h)
theorem tups_of {H H' : Hp} (s : Same H H') : ∀ p vs, H p = some (.tup vs) → H' p = some (.tup vs) := fun _ _ e => s _ _ e
theorem tups_upd {H : Hp} {o : Addr} {ys zs : List V} (h : H o = some (.lst ys)) : ∀ p vs, H p = some (.tup vs) → (upd H o (.lst zs)) p = some (.tup vs) := fun p vs e => by
  rw [upd_ne (ne_of e h (by intro z; cases z))]
  exact e
theorem blank_in (c : Nat) : inV (.int (c : Int)) blanksV = decide (c = 32 ∨ c = 9 ∨ c = 13 ∨ c = 10) := by
  have e : blanksV = vI [32, 9, 13, 10] := rfl
  rw [e, int_in]
  apply Bool.eq_iff_iff.mpr
  rw [List.contains_iff_mem]
  simp
section
variable {P : Program} {w : World} {K : PySem.W.Frag} {mg : Str → Option Value} {base : Heap}
def spScanned (K : PySem.W.Frag) : Sp := fun vs H Q _ => ∃ (a : Addr) (t : B), vs = [.ref a] ∧ SqL K H a (vI t) ∧ t.length ≤ 20000 ∧ (∀ c ∈ t, c ≤ 255) ∧
  ∀ (H' : Hp) (p : Addr) (ws : List V), Same H H' → H p = none → H' p = some (.lst ws) → Toks H' (Rd24.tokensOf t) ws → Q (.ref p) H'
abbrev sScanned : Stmt := top 65
abbrev nScanned : List Str := ["text", "found", "line", "begin", "at", "end", "kind", "worth"]
theorem scScanned : FnScope nScanned ["text"] (defScope sScanned) := ⟨rfl, rfl, rfl, by decide +kernel, rfl, by decide +kernel, by decide +kernel⟩
/-- found.append((kind, line, column, worth)) -/
theorem u_push {σ : L2.St} {H : Hp} {D : Ends} {ta : TE} {tt : TA} {o : Addr} {ws us : List V} (ha : Pu ta σ H (.ref o)) (ht : PuA tt σ H us) (ho : H o = some (.lst ws)) (hl : us.length ≤ 100000) (hz : ws.length ≤ 20000)
    (k : ∀ p, H p = none → D.nx σ (upd (upd H p (.tup us)) o (.lst (ws ++ [.ref p])))) : tDrop (tBM K "list" rAppend ta (tCons (tTup tt) tNil)) D σ H :=
  ha _ ⟨.inl ⟨rfl, ws, SqL.of ho⟩, ht _ ⟨Nat.le_trans hl (by decide), fun p hn => ⟨o, ws, .ref p, rfl, rfl, by rw [upd_ne (ne_of_none ho hn)]; exact ho, Nat.lt_of_le_of_lt hz (by decide), k p hn⟩⟩⟩
theorem cal_scanned {f : Addr} {fd : FuncData} (F : Fun K "scanned" "scanned" sScanned f fd) (T : Txt K mg) (cT : C8.Cal P w K mg base 5 "token_at" (spTokF K okB core) []) (cC : C8.Cal P w K mg base 2 "comment_end" (spNote K) []) (hm : mg "scanned" = some (.ref f)) (hb : Binds K fd ["text"] []) :
    C8.Cal P w K mg base 6 "scanned" (spScanned K) [] := by
  refine ⟨f, fd, _, [], F.ok scScanned (fun vs H Q E h => ?_) (fun cdv A outer s H vs Q E hr h => ?_), hm, F.kp, hb, .nil⟩
  · obtain ⟨a, t, rfl, _⟩ := h
    rfl
  obtain ⟨a, t, rfl, hS, hlen, h255, q⟩ := h
  obtain ⟨aB, gB, tB⟩ := T.tBLANKS
  refine ⟨_, pss_cons (ps_set (i := 1) scScanned.nd rfl (.inl rfl) (pe_lst pa_nil))
    (pss_cons (ps_set (i := 2) scScanned.nd rfl (.inl rfl) pe_int)
    (pss_cons (ps_set (i := 3) scScanned.nd rfl (.inl rfl) pe_int)
    (pss_cons (ps_set (i := 4) scScanned.nd rfl (.inl rfl) pe_int)
    (pss_cons (ps_while PassesOwn.never (pt_cmpR op_lt (pv 4) (pe_callB call_len_seq (by rfl) T.nlen PySem.boot_len (pa_cons (pv 0) pa_nil)) (nomark _))
      (Evl.pss_cut (ps_if (pt_cmpR op_eq (pe_ix ix_list (pv 0) (pv 4) (fun _ _ => rfl)) (C8.pe_gc (by rfl) T.kLINE_END) (nomark _))
          (pss_cons (ps_aug (i := 2) scScanned.nd rfl (.inl rfl) pe_int ip_add) (pss_one (ps_set (i := 3) scScanned.nd rfl (.inl rfl) (pe_op op_add (pv 4) pe_int)))) pss_nil)
      (pss_one (ps_if (pt_cmpR op_in_seq (pe_ix ix_list (pv 0) (pv 4) (fun _ _ => rfl)) (C8.pe_gc (by rfl) gB) rfl)
        (pss_one (ps_aug (i := 4) scScanned.nd rfl (.inl rfl) pe_int ip_add))
        (pss_one (ps_if (pt_cmpR op_eq (pe_ix ix_list (pv 0) (pv 4) (fun _ _ => rfl)) (C8.pe_gc (by rfl) T.kCOMMENT) (nomark _))
          (pss_one (ps_set (i := 4) scScanned.nd rfl (.inl rfl) (C8.pe_c cC hr (by decide) (by rfl) (pa_cons (pv 0) (pa_cons (pv 4) pa_nil)))))
          (pss_cons (ps_asg (C8.pe_c cT hr (by decide) (by rfl) (pa_cons (pv 0) (pa_cons (pv 4) pa_nil))) (pg_tup rfl (pgs_cons (pg_name (i := 5) scScanned.nd rfl (.inl rfl)) (pgs_cons (pg_name (i := 6) scScanned.nd rfl (.inl rfl)) (pgs_cons (pg_name (i := 7) scScanned.nd rfl (.inl rfl)) pgs_nil)))))
          (pss_cons (ps_expr (pe_bm PySem.F.plainAttrs_list PySem.F.slot_list_append PySem.F.type_list_append mt_append (pv 1) (pa_cons (pe_tup (pa_cons (pv 6) (pa_cons (pv 2) (pa_cons (pe_op op_add (pe_op op_sub (pv 4) (pv 3)) pe_int) (pa_cons (pv 7) pa_nil))))) pa_nil)))
          (pss_cons (ps_if (pt_cmpR op_eq (pv 6) (C8.pe_gc (by rfl) T.kBAD) (nomark _)) (pss_one (ps_ret (pv 1))) pss_nil)
          (pss_one (ps_set (i := 4) scScanned.nd rfl (.inl rfl) (pv 5))))))))))))
    (pss_cons (ps_expr (pe_bm PySem.F.plainAttrs_list PySem.F.slot_list_append PySem.F.type_list_append mt_append (pv 1) (pa_cons (pe_tup (pa_cons (C8.pe_gc (by rfl) T.kEND) (pa_cons (pv 2) (pa_cons (pe_op op_add (pe_op op_sub (pv 4) (pv 3)) pe_int) (pa_cons pe_non pa_nil))))) pa_nil)))
    (pss_one (ps_ret (pv 1)))))))), ?_⟩
  -- found = []; line = 1; begin = 0; at = 0
  refine ⟨Nat.zero_le _, fun o no => ?_⟩
  have s1 : Same H (upd H o (.lst [])) := same_upd no
  refine u_asg pu_c (u_asg pu_c (u_asg pu_c ?_))
  refine u_while (fun m σ H' => ∃ (ws : List V) (xs : List Rd24.Tok) (line begin j : Nat) (s5 s6 s7 : Option V), σ = [some (.ref a), some (.ref o), some (.int (line : Int)), some (.int (begin : Int)), some (.int (j : Int)), s5, s6, s7] ∧
      Rd24.tokensOf t = xs ++ tk line (j - begin + 1) (t.drop j) ∧ begin ≤ j ∧ j ≤ t.length ∧ ws.length ≤ j ∧ m = t.length - j ∧ Same H H' ∧ H' o = some (.lst ws) ∧ Toks H' xs ws)
    _ ⟨[], [], 1, 0, 0, none, none, none, rfl, rfl, Nat.le_refl _, Nat.zero_le _, Nat.le_refl _, rfl, s1, upd_same, .nil⟩ ?_
  rintro m σ H1 ⟨ws, xs, line, begin, j, s5, s6, s7, rfl, et, hbj, hjt, hwj, em, s2, ho, hT⟩
  have hS1 := s2.seq hS
  refine ⟨_, put_test (pu_lt (pu_var rfl) (pu_is (pu_lenL (pu_var rfl) hS1) (congrArg (fun n : Nat => V.int (n : Int)) (vI_len t)))), fun hq => ?_, fun hq => ?_⟩
  · -- a turn
    have hj : j < t.length := by
      have := of_decide_eq_true hq
      omega
    have hc := bAt_lt hj
    have ei := atI_nat (vI_get hc)
    have ed := drop_some hc
    have hc255 : t[j] ≤ 255 := h255 _ (List.getElem_mem hj)
    refine ⟨fun σ' H' => H' = H1 ∧ ∃ (line' begin' : Nat), σ' = [some (.ref a), some (.ref o), some (.int (line' : Int)), some (.int (begin' : Int)), some (.int (j : Int)), s5, s6, s7] ∧ ((t[j] = 10 ∧ line' = line + 1 ∧ begin' = j + 1) ∨ (t[j] ≠ 10 ∧ line' = line ∧ begin' = begin)), ?_, ?_⟩
    · refine u_if (put_test (pu_eq (pu_ixL (pu_var rfl) (pu_var rfl) hS1 ei) pu_c rfl)) (fun e => ?_) (fun e => ?_)
      · have e1 : t[j] = 10 := by
          have := V.int.inj (of_decide_eq_true e)
          omega
        exact u_aug rfl pu_c (u_asg (pu_add (pu_var rfl) pu_c) ⟨rfl, line + 1, j + 1, rfl, .inl ⟨e1, rfl, rfl⟩⟩)
      · have e1 : t[j] ≠ 10 := fun z => of_decide_eq_false e (congrArg V.int (by omega))
        exact ⟨rfl, line, begin, rfl, .inr ⟨e1, rfl, rfl⟩⟩
    · rintro σ' H' ⟨rfl, line', begin', rfl, hlb⟩
      refine u_if (put_test (pu_in (neg := false) (pu_ixL (pu_var rfl) (pu_var rfl) hS1 ei) pu_c (tB _) rfl (by decide))) (fun e => ?_) (fun e => ?_)
      · -- a blank
        have e1 : t[j] = 32 ∨ t[j] = 9 ∨ t[j] = 13 ∨ t[j] = 10 := by
          have e2 : inV (.int (t[j] : Int)) blanksV = true := e
          rw [blank_in] at e2
          exact of_decide_eq_true e2
        refine u_aug rfl pu_c ?_
        refine ⟨t.length - (j + 1), by omega, ws, xs, line', begin', j + 1, s5, s6, s7, rfl, ?_, ?_, hj, by omega, rfl, s2, ho, hT⟩
        · rw [et, ed]
          rcases hlb with ⟨h1, rfl, rfl⟩ | ⟨h1, rfl, rfl⟩
          · rw [h1, tk_line, Nat.sub_self]
          · rw [tk_blank (by omega), show j + 1 - begin' + 1 = j - begin' + 1 + 1 by omega]
        · rcases hlb with ⟨h1, rfl, rfl⟩ | ⟨h1, rfl, rfl⟩ <;> omega
      · have nb : ¬ (t[j] = 32 ∨ t[j] = 9 ∨ t[j] = 13 ∨ t[j] = 10) := by
          have e2 : inV (.int (t[j] : Int)) blanksV = false := e
          rw [blank_in] at e2
          exact of_decide_eq_false e2
        obtain ⟨rfl, rfl⟩ : line' = line ∧ begin' = begin := by
          rcases hlb with ⟨h1, _⟩ | ⟨h1, h2, h3⟩
          · exact absurd (.inr (.inr (.inr h1))) nb
          · exact ⟨h2, h3⟩
        refine u_if (put_test (pu_eq (pu_ixL (pu_var rfl) (pu_var rfl) hS1 ei) pu_c rfl)) (fun e => ?_) (fun e => ?_)
        · -- a comment
          have e1 : t[j] = 35 := by
            have := V.int.inj (of_decide_eq_true e)
            omega
          refine ⟨.ref a, rfl, .int (j : Int), rfl, a, t, j, rfl, hS1, fun H2 s3 => ?_⟩
          have e2 : ((t.drop j).takeWhile fun d => d != 10) = 35 :: (t.drop (j + 1)).takeWhile fun d => d != 10 := by
            rw [ed, e1]
            rfl
          have hl2 := tw_len (fun d => d != 10) (t.drop j)
          rw [List.length_drop] at hl2
          rw [e2, List.length_cons] at hl2
          rw [e2, List.length_cons]
          refine ⟨t.length - (j + (((t.drop (j + 1)).takeWhile fun d => d != 10).length + 1)), by omega, ws, xs, line', begin', _, s5, s6, s7, rfl, ?_, by omega, by omega, by omega, rfl, s2.trans s3, s3 _ _ ho, hT.mono (tups_of s3)⟩
          rw [et, ed, e1, tk_note, List.drop_drop]
          rw [show j - begin' + 1 + 1 + ((t.drop (j + 1)).takeWhile fun d => d != 10).length = j + (((t.drop (j + 1)).takeWhile fun d => d != 10).length + 1) - begin' + 1 by omega,
            show j + 1 + ((t.drop (j + 1)).takeWhile fun d => d != 10).length = j + (((t.drop (j + 1)).takeWhile fun d => d != 10).length + 1) by omega]
        · -- a token
          have nc : t[j] ≠ 35 := fun z => of_decide_eq_false e (congrArg V.int (by omega))
          refine ⟨.ref a, rfl, .int (j : Int), rfl, a, t, j, rfl, hS1, hlen, ⟨hj, h255⟩, fun H2 p2 ee kk vv s3 n3 hp3 res => ?_⟩
          refine ⟨p2, _, rfl, SqT.of hp3, rfl, _, _, rfl, _, _, rfl, _, _, rfl, rfl, ?_⟩
          have ho2 := s3 _ _ ho
          have hcol : (j : Int) - (begin' : Int) + 1 = ((j - begin' + 1 : Nat) : Int) := by omega
          refine u_push (pu_var rfl) (pua_cons (pu_var rfl) (pua_cons (pu_var rfl) (pua2 (pu_is (pu_add (pu_sub (pu_var rfl) (pu_var rfl)) pu_c) (congrArg V.int hcol)) (pu_var rfl)))) ho2 (by show 4 ≤ 100000; decide) (by omega) fun p4 n4 => ?_
          have s4 : Same H2 (upd H2 p4 (.tup [.int kk, .int (line' : Int), .int ((j - begin' + 1 : Nat) : Int), vv])) := same_upd n4
          have ho4 := s4 _ _ ho2
          have s5' : Same H (upd (upd H2 p4 (.tup [.int kk, .int (line' : Int), .int ((j - begin' + 1 : Nat) : Int), vv])) o (.lst (ws ++ [.ref p4]))) := fun b x e => by
            rw [upd_ne (ne_of_none e no)]
            exact s4 _ _ (s3 _ _ (s2 _ _ e))
          have tp : ∀ p vs, H2 p = some (.tup vs) → (upd (upd H2 p4 (.tup [.int kk, .int (line' : Int), .int ((j - begin' + 1 : Nat) : Int), vv])) o (.lst (ws ++ [.ref p4]))) p = some (.tup vs) := fun p vs e => tups_upd ho4 p vs (s4 _ _ e)
          have hT4 := (hT.mono (tups_of s3)).mono tp
          have here : (upd (upd H2 p4 (.tup [.int kk, .int (line' : Int), .int ((j - begin' + 1 : Nat) : Int), vv])) o (.lst (ws ++ [.ref p4]))) p4 = some (.tup [.int kk, .int (line' : Int), .int ((j - begin' + 1 : Nat) : Int), vv]) := tups_upd ho4 p4 _ upd_same
          rw [ed] at res et
          refine u_ifr (put_test (pu_eq (pu_var rfl) pu_c rfl)) (fun e => ?_) (fun e => ?_)
          · -- it can't be
            have e5 : kk = 5 := V.int.inj (of_decide_eq_true e)
            have en : core (t[j] :: t.drop (j + 1)) = none := by
              cases z : core (t[j] :: t.drop (j + 1)) with
              | none => rfl
              | some x =>
                rw [z] at res
                have h1 := res.2.1
                have h2 := (core_fits (List.cons_ne_nil _ _) z).kind
                omega
            rw [tk_bad nb nc en] at et
            refine u_ret (pu_var rfl) (q _ o _ s5' no upd_same ?_)
            rw [et]
            refine hT4.snoc ⟨⟨p4, vv, rfl, ?_, fun z => absurd z (by show ¬ (6 = 0 ∨ 6 = 1); omega), fun z => absurd z (by show ¬ 6 = 2; omega), fun z => absurd z (by show ¬ 6 = 3; omega), fun z => absurd z (by show ¬ 6 = 4; omega)⟩, fun _ => Nat.zero_le _, fun z => absurd z (by show ¬ 6 = 4; omega)⟩
            rw [here, e5]
            rfl
          · have n5 : kk ≠ 5 := fun z => of_decide_eq_false e (congrArg V.int z)
            cases z : core (t[j] :: t.drop (j + 1)) with
            | none =>
              rw [z] at res
              exact absurd res n5
            | some x =>
              rw [z] at res
              obtain ⟨r1, r2, r3⟩ := res
              have Ft := core_fits (List.cons_ne_nil _ _) z
              have f1 := Ft.pos
              have f2 := Ft.le
              rw [List.length_cons, List.length_drop] at f2
              have f3 := Ft.kind
              obtain ⟨b, e6, e7⟩ := tk_token (line := line') (col := j - begin' + 1) nb nc z
              rw [e6] at et
              refine u_asg (pu_var rfl) ?_
              subst r1 r2
              refine ⟨t.length - (j + x.len), by omega, ws ++ [.ref p4], xs ++ [⟨x.kind, b, x.n, line', j - begin' + 1⟩], line', begin', j + x.len, _, _, _, rfl, ?_, by omega, by omega, ?_, rfl, s5', upd_same, ?_⟩
              · rw [et, List.append_assoc, show j + x.len - begin' + 1 = j - begin' + 1 + x.len by omega, ← ed, List.drop_drop]
                rfl
              · rw [List.length_append]
                show ws.length + 1 ≤ _
                omega
              · obtain ⟨v1, v2, v3, v4⟩ := r3
                refine hT4.snoc ⟨⟨p4, vv, rfl, ?_, ?_, v2, ?_, ?_⟩, fun y => ?_, fun y => ?_⟩
                · rw [here]
                  have : pk x.kind = x.kind := by
                    unfold pk
                    rw [if_neg (by omega), if_neg (by omega)]
                  rw [this]
                · intro y
                  have y' : x.kind = 0 ∨ x.kind = 1 := y
                  show vv = .str (strOf b)
                  rw [e7 (by omega)]
                  exact v1 y'
                · intro y
                  have y' : x.kind = 3 := y
                  obtain ⟨u, h1, h2⟩ := v3 y'
                  refine ⟨u, h1, ?_⟩
                  show _ = some (HO.tup (vI b))
                  rw [e7 (by omega)]
                  exact tp _ _ h2
                · intro y
                  have y' : x.kind = 4 := y
                  show vv = .int (codeOf b)
                  rw [e7 (by omega)]
                  exact v4 y'
                · have y' : x.kind ≠ 2 := y
                  show b.length ≤ 20000
                  rw [e7 y']
                  have := Ft.bl
                  omega
                · have y' : x.kind = 4 := y
                  show Sgn b
                  rw [e7 (by omega)]
                  exact Ft.sgn y'
  · -- the end
    have hj : j = t.length := by
      have := of_decide_eq_false hq
      omega
    have ed : t.drop j = [] := by
      rw [hj]
      exact List.drop_length
    rw [ed, tk_nil] at et
    have hcol : (j : Int) - (begin : Int) + 1 = ((j - begin + 1 : Nat) : Int) := by omega
    refine u_push (pu_var rfl) (pua_cons pu_c (pua_cons (pu_var rfl) (pua2 (pu_is (pu_add (pu_sub (pu_var rfl) (pu_var rfl)) pu_c) (congrArg V.int hcol)) pu_c))) ho (by show 4 ≤ 100000; decide) (by omega) fun p4 n4 => ?_
    have s4 : Same H1 (upd H1 p4 (.tup [.int 6, .int (line : Int), .int ((j - begin + 1 : Nat) : Int), .non])) := same_upd n4
    have ho4 := s4 _ _ ho
    have s5' : Same H (upd (upd H1 p4 (.tup [.int 6, .int (line : Int), .int ((j - begin + 1 : Nat) : Int), .non])) o (.lst (ws ++ [.ref p4]))) := fun b x e => by
      rw [upd_ne (ne_of_none e no)]
      exact s4 _ _ (s2 _ _ e)
    refine u_ret (pu_var rfl) (q _ o _ s5' no upd_same ?_)
    rw [et]
    refine ((hT.mono (tups_of s4)).mono (tups_upd ho4)).snoc ⟨⟨p4, .non, rfl, tups_upd ho4 p4 _ upd_same, fun z => absurd z (by show ¬ (5 = 0 ∨ 5 = 1); omega), fun z => absurd z (by show ¬ 5 = 2; omega), fun z => absurd z (by show ¬ 5 = 3; omega), fun z => absurd z (by show ¬ 5 = 4; omega)⟩, fun _ => Nat.zero_le _, fun z => absurd z (by show ¬ 5 = 4; omega)⟩
end
end Tk
namespace Tk
open PySem PySem.Spec PyProof.Rows L2
/-! ### 21. tokens -/
theorem cut_last (ws : List V) (v : V) : cutV (ws ++ [v]) none (some (-1)) = ws := by
  unfold cutV
  rw [HT.sIx_none]
  have e : HT.sIx (ws ++ [v]).length (ws ++ [v]).length (some (-1)) = ws.length := by
    have h := HT.clip_eq (-1) (ws ++ [v]).length (ws ++ [v]).length
    rw [if_pos (by decide), List.length_append] at h
    have h2 : ([v] : List V).length = 1 := rfl
    rw [List.length_append]
    omega
  rw [e, List.drop_zero, Nat.sub_zero, List.take_left']
  rfl
theorem Toks.split {H : Hp} {x : Rd24.Tok} : ∀ {xs : List Rd24.Tok} {vs : List V}, Toks H (xs ++ [x]) vs → ∃ ws v, vs = ws ++ [v] ∧ Toks H xs ws ∧ TokAt H x v
  | [], _, h => by
    cases h with
    | cons a r =>
      cases r
      exact ⟨[], _, rfl, .nil, a⟩
  | _ :: xs, _, h => by
    cases h with
    | cons a r =>
      obtain ⟨ws, v, rfl, h1, h2⟩ := Toks.split (xs := xs) r
      exact ⟨_ :: ws, v, rfl, .cons a h1, h2⟩
theorem Toks.len {H : Hp} {xs : List Rd24.Tok} {vs : List V} (h : Toks H xs vs) : xs.length = vs.length := Paired.length h
theorem Toks.get {H : Hp} : ∀ {xs : List Rd24.Tok} {vs : List V} {i : Nat} {v : V}, Toks H xs vs → vs[i]? = some v → ∃ x, xs[i]? = some x ∧ TokAt H x v
  | _, _, _, _, .nil, e => by simp at e
  | _, _, 0, _, .cons a _, e => ⟨_, rfl, by have e' := Option.some.inj e; rw [← e']; exact a⟩
  | _, _, i + 1, _, .cons _ r, e => Toks.get (i := i) r e
theorem u_setl {σ : L2.St} {H : Hp} {D : Ends} {ta : TA} {vs : List V} {i : Nat} (h : PuA ta σ H vs) (hl : vs.length ≤ 100000) (k : ∀ p, H p = none → D.nx (σ.set i (some (.ref p))) (upd H p (.lst vs))) : tAsg (tLst ta) (gName i) D σ H := h _ ⟨Nat.le_trans hl (by decide), k⟩
/-- found.extend([..] + worth) -/
theorem u_extend {K : PySem.W.Frag} {σ : L2.St} {H : Hp} {D : Ends} {ta tw : TE} {tl : TA} {o q : Addr} {ws us zs : List V} (ha : Pu ta σ H (.ref o)) (hl : PuA tl σ H us) (hu : us.length ≤ 100000) (ho : H o = some (.lst ws)) (hq : H q = some (.lst zs)) (hw : ∀ H', Pu tw σ H' (.ref q))
    (hz : ws.length + (us.length + zs.length) ≤ 100001) (k : ∀ l r, H l = none → (upd H l (.lst us)) r = none → D.nx σ (upd (upd (upd H l (.lst us)) r (.lst (us ++ zs))) o (.lst (ws ++ (us ++ zs))))) :
    tDrop (tBM K "list" rExtend ta (tCons (tOp rCat (tLst tl) tw) tNil)) D σ H :=
  ha _ ⟨.inl ⟨rfl, ws, SqL.of ho⟩, hl _ ⟨Nat.le_trans hu (by decide), fun l nl => hw _ _ ⟨l, q, us, zs, rfl, rfl, upd_same, by rw [upd_ne (ne_of_none hq nl)]; exact hq, Nat.le_trans (show us.length + zs.length ≤ 100001 by omega) (by decide), fun r nr =>
    ⟨o, r, ws, us ++ zs, rfl, rfl, by
      have h1 : (upd H l (.lst us)) o = some (.lst ws) := by
        rw [upd_ne (ne_of_none ho nl)]
        exact ho
      rw [upd_ne (ne_of_none h1 nr)]
      exact h1, upd_same, by
      rw [List.length_append]
      exact Nat.le_trans hz (by decide), k l r nl nr⟩⟩⟩⟩
def soFar (init : List Rd24.Tok) (i : Nat) : List Int := (init.length : Int) :: (init.take i).flatMap toldT
theorem soFar_more {init : List Rd24.Tok} {i : Nat} {x : Rd24.Tok} (h : init[i]? = some x) : soFar init (i + 1) = soFar init i ++ toldT x := by
  unfold soFar
  rw [List.take_add_one, h, List.flatMap_append]
  show _ :: (_ ++ [x].flatMap toldT) = _
  rw [List.flatMap_singleton]
  rfl
theorem soFar_len (init : List Rd24.Tok) (i : Nat) : (soFar init i).length ≤ sumL init + 1 := by
  unfold soFar sumL
  rw [List.length_cons, List.length_flatMap]
  have key : ∀ (l : List Rd24.Tok) (i : Nat), ((l.take i).map fun x => (toldT x).length).sum ≤ (l.map fun x => (toldT x).length).sum := by
    intro l
    induction l with
    | nil => intro i; simp
    | cons a r ih =>
      intro i
      cases i with
      | zero => simp
      | succ i =>
        rw [List.take_succ_cons, List.map_cons, List.map_cons, List.sum_cons, List.sum_cons]
        have := ih i
        omega
  have := key init i
  omega
section
variable {P : Program} {w : World} {K : PySem.W.Frag} {mg : Str → Option Value} {base : Heap}
def spTokens (K : PySem.W.Frag) : Sp := fun vs H Q _ => ∃ (a : Addr) (t : B), vs = [.ref a] ∧ SqL K H a (vI t) ∧ t.length ≤ 20000 ∧ (∀ c ∈ t, c ≤ 255) ∧
  ∀ (H' : Hp) (p : Addr), H' p = some (.lst ((PyRd24.tokens (asInts t)).map V.int)) → Q (.ref p) H'
abbrev sTokens : Stmt := top 71
abbrev nTokens : List Str := ["text", "every", "last", "found", "token", "worth"]
theorem scTokens : FnScope nTokens ["text"] (defScope sTokens) := ⟨rfl, rfl, rfl, by decide +kernel, rfl, by decide +kernel, by decide +kernel⟩
theorem cal_tokens {f : Addr} {fd : FuncData} (F : Fun K "tokens" "tokens" sTokens f fd) (T : Txt K mg) (cS : C8.Cal P w K mg base 6 "scanned" (spScanned K) []) (cB : C8.Cal P w K mg base 2 "token_bytes" spTokBytes []) : FnOk P w K mg base CX0 7 f fd ["text"] (spTokens K) := by
  refine F.ok scTokens (fun vs H Q E h => ?_) (fun cdv A outer s H vs Q E hr h => ?_)
  · obtain ⟨a, t, rfl, _⟩ := h
    rfl
  obtain ⟨a, t, rfl, hS, hlen, h255, q⟩ := h
  refine ⟨_, pss_cons (ps_if (pt_cmpR op_gt (pe_callB call_len_seq (by rfl) T.nlen PySem.boot_len (pa_cons (pv 0) pa_nil)) (C8.pe_gc (by rfl) T.kMOST_TEXT) (nomark _)) (pss_one (ps_ret (pe_lst (pa_cons (C8.pe_gc (by rfl) T.kNOT_SO) pa_nil)))) pss_nil)
    (pss_cons (ps_set (i := 1) scTokens.nd rfl (.inl rfl) (C8.pe_c cS hr (by decide) (by rfl) (pa_cons (pv 0) pa_nil)))
    (pss_cons (ps_set (i := 2) scTokens.nd rfl (.inl rfl) (pe_ix ix_list (pv 1) (pe_un un_neg pe_int) (fun _ _ => rfl)))
    (pss_cons (ps_if (pt_cmpR op_eq (pe_ix ix_tup (pv 2) pe_int (fun _ _ => rfl)) (C8.pe_gc (by rfl) T.kBAD) (nomark _))
      (pss_one (ps_ret (pe_lst (pa_cons (C8.pe_gc (by rfl) T.kNO_TOKEN) (pa_cons (pe_ix ix_tup (pv 2) pe_int (fun _ _ => rfl)) (pa_cons (pe_ix ix_tup (pv 2) pe_int (fun _ _ => rfl)) pa_nil)))))) pss_nil)
    (pss_cons (ps_set (i := 3) scTokens.nd rfl (.inl rfl) (pe_lst (pa_cons (pe_op op_sub (pe_callB call_len_seq (by rfl) T.nlen PySem.boot_len (pa_cons (pv 1) pa_nil)) pe_int) pa_nil)))
    (pss_cons (ps_for PassesOwn.never rfl (pi_list (pe_slice sl_list (pv 1) po_none (po_some (pe_un un_neg pe_int)))) (pg_name (i := 4) scTokens.nd rfl (.inl rfl))
      (pss_cons (ps_set (i := 5) scTokens.nd rfl (.inl rfl) (C8.pe_c cB hr (by decide) (by rfl) (pa_cons (pv 4) pa_nil)))
      (pss_one (ps_expr (pe_bm PySem.F.plainAttrs_list PySem.F.slot_list_extend PySem.F.type_list_extend mt_extend (pv 3) (pa_cons (pe_op op_cat
        (pe_lst (pa_cons (pe_ix ix_tup (pv 4) pe_int (fun _ _ => rfl)) (pa_cons (pe_ix ix_tup (pv 4) pe_int (fun _ _ => rfl)) (pa_cons (pe_ix ix_tup (pv 4) pe_int (fun _ _ => rfl)) (pa_cons (pe_callB call_len_seq (by rfl) T.nlen PySem.boot_len (pa_cons (pv 5) pa_nil)) pa_nil)))))
        (pv 5)) pa_nil))))))
    (pss_one (ps_ret (pv 3)))))))), ?_⟩
  refine u_ifr (put_test (pu_gt (pu_is (pu_lenL (pu_var rfl) hS) (congrArg (fun n : Nat => V.int (n : Int)) (vI_len t))) pu_c)) (fun e => ?_) (fun _ => ?_)
  · have e' : (65536 : Int) < (t.length : Nat) := of_decide_eq_true e
    omega
  -- every = scanned(text)
  refine ⟨.ref a, rfl, a, t, rfl, hS, hlen, h255, fun H1 ev ws1 s1 n1 hev hT => ?_⟩
  obtain ⟨init, last, sh⟩ := tk_shape t.length t 1 1 (Nat.le_refl _)
  have sh' : Shape t (Rd24.tokensOf t) init last := sh
  rw [sh'.eq] at hT
  obtain ⟨ws, lv, rfl, hTi, hTl⟩ := hT.split
  obtain ⟨⟨lp, lu, rfl, hlp, _⟩, _, _⟩ := hTl
  have hSe : SqL K H1 ev (ws ++ [.ref lp]) := SqL.of hev
  have eD := due h255 hlen sh'
  rw [eD] at q
  -- last = every[-1]
  refine u_asg (pu_ixL (pu_var rfl) (pu_neg pu_c) hSe (atI_last _ _)) ?_
  have hSl : SqT K H1 lp [.int (pk last.kind : Nat), .int (last.line : Int), .int (last.col : Int), lu] := SqT.of hlp
  refine u_ifr (put_test (pu_eq (pu_ixT (pu_var rfl) pu_c hSl rfl) pu_c rfl)) (fun e => ?_) (fun e => ?_)
  · have e1 : last.kind = 6 := by
      have e2 : ((pk last.kind : Nat) : Int) = 5 := V.int.inj (of_decide_eq_true e)
      rcases sh'.two with h | h
      · rw [h] at e2
        exact absurd e2 (by decide)
      · exact h
    rw [if_pos e1] at q
    exact u_retl (pua_cons pu_c (pua2 (pu_ixT (pu_var rfl) pu_c hSl rfl) (pu_ixT (pu_var rfl) pu_c hSl rfl))) (by show 3 ≤ 100000; decide) fun p hn => q _ p upd_same
  · have e1 : last.kind ≠ 6 := fun z => of_decide_eq_false e (by rw [z]; rfl)
    rw [if_neg e1] at q
    -- found = [len(every) - 1]
    have hle : (((ws ++ [V.ref lp]).length : Nat) : Int) - 1 = (init.length : Int) := by
      rw [List.length_append, ← hTi.len]
      show ((init.length + 1 : Nat) : Int) - 1 = _
      omega
    refine u_setl (pua1 (pu_is (pu_sub (pu_lenL (pu_var rfl) hSe) pu_c) (congrArg V.int hle))) (by show 1 ≤ 100000; decide) fun o no => ?_
    have s2 : Same H1 (upd H1 o (.lst [.int (init.length : Int)])) := same_upd no
    -- every[:-1]
    refine ⟨.ref ev, rfl, 1, rfl, -1, rfl, ev, _, rfl, s2.seq hSe, fun c nc => ?_⟩
    rw [cut_last]
    have s3 : Same (upd H1 o (.lst [.int (init.length : Int)])) (upd (upd H1 o (.lst [.int (init.length : Int)])) c (.lst ws)) := same_upd nc
    have hzs : sumL init ≤ 100000 := Nat.le_trans sh'.sum (by omega)
    refine ⟨c, rfl, ⟨_, SqL.of upd_same⟩, for_list (K := K) (xs := ws) (fun i σ H' => ∃ s4 s5 : Option V, σ = [some (.ref a), some (.ref ev), some (.ref lp), some (.ref o), s4, s5] ∧ Same H1 H' ∧ H' c = some (.lst ws) ∧ H' o = some (.lst ((soFar init i).map V.int)))
      ⟨none, none, rfl, s2.trans s3, upd_same, s3 _ _ upd_same⟩ (fun i σ H' _ ⟨_, _, _, _, hc, _⟩ => SqL.of hc) ?_ ?_⟩
    · rintro i v σ H2 hi ⟨s4, s5, rfl, sm, hc, ho⟩
      obtain ⟨x, hx, tx⟩ := hTi.get hi
      obtain ⟨⟨p, u, rfl, hp, hv⟩, hbl, hsg⟩ := tx
      have k4 := sh'.four x (List.mem_of_getElem? hx)
      have epk : pk x.kind = x.kind := by
        unfold pk
        rw [if_neg (by omega), if_neg (by omega)]
      rw [epk] at hp
      have hp2 := sm _ _ hp
      -- worth = token_bytes(token)
      refine ⟨.ref p, rfl, p, x.kind, _, _, u, x.b, x.n, rfl, hp2, hv.same sm, k4, hbl, hsg, fun H3 wl s6 n6 hwl => ?_⟩
      have hp3 := s6 _ _ hp2
      have hSp : SqT K H3 p [.int (x.kind : Nat), .int (x.line : Int), .int (x.col : Int), u] := SqT.of hp3
      have ho3 := s6 _ _ ho
      have hc3 := s6 _ _ hc
      have lenW : (((worthOf x.kind x.b x.n).map V.int).length : Int) = ((worthOf x.kind x.b x.n).length : Int) := by rw [List.length_map]
      have hsf := soFar_len init (i + 1)
      rw [soFar_more hx, List.length_append, told_len] at hsf
      have eT : [V.int (x.kind : Nat), .int (x.line : Int), .int (x.col : Int), .int ((worthOf x.kind x.b x.n).length : Int)] ++ (worthOf x.kind x.b x.n).map V.int = (toldT x).map V.int := by
        unfold toldT
        rw [List.map_append]
        rfl
      refine u_extend (pu_var rfl) (pua_cons (pu_ixT (pu_var rfl) pu_c hSp rfl) (pua_cons (pu_ixT (pu_var rfl) pu_c hSp rfl) (pua2 (pu_ixT (pu_var rfl) pu_c hSp rfl) (pu_is (pu_lenL (pu_var rfl) (SqL.of hwl)) (congrArg V.int lenW))))) (by show 4 ≤ 100000; decide) ho3 hwl (fun _ => pu_var rfl) ?_ fun l r nl nr => ?_
      · rw [List.length_map, List.length_map]
        show (soFar init i).length + (4 + (worthOf x.kind x.b x.n).length) ≤ 100001
        omega
      · have s7 := same_upd (o := .lst [.int (x.kind : Nat), .int (x.line : Int), .int (x.col : Int), .int ((worthOf x.kind x.b x.n).length : Int)]) nl
        rw [eT]
        have s8 := same_upd (o := .lst ((toldT x).map V.int)) nr
        refine ⟨_, _, rfl, fun b z e => ?_, ?_, ?_⟩
        · rw [upd_ne (ne_of_none e no)]
          exact s8 _ _ (s7 _ _ (s6 _ _ (sm _ _ e)))
        · rw [upd_ne]
          · exact s8 _ _ (s7 _ _ hc3)
          · intro z
            rw [z, upd_same] at nc
            cases nc
        · rw [upd_same, soFar_more hx, List.map_append]
    · rintro σ H2 ⟨s4, s5, rfl, sm, hc, ho⟩
      have ew : (init.take ws.length) = init := by
        rw [← hTi.len]
        exact List.take_length
      unfold soFar at ho
      rw [ew] at ho
      exact ⟨.ref o, rfl, q _ o ho⟩
end
end Tk
namespace Tk
open PySem PySem.Spec PyProof.Rows L2
open PySem.W (Codec)
/-! ### 22. what the top has written -/
theorem rel_of_abs {x : V} : ∀ {u : Value}, absV u = some x → RelV x u := fun {u} e => by
  cases u <;> first | (cases e; first | rfl | exact ⟨_, rfl⟩) | cases e
theorem vals_of_abs : ∀ {xs : List V} {us : List Value}, us.map absV = xs.map some → Vals xs us
  | [], [], _ => .nil
  | [], _ :: _, e => by cases e
  | _ :: _, [], e => by cases e
  | x :: xs, u :: us, e => by
    rw [List.map_cons, List.map_cons] at e
    injection e with e1 e2
    exact .cons (rel_of_abs e1) (vals_of_abs e2)
section
variable {K : PySem.W.Frag} {h : Heap} {mg : Str → Option Value}
theorem tab_mk {x : Str} {a : Addr} {d : Option Addr} {its : Array Value} {n : Nat} {sl : Array (Option Value)} {xs : List V} (X : K.In h) (G : h.Ns mainGlobals mg) (a1 : PySem.W.nsIn K mainGlobals x = some (some (.ref a))) (l : K.lookup a = some ⟨.type "tuple", d, .seq its n, sl⟩)
    (v : its.toList.map absV = xs.map some) (hz : xs.length ≤ 100000) : Tab K mg x xs := by
  refine ⟨a, ⟨_, PySem.W.mg_of X G a1, rfl⟩, fun H => .inr ⟨_, its, n, l, rfl, rfl, ?_, vals_of_abs v⟩⟩
  have e := congrArg List.length v
  rw [List.length_map, List.length_map, Array.length_toList] at e
  rw [e]
  exact Nat.le_trans hz (by decide)
theorem esc_mk {a : Addr} {t1 t2 t3 t4 u1 u2 u3 u4 : Tok} {n : Nat} (X : K.In h) (G : h.Ns mainGlobals mg) (a1 : PySem.W.nsIn K mainGlobals "ESCAPES" = some (some (.ref a)))
    (l : K.lookup a = some ⟨.type "dict", none, .dict #[⟨110, .int 110 t1, .int 10 u1⟩, ⟨116, .int 116 t2, .int 9 u2⟩, ⟨92, .int 92 t3, .int 92 u3⟩, ⟨34, .int 34 t4, .int 34 u4⟩] n, #[]⟩) (low : (a == sysModules) = false) : ∃ a, Kv mg "ESCAPES" (.ref a) ∧ EscAt K a :=
  ⟨a, ⟨_, PySem.W.mg_of X G a1, rfl⟩, ⟨t1, t2, t3, t4, u1, u2, u3, u4, n, l⟩, low⟩
theorem int_mk {x : Str} {i : Int} {t : Tok} (X : K.In h) (G : h.Ns mainGlobals mg) (a1 : PySem.W.nsIn K mainGlobals x = some (some (.int i t))) : Kv mg x (.int i) := ⟨_, PySem.W.mg_of X G a1, t, rfl⟩
theorem str_mk {x z : Str} {t : Tok} (X : K.In h) (G : h.Ns mainGlobals mg) (a1 : PySem.W.nsIn K mainGlobals x = some (some (.str z t))) : Kv mg x (.str z) := ⟨_, PySem.W.mg_of X G a1, t, rfl⟩
/-- a def of the text, under its name -/
def Df (K : PySem.W.Frag) (mg : Str → Option Value) (x : Str) (st : Stmt) (ps : List Str) : Prop := ∃ (f : Addr) (fd : FuncData), Fun K x x st f fd ∧ mg x = some (.ref f) ∧ Binds K fd ps []
theorem df_mk {x : Str} {st : Stmt} {ps : List Str} {f : Addr} {oc : Value} {od an : Option Addr} {osl : Array (Option Value)} {kV doc pm cdv ct : Value} (X : K.In h) (G : h.Ns mainGlobals mg)
    (hb : ∀ (kV doc pm : Value) (an : Option Addr) (cdv ct : Value) (us : List Value), us.length = ps.length → bindArgs (PySem.W.fnOf x x (defArgs st) (defBody st) (defScope st) .none kV doc pm an cdv ct) ⟨us, []⟩ = pure (ps.zip us))
    (a : PySem.W.nsIn K mainGlobals x = some (some (.ref f))) (l : K.lookup f = some ⟨oc, od, .func (PySem.W.fnOf x x (defArgs st) (defBody st) (defScope st) .none kV doc pm an cdv ct), osl⟩)
    (c : PySem.W.codeIn K cdv x = true) (k : PySem.W.keepIn K (.ref f) = true) : Df K mg x st ps :=
  have F := fun_mk (st := st) l c k
  ⟨f, _, F, PySem.W.mg_of X G a, F.binds hb⟩
abbrev TabX (_ : K.In h) (mg : Str → Option Value) (x : Str) (xs : List V) : Prop := Tab K mg x xs
abbrev DfX (_ : K.In h) (mg : Str → Option Value) (x : Str) (st : Stmt) (ps : List Str) : Prop := Df K mg x st ps
abbrev EscX (_ : K.In h) (mg : Str → Option Value) : Prop := ∃ a, Kv mg "ESCAPES" (.ref a) ∧ EscAt K a
theorem all_mk {P : Program} {w : World} {fa : Addr} (X : K.In h) (G : h.Ns mainGlobals mg) (hfa : mg "tokens" = some (.ref fa)) (T : Txt K mg)
    (d0 : Df K mg "bytes_of" sBytesOf ["text"])
    (d1 : Df K mg "byte_at" sByteAt ["text", "at"])
    (d2 : Df K mg "digit_of" sDigit ["byte"])
    (d3 : Df K mg "hex_of" sHex ["byte"])
    (d4 : Df K mg "name_sign" sSign1 ["byte"])
    (d5 : Df K mg "name_from" sNameFrom ["text", "at"])
    (d6 : Df K mg "named" sNamed ["text", "at"])
    (d7 : Df K mg "decimal" sDecimal ["text", "at"])
    (d8 : Df K mg "hexadecimal" sHexa ["text", "at"])
    (d9 : Df K mg "number" sNumber ["text", "at"])
    (d10 : Df K mg "string_byte" sStrByte ["text", "at"])
    (d11 : Df K mg "string" sString ["text", "at"])
    (d12 : Df K mg "sign" sSgn ["text", "at"])
    (d13 : Df K mg "token_at" sTokenAt ["text", "at"])
    (d14 : Df K mg "comment_end" sNote ["text", "at"])
    (d15 : Df K mg "scanned" sScanned ["text"])
    (d16 : Df K mg "token_bytes" sTokBytes ["token"])
    {oc : Value} {od an : Option Addr} {osl : Array (Option Value)} {kV doc pm cdv ct : Value} {f : Addr} (a : PySem.W.nsIn K mainGlobals "tokens" = some (some (.ref f)))
    (l : K.lookup f = some ⟨oc, od, .func (PySem.W.fnOf "tokens" "tokens" (defArgs sTokens) (defBody sTokens) (defScope sTokens) .none kV doc pm an cdv ct), osl⟩) (c : PySem.W.codeIn K cdv "tokens" = true) (k : PySem.W.keepIn K (.ref f) = true) :
    ∃ fd : FuncData, (∀ (s : Shared) (us : List Value), us.length = (["text"] : List Str).length → BindsTo s fd ⟨us, []⟩ ((["text"] : List Str).zip us)) ∧ ∀ base : Heap, K.In base → base.Ns mainGlobals mg → FnOk P w K mg base CX0 7 fa fd ["text"] (spTokens K) := by
  have e := hfa.symm.trans (PySem.W.mg_of X G a)
  cases e
  have F := fun_mk (st := sTokens) l c k
  refine ⟨PySem.W.fnOf "tokens" "tokens" (defArgs sTokens) (defBody sTokens) (defScope sTokens) .none kV doc pm an cdv ct, fun s us hu => match us, hu with | [_], _ => .of_eq rfl, fun base _ _ => ?_⟩
  obtain ⟨f0, g0, F0, m0, b0⟩ := d0
  obtain ⟨f1, g1, F1, m1, b1⟩ := d1
  obtain ⟨f2, g2, F2, m2, b2⟩ := d2
  obtain ⟨f3, g3, F3, m3, b3⟩ := d3
  obtain ⟨f4, g4, F4, m4, b4⟩ := d4
  obtain ⟨f5, g5, F5, m5, b5⟩ := d5
  obtain ⟨f6, g6, F6, m6, b6⟩ := d6
  obtain ⟨f7, g7, F7, m7, b7⟩ := d7
  obtain ⟨f8, g8, F8, m8, b8⟩ := d8
  obtain ⟨f9, g9, F9, m9, b9⟩ := d9
  obtain ⟨f10, g10, F10, m10, b10⟩ := d10
  obtain ⟨f11, g11, F11, m11, b11⟩ := d11
  obtain ⟨f12, g12, F12, m12, b12⟩ := d12
  obtain ⟨f13, g13, F13, m13, b13⟩ := d13
  obtain ⟨f14, g14, F14, m14, b14⟩ := d14
  obtain ⟨f15, g15, F15, m15, b15⟩ := d15
  obtain ⟨f16, g16, F16, m16, b16⟩ := d16
  have cByteOf : C8.Cal P w K mg base 1 "bytes_of" spBytesOf [] := cal_bytes_of F0 T m0 b0
  have cByte : C8.Cal P w K mg base 1 "byte_at" (spByteAt K) [] := cal_byte_at F1 T m1 b1
  have cDig : C8.Cal P w K mg base 1 "digit_of" spDigit [] := cal_digit_of F2 T m2 b2
  have cHx := cal_hex_of F3 cDig m3 b3
  have cNs := cal_name_sign F4 T cDig m4 b4
  have cNf := cal_name_from F5 cByte cNs m5 b5
  have cNm := cal_named F6 T cNf m6 b6
  have cDe := cal_decimal F7 T cByte cDig cNs m7 b7
  have cHe := cal_hexadecimal F8 T cByte cHx cNs m8 b8
  have cNu := cal_number F9 T cByte cDe cHe m9 b9
  have cSb := cal_string_byte F10 T cByte cHx m10 b10
  have cSt := cal_string F11 T cByte cSb m11 b11
  have cSi := cal_sign F12 T cByte m12 b12
  have cTa := cal_token_at F13 T cDig cNs cNu cNm cSt cSi m13 b13
  have cCo := cal_comment_end F14 T cByte m14 b14
  have cSc := cal_scanned F15 T cTa cCo m15 b15
  have cTb := cal_token_bytes F16 T cByteOf m16 b16
  exact cal_tokens F T cSc cTb
end
/-- the request: a list of bytes -/
theorem request {ns : List Int} (h : ∀ x ∈ ns, 0 ≤ x ∧ x ≤ 255) : ∃ t : B, ns = asInts t ∧ ∀ c ∈ t, c ≤ 255 := by
  refine ⟨ns.map Int.toNat, ?_, fun c hc => ?_⟩
  · unfold asInts
    rw [List.map_map]
    have : ∀ x ∈ ns, ((fun c : Nat => (c : Int)) ∘ Int.toNat) x = id x := fun x hx => Int.toNat_of_nonneg (h x hx).1
    rw [List.map_congr_left this, List.map_id]
  · obtain ⟨x, hx, rfl⟩ := List.mem_map.mp hc
    have := h x hx
    omega
end Tk
open PySem PySem.W PyProof.Rows
set_option maxRecDepth 100000 in
set_option maxHeartbeats 8000000 in
theorem PySem.Challenge.cw_madeimage_s02_tokens_holds : PySem.Challenge.rw_madeimage_s02_tokens.Holds := by
  w_on; k_headS; (case hw => exact ⟨[.list []], by decide +kernel, by decide +kernel⟩)
  k_fillS
  refine L2.walk_specK (r := PySem.Challenge.rw_madeimage_s02_tokens) (k := 7) (CX := L2.CX0) (ps := ["text"]) (sp := Tk.spTokens) (by decide +kernel) rfl rfl ⟨rfl, by decide, by decide⟩ (fun w h Y => PySem.W.kIn_of Y) ?F ?S (fun _ _ _ _ z => z)
  case F =>
    intro w mg fa h Y KX G hmg
    have kNAME : Tk.Kv mg "NAME" (.int 0) := by
      refine' Tk.int_mk KX G ?kq1
      (case kq1 => k_is)
    have kWORD : Tk.Kv mg "WORD" (.int 1) := by
      refine' Tk.int_mk KX G ?kq1
      (case kq1 => k_is)
    have kNUMBER : Tk.Kv mg "NUMBER" (.int 2) := by
      refine' Tk.int_mk KX G ?kq1
      (case kq1 => k_is)
    have kSTRING : Tk.Kv mg "STRING" (.int 3) := by
      refine' Tk.int_mk KX G ?kq1
      (case kq1 => k_is)
    have kSIGN : Tk.Kv mg "SIGN" (.int 4) := by
      refine' Tk.int_mk KX G ?kq1
      (case kq1 => k_is)
    have kBAD : Tk.Kv mg "BAD" (.int 5) := by
      refine' Tk.int_mk KX G ?kq1
      (case kq1 => k_is)
    have kEND : Tk.Kv mg "END" (.int 6) := by
      refine' Tk.int_mk KX G ?kq1
      (case kq1 => k_is)
    have kFIRST_SIGNS : Tk.Kv mg "FIRST_SIGNS" (.int 53) := by
      refine' Tk.int_mk KX G ?kq1
      (case kq1 => k_is)
    have kLINE_END : Tk.Kv mg "LINE_END" (.int 10) := by
      refine' Tk.int_mk KX G ?kq1
      (case kq1 => k_is)
    have kCOMMENT : Tk.Kv mg "COMMENT" (.int 35) := by
      refine' Tk.int_mk KX G ?kq1
      (case kq1 => k_is)
    have kQUOTE : Tk.Kv mg "QUOTE" (.int 34) := by
      refine' Tk.int_mk KX G ?kq1
      (case kq1 => k_is)
    have kBACK : Tk.Kv mg "BACK" (.int 92) := by
      refine' Tk.int_mk KX G ?kq1
      (case kq1 => k_is)
    have kNOUGHT : Tk.Kv mg "NOUGHT" (.int 48) := by
      refine' Tk.int_mk KX G ?kq1
      (case kq1 => k_is)
    have kSMALL_X : Tk.Kv mg "SMALL_X" (.int 120) := by
      refine' Tk.int_mk KX G ?kq1
      (case kq1 => k_is)
    have kMOST_NAME : Tk.Kv mg "MOST_NAME" (.int 32) := by
      refine' Tk.int_mk KX G ?kq1
      (case kq1 => k_is)
    have kMOST_STRING : Tk.Kv mg "MOST_STRING" (.int 1024) := by
      refine' Tk.int_mk KX G ?kq1
      (case kq1 => k_is)
    have kMOST_HEX : Tk.Kv mg "MOST_HEX" (.int 16) := by
      refine' Tk.int_mk KX G ?kq1
      (case kq1 => k_is)
    have kMOST_NUMBER : Tk.Kv mg "MOST_NUMBER" (.int 9223372036854775807) := by
      refine' Tk.int_mk KX G ?kq1
      (case kq1 => k_is)
    have kHALF_WORDS : Tk.Kv mg "HALF_WORDS" (.int 9223372036854775808) := by
      refine' Tk.int_mk KX G ?kq1
      (case kq1 => k_is)
    have kALL_WORDS : Tk.Kv mg "ALL_WORDS" (.int 18446744073709551616) := by
      refine' Tk.int_mk KX G ?kq1
      (case kq1 => k_is)
    have kNOT_SO : Tk.Kv mg "NOT_SO" (.int (-8)) := by
      refine' Tk.int_mk KX G ?kq1
      (case kq1 => k_is)
    have kNO_TOKEN : Tk.Kv mg "NO_TOKEN" (.int (-1)) := by
      refine' Tk.int_mk KX G ?kq1
      (case kq1 => k_is)
    have kMOST_TEXT : Tk.Kv mg "MOST_TEXT" (.int 65536) := by
      refine' Tk.int_mk KX G ?kq1
      (case kq1 => k_is)
    have kNAME_SIGNS : Tk.Kv mg "NAME_SIGNS" (.str Tk.signsS) := by
      refine' Tk.str_mk KX G ?kq1
      (case kq1 => k_is)
    have tONES : Tk.TabX KX mg "ONES" Tk.onesV := by
      refine' Tk.tab_mk KX G ?kq1 ?kq2 ?kq3 ?kq4
      (case kq1 => k_is)
      (case kq2 => k_is)
      (case kq3 => decide +kernel)
      (case kq4 => decide +kernel)
    have tTWOS : Tk.TabX KX mg "TWOS" Tk.twosV := by
      refine' Tk.tab_mk KX G ?kq1 ?kq2 ?kq3 ?kq4
      (case kq1 => k_is)
      (case kq2 => k_is)
      (case kq3 => decide +kernel)
      (case kq4 => decide +kernel)
    have tWORDS : Tk.TabX KX mg "WORDS" Tk.wordsV := by
      refine' Tk.tab_mk KX G ?kq1 ?kq2 ?kq3 ?kq4
      (case kq1 => k_is)
      (case kq2 => k_is)
      (case kq3 => decide +kernel)
      (case kq4 => decide +kernel)
    have tBLANKS : Tk.TabX KX mg "BLANKS" Tk.blanksV := by
      refine' Tk.tab_mk KX G ?kq1 ?kq2 ?kq3 ?kq4
      (case kq1 => k_is)
      (case kq2 => k_is)
      (case kq3 => decide +kernel)
      (case kq4 => decide +kernel)
    have tE : Tk.EscX KX mg := by
      refine' Tk.esc_mk KX G ?kq1 ?kq2 ?kq3
      (case kq1 => k_is)
      (case kq2 => k_is)
      (case kq3 => decide +kernel)
    have nlen : mg "len" = none := by
      refine' PySem.W.mg_none_of KX G ?kq1
      (case kq1 => k_is)
    have ntuple : mg "tuple" = none := by
      refine' PySem.W.mg_none_of KX G ?kq1
      (case kq1 => k_is)
    have nlist : mg "list" = none := by
      refine' PySem.W.mg_none_of KX G ?kq1
      (case kq1 => k_is)
    have nord : mg "ord" = none := by
      refine' PySem.W.mg_none_of KX G ?kq1
      (case kq1 => k_is)
    have d0 : Tk.DfX KX mg "bytes_of" Tk.sBytesOf ["text"] := by
      refine' Tk.df_mk KX G (fun _ _ _ _ _ _ us hl => match us, hl with | [_], _ => rfl) ?kq1 ?kq2 ?kq3 ?kq4
      (case kq1 => k_is)
      (case kq2 => k_is)
      (case kq3 => k_is)
      (case kq4 => k_is)
    have d1 : Tk.DfX KX mg "byte_at" Tk.sByteAt ["text", "at"] := by
      refine' Tk.df_mk KX G (fun _ _ _ _ _ _ us hl => match us, hl with | [_, _], _ => rfl) ?kq1 ?kq2 ?kq3 ?kq4
      (case kq1 => k_is)
      (case kq2 => k_is)
      (case kq3 => k_is)
      (case kq4 => k_is)
    have d2 : Tk.DfX KX mg "digit_of" Tk.sDigit ["byte"] := by
      refine' Tk.df_mk KX G (fun _ _ _ _ _ _ us hl => match us, hl with | [_], _ => rfl) ?kq1 ?kq2 ?kq3 ?kq4
      (case kq1 => k_is)
      (case kq2 => k_is)
      (case kq3 => k_is)
      (case kq4 => k_is)
    have d3 : Tk.DfX KX mg "hex_of" Tk.sHex ["byte"] := by
      refine' Tk.df_mk KX G (fun _ _ _ _ _ _ us hl => match us, hl with | [_], _ => rfl) ?kq1 ?kq2 ?kq3 ?kq4
      (case kq1 => k_is)
      (case kq2 => k_is)
      (case kq3 => k_is)
      (case kq4 => k_is)
    have d4 : Tk.DfX KX mg "name_sign" Tk.sSign1 ["byte"] := by
      refine' Tk.df_mk KX G (fun _ _ _ _ _ _ us hl => match us, hl with | [_], _ => rfl) ?kq1 ?kq2 ?kq3 ?kq4
      (case kq1 => k_is)
      (case kq2 => k_is)
      (case kq3 => k_is)
      (case kq4 => k_is)
    have d5 : Tk.DfX KX mg "name_from" Tk.sNameFrom ["text", "at"] := by
      refine' Tk.df_mk KX G (fun _ _ _ _ _ _ us hl => match us, hl with | [_, _], _ => rfl) ?kq1 ?kq2 ?kq3 ?kq4
      (case kq1 => k_is)
      (case kq2 => k_is)
      (case kq3 => k_is)
      (case kq4 => k_is)
    have d6 : Tk.DfX KX mg "named" Tk.sNamed ["text", "at"] := by
      refine' Tk.df_mk KX G (fun _ _ _ _ _ _ us hl => match us, hl with | [_, _], _ => rfl) ?kq1 ?kq2 ?kq3 ?kq4
      (case kq1 => k_is)
      (case kq2 => k_is)
      (case kq3 => k_is)
      (case kq4 => k_is)
    have d7 : Tk.DfX KX mg "decimal" Tk.sDecimal ["text", "at"] := by
      refine' Tk.df_mk KX G (fun _ _ _ _ _ _ us hl => match us, hl with | [_, _], _ => rfl) ?kq1 ?kq2 ?kq3 ?kq4
      (case kq1 => k_is)
      (case kq2 => k_is)
      (case kq3 => k_is)
      (case kq4 => k_is)
    have d8 : Tk.DfX KX mg "hexadecimal" Tk.sHexa ["text", "at"] := by
      refine' Tk.df_mk KX G (fun _ _ _ _ _ _ us hl => match us, hl with | [_, _], _ => rfl) ?kq1 ?kq2 ?kq3 ?kq4
      (case kq1 => k_is)
      (case kq2 => k_is)
      (case kq3 => k_is)
      (case kq4 => k_is)
    have d9 : Tk.DfX KX mg "number" Tk.sNumber ["text", "at"] := by
      refine' Tk.df_mk KX G (fun _ _ _ _ _ _ us hl => match us, hl with | [_, _], _ => rfl) ?kq1 ?kq2 ?kq3 ?kq4
      (case kq1 => k_is)
      (case kq2 => k_is)
      (case kq3 => k_is)
      (case kq4 => k_is)
    have d10 : Tk.DfX KX mg "string_byte" Tk.sStrByte ["text", "at"] := by
      refine' Tk.df_mk KX G (fun _ _ _ _ _ _ us hl => match us, hl with | [_, _], _ => rfl) ?kq1 ?kq2 ?kq3 ?kq4
      (case kq1 => k_is)
      (case kq2 => k_is)
      (case kq3 => k_is)
      (case kq4 => k_is)
    have d11 : Tk.DfX KX mg "string" Tk.sString ["text", "at"] := by
      refine' Tk.df_mk KX G (fun _ _ _ _ _ _ us hl => match us, hl with | [_, _], _ => rfl) ?kq1 ?kq2 ?kq3 ?kq4
      (case kq1 => k_is)
      (case kq2 => k_is)
      (case kq3 => k_is)
      (case kq4 => k_is)
    have d12 : Tk.DfX KX mg "sign" Tk.sSgn ["text", "at"] := by
      refine' Tk.df_mk KX G (fun _ _ _ _ _ _ us hl => match us, hl with | [_, _], _ => rfl) ?kq1 ?kq2 ?kq3 ?kq4
      (case kq1 => k_is)
      (case kq2 => k_is)
      (case kq3 => k_is)
      (case kq4 => k_is)
    have d13 : Tk.DfX KX mg "token_at" Tk.sTokenAt ["text", "at"] := by
      refine' Tk.df_mk KX G (fun _ _ _ _ _ _ us hl => match us, hl with | [_, _], _ => rfl) ?kq1 ?kq2 ?kq3 ?kq4
      (case kq1 => k_is)
      (case kq2 => k_is)
      (case kq3 => k_is)
      (case kq4 => k_is)
    have d14 : Tk.DfX KX mg "comment_end" Tk.sNote ["text", "at"] := by
      refine' Tk.df_mk KX G (fun _ _ _ _ _ _ us hl => match us, hl with | [_, _], _ => rfl) ?kq1 ?kq2 ?kq3 ?kq4
      (case kq1 => k_is)
      (case kq2 => k_is)
      (case kq3 => k_is)
      (case kq4 => k_is)
    have d15 : Tk.DfX KX mg "scanned" Tk.sScanned ["text"] := by
      refine' Tk.df_mk KX G (fun _ _ _ _ _ _ us hl => match us, hl with | [_], _ => rfl) ?kq1 ?kq2 ?kq3 ?kq4
      (case kq1 => k_is)
      (case kq2 => k_is)
      (case kq3 => k_is)
      (case kq4 => k_is)
    have d16 : Tk.DfX KX mg "token_bytes" Tk.sTokBytes ["token"] := by
      refine' Tk.df_mk KX G (fun _ _ _ _ _ _ us hl => match us, hl with | [_], _ => rfl) ?kq1 ?kq2 ?kq3 ?kq4
      (case kq1 => k_is)
      (case kq2 => k_is)
      (case kq3 => k_is)
      (case kq4 => k_is)
    refine' Tk.all_mk KX G hmg ⟨kNAME, kWORD, kNUMBER, kSTRING, kSIGN, kBAD, kEND, kNAME_SIGNS, kFIRST_SIGNS, kLINE_END, kCOMMENT, kQUOTE, kBACK, kNOUGHT, kSMALL_X, kMOST_NAME, kMOST_STRING, kMOST_HEX, kMOST_NUMBER, kHALF_WORDS, kALL_WORDS, kNOT_SO, kNO_TOKEN, kMOST_TEXT, tONES, tTWOS, tWORDS, tBLANKS, tE, nlen, ntuple, nlist, nord⟩ d0 d1 d2 d3 d4 d5 d6 d7 d8 d9 d10 d11 d12 d13 d14 d15 d16 ?kq1 ?kq2 ?kq3 ?kq4
    (case kq1 => k_is)
    (case kq2 => k_is)
    (case kq3 => k_is)
    (case kq4 => k_is)
  case S =>
    intro K H xs a hO hwi hask hx
    cases hx with
    | cons h1 h2 =>
      cases h2
      cases h1 with
      | lst hs ha =>
        have e := L2.ints_dw a.1 _ ha
        subst e
        have q : ((Codec.inLen 0 20000 a.1 && a.1.all (Codec.inInt 0 255)) && true) = true := hwi
        rw [Bool.and_eq_true, Bool.and_eq_true] at q
        obtain ⟨t, et, h255⟩ := Tk.request (ns := a.1) fun x hx => Codec.inInt_iff.mp (List.all_eq_true.mp q.1.2 x hx)
        have hl := (Codec.inNat_iff.mp q.1.1).2
        refine ⟨_, t, rfl, ?_, ?_, h255, fun H' p hp => ?_⟩
        · show L2.SqL K H _ ((Tk.asInts t).map L2.V.int)
          rw [← et]
          exact hs
        · rw [et] at hl
          have e2 : (Tk.asInts t).length = t.length := List.length_map _
          rw [e2] at hl
          exact hl
        · show L2.Dw K H' _ (.list ((PyRd24.tokens a.1).map .int))
          rw [et]
          exact .lst (L2.SqL.of hp) (L2.dw_ints _)
