/-
  Plain mathematics of hexadecimal texts.
-/
import Derived.Test.YtlfbaakndklncaaLib2
namespace Go.Proofs.Ytlfbaakndklncaa
open Go.RowKit

def isHex (c : UInt8) : Bool := decide (48 ≤ c.toNat ∧ c.toNat ≤ 57) || decide (97 ≤ c.toNat ∧ c.toNat ≤ 102)
def digN (c : UInt8) : Nat := if c.toNat ≤ 57 then c.toNat - 48 else c.toNat - 87
def pack : List Nat → List UInt8
  | [] => []
  | [a] => [UInt8.ofNat (16 * a)]
  | a :: b :: r => UInt8.ofNat (16 * a + b) :: pack r
def unhexR (l : List UInt8) : List UInt8 × Int := if l.all isHex && l.length % 2 == 0 then (pack (l.map digN), 0) else ([], 5)

theorem pack_len : ∀ l : List Nat, (pack l).length = (l.length + 1) / 2
  | [] => rfl
  | [_] => by simp [pack]
  | _ :: _ :: r => by simp only [pack, List.length_cons, pack_len r]; omega
theorem pack_even : ∀ (l : List Nat) (a : Nat), l.length % 2 = 0 → pack (l ++ [a]) = pack l ++ [UInt8.ofNat (16 * a)]
  | [], _, _ => rfl
  | [_], _, h => by simp at h
  | _ :: _ :: r, a, h => by
    have := pack_even r a (by simp only [List.length_cons] at h; omega)
    simp only [List.cons_append, pack, this]
theorem pack_odd : ∀ (l : List Nat) (b : Nat), l.length % 2 = 1 → ∃ a, l[l.length - 1]? = some a ∧ (pack l)[l.length / 2]? = some (UInt8.ofNat (16 * a)) ∧ pack (l ++ [b]) = (pack l).set (l.length / 2) (UInt8.ofNat (16 * a + b))
  | [], _, h => by simp at h
  | [a], b, _ => ⟨a, rfl, by simp [pack], by simp [pack]⟩
  | x :: y :: r, b, h => by
    have hr : r.length % 2 = 1 := by simp only [List.length_cons] at h; omega
    obtain ⟨a, h1, h2, h3⟩ := pack_odd r b hr
    have e1 : (x :: y :: r).length - 1 = (r.length - 1) + 2 := by simp only [List.length_cons]; omega
    have e2 : (x :: y :: r).length / 2 = r.length / 2 + 1 := by simp only [List.length_cons]; omega
    refine ⟨a, ?_, ?_, ?_⟩
    · rw [e1]; exact h1
    · rw [e2]; exact h2
    · rw [e2]; simp only [List.cons_append, pack, h3, List.set_cons_succ]

theorem digN_lt (c : UInt8) (h : isHex c = true) : digN c < 16 := by
  simp only [isHex, Bool.or_eq_true, decide_eq_true_eq] at h
  unfold digN
  split <;> omega

theorem hexD_eq : ∀ (j : Nat), j < 16 → ∀ (x : UInt8), (hexD j = x ↔ isHex x = true ∧ digN x = j) := by
  intro j hj x
  have hx : (hexD j).toNat = if j < 10 then 48 + j else 87 + j := by
    unfold hexD
    split
    · rw [UInt8.toNat_ofNat']; omega
    · rw [UInt8.toNat_ofNat']; omega
  rw [← UInt8.toNat_inj, hx]
  simp only [isHex, Bool.or_eq_true, decide_eq_true_eq, digN]
  have := x.toNat_lt
  split <;> split <;> omega

/-- what the search among the digits has found, j of them looked at -/
def scan (x : UInt8) (j : Nat) : Int := if isHex x ∧ digN x < j then digN x else -1
theorem scan_zero (x : UInt8) : scan x 0 = -1 := by simp [scan]
theorem scan_hit (x : UInt8) (j : Nat) (hj : j < 16) (h : hexD j = x) : scan x (j + 1) = j := by
  obtain ⟨h1, h2⟩ := (hexD_eq j hj x).1 h
  simp [scan, h1, h2]
theorem scan_miss (x : UInt8) (j : Nat) (hj : j < 16) (h : ¬ hexD j = x) : scan x (j + 1) = scan x j := by
  have h' := mt (hexD_eq j hj x).2 h
  unfold scan
  by_cases h1 : isHex x = true
  · have h2 : digN x ≠ j := fun e => h' ⟨h1, e⟩
    simp only [h1, true_and]
    by_cases h3 : digN x < j
    · rw [if_pos h3, if_pos (by omega)]
    · rw [if_neg h3, if_neg (by omega)]
  · simp [h1]
theorem scan_all (x : UInt8) : scan x 16 = if isHex x then (digN x : Int) else -1 := by
  unfold scan
  by_cases h1 : isHex x = true
  · have := digN_lt x h1
    simp [h1, this]
  · simp [h1]

end Go.Proofs.Ytlfbaakndklncaa
