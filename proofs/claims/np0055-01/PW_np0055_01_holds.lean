import PyProof.Rows.All
import Wide.All
import OpenK.AllK
import Wide.FinOn
import PySem.Challenge.RW_np0055_01
set_option Elab.async false
set_option linter.all false
set_option genSizeOf false
section
set_option maxRecDepth 10000
section
namespace Mine
theorem om1 : ∀ {a b c : Nat}, a < b → b ≤ c → c ≠ a := fun h1 h2 => (Nat.ne_of_lt (Nat.lt_of_lt_of_le h1 h2)).symm
theorem om2 : ∀ {a b : Nat}, a + 1 ≤ b → b ≠ a := fun h1 => Nat.ne_of_gt h1
theorem om3 : ∀ {a b : Nat}, a + 1 ≤ b → a ≤ b := fun h1 => Nat.le_of_succ_le h1
theorem om4 : ∀ {a : Int}, a.natAbs < 2 ^ 31 → -2 ^ 64 < a := by intros; omega
theorem om5 : ∀ {a : Int}, a.natAbs < 2 ^ 31 → a < 2 ^ 64 := by intros; omega
theorem om6 : ∀ {a : Int}, 0 < a → a ≠ 0 := fun h1 => Int.ne_of_gt h1
theorem om7 : ∀ {a : Int}, 0 < a → 0 ≤ a := fun h1 => Int.le_of_lt h1
theorem om8 : ∀ {a : Int}, 0 < a → a < 2 ^ 30 → a.natAbs < 1073741824 := by intros; omega
theorem om9 : ∀ {a b c : Nat}, a + 200 + 8 * b < c → a + 3 + 64 < c := by intros; omega
theorem om10 : ∀ {a b c : Nat}, a + 200 + 8 * b < c → a + 3 + 1 + 64 < c := by intros; omega
theorem om11 : ∀ {a b : Nat}, a + 64 < b → a < b := fun h1 => Nat.lt_of_le_of_lt (Nat.le_add_right _ _) h1
theorem om12 : ∀ {a : Nat}, a ≤ 4000 → a ≤ 16777216 := fun h1 => Nat.le_trans h1 (by decide)
theorem om13 : ∀ {a : Nat}, a ≤ 1000 → a ≤ 4000 := fun h1 => Nat.le_trans h1 (by decide)
theorem om14 : ∀ {a : Int}, a < 1000 → a < 2 ^ 63 := fun h1 => Int.lt_trans h1 (by decide)
theorem om15 : ∀ {a : Int}, 0 ≤ a → -2 ^ 63 ≤ a := fun h1 => Int.le_trans (by decide) h1
theorem om16 : ∀ {a : Int}, 0 ≤ a → ¬a < 0 := fun h1 => Int.not_lt.mpr h1
theorem om17 : ∀ {a : Int} {b : Nat}, a.toNat < b → a < (↑b : Int) := by intros; omega
theorem om18 : ∀ {a b c d : Nat}, a + 1 + b < c → d + 1 ≤ b → a + 1 + d < c := by intros; omega
theorem om19 : ∀ {a b c d : Nat}, a + 1 ≤ b → c + 200 + 8 * b < d → c + 3 + 200 + 8 * a < d := by intros; omega
theorem om20 : ∀ {a b c d : Nat}, a + b ≤ 1000 → c = a → d = b → ¬c + d > 16777216 := by intros; omega
theorem om21 : ∀ {a b c : Nat}, a + b ≤ 1000 → c = a → c ≤ 4000 := fun h1 h2 => by subst h2; exact Nat.le_trans (Nat.le_trans (Nat.le_add_right _ _) h1) (by decide)
theorem om22 : ∀ {a b c d : Nat}, a + b ≤ 1000 → c = a → d = b → c + d ≤ 16777216 + 1 := fun h1 h2 h3 => by subst h2; subst h3; exact Nat.le_trans h1 (by decide)
theorem om23 : ∀ {a : Int} {b c : Nat}, a ≤ (↑b : Int) → c = b → a.toNat ≤ c := by intros; omega
theorem om24 : ∀ {a : Int} {b : Nat}, 0 ≤ a → a ≤ (↑b : Int) → b ≤ 1000 → -2 ^ 63 ≤ a ∧ a < 2 ^ 63 := by intros; omega
theorem om25 : ∀ {a b : Nat}, a ≤ b + 1 → a + 1 ≤ b + 1 + 1 := fun h1 => Nat.succ_le_succ h1
theorem om26 : ∀ {a : Int} {b : Nat}, a < (↑b : Int) → b ≤ 1000 → a < 2 ^ 63 := by intros; omega
theorem om27 : ∀ {a : Int} {b c : Nat}, 0 ≤ a → a < (↑b : Int) → c = b → a.toNat < c := by intros; omega
theorem om28 : ∀ {a : Nat}, a ≤ 1000 → (↑a : Int) < 2 ^ 63 := by intros; omega
theorem om29 : ∀ {a b c : Nat}, a + (b + 1) < c → a + 1 + b < c := by intros; omega
theorem om30 : ∀ {a b c : Nat}, a + 200 + 8 * (b + 1) < c → a + 200 + 8 * b < c := by intros; omega
theorem om31 : ∀ {a b c : Nat}, a + (b + 1) < c → a < c := fun h1 => Nat.lt_of_le_of_lt (Nat.le_add_right _ _) h1
theorem om32 : ∀ {a b c : Nat}, a + (b + 2) < c → a + 1 + b < c := by intros; omega
theorem om33 : ∀ {a b c : Nat}, a + 200 + 8 * (b + 2) < c → a + 1 + 200 + 8 * b < c := by intros; omega
theorem om34 : ∀ {a : Nat}, 4 ≤ a → 0 + 1 ≤ a := fun h1 => Nat.lt_of_lt_of_le (by decide) h1
theorem om35 : ∀ {a b c : Nat}, 4 ≤ a → b + 1 + a < c → b + 1 + 1 < c := by intros; omega
theorem om36 : ∀ {a b c : Nat}, a + (b + 3) < c → a < c := fun h1 => Nat.lt_of_le_of_lt (Nat.le_add_right _ _) h1
theorem om37 : ∀ {a b c : Nat}, a + (b + 3) < c → a + 1 < c := by intros; omega
theorem om38 : ∀ {a b c : Nat}, a + (b + 3) < c → a + 1 + 1 + b < c := by intros; omega
theorem om39 : ∀ {a b c : Nat}, a + 200 + 8 * (b + 3) < c → a + 3 + 200 + 8 * b < c := by intros; omega
theorem om40 : ∀ {a b : Nat}, a + 4 ≤ b → a + 3 + 1 ≤ b := fun h1 => h1
theorem om41 : ∀ {a : Int}, 0 ≤ a → a ≤ 1000 → (-9223372036854775808 ≤ a ∧ a < 9223372036854775808) ∧ (a = 0 ∨ -9223372036854775808 ≤ a ∧ a < 9223372036854775808) := by intros; omega
theorem om42 : ∀ {a : Int}, ¬a ≤ 0 → 0 < a := fun h1 => Int.not_le.mp h1
theorem om43 : ∀ {a : Nat}, min 63 a ≤ 4000 := Nat.le_trans (Nat.min_le_left _ _) (by decide)
theorem om44 : ∀ {a b : Nat}, a = b → b ≤ 63 → a ≤ 1000 := fun h1 h2 => by subst h1; exact Nat.le_trans h2 (by decide)
theorem om45 : ∀ {a b c : Nat}, a < b → b ≤ c → a ≠ c := fun h1 h2 => Nat.ne_of_lt (Nat.lt_of_lt_of_le h1 h2)
theorem om46 : ∀ {a : Nat}, a ≤ 20 → a ≤ 900 := fun h1 => Nat.le_trans h1 (by decide)
theorem om47 : ∀ {a b : Nat}, a < b → a ≠ b := fun h1 => Nat.ne_of_lt h1
theorem om48 : ∀ {a b : Nat}, a < b → a < b := fun h1 => h1
theorem om49 : ∀ {a b : Nat}, a < b → a < b + 1 := fun h1 => Nat.lt_succ_of_lt h1
theorem om50 : ∀ {a b : Nat}, a < b → a < b + 1 + 1 := by intros; omega
theorem om51 : ∀ {a b : Nat}, a < b → a ≠ b + 1 + 1 := by intros; omega
theorem om52 : ∀ {a b : Nat}, a < b → a ≠ b + 1 := fun h1 => Nat.ne_of_lt (Nat.lt_succ_of_lt h1)
theorem om53 : ∀ {a b c : Int}, a = b → c ≠ b → a ≠ c := fun h1 h2 => by subst h1; exact h2.symm
theorem om54 : ∀ {a b c : Int}, a = b → a ≠ c → b ≠ c := fun h1 h2 => by subst h1; exact h2
theorem om55 : ∀ {a : Int}, a < a + 1 := Int.lt_succ _
theorem om56 : ∀ {a : Nat} {b : Int} {c : Nat}, (↑a : Int) ≤ b → c ≤ a + 1 → (↑c : Int) ≤ b + 1 := by intros; omega
theorem om57 : ∀ {a b : Int}, a + 1 < b → b ≠ a + 1 := fun h1 => Int.ne_of_gt h1
theorem om58 : ∀ {a b : Int}, a + 1 < b → a < b := fun h1 => Int.le_of_lt h1
theorem om59 : ∀ {a : Int}, 0 ≤ a → 0 ≤ a + 1 := fun h1 => Int.le_of_lt (Int.lt_add_one_of_le h1)
theorem om60 : ∀ {a b : Int}, a ≤ b → a ≤ b + 1 := fun h1 => Int.le_of_lt (Int.lt_add_one_of_le h1)
theorem om61 : ∀ {a b : Int} {c d : Nat}, a = b + 1 → a ≤ b → c = d := fun h1 h2 => by subst h1; exact absurd h2 (Int.lt_irrefl _)
theorem om62 : ∀ {a : Nat}, a < a + 1 := Nat.lt_succ_self _
theorem om63 : ∀ {a b c : Nat}, a < b → c = b → a ≠ c := fun h1 h2 => by subst h2; exact Nat.ne_of_lt h1
theorem om64 : ∀ {a b c : Nat}, a < b → c = b → a < c + 1 := fun h1 h2 => by subst h2; exact Nat.lt_succ_of_lt h1
theorem om65 : ∀ {a : Int} {b : Nat}, a + 1 ≤ 900 → (↑b : Int) ≤ a → b ≤ 1000 := by intros; omega
theorem om66 : ∀ {a b c : Nat}, a = b + 1 + 3 → b = c → c ≤ a := by intros; omega
theorem om67 : ∀ {a b c : Nat}, a = b + 1 + 3 → b = c → c ≤ b ∧ b < a := by intros; omega
theorem om68 : ∀ {a b c : Nat}, a = b + 1 + 3 → b = c → c ≤ b + 1 ∧ b + 1 < a := by intros; omega
theorem om69 : ∀ {a b c : Nat}, a = b + 1 + 3 → b = c → c ≤ b + 1 + 1 ∧ b + 1 + 1 < a := by intros; omega
theorem om70 : ∀ {a : Nat}, a ≠ a + 1 := (Nat.succ_ne_self _).symm
theorem om71 : ∀ {a : Nat}, a ≠ a + 1 + 1 := by intros; omega
theorem om72 : ∀ {a : Nat}, a + 1 ≠ a + 1 + 1 := (Nat.succ_ne_self _).symm
theorem om73 : ∀ {a b c : Nat}, a < b → c = b → c ≠ a := fun h1 h2 => by subst h2; exact Nat.ne_of_gt h1
theorem om74 : ∀ {a b c : Nat}, a < b → c = b → c + 1 ≠ a := fun h1 h2 => by subst h2; exact (Nat.ne_of_lt (Nat.lt_succ_of_lt h1)).symm
theorem om75 : ∀ {a b c : Nat}, a < b → c = b → c + 1 + 1 ≠ a := by intros; omega
theorem om76 : ∀ {a b c : Nat}, a + (b + c) = a + b + c := (Nat.add_assoc _ _ _).symm
theorem om77 : ∀ {a b c : Nat}, 1 ≤ a → b ≤ c → b + 1 ≤ a + c := by intros; omega
theorem om78 : ∀ {a : Nat}, a < a + 1 + 1 := Nat.le_succ _
theorem om79 : ∀ {a : Nat}, a ≤ a + 1 := Nat.le_succ _
theorem om80 : ∀ {a : Nat}, a + 1 < a + 1 + 1 := Nat.lt_succ_self _
theorem om81 : ∀ {a : Nat}, a ≤ 900 → a ≤ 999 := fun h1 => Nat.le_trans h1 (by decide)
theorem om82 : ∀ {a b c d e : Nat}, a + b ≤ 800 → b = c + d → e ≤ d → e ≤ 900 := by intros; omega
theorem om83 : ∀ {a b : Nat}, a + b ≤ 800 → a ≤ 1000 := fun h1 => Nat.le_trans (Nat.le_trans (Nat.le_add_right _ _) h1) (by decide)
theorem om84 : ∀ {a b c : Nat}, 1 ≤ a → a + b < c + 1 → b < c := by intros; omega
theorem om85 : ∀ {a b c d : Nat}, 1 ≤ a → b + c ≤ 800 → c = a + d → b + 1 + d ≤ 800 := by intros; omega
theorem om86 : ∀ {a b c d e f : Nat}, a + b ≤ 800 → b = c + d → e ≤ f → c = 1 + f → e ≤ 1000 := by intros; omega
theorem om87 : ∀ {a b c d e f g : Nat}, a ≤ b → c + d ≤ 800 → d = e + b → f ≤ g → e = 1 + g → a + f ≤ 1000 := by intros; omega
theorem om88 : ∀ {a b c d e : Nat}, a < b + 1 → a = c + d → c = 1 + e → e + d < b := by intros; omega
theorem om89 : ∀ {a b c d e : Nat}, a + b ≤ 800 → b = c + d → c = 1 + e → a + (e + d) ≤ 800 := by intros; omega
theorem om90 : ∀ {a : Nat}, a ≤ 150 → a < 200 := fun h1 => Nat.lt_of_le_of_lt h1 (by decide)
theorem om91 : ∀ {a : Nat}, a ≤ 150 → a ≤ 800 := fun h1 => Nat.le_trans h1 (by decide)
theorem om92 : ∀ {a : Nat} {b : Int} {c : Nat}, (↑a : Int) ≤ b → c ≤ a → (↑c : Int) ≤ b := by intros; omega
theorem om93 : ∀ {a : Int} {b : Nat}, a ≤ 900 → (↑b : Int) ≤ a → b ≤ 1000 := by intros; omega
theorem om94 : ∀ {a b : Nat}, a < b → b ≠ a := fun h1 => Nat.ne_of_gt h1
theorem om95 : ∀ {a : Nat}, 0 < a → a = a - 1 + 1 := fun h1 => (Nat.succ_pred_eq_of_pos h1).symm
theorem om96 : ∀ {a b : Nat}, a = b + 0 → a ≤ b := fun h1 => Nat.le_of_eq h1
theorem om97 : ∀ {a b : Nat}, a + 1 < b → b = b - 1 + 1 := by intros; omega
theorem om98 : ∀ {a b c : Nat}, a = b + (c + 1) → b < a := by intros; omega
theorem om99 : ∀ {a b c : Nat}, a = b + (c + 1) → a = b + 1 + c := by intros; omega
theorem om100 : ∀ {a b : Nat}, a + 1 < b + 1 → a < b := fun h1 => Nat.lt_of_succ_lt_succ h1
theorem om101 : ∀ {a : Nat}, a ≤ 900 → a ≤ 1000 := fun h1 => Nat.le_trans h1 (by decide)
theorem om102 : ∀ {a b : Nat}, a + (b + 1) ≤ 900 → 0 ≤ (↑a : Int) ∧ (↑a : Int) < (↑(a + (b + 1)) : Int) ∧ a + (b + 1) ≤ 1000 := by intros; omega
theorem om103 : ∀ {a b : Nat}, a ≤ 150 → min b a ≤ 1000 := fun h1 => Nat.le_trans (Nat.min_le_right _ _) (Nat.le_trans h1 (by decide))
theorem om104 : ∀ {a b : Nat}, a + (b + 1) ≤ 900 → a ≤ 1000 := fun h1 => Nat.le_trans (Nat.le_trans (Nat.le_add_right _ _) h1) (by decide)
theorem om105 : ∀ {a b : Nat}, a + (b + 1) ≤ 900 → a + 1 + b ≤ 900 := by intros; omega
theorem om106 : ∀ {a b c d : Nat}, a = b + c → a ≤ 150 → d ≤ b → d ≤ 900 := by intros; omega
theorem om107 : ∀ {a b c d e : Nat}, a ≤ 150 → a = b + c → d < c → e ≤ d → e < 200 := by intros; omega
theorem om108 : ∀ {a b c d e f : Nat}, a ≤ 150 → b ≤ c → a = c + d → e < d → f ≤ e → b + f ≤ 900 := by intros; omega
theorem om109 : ∀ {a b c d e : Nat}, a < b + 1 → a = c + d → e < d → c + e < b := by intros; omega
theorem om110 : ∀ {a b c d : Nat}, a < b → c = d + b → c ≤ 150 → d + a ≤ 150 := by intros; omega
theorem om111 : ∀ {a : Nat}, a < 1 + a := by intros; omega
theorem om112 : ∀ {a : Nat}, a ≤ 150 → a ≤ 150 := fun h1 => h1
theorem om113 : ∀ {a b : Int}, a ≤ b → a ≠ b + 1 := fun h1 => Int.ne_of_lt (Int.lt_add_one_of_le h1)
theorem om114 : ∀ {a : Nat}, a ≤ 800 → a ≤ 900 := fun h1 => Nat.le_trans h1 (by decide)
theorem om115 : ∀ {a b : Nat}, a ≤ b → a + 1 ≤ 1 + b := by intros; omega
theorem om116 : ∀ {a : Nat}, 1 + a = a + 1 := Nat.add_comm _ _
theorem om117 : ∀ {a b c : Int}, a + b + c = a + (b + c) := Int.add_assoc _ _ _
theorem om118 : ∀ {a : Int} {b : Nat}, 0 ≤ a → a ≤ (↑b : Int) → b ≤ 1000 → b ≤ 1000 ∧ 0 ≤ a ∧ a ≤ (↑b : Int) := by intros; omega
theorem om119 : ∀ {a : Nat}, a ≤ 140 → a ≤ 1000 := fun h1 => Nat.le_trans h1 (by decide)
theorem om120 : ∀ {a b : Nat}, a + (b + 1) = a + b + 1 := Int.toNat_natCast _
theorem om121 : ∀ {a : Nat}, (↑a : Int).toNat = a := Int.toNat_natCast _
theorem om122 : ∀ {a b c : Nat}, a = b + c + 1 → a ≤ 140 → b + 2 + c ≤ 150 := by intros; omega
theorem om123 : ∀ {a b : Nat}, a + 2 + b ≤ a + (b + 1) + 2 := by intros; omega
theorem om124 : ∀ {a b : Nat}, a + (2 + 1) + b ≤ a + (b + 1) + 2 := by intros; omega
theorem om125 : ∀ {a : Nat}, a ≠ 1 → (↑a : Int) ≠ 1 := by intros; omega
theorem om126 : ∀ {a : Nat}, a ≤ 140 → a ≤ 900 := fun h1 => Nat.le_trans h1 (by decide)
theorem om127 : ∀ {a b : Nat}, a = b → a ≤ 140 → b ≤ 150 := fun h1 h2 => by subst h1; exact Nat.le_trans h2 (by decide)
theorem om128 : ∀ {a b c : Nat}, 2 ≤ a → a = b + (c + 1) → b + c = 0 → False := by intros; omega
theorem om129 : ∀ {a b c : Nat}, a + 1 ≤ b → c ≤ a → c ≤ b := fun h1 h2 => Nat.le_of_lt (Nat.lt_of_le_of_lt h2 h1)
theorem om130 : ∀ {a : Int}, 0 < a → a = 0 → False := fun h1 h2 => by subst h2; exact absurd h1 (Int.lt_irrefl _)
theorem om131 : ∀ {a b c d : Int}, a = b - c → d = c → a + d = b := by intros; omega
theorem om132 : ∀ {a b c d : Int}, a = b - c → d = c → b - d = a := fun h1 h2 => by subst h2; exact h1.symm
theorem om133 : ∀ {a b : Nat}, a ≤ 128 → b ≤ a + 2 → b ≤ 150 := by intros; omega
theorem om134 : ∀ {a b : Nat}, a ≤ 128 → b ≤ a + 2 → b ≤ 130 := by intros; omega
theorem om135 : ∀ {a b c : Int}, 0 < a → a ≤ b → b ≤ c → 0 < a ∧ a ≤ c + 1 := by intros; omega
theorem om136 : ∀ {a b c : Int}, 0 < a → a ≤ b → c = b + 1 → 0 < c ∧ c ≤ b + 1 := by intros; omega
theorem om137 : ∀ {a b c : Int}, 0 < a → a ≤ b → c = a → 0 < c ∧ c ≤ b + 1 := fun h1 h2 h3 => by subst h3; exact ⟨h1, Int.le_trans h2 (Int.le_of_lt (Int.lt_succ _))⟩
theorem om138 : ∀ {a b : Int}, 0 < a → a ≤ b → 0 ≠ b + 1 := by intros; omega
theorem om139 : ∀ {a : Int}, 0 < a → 0 ≠ a := fun h1 => Int.ne_of_lt h1
theorem om140 : ∀ {a b : Int}, 0 < a → a ≤ b → 1 ≤ b + 1 := fun h1 h2 => Int.le_add_one (Int.le_trans h1 h2)
theorem om141 : ∀ {a b : Nat}, a ≤ 128 → b ≤ a → b ≤ 140 := fun h1 h2 => Nat.le_trans (Nat.le_trans h2 h1) (by decide)
theorem om142 : ∀ {a : Int}, a + 2 ≤ 900 → a + 1 ≤ 900 := fun h1 => Int.le_trans (Int.add_le_add_left (by decide) _) h1
theorem om143 : ∀ {a : Int}, a + 1 ≤ a → False := fun h1 => absurd h1 (Int.lt_irrefl _)
theorem om144 : ∀ {a b : Int}, a = b + 1 → a ≤ b + 2 := fun h1 => by subst h1; exact Int.add_le_add_left (by decide) _
theorem om145 : ∀ {a : Int}, 1 ≤ a → 0 ≤ a := fun h1 => Int.le_of_lt h1
theorem om146 : ∀ {a b : Nat}, a ≤ 128 → b ≤ a → b ≤ 800 := fun h1 h2 => Nat.le_trans (Nat.le_trans h2 h1) (by decide)
theorem om147 : ∀ {a : Int}, 1 ≤ a → 0 ≠ a + 1 := fun h1 => Int.ne_of_lt (Int.lt_of_lt_of_le (by decide) (Int.add_le_add_right h1 _))
theorem om148 : ∀ {a b : Int}, a ≤ b → b + 1 ≠ a := fun h1 => (Int.ne_of_lt (Int.lt_add_one_of_le h1)).symm
theorem om149 : ∀ {a b : Int}, a + 2 ≤ 900 → b = a + 1 → b + 1 ≤ 900 := by intros; omega
theorem om150 : ∀ {a b c : Int}, a = b + 1 → c ≤ b → c ≤ a := fun h1 h2 => by subst h1; exact Int.le_of_lt (Int.lt_add_one_of_le h2)
theorem om151 : ∀ {a b : Int}, a = b + 1 → b + 1 ≤ a := fun h1 => Int.le_of_eq h1.symm
theorem om152 : ∀ {a b : Int}, a = b + 1 → b ≤ a := fun h1 => by subst h1; exact Int.le_of_lt (Int.lt_succ _)
theorem om153 : ∀ {a : Int}, 1 ≤ a → 0 < a + 1 := fun h1 => Int.le_of_lt (Int.lt_add_one_of_le h1)
theorem om154 : ∀ {a b : Int}, a = b + 1 → a + 1 = b + 2 := fun h1 => by subst h1; exact Int.add_assoc _ _ _
theorem om155 : ∀ {a : Int}, a + 2 ≤ a → False := by intros; omega
theorem om156 : ∀ {a : Int}, a + 1 ≠ a + 2 := Int.ne_of_lt (Int.add_lt_add_left (by decide) _)
theorem om157 : ∀ {a : Int}, 1 ≤ a → a + 1 ≠ 0 := fun h1 => (Int.ne_of_lt (Int.lt_of_lt_of_le (by decide) (Int.add_le_add_right h1 _))).symm
theorem om158 : ∀ {a : Int}, 1 ≤ a → a + 2 ≠ 0 := fun h1 => (Int.ne_of_lt (Int.lt_of_lt_of_le (by decide) (Int.add_le_add_right h1 _))).symm
theorem om159 : ∀ {a b c : Int}, a = b + 1 → b = c + 1 → a ≤ c + 2 := by intros; omega
theorem om160 : ∀ {a b : Nat}, a + (b + 1 + 1) ≤ 140 → 0 ≤ (↑a : Int) ∧ (↑a : Int) < 1000 := by intros; omega
theorem om161 : ∀ {a b c : Int}, a < b → c = b → c ≤ a → False := fun h1 h2 h3 => by subst h2; exact absurd h3 (Int.not_le.mpr h1)
theorem om162 : ∀ {a b c : Int}, a < b → c ≤ a → c ≠ b := fun h1 h2 => Int.ne_of_lt (Int.lt_of_le_of_lt h2 h1)
theorem om163 : ∀ {a b c : Nat}, a + (b + 1) ≤ c → c ≤ 130 → a + 2 + b ≤ 140 := by intros; omega
theorem om164 : ∀ {a b : Int}, 1 ≤ a → a < b → b ≠ 1 := fun h1 h2 => (Int.ne_of_lt (Int.lt_of_le_of_lt h1 h2)).symm
theorem om165 : ∀ {a b : Nat}, a + (b + 1) = 1 → a = 0 := by intros; omega
theorem om166 : ∀ {a b : Nat}, a + (b + 1) = 1 → b = 0 := by intros; omega
theorem om167 : ∀ {a b c : Nat}, a = b + (c + 1) → a ≤ 140 → b + c ≤ 900 := by intros; omega
theorem om168 : ∀ {a : Nat}, a ≤ 130 → a ≤ 150 := fun h1 => Nat.le_trans h1 (by decide)
theorem om169 : ∀ {a b : Int}, 0 < a → a ≤ b → 0 < a ∧ a ≤ b + 1 := fun h1 h2 => ⟨h1, Int.le_trans h2 (Int.le_of_lt (Int.lt_succ _))⟩
theorem om170 : ∀ {a : Int}, 1 ≤ a → 1 ≤ a + 1 := fun h1 => Int.le_of_lt (Int.lt_add_one_of_le h1)
theorem om171 : ∀ {a b c : Int}, a = b + 2 → c ≤ b → c ≠ a := by intros; omega
theorem om172 : ∀ {a b c : Int}, a = b + 1 → c = b + 2 → a ≠ c := fun h1 h2 => by subst h1; subst h2; exact Int.ne_of_lt (Int.add_lt_add_left (by decide) _)
theorem om173 : ∀ {a b c : Int}, a = b + 1 → c ≤ b → a ≠ c := fun h1 h2 => by subst h1; exact (Int.ne_of_lt (Int.lt_add_one_of_le h2)).symm
theorem om174 : ∀ {a : Nat}, a = 2 → a ≤ 140 := fun h1 => by subst h1; exact Nat.le_add_left _ _
theorem om175 : ∀ {a b : Int}, 1 ≤ a → b = a + 2 → b ≠ 1 := fun h1 h2 => by subst h2; exact (Int.ne_of_lt (Int.lt_of_lt_of_le (by decide) (Int.add_le_add_right h1 _))).symm
theorem om176 : ∀ {a b : Int}, 1 ≤ a → b = a + 1 → b ≠ 0 := fun h1 h2 => by subst h2; exact (Int.ne_of_lt (Int.lt_of_lt_of_le (by decide) (Int.add_le_add_right h1 _))).symm
theorem om177 : ∀ {a b c : Int}, a = b + 1 → c = a → c ≤ b → False := fun h1 h2 h3 => by subst h1; subst h2; exact absurd h3 (Int.lt_irrefl _)
theorem om178 : ∀ {a b c : Int}, a = b + 1 → c ≤ b → c ≠ a := fun h1 h2 => by subst h1; exact Int.ne_of_lt (Int.lt_add_one_of_le h2)
theorem om179 : ∀ {a b c : Nat}, a + (b + 1) ≤ c → c ≤ 130 → a + (b + 1) ≤ 140 := fun h1 h2 => Nat.le_trans (Nat.le_trans h1 h2) (by decide)
theorem om180 : ∀ {a b : Int}, a = b + 1 → b < a := fun h1 => Int.le_of_eq h1.symm
theorem om181 : ∀ {a b c d : Int}, a = b + 2 → c = a → c = d → d ≤ b → False := by intros; omega
theorem om182 : ∀ {a b : Int}, a = b + 2 → b < a := fun h1 => by subst h1; exact Int.lt_add_of_pos_right _ (by decide)
theorem om183 : ∀ {a b : Int}, 0 < a → a ≤ b → 0 < a ∧ a ≤ b + 2 := fun h1 h2 => ⟨h1, Int.le_trans h2 (Int.le_add_of_nonneg_right (by decide))⟩
theorem om184 : ∀ {a : Int}, 1 ≤ a → 1 ≤ a + 2 := fun h1 => Int.le_trans (by decide) (Int.add_le_add_right h1 _)
theorem om185 : ∀ {a b : Nat}, a ≤ 130 → b ≤ a → b ≤ 130 := fun h1 h2 => Nat.le_trans h2 h1
theorem om186 : ∀ {a b c : Nat}, a < min b c → a < c := fun h1 => Nat.lt_of_lt_of_le h1 (Nat.min_le_right _ _)
theorem om187 : ∀ {a b c : Nat}, a < min b c → a = b → False := by intros; omega
theorem om188 : ∀ {a b c : Nat}, a = b → b ≤ 130 → min c a ≤ 1000 := fun h1 h2 => by subst h1; exact Nat.le_trans (Nat.min_le_right _ _) (Nat.le_trans h2 (by decide))
theorem om189 : ∀ {a : Nat}, a ≤ 130 → a < 200 := fun h1 => Nat.lt_of_le_of_lt h1 (by decide)
theorem om190 : ∀ {a b : Int}, a - (a - b) = b := Int.sub_sub_self _ _
theorem om191 : ∀ {a b : Int}, a - (0 - b) = a + b := by intros; omega
theorem om192 : ∀ {a : Nat}, 2 ≤ a → 0 < a := fun h1 => Nat.lt_of_succ_lt h1
theorem om193 : ∀ {a : Nat}, 2 ≤ a → 1 < a := fun h1 => h1
theorem om194 : ∀ {a : Nat}, a ≤ 63 → a ≤ 1000 := fun h1 => Nat.le_trans h1 (by decide)
theorem om195 : ∀ {a : Int}, a + 1 - 1 = a := Int.add_sub_cancel _ _
theorem om196 : ∀ {a : Int} {b : Nat}, 0 ≤ a → a + 1 ≤ (↑b : Int) → a.toNat < b := by intros; omega
theorem om197 : ∀ {a : Int}, 0 ≤ a → a ≤ 900 → 0 ≤ a ∧ a < 1000 := fun h1 h2 => ⟨h1, Int.lt_of_le_of_lt h2 (by decide)⟩
theorem om198 : ∀ {a : Int}, a ≤ 900 → a + 1 < 2 ^ 31 := fun h1 => Int.lt_of_le_of_lt (Int.add_le_add_right h1 _) (by decide)
theorem om199 : ∀ {a : Int}, a ≤ 900 → a + 1 ≤ 901 := fun h1 => Int.lt_add_one_of_le h1
theorem om200 : ∀ {a : Int}, 0 ≤ a → a ≤ 900 → (a + 1).natAbs < 2 ^ 31 ∧ (a + 1).natAbs < 2 ^ 31 := by intros; omega
theorem om201 : ∀ {a : Int}, 0 ≤ a → a ≤ 901 * 901 → a.natAbs < 2 ^ 31 ∧ Int.natAbs 37 < 2 ^ 31 := by intros; omega
theorem om202 : ∀ {a : Int}, 0 ≤ a → a ≤ 900 → Int.natAbs 23 < 2 ^ 31 ∧ (a + 1).natAbs < 2 ^ 31 := by intros; omega
theorem om203 : ∀ {a : Nat}, a ≤ 63 → Int.natAbs 7 < 2 ^ 31 ∧ (↑a : Int).natAbs < 2 ^ 31 := by intros; omega
theorem om204 : ∀ {a b : Nat}, a = b → a + 1 + 3 = b + 4 := fun h1 => by subst h1; exact Nat.add_assoc _ _ _
theorem om205 : ∀ {a b : Nat}, a < b → b + 1 ≠ a := fun h1 => (Nat.ne_of_lt (Nat.lt_succ_of_lt h1)).symm
theorem om206 : ∀ {a b : Nat}, a < b → b + 1 + 1 ≠ a := by intros; omega
theorem om207 : ∀ {a : Int}, a ≠ 1 → 1 ≠ a := fun h1 => h1.symm
theorem om208 : ∀ {a : Int}, 1 < a → a ≠ 1 := fun h1 => Int.ne_of_gt h1
theorem om209 : ∀ {a b c d e f : Nat}, a = b + 2 → c = a → d = c → e = d → f = e → b < f := by intros; omega
theorem om210 : ∀ {a b c d e f : Nat}, a = b + 2 → c = a → d = c → e = d → f = e → b + 1 < f := by intros; omega
theorem om211 : ∀ {a : Nat}, a + 1 ≠ a := Nat.succ_ne_self _
theorem om212 : ∀ {a : Nat}, a ≠ a + 2 := Nat.ne_of_lt (Nat.lt_add_of_pos_right (by decide))
theorem om213 : ∀ {a : Nat}, a + 2 ≠ a := Nat.ne_of_gt (Nat.lt_add_of_pos_right (by decide))
theorem om214 : ∀ {a : Nat}, a + 1 ≠ a + 2 := (Nat.succ_ne_self _).symm
theorem om215 : ∀ {a b c d e : Nat}, a = b + 2 + 4 → c = a → d = c → e = d → b + 5 ≤ e := by intros; omega
theorem om216 : ∀ {a : Nat}, a + 3 ≠ a := Nat.ne_of_gt (Nat.lt_add_of_pos_right (by decide))
theorem om217 : ∀ {a : Nat}, a + 3 ≠ a + 2 := Nat.succ_ne_self _
theorem om218 : ∀ {a : Nat}, a + 4 ≠ a := Nat.ne_of_gt (Nat.lt_add_of_pos_right (by decide))
theorem om219 : ∀ {a : Nat}, a + 4 ≠ a + 2 := Nat.ne_of_gt (Nat.add_lt_add_left (by decide) _)
theorem om220 : ∀ {a b c d e : Nat}, a = b + 2 + 4 → c = a → d = c → e = d → b ≤ e := by intros; omega
theorem om221 : ∀ {a b : Nat}, a < b → a ≠ b + 2 := fun h1 => Nat.ne_of_lt (Nat.lt_of_lt_of_le h1 (Nat.le_add_right _ _))
theorem om222 : ∀ {a b : Nat}, a < b → a < b + 2 := fun h1 => Nat.lt_of_lt_of_le h1 (Nat.le_add_right _ _)
theorem om223 : ∀ {a b : Nat}, a < b → a ≠ b + 3 := fun h1 => Nat.ne_of_lt (Nat.lt_of_lt_of_le h1 (Nat.le_add_right _ _))
theorem om224 : ∀ {a b : Nat}, a < b → a ≠ b + 4 := fun h1 => Nat.ne_of_lt (Nat.lt_of_lt_of_le h1 (Nat.le_add_right _ _))
theorem om225 : ∀ {a : Int}, 0 < a → 0 = a → False := fun h1 h2 => by subst h2; exact absurd h1 (Int.lt_irrefl _)
theorem om226 : ∀ {a b : Nat}, 2 ≤ a → a ≤ b → b ≠ 1 := fun h1 h2 => (Nat.ne_of_lt (Nat.lt_of_lt_of_le h1 h2)).symm
theorem om227 : ∀ {a : Nat}, a ≤ 130 → a ≤ 1000 := fun h1 => Nat.le_trans h1 (by decide)
theorem om228 : ∀ {a : Int}, a ≤ 800 → a ≤ 900 := fun h1 => Int.le_trans h1 (by decide)
theorem om229 : ∀ {a : Nat}, 0 < a → 0 < (↑a : Int) := fun h1 => Int.natCast_pos.mpr h1
theorem om230 : ∀ {a : Int} {b : Nat}, 0 ≤ a → a < (↑b : Int) → a.toNat < b := by intros; omega
theorem om231 : ∀ {a : Int} {b : Nat}, 0 ≤ a → a < (↑b : Int) → b ≤ 130 → 0 ≤ a ∧ a < 1000 := by intros; omega
theorem om232 : ∀ {a : Int}, a ≤ 800 → a + 1 ≤ 900 := fun h1 => Int.lt_of_le_of_lt h1 (by decide)
theorem om233 : ∀ {a : Nat}, 2 ≤ a → a ≠ 1 := fun h1 => Nat.ne_of_gt h1
theorem om234 : ∀ {a : Int}, 0 ≤ a → a < 2 → 1 - a = 0 ∨ 1 - a = 1 := by intros; omega
theorem om235 : ∀ {a : Int}, 0 ≤ a → a < 2 → 0 ≤ a ∧ a < 1000 := fun h1 h2 => ⟨h1, Int.lt_trans h2 (by decide)⟩
theorem om236 : ∀ {a : Int}, 0 ≤ a → a < 2 → a = 0 ∨ a = 1 := by intros; omega
theorem om237 : ∀ {a : Int}, a ≤ 800 → a + 1 + 1 ≤ 900 := fun h1 => Int.lt_of_le_of_lt (Int.add_le_add_right h1 _) (by decide)
theorem om238 : ∀ {a : Int}, a ≤ 800 → a + 1 + 1 + 1 ≤ 900 := by intros; omega
theorem om239 : ∀ {a b : Int}, 0 ≤ a → 1 - a = b → a < 2 → 0 ≤ b ∧ b < 1000 := by intros; omega
theorem om240 : ∀ {a : Int}, a + 1 + 1 + 1 + 1 = a + 4 := by intros; omega
theorem om241 : ∀ {a : Nat}, 2 ≤ a → 0 ≠ a := fun h1 => Nat.ne_of_lt (Nat.lt_of_lt_of_le (by decide) h1)
theorem om242 : ∀ {a : Nat}, 2 ≤ a → 1 ≠ a := fun h1 => Nat.ne_of_lt h1
theorem om243 : ∀ {a : Int}, a = 0 ∨ a = 1 → 0 ≤ a ∧ a < 1000 := by intros; omega
theorem om244 : ∀ {a b c : Nat}, 2 ≤ a → a ≤ b → b = c → 2 ≤ c := fun h1 h2 h3 => by subst h3; exact Nat.le_trans h1 h2
theorem om245 : ∀ {a : Int}, a ≤ 890 → a ≤ 900 := fun h1 => Int.le_trans h1 (by decide)
theorem om246 : ∀ {a b c : Int}, a = b → b ≤ c + 2 → a ≤ c + 4 := by intros; omega
theorem om247 : ∀ {a : Nat}, a ≤ a + 2 := Nat.le_add_right _ _
theorem om248 : ∀ {a b c : Int}, a + 4 ≤ 900 → b = c → c ≤ a + 2 → b + 2 ≤ 900 := by intros; omega
theorem om249 : ∀ {a b c d : Int}, a = b → b ≤ c + 2 → d ≤ a + 2 → d ≤ c + 4 := by intros; omega
theorem om250 : ∀ {a : Int}, a ≤ a + 1 := Int.le_of_lt (Int.lt_succ _)
theorem om251 : ∀ {a b : Int}, a ≤ b + 2 → a ≤ b + 4 := by intros; omega
theorem om252 : ∀ {a : Int}, a + 4 ≤ a + 5 := Int.add_le_add_left (by decide) _
theorem om253 : ∀ {a b : Int}, a = b → a ≤ b + 4 := by intros; omega
theorem om254 : ∀ {a b : Nat}, a = b → a ≤ b + 2 := fun h1 => Nat.le_trans (Nat.le_of_eq h1) (Nat.le_add_right _ _)
theorem om255 : ∀ {a b : Int}, a + 4 ≤ 900 → b = a → b + 2 ≤ 900 := fun h1 h2 => by subst h2; exact Int.le_trans (Int.add_le_add_left (by decide) _) h1
theorem om256 : ∀ {a b : Nat}, a = b → b ≤ 128 → a ≤ 128 := fun h1 h2 => by subst h1; exact h2
theorem om257 : ∀ {a b : Int}, a + 4 ≤ 900 → b = a → b + 4 ≤ 900 := fun h1 h2 => by subst h2; exact h1
theorem om258 : ∀ {a : Int}, a ≤ 800 → a + 4 ≤ 890 := fun h1 => Int.le_trans (Int.add_le_add_right h1 _) (by decide)
theorem om259 : ∀ {a b : Int}, a ≤ b + 4 + 1 → a ≤ b + 5 := by intros; omega
theorem om260 : ∀ {a b c : Int}, a = b → c ≤ a + 4 → c ≤ b + 4 := fun h1 h2 => by subst h1; exact h2
theorem om261 : ∀ {a b c : Nat}, a = b → c ≤ a + 2 → c ≤ b + 2 := fun h1 h2 => by subst h1; exact h2
theorem om262 : ∀ {a : Int} {b : Nat}, a + 5 * (↑(b + 1) : Int) ≤ 800 → a ≤ 800 := by intros; omega
theorem om263 : ∀ {a : Int} {b : Nat}, a + 4 * (↑(b + 1) : Int) ≤ 896 → a + 4 ≤ 900 := by intros; omega
theorem om264 : ∀ {a b : Nat}, a + 2 * (b + 1) ≤ 128 → a ≤ 128 := fun h1 => Nat.le_trans (Nat.le_add_right _ _) h1
theorem om265 : ∀ {a : Int} {b : Nat} {c : Int}, a + 5 * (↑(b + 1) : Int) ≤ 800 → c ≤ a + 5 → c + 5 * (↑b : Int) ≤ 800 := by intros; omega
theorem om266 : ∀ {a : Int} {b : Nat} {c : Int}, a + 4 * (↑(b + 1) : Int) ≤ 896 → c ≤ a + 4 → c + 4 * (↑b : Int) ≤ 896 := by intros; omega
theorem om267 : ∀ {a b c : Nat}, a + 2 * (b + 1) ≤ 128 → c ≤ a + 2 → c + 2 * b ≤ 128 := by intros; omega
theorem om268 : ∀ {a : Nat}, ¬(↑(a + 1) : Int) ≤ 0 := of_decide_eq_true rfl
theorem om269 : ∀ {a : Nat}, (↑(a + 1) : Int) - 1 = (↑a : Int) := by intros; omega
theorem om270 : ∀ {a : Nat}, min 63 a ≤ 63 := Nat.min_le_left _ _
theorem om271 : ∀ {a : Nat}, a = 2 → 0 < a := fun h1 => by subst h1; exact Nat.le_succ _
theorem om272 : ∀ {a : Nat}, a = 2 → 1 < a := fun h1 => Nat.le_of_eq h1.symm
theorem om273 : ∀ {a b : Nat}, a = 2 → a ≤ b → 2 ≤ b := fun h1 h2 => by subst h1; exact h2
theorem om274 : ∀ {a : Int}, a < 4 → (2 + a).toNat < 100 := by intros; omega
theorem om275 : ∀ {a : Int}, a < 4 → 0 + 1 + 1 + 1 + 5 * (↑(2 + a).toNat : Int) ≤ 800 := by intros; omega
theorem om276 : ∀ {a b : Int}, a < 4 → b = 1 → b + 4 * (↑(2 + a).toNat : Int) ≤ 896 := by intros; omega
theorem om277 : ∀ {a : Int}, a < 4 → 1 + 2 * (2 + a).toNat ≤ 128 := by intros; omega
theorem om278 : ∀ {a : Int}, 0 ≤ a → 0 ≤ 2 + a := fun h1 => Int.add_nonneg (by decide) h1
theorem om279 : ∀ {a : Int}, 0 ≤ a → a < 4 → 0 ≤ 2 + a ∧ 2 + a ≤ 1000 := by intros; omega
theorem om280 : ∀ {a : Nat}, ¬(↑63 : Int) < (↑a : Int) → a ≤ 63 := by intros; omega
end Mine
end
open PySem PySem.W PySem.Calls PyProof.Rows
namespace Mine
theorem byc {p : Prop} (h : ¬ ¬ p) : p := Classical.byContradiction h
inductive V where
  | none
  | bool (b : Bool)
  | int (i : Int)
  | obj (n : Nat)
  | tup (vs : List V)
inductive AO where
  | list (xs : List V)
  | dict (es : List (Int × V))
  | inst (C : Addr) (fs : List (Str × V))
structure Mem where
  n : Nat
  get : Nat → Option AO
noncomputable def Mem.set (μ : Mem) (k : Nat) (o : AO) : Mem := ⟨μ.n, fun j => if j = k then some o else μ.get j⟩
noncomputable def Mem.new (μ : Mem) (o : AO) : Mem := ⟨μ.n + 1, fun j => if j = μ.n then some o else μ.get j⟩
noncomputable abbrev Loc := Str → Option V
noncomputable abbrev Idm := List ((Nat × Bool) × Addr)
noncomputable abbrev Led := List (Addr × Obj)
noncomputable abbrev tupOf (us : List Value) (k : Nat) : Obj := { cls := .type "tuple", data := .seq us.toArray k }
mutual
noncomputable def VR (φ : Idm) (N : Led) : V → Value → Prop
  | .none, u => u = .none
  | .bool b, u => u = .bool b
  | .int i, u => ∃ t, u = .int i t
  | .obj n, u => ∃ a, ((n, false), a) ∈ φ ∧ u = .ref a
  | .tup vs, u => ∃ a us k, u = .ref a ∧ (a, tupOf us k) ∈ N ∧ VRs φ N vs us
noncomputable def VRs (φ : Idm) (N : Led) : List V → List Value → Prop
  | [], us => us = []
  | v :: vs, us => ∃ u us', us = u :: us' ∧ VR φ N v u ∧ VRs φ N vs us'
end
mutual
theorem VR.mono {φ φ' : Idm} {N N' : Led} (hi : ∀ x ∈ φ, x ∈ φ') (ht : ∀ a us k, (a, tupOf us k) ∈ N → (a, tupOf us k) ∈ N') : ∀ {v u}, VR φ N v u → VR φ' N' v u
  | .none, _, h => h
  | .bool _, _, h => h
  | .int _, _, h => h
  | .obj _, _, h => by
    simp only [VR] at h ⊢
    exact let ⟨a, m, e⟩ := h; ⟨a, hi _ m, e⟩
  | .tup _, _, h => by
    simp only [VR] at h ⊢
    exact let ⟨a, us, k, e, m, r⟩ := h; ⟨a, us, k, e, ht _ _ _ m, VRs.mono hi ht r⟩
theorem VRs.mono {φ φ' : Idm} {N N' : Led} (hi : ∀ x ∈ φ, x ∈ φ') (ht : ∀ a us k, (a, tupOf us k) ∈ N → (a, tupOf us k) ∈ N') : ∀ {v u}, VRs φ N v u → VRs φ' N' v u
  | [], _, h => h
  | _ :: _, _, h => by
    simp only [VRs] at h ⊢
    exact let ⟨u, us', e, h1, h2⟩ := h; ⟨u, us', e, VR.mono hi ht h1, VRs.mono hi ht h2⟩
end
theorem VRs.length {φ : Idm} {N : Led} : ∀ {vs us}, VRs φ N vs us → us.length = vs.length
  | [], _, h => by simp only [VRs] at h; subst h; rfl
  | _ :: _, _, h => by
    simp only [VRs] at h
    obtain ⟨u, us', rfl, _, h2⟩ := h
    simp [VRs.length h2]
theorem VRs.get {φ : Idm} {N : Led} : ∀ {vs us} {i : Nat} {v : V}, VRs φ N vs us → vs[i]? = some v → ∃ u, us[i]? = some u ∧ VR φ N v u
  | [], _, _, _, _, e => by simp at e
  | x :: r, _, 0, v, h, e => by
    simp only [VRs] at h
    obtain ⟨u, us', rfl, h1, h2⟩ := h
    simp at e; subst e
    exact ⟨u, rfl, h1⟩
  | x :: r, _, i + 1, v, h, e => by
    simp only [VRs] at h
    obtain ⟨u, us', rfl, h1, h2⟩ := h
    simp at e
    exact VRs.get (i := i) h2 e
theorem VRs.append {φ : Idm} {N : Led} : ∀ {vs us vs' us'}, VRs φ N vs us → VRs φ N vs' us' → VRs φ N (vs ++ vs') (us ++ us')
  | [], _, _, _, h, h' => by simp only [VRs] at h; subst h; exact h'
  | x :: r, _, _, _, h, h' => by
    simp only [VRs] at h
    obtain ⟨u, us', rfl, h1, h2⟩ := h
    simp only [List.cons_append, VRs]
    exact ⟨u, _, rfl, h1, VRs.append h2 h'⟩
theorem VRs.split {φ : Idm} {N : Led} : ∀ {vs vs' us}, VRs φ N (vs ++ vs') us → ∃ u1 u2, us = u1 ++ u2 ∧ VRs φ N vs u1 ∧ VRs φ N vs' u2
  | [], _, us, h => ⟨[], us, rfl, by simp only [VRs], h⟩
  | x :: r, _, us, h => by
    simp only [List.cons_append, VRs] at h
    obtain ⟨u, us', rfl, h1, h2⟩ := h
    obtain ⟨u1, u2, rfl, a, b⟩ := VRs.split h2
    exact ⟨u :: u1, u2, rfl, by simp only [VRs]; exact ⟨u, u1, rfl, h1, a⟩, b⟩
theorem VRs.one {φ : Idm} {N : Led} {v u} (h : VR φ N v u) : VRs φ N [v] [u] := by simp only [VRs]; exact ⟨u, [], rfl, h, rfl⟩
theorem VRs.nil {φ : Idm} {N : Led} : VRs φ N [] [] := by simp only [VRs]
theorem VRs.cons {φ : Idm} {N : Led} {v u vs us} (h : VR φ N v u) (h' : VRs φ N vs us) : VRs φ N (v :: vs) (u :: us) := by simp only [VRs]; exact ⟨u, us, rfl, h, h'⟩
theorem VRs.reverse {φ : Idm} {N : Led} : ∀ {vs us}, VRs φ N vs us → VRs φ N vs.reverse us.reverse
  | [], _, h => by simp only [VRs] at h; subst h; exact .nil
  | x :: r, _, h => by
    simp only [VRs] at h
    obtain ⟨u, us', rfl, h1, h2⟩ := h
    simp only [List.reverse_cons]
    exact VRs.append (VRs.reverse h2) (.one h1)
theorem VRs.set {φ : Idm} {N : Led} : ∀ {vs us} {i : Nat} {v u}, VRs φ N vs us → VR φ N v u → VRs φ N (vs.set i v) (us.set i u)
  | [], _, _, _, _, h, _ => by simp only [VRs] at h; subst h; exact .nil
  | x :: r, _, 0, _, _, h, h' => by
    simp only [VRs] at h
    obtain ⟨u, us', rfl, h1, h2⟩ := h
    exact .cons h' h2
  | x :: r, _, i + 1, _, _, h, h' => by
    simp only [VRs] at h
    obtain ⟨u, us', rfl, h1, h2⟩ := h
    exact .cons h1 (VRs.set h2 h')
noncomputable def DRs (φ : Idm) (N : Led) : List (Int × V) → List (Int × Value) → Prop
  | [], ks => ks = []
  | e :: es, ks => ∃ u ks', ks = (e.1, u) :: ks' ∧ VR φ N e.2 u ∧ DRs φ N es ks'
theorem DRs.mono {φ φ' : Idm} {N N' : Led} (hi : ∀ x ∈ φ, x ∈ φ') (ht : ∀ a us k, (a, tupOf us k) ∈ N → (a, tupOf us k) ∈ N') : ∀ {es ks}, DRs φ N es ks → DRs φ' N' es ks
  | [], _, h => h
  | _ :: _, _, ⟨u, ks', e, h1, h2⟩ => ⟨u, ks', e, h1.mono hi ht, DRs.mono hi ht h2⟩
noncomputable def FRs (w : World) (φ : Idm) (N : Led) : List (Str × V) → List DictEntry → Prop
  | [], ks => ks = []
  | e :: es, ks => ∃ u t ks', ks = ⟨PyData.keyHash w.params e.1, .str e.1 t, u⟩ :: ks' ∧ VR φ N e.2 u ∧ FRs w φ N es ks'
theorem FRs.mono {w : World} {φ φ' : Idm} {N N' : Led} (hi : ∀ x ∈ φ, x ∈ φ') (ht : ∀ a us k, (a, tupOf us k) ∈ N → (a, tupOf us k) ∈ N') : ∀ {es ks}, FRs w φ N es ks → FRs w φ' N' es ks
  | [], _, h => h
  | _ :: _, _, ⟨u, t, ks', e, h1, h2⟩ => ⟨u, t, ks', e, h1.mono hi ht, FRs.mono hi ht h2⟩
noncomputable def fget : List (Str × V) → Str → Option V
  | [], _ => none
  | e :: r, x => if e.1 = x then some e.2 else fget r x
noncomputable def fput (x : Str) (v : V) : List (Str × V) → List (Str × V)
  | [] => [(x, v)]
  | e :: r => if e.1 = x then (x, v) :: r else e :: fput x v r
theorem fget_fput (x y : Str) (v : V) : ∀ fs, fget (fput x v fs) y = if x = y then some v else fget fs y
  | [] => by simp only [fput, fget]
  | e :: r => by
    unfold fput
    by_cases h : e.1 = x
    · rw [if_pos h]
      simp only [fget]
      by_cases h2 : x = y
      · simp [h2]
      · rw [if_neg h2, if_neg h2, if_neg (h ▸ h2)]
    · rw [if_neg h]
      simp only [fget, fget_fput x y v r]
      by_cases h2 : e.1 = y
      · rw [if_pos h2, if_pos h2, if_neg fun q => h (h2.trans q.symm)]
      · rw [if_neg h2, if_neg h2]
theorem fput_len (x : Str) (v : V) : ∀ fs, (fput x v fs).length = if (fget fs x).isSome then fs.length else fs.length + 1
  | [] => by simp [fput, fget]
  | e :: r => by
    unfold fput fget
    by_cases h : e.1 = x
    · simp [h]
    · rw [if_neg h, if_neg h, List.length_cons, List.length_cons, fput_len x v r]
      split <;> rfl
section
variable {w : World} {φ : Idm} {N : Led}
theorem FRs.length : ∀ {fs ds}, FRs w φ N fs ds → ds.length = fs.length
  | [], _, h => by cases h; rfl
  | _ :: _, _, ⟨u, t, ks', e, h1, h2⟩ => by subst e; simp [FRs.length h2]
theorem FRs.noref : ∀ {fs ds}, FRs w φ N fs ds → ds.any (·.refKey) = false
  | [], _, h => by cases h; rfl
  | _ :: _, _, ⟨u, t, ks', e, h1, h2⟩ => by subst e; simpa [DictEntry.refKey] using FRs.noref h2
theorem FRs.getL : ∀ {fs ds} {x : Str} {v : V}, FRs w φ N fs ds → fget fs x = some v → ∃ u, getL x ds = some (some u) ∧ VR φ N v u
  | [], _, _, _, _, e => by cases e
  | f :: r, _, x, v, ⟨u, t, ks', rfl, h1, h2⟩, e => by
    unfold fget at e
    unfold PySem.W.getL
    by_cases h : f.1 = x
    · rw [if_pos h] at e
      cases e
      subst h
      exact ⟨u, by simp [Value.isStr], h1⟩
    · rw [if_neg h] at e
      obtain ⟨u', a, b⟩ := FRs.getL h2 e
      refine ⟨u', ?_, b⟩
      unfold PySem.W.getL at a
      have hf : (f.1 == x) = false := by simpa using h
      simp only [List.find?_cons, Value.isStr, hf]
      simp only [List.any_cons, DictEntry.refKey] at a ⊢
      exact a
theorem FRs.getL_none : ∀ {fs ds} {x : Str}, FRs w φ N fs ds → fget fs x = none → PySem.W.getL x ds = some none := by
  intro fs ds x h e
  have hn := FRs.noref h
  have hf : ds.find? (·.key.isStr x) = none := by
    clear hn
    induction fs generalizing ds with
    | nil => cases h; rfl
    | cons f r ih =>
      obtain ⟨u, t, ks', rfl, h1, h2⟩ := h
      unfold fget at e
      by_cases hx : f.1 = x
      · rw [if_pos hx] at e; cases e
      · rw [if_neg hx] at e
        have hf : (f.1 == x) = false := by simpa using hx
        simp only [List.find?_cons, Value.isStr, hf]
        exact ih h2 e
  unfold PySem.W.getL
  rw [hf, hn]; rfl
theorem FRs.putL {x : Str} {v : V} {u : Value} {t : Tok} (hv : VR φ N v u) : ∀ {fs ds}, FRs w φ N fs ds → FRs w φ N (fput x v fs) (putL x (PyData.keyHash w.params x) (.str x t) u ds)
  | [], _, h => by cases h; exact ⟨u, t, [], rfl, hv, rfl⟩
  | f :: r, _, ⟨u', t', ks', rfl, h1, h2⟩ => by
    unfold fput PySem.W.putL
    by_cases h : f.1 = x
    · rw [if_pos h]
      have : (Value.str f.1 t').isStr x = true := by simp [Value.isStr, h]
      rw [if_pos this]
      subst h
      exact ⟨u, t', ks', rfl, hv, h2⟩
    · rw [if_neg h]
      have : ¬ ((Value.str f.1 t').isStr x = true) := by simp [Value.isStr, h]
      rw [if_neg this]
      exact ⟨u', t', _, rfl, h1, FRs.putL hv h2⟩
end
noncomputable def setA (a : Addr) (o : Obj) (N : Led) : Led := N.map fun p => if p.1 = a then (a, o) else p
theorem setA_keys (a : Addr) (o : Obj) (N : Led) : (setA a o N).map (·.1) = N.map (·.1) := by
  unfold setA
  rw [List.map_map]
  refine List.map_congr_left fun p _ => ?_
  simp only [Function.comp]
  split <;> simp_all
theorem mem_setA {a : Addr} {o : Obj} {N : Led} {p : Addr × Obj} (h : p ∈ N) (hp : p.1 ≠ a) : p ∈ setA a o N :=
  List.mem_map.mpr ⟨p, h, if_neg hp⟩
theorem mem_setA_self {a : Addr} {o o' : Obj} {N : Led} (h : (a, o') ∈ N) : (a, o) ∈ setA a o N :=
  List.mem_map.mpr ⟨_, h, if_pos rfl⟩
theorem of_mem_setA {a : Addr} {o : Obj} {N : Led} {p : Addr × Obj} (h : p ∈ setA a o N) : (p.1 ≠ a ∧ p ∈ N) ∨ p = (a, o) := by
  obtain ⟨q, hq, e⟩ := List.mem_map.mp h
  by_cases hqa : q.1 = a
  · rw [if_pos hqa] at e; exact .inr e.symm
  · rw [if_neg hqa] at e; subst e; exact .inl ⟨hqa, hq⟩
theorem setA_ne {a : Addr} {o : Obj} : ∀ {N : Led}, (∀ p ∈ N, p.1 ≠ a) → setA a o N = N
  | [], _ => rfl
  | p :: r, h => by
    unfold setA
    rw [List.map_cons, if_neg (h p (.head _))]
    exact congrArg _ (setA_ne fun q hq => h q (.tail _ hq))
theorem upd_setA {a : Addr} {o o' : Obj} : ∀ {N : Led}, (a, o) ∈ N → (N.map (·.1)).Nodup → Upd a o o' N (setA a o' N)
  | [], h, _ => nomatch h
  | p :: r, h, nd => by
    rw [List.map_cons, List.nodup_cons] at nd
    rcases List.mem_cons.mp h with rfl | h
    · have hr : ∀ q ∈ r, q.1 ≠ a := fun q hq e => nd.1 (by show a ∈ _; rw [← e]; exact List.mem_map_of_mem (f := (·.1)) hq)
      have : setA a o' ((a, o) :: r) = (a, o') :: r := by
        show (if a = a then (a, o') else (a, o)) :: setA a o' r = _
        rw [if_pos rfl, setA_ne hr]
      rw [this]
      exact .head hr
    · have hp : p.1 ≠ a := fun e => nd.1 (by rw [e]; exact List.mem_map_of_mem (f := (·.1)) h)
      have : setA a o' (p :: r) = p :: setA a o' r := by
        show (if p.1 = a then (a, o') else p) :: setA a o' r = _
        rw [if_neg hp]
      rw [this]
      exact .tail hp (upd_setA h nd.2)
theorem updF_setA {a : Addr} {o : Obj} : ∀ {N : Led}, (a, o) ∈ N → (N.map (·.1)).Nodup → UpdF a o N (fun o' => setA a o' N)
  | [], h, _ => nomatch h
  | p :: r, h, nd => by
    rw [List.map_cons, List.nodup_cons] at nd
    rcases List.mem_cons.mp h with rfl | h
    · have hr : ∀ q ∈ r, q.1 ≠ a := fun q hq e => nd.1 (by show a ∈ _; rw [← e]; exact List.mem_map_of_mem (f := (·.1)) hq)
      have : (fun o' => setA a o' ((a, o) :: r)) = fun o' => (a, o') :: r := by
        funext o'
        show (if a = a then (a, o') else (a, o)) :: setA a o' r = _
        rw [if_pos rfl, setA_ne hr]
      rw [this]
      exact .head hr
    · have hp : p.1 ≠ a := fun e => nd.1 (by rw [e]; exact List.mem_map_of_mem (f := (·.1)) h)
      have : (fun o' => setA a o' (p :: r)) = fun o' => p :: setA a o' r := by
        funext o'
        show (if p.1 = a then (a, o') else p) :: setA a o' r = _
        rw [if_neg hp]
      rw [this]
      exact .tail hp (updF_setA h nd.2)
theorem led_uniq {N : Led} (nd : (N.map (·.1)).Nodup) {a : Addr} {o o' : Obj} (h : (a, o) ∈ N) (h' : (a, o') ∈ N) : o = o' := by
  induction N with
  | nil => cases h
  | cons p r ih =>
    rw [List.map_cons, List.nodup_cons] at nd
    rcases List.mem_cons.mp h with e | h <;> rcases List.mem_cons.mp h' with e' | h'
    · rw [← e] at e'; cases e'; rfl
    · exact absurd (by rw [← e]; exact List.mem_map_of_mem (f := (·.1)) h') nd.1
    · exact absurd (by rw [← e']; exact List.mem_map_of_mem (f := (·.1)) h) nd.1
    · exact ih nd.2 h h'
structure Ext (cs : List Addr) (φ : Idm) (N : Led) (φ' : Idm) (N' : Led) : Prop where
  ids : ∀ x ∈ φ, x ∈ φ'
  old : ∀ p ∈ N, p.1 ∉ φ.map (·.2) → p.1 ∉ cs → p ∈ N'
  new : ∀ x ∈ φ', x ∈ φ ∨ x.2 ∉ N.map (·.1)
  keys : ∀ a ∈ N.map (·.1), a ∈ N'.map (·.1)
theorem Ext.refl {cs : List Addr} {φ : Idm} {N : Led} : Ext cs φ N φ N := ⟨fun _ h => h, fun _ h _ _ => h, fun _ h => .inl h, fun _ h => h⟩
theorem Ext.trans {cs : List Addr} {φ φ1 φ2 : Idm} {N N1 N2 : Led} (x : Ext cs φ N φ1 N1) (y : Ext cs φ1 N1 φ2 N2) : Ext cs φ N φ2 N2 where
  ids := fun q h => y.ids q (x.ids q h)
  old := fun p hp h1 h2 => y.old p (x.old p hp h1 h2) (fun hm => by
    obtain ⟨q, hq, e⟩ := List.mem_map.mp hm
    rcases x.new q hq with h | h
    · exact h1 (by rw [← e]; exact List.mem_map_of_mem h)
    · exact h (by rw [e]; exact List.mem_map_of_mem hp)) h2
  new := fun q hq => by
    rcases y.new q hq with h | h
    · exact x.new q h
    · exact .inr fun hm => h (x.keys _ hm)
  keys := fun a h => y.keys a (x.keys a h)
theorem Ext.weaken {cs cs' : List Addr} {φ φ1 : Idm} {N N1 : Led} (x : Ext cs φ N φ1 N1) (h : ∀ a ∈ cs, a ∈ cs') : Ext cs' φ N φ1 N1 :=
  ⟨x.ids, fun p hp h1 h2 => x.old p hp h1 fun q => h2 (h _ q), x.new, x.keys⟩
noncomputable def OR (prog : Program) (w : World) (φ : Idm) (N : Led) (n : Nat) : AO → Prop
  | .list xs => ∃ a us k, ((n, false), a) ∈ φ ∧ (a, listOf us.toArray k) ∈ N ∧ VRs φ N xs us
  | .dict es => ∃ a o kvs, ((n, false), a) ∈ φ ∧ (a, o) ∈ N ∧ (a == sysModules) = false ∧ o.IsDictOf (intKind prog w) kvs ∧ DRs φ N es kvs
  | .inst C fs => ∃ a d des k, ((n, false), a) ∈ φ ∧ ((n, true), d) ∈ φ ∧ (a, instObj C d) ∈ N ∧ (d, W.dictOf des k) ∈ N ∧ FRs w φ N fs des
structure MR (prog : Program) (w : World) (φ : Idm) (N : Led) (μ : Mem) : Prop where
  fk : (φ.map (·.1)).Nodup
  fa : (φ.map (·.2)).Nodup
  nd : (N.map (·.1)).Nodup
  lt : ∀ x ∈ φ, x.1.1 < μ.n
  ob : ∀ n o, μ.get n = some o → OR prog w φ N n o
  nt : ∀ x ∈ φ, ∀ us k, (x.2, tupOf us k) ∉ N
  kn : ∀ x ∈ φ, x.2 ∈ N.map (·.1)
  gt : ∀ n, μ.n ≤ n → μ.get n = none
section
variable {prog : Program} {w : World} {φ φ' : Idm} {N N' : Led} {μ : Mem}
theorem nodup_snd {φ : Idm} (h : (φ.map (·.2)).Nodup) {x y : (Nat × Bool) × Addr} (hx : x ∈ φ) (hy : y ∈ φ) (e : x.2 = y.2) : x = y := by
  induction φ with
  | nil => cases hx
  | cons p r ih =>
    rw [List.map_cons, List.nodup_cons] at h
    rcases List.mem_cons.mp hx with e1 | hx <;> rcases List.mem_cons.mp hy with e2 | hy
    · rw [e1, e2]
    · exact absurd (by rw [← e1, e]; exact List.mem_map_of_mem hy) h.1
    · exact absurd (by rw [← e2, ← e]; exact List.mem_map_of_mem hx) h.1
    · exact ih h.2 hx hy
theorem nodup_fst {φ : Idm} (h : (φ.map (·.1)).Nodup) {x y : (Nat × Bool) × Addr} (hx : x ∈ φ) (hy : y ∈ φ) (e : x.1 = y.1) : x = y := by
  induction φ with
  | nil => cases hx
  | cons p r ih =>
    rw [List.map_cons, List.nodup_cons] at h
    rcases List.mem_cons.mp hx with e1 | hx <;> rcases List.mem_cons.mp hy with e2 | hy
    · rw [e1, e2]
    · exact absurd (by rw [← e1, e]; exact List.mem_map_of_mem hy) h.1
    · exact absurd (by rw [← e2, ← e]; exact List.mem_map_of_mem hx) h.1
    · exact ih h.2 hx hy
theorem OR.mono {n : Nat} (hi : ∀ x ∈ φ, x ∈ φ') (ht : ∀ a us k, (a, tupOf us k) ∈ N → (a, tupOf us k) ∈ N') (hm : ∀ b a o, ((n, b), a) ∈ φ → (a, o) ∈ N → (a, o) ∈ N') : ∀ {o : AO}, OR prog w φ N n o → OR prog w φ' N' n o
  | .list _, ⟨a, us, k, h1, h2, h3⟩ => ⟨a, us, k, hi _ h1, hm _ _ _ h1 h2, h3.mono hi ht⟩
  | .dict _, ⟨a, o, kvs, h1, h2, h3, h4, h5⟩ => ⟨a, o, kvs, hi _ h1, hm _ _ _ h1 h2, h3, h4, h5.mono hi ht⟩
  | .inst _ _, ⟨a, d, des, k, h1, h2, h3, h4, h5⟩ => ⟨a, d, des, k, hi _ h1, hi _ h2, hm _ _ _ h1 h3, hm _ _ _ h2 h4, h5.mono hi ht⟩
theorem MR.tups (M : MR prog w φ N μ) {a : Addr} {o : Obj} {x : Nat × Bool} (hx : (x, a) ∈ φ) : ∀ b us k, (b, tupOf us k) ∈ N → (b, tupOf us k) ∈ setA a o N := fun b us k h =>
  mem_setA h fun (e : b = a) => M.nt _ hx us k (by subst e; exact h)
theorem MR.set (M : MR prog w φ N μ) {n : Nat} {b : Bool} {a : Addr} {o : Obj} {ao : AO} (hx : ((n, b), a) ∈ φ) (hno : ∀ us k, o ≠ tupOf us k) (hn : n < μ.n) (h : OR prog w φ (setA a o N) n ao) :
    MR prog w φ (setA a o N) (μ.set n ao) where
  fk := M.fk
  fa := M.fa
  nd := by rw [setA_keys]; exact M.nd
  lt := M.lt
  ob := fun j oj e => by
    have e1 : (if j = n then some ao else μ.get j) = some oj := e
    by_cases hj : j = n
    · rw [if_pos hj] at e1
      cases e1; rw [hj]; exact h
    · have e' : μ.get j = some oj := by rw [if_neg hj] at e1; exact e1
      refine (M.ob j oj e').mono (fun _ h => h) (M.tups hx) fun b' a' o' h1 h2 => mem_setA h2 fun (q : a' = a) => hj ?_
      exact congrArg (·.1.1) (nodup_snd M.fa h1 hx q)
  nt := fun x hx' us k hm => by
    rcases of_mem_setA hm with ⟨h1, h2⟩ | h1
    · exact M.nt x hx' us k h2
    · exact hno us k (Prod.mk.inj h1).2.symm
  kn := fun x hx' => by rw [setA_keys]; exact M.kn x hx'
  gt := fun j hj => by
    have hj' : μ.n ≤ j := hj
    show (if j = n then _ else _) = _
    rw [if_neg (by exact om1 hn hj')]; exact M.gt j hj'
theorem setA_ext {cs : List Addr} {a : Addr} {o : Obj} (hx : a ∈ φ.map (·.2)) : Ext cs φ N φ (setA a o N) where
  ids := fun _ h => h
  old := fun p hp h _ => mem_setA hp fun e => h (e ▸ hx)
  new := fun _ h => .inl h
  keys := fun b h => by rw [setA_keys]; exact h
theorem MR.new (M : MR prog w φ N μ) {a : Addr} {o : Obj} {ao : AO} (ha : a ∉ N.map (·.1)) (hno : ∀ us k, o ≠ tupOf us k)
    (h : OR prog w (((μ.n, false), a) :: φ) ((a, o) :: N) μ.n ao) : MR prog w (((μ.n, false), a) :: φ) ((a, o) :: N) (μ.new ao) where
  fk := by
    rw [List.map_cons, List.nodup_cons]
    refine ⟨fun hm => ?_, M.fk⟩
    obtain ⟨x, hx, e⟩ := List.mem_map.mp hm
    have := M.lt x hx
    rw [e] at this
    exact Nat.lt_irrefl _ this
  fa := by
    rw [List.map_cons, List.nodup_cons]
    refine ⟨fun hm => ?_, M.fa⟩
    obtain ⟨x, hx, e⟩ := List.mem_map.mp hm
    exact ha (by have := M.kn x hx; rw [e] at this; exact this)
  nd := by rw [List.map_cons, List.nodup_cons]; exact ⟨ha, M.nd⟩
  lt := fun x hx => by
    show _ < μ.n + 1
    rcases List.mem_cons.mp hx with rfl | hx
    · exact Nat.lt_succ_self _
    · exact Nat.lt_succ_of_lt (M.lt x hx)
  ob := fun j oj e => by
    have e' : (if j = μ.n then some ao else μ.get j) = some oj := e
    by_cases hj : j = μ.n
    · rw [if_pos hj] at e'; cases e'; rw [hj]; exact h
    · rw [if_neg hj] at e'
      exact (M.ob j oj e').mono (fun _ h => .tail _ h) (fun _ _ _ h => .tail _ h) fun _ _ _ _ h => .tail _ h
  nt := fun x hx us k hm => by
    rcases List.mem_cons.mp hx with rfl | hx
    · rcases List.mem_cons.mp hm with e | hm
      · exact hno us k (Prod.mk.inj e).2.symm
      · exact ha (List.mem_map_of_mem (f := (·.1)) hm)
    · rcases List.mem_cons.mp hm with e | hm
      · exact ha (by have := M.kn x hx; rw [(Prod.mk.inj e).1] at this; exact this)
      · exact M.nt x hx us k hm
  kn := fun x hx => by
    rcases List.mem_cons.mp hx with rfl | hx
    · exact List.mem_map.mpr ⟨(a, o), List.Mem.head _, rfl⟩
    · exact List.mem_cons_of_mem _ (M.kn x hx)
  gt := fun j hj => by
    have hj' : μ.n + 1 ≤ j := hj
    show (if j = μ.n then _ else _) = _
    rw [if_neg (by exact om2 hj')]; exact M.gt j (by exact om3 hj')
theorem new_ext {cs : List Addr} {a : Addr} {o : Obj} {x : Nat × Bool} (ha : a ∉ N.map (·.1)) : Ext cs φ N ((x, a) :: φ) ((a, o) :: N) where
  ids := fun _ h => .tail _ h
  old := fun p hp _ _ => .tail _ hp
  new := fun q hq => by
    rcases List.mem_cons.mp hq with rfl | hq
    · exact .inr ha
    · exact .inl hq
  keys := fun b h => List.mem_cons_of_mem _ h
theorem MR.more (M : MR prog w φ N μ) {a : Addr} {o : Obj} (ha : a ∉ N.map (·.1)) : MR prog w φ ((a, o) :: N) μ where
  fk := M.fk
  fa := M.fa
  nd := by rw [List.map_cons, List.nodup_cons]; exact ⟨ha, M.nd⟩
  lt := M.lt
  ob := fun j oj e => (M.ob j oj e).mono (fun _ h => h) (fun _ _ _ h => .tail _ h) fun _ _ _ _ h => .tail _ h
  nt := fun x hx us k hm => by
    rcases List.mem_cons.mp hm with e | hm
    · exact ha (by have := M.kn x hx; rw [(Prod.mk.inj e).1] at this; exact this)
    · exact M.nt x hx us k hm
  kn := fun x hx => List.mem_cons_of_mem _ (M.kn x hx)
  gt := M.gt
theorem more_ext {cs : List Addr} {a : Addr} {o : Obj} : Ext cs φ N φ ((a, o) :: N) where
  ids := fun _ h => h
  old := fun p hp _ _ => .tail _ hp
  new := fun q hq => .inl hq
  keys := fun b h => List.mem_cons_of_mem _ h
theorem MR.vr {cs : List Addr} (M : MR prog w φ N μ) (hc : ∀ a ∈ cs, ∀ us k, (a, tupOf us k) ∉ N) (E : Ext cs φ N φ' N') : ∀ a us k, (a, tupOf us k) ∈ N → (a, tupOf us k) ∈ N' := fun a us k h =>
  E.old _ h (fun hm => by
    obtain ⟨x, hx, e⟩ := List.mem_map.mp hm
    exact M.nt x hx us k (by rw [e]; exact h)) fun hm => hc a hm us k h
end
end Mine
end
section
set_option maxRecDepth 10000
open PySem PySem.W PySem.Calls PyProof.Rows
namespace Mine
structure Wd where
  prog : Program
  w : World
  K : Frag
  p : Program
  loose : List Str
  mean : ExcName → Option Value
  mg : Str → Option Value
  mb : Str → Option Value
structure Cx where
  A₀ : Around
  base : Heap
  outer : List Env
  h₀ : Heap
  L : Addr
  cn : Str
  cs : Scope
  a : Addr
  ccd : Value
  cl : List (Str × Addr)
  own : List Addr
  os : OsState
  tab : Option (Addr × Addr)
noncomputable abbrev Cx.env (c : Cx) : Env := envX c.cn c.cs c.L c.a c.ccd c.cl
noncomputable abbrev Cx.A (c : Cx) : Around := c.A₀.deeper c.env
noncomputable def TabOk (c : Cx) : Prop := ∃ cc P, c.tab = some (cc, P) ∧ c.ccd = .ref cc ∧ CodeHd c.h₀ cc P ∧ c.outer = []
structure Ok (D : Wd) (k : Nat) (c : Cx) : Prop where
  B : Below c.A₀ c.base c.outer c.h₀
  X : D.K.In c.h₀
  T : Top D.p D.loose D.mean D.mg D.mb c.h₀
  XB : D.K.In c.base
  TB : Top D.p D.loose D.mean D.mg D.mb c.base
  fn : c.cs.kind = .function
  hh : c.A₀.handled = none
  hd : c.A₀.depth + 1 + k < recursionLimit
  hu : c.A₀.units + 200 + 8 * k < cLine
  ci : ∀ x y a, c.cl.lookup x = some a → c.cl.lookup y = some a → x = y
  co : ∀ x, c.cs.names.lookup x = some .cell → ∃ a, c.cl.lookup x = some a ∧ a ∈ c.own
  tk : c.cs.names.lookup ("script" : Str) = some .local → TabOk c
noncomputable def LR (c : Cx) (ρ : Loc) (m : Str → Option Value) (φ : Idm) (N : Led) : Prop :=
  ∀ x v, ρ x = some v → (c.cs.names.lookup x = some .local ∧ ∃ u, m x = some u ∧ VR φ N v u) ∨
    ((c.cs.names.lookup x = some .cell ∨ c.cs.names.lookup x = some .free) ∧ ∃ a o u, c.cl.lookup x = some a ∧ (a, o) ∈ N ∧ o.data = .cell (some u) ∧ VR φ N v u)
noncomputable abbrev Cx.lam (c : Cx) : Str := c.cn ++ ".<locals>." ++ "<lambda>"
noncomputable def LamCode (x : Str) (o : Obj) : Prop := ∃ vs t, o.data = .fields vs ∧ vs[1]? = some (.str x t)
structure TabR (c : Cx) (P : Addr) (φ : Idm) (N : Led) : Prop where
  id : P ∉ φ.map (·.2)
  own : P ∈ c.own
  cl : ∀ x, c.cl.lookup x ≠ some P
  at_ : ∃ ps, (P, tabObj ps) ∈ N ∧ TriplesOk ps.toList ∧ ∀ pos cv, codeAmong pos ps.toList = some cv → ∃ c' oc, cv = .ref c' ∧ (c', oc) ∈ N ∧ c' ∉ φ.map (·.2) ∧ c' ∉ c.own ∧ LamCode c.lam oc
theorem TabR.ext {c : Cx} {P : Addr} {φ φ' : Idm} {N N' : Led} (x : TabR c P φ N) (h1 : ∀ p ∈ N, p.1 ∉ φ.map (·.2) → (p.1 = P ∨ (p.1 ∉ c.own ∧ LamCode c.lam p.2)) → p ∈ N') (h2 : ∀ q ∈ φ', q ∈ φ ∨ q.2 ∉ N.map (·.1)) : TabR c P φ' N' := by
  obtain ⟨i, o, l, ps, h3, h4, h5⟩ := x
  have hn : ∀ p ∈ N, p.1 ∉ φ.map (·.2) → p.1 ∉ φ'.map (·.2) := fun p hp h hm => by
    obtain ⟨q, hq, e⟩ := List.mem_map.mp hm
    rcases h2 q hq with h' | h'
    · exact h (by rw [← e]; exact List.mem_map_of_mem h')
    · exact h' (by rw [e]; exact List.mem_map_of_mem (f := (·.1)) hp)
  refine ⟨hn _ h3 i, o, l, ps, h1 _ h3 i (.inl rfl), h4, fun pos cv e => ?_⟩
  obtain ⟨c', oc, e1, e2, e3, e4, e5⟩ := h5 pos cv e
  exact ⟨c', oc, e1, h1 _ e2 e3 (.inr ⟨e4, e5⟩), hn _ e2 e3, e4, e5⟩
structure Rep (D : Wd) (c : Cx) (ρ : Loc) (μ : Mem) (φ : Idm) (N : Led) (s : Shared) : Prop where
  fr : ∃ m, Fr c.h₀ c.L s.heap m ∧ LR c ρ m φ N
  nw : News c.h₀ c.L s.heap N
  mr : MR D.prog D.w φ N μ
  ca : ∀ x a, c.cl.lookup x = some a → a ∉ φ.map (·.2) ∧ ∃ o v, (a, o) ∈ N ∧ o.data = .cell v
  ow : ∀ a ∈ c.own, (∃ x, c.cl.lookup x = some a) ∨ ∃ cc, c.tab = some (cc, a)
  tb : ∀ cc P, c.tab = some (cc, P) → TabR c P φ N
  gs : s.gens = #[]
  os : s.os = c.os
section
variable {D : Wd} {c : Cx} {ρ : Loc} {μ μ' : Mem} {φ φ' : Idm} {N N' : Led} {s : Shared}
theorem Rep.tups (R : Rep D c ρ μ φ N s) (E : Ext [] φ N φ' N') : ∀ a us k, (a, tupOf us k) ∈ N → (a, tupOf us k) ∈ N' :=
  R.mr.vr (fun _ h => absurd h List.not_mem_nil) E
theorem Rep.vr (R : Rep D c ρ μ φ N s) (E : Ext [] φ N φ' N') {v u} (h : VR φ N v u) : VR φ' N' v u := h.mono E.ids (R.tups E)
theorem Rep.vrs (R : Rep D c ρ μ φ N s) (E : Ext [] φ N φ' N') {v u} (h : VRs φ N v u) : VRs φ' N' v u := h.mono E.ids (R.tups E)
theorem LR.ext {m : Str → Option Value} (R : Rep D c ρ μ φ N s) (E : Ext [] φ N φ' N') (h : LR c ρ m φ N) : LR c ρ m φ' N' := fun x v e => by
  rcases h x v e with ⟨h1, u, h2, h3⟩ | ⟨h1, a, o, u, h2, h3, h4, h5⟩
  · exact .inl ⟨h1, u, h2, R.vr E h3⟩
  · exact .inr ⟨h1, a, o, u, h2, E.old _ h3 (R.ca x a h2).1 (fun h => nomatch h), h4, R.vr E h5⟩
theorem Rep.next (R : Rep D c ρ μ φ N s) (E : Ext [] φ N φ' N') {m : Str → Option Value} {h' : Heap} {tk : Nat} (l : LR c ρ m φ N) (hF : Fr c.h₀ c.L h' m) (nw : News c.h₀ c.L h' N') (mr : MR D.prog D.w φ' N' μ') :
    Rep D c ρ μ' φ' N' { s with heap := h', toks := tk } where
  fr := ⟨m, hF, LR.ext R E l⟩
  nw := nw
  mr := mr
  ca := fun x a e => by
    obtain ⟨h1, o, v, h2, h3⟩ := R.ca x a e
    refine ⟨fun hm => ?_, o, v, E.old _ h2 h1 (fun h => nomatch h), h3⟩
    obtain ⟨q, hq, e2⟩ := List.mem_map.mp hm
    rcases E.new q hq with h | h
    · exact h1 (by rw [← e2]; exact List.mem_map_of_mem h)
    · exact h (by rw [e2]; exact List.mem_map_of_mem (f := (·.1)) h2)
  ow := R.ow
  tb := fun cc P e => (R.tb cc P e).ext (fun p hp h _ => E.old p hp h fun h => nomatch h) E.new
  gs := R.gs
  os := R.os
theorem Rep.toks (R : Rep D c ρ μ φ N s) {tk : Nat} : Rep D c ρ μ φ N { s with toks := tk } := ⟨R.fr, R.nw, R.mr, R.ca, R.ow, R.tb, R.gs, R.os⟩
theorem Rep.notKey (R : Rep D c ρ μ φ N s) {a : Addr} (h : ∀ p ∈ N, p.1 < a) : a ∉ N.map (·.1) := fun hm => by
  obtain ⟨p, hp, e⟩ := List.mem_map.mp hm
  exact Nat.lt_irrefl _ (e ▸ h p hp)
end
inductive PE (D : Wd) (c : Cx) (ρ : Loc) (φ : Idm) (N : Led) (b : V) (μ' : Mem) (v : Value) (s' : Shared) : Prop where
  | mk (φ' : Idm) (N' : Led) (E : Ext [] φ N φ' N') (R : Rep D c ρ μ' φ' N' s') (V : VR φ' N' b v)
inductive PEs (D : Wd) (c : Cx) (ρ : Loc) (φ : Idm) (N : Led) (b : List V) (μ' : Mem) (v : List Value) (s' : Shared) : Prop where
  | mk (φ' : Idm) (N' : Led) (E : Ext [] φ N φ' N') (R : Rep D c ρ μ' φ' N' s') (V : VRs φ' N' b v)
inductive PT (D : Wd) (c : Cx) (ρ : Loc) (φ : Idm) (N : Led) (b : Bool) (μ' : Mem) (v : Bool) (s' : Shared) : Prop where
  | mk (φ' : Idm) (N' : Led) (E : Ext [] φ N φ' N') (R : Rep D c ρ μ' φ' N' s') (V : v = b)
noncomputable abbrev no (_ : Value) (_ : Shared) : Prop := False
noncomputable abbrev EM := Loc → Mem → Option (V × Mem)
noncomputable abbrev TM := Loc → Mem → Option (Bool × Mem)
noncomputable abbrev LM := Loc → Mem → Option (List V × Mem)
noncomputable def DE (D : Wd) (k : Nat) (cs : Scope) (e : Expr) (m : EM) : Prop := ∀ c, c.cs = cs → Ok D k c → ∀ ρ μ φ N s b μ', Rep D c ρ μ φ N s → m ρ μ = some (b, μ') →
  wpAny (model D.prog D.w) c.A (eval e c.env) (PE D c ρ φ N b μ') no s
noncomputable def DT (D : Wd) (k : Nat) (cs : Scope) (e : Expr) (m : TM) : Prop := ∀ c, c.cs = cs → Ok D k c → ∀ ρ μ φ N s b μ', Rep D c ρ μ φ N s → m ρ μ = some (b, μ') →
  wpAny (model D.prog D.w) c.A (isTrue e c.env (eval e c.env)) (PT D c ρ φ N b μ') no s
noncomputable def DL (D : Wd) (k : Nat) (cs : Scope) (es : List Expr) (m : LM) : Prop := ∀ c, c.cs = cs → Ok D k c → ∀ pos ρ μ φ N s b μ', Rep D c ρ μ φ N s → m ρ μ = some (b, μ') →
  wpAny (model D.prog D.w) c.A (spliced (backTo pos (starEach es c.env))) (PEs D c ρ φ N b μ') no s
section
variable {D : Wd} {k : Nat} {cs : Scope}
noncomputable def eName (x : Str) : EM := fun ρ μ => (ρ x).map fun v => (v, μ)
theorem de_local {x : Str} {pos : Pos} (hx : cs.names.lookup x = some .local) (hd : (x == ("__debug__" : Str)) = false := by decide) : DE D k cs (.Name x pos) (eName x) := by
  rintro c rfl O ρ μ φ N s b μ' R e
  obtain ⟨v, hv, e⟩ := Option.map_eq_some_iff.mp e
  cases e
  obtain ⟨m, F, l⟩ := R.fr
  rcases l x b hv with ⟨_, u, h2, h3⟩ | ⟨h1 | h1, _⟩
  · exact nameX_L F h2 ⟨φ, N, .refl, R, h3⟩ O.fn hx hd
  · rw [hx] at h1; cases h1
  · rw [hx] at h1; cases h1
theorem de_cell {x : Str} {pos : Pos} (hx : cs.names.lookup x = some .cell) (hd : (x == ("__debug__" : Str)) = false := by decide) : DE D k cs (.Name x pos) (eName x) := by
  rintro c rfl O ρ μ φ N s b μ' R e
  obtain ⟨v, hv, e⟩ := Option.map_eq_some_iff.mp e
  cases e
  obtain ⟨m, F, l⟩ := R.fr
  rcases l x b hv with ⟨h1, _⟩ | ⟨_, a, o, u, h2, h3, h4, h5⟩
  · rw [hx] at h1; cases h1
  · exact nameX_C R.nw h2 h3 h4 ⟨φ, N, .refl, R, h5⟩ O.fn hx hd
theorem de_free {x : Str} {pos : Pos} (hx : cs.names.lookup x = some .free) (hd : (x == ("__debug__" : Str)) = false := by decide) (hn : (x == ("__classdict__" : Str)) = false := by decide) : DE D k cs (.Name x pos) (eName x) := by
  rintro c rfl O ρ μ φ N s b μ' R e
  obtain ⟨v, hv, e⟩ := Option.map_eq_some_iff.mp e
  cases e
  obtain ⟨m, F, l⟩ := R.fr
  rcases l x b hv with ⟨h1, _⟩ | ⟨_, a, o, u, h2, h3, h4, h5⟩
  · rw [hx] at h1; cases h1
  · exact nameX_F R.nw h2 h3 h4 ⟨φ, N, .refl, R, h5⟩ O.fn hx hd hn
noncomputable def eInt (i : Int) : EM := fun _ μ => some (.int i, μ)
noncomputable def eNone : EM := fun _ μ => some (.none, μ)
noncomputable def eBool (b : Bool) : EM := fun _ μ => some (.bool b, μ)
theorem vr_int {φ : Idm} {N : Led} {i : Int} {t : Tok} : VR φ N (.int i) (.int i t) := by simp only [VR]; exact ⟨t, rfl⟩
theorem vr_bool {φ : Idm} {N : Led} {i : Bool} : VR φ N (.bool i) (.bool i) := by simp only [VR]
theorem vr_none {φ : Idm} {N : Led} : VR φ N .none .none := by simp only [VR]
theorem de_globInt {x : Str} {pos : Pos} {i : Int} {t : Tok} (e : nsIn D.K mainGlobals x = some (some (.int i t))) (hx : cs.names.lookup x = some .globalImplicit) (hd : (x == ("__debug__" : Str)) = false := by decide) :
    DE D k cs (.Name x pos) (eInt i) := by
  rintro c rfl O ρ μ φ N s b μ' R e'
  cases e'
  obtain ⟨m, F, l⟩ := R.fr
  exact nameX_K F O.X (topRead_of O.T) e ⟨φ, N, .refl, R, vr_int⟩ O.fn hx hd
theorem de_int {i : Int} {j : Nat} {pos : Pos} : DE D k cs (.Constant (.int i) j pos) (eInt i) := by
  rintro c rfl O ρ μ φ N s b μ' R e
  cases e
  exact wpAny_Constant_int ⟨φ, N, .refl, R.toks, vr_int⟩
theorem de_none {j : Nat} {pos : Pos} : DE D k cs (.Constant .none j pos) eNone := by
  rintro c rfl O ρ μ φ N s b μ' R e
  cases e
  exact wpAny_Constant_none ⟨φ, N, .refl, R, vr_none⟩
theorem de_bool {v : Bool} {j : Nat} {pos : Pos} : DE D k cs (.Constant (.bool v) j pos) (eBool v) := by
  rintro c rfl O ρ μ φ N s b μ' R e
  cases e
  exact wpAny_Constant_bool ⟨φ, N, .refl, R, vr_bool⟩
noncomputable def bind2 {α β : Type} (o : Option (α × Mem)) (f : α → Mem → Option (β × Mem)) : Option (β × Mem) := match o with
  | some (a, μ) => f a μ
  | none => none
@[simp] theorem bind2_some {α β : Type} (a : α) (μ : Mem) (f : α → Mem → Option (β × Mem)) : bind2 (some (a, μ)) f = f a μ := rfl
theorem bind2_eq {α β : Type} {o : Option (α × Mem)} {f : α → Mem → Option (β × Mem)} {r : β × Mem} (h : bind2 o f = some r) : ∃ a μ, o = some (a, μ) ∧ f a μ = some r := by
  cases o with
  | none => cases h
  | some x => exact ⟨x.1, x.2, rfl, h⟩
theorem pe_trans {c : Cx} {ρ : Loc} {φ φ1 : Idm} {N N1 : Led} {b : V} {μ' : Mem} {v : Value} {s' : Shared} (E : Ext [] φ N φ1 N1) (h : PE D c ρ φ1 N1 b μ' v s') : PE D c ρ φ N b μ' v s' :=
  let ⟨φ2, N2, E2, r, r2⟩ := h; ⟨φ2, N2, E.trans E2, r, r2⟩
noncomputable def iBin (op : Operator) (a b : Int) : Option Int := match op with
  | .Add => some (a + b)
  | .Sub => some (a - b)
  | .Mult => if (a.natAbs < 2 ^ 31) ∧ b.natAbs < 2 ^ 31 then some (a * b) else none
  | .FloorDiv => if 0 < b ∧ b < 2 ^ 30 then some (a / b) else none
  | .Mod => if 0 < b then some (a % b) else none
  | _ => none
noncomputable def eBin (op : Operator) (l r : EM) : EM := fun ρ μ => bind2 (l ρ μ) fun x μ => bind2 (r ρ μ) fun y μ => match x, y with
  | .int a, .int b => (iBin op a b).map fun i => (.int i, μ)
  | _, _ => none
end
end Mine
end
section
set_option maxRecDepth 10000
open PySem PySem.W PySem.Calls PyProof.Rows
namespace Mine
section
variable {D : Wd} {k : Nat} {cs : Scope}
theorem wp_iBin {A : Around} {E : Value → Shared → Prop} {s : Shared} {op : Operator} {a b i : Int} {t u : Tok} {Q : Value → Shared → Prop} (e : iBin op a b = some i) (h : Q (.int i s.toks) { s with toks := s.toks + 1 }) :
    wpAny (model D.prog D.w) A (binaryOp op (.int a t) (.int b u)) Q E s := by
  cases op <;> simp only [iBin] at e <;> try cases e
  · exact PySem.P.add_int h
  · exact PySem.P.sub_int h
  · split at e
    · rename_i hb; cases e
      exact PySem.P.mul_int h (.of_left (intBits_le_64 (by exact om4 hb.1) (by exact om5 hb.1)))
    · cases e
  · split at e
    · rename_i hb; cases e
      exact mod_int' (by exact om6 hb) (by rw [Int.fmod_eq_emod_of_nonneg _ (by exact om7 hb)]; exact h)
    · cases e
  · split at e
    · rename_i hb; cases e
      exact floordiv_int (by exact om6 hb.1) (by rw [Int.fdiv_eq_ediv_of_nonneg _ (by exact om7 hb.1)]; exact h) (Or.inl (PyProof.noPylong_small (by exact om8 hb.1 hb.2)))
    · cases e
mutual
noncomputable def V.dat : V → Dat
  | .none => .none
  | .bool b => .bool b
  | .int i => .int i
  | .obj _ => .bytes #[]
  | .tup vs => .tuple (V.dats vs)
noncomputable def V.dats : List V → List Dat
  | [] => []
  | v :: vs => v.dat :: V.dats vs
end
noncomputable abbrev V.ok (v : V) : Bool := kqdOk 8 v.dat
mutual
theorem VR.datIn {φ : Idm} {N : Led} : ∀ {v : V} {u : Value} (n : Nat), VR φ N v u → kqdOk n v.dat = true → DatIn N u v.dat
  | .none, _, _, h, _ => by simp only [VR] at h; subst h; exact .none
  | .bool _, _, _, h, _ => by simp only [VR] at h; subst h; exact .bool _
  | .int _, _, _, h, _ => by simp only [VR] at h; obtain ⟨t, rfl⟩ := h; exact .int _ t
  | .obj _, _, n, _, hk => by cases n <;> simp [V.dat, kqdOk] at hk
  | .tup _, _, 0, _, hk => by simp [V.dat, kqdOk] at hk
  | .tup vs, _, n + 1, h, hk => by
    simp only [VR] at h
    obtain ⟨a, us, k, rfl, h1, h2⟩ := h
    simp only [V.dat]
    exact .tuple h1 (VRs.datAll n h2 (by simpa [V.dat, kqdOk] using hk))
theorem VRs.datAll {φ : Idm} {N : Led} : ∀ {vs : List V} {us : List Value} (n : Nat), VRs φ N vs us → (∀ d ∈ V.dats vs, kqdOk n d = true) → DatAll N us (V.dats vs)
  | [], _, _, h, _ => by simp only [VRs] at h; subst h; exact .nil
  | v :: vs, _, n, h, hk => by
    simp only [VRs] at h
    obtain ⟨u, us', rfl, h1, h2⟩ := h
    simp only [V.dats]
    exact .cons (VR.datIn n h1 (hk _ (by simp [V.dats]))) (VRs.datAll n h2 fun d hd => hk d (by simp [V.dats, hd]))
end
theorem reads_of {φ : Idm} {N : Led} {h₀ h : Heap} {L : Addr} (nw : News h₀ L h N) {v : V} {u : Value} (r : VR φ N v u) (hk : v.ok = true) : ∃ as, Reads h u (kqdP v.dat) as := kqd_in nw 8 (r.datIn 8 hk) hk
theorem shaped_of {d : Dat} {n : Nat} (hk : kqdOk n d = true) (hn : n ≤ 64) : SeqAt.shaped (kqdP d) = true := by
  have la := kqd_lay n d hk
  unfold SeqAt.shaped; rw [la.1, Bool.true_and]; exact decide_eq_true (Nat.le_trans la.2 hn)
noncomputable def intsOf : List V → Option (List Int)
  | [] => some []
  | .int i :: r => (intsOf r).map (i :: ·)
  | _ :: _ => none
theorem intsAre_of {φ : Idm} {N : Led} : ∀ {vs : List V} {us : List Value} {ns : List Int}, VRs φ N vs us → intsOf vs = some ns → IntsAre us ns
  | [], _, _, h, e => by simp only [VRs] at h; subst h; cases e; exact .nil
  | v :: vs, _, _, h, e => by
    simp only [VRs] at h
    obtain ⟨u, us', rfl, h1, h2⟩ := h
    cases v <;> simp only [intsOf] at e <;> try cases e
    refine byc fun hG => ?_
    obtain ⟨r, h3, rfl⟩ := Option.map_eq_some_iff.mp e
    simp only [VR] at h1
    obtain ⟨t, rfl⟩ := h1
    exact hG (.cons _ t (intsAre_of h2 h3))
theorem kf_ints_of : ∀ {us : List Value} {ns : List Int}, IntsAre us ns → kf_ints us = true
  | _, _, .nil => rfl
  | _, _, .cons _ _ r => by unfold kf_ints; exact kf_ints_of r
theorem valueAt_DRs {φ : Idm} {N : Led} : ∀ {es : List (Int × V)} {ks : List (Int × Value)}, DRs φ N es ks → ∀ {k : Int} {v : V}, (es.find? fun e => e.1 = k).map (·.2) = some v → ∃ u, valueAt ks k = some u ∧ VR φ N v u
  | [], _, _, _, _, e => by cases e
  | (j, x) :: es, _, ⟨u, ks', rfl, h1, h2⟩, k, v, e => by
    unfold valueAt
    by_cases hj : j = k
    · rw [List.find?_cons_of_pos (by simpa using hj)] at e ⊢
      cases e
      exact ⟨u, rfl, h1⟩
    · rw [List.find?_cons_of_neg (by simpa using hj)] at e ⊢
      exact valueAt_DRs h2 e
theorem DRs.keys {φ : Idm} {N : Led} : ∀ {es : List (Int × V)} {ks : List (Int × Value)}, DRs φ N es ks → ks.map (·.1) = es.map (·.1)
  | [], _, h => by cases h; rfl
  | _ :: _, _, ⟨u, ks', rfl, h1, h2⟩ => by simp [DRs.keys h2]
theorem DRs.length {φ : Idm} {N : Led} {es : List (Int × V)} {ks : List (Int × Value)} (h : DRs φ N es ks) : ks.length = es.length := by
  have := congrArg List.length h.keys
  simpa using this
noncomputable def cI (f : Int → Int → Bool) (x y : V) : Option Bool := match x with
  | .int a => (match y with | .int b => some (f a b) | _ => none)
  | _ => none
open Classical in
noncomputable def cOb (μ : Mem) (n k : Nat) : Option Bool := match μ.get n with
  | some (.list xs) => (match μ.get k with
    | some (.list ys) => if (xs.all V.ok && ys.all V.ok) = true then some (!decide (V.dats xs = V.dats ys)) else none
    | _ => none)
  | some (.dict es) => (match μ.get k with
    | some (.dict es') => if es = es' ∧ (es.map (·.1)).Nodup ∧ (∀ e ∈ es, e.2.ok = true) then some false else none
    | _ => none)
  | _ => none
open Classical in
noncomputable def cNe (μ : Mem) (x y : V) : Option Bool := match x with
  | .int a => (match y with | .int b => some (a != b) | _ => none)
  | .tup a => (match y with | .tup b => if a = b ∧ (V.tup a).ok then some false else none | _ => none)
  | .obj n => (match y with | .obj k => cOb μ n k | _ => none)
  | _ => none
noncomputable def isN (x : V) : Bool := match x with | .none => true | _ => false
noncomputable def cIs (x y : V) : Option Bool := match y with | .none => some (isN x) | _ => none
noncomputable def cIn (μ : Mem) (x y : V) : Option Bool := match x with
  | .int i => (match y with
    | .obj n => (match μ.get n with
      | some (.list xs) => (intsOf xs).map fun ns => ns.any (· == i)
      | _ => none)
    | _ => none)
  | _ => none
noncomputable def cmpV (μ : Mem) (op : CmpOp) (x y : V) : Option Bool := match op with
  | .Eq => cI (fun a b => a == b) x y
  | .NotEq => cNe μ x y
  | .Lt => cI (fun a b => decide (a < b)) x y
  | .LtE => cI (fun a b => decide (a ≤ b)) x y
  | .Gt => cI (fun a b => decide (a > b)) x y
  | .GtE => cI (fun a b => decide (a ≥ b)) x y
  | .Is => cIs x y
  | .In => cIn μ x y
  | _ => none
theorem cv_eq {μ : Mem} {a b : Int} : cmpV μ .Eq (.int a) (.int b) = some (a == b) := rfl
theorem cv_ne {μ : Mem} {a b : Int} : cmpV μ .NotEq (.int a) (.int b) = some (a != b) := rfl
theorem cv_lt {μ : Mem} {a b : Int} : cmpV μ .Lt (.int a) (.int b) = some (decide (a < b)) := rfl
theorem cv_le {μ : Mem} {a b : Int} : cmpV μ .LtE (.int a) (.int b) = some (decide (a ≤ b)) := rfl
theorem cv_gt {μ : Mem} {a b : Int} : cmpV μ .Gt (.int a) (.int b) = some (decide (a > b)) := rfl
theorem cv_ge {μ : Mem} {a b : Int} : cmpV μ .GtE (.int a) (.int b) = some (decide (a ≥ b)) := rfl
theorem cv_is {μ : Mem} {x : V} : cmpV μ .Is x .none = some (isN x) := rfl
theorem isN_none : isN .none = true := rfl
theorem isN_int {i : Int} : isN (.int i) = false := rfl
theorem isN_obj {i : Nat} : isN (.obj i) = false := rfl
theorem cv_tup {μ : Mem} {a : List V} (h : (V.tup a).ok = true) : cmpV μ .NotEq (.tup a) (.tup a) = some false := if_pos ⟨rfl, h⟩
open Classical in
theorem cv_list {μ : Mem} {n k : Nat} {xs ys : List V} (g1 : μ.get n = some (.list xs)) (g2 : μ.get k = some (.list ys)) (h : (xs.all V.ok && ys.all V.ok) = true) : cmpV μ .NotEq (.obj n) (.obj k) = some (!decide (V.dats xs = V.dats ys)) := by
  show cOb μ n k = _
  unfold cOb
  rw [g1, g2]
  dsimp only
  exact if_pos h
theorem cv_dict {μ : Mem} {n k : Nat} {es : List (Int × V)} (g1 : μ.get n = some (.dict es)) (g2 : μ.get k = some (.dict es)) (h : (es.map (·.1)).Nodup ∧ (∀ e ∈ es, e.2.ok = true)) : cmpV μ .NotEq (.obj n) (.obj k) = some false := by
  show cOb μ n k = _
  unfold cOb
  rw [g1, g2]
  dsimp only
  exact if_pos ⟨rfl, h⟩
theorem cv_in {μ : Mem} {i : Int} {n : Nat} {xs : List V} {ns : List Int} (g : μ.get n = some (.list xs)) (h : intsOf xs = some ns) : cmpV μ .In (.int i) (.obj n) = some (ns.any (· == i)) := by
  show cIn μ (.int i) (.obj n) = _
  unfold cIn
  dsimp only
  rw [g]
  dsimp only
  rw [h]; rfl
theorem cI_int {f : Int → Int → Bool} {x y : V} {b : Bool} (e : cI f x y = some b) : ∃ i j, x = .int i ∧ y = .int j ∧ f i j = b := by
  cases x <;> try cases e
  cases y <;> cases e
  exact ⟨_, _, rfl, rfl, rfl⟩
theorem dats_ok {xs : List V} (h : xs.all V.ok = true) : ∀ d ∈ V.dats xs, kqdOk 8 d = true := by
  induction xs with
  | nil => intro d hd; simp [V.dats] at hd
  | cons x r ih =>
    simp only [List.all_cons, Bool.and_eq_true] at h
    intro d hd
    simp only [V.dats, List.mem_cons] at hd
    rcases hd with rfl | hd
    · exact h.1
    · exact ih h.2 d hd
theorem hits_of {φ : Idm} {N : Led} {A : Around} {s : Shared} {h₀ : Heap} {L : Addr} (nw : News h₀ L s.heap N) (hu : A.units + 64 < cLine) (es : List (Int × V)) (kb : List (Int × Value)) (hb : DRs φ N es kb) (nd : (es.map (·.1)).Nodup) (hok : ∀ e ∈ es, e.2.ok = true) :
    ∀ (es' : List (Int × V)) (ka : List (Int × Value)), (∀ e ∈ es', e ∈ es) → DRs φ N es' ka → KeqHits A s kb ka true
  | [], ka, _, h => by cases h; exact .nil
  | (k, v) :: es', ka, hs, ⟨u, ks', e, h1, h2⟩ => by
    subst e
    have hm := hs _ (.head _)
    have hf : (es.find? fun e => e.1 = k).map (·.2) = some v := by
      clear hs hok hb
      induction es with
      | nil => cases hm
      | cons x r ih =>
        rw [List.map_cons, List.nodup_cons] at nd
        rcases List.mem_cons.mp hm with e | hm
        · rw [← e, List.find?_cons_of_pos (by simp)]; rfl
        · rw [List.find?_cons_of_neg (by simpa using fun e => nd.1 (by rw [e]; exact List.mem_map_of_mem (f := (·.1)) hm))]
          exact ih nd.2 hm
    refine byc fun hG => ?_
    obtain ⟨y, hy, ry⟩ := valueAt_DRs hb hf
    have ok := hok _ hm
    obtain ⟨as, ra⟩ := reads_of nw h1 ok
    obtain ⟨bs, rb⟩ := reads_of nw ry ok
    have q := SeqAt.eqAt_reads _ _ A s _ _ as bs ra rb (SeqAt.canLay_of_shaped (shaped_of ok (by decide))) (SeqAt.canLay_of_shaped (shaped_of ok (by decide))) (SeqAt.room_of_shaped (shaped_of ok (by decide)) hu)
    rw [(kqd_eqv 8 _ _ 8 ok ok).mpr rfl] at q
    exact hG (.hit (e := true) (b := true) hy q (hits_of nw hu es kb hb nd hok es' ks' (fun e he => hs e (.tail _ he)) h2))
theorem Rep.obj {c : Cx} {ρ : Loc} {μ : Mem} {φ : Idm} {N : Led} {s : Shared} (R : Rep D c ρ μ φ N s) {n : Nat} {u : Value} (h : VR φ N (.obj n) u) : ∃ a, u = .ref a ∧ ((n, false), a) ∈ φ := by
  simp only [VR] at h
  obtain ⟨a, h1, h2⟩ := h
  exact ⟨a, h2, h1⟩
theorem Rep.list {c : Cx} {ρ : Loc} {μ : Mem} {φ : Idm} {N : Led} {s : Shared} (R : Rep D c ρ μ φ N s) {n : Nat} {u : Value} {xs : List V} (h : VR φ N (.obj n) u) (e : μ.get n = some (.list xs)) :
    ∃ a us k, u = .ref a ∧ ((n, false), a) ∈ φ ∧ (a, listOf us.toArray k) ∈ N ∧ VRs φ N xs us := by
  refine byc fun hG => ?_
  obtain ⟨a, rfl, h1⟩ := R.obj h
  obtain ⟨a', us, k, h2, h3, h4⟩ := R.mr.ob _ _ e
  have : a' = a := congrArg (·.2) (nodup_fst R.mr.fk h2 h1 rfl)
  subst this
  exact hG (⟨a', us, k, rfl, h1, h3, h4⟩)
theorem Rep.dict {c : Cx} {ρ : Loc} {μ : Mem} {φ : Idm} {N : Led} {s : Shared} (R : Rep D c ρ μ φ N s) {n : Nat} {u : Value} {es : List (Int × V)} (h : VR φ N (.obj n) u) (e : μ.get n = some (.dict es)) :
    ∃ a o kvs, u = .ref a ∧ ((n, false), a) ∈ φ ∧ (a, o) ∈ N ∧ (a == sysModules) = false ∧ o.IsDictOf (intKind D.prog D.w) kvs ∧ DRs φ N es kvs := by
  refine byc fun hG => ?_
  obtain ⟨a, rfl, h1⟩ := R.obj h
  obtain ⟨a', o, kvs, h2, h3, h4, h5, h6⟩ := R.mr.ob _ _ e
  have : a' = a := congrArg (·.2) (nodup_fst R.mr.fk h2 h1 rfl)
  subst this
  exact hG (⟨a', o, kvs, rfl, h1, h3, h4, h5, h6⟩)
theorem Rep.inst {c : Cx} {ρ : Loc} {μ : Mem} {φ : Idm} {N : Led} {s : Shared} (R : Rep D c ρ μ φ N s) {n : Nat} {u : Value} {C : Addr} {fs : List (Str × V)} (h : VR φ N (.obj n) u) (e : μ.get n = some (.inst C fs)) :
    ∃ a d des k, u = .ref a ∧ ((n, false), a) ∈ φ ∧ ((n, true), d) ∈ φ ∧ (a, instObj C d) ∈ N ∧ (d, W.dictOf des k) ∈ N ∧ FRs D.w φ N fs des := by
  refine byc fun hG => ?_
  obtain ⟨a, rfl, h1⟩ := R.obj h
  obtain ⟨a', d, des, k, h2, h3, h4, h5, h6⟩ := R.mr.ob _ _ e
  have : a' = a := congrArg (·.2) (nodup_fst R.mr.fk h2 h1 rfl)
  subst this
  exact hG (⟨a', d, des, k, rfl, h1, h3, h4, h5, h6⟩)
theorem wp_cmp {c : Cx} (O : Ok D k c) {ρ : Loc} {μ : Mem} {φ : Idm} {N : Led} {s : Shared} {op : CmpOp} {x y : V} {u v : Value} {b : Bool} {Q : Value → Shared → Prop} (R : Rep D c ρ μ φ N s) (hx : VR φ N x u) (hy : VR φ N y v)
    (e : cmpV μ op x y = some b) (h : Q (.bool b) s) : wpAny (model D.prog D.w) c.A (compareOp op u v) Q no s := by
  have hu : c.A.units + 64 < cLine := by have := O.hu; show c.A₀.units + 3 + 64 < cLine; exact om9 this
  have hu1 : c.A.in1.units + 64 < cLine := by have := O.hu; show c.A₀.units + 3 + 1 + 64 < cLine; exact om10 this
  have hI : ∀ {f : Int → Int → Bool}, cI f x y = some b → ∃ i j t t', u = .int i t ∧ v = .int j t' ∧ f i j = b := fun {f} e => by
    obtain ⟨i, j, rfl, rfl, hb⟩ := cI_int e
    simp only [VR] at hx hy
    obtain ⟨t, rfl⟩ := hx
    obtain ⟨t', rfl⟩ := hy
    exact ⟨i, j, t, t', rfl, rfl, hb⟩
  cases op
  case Eq => obtain ⟨i, j, t, t', rfl, rfl, rfl⟩ := hI e; exact PySem.P.eq_int h
  case Lt => obtain ⟨i, j, t, t', rfl, rfl, rfl⟩ := hI e; exact PySem.P.lt_int h
  case LtE => obtain ⟨i, j, t, t', rfl, rfl, rfl⟩ := hI e; exact PySem.P.le_int h
  case Gt => obtain ⟨i, j, t, t', rfl, rfl, rfl⟩ := hI e; exact PySem.P.gt_int h
  case GtE => obtain ⟨i, j, t, t', rfl, rfl, rfl⟩ := hI e; exact PySem.P.ge_int h
  case Is =>
    cases y <;> first | cases e | skip
    simp only [VR] at hy; subst hy
    refine is_none ?_
    cases x <;> simp only [VR] at hx
    · subst hx; exact h
    · subst hx; exact h
    · obtain ⟨t, rfl⟩ := hx; exact h
    · obtain ⟨a, _, rfl⟩ := hx; exact h
    · obtain ⟨a, us, j, rfl, _⟩ := hx; exact h
  case NotEq =>
    refine byc fun hG => ?_
    change cNe μ x y = some b at e
    cases x with
    | none => cases e
    | bool _ => cases e
    | int i =>
      cases y with
      | int j =>
        cases e
        simp only [VR] at hx hy
        obtain ⟨t, rfl⟩ := hx
        obtain ⟨t', rfl⟩ := hy
        exact hG (PySem.P.ne_int h)
      | _ => cases e
    | tup l =>
      cases y with
      | tup l' =>
        unfold cNe at e
        dsimp only at e
        split at e
        · rename_i hc
          obtain ⟨rfl, ok⟩ := hc
          cases e
          obtain ⟨as, ra⟩ := reads_of R.nw hx ok
          obtain ⟨bs, rb⟩ := reads_of R.nw hy ok
          refine hG (ne_dataH ra rb (shaped_of ok (by decide)) (shaped_of ok (by decide)) hu ?_)
          rw [(kqd_eqv 8 _ _ 8 ok ok).mpr rfl]
          exact h
        · cases e
      | _ => cases e
    | obj n =>
      cases y with
      | obj k =>
        change cOb μ n k = some b at e
        unfold cOb at e
        rcases e1 : μ.get n with _ | (xs | es | _)
        · rw [e1] at e; cases e
        · rw [e1] at e
          rcases e2 : μ.get k with _ | (ys | es' | _)
          · rw [e2] at e; cases e
          · rw [e2] at e
            dsimp only at e
            split at e
            · rename_i ok
              cases e
              rw [Bool.and_eq_true] at ok
              obtain ⟨a, us, j, rfl, _, h1, h2⟩ := R.list hx e1
              obtain ⟨a', us', j', rfl, _, h1', h2'⟩ := R.list hy e2
              exact hG (kqd_ne R.nw h1 rfl rfl (h2.datAll 8 (dats_ok ok.1)) (fun _ h => h) h1' rfl rfl (h2'.datAll 8 (dats_ok ok.2)) (fun _ h => h) (dats_ok ok.1) (dats_ok ok.2) hu h)
            · cases e
          · rw [e2] at e; cases e
          · rw [e2] at e; cases e
        · rw [e1] at e
          rcases e2 : μ.get k with _ | (ys | es' | _)
          · rw [e2] at e; cases e
          · rw [e2] at e; cases e
          · rw [e2] at e
            dsimp only at e
            split at e
            · rename_i ok
              cases e
              obtain ⟨rfl, nd, ok⟩ := ok
              obtain ⟨a, o, kvs, rfl, _, h1, lo, h2, h3⟩ := R.dict hx e1
              obtain ⟨a', o', kvs', rfl, _, h1', lo', h2', h3'⟩ := R.dict hy e2
              refine hG (keq_ne (r := true) lo lo' (kda_dict R.nw h1 h2) (kda_dict R.nw h1' h2') (by exact om11 hu) (fun _ => hits_of R.nw hu1 _ _ h3' nd ok _ _ (fun _ h => h) h3) ?_)
              rw [h3.length, h3'.length]
              simpa using h
            · cases e
          · rw [e2] at e; cases e
        · rw [e1] at e; cases e
      | _ => cases e
  case In =>
    refine byc fun hG => ?_
    change cIn μ x y = some b at e
    cases x with
    | int i =>
      cases y with
      | obj n =>
        unfold cIn at e
        dsimp only at e
        rcases e1 : μ.get n with _ | (xs | _ | _)
        · rw [e1] at e; cases e
        · rw [e1] at e
          dsimp only at e
          cases e2 : intsOf xs with
          | none => rw [e2] at e; cases e
          | some ns =>
            rw [e2] at e
            cases e
            obtain ⟨a, us, j, rfl, _, h1, h2⟩ := R.list hy e1
            simp only [VR] at hx; obtain ⟨t, rfl⟩ := hx
            have ia := intsAre_of h2 e2
            exact hG (kf_in R.nw h1 (kf_ints_of ia) (any_isInt _ ia) h)
        · rw [e1] at e; cases e
        · rw [e1] at e; cases e
      | _ => cases e
    | _ => cases e
  all_goals cases e
noncomputable def tCmp (op : CmpOp) (l r : EM) : TM := fun ρ μ => bind2 (l ρ μ) fun x μ => bind2 (r ρ μ) fun y μ => (cmpV μ op x y).map fun b => (b, μ)
noncomputable def eCmp (op : CmpOp) (l r : EM) : EM := fun ρ μ => bind2 (l ρ μ) fun x μ => bind2 (r ρ μ) fun y μ => (cmpV μ op x y).map fun b => (.bool b, μ)
theorem de_cmp {l r : Expr} {op : CmpOp} {pos : Pos} {ml mr : EM} (hl : DE D k cs l ml) (hr : DE D k cs r mr) (hm : behindInMarks op r = false := by with_unfolding_all rfl) : DE D k cs (.Compare l [op] [r] pos) (eCmp op ml mr) := by
  rintro c hc O ρ μ φ N s b μ' R e
  refine byc fun hG => ?_
  obtain ⟨x, μ1, e1, e⟩ := bind2_eq e
  obtain ⟨y, μ2, e2, e⟩ := bind2_eq e
  obtain ⟨t, e3, e⟩ := Option.map_eq_some_iff.mp e
  cases e
  refine hG (wpAny_Compare1 (wpAny_mono (hl c hc O ρ μ φ N s x μ1 R e1) (fun u s1 h1 => ?_) fun _ _ x => x) hm)
  refine byc fun hG => ?_
  obtain ⟨φ1, N1, E1, R1, v1⟩ := h1
  refine hG (wpAny_mono (hr c hc O ρ μ1 φ1 N1 s1 y μ' R1 e2) (fun u2 s2 h2 => ?_) fun _ _ x => x)
  refine byc fun hG => ?_
  obtain ⟨φ2, N2, E2, R2, v2⟩ := h2
  exact hG (wp_cmp O R2 (R1.vr E2 v1) v2 e3 ⟨φ2, N2, E1.trans E2, R2, vr_bool⟩)
theorem dt_cmp {l r : Expr} {op : CmpOp} {pos : Pos} {ml mr : EM} (hl : DE D k cs l ml) (hr : DE D k cs r mr) (hm : behindInMarks op r = false := by with_unfolding_all rfl) : DT D k cs (.Compare l [op] [r] pos) (tCmp op ml mr) := by
  rintro c hc O ρ μ φ N s b μ' R e
  refine byc fun hG => ?_
  obtain ⟨x, μ1, e1, e⟩ := bind2_eq e
  obtain ⟨y, μ2, e2, e⟩ := bind2_eq e
  obtain ⟨t, e3, e⟩ := Option.map_eq_some_iff.mp e
  cases e
  refine hG (wpAny_isTrue_Compare1 (wpAny_mono (hl c hc O ρ μ φ N s x μ1 R e1) (fun u s1 h1 => ?_) fun _ _ x => x) hm)
  refine byc fun hG => ?_
  obtain ⟨φ1, N1, E1, R1, v1⟩ := h1
  refine hG (wpAny_mono (hr c hc O ρ μ1 φ1 N1 s1 y μ' R1 e2) (fun u2 s2 h2 => ?_) fun _ _ x => x)
  refine byc fun hG => ?_
  obtain ⟨φ2, N2, E2, R2, v2⟩ := h2
  exact hG (wp_cmp O R2 (R1.vr E2 v1) v2 e3 (wpAny_truthy_bool ⟨φ2, N2, E1.trans E2, R2, rfl⟩))
theorem de_bin {l r : Expr} {op : Operator} {pos : Pos} {ml mr : EM} (hl : DE D k cs l ml) (hr : DE D k cs r mr) : DE D k cs (.BinOp l op r pos) (eBin op ml mr) := by
  rintro c hc O ρ μ φ N s b μ' R e
  obtain ⟨x, μ1, e1, e⟩ := bind2_eq e
  obtain ⟨y, μ2, e2, e⟩ := bind2_eq e
  cases x <;> try cases e
  cases y <;> try cases e
  obtain ⟨i, e3, e⟩ := Option.map_eq_some_iff.mp e
  cases e
  refine wpAny_BinOp (wpAny_mono (hl c hc O ρ μ φ N s _ μ1 R e1) (fun u s1 h1 => ?_) fun _ _ x => x)
  refine byc fun hG => ?_
  obtain ⟨φ1, N1, E1, R1, v1⟩ := h1
  refine hG (wpAny_mono (hr c hc O ρ μ1 φ1 N1 s1 _ μ' R1 e2) (fun u2 s2 h2 => ?_) fun _ _ x => x)
  refine byc fun hG => ?_
  obtain ⟨φ2, N2, E2, R2, v2⟩ := h2
  simp only [VR] at v1 v2
  obtain ⟨t, rfl⟩ := v1
  obtain ⟨t', rfl⟩ := v2
  exact hG (wp_iBin e3 ⟨φ2, N2, E1.trans E2, R2.toks, vr_int⟩)
noncomputable def tNot (m : TM) : TM := fun ρ μ => bind2 (m ρ μ) fun b μ => some (!b, μ)
noncomputable def tAnd (m m' : TM) : TM := fun ρ μ => bind2 (m ρ μ) fun b μ => if b then m' ρ μ else some (false, μ)
noncomputable def tOr (m m' : TM) : TM := fun ρ μ => bind2 (m ρ μ) fun b μ => if b then some (true, μ) else m' ρ μ
noncomputable def tVal (m : EM) : TM := fun ρ μ => bind2 (m ρ μ) fun v μ => match v with
  | .bool b => some (b, μ)
  | _ => none
theorem dt_not {x : Expr} {pos : Pos} {m : TM} (h : DT D k cs x m) : DT D k cs (.UnaryOp .Not x pos) (tNot m) := by
  rintro c hc O ρ μ φ N s b μ' R e
  refine byc fun hG => ?_
  obtain ⟨t, μ1, e1, e⟩ := bind2_eq e
  cases e
  refine hG (wpAny_isTrue_Not (wpAny_mono (h c hc O ρ μ φ N s t _ R e1) (fun u s1 h1 => ?_) fun _ _ x => x))
  refine byc fun hG => ?_
  obtain ⟨φ1, N1, E1, R1, rfl⟩ := h1
  exact hG (⟨φ1, N1, E1, R1, rfl⟩)
theorem dt_and {x y : Expr} {pos : Pos} {m m' : TM} (h : DT D k cs x m) (h' : DT D k cs y m') : DT D k cs (.BoolOp .And [x, y] pos) (tAnd m m') := by
  rintro c hc O ρ μ φ N s b μ' R e
  refine byc fun hG => ?_
  obtain ⟨t, μ1, e1, e⟩ := bind2_eq e
  refine hG (wpAny_isTrue_BoolOp (wpAny_allTrue_And_cons (wpAny_mono (h c hc O ρ μ φ N s t _ R e1) (fun u s1 h1 => ?_) fun _ _ x => x)))
  obtain ⟨φ1, N1, E1, R1, rfl⟩ := h1
  cases u
  · cases e; exact ⟨φ1, N1, E1, R1, rfl⟩
  · refine wpAny_allTrue_And_cons (wpAny_mono (h' c hc O ρ μ1 φ1 N1 s1 b _ R1 e) (fun u s2 h2 => ?_) fun _ _ x => x)
    obtain ⟨φ2, N2, E2, R2, rfl⟩ := h2
    cases u
    · exact ⟨φ2, N2, E1.trans E2, R2, rfl⟩
    · exact wpAny_allTrue_And_nil ⟨φ2, N2, E1.trans E2, R2, rfl⟩
theorem dt_or {x y : Expr} {pos : Pos} {m m' : TM} (h : DT D k cs x m) (h' : DT D k cs y m') : DT D k cs (.BoolOp .Or [x, y] pos) (tOr m m') := by
  rintro c hc O ρ μ φ N s b μ' R e
  refine byc fun hG => ?_
  obtain ⟨t, μ1, e1, e⟩ := bind2_eq e
  refine hG (wpAny_isTrue_BoolOp (wpAny_allTrue_Or_cons (wpAny_mono (h c hc O ρ μ φ N s t _ R e1) (fun u s1 h1 => ?_) fun _ _ x => x)))
  obtain ⟨φ1, N1, E1, R1, rfl⟩ := h1
  cases u
  · refine wpAny_allTrue_Or_cons (wpAny_mono (h' c hc O ρ μ1 φ1 N1 s1 b _ R1 e) (fun u s2 h2 => ?_) fun _ _ x => x)
    obtain ⟨φ2, N2, E2, R2, rfl⟩ := h2
    cases u
    · exact wpAny_allTrue_Or_nil ⟨φ2, N2, E1.trans E2, R2, rfl⟩
    · exact ⟨φ2, N2, E1.trans E2, R2, rfl⟩
  · cases e; exact ⟨φ1, N1, E1, R1, rfl⟩
theorem dt_val {x : Expr} {m : EM} (h : DE D k cs x m) (he : ∀ env whole, isTrue x env whole = (do let v ← whole; standAt x.pos; holding [v] (truthy v)) := by intro _ _; rfl) : DT D k cs x (tVal m) := by
  rintro c hc O ρ μ φ N s b μ' R e
  obtain ⟨t, μ1, e1, e⟩ := bind2_eq e
  cases t <;> try cases e
  refine wpAny_isTrue_value (wpAny_mono (h c hc O ρ μ φ N s _ _ R e1) (fun u s1 h1 => ?_) fun _ _ x => x) (he _ _)
  refine byc fun hG => ?_
  obtain ⟨φ1, N1, E1, R1, v1⟩ := h1
  simp only [VR] at v1
  subst v1
  exact hG (wpAny_truthy_bool ⟨φ1, N1, E1, R1, rfl⟩)
noncomputable def eIf (t : TM) (m m' : EM) : EM := fun ρ μ => bind2 (t ρ μ) fun b μ => if b then m ρ μ else m' ρ μ
theorem de_if {t x y : Expr} {pos : Pos} {mt : TM} {m m' : EM} (ht : DT D k cs t mt) (h : DE D k cs x m) (h' : DE D k cs y m') : DE D k cs (.IfExp t x y pos) (eIf mt m m') := by
  rintro c hc O ρ μ φ N s b μ' R e
  refine byc fun hG => ?_
  obtain ⟨t, μ1, e1, e⟩ := bind2_eq e
  refine hG (wpAny_IfExp (wpAny_mono (ht c hc O ρ μ φ N s t _ R e1) (fun u s1 h1 => ?_) fun _ _ x => x))
  obtain ⟨φ1, N1, E1, R1, rfl⟩ := h1
  cases u
  · exact wpAny_mono (h' c hc O ρ μ1 φ1 N1 s1 b _ R1 e) (fun _ _ h => pe_trans E1 h) fun _ _ x => x
  · exact wpAny_mono (h c hc O ρ μ1 φ1 N1 s1 b _ R1 e) (fun _ _ h => pe_trans E1 h) fun _ _ x => x
end
end Mine
end
section
set_option maxRecDepth 10000
open PySem PySem.W PySem.Calls PyProof.Rows
namespace Mine
section
variable {D : Wd} {k : Nat} {cs : Scope}
structure AttrOk (D : Wd) (C : Addr) (x : Str) : Prop where
  get : plainGet D.K C x = true
  hd : hasDictIn D.K C = true
  at_ : ∃ attr, findIn D.K (.ref C) x = some attr ∧ noGet D.K attr = true
theorem vr_handed {φ : Idm} {N : Led} {v : V} {u : Value} (h : VR φ N v u) : handedIn u = true := by
  cases v <;> simp only [VR] at h
  · subst h; rfl
  · subst h; rfl
  · obtain ⟨t, rfl⟩ := h; rfl
  · obtain ⟨a, _, rfl⟩ := h; rfl
  · obtain ⟨a, us, j, rfl, _⟩ := h; rfl
noncomputable def eAttr (m : EM) (C : Addr) (x : Str) : EM := fun ρ μ => bind2 (m ρ μ) fun v μ => match v with
  | .obj n => match μ.get n with
    | some (.inst C' fs) => if C' = C then (fget fs x).map fun v => (v, μ) else none
    | _ => none
  | _ => none
theorem de_attr {e : Expr} {x : Str} {pos : Pos} {m : EM} {C : Addr} (h : DE D k cs e m) (a : AttrOk D C x) (he : ∀ env, eval (.Attribute e x pos) env = (do
      let o ← eval e env
      standAt pos.atName
      let r ← holding [o] (getAttr o x true)
      letTemporaryGo e o r
      pure r) := by intro _; with_unfolding_all rfl) : DE D k cs (.Attribute e x pos) (eAttr m C x) := by
  rintro c hc O ρ μ φ N s b μ' R e0
  obtain ⟨v, μ1, e1, e'⟩ := bind2_eq e0
  clear e0
  cases v <;> try cases e'
  rename_i n
  dsimp only at e'
  split at e'
  · rename_i C' fs eg
    split at e'
    · rename_i hC
      subst hC
      replace e' := Option.map_eq_some_iff.mp e'; obtain ⟨v, ev, e'⟩ := e'
      cases e'
      refine Attribute_any_ (wpAny_mono (h c hc O ρ μ φ N s _ _ R e1) (fun u s1 h1 => ?_) fun _ _ x => x) (he _)
      refine byc fun hG => ?_
      obtain ⟨φ1, N1, E1, R1, v1⟩ := h1
      obtain ⟨a', d, des, j, rfl, _, _, h3, h4, h5⟩ := R1.inst v1 eg
      obtain ⟨m1, F1, l1⟩ := R1.fr
      obtain ⟨attr, h6, h7⟩ := a.at_
      obtain ⟨u, h8, h9⟩ := h5.getL ev
      exact hG (get_own F1 O.X (InstAt.of_news R1.nw h3 h4) a.get a.hd h6 h7 h8 (vr_handed h9) ⟨φ1, N1, E1, R1.toks, h9⟩)
    · cases e'
  · cases e'
noncomputable def lNil : LM := fun _ μ => some ([], μ)
noncomputable def lCons (m : EM) (ms : LM) : LM := fun ρ μ => bind2 (m ρ μ) fun v μ => bind2 (ms ρ μ) fun vs μ => some (v :: vs, μ)
theorem dl_nil : DL D k cs [] lNil := by
  rintro c hc O pos ρ μ φ N s b μ' R e
  cases e
  exact wpAny_items_nil ⟨φ, N, .refl, R, .nil⟩
theorem dl_cons {e : Expr} {es : List Expr} {m : EM} {ms : LM} (h : DE D k cs e m) (hs : DL D k cs es ms) (he : ∀ env, starEach (e :: es) env = (false, eval e env) :: starEach es env := by intro _; rfl) : DL D k cs (e :: es) (lCons m ms) := by
  rintro c hc O pos ρ μ φ N s b μ' R e'
  refine byc fun hG => ?_
  obtain ⟨v, μ1, e1, e'⟩ := bind2_eq e'
  obtain ⟨vs, μ2, e2, e'⟩ := bind2_eq e'
  cases e'
  refine hG (wpAny_items_cons (wpAny_mono (h c hc O ρ μ φ N s _ _ R e1) (fun u s1 h1 => ?_) fun _ _ x => x) (he _))
  refine byc fun hG => ?_
  obtain ⟨φ1, N1, E1, R1, v1⟩ := h1
  refine hG (wpAny_mono (hs c hc O pos ρ μ1 φ1 N1 s1 _ _ R1 e2) (fun us s2 h2 => ?_) fun _ _ x => x)
  refine byc fun hG => ?_
  obtain ⟨φ2, N2, E2, R2, v2⟩ := h2
  exact hG (⟨φ2, N2, E1.trans E2, R2, .cons (R1.vr E2 v1) v2⟩)
theorem le_line {n : Nat} (h : n ≤ 4000) : n ≤ sizeLine := by rw [sizeLine_eq]; exact om12 h
theorem listOf_ne {its : Array Value} {n : Nat} : ∀ us j, listOf its n ≠ tupOf us j := fun us j e => by
  have := congrArg Obj.cls e
  simp at this
theorem dictOf_ne {its : List DictEntry} {n : Nat} : ∀ us j, W.dictOf its n ≠ tupOf us j := fun us j e => by
  have := congrArg Obj.cls e
  simp at this
theorem instObj_ne {C d : Addr} : ∀ us j, instObj C d ≠ tupOf us j := fun us j e => by
  have := congrArg Obj.cls e
  simp at this
theorem isDictOf_ne {prog : Program} {w : World} {o : Obj} {kvs : List (Int × Value)} (h : o.IsDictOf (intKind prog w) kvs) : ∀ us j, o ≠ tupOf us j := fun us j e => by
  obtain ⟨es, ep, h1, h2, _⟩ := h
  subst e
  cases h2
section
variable {c : Cx} {ρ : Loc} {μ μ' : Mem} {φ φ' : Idm} {N N' : Led} {s : Shared}
theorem Rep.newList (R : Rep D c ρ μ φ N s) {vs : List V} {us : List Value} (r : VRs φ N vs us) {q : Addr} {m : Str → Option Value} {h' : Heap} {tk : Nat} (l : LR c ρ m φ N) (hF : Fr c.h₀ c.L h' m) {j : Nat} (nw : News c.h₀ c.L h' ((q, listOf us.toArray j) :: N)) (hl : ∀ p ∈ N, p.1 < q) :
    PE D c ρ φ N (.obj μ.n) (μ.new (.list vs)) (.ref q) { s with heap := h', toks := tk } := by
  have hk := R.notKey hl
  have E : Ext [] φ N (((μ.n, false), q) :: φ) ((q, listOf us.toArray j) :: N) := new_ext hk
  refine ⟨_, _, E, R.next E l hF nw (R.mr.new hk listOf_ne ?_), ?_⟩
  · exact ⟨q, us, j, .head _, .head _, R.vrs E r⟩
  · simp only [VR]; exact ⟨q, .head _, rfl⟩
theorem Rep.newTup (R : Rep D c ρ μ φ N s) {vs : List V} {us : List Value} (r : VRs φ N vs us) {q : Addr} {m : Str → Option Value} {h' : Heap} {tk : Nat} (l : LR c ρ m φ N) (hF : Fr c.h₀ c.L h' m) (nw : News c.h₀ c.L h' ((q, tupOf us 0) :: N)) (hl : ∀ p ∈ N, p.1 < q) :
    PE D c ρ φ N (.tup vs) μ (.ref q) { s with heap := h', toks := tk } := by
  have hk := R.notKey hl
  have E : Ext [] φ N φ ((q, tupOf us 0) :: N) := more_ext
  refine ⟨_, _, E, R.next E l hF nw (R.mr.more hk), ?_⟩
  simp only [VR]; exact ⟨q, us, 0, rfl, .head _, R.vrs E r⟩
theorem Rep.newDict (R : Rep D c ρ μ φ N s) {es : List (Int × V)} {ks : List (Int × Value)} (r : DRs φ N es ks) {q : Addr} {o : Obj} {m : Str → Option Value} {h' : Heap} {tk : Nat} (l : LR c ρ m φ N) (hF : Fr c.h₀ c.L h' m) (nw : News c.h₀ c.L h' ((q, o) :: N)) (hl : ∀ p ∈ N, p.1 < q)
    (lo : (q == sysModules) = false) (hd : o.IsDictOf (intKind D.prog D.w) ks) : PE D c ρ φ N (.obj μ.n) (μ.new (.dict es)) (.ref q) { s with heap := h', toks := tk } := by
  have hk := R.notKey hl
  have E : Ext [] φ N (((μ.n, false), q) :: φ) ((q, o) :: N) := new_ext hk
  refine ⟨_, _, E, R.next E l hF nw (R.mr.new hk (isDictOf_ne hd) ?_), ?_⟩
  · exact ⟨q, o, ks, .head _, .head _, lo, hd, r.mono E.ids (R.tups E)⟩
  · simp only [VR]; exact ⟨q, .head _, rfl⟩
theorem Rep.setList (R : Rep D c ρ μ φ N s) {n : Nat} {a : Addr} {o : Obj} {vs : List V} {us : List Value} {j : Nat} (hx : ((n, false), a) ∈ φ) (hm : (a, o) ∈ N) (r : VRs φ N vs us) {m : Str → Option Value} {h' : Heap} {tk : Nat} (l : LR c ρ m φ N) (hF : Fr c.h₀ c.L h' m)
    (nw : News c.h₀ c.L h' (setA a (listOf us.toArray j) N)) : ∃ φ' N', Ext [] φ N φ' N' ∧ Rep D c ρ (μ.set n (.list vs)) φ' N' { s with heap := h', toks := tk } := by
  have E : Ext [] φ N φ (setA a (listOf us.toArray j) N) := setA_ext (List.mem_map_of_mem (f := (·.2)) hx)
  exact ⟨_, _, E, R.next E l hF nw (R.mr.set hx listOf_ne (R.mr.lt _ hx) ⟨a, us, j, hx, mem_setA_self hm, R.vrs E r⟩)⟩
theorem Rep.setDict (R : Rep D c ρ μ φ N s) {n : Nat} {a : Addr} {o o' : Obj} {es : List (Int × V)} {ks : List (Int × Value)} (hx : ((n, false), a) ∈ φ) (hm : (a, o) ∈ N) (r : DRs φ N es ks) {m : Str → Option Value} {h' : Heap} {tk : Nat} (l : LR c ρ m φ N) (hF : Fr c.h₀ c.L h' m)
    (lo : (a == sysModules) = false) (hd : o'.IsDictOf (intKind D.prog D.w) ks) (nw : News c.h₀ c.L h' (setA a o' N)) : ∃ φ' N', Ext [] φ N φ' N' ∧ Rep D c ρ (μ.set n (.dict es)) φ' N' { s with heap := h', toks := tk } := by
  have E : Ext [] φ N φ (setA a o' N) := setA_ext (List.mem_map_of_mem (f := (·.2)) hx)
  exact ⟨_, _, E, R.next E l hF nw (R.mr.set hx (isDictOf_ne hd) (R.mr.lt _ hx) ⟨a, o', ks, hx, mem_setA_self hm, lo, hd, r.mono E.ids (R.tups E)⟩)⟩
theorem Rep.setInst (R : Rep D c ρ μ φ N s) {n : Nat} {a d : Addr} {C : Addr} {o : Obj} {fs : List (Str × V)} {des : List DictEntry} {j : Nat} (hx : ((n, false), a) ∈ φ) (hx2 : ((n, true), d) ∈ φ) (ha : (a, instObj C d) ∈ N) (hm : (d, o) ∈ N) (r : FRs D.w φ N fs des) {m : Str → Option Value} {h' : Heap} {tk : Nat} (l : LR c ρ m φ N) (hF : Fr c.h₀ c.L h' m)
    (nw : News c.h₀ c.L h' (setA d (W.dictOf des j) N)) : ∃ φ' N', Ext [] φ N φ' N' ∧ Rep D c ρ (μ.set n (.inst C fs)) φ' N' { s with heap := h', toks := tk } := by
  have E : Ext [] φ N φ (setA d (W.dictOf des j) N) := setA_ext (List.mem_map_of_mem (f := (·.2)) hx2)
  have hne : a ≠ d := fun e => by have := nodup_snd R.mr.fa hx hx2 e; cases this
  exact ⟨_, _, E, R.next E l hF nw (R.mr.set hx2 dictOf_ne (R.mr.lt _ hx) ⟨a, d, des, j, hx, hx2, mem_setA ha hne, mem_setA_self hm, r.mono E.ids (R.tups E)⟩)⟩
end
noncomputable def eList (ms : LM) : EM := fun ρ μ => bind2 (ms ρ μ) fun vs μ => if vs.length ≤ 1000 then some (.obj μ.n, μ.new (.list vs)) else none
noncomputable def eTup (ms : LM) : EM := fun ρ μ => bind2 (ms ρ μ) fun vs μ => if vs.length ≤ 1000 then some (.tup vs, μ) else none
theorem de_list {es : List Expr} {pos : Pos} {ms : LM} (h : DL D k cs es ms) : DE D k cs (.List es pos) (eList ms) := by
  rintro c hc O ρ μ φ N s b μ' R e
  replace e := bind2_eq e; obtain ⟨vs, μ1, e1, e⟩ := e
  split at e
  · rename_i hl
    cases e
    refine List_ (wpAny_mono (h c hc O pos ρ μ φ N s _ _ R e1) (fun us s1 h1 => ?_) fun _ _ x => x)
    refine byc fun hG => ?_
    obtain ⟨φ1, N1, E1, R1, v1⟩ := h1
    obtain ⟨m1, F1, l1⟩ := R1.fr
    refine hG (newList_K F1 R1.nw (fun l h' F' N' lt => pe_trans E1 ?_) (le_line (by rw [v1.length]; exact om13 hl)))
    exact R1.newList v1 l1 F' N' lt
  · cases e
theorem de_tup {es : List Expr} {j : Nat} {pos : Pos} {ms : LM} (h : DL D k cs es ms) : DE D k cs (.Tuple es j pos) (eTup ms) := by
  rintro c hc O ρ μ φ N s b μ' R e
  replace e := bind2_eq e; obtain ⟨vs, μ1, e1, e⟩ := e
  split at e
  · rename_i hl
    cases e
    refine Tuple_ (wpAny_mono (h c hc O pos ρ μ φ N s _ _ R e1) (fun us s1 h1 => ?_) fun _ _ x => x)
    refine byc fun hG => ?_
    obtain ⟨φ1, N1, E1, R1, v1⟩ := h1
    obtain ⟨m1, F1, l1⟩ := R1.fr
    refine hG (newTuple_N F1 R1.nw (fun h' F' N' => pe_trans E1 ?_) (le_line (by rw [v1.length]; exact om13 hl)))
    exact R1.newTup v1 l1 F' N' (fun p hp => Heap.lt_size (R1.nw p hp).1)
  · cases e
noncomputable def eDict0 : EM := fun _ μ => some (.obj μ.n, μ.new (.dict []))
theorem de_dict0 {pos : Pos} : DE D k cs (.Dict [] [] pos) eDict0 := by
  rintro c hc O ρ μ φ N s b μ' R e
  cases e
  obtain ⟨m1, F1, l1⟩ := R.fr
  refine newDict_K F1 R.nw O.T.nolimit fun d h' o F' N' lt lo _ _ hd _ => ?_
  exact R.newDict (es := []) rfl l1 F' N' lt lo hd
noncomputable def eSub (m m' : EM) : EM := fun ρ μ => bind2 (m ρ μ) fun x μ => bind2 (m' ρ μ) fun y μ => match x, y with
  | .obj n, .int i => match μ.get n with
    | some (.list xs) => if 0 ≤ i ∧ i < 1000 then xs[i.toNat]?.map fun v => (v, μ) else none
    | some (.dict es) => ((es.find? fun e => e.1 = i).map (·.2)).map fun v => (v, μ)
    | _ => none
  | .tup xs, .int i => if 0 ≤ i ∧ i < 1000 ∧ xs.length ≤ 1000 then xs[i.toNat]?.map fun v => (v, μ) else none
  | _, _ => none
theorem de_sub {e e' : Expr} {pos : Pos} {m m' : EM} (h : DE D k cs e m) (h' : DE D k cs e' m') (hs : ∀ o i, subscripted e' false o i = operate [o, i] (getItem o i) := by intro _ _; rfl) : DE D k cs (.Subscript e e' pos) (eSub m m') := by
  rintro c hc O ρ μ φ N s b μ' R e
  replace e := bind2_eq e; obtain ⟨x, μ1, e1, e⟩ := e
  replace e := bind2_eq e; obtain ⟨y, μ2, e2, e⟩ := e
  refine Subscript_ (wpAny_mono (h c hc O ρ μ φ N s _ _ R e1) (fun u s1 h1 => ?_) fun _ _ x => x)
  refine byc fun hG => ?_
  obtain ⟨φ1, N1, E1, R1, v1⟩ := h1
  refine hG (wpAny_mono (h' c hc O ρ μ1 φ1 N1 s1 _ _ R1 e2) (fun u2 s2 h2 => ?_) fun _ _ x => x)
  obtain ⟨φ2, N2, E2, R2, v2⟩ := h2
  have w1 := R1.vr E2 v1
  split at e
  · rename_i n i
    simp only [VR] at v2
    obtain ⟨t, rfl⟩ := v2
    split at e
    · rename_i xs eg
      split at e
      · rename_i hi
        replace e := Option.map_eq_some_iff.mp e; obtain ⟨v, ev, e⟩ := e
        cases e
        refine byc fun hG => ?_
        obtain ⟨a, us, j, rfl, _, h3, h4⟩ := R2.list w1 eg
        obtain ⟨u, h5, h6⟩ := h4.get ev
        have hl := News.isList R2.nw h3
        exact hG (tail_any hl.typeIs PySem.F.slot_list_getitem.lookup (wpAny_getItem_list hl hi.1 (by exact om14 hi.2) (by simpa using h5) ⟨φ2, N2, E1.trans E2, R2, h6⟩) (hs _ _))
      · cases e
    · rename_i es eg
      replace e := Option.map_eq_some_iff.mp e; obtain ⟨v, ev, e⟩ := e
      cases e
      refine byc fun hG => ?_
      obtain ⟨a, o, kvs, rfl, _, h3, lo, h4, h5⟩ := R2.dict w1 eg
      obtain ⟨u, h6, h7⟩ := valueAt_DRs h5 ev
      have hD := kda_dict R2.nw h3 h4
      exact hG (tail_any hD.typeIs PySem.F.slot_dict_getitem.lookup (wpAny_getItem_of (intKind_is _ _ _ _) hD.mapOf h6 ⟨φ2, N2, E1.trans E2, R2.toks, h7⟩) (hs _ _))
    · cases e
  · rename_i xs i
    simp only [VR] at v2
    obtain ⟨t, rfl⟩ := v2
    split at e
    · rename_i hi
      replace e := Option.map_eq_some_iff.mp e; obtain ⟨v, ev, e⟩ := e
      cases e
      simp only [VR] at w1
      obtain ⟨a, us, j, rfl, h3, h4⟩ := w1
      obtain ⟨u, h5, h6⟩ := h4.get ev
      have hlen := h4.length
      have hlt : i.toNat < us.length := by
        rcases Nat.lt_or_ge i.toNat us.length with q | q
        · exact q
        · rw [List.getElem?_eq_none q] at h5; cases h5
      refine item_tupleT (News.isTup R2.nw h3) (by exact om15 hi.1) (by exact om14 hi.2.1) (j := i.toNat) ?_ h5 ⟨φ2, N2, E1.trans E2, R2, h6⟩ (hs _ _)
      unfold seqIndex?
      have hi0 : ¬ (i < 0) := by exact om16 hi.1
      have hi2 : i < us.length := by exact om17 hlt
      simp [hi0, hi.1, hi2]
    · cases e
  · cases e
end
end Mine
end
section
set_option maxRecDepth 10000
open PySem PySem.W PySem.Calls PyProof.Rows
namespace Mine
section
variable {D : Wd} {k : Nat} {cs : Scope}
noncomputable def eRev (m : EM) : EM := fun ρ μ => bind2 (m ρ μ) fun x μ => match x with
  | .obj n => match μ.get n with
    | some (.list xs) => if xs.length ≤ 1000 then some (.obj μ.n, μ.new (.list xs.reverse)) else none
    | _ => none
  | _ => none
theorem de_rev {e : Expr} {j : Nat} {p1 p2 p3 pos : Pos} {m : EM} (h : DE D k cs e m) : DE D k cs (.Subscript e (.Slice none none (some (.UnaryOp .USub (.Constant (.int 1) j p1) p2)) p3) pos) (eRev m) := by
  rintro c hc O ρ μ φ N s b μ' R e
  replace e := bind2_eq e; obtain ⟨x, μ1, e1, e⟩ := e
  refine Subscript_ (wpAny_mono (h c hc O ρ μ φ N s _ _ R e1) (fun u s1 h1 => ?_) fun _ _ x => x)
  obtain ⟨φ1, N1, E1, R1, v1⟩ := h1
  cases x <;> try cases e
  dsimp only at e
  split at e
  · rename_i xs eg
    split at e
    · rename_i hl
      cases e
      refine byc fun hG => ?_
      obtain ⟨a, us, i, rfl, _, h3, h4⟩ := R1.list v1 eg
      obtain ⟨m1, F1, l1⟩ := R1.fr
      have hi := News.isList R1.nw h3
      refine hG (wpAny_Slice ?_)
      rw [evalPart_none, evalPart_some]
      refine wpAny_pure (wpAny_pure (wpAny_UnaryOp (wpAny_Constant_int (PySem.P.neg_int ?_))))
      refine tail_any (Heap.IsList.typeIs (hi.push _)) PySem.F.slot_list_getitem.lookup (wpAny_getItem_list_slice (hi.push _) (Heap.IsSliceOf.new ..) .none .none (.int _ _) (by decide) ?_ (by rw [List.size_toArray, h4.length]; exact le_line (by exact om13 hl))) (ops := [_, _]) rfl
      rw [krv_pick]
      refine pe_trans E1 (R1.newList h4.reverse l1 ((F1.push _).push _) (News.push (F1.push _) (R1.nw.grown fun _ _ e => Heap.get?_push_of_some _ e) _) fun p hp => ?_)
      rw [Heap.size_push]
      exact Nat.lt_succ_of_lt (Heap.lt_size (R1.nw p hp).1)
    · cases e
  · cases e
structure OkA (D : Wd) (k : Nat) (c : Cx) (A : Around) : Prop where
  B : Below c.A₀ c.base c.outer c.h₀
  X : D.K.In c.h₀
  T : Top D.p D.loose D.mean D.mg D.mb c.h₀
  XB : D.K.In c.base
  TB : Top D.p D.loose D.mean D.mg D.mb c.base
  fn : c.cs.kind = .function
  fr : A.frames = some (c.env :: c.outer)
  hh : A.handled = none
  hd : A.depth + k < recursionLimit
  hu : A.units + 200 + 8 * k < cLine
  ci : ∀ x y a, c.cl.lookup x = some a → c.cl.lookup y = some a → x = y
theorem Ok.a {D : Wd} {k k' : Nat} {c : Cx} (O : Ok D k c) (h : k' + 1 ≤ k) : OkA D k' c c.A where
  B := O.B
  X := O.X
  T := O.T
  XB := O.XB
  TB := O.TB
  fn := O.fn
  fr := by
    show c.A₀.frames.map (c.env :: ·) = _
    rw [O.B.stack]; rfl
  hh := O.hh
  hd := by have := O.hd; show c.A₀.depth + 1 + k' < _; exact om18 this h
  hu := by have := O.hu; show c.A₀.units + 3 + 200 + 8 * k' < _; exact om19 h this
  ci := O.ci
noncomputable abbrev FM := List V → Mem → Option (V × Mem)
noncomputable def FnS (D : Wd) (k : Nat) (f : Value) (m : FM) : Prop := ∀ c A, OkA D k c A → ∀ ρ μ φ N s us vs b μ', Rep D c ρ μ φ N s → VRs φ N vs us → m vs μ = some (b, μ') →
  codeAny (model D.prog D.w) A (.call f ⟨us, []⟩) (fun r s' => ∃ v, r = .ok (.ret v) ∧ PE D c ρ φ N b μ' v s') s
theorem FnS.call {f : Value} {m : FM} {k' : Nat} (h : FnS D k' f m) (hk : k' + 1 ≤ k) {c : Cx} (O : Ok D k c) {ρ : Loc} {μ : Mem} {φ : Idm} {N : Led} {s : Shared} {us : List Value} {vs : List V} {b : V} {μ' : Mem} (R : Rep D c ρ μ φ N s) (v : VRs φ N vs us) (e : m vs μ = some (b, μ')) :
    wpAny (model D.prog D.w) c.A (call f us) (PE D c ρ φ N b μ') no s := by
  refine wpAny_call (codeAny_mono (h c c.A (O.a hk) ρ μ φ N s us vs b μ' R v e) fun r s' q => ?_)
  obtain ⟨v, rfl, q⟩ := q
  exact q
noncomputable def eCall (ms : LM) (m : FM) : EM := fun ρ μ => bind2 (ms ρ μ) fun vs μ => m vs μ
theorem de_call {x : Str} {p pos : Pos} {e : Expr} {es : List Expr} {v : Value} {ms : LM} {m : FM} {k' : Nat} (en : nsIn D.K mainGlobals x = some (some v)) (hk : keepIn D.K v = true) (f : FnS D k' v m) (hkk : k' + 1 ≤ k) (hx : cs.names.lookup x = some .globalImplicit)
    (ha : DL D k cs (e :: es) ms) (hd : (x == ("__debug__" : Str)) = false := by decide)
    (he : ∀ env, starEach (e :: es) env = (false, eval e env) :: starEach es env := by intro _; rfl) (hplain : ∀ env, (backTo pos (starEach es env)).any (·.1) = false := by intro _; rfl) : DE D k cs (.Call (.Name x p) (e :: es) [] pos) (eCall ms m) := by
  rintro c rfl O ρ μ φ N s b μ' R e'
  replace e' := bind2_eq e'; obtain ⟨vs, μ1, e1, e'⟩ := e'
  obtain ⟨m0, F, l⟩ := R.fr
  refine Call_ (nameX_K F O.X (topRead_of O.T) en (callWith_K O.X hk (wpAny_mono (ha c rfl O pos ρ μ φ N s _ _ R e1) (fun us s1 h1 => ?_) fun _ _ x => x) (he _) (hplain _)) O.fn hx hd)
  refine byc fun hG => ?_
  obtain ⟨φ1, N1, E1, R1, v1⟩ := h1
  refine hG (⟨let ⟨_, F1, _⟩ := R1.fr; O.X.keeps F1.keep, ?_⟩)
  exact wpAny_mono (f.call hkk O R1 v1 e') (fun _ _ h => pe_trans E1 h) fun _ _ x => x
structure MethOk (D : Wd) (C : Addr) (x : Str) (f : Addr) : Prop where
  get : plainGet D.K C x = true
  at_ : findIn D.K (.ref C) x = some (some (.ref f))
  fn : isFn D.K (.ref f) = true
  keep : keepIn D.K (.ref f) = true
noncomputable def eMeth (mo : EM) (C : Addr) (x : Str) (ms : LM) (m : FM) : EM := fun ρ μ => bind2 (mo ρ μ) fun v μ => match v with
  | .obj n => match μ.get n with
    | some (.inst C' fs) => if C' = C ∧ fget fs x = none then bind2 (ms ρ μ) fun vs μ => m (.obj n :: vs) μ else none
    | _ => none
  | _ => none
noncomputable def MethE (o : Expr) (x : Str) (ap : Pos) (args : List Expr) (pos : Pos) : Prop := ∀ env, ∃ pl : Sem Bool, eval (.Call (.Attribute o x ap) args [] pos) env = (do
      let ov ← eval o env
      standAt ap.atName
      let (f, first) ← holding [ov] (getMethod ov x pl)
      callWith pos f first (backTo pos (starEach args env)) [])
theorem de_meth {o : Expr} {x : Str} {ap pos : Pos} {e : Expr} {es : List Expr} {C f : Addr} {mo : EM} {ms : LM} {m : FM} {k' : Nat} (h : DE D k cs o mo) (a : MethOk D C x f) (fs : FnS D k' (.ref f) m) (hkk : k' + 1 ≤ k) (ha : DL D k cs (e :: es) ms)
    (hm : MethE o x ap (e :: es) pos := by exact fun _ => ⟨_, rfl⟩)
    (he : ∀ env, starEach (e :: es) env = (false, eval e env) :: starEach es env := by intro _; rfl) (hplain : ∀ env, (backTo pos (starEach es env)).any (·.1) = false := by intro _; rfl) : DE D k cs (.Call (.Attribute o x ap) (e :: es) [] pos) (eMeth mo C x ms m) := by
  rintro c hc O ρ μ φ N s b μ' R e'
  replace e' := bind2_eq e'; obtain ⟨v, μ1, e1, e'⟩ := e'
  obtain ⟨pl, hm⟩ := hm c.env
  refine MethodCall_ (wpAny_mono (h c hc O ρ μ φ N s _ _ R e1) (fun u s1 h1 => ?_) fun _ _ x => x) hm
  obtain ⟨φ1, N1, E1, R1, v1⟩ := h1
  cases v <;> try cases e'
  dsimp only at e'
  split at e'
  · rename_i C' fs' eg
    split at e'
    · rename_i hC
      refine byc fun hG => ?_
      obtain ⟨rfl, hf⟩ := hC
      replace e' := bind2_eq e'; obtain ⟨vs, μ2, e2, e'⟩ := e'
      obtain ⟨a', d, des, j, rfl, _, _, h3, h4, h5⟩ := R1.inst v1 eg
      obtain ⟨m0, F, l⟩ := R1.fr
      refine hG (method_inst F O.X (InstAt.of_news R1.nw h3 h4) a.get a.at_ a.fn (h5.getL_none hf) ?_)
      refine callWith_K O.X a.keep (wpAny_mono (ha c hc O pos ρ μ1 φ1 N1 s1 _ _ R1 e2) (fun us s2 h2 => ?_) fun _ _ x => x) (he _) (hplain _)
      refine byc fun hG => ?_
      obtain ⟨φ2, N2, E2, R2, v2⟩ := h2
      refine hG (⟨let ⟨_, F1, _⟩ := R2.fr; O.X.keeps F1.keep, ?_⟩)
      exact wpAny_mono (fs.call hkk O R2 (.cons (R1.vr E2 v1) v2) e') (fun _ _ h => pe_trans (E1.trans E2) h) fun _ _ x => x
    · cases e'
  · cases e'
theorem de_meth0 {o : Expr} {x : Str} {ap pos : Pos} {C f : Addr} {mo : EM} {m : FM} {k' : Nat} (h : DE D k cs o mo) (a : MethOk D C x f) (fs : FnS D k' (.ref f) m) (hkk : k' + 1 ≤ k)
    (hm : MethE o x ap [] pos := by exact fun _ => ⟨_, rfl⟩) : DE D k cs (.Call (.Attribute o x ap) [] [] pos) (eMeth mo C x lNil m) := by
  rintro c hc O ρ μ φ N s b μ' R e'
  replace e' := bind2_eq e'; obtain ⟨v, μ1, e1, e'⟩ := e'
  obtain ⟨pl, hm⟩ := hm c.env
  refine MethodCall_ (wpAny_mono (h c hc O ρ μ φ N s _ _ R e1) (fun u s1 h1 => ?_) fun _ _ x => x) hm
  obtain ⟨φ1, N1, E1, R1, v1⟩ := h1
  cases v <;> try cases e'
  dsimp only at e'
  split at e'
  · rename_i C' fs' eg
    split at e'
    · rename_i hC
      refine byc fun hG => ?_
      obtain ⟨rfl, hf⟩ := hC
      replace e' := bind2_eq e'; obtain ⟨vs, μ2, e2, e'⟩ := e'
      cases e2
      obtain ⟨a', d, des, j, rfl, _, _, h3, h4, h5⟩ := R1.inst v1 eg
      obtain ⟨m0, F, l⟩ := R1.fr
      refine hG (method_inst F O.X (InstAt.of_news R1.nw h3 h4) a.get a.at_ a.fn (h5.getL_none hf) ?_)
      refine callWith_K0 (O.X.keeps F.keep) a.keep ?_
      exact wpAny_mono (fs.call hkk O R1 (.one v1) e') (fun _ _ h => pe_trans E1 h) fun _ _ x => x
    · cases e'
  · cases e'
end
end Mine
end
section
set_option maxRecDepth 10000
open PySem PySem.W PySem.Calls PyProof.Rows
namespace Mine
section
variable {D : Wd} {k : Nat} {cs : Scope}
noncomputable def isList (μ : Mem) (n : Nat) : Bool := match μ.get n with
  | some (.list _) => true
  | _ => false
noncomputable def isDict (μ : Mem) (n : Nat) : Bool := match μ.get n with
  | some (.dict _) => true
  | _ => false
structure BM (D : Wd) (k : Nat) (x : Str) (id : String) (κ : Mem → Nat → Bool) (m : Nat → FM) : Prop where
  get : ∀ (c : Cx) (O : Ok D k c) ρ μ φ N s n u (pl : Sem Bool) (Q : Value × List Value → Shared → Prop), Rep D c ρ μ φ N s → VR φ N (.obj n) u → κ μ n = true → Q (.builtin id, [u]) s → wpAny (model D.prog D.w) c.A (getMethod u x pl) Q no s
  call : ∀ (c : Cx) (O : Ok D k c) ρ μ φ N s n u vs us b μ', Rep D c ρ μ φ N s → VR φ N (.obj n) u → VRs φ N vs us → m n vs μ = some (b, μ') → wpAny (model D.prog D.w) c.A (call (.builtin id) (u :: us)) (PE D c ρ φ N b μ') no s
noncomputable def eBM (mo : EM) (κ : Mem → Nat → Bool) (ms : LM) (m : Nat → FM) : EM := fun ρ μ => bind2 (mo ρ μ) fun v μ => match v with
  | .obj n => if κ μ n = true then bind2 (ms ρ μ) fun vs μ => m n vs μ else none
  | _ => none
theorem de_bm {o : Expr} {x : Str} {id : String} {κ : Mem → Nat → Bool} {ap pos : Pos} {e : Expr} {es : List Expr} {mo : EM} {ms : LM} {m : Nat → FM} (h : DE D k cs o mo) (B : BM D k x id κ m) (ha : DL D k cs (e :: es) ms)
    (hm : MethE o x ap (e :: es) pos := by exact fun _ => ⟨_, rfl⟩)
    (he : ∀ env, starEach (e :: es) env = (false, eval e env) :: starEach es env := by intro _; rfl) (hplain : ∀ env, (backTo pos (starEach es env)).any (·.1) = false := by intro _; rfl) : DE D k cs (.Call (.Attribute o x ap) (e :: es) [] pos) (eBM mo κ ms m) := by
  rintro c hc O ρ μ φ N s b μ' R e'
  replace e' := bind2_eq e'; obtain ⟨v, μ1, e1, e'⟩ := e'
  obtain ⟨pl, hm⟩ := hm c.env
  refine MethodCall_ (wpAny_mono (h c hc O ρ μ φ N s _ _ R e1) (fun u s1 h1 => ?_) fun _ _ x => x) hm
  obtain ⟨φ1, N1, E1, R1, v1⟩ := h1
  cases v <;> try cases e'
  dsimp only at e'
  split at e'
  · rename_i hκ
    replace e' := bind2_eq e'; obtain ⟨vs, μ2, e2, e'⟩ := e'
    refine B.get c O ρ μ1 φ1 N1 s1 _ _ _ _ R1 v1 hκ ?_
    refine callWith_method1 (wpAny_mono (ha c hc O pos ρ μ1 φ1 N1 s1 _ _ R1 e2) (fun us s2 h2 => ?_) fun _ _ x => x) (he _) (hplain _)
    refine byc fun hG => ?_
    obtain ⟨φ2, N2, E2, R2, v2⟩ := h2
    exact hG (wpAny_mono (B.call c O ρ μ2 φ2 N2 s2 _ _ _ _ _ _ R2 (R1.vr E2 v1) v2 e') (fun _ _ h => pe_trans (E1.trans E2) h) fun _ _ x => x)
  · cases e'
theorem de_bm0 {o : Expr} {x : Str} {id : String} {κ : Mem → Nat → Bool} {ap pos : Pos} {mo : EM} {m : Nat → FM} (h : DE D k cs o mo) (B : BM D k x id κ m)
    (hm : MethE o x ap [] pos := by exact fun _ => ⟨_, rfl⟩) : DE D k cs (.Call (.Attribute o x ap) [] [] pos) (eBM mo κ lNil m) := by
  rintro c hc O ρ μ φ N s b μ' R e'
  replace e' := bind2_eq e'; obtain ⟨v, μ1, e1, e'⟩ := e'
  obtain ⟨pl, hm⟩ := hm c.env
  refine MethodCall_ (wpAny_mono (h c hc O ρ μ φ N s _ _ R e1) (fun u s1 h1 => ?_) fun _ _ x => x) hm
  obtain ⟨φ1, N1, E1, R1, v1⟩ := h1
  cases v <;> try cases e'
  dsimp only at e'
  split at e'
  · rename_i hκ
    replace e' := bind2_eq e'; obtain ⟨vs, μ2, e2, e'⟩ := e'
    cases e2
    refine B.get c O ρ μ1 φ1 N1 s1 _ _ _ _ R1 v1 hκ ?_
    refine callWith_method0 ?_
    exact wpAny_mono (B.call c O ρ μ1 φ1 N1 s1 _ _ _ _ _ _ R1 v1 .nil e') (fun _ _ h => pe_trans E1 h) fun _ _ x => x
  · cases e'
theorem list_get {x : Str} {id : String} (slot : Slot "list" x id) (hty : typeOf (.builtin id) = pure (.type "method_descriptor")) (c : Cx) (O : Ok D k c) ρ μ φ N s n u (pl : Sem Bool) (Q : Value × List Value → Shared → Prop) (R : Rep D c ρ μ φ N s) (v : VR φ N (.obj n) u) (e : isList μ n = true) (h : Q (.builtin id, [u]) s) :
    wpAny (model D.prog D.w) c.A (getMethod u x pl) Q no s := by
  unfold isList at e
  split at e
  · rename_i xs eg
    refine byc fun hG => ?_
    obtain ⟨a, us, j, rfl, _, h3, h4⟩ := R.list v eg
    exact hG (kl_method R.nw h3 slot hty h)
  · cases e
theorem dict_get {x : Str} {id : String} (slot : Slot "dict" x id) (hty : typeOf (.builtin id) = pure (.type "method_descriptor")) (c : Cx) (O : Ok D k c) ρ μ φ N s n u (pl : Sem Bool) (Q : Value × List Value → Shared → Prop) (R : Rep D c ρ μ φ N s) (v : VR φ N (.obj n) u) (e : isDict μ n = true) (h : Q (.builtin id, [u]) s) :
    wpAny (model D.prog D.w) c.A (getMethod u x pl) Q no s := by
  unfold isDict at e
  split at e
  · rename_i xs eg
    refine byc fun hG => ?_
    obtain ⟨a, o, kvs, rfl, _, h3, lo, h4, h5⟩ := R.dict v eg
    exact hG (kob_method slot hty R.nw h3 h4 h)
  · cases e
theorem pe_none {c : Cx} {ρ : Loc} {μ : Mem} {φ : Idm} {N : Led} {s : Shared} (h : ∃ φ' N', Ext [] φ N φ' N' ∧ Rep D c ρ μ φ' N' s) : PE D c ρ φ N .none μ .none s :=
  let ⟨φ', N', E, R⟩ := h; ⟨φ', N', E, R, vr_none⟩
theorem VRs.one_inv {φ : Idm} {N : Led} {v : V} {us : List Value} (h : VRs φ N [v] us) : ∃ u, us = [u] ∧ VR φ N v u := by
  simp only [VRs] at h
  refine byc fun hG => ?_
  obtain ⟨u, us', rfl, h1, rfl⟩ := h
  exact hG (⟨u, rfl, h1⟩)
theorem VRs.two_inv {φ : Idm} {N : Led} {v v' : V} {us : List Value} (h : VRs φ N [v, v'] us) : ∃ u u', us = [u, u'] ∧ VR φ N v u ∧ VR φ N v' u' := by
  simp only [VRs] at h
  refine byc fun hG => ?_
  obtain ⟨u, us', rfl, h1, u', us'', rfl, h2, rfl⟩ := h
  exact hG (⟨u, u', rfl, h1, h2⟩)
noncomputable def mAppend (n : Nat) : FM := fun vs μ => match vs with
  | [v] => match μ.get n with
    | some (.list xs) => if xs.length ≤ 1000 then some (.none, μ.set n (.list (xs ++ [v]))) else none
    | _ => none
  | _ => none
theorem bm_append : BM D k "append" "list.append" isList mAppend where
  get := list_get PySem.F.slot_list_append PySem.F.type_list_append
  call := by
    intro c O ρ μ φ N s n u vs us b μ' R v vs' e
    unfold mAppend at e
    split at e
    · rename_i x
      split at e
      · rename_i xs eg
        split at e
        · rename_i hl
          cases e
          refine byc fun hG => ?_
          obtain ⟨y, rfl, h1⟩ := vs'.one_inv
          obtain ⟨a, us, j, rfl, hx, h3, h4⟩ := R.list v eg
          obtain ⟨m, F, l⟩ := R.fr
          refine hG (append_K F R.nw (upd_setA h3 R.mr.nd) (fun h' F' N' => pe_none ?_) (by rw [List.size_toArray, h4.length]; exact le_line (by exact om13 hl)))
          rw [List.push_toArray] at N'
          exact R.setList hx h3 (h4.append (.one h1)) l F' N'
        · cases e
      · cases e
    · cases e
noncomputable def mPop (n : Nat) : FM := fun vs μ => match vs with
  | [] => match μ.get n with
    | some (.list xs) => if xs.length ≤ 1000 then match xs.getLast? with
      | some v => some (v, μ.set n (.list xs.dropLast))
      | none => none
      else none
    | _ => none
  | _ => none
theorem bm_pop : BM D k "pop" "list.pop" isList mPop where
  get := list_get PySem.F.slot_list_pop PySem.F.type_list_pop
  call := by
    intro c O ρ μ φ N s n u vs us b μ' R v vs' e
    unfold mPop at e
    split at e
    · split at e
      · rename_i xs eg
        split at e
        · rename_i hl
          split at e
          · rename_i y hy
            cases e
            simp only [VRs] at vs'
            subst vs'
            refine byc fun hG => ?_
            obtain ⟨a, us, j, rfl, hx, h3, h4⟩ := R.list v eg
            obtain ⟨m, F, l⟩ := R.fr
            have hxs : xs = xs.dropLast ++ [b] := by
              obtain ⟨z, rfl⟩ := List.getLast?_eq_some_iff.mp hy
              simp
            have hlen := h4.length
            rw [hxs] at h4
            obtain ⟨u1, u2, rfl, h5, h6⟩ := h4.split
            obtain ⟨y, rfl, h7⟩ := h6.one_inv
            refine hG (kl_pop F R.nw (kpa_last y u1) (upd_setA h3 R.mr.nd) (by rw [hlen]; exact le_line (by exact om13 hl)) fun h' F' N' => ?_)
            refine byc fun hG => ?_
            obtain ⟨φ', N'', E, R'⟩ := R.setList (tk := s.toks) hx h3 h5 l F' N'
            exact hG (⟨φ', N'', E, R', R.vr E h7⟩)
          · cases e
        · cases e
      · cases e
    · cases e
noncomputable def mExtend (n : Nat) : FM := fun vs μ => match vs with
  | [.obj j] => match μ.get n, μ.get j with
    | some (.list xs), some (.list ys) => if xs.length + ys.length ≤ 1000 then some (.none, μ.set n (.list (xs ++ ys))) else none
    | _, _ => none
  | _ => none
theorem bm_extend : BM D k "extend" "list.extend" isList mExtend where
  get := list_get PySem.F.slot_list_extend PySem.F.type_list_extend
  call := by
    intro c O ρ μ φ N s n u vs us b μ' R v vs' e
    unfold mExtend at e
    split at e
    · rename_i j
      split at e
      · rename_i xs ys eg eg'
        split at e
        · rename_i hl
          cases e
          obtain ⟨y, rfl, h1⟩ := vs'.one_inv
          obtain ⟨a, us, j, rfl, hx, h3, h4⟩ := R.list v eg
          obtain ⟨a', us', j', rfl, hx', h3', h4'⟩ := R.list h1 eg'
          obtain ⟨m, F, l⟩ := R.fr
          have l1 := h4.length
          have l2 := h4'.length
          have hd : ¬(!us.toArray.isEmpty && Builtin.List.listTooLong (us.toArray.size + us'.toArray.size)) = true := by
            have : Builtin.List.listTooLong (us.toArray.size + us'.toArray.size) = false := by
              unfold Builtin.List.listTooLong
              rw [List.size_toArray, List.size_toArray, sizeLine_eq]
              exact decide_eq_false (by exact om20 hl l1 l2)
            rw [this]; simp
          have z1 : us.toArray.toList.length ≤ sizeLine := by show us.length ≤ _; exact le_line (by exact om21 hl l1)
          have z2 : us.toArray.size + us'.toArray.size ≤ sizeLine + 1 := by rw [List.size_toArray, List.size_toArray, sizeLine_eq]; exact om22 hl l1 l2
          by_cases hn : us' = []
          · subst hn
            have : ys = [] := List.eq_nil_of_length_eq_zero l2.symm
            subst this
            refine kxn_extend F R.nw h3' rfl (upd_setA h3 R.mr.nd) hd z1 z2 fun h' F' N' => pe_none ?_
            rw [List.append_nil]
            exact R.setList hx h3 h4 l F' N'
          · refine kl_extend F R.nw h3' rfl (fun e => hn (List.eq_nil_of_length_eq_zero e)) (upd_setA h3 R.mr.nd) hd z1 z2 fun h' F' N' => pe_none ?_
            exact R.setList hx h3 (h4.append h4') l F' N'
        · cases e
      · cases e
    · cases e
theorem kf_at_ints {i : Int} : ∀ {us : List Value} {ns : List Int}, IntsAre us ns → kf_at i us = ns.findIdx? (· == i)
  | _, _, .nil => rfl
  | _, _, .cons n t r => by
    unfold kf_at
    rw [List.findIdx?_cons, kf_at_ints r]
    show cond (n == i) _ _ = _
    cases h : n == i
    · rw [cond_false, if_neg (by simp)]
      cases List.findIdx? _ _ <;> rfl
    · rw [cond_true, if_pos rfl]
theorem ki_delL_erase : ∀ {us : List Value} {j : Nat}, j < us.length → ki_delL us j = some (us.eraseIdx j)
  | [], _, h => absurd h (Nat.not_lt_zero _)
  | _ :: _, 0, _ => rfl
  | x :: r, j + 1, h => by
    show (match ki_delL r j with | some q => some (x :: q) | none => none) = _
    rw [ki_delL_erase (Nat.lt_of_succ_lt_succ h)]; rfl
theorem VRs.take {φ : Idm} {N : Led} : ∀ {vs us} (i : Nat), VRs φ N vs us → VRs φ N (vs.take i) (us.take i) ∧ VRs φ N (vs.drop i) (us.drop i)
  | [], _, i, h => by simp only [VRs] at h; subst h; simp only [List.take_nil, List.drop_nil]; exact ⟨.nil, .nil⟩
  | _ :: _, _, 0, h => ⟨.nil, h⟩
  | _ :: _, _, i + 1, h => by
    simp only [VRs] at h
    refine byc fun hG => ?_
    obtain ⟨u, us', rfl, h1, h2⟩ := h
    exact hG (⟨.cons h1 (VRs.take i h2).1, (VRs.take i h2).2⟩)
theorem VRs.erase {φ : Idm} {N : Led} : ∀ {vs us} (i : Nat), VRs φ N vs us → VRs φ N (vs.eraseIdx i) (us.eraseIdx i)
  | [], _, _, h => by simp only [VRs] at h; subst h; exact .nil
  | _ :: _, _, 0, h => by
    simp only [VRs] at h
    refine byc fun hG => ?_
    obtain ⟨u, us', rfl, _, h2⟩ := h
    exact hG (h2)
  | _ :: _, _, i + 1, h => by
    simp only [VRs] at h
    refine byc fun hG => ?_
    obtain ⟨u, us', rfl, h1, h2⟩ := h
    exact hG (.cons h1 (VRs.erase i h2))
noncomputable def mIndex (n : Nat) : FM := fun vs μ => match vs with
  | [.int i] => match μ.get n with
    | some (.list xs) => if xs.length ≤ 1000 then match intsOf xs with
      | some ns => (ns.findIdx? (· == i)).map fun (j : Nat) => (V.int (j : Int), μ)
      | none => none
      else none
    | _ => none
  | _ => none
theorem bm_index : BM D k "index" "list.index" isList mIndex where
  get := list_get PySem.F.slot_list_index PySem.F.type_list_index
  call := by
    intro c O ρ μ φ N s n u vs us b μ' R v vs' e
    unfold mIndex at e
    split at e
    · rename_i i
      split at e
      · rename_i xs eg
        split at e
        · rename_i hl
          split at e
          · rename_i ns hi
            replace e := Option.map_eq_some_iff.mp e; obtain ⟨j, hj, e⟩ := e
            cases e
            refine byc fun hG => ?_
            obtain ⟨y, rfl, h1⟩ := vs'.one_inv
            simp only [VR] at h1; obtain ⟨t, rfl⟩ := h1
            obtain ⟨a, us, j', rfl, hx, h3, h4⟩ := R.list v eg
            have ia := intsAre_of h4 hi
            refine hG (kf_index R.nw h3 (kf_ints_of ia) (by show kf_at i us = _; rw [kf_at_ints ia]; exact hj) rfl (by show us.length ≤ _; rw [h4.length]; exact le_line (by exact om13 hl)) ⟨φ, N, .refl, R.toks, vr_int⟩)
          · cases e
        · cases e
      · cases e
    · cases e
noncomputable def mRemove (n : Nat) : FM := fun vs μ => match vs with
  | [.int i] => match μ.get n with
    | some (.list xs) => if xs.length ≤ 1000 then match intsOf xs with
      | some ns => (ns.findIdx? (· == i)).map fun j => (.none, μ.set n (.list (xs.eraseIdx j)))
      | none => none
      else none
    | _ => none
  | _ => none
theorem bm_remove : BM D k "remove" "list.remove" isList mRemove where
  get := list_get PySem.F.slot_list_remove PySem.F.type_list_remove
  call := by
    intro c O ρ μ φ N s n u vs us b μ' R v vs' e
    unfold mRemove at e
    split at e
    · rename_i i
      split at e
      · rename_i xs eg
        split at e
        · rename_i hl
          split at e
          · rename_i ns hi
            replace e := Option.map_eq_some_iff.mp e; obtain ⟨j, hj, e⟩ := e
            cases e
            refine byc fun hG => ?_
            obtain ⟨y, rfl, h1⟩ := vs'.one_inv
            simp only [VR] at h1; obtain ⟨t, rfl⟩ := h1
            obtain ⟨a, us, j', rfl, hx, h3, h4⟩ := R.list v eg
            obtain ⟨m, F, l⟩ := R.fr
            have ia := intsAre_of h4 hi
            have hk : kf_at i us = some j := by rw [kf_at_ints ia]; exact hj
            refine hG (kf_remove F R.nw (kf_ints_of ia) hk (ki_delL_erase (kf_at_spec hk).1) (upd_setA h3 R.mr.nd) (by show us.length ≤ _; rw [h4.length]; exact le_line (by exact om13 hl)) fun h' F' N' => pe_none ?_)
            exact R.setList hx h3 (h4.erase j) l F' N'
          · cases e
        · cases e
      · cases e
    · cases e
noncomputable def mInsert (n : Nat) : FM := fun vs μ => match vs with
  | [.int i, v] => match μ.get n with
    | some (.list xs) => if xs.length ≤ 1000 ∧ 0 ≤ i ∧ i ≤ xs.length then some (.none, μ.set n (.list (xs.take i.toNat ++ v :: xs.drop i.toNat))) else none
    | _ => none
  | _ => none
theorem bm_insert : BM D k "insert" "list.insert" isList mInsert where
  get := list_get PySem.F.slot_list_insert PySem.F.type_list_insert
  call := by
    intro c O ρ μ φ N s n u vs us b μ' R v vs' e
    unfold mInsert at e
    split at e
    · rename_i i x
      split at e
      · rename_i xs eg
        split at e
        · rename_i hl
          cases e
          refine byc fun hG => ?_
          obtain ⟨y, z, rfl, h1, h2⟩ := vs'.two_inv
          simp only [VR] at h1; obtain ⟨t, rfl⟩ := h1
          obtain ⟨a, us, j', rfl, hx, h3, h4⟩ := R.list v eg
          obtain ⟨m, F, l⟩ := R.fr
          have hlen := h4.length
          have hins : kl_ins us i z = us.take i.toNat ++ z :: us.drop i.toNat := by
            unfold kl_ins
            rw [if_neg (by exact om16 hl.2.1), Nat.min_eq_left (by exact om23 hl.2.2 hlen)]
          refine hG (kl_insert F R.nw ?_ hins (upd_setA h3 R.mr.nd) (by show us.length ≤ _; rw [hlen]; exact le_line (by exact om13 hl.1)) fun h' F' N' => pe_none ?_)
          · unfold Builtin.List.listFitsIndex
            simp only [Bool.and_eq_true, decide_eq_true_eq]
            exact om24 hl.2.1 hl.2.2 hl.1
          · exact R.setList hx h3 ((h4.take _).1.append (.cons h2 (h4.take _).2)) l F' N'
        · cases e
      · cases e
    · cases e
noncomputable def mGet (n : Nat) : FM := fun vs μ => match vs with
  | [.int i, d] => match μ.get n with
    | some (.dict es) => some (match (es.find? fun e => e.1 = i).map (·.2) with | some v => v | none => d, μ)
    | _ => none
  | _ => none
theorem valueAt_none {φ : Idm} {N : Led} : ∀ {es : List (Int × V)} {ks : List (Int × Value)}, DRs φ N es ks → ∀ {k : Int}, (es.find? fun e => e.1 = k).map (·.2) = none → valueAt ks k = none
  | [], _, h, _, _ => by cases h; rfl
  | (j, x) :: es, _, ⟨u, ks', rfl, h1, h2⟩, k, e => by
    unfold valueAt
    by_cases hj : j = k
    · rw [List.find?_cons_of_pos (by simpa using hj)] at e; cases e
    · rw [List.find?_cons_of_neg (by simpa using hj)] at e ⊢
      exact valueAt_none h2 e
theorem bm_get : BM D k "get" "dict.get" isDict mGet where
  get := dict_get PySem.F.slot_dict_get PySem.F.type_dict_get
  call := by
    intro c O ρ μ φ N s n u vs us b μ' R v vs' e
    unfold mGet at e
    split at e
    · rename_i i d
      split at e
      · rename_i es eg
        cases e
        obtain ⟨y, z, rfl, h1, h2⟩ := vs'.two_inv
        simp only [VR] at h1; obtain ⟨t, rfl⟩ := h1
        obtain ⟨a, o, kvs, rfl, _, h3, lo, h4, h5⟩ := R.dict v eg
        cases hv : (es.find? fun e => e.1 = i).map (·.2) with
        | none => exact kdg_get2 R.nw h3 h4 lo (intKind_is _ _ _ _) _ (valueAt_none h5 hv) ⟨φ, N, .refl, R.toks, h2⟩
        | some v =>
          obtain ⟨u, h6, h7⟩ := valueAt_DRs h5 hv
          exact kdg_get2 R.nw h3 h4 lo (intKind_is _ _ _ _) _ h6 ⟨φ, N, .refl, R.toks, h7⟩
      · cases e
    · cases e
noncomputable def mDPop (n : Nat) : FM := fun vs μ => match vs with
  | [.int i] => match μ.get n with
    | some (.dict es) => if es.length ≤ 1000 then match (es.find? fun e => e.1 = i).map (·.2) with
      | some v => some (v, μ.set n (.dict (es.filter fun e => decide (e.1 ≠ i))))
      | none => none
      else none
    | _ => none
  | _ => none
theorem DRs.without {φ : Idm} {N : Led} (i : Int) : ∀ {es : List (Int × V)} {ks : List (Int × Value)}, DRs φ N es ks → DRs φ N (es.filter fun e => decide (e.1 ≠ i)) (PySem.without ks i)
  | [], _, h => by cases h; rfl
  | (j, x) :: es, _, ⟨u, ks', rfl, h1, h2⟩ => by
    unfold PySem.without
    have ih := DRs.without i h2
    unfold PySem.without at ih
    by_cases hj : j ≠ i
    · rw [List.filter_cons_of_pos (by simpa using hj), List.filter_cons_of_pos (by simpa using hj)]
      exact ⟨u, _, rfl, h1, ih⟩
    · rw [List.filter_cons_of_neg (by simpa using hj), List.filter_cons_of_neg (by simpa using hj)]
      exact ih
theorem bm_dpop : BM D k "pop" "dict.pop" isDict mDPop where
  get := dict_get PySem.F.slot_dict_pop PySem.F.type_dict_pop
  call := by
    intro c O ρ μ φ N s n u vs us b μ' R v vs' e
    unfold mDPop at e
    split at e
    · rename_i i
      split at e
      · rename_i es eg
        split at e
        · rename_i hl
          split at e
          · rename_i v hv
            cases e
            refine byc fun hG => ?_
            obtain ⟨y, rfl, h1⟩ := vs'.one_inv
            simp only [VR] at h1; obtain ⟨t, rfl⟩ := h1
            obtain ⟨a, o, kvs, rfl, hx, h3, lo, h4, h5⟩ := R.dict v eg
            obtain ⟨m, F, l⟩ := R.fr
            obtain ⟨u, h6, h7⟩ := valueAt_DRs h5 hv
            refine hG (kob_pop F R.nw (updF_setA h3 R.mr.nd) h4 (intKind_is _ _ _ _) (.inl rfl) rfl (PySem.F.args_dict_pop_2 _ _) h6 (by rw [h5.length]; exact le_line (by exact om13 hl)) fun h' o' F' N' hd' => ?_)
            refine byc fun hG => ?_
            obtain ⟨φ', N'', E, R'⟩ := R.setDict (tk := s.toks + 1) hx h3 (h5.without i) l F' lo hd' N'
            exact hG (⟨φ', N'', E, R', R.vr E h7⟩)
          · cases e
        · cases e
      · cases e
    · cases e
end
end Mine
end
section
set_option maxRecDepth 10000
open PySem PySem.W PySem.Calls PyProof.Rows
namespace Mine
inductive Out where
  | next
  | cont
  | ret (v : V)
  | exc
noncomputable abbrev SM := Loc → Mem → Option (Out × Loc × Mem)
noncomputable abbrev AM := V → Loc → Mem → Option (Loc × Mem)
noncomputable def put (ρ : Loc) (x : Str) (v : V) : Loc := fun y => if y = x then some v else ρ y
section
variable {D : Wd} {k : Nat} {cs : Scope}
noncomputable def XP (D : Wd) (c : Cx) (CX : Addr) (φ : Idm) (N : Led) (μ' : Mem) (e : Value) (s' : Shared) : Prop :=
  ∃ e0 φ' N', e = .ref e0 ∧ Ext c.own φ N φ' N' ∧ MR D.prog D.w φ' N' μ' ∧ s'.gens = #[] ∧ s'.os = c.os ∧
    ∀ (Q : Unit → Shared → Prop) (E : Value → Shared → Prop), (∀ h' t vs, RaisedS c.base c.h₀ c.outer e0 (.ref CX) t vs N' h' → c.h₀.UpToSlots h' → Q () { s' with heap := h' }) → wpAny (model D.prog D.w) c.A (leaving c.env (.ref e0)) Q E s'
noncomputable def OutR (φ : Idm) (N : Led) (o : Out) (fl : Flow) : Prop := match o with
  | .next => fl = .next
  | .cont => fl = .cont
  | .ret v => ∃ u, fl = .ret u ∧ VR φ N v u
  | .exc => False
inductive PS (D : Wd) (c : Cx) (φ : Idm) (N : Led) (o : Out) (ρ' : Loc) (μ' : Mem) (fl : Flow) (s' : Shared) : Prop where
  | mk (φ' : Idm) (N' : Led) (E : Ext c.own φ N φ' N') (R : Rep D c ρ' μ' φ' N' s') (V : OutR φ' N' o fl)
noncomputable def PX (D : Wd) (c : Cx) (CX : Addr) (φ : Idm) (N : Led) (o : Out) (μ' : Mem) (e : Value) (s' : Shared) : Prop := o = .exc ∧ XP D c CX φ N μ' e s'
inductive PA (D : Wd) (c : Cx) (φ : Idm) (N : Led) (ρ' : Loc) (μ' : Mem) (u : Unit) (s' : Shared) : Prop where
  | mk (φ' : Idm) (N' : Led) (E : Ext c.own φ N φ' N') (R : Rep D c ρ' μ' φ' N' s')
noncomputable def DS (D : Wd) (CX : Addr) (k : Nat) (cs : Scope) (st : Stmt) (m : SM) : Prop := ∀ c, c.cs = cs → Ok D k c → ∀ ρ μ φ N s o ρ' μ', Rep D c ρ μ φ N s → m ρ μ = some (o, ρ', μ') →
  wpAny (model D.prog D.w) c.A (exec st c.env) (PS D c φ N o ρ' μ') (PX D c CX φ N o μ') s
noncomputable def DSS (D : Wd) (CX : Addr) (k : Nat) (cs : Scope) (sts : List Stmt) (m : SM) : Prop := ∀ c, c.cs = cs → Ok D k c → ∀ ρ μ φ N s o ρ' μ', Rep D c ρ μ φ N s → m ρ μ = some (o, ρ', μ') →
  wpAny (model D.prog D.w) c.A (execs sts c.env) (PS D c φ N o ρ' μ') (PX D c CX φ N o μ') s
noncomputable def DA (D : Wd) (k : Nat) (cs : Scope) (t : Expr) (m : AM) : Prop := ∀ c, c.cs = cs → Ok D k c → ∀ ρ μ φ N s u v ρ' μ', Rep D c ρ μ φ N s → VR φ N v u → m v ρ μ = some (ρ', μ') →
  wpAny (model D.prog D.w) c.A (assign t c.env u) (PA D c φ N ρ' μ') no s
variable {c : Cx} {ρ ρ' : Loc} {μ μ' : Mem} {φ φ1 φ' : Idm} {N N1 N' : Led} {s s' : Shared} {CX : Addr}
theorem ps_trans {o : Out} {fl : Flow} (E : Ext c.own φ N φ1 N1) (h : PS D c φ1 N1 o ρ' μ' fl s') : PS D c φ N o ρ' μ' fl s' :=
  let ⟨φ2, N2, E2, r, r2⟩ := h; ⟨φ2, N2, E.trans E2, r, r2⟩
theorem px_trans {o : Out} {e : Value} (E : Ext c.own φ N φ1 N1) (h : PX D c CX φ1 N1 o μ' e s') : PX D c CX φ N o μ' e s' :=
  let ⟨h0, e0, φ2, N2, h1, E2, r⟩ := h; ⟨h0, e0, φ2, N2, h1, E.trans E2, r⟩
theorem pa_trans {u : Unit} (E : Ext c.own φ N φ1 N1) (h : PA D c φ1 N1 ρ' μ' u s') : PA D c φ N ρ' μ' u s' :=
  let ⟨φ2, N2, E2, r⟩ := h; ⟨φ2, N2, E.trans E2, r⟩
theorem Ext.up {cs : List Addr} (E : Ext [] φ N φ' N') : Ext cs φ N φ' N' := E.weaken fun _ h => nomatch h
theorem no_elim {α : Prop} {v : Value} {s : Shared} (h : no v s) : α := h.elim
theorem Rep.ct (R : Rep D c ρ μ φ N s) : ∀ a ∈ c.own, ∀ us k, (a, tupOf us k) ∉ N := fun a ha us j hm => by
  rcases R.ow a ha with ⟨x, hx⟩ | ⟨cc, hx⟩
  case inr =>
    obtain ⟨_, _, _, ps, h2, _⟩ := R.tb _ _ hx
    have := congrArg Obj.cls (led_uniq R.mr.nd hm h2)
    simp at this
  obtain ⟨_, o, v, h2, h3⟩ := R.ca x a hx
  have := led_uniq R.mr.nd hm h2
  subst this
  cases h3
theorem Rep.vrsO (R : Rep D c ρ μ φ N s) (E : Ext c.own φ N φ' N') {v u} (h : VRs φ N v u) : VRs φ' N' v u := h.mono E.ids (R.mr.vr R.ct E)
theorem MR.other (M : MR D.prog D.w φ N μ) {a : Addr} {o o' : Obj} (ha : a ∉ φ.map (·.2)) (hm : (a, o) ∈ N) (h1 : ∀ us j, o ≠ tupOf us j) (h2 : ∀ us j, o' ≠ tupOf us j) : MR D.prog D.w φ (setA a o' N) μ where
  fk := M.fk
  fa := M.fa
  nd := by rw [setA_keys]; exact M.nd
  lt := M.lt
  ob := fun n o e => (M.ob n o e).mono (fun _ h => h) (fun b us j h => mem_setA h fun (e : b = a) => h1 us j (led_uniq M.nd hm (by subst e; exact h))) fun b a' o' h3 h4 => mem_setA h4 fun (e : a' = a) => ha (by subst e; exact List.mem_map_of_mem (f := (·.2)) h3)
  nt := fun x hx us j h => by
    rcases of_mem_setA h with ⟨_, h⟩ | h
    · exact M.nt x hx us j h
    · exact ha (by rw [← (Prod.mk.inj h).1]; exact List.mem_map_of_mem hx)
  kn := fun x hx => by rw [setA_keys]; exact M.kn x hx
  gt := M.gt
theorem other_tups (nd : (N.map (·.1)).Nodup) {a : Addr} {o o' : Obj} (hm : (a, o) ∈ N) (h1 : ∀ us j, o ≠ tupOf us j) : ∀ b us j, (b, tupOf us j) ∈ N → (b, tupOf us j) ∈ setA a o' N := fun b us j h =>
  mem_setA h fun (e : b = a) => h1 us j (led_uniq nd hm (by subst e; exact h))
theorem cell_ne {o : Obj} {v : Option Value} (h : o.data = .cell v) : ∀ us j, o ≠ tupOf us j := fun us j e => by subst e; cases h
noncomputable def aName (x : Str) : AM := fun v ρ μ => some (put ρ x v, μ)
theorem Rep.storeL (R : Rep D c ρ μ φ N s) {x : Str} {v : V} {u : Value} {m : Str → Option Value} {h' : Heap} {tk : Nat} (l : LR c ρ m φ N) (hx : c.cs.names.lookup x = some .local) (hv : VR φ N v u) (F' : Fr c.h₀ c.L h' (fun y => if y = x then some u else m y)) (N' : News c.h₀ c.L h' N) :
    Rep D c (put ρ x v) μ φ N { s with heap := h', toks := tk } where
  fr := ⟨_, F', fun y w e => by
    unfold put at e
    by_cases hy : y = x
    · rw [if_pos hy] at e
      cases e
      subst hy
      exact .inl ⟨hx, u, if_pos rfl, hv⟩
    · rw [if_neg hy] at e
      rcases l y w e with ⟨h1, u', h2, h3⟩ | h
      · exact .inl ⟨h1, u', by rw [if_neg hy]; exact h2, h3⟩
      · exact .inr h⟩
  nw := N'
  mr := R.mr
  ca := R.ca
  ow := R.ow
  tb := R.tb
  gs := R.gs
  os := R.os
theorem da_local {x : Str} {pos : Pos} (hx : cs.names.lookup x = some .local) : DA D k cs (.Name x pos) (aName x) := by
  rintro c rfl O ρ μ φ N s u v ρ' μ' R hv e
  cases e
  obtain ⟨m, F, l⟩ := R.fr
  exact PyProof.Rows.assign_Name (storeX_L F R.nw (fun h' F' N' => ⟨φ, N, .refl, R.storeL l hx hv F' N'⟩) O.fn hx)
theorem Rep.storeC (R : Rep D c ρ μ φ N s) (ci : ∀ x y a, c.cl.lookup x = some a → c.cl.lookup y = some a → x = y) {x : Str} {v : V} {u : Value} {m : Str → Option Value} {h' : Heap} {a : Addr} {o o' : Obj} {v0 : Option Value} (l : LR c ρ m φ N) (hx : c.cs.names.lookup x = some .cell) (hc : c.cl.lookup x = some a) (ha : a ∈ c.own)
    (hm : (a, o) ∈ N) (ho : o.data = .cell v0) (ho' : o'.data = .cell (some u)) (hv : VR φ N v u) (F' : Fr c.h₀ c.L h' m) (N' : News c.h₀ c.L h' (setA a o' N)) :
    ∃ φ' N', Ext c.own φ N φ' N' ∧ Rep D c (put ρ x v) μ φ' N' { s with heap := h' } := by
  have hna := (R.ca x a hc).1
  have tp := other_tups (o' := o') R.mr.nd hm (cell_ne ho)
  refine ⟨φ, setA a o' N, ⟨fun _ h => h, fun p hp _ h => mem_setA hp fun e => h (e ▸ ha), fun _ h => .inl h, fun b h => by rw [setA_keys]; exact h⟩, ⟨m, F', fun y w e => ?_⟩, N', R.mr.other hna hm (cell_ne ho) (cell_ne ho'), fun y b hb => ?_, R.ow, fun cc P e => (R.tb cc P e).ext (fun p hp _ h => mem_setA hp fun q => ?_) fun _ h => .inl h, R.gs, R.os⟩
  · unfold put at e
    by_cases hy : y = x
    · rw [if_pos hy] at e
      cases e
      subst hy
      exact .inr ⟨.inl hx, a, o', u, hc, mem_setA_self hm, ho', hv.mono (fun _ h => h) tp⟩
    · rw [if_neg hy] at e
      rcases l y w e with ⟨h1, u', h2, h3⟩ | ⟨h1, b, ob, u', h2, h3, h4, h5⟩
      · exact .inl ⟨h1, u', h2, h3.mono (fun _ h => h) tp⟩
      · exact .inr ⟨h1, b, ob, u', h2, mem_setA h3 fun (e : b = a) => hy (ci _ _ _ (by rw [← e]; exact h2) hc), h4, h5.mono (fun _ h => h) tp⟩
  · obtain ⟨h1, ob, w, h2, h3⟩ := R.ca y b hb
    by_cases q : b = a
    · subst q
      exact ⟨h1, o', _, mem_setA_self hm, ho'⟩
    · exact ⟨h1, ob, w, mem_setA h2 q, h3⟩
  · rcases h with h | h
    · exact (R.tb cc P e).cl x (by rw [← h, q]; exact hc)
    · exact h.1 (q ▸ ha)
theorem da_cell {x : Str} {pos : Pos} (hx : cs.names.lookup x = some .cell) : DA D k cs (.Name x pos) (aName x) := by
  rintro c rfl O ρ μ φ N s u v ρ' μ' R hv e
  cases e
  refine byc fun hG => ?_
  obtain ⟨m, F, l⟩ := R.fr
  obtain ⟨a, hc, ha⟩ := O.co x hx
  obtain ⟨_, o, v0, h2, h3⟩ := R.ca x a hc
  exact hG (PyProof.Rows.assign_Name (storeX_C F R.nw hc (updF_setA h2 R.mr.nd) h3 (fun h' o' F' N' ho' => let ⟨a, b, e, r⟩ := R.storeC O.ci l hx hc ha h2 h3 ho' hv F' N'; ⟨a, b, e, r⟩) O.fn hx))
end
end Mine
end
section
set_option maxRecDepth 10000
open PySem PySem.W PySem.Calls PyProof.Rows
namespace Mine
section
variable {D : Wd} {k : Nat} {cs : Scope} {CX : Addr}
variable {c : Cx} {ρ ρ' : Loc} {μ μ' : Mem} {φ φ1 φ' : Idm} {N N1 N' : Led} {s s' : Shared}
structure SetOk (D : Wd) (C : Addr) (x : Str) : Prop where
  at_ : findIn D.K (.ref C) "__setattr__" = some (some (.builtin "object.__setattr__"))
  over : plainOver D.K C = true
  taker : takerIn D.K C x = some none
  hd : hasDictIn D.K C = true
theorem putL_length (x : Str) (h : Int) (key v : Value) : ∀ es, (putL x h key v es).length ≤ es.length + 1
  | [] => by simp [putL]
  | e :: r => by
    unfold putL
    split
    · simp
    · have := putL_length x h key v r
      simp only [List.length_cons]; exact om25 this
theorem wp_setAttr (O : Ok D k c) (R : Rep D c ρ μ φ N s) {n : Nat} {u u' : Value} {v : V} {C : Addr} {fs : List (Str × V)} {x : Str} (a : SetOk D C x) (h1 : VR φ N (.obj n) u) (h2 : VR φ N v u') (e : μ.get n = some (.inst C fs)) (hl : fs.length ≤ 900) :
    wpAny (model D.prog D.w) c.A (setAttr u x u') (PA D c φ N ρ (μ.set n (.inst C (fput x v fs)))) no s := by
  refine byc fun hG => ?_
  obtain ⟨b, d, des, j, rfl, hx, hx2, h3, h4, h5⟩ := R.inst h1 e
  obtain ⟨m, F, l⟩ := R.fr
  have hsome : (getL x des).isSome = true := by
    cases q : fget fs x with
    | none => rw [h5.getL_none q]; rfl
    | some v => obtain ⟨u, e1, _⟩ := h5.getL q; rw [e1]; rfl
  refine hG (set_dict F O.X R.nw (InstAt.of_news R.nw h3 h4) rfl a.at_ a.over a.taker a.hd hsome rfl (upd_setA h4 R.mr.nd) (by have := putL_length x (PyData.keyHash D.w.params x) (.str x (s.toks + 1)) u' des; have := h5.length; omega) fun h' F' N' => ?_)
  refine byc fun hG => ?_
  obtain ⟨φ', N'', E, R'⟩ := R.setInst (tk := s.toks + 2) hx hx2 h3 h4 (h5.putL (x := x) (t := s.toks + 1) h2) l F' N'
  exact hG (⟨φ', N'', E.up, R'⟩)
noncomputable def aAttr (mo : EM) (C : Addr) (x : Str) : AM := fun v ρ μ => match mo ρ μ with
  | some (.obj n, μ1) => match μ1.get n with
    | some (.inst C' fs) => if C' = C ∧ fs.length ≤ 900 then some (ρ, μ1.set n (.inst C (fput x v fs))) else none
    | _ => none
  | _ => none
theorem wp_aAttr {o : Expr} {C : Addr} {x : Str} {mo : EM} (h : DE D k cs o mo) (a : SetOk D C x) (hc : c.cs = cs) (O : Ok D k c) (R : Rep D c ρ μ φ N s) {u : Value} {v : V} (hv : VR φ N v u) (e : aAttr mo C x v ρ μ = some (ρ', μ')) :
    wpAny (model D.prog D.w) c.A (eval o c.env) (fun ov s₂ => wpAny (model D.prog D.w) c.A (setAttr ov x u) (PA D c φ N ρ' μ') no s₂) no s := by
  unfold aAttr at e
  split at e
  · rename_i n μ1 e1
    split at e
    · rename_i C' fs eg
      split at e
      · rename_i hC
        obtain ⟨rfl, hl⟩ := hC
        cases e
        refine wpAny_mono (h c hc O ρ μ φ N s _ _ R e1) (fun ov s1 h1 => ?_) fun _ _ x => x
        refine byc fun hG => ?_
        obtain ⟨φ1, N1, E1, R1, v1⟩ := h1
        exact hG (wpAny_mono (wp_setAttr O R1 a v1 (R.vr E1 hv) eg hl) (fun _ _ h => pa_trans E1.up h) fun _ _ x => x)
      · cases e
    · cases e
  · cases e
theorem da_attr {o : Expr} {C : Addr} {x : Str} {pos : Pos} {mo : EM} (h : DE D k cs o mo) (a : SetOk D C x) : DA D k cs (.Attribute o x pos) (aAttr mo C x) := by
  rintro c hc O ρ μ φ N s u v ρ' μ' R hv e
  exact kas_attr (wp_aAttr h a hc O R hv e)
noncomputable def dstore (es : List (Int × V)) (i : Int) (v : V) : List (Int × V) := if es.any (fun e => e.1 = i) then es.map (fun e => if e.1 = i then (e.1, v) else e) else es ++ [(i, v)]
theorem DRs.any {i : Int} : ∀ {es : List (Int × V)} {ks : List (Int × Value)}, DRs φ N es ks → ks.any (fun e => e.1 = i) = es.any (fun e => e.1 = i)
  | [], _, h => by cases h; rfl
  | _ :: _, _, ⟨u, ks', rfl, h1, h2⟩ => by rw [List.any_cons, List.any_cons, DRs.any h2]
theorem DRs.map {i : Int} {v : V} {u : Value} (hv : VR φ N v u) : ∀ {es : List (Int × V)} {ks : List (Int × Value)}, DRs φ N es ks → DRs φ N (es.map (fun e => if e.1 = i then (e.1, v) else e)) (ks.map (fun e => if e.1 = i then (e.1, u) else e))
  | [], _, h => by cases h; rfl
  | (j, x) :: es, _, ⟨w, ks', rfl, h1, h2⟩ => by
    rw [List.map_cons, List.map_cons]
    by_cases hj : j = i
    · rw [if_pos hj, if_pos hj]; exact ⟨u, _, rfl, hv, DRs.map hv h2⟩
    · rw [if_neg hj, if_neg hj]; exact ⟨w, _, rfl, h1, DRs.map hv h2⟩
theorem DRs.append {i : Int} {v : V} {u : Value} (hv : VR φ N v u) : ∀ {es : List (Int × V)} {ks : List (Int × Value)}, DRs φ N es ks → DRs φ N (es ++ [(i, v)]) (ks ++ [(i, u)])
  | [], _, h => by cases h; exact ⟨u, [], rfl, hv, rfl⟩
  | _ :: _, _, ⟨w, ks', rfl, h1, h2⟩ => ⟨w, _, rfl, h1, DRs.append hv h2⟩
theorem DRs.store {i : Int} {v : V} {u : Value} (hv : VR φ N v u) {es : List (Int × V)} {ks : List (Int × Value)} (h : DRs φ N es ks) : DRs φ N (dstore es i v) (stored ks i u) := by
  unfold dstore stored
  rw [h.any]
  split
  · exact h.map hv
  · exact h.append hv
theorem ki_setL_set : ∀ {us : List Value} {j : Nat} {v : Value}, j < us.length → ki_setL us j v = some (us.set j v)
  | [], _, _, h => absurd h (Nat.not_lt_zero _)
  | _ :: _, 0, _, _ => rfl
  | x :: r, j + 1, v, h => by
    show (match ki_setL r j v with | some q => some (x :: q) | none => none) = _
    rw [ki_setL_set (Nat.lt_of_succ_lt_succ h)]; rfl
noncomputable def setItemM (n : Nat) (i : Int) (v : V) (μ : Mem) : Option Mem := match μ.get n with
  | some (.list xs) => if 0 ≤ i ∧ i < xs.length ∧ xs.length ≤ 1000 then some (μ.set n (.list (xs.set i.toNat v))) else none
  | some (.dict es) => if es.length ≤ 1000 then some (μ.set n (.dict (dstore es i v))) else none
  | _ => none
theorem wp_setItem (O : Ok D k c) (R : Rep D c ρ μ φ N s) {n : Nat} {u u' : Value} {i : Int} {t : Tok} {v : V} (h1 : VR φ N (.obj n) u) (h2 : VR φ N v u') (e : setItemM n i v μ = some μ') :
    wpAny (model D.prog D.w) c.A (setItem u (.int i t) u') (PA D c φ N ρ μ') no s := by
  unfold setItemM at e
  obtain ⟨m, F, l⟩ := R.fr
  split at e
  · rename_i xs eg
    split at e
    · rename_i hi
      cases e
      refine byc fun hG => ?_
      obtain ⟨b, us, j, rfl, hx, h3, h4⟩ := R.list h1 eg
      have hlen := h4.length
      refine hG (ki_set F R.nw hi.1 (by exact om26 hi.2.1 hi.2.2) (ki_setL_set (by show _ < us.length; exact om27 hi.1 hi.2.1 hlen)) (upd_setA h3 R.mr.nd) fun h' F' N' => ?_)
      refine byc fun hG => ?_
      obtain ⟨φ', N'', E, R'⟩ := R.setList (tk := s.toks) hx h3 (h4.set (i := i.toNat) h2) l F' N'
      exact hG (⟨φ', N'', E.up, R'⟩)
    · cases e
  · rename_i es eg
    split at e
    · rename_i hi
      cases e
      refine byc fun hG => ?_
      obtain ⟨b, o, kvs, rfl, hx, h3, lo, h4, h5⟩ := R.dict h1 eg
      refine hG (kda_set F R.nw (updF_setA h3 R.mr.nd) h4 (intKind_is _ _ _ _) (by rw [h5.length]; exact le_line (by exact om13 hi)) fun h' o' F' N' hd' => ?_)
      refine byc fun hG => ?_
      obtain ⟨φ', N'', E, R'⟩ := R.setDict (tk := s.toks + 1) hx h3 (h5.store (i := i) h2) l F' lo hd' N'
      exact hG (⟨φ', N'', E.up, R'⟩)
    · cases e
  · cases e
noncomputable def aSub (mo mi : EM) : AM := fun v ρ μ => match mo ρ μ with
  | some (.obj n, μ1) => match mi ρ μ1 with
    | some (.int i, μ2) => (setItemM n i v μ2).map fun μ' => (ρ, μ')
    | _ => none
  | _ => none
theorem wp_aSub {o i : Expr} {mo mi : EM} (h : DE D k cs o mo) (h' : DE D k cs i mi) (hc : c.cs = cs) (O : Ok D k c) (R : Rep D c ρ μ φ N s) {u : Value} {v : V} (hv : VR φ N v u) (e : aSub mo mi v ρ μ = some (ρ', μ')) :
    wpAny (model D.prog D.w) c.A (eval o c.env) (fun ov s₂ => wpAny (model D.prog D.w) c.A (eval i c.env) (fun iv s₃ => wpAny (model D.prog D.w) c.A (setItem ov iv u) (PA D c φ N ρ' μ') no s₃) no s₂) no s := by
  unfold aSub at e
  split at e
  · rename_i n μ1 e1
    split at e
    · rename_i j μ2 e2
      replace e := Option.map_eq_some_iff.mp e; obtain ⟨μ3, e3, e⟩ := e
      cases e
      refine wpAny_mono (h c hc O ρ μ φ N s _ _ R e1) (fun ov s1 h1 => ?_) fun _ _ x => x
      refine byc fun hG => ?_
      obtain ⟨φ1, N1, E1, R1, v1⟩ := h1
      refine hG (wpAny_mono (h' c hc O ρ μ1 φ1 N1 s1 _ _ R1 e2) (fun iv s2 h2 => ?_) fun _ _ x => x)
      refine byc fun hG => ?_
      obtain ⟨φ2, N2, E2, R2, v2⟩ := h2
      simp only [VR] at v2
      obtain ⟨t, rfl⟩ := v2
      exact hG (wpAny_mono (wp_setItem O R2 (R1.vr E2 v1) (R1.vr E2 (R.vr E1 hv)) e3) (fun _ _ h => pa_trans (E1.trans E2).up h) fun _ _ x => x)
    · cases e
  · cases e
noncomputable abbrev AsM := List V → Loc → Mem → Option (Loc × Mem)
noncomputable def DAs (D : Wd) (k : Nat) (cs : Scope) (ts : List Expr) (m : AsM) : Prop := ∀ c, c.cs = cs → Ok D k c → ∀ ρ μ φ N s us vs ρ' μ', Rep D c ρ μ φ N s → VRs φ N vs us → m vs ρ μ = some (ρ', μ') →
  wpAny (model D.prog D.w) c.A (assignInOrder (ts.map fun t => assign t c.env) us) (PA D c φ N ρ' μ') no s
noncomputable def asNil : AsM := fun vs ρ μ => match vs with
  | [] => some (ρ, μ)
  | _ => none
noncomputable def asCons (a : AM) (as : AsM) : AsM := fun vs ρ μ => match vs with
  | v :: vs => match a v ρ μ with
    | some (ρ1, μ1) => as vs ρ1 μ1
    | none => none
  | _ => none
theorem das_nil : DAs D k cs [] asNil := by
  rintro c hc O ρ μ φ N s us vs ρ' μ' R hv e
  unfold asNil at e
  split at e
  · cases e
    exact assignInOrder_nil ⟨φ, N, .refl, R⟩
  · cases e
theorem das_cons {t : Expr} {ts : List Expr} {a : AM} {as : AsM} (h : DA D k cs t a) (hs : DAs D k cs ts as) : DAs D k cs (t :: ts) (asCons a as) := by
  rintro c hc O ρ μ φ N s us vs ρ' μ' R hv e
  unfold asCons at e
  split at e
  · rename_i v vs
    split at e
    · rename_i ρ1 μ1 e1
      simp only [VRs] at hv
      refine byc fun hG => ?_
      obtain ⟨u, us', rfl, h1, h2⟩ := hv
      refine hG (assignInOrder_cons (wpAny_mono (h c hc O ρ μ φ N s _ _ _ _ R h1 e1) (fun _ s1 p => ?_) fun _ _ x => x))
      refine byc fun hG => ?_
      obtain ⟨φ1, N1, E1, R1⟩ := p
      exact hG (wpAny_mono (hs c hc O ρ1 μ1 φ1 N1 s1 _ _ _ _ R1 (R.vrsO E1 h2) e) (fun _ _ h => pa_trans E1 h) fun _ _ x => x)
    · cases e
  · cases e
noncomputable def sAssign (m : EM) (a : AM) : SM := fun ρ μ => match m ρ μ with
  | some (v, μ1) => (a v ρ μ1).map fun r => (.next, r.1, r.2)
  | none => none
theorem PA.ps {u : Unit} (h : PA D c φ N ρ' μ' u s') : PS D c φ N .next ρ' μ' .next s' := let ⟨φ', N', E, R⟩ := h; ⟨φ', N', E, R, rfl⟩
theorem sAssign_inv {m : EM} {a : AM} {o : Out} (e : sAssign m a ρ μ = some (o, ρ', μ')) : ∃ v μ1, m ρ μ = some (v, μ1) ∧ a v ρ μ1 = some (ρ', μ') ∧ o = .next := by
  unfold sAssign at e
  split at e
  · rename_i v μ1 e1
    obtain ⟨r, e2, e3⟩ := Option.map_eq_some_iff.mp e
    cases e3
    exact ⟨v, μ1, e1, e2, rfl⟩
  · cases e
theorem ds_local {x : Str} {p pos : Pos} {e : Expr} {m : EM} (h : DE D k cs e m) (hx : cs.names.lookup x = some .local) (hs : ∀ c : Cx, c.cs = cs → swapsWith e (some (.Name x p)) pos.line c.env = pure false := by intro _ _; rfl) : DS D CX k cs (.Assign [.Name x p] e pos) (sAssign m (aName x)) := by
  rintro c rfl O ρ μ φ N s o ρ' μ' R e'
  refine byc fun hG => ?_
  obtain ⟨v, μ1, e1, e2, rfl⟩ := sAssign_inv e'
  cases e2
  refine hG (wpAny_Assign_Name (wpAny_mono (h c rfl O ρ μ φ N s _ _ R e1) (fun u s1 h1 => ?_) fun _ _ => no_elim) (hs c rfl))
  refine byc fun hG => ?_
  obtain ⟨φ1, N1, E1, R1, v1⟩ := h1
  obtain ⟨m, F, l⟩ := R1.fr
  exact hG (storeX_L F R1.nw (fun h' F' N' => ⟨φ1, N1, E1.up, R1.storeL l hx v1 F' N', rfl⟩) O.fn hx)
theorem ds_cell {x : Str} {p pos : Pos} {e : Expr} {m : EM} (h : DE D k cs e m) (hx : cs.names.lookup x = some .cell) (hs : ∀ c : Cx, c.cs = cs → swapsWith e (some (.Name x p)) pos.line c.env = pure false := by intro _ _; rfl) : DS D CX k cs (.Assign [.Name x p] e pos) (sAssign m (aName x)) := by
  rintro c rfl O ρ μ φ N s o ρ' μ' R e'
  refine byc fun hG => ?_
  obtain ⟨v, μ1, e1, e2, rfl⟩ := sAssign_inv e'
  cases e2
  refine hG (wpAny_Assign_Name (wpAny_mono (h c rfl O ρ μ φ N s _ _ R e1) (fun u s1 h1 => ?_) fun _ _ => no_elim) (hs c rfl))
  refine byc fun hG => ?_
  obtain ⟨φ1, N1, E1, R1, v1⟩ := h1
  obtain ⟨m, F, l⟩ := R1.fr
  obtain ⟨a, hc, ha⟩ := O.co x hx
  obtain ⟨_, o, v0, h2, h3⟩ := R1.ca x a hc
  refine hG (storeX_C F R1.nw hc (updF_setA h2 R1.mr.nd) h3 (fun h' o' F' N' ho' => ?_) O.fn hx)
  refine byc fun hG => ?_
  obtain ⟨φ2, N2, E2, R2⟩ := R1.storeC O.ci l hx hc ha h2 h3 ho' v1 F' N'
  exact hG (⟨φ2, N2, E1.up.trans E2, R2, rfl⟩)
theorem ds_attr {o : Expr} {C : Addr} {x : Str} {p pos : Pos} {e : Expr} {m mo : EM} (h : DE D k cs e m) (ho : DE D k cs o mo) (a : SetOk D C x) (hs : ∀ env, swapsWith e (some (.Attribute o x p)) pos.line env = pure false := by intro _; rfl) :
    DS D CX k cs (.Assign [.Attribute o x p] e pos) (sAssign m (aAttr mo C x)) := by
  rintro c hc O ρ μ φ N s o ρ' μ' R e'
  refine byc fun hG => ?_
  obtain ⟨v, μ1, e1, e2, rfl⟩ := sAssign_inv e'
  refine hG (plainObj_wpAny_Assign_Attribute (wpAny_mono (h c hc O ρ μ φ N s _ _ R e1) (fun u s1 h1 => ?_) fun _ _ => no_elim) (hs _))
  refine byc fun hG => ?_
  obtain ⟨φ1, N1, E1, R1, v1⟩ := h1
  exact hG (wpAny_mono (wp_aAttr ho a hc O R1 v1 e2) (fun _ _ x => wpAny_mono x (fun _ _ h => (pa_trans E1.up h).ps) fun _ _ => no_elim) fun _ _ => no_elim)
theorem ds_sub {o i : Expr} {p pos : Pos} {e : Expr} {m mo mi : EM} (h : DE D k cs e m) (ho : DE D k cs o mo) (hi : DE D k cs i mi) (hs : ∀ env, swapsWith e (some (.Subscript o i p)) pos.line env = pure false := by intro _; rfl) :
    DS D CX k cs (.Assign [.Subscript o i p] e pos) (sAssign m (aSub mo mi)) := by
  rintro c hc O ρ μ φ N s o ρ' μ' R e'
  refine byc fun hG => ?_
  obtain ⟨v, μ1, e1, e2, rfl⟩ := sAssign_inv e'
  refine hG (wpAny_Assign_Subscript (wpAny_mono (h c hc O ρ μ φ N s _ _ R e1) (fun u s1 h1 => ?_) fun _ _ => no_elim) (hs _))
  refine byc fun hG => ?_
  obtain ⟨φ1, N1, E1, R1, v1⟩ := h1
  exact hG (wpAny_mono (wp_aSub ho hi hc O R1 v1 e2) (fun _ _ x => wpAny_mono x (fun _ _ x => wpAny_mono x (fun _ _ h => (pa_trans E1.up h).ps) fun _ _ => no_elim) fun _ _ => no_elim) fun _ _ => no_elim)
noncomputable def aTup (as : AsM) : AM := fun v ρ μ => match v with
  | .tup vs => as vs ρ μ
  | _ => none
theorem wp_unpack {ts : List Expr} {j : Nat} {p : Pos} {as : AsM} (h : DAs D k cs ts as) (hc : c.cs = cs) (O : Ok D k c) (R : Rep D c ρ μ φ N s) {u : Value} {v : V} (hv : VR φ N v u) (e : aTup as v ρ μ = some (ρ', μ'))
    (ht : ∀ env, assignEach ts env = ts.map fun t => (false, assign t env)) (hlen : ∀ vs ρ μ r, as vs ρ μ = some r → vs.length = ts.length) : wpAny (model D.prog D.w) c.A (assign (.Tuple ts j p) c.env u) (PA D c φ N ρ' μ') no s := by
  cases v <;> try cases e
  rename_i vs
  simp only [VR] at hv
  refine byc fun hG => ?_
  obtain ⟨a, us, i, rfl, h1, h2⟩ := hv
  obtain ⟨m, F, l⟩ := R.fr
  have e' : as vs ρ μ = some (ρ', μ') := e
  have hl := hlen _ _ _ _ e'
  refine hG (unpackN_ F R.nw (News.isTup R.nw h1) O.hh (by rw [ht, List.length_map, List.size_toArray, h2.length, hl]) (by rw [ht]; simp) fun h' F' N' => ?_)
  rw [ht, List.map_map]
  exact h c hc O ρ μ φ N { s with heap := h' } us vs ρ' μ' (R.next (tk := s.toks) .refl l F' N' R.mr) h2 e'
theorem as_len_nil : ∀ vs ρ μ r, asNil vs ρ μ = some r → vs.length = ([] : List Expr).length := by
  intro vs ρ μ r e
  unfold asNil at e
  split at e
  · rfl
  · cases e
theorem as_len_cons {a : AM} {as : AsM} {t : Expr} {ts : List Expr} (h : ∀ vs ρ μ r, as vs ρ μ = some r → vs.length = ts.length) : ∀ vs ρ μ r, asCons a as vs ρ μ = some r → vs.length = (t :: ts).length := by
  intro vs ρ μ r e
  unfold asCons at e
  split at e
  · split at e
    · rw [List.length_cons, List.length_cons, h _ _ _ _ e]
    · cases e
  · cases e
theorem ds_tup {ts : List Expr} {j : Nat} {p pos : Pos} {e : Expr} {m : EM} {as : AsM} (h : DE D k cs e m) (ha : DAs D k cs ts as) (hlen : ∀ vs ρ μ r, as vs ρ μ = some r → vs.length = ts.length)
    (hs : ∀ env, swapsWithSole [.Tuple ts j p] e pos.line env = pure false := by intro _; rfl) (hw : ∀ c : Cx, c.cs = cs → swappedStores [.Tuple ts j p] e c.env = pure none := by intro _ _; rfl)
    (ht : ∀ env, assignEach ts env = ts.map fun t => (false, assign t env) := by intro _; rfl) : DS D CX k cs (.Assign [.Tuple ts j p] e pos) (sAssign m (aTup as)) := by
  rintro c hc O ρ μ φ N s o ρ' μ' R e'
  refine byc fun hG => ?_
  obtain ⟨v, μ1, e1, e2, rfl⟩ := sAssign_inv e'
  refine hG (Assign_Tuple (wpAny_mono (h c hc O ρ μ φ N s _ _ R e1) (fun u s1 h1 => ?_) fun _ _ => no_elim) (hs _) (hw c hc))
  refine byc fun hG => ?_
  obtain ⟨φ1, N1, E1, R1, v1⟩ := h1
  exact hG (wpAny_mono (wp_unpack ha hc O R1 v1 e2 ht hlen) (fun _ _ h => (pa_trans E1.up h).ps) fun _ _ => no_elim)
noncomputable def aSwap (x y : Str) : AM := fun v ρ μ => match v with
  | .tup [a, b] => some (put (put ρ y b) x a, μ)
  | _ => none
theorem ds_swap {x y : Str} {ts : List Expr} {j : Nat} {p pos : Pos} {e : Expr} {m : EM} (h : DE D k cs e m) (hx : cs.names.lookup x = some .local) (hy : cs.names.lookup y = some .local)
    (hw : ∀ c : Cx, c.cs = cs → swappedStores [.Tuple ts j p] e c.env = pure (some [x, y])) (hs : ∀ env, swapsWithSole [.Tuple ts j p] e pos.line env = pure false := by intro _; rfl) : DS D CX k cs (.Assign [.Tuple ts j p] e pos) (sAssign m (aSwap x y)) := by
  rintro c rfl O ρ μ φ N s o ρ' μ' R e'
  refine byc fun hG => ?_
  obtain ⟨v, μ1, e1, e2, rfl⟩ := sAssign_inv e'
  refine hG (Assign_Tuple_swapped (wpAny_mono (h c rfl O ρ μ φ N s _ _ R e1) (fun u s1 h1 => ?_) fun _ _ => no_elim) (hs _) (hw c rfl))
  obtain ⟨φ1, N1, E1, R1, v1⟩ := h1
  unfold aSwap at e2
  split at e2
  · rename_i a b
    cases e2
    simp only [VR] at v1
    refine byc fun hG => ?_
    obtain ⟨q, us, i, rfl, h1, h2⟩ := v1
    obtain ⟨ua, ub, rfl, h3, h4⟩ := VRs.two_inv h2
    obtain ⟨m, F, l⟩ := R1.fr
    refine hG (unpackItemsN_ F R1.nw (News.isTup R1.nw h1) O.hh rfl fun h' F' N' => ?_)
    have R2 : Rep D c ρ μ' φ1 N1 { s1 with heap := h' } := R1.next (tk := s1.toks) .refl l F' N' R1.mr
    obtain ⟨m2, F2, l2⟩ := R2.fr
    refine assignInOrder_cons (wpAny_bindName (storeX_L F2 R2.nw (fun h3' F3 N3 => ?_) O.fn hy))
    have R3 := R2.storeL (tk := s1.toks + 1) l2 hy h4 F3 N3
    obtain ⟨m4, F4, l4⟩ := R3.fr
    refine assignInOrder_cons (wpAny_bindName (storeX_L F4 R3.nw (fun h5 F5 N5 => ?_) O.fn hx))
    exact assignInOrder_nil ⟨φ1, N1, E1.up, R3.storeL (tk := s1.toks + 1 + 1) l4 hx h3 F5 N5, rfl⟩
  · cases e2
noncomputable def sExpr (m : EM) : SM := fun ρ μ => (m ρ μ).map fun r => (.next, ρ, r.2)
theorem not_inter (O : Ok D k c) : interactive c.env = false := by
  unfold interactive
  have : c.env.scope.kind = .function := O.fn
  rw [this]; rfl
theorem ds_expr {e : Expr} {pos : Pos} {m : EM} (h : DE D k cs e m) (hs : ∀ env, swapsWith e none pos.line env = pure false := by intro _; rfl) : DS D CX k cs (.Expr e pos) (sExpr m) := by
  rintro c hc O ρ μ φ N s o ρ' μ' R e'
  unfold sExpr at e'
  replace e' := Option.map_eq_some_iff.mp e'; obtain ⟨r, e1, e'⟩ := e'
  cases e'
  refine wpAny_Expr_any (wpAny_mono (h c hc O ρ μ φ N s _ _ R e1) (fun u s1 h1 => ?_) fun _ _ => no_elim) (not_inter O) (hs _)
  refine byc fun hG => ?_
  obtain ⟨φ1, N1, E1, R1, v1⟩ := h1
  exact hG (⟨φ1, N1, E1.up, R1, rfl⟩)
noncomputable def sRet (m : EM) : SM := fun ρ μ => (m ρ μ).map fun r => (.ret r.1, ρ, r.2)
theorem ds_ret {e : Expr} {pos : Pos} {m : EM} (h : DE D k cs e m) : DS D CX k cs (.Return (some e) pos) (sRet m) := by
  rintro c hc O ρ μ φ N s o ρ' μ' R e'
  unfold sRet at e'
  replace e' := Option.map_eq_some_iff.mp e'; obtain ⟨r, e1, e'⟩ := e'
  cases e'
  refine wpAny_Return_some (wpAny_mono (h c hc O ρ μ φ N s _ _ R e1) (fun u s1 h1 => ?_) fun _ _ => no_elim)
  refine byc fun hG => ?_
  obtain ⟨φ1, N1, E1, R1, v1⟩ := h1
  exact hG (⟨φ1, N1, E1.up, R1, u, rfl, v1⟩)
noncomputable def sRet0 : SM := fun ρ μ => some (.ret .none, ρ, μ)
theorem ds_ret0 {pos : Pos} : DS D CX k cs (.Return none pos) sRet0 := by
  rintro c hc O ρ μ φ N s o ρ' μ' R e'
  cases e'
  exact wpAny_Return_none ⟨φ, N, .refl, R, .none, rfl, vr_none⟩
noncomputable def sCont : SM := fun ρ μ => some (.cont, ρ, μ)
theorem ds_cont {pos : Pos} : DS D CX k cs (.Continue pos) sCont := by
  rintro c hc O ρ μ φ N s o ρ' μ' R e'
  cases e'
  exact wpAny_Continue ⟨φ, N, .refl, R, rfl⟩
noncomputable def sNil : SM := fun ρ μ => some (.next, ρ, μ)
noncomputable def sSeq (m m' : SM) : SM := fun ρ μ => match m ρ μ with
  | some (.next, ρ1, μ1) => m' ρ1 μ1
  | r => r
theorem dss_nil : DSS D CX k cs [] sNil := by
  rintro c hc O ρ μ φ N s o ρ' μ' R e'
  cases e'
  exact wpAny_execs_nil ⟨φ, N, .refl, R, rfl⟩
theorem dss_cons {st : Stmt} {sts : List Stmt} {m m' : SM} (h : DS D CX k cs st m) (h' : DSS D CX k cs sts m') : DSS D CX k cs (st :: sts) (sSeq m m') := by
  rintro c hc O ρ μ φ N s o ρ' μ' R e'
  unfold sSeq at e'
  cases e1 : m ρ μ with
  | none => rw [e1] at e'; cases e'
  | some r =>
    obtain ⟨o1, ρ1, μ1⟩ := r
    rw [e1] at e'
    refine wpAny_execs_cons (wpAny_mono (h c hc O ρ μ φ N s o1 ρ1 μ1 R e1) (fun fl s1 h1 => ?_) fun x s1 h1 => ?_)
    · obtain ⟨φ1, N1, E1, R1, r1⟩ := h1
      cases o1
      · cases r1
        exact wpAny_mono (h' c hc O ρ1 μ1 φ1 N1 s1 o ρ' μ' R1 e') (fun _ _ h => ps_trans E1 h) fun _ _ h => px_trans E1 h
      · cases r1
        cases e'
        exact ⟨φ1, N1, E1, R1, rfl⟩
      · obtain ⟨u, rfl, hu⟩ := r1
        cases e'
        exact ⟨φ1, N1, E1, R1, u, rfl, hu⟩
      · exact r1.elim
    · obtain ⟨rfl, h1⟩ := h1
      cases e'
      exact ⟨rfl, h1⟩
noncomputable def sIf (t : TM) (m m' : SM) : SM := fun ρ μ => match t ρ μ with
  | some (true, μ1) => m ρ μ1
  | some (false, μ1) => m' ρ μ1
  | none => none
theorem ds_if {t : Expr} {b b' : List Stmt} {pos : Pos} {mt : TM} {m m' : SM} (ht : DT D k cs t mt) (h : DSS D CX k cs b m) (h' : DSS D CX k cs b' m') : DS D CX k cs (.If t b b' pos) (sIf mt m m') := by
  rintro c hc O ρ μ φ N s o ρ' μ' R e
  unfold sIf at e
  cases e1 : mt ρ μ with
  | none => rw [e1] at e; cases e
  | some r =>
    obtain ⟨v, μ1⟩ := r
    rw [e1] at e
    refine wpAny_If (wpAny_mono (ht c hc O ρ μ φ N s v μ1 R e1) (fun w s1 h1 => ?_) fun _ _ => no_elim)
    obtain ⟨φ1, N1, E1, R1, rfl⟩ := h1
    cases w
    · exact wpAny_mono (h' c hc O ρ μ1 φ1 N1 s1 o ρ' μ' R1 e) (fun _ _ h => ps_trans E1.up h) fun _ _ h => px_trans E1.up h
    · exact wpAny_mono (h c hc O ρ μ1 φ1 N1 s1 o ρ' μ' R1 e) (fun _ _ h => ps_trans E1.up h) fun _ _ h => px_trans E1.up h
noncomputable def sWhile (t : TM) (b : SM) : Nat → SM
  | 0 => fun _ _ => none
  | n + 1 => fun ρ μ => match t ρ μ with
    | some (false, μ1) => some (.next, ρ, μ1)
    | some (true, μ1) => match b ρ μ1 with
      | some (.next, ρ2, μ2) => sWhile t b n ρ2 μ2
      | some (.cont, ρ2, μ2) => sWhile t b n ρ2 μ2
      | some (.ret v, ρ2, μ2) => some (.ret v, ρ2, μ2)
      | _ => none
    | none => none
theorem ds_while {t : Expr} {b : List Stmt} {pos : Pos} {mt : TM} {m : SM} (n : Nat) (ht : DT D k cs t mt) (h : DSS D CX k cs b m) : DS D CX k cs (.While t b [] pos) (sWhile mt m n) := by
  rintro c hc O ρ μ φ N s o ρ' μ' R e
  refine wpAny_While (codeAny_whileLoop (fun n s => ∃ ρ μ φ1 N1, Ext c.own φ N φ1 N1 ∧ Rep D c ρ μ φ1 N1 s ∧ sWhile mt m n ρ μ = some (o, ρ', μ')) ?_ n ⟨ρ, μ, φ, N, .refl, R, e⟩)
  clear R e ρ μ s n
  intro n s hI
  refine byc fun hG => ?_
  obtain ⟨ρ, μ, φ0, N0, E0, R, e⟩ := hI
  cases n with
  | zero => cases e
  | succ n =>
    unfold sWhile at e
    cases e1 : mt ρ μ with
    | none => rw [e1] at e; cases e
    | some r =>
      obtain ⟨v, μ1⟩ := r
      rw [e1] at e
      refine hG (wpAny_mono (ht c hc O ρ μ φ0 N0 s v μ1 R e1) (fun w s1 h1 => ?_) fun _ _ => no_elim)
      refine byc fun hG => ?_
      obtain ⟨φ1, N1, E1, R1, rfl⟩ := h1
      cases w
      · cases e
        exact hG (wpAny_execs_nil ⟨φ1, N1, E0.trans E1.up, R1, rfl⟩)
      · dsimp only at e
        cases e2 : m ρ μ1 with
        | none => rw [e2] at e; cases e
        | some r =>
          obtain ⟨o2, ρ2, μ2⟩ := r
          rw [e2] at e
          refine hG (wpAny_mono (h c hc O ρ μ1 φ1 N1 s1 o2 ρ2 μ2 R1 e2) (fun fl s2 h2 => ?_) fun x s2 h2 => ?_)
          · refine byc fun hG => ?_
            obtain ⟨φ2, N2, E2, R2, r2⟩ := h2
            have E3 := (E0.trans E1.up).trans E2
            cases o2
            · cases r2
              exact hG ⟨n, Nat.lt_succ_self _, ρ2, μ2, φ2, N2, E3, R2, e⟩
            · cases r2
              exact hG ⟨n, Nat.lt_succ_self _, ρ2, μ2, φ2, N2, E3, R2, e⟩
            · obtain ⟨u, rfl, hu⟩ := r2
              cases e
              exact hG ⟨φ2, N2, E3, R2, u, rfl, hu⟩
            · exact r2.elim
          · obtain ⟨rfl, _⟩ := h2
            cases e
end
end Mine
end
section
set_option maxRecDepth 10000
open PySem PySem.W PySem.Calls PyProof.Rows
namespace Mine
section
variable {D : Wd} {k : Nat} {cs : Scope} {CX : Addr}
variable {c : Cx} {ρ ρ' : Loc} {μ μ' : Mem} {φ φ1 φ' : Idm} {N N1 N' : Led} {s s' : Shared}
noncomputable def BF (D : Wd) (k : Nat) (f : Value) (m : FM) : Prop := ∀ (c : Cx) (O : Ok D k c) ρ μ φ N s vs us b μ', Rep D c ρ μ φ N s → VRs φ N vs us → m vs μ = some (b, μ') → wpAny (model D.prog D.w) c.A (call f us) (PE D c ρ φ N b μ') no s
theorem de_bf {x : Str} {id : String} {p pos : Pos} {e : Expr} {es : List Expr} {ms : LM} {m : FM} (B : BF D k (.builtin id) m) (ha : DL D k cs (e :: es) ms) (en : nsIn D.K mainGlobals x = some none) (hv : bootBuiltins x = some (.builtin id)) (hx : cs.names.lookup x = some .globalImplicit)
    (hn : x ≠ "__name__" := by decide) (hd : (x == ("__debug__" : Str)) = false := by decide)
    (he : ∀ env, starEach (e :: es) env = (false, eval e env) :: starEach es env := by intro _; rfl) (hplain : ∀ env, (backTo pos (starEach es env)).any (·.1) = false := by intro _; rfl) : DE D k cs (.Call (.Name x p) (e :: es) [] pos) (eCall ms m) := by
  rintro c rfl O ρ μ φ N s b μ' R e'
  replace e' := bind2_eq e'; obtain ⟨vs, μ1, e1, e'⟩ := e'
  obtain ⟨m0, F, l⟩ := R.fr
  refine Call_ (nameX_B F O.X (topRead_of O.T) en hv hn (PyProof.Rows.callWith_builtin1 (wpAny_mono (ha c rfl O pos ρ μ φ N s _ _ R e1) (fun us s1 h1 => ?_) fun _ _ x => x) (he _) (hplain _)) O.fn hx hd)
  refine byc fun hG => ?_
  obtain ⟨φ1, N1, E1, R1, v1⟩ := h1
  exact hG (wpAny_mono (B c O _ _ _ _ _ _ _ _ _ R1 v1 e') (fun _ _ h => pe_trans E1 h) fun _ _ x => x)
theorem de_bt {x : Str} {T : String} {p pos : Pos} {e : Expr} {es : List Expr} {ms : LM} {m : FM} (B : BF D k (.type T) m) (ha : DL D k cs (e :: es) ms) (en : nsIn D.K mainGlobals x = some none) (hv : bootBuiltins x = some (.type T)) (hx : cs.names.lookup x = some .globalImplicit)
    (hn : x ≠ "__name__" := by decide) (hd : (x == ("__debug__" : Str)) = false := by decide)
    (he : ∀ env, starEach (e :: es) env = (false, eval e env) :: starEach es env := by intro _; rfl) (hplain : ∀ env, (backTo pos (starEach es env)).any (·.1) = false := by intro _; rfl) : DE D k cs (.Call (.Name x p) (e :: es) [] pos) (eCall ms m) := by
  rintro c rfl O ρ μ φ N s b μ' R e'
  replace e' := bind2_eq e'; obtain ⟨vs, μ1, e1, e'⟩ := e'
  obtain ⟨m0, F, l⟩ := R.fr
  refine Call_ (nameX_B F O.X (topRead_of O.T) en hv hn (PySem.Pv.callWith_type1 (wpAny_mono (ha c rfl O pos ρ μ φ N s _ _ R e1) (fun us s1 h1 => ?_) fun _ _ x => x) (he _) (hplain _)) O.fn hx hd)
  refine byc fun hG => ?_
  obtain ⟨φ1, N1, E1, R1, v1⟩ := h1
  exact hG (wpAny_mono (B c O _ _ _ _ _ _ _ _ _ R1 v1 e') (fun _ _ h => pe_trans E1 h) fun _ _ x => x)
noncomputable def mLen : FM := fun vs μ => match vs with
  | [.obj n] => match μ.get n with
    | some (.list xs) => if xs.length ≤ 1000 then some (.int xs.length, μ) else none
    | _ => none
  | _ => none
theorem bf_len : BF D k (.builtin "len") mLen := by
  intro c O ρ μ φ N s vs us b μ' R v e
  unfold mLen at e
  split at e
  · rename_i n
    split at e
    · rename_i xs eg
      split at e
      · rename_i hl
        cases e
        refine byc fun hG => ?_
        obtain ⟨u, rfl, h1⟩ := v.one_inv
        obtain ⟨a, us, j, rfl, _, h3, h4⟩ := R.list h1 eg
        refine hG (call_len_list (News.isList R.nw h3) (by rw [List.size_toArray, h4.length]; exact om28 hl) ⟨φ, N, .refl, R.toks, ?_⟩)
        rw [List.size_toArray, h4.length]
        exact vr_int
      · cases e
    · cases e
  · cases e
noncomputable def mAbs : FM := fun vs μ => match vs with
  | [.int i] => some (.int (if i < 0 then -i else i), μ)
  | _ => none
noncomputable def mList : FM := fun vs μ => match vs with
  | [.obj n] => match μ.get n with
    | some (.list xs) => if xs.length ≤ 1000 then some (.obj μ.n, μ.new (.list xs)) else none
    | _ => none
  | _ => none
theorem bf_list : BF D k (.type "list") mList := by
  intro c O ρ μ φ N s vs us b μ' R v e
  unfold mList at e
  split at e
  · rename_i n
    split at e
    · rename_i xs eg
      split at e
      · rename_i hl
        cases e
        refine byc fun hG => ?_
        obtain ⟨u, rfl, h1⟩ := v.one_inv
        obtain ⟨a, us, j, rfl, _, h3, h4⟩ := R.list h1 eg
        obtain ⟨m, F, l⟩ := R.fr
        exact hG (list_copyK F R.nw (News.isList R.nw h3) (fun q j' h' F' N' lt => R.newList h4 l F' N' lt) (by rw [List.size_toArray, h4.length]; exact le_line (by exact om13 hl)))
      · cases e
    · cases e
  · cases e
noncomputable def mDict : FM := fun vs μ => match vs with
  | [.obj n] => match μ.get n with
    | some (.dict es) => if es.length ≤ 1000 then some (.obj μ.n, μ.new (.dict es)) else none
    | _ => none
  | _ => none
theorem bf_dict : BF D k (.type "dict") mDict := by
  intro c O ρ μ φ N s vs us b μ' R v e
  unfold mDict at e
  split at e
  · rename_i n
    split at e
    · rename_i es eg
      split at e
      · rename_i hl
        cases e
        refine byc fun hG => ?_
        obtain ⟨u, rfl, h1⟩ := v.one_inv
        obtain ⟨a, o, kvs, rfl, _, h3, lo, h4, h5⟩ := R.dict h1 eg
        obtain ⟨m, F, l⟩ := R.fr
        refine hG (kt_call_dict lo (kda_dict R.nw h3 h4) (by rw [h5.length]; exact le_line (by exact om13 hl)) fun h' hm hs => ?_)
        obtain ⟨o', ho', hd'⟩ := Heap.dictOf_iff.mp hm
        have N1 := News.push F R.nw { cls := .type "dict", data := .dict #[] }
        exact R.newDict (tk := s.toks) h5 l ((F.push _).change hs (N1 _ (.head _)).2.1 (N1.fresh (.head _))) (N1.setHead R.nw.apart hs ho') (fun p hp => Heap.lt_size (R.nw p hp).1) (F.notModules (modules_low O.T.nolimit)) hd'
      · cases e
    · cases e
  · cases e
theorem mem_filterL {a : Addr} {N : Led} {p : Addr × Obj} (h : p ∈ N) (hp : p.1 ≠ a) : p ∈ N.filter fun q => q.1 != a := List.mem_filter.mpr ⟨h, by simpa using hp⟩
theorem MR.drop (M : MR D.prog D.w φ N μ) {a : Addr} {o : Obj} (ha : a ∉ φ.map (·.2)) (hm : (a, o) ∈ N) (h1 : ∀ us j, o ≠ tupOf us j) : MR D.prog D.w φ (N.filter fun q => q.1 != a) μ where
  fk := M.fk
  fa := M.fa
  nd := List.Nodup.sublist (List.Sublist.map _ List.filter_sublist) M.nd
  lt := M.lt
  ob := fun n o e => (M.ob n o e).mono (fun _ h => h) (fun b us j h => mem_filterL h fun (e : b = a) => h1 us j (led_uniq M.nd hm (by subst e; exact h))) fun b a' o' h3 h4 => mem_filterL h4 fun (e : a' = a) => ha (by subst e; exact List.mem_map_of_mem (f := (·.2)) h3)
  nt := fun x hx us j h => M.nt x hx us j ((List.mem_filter.mp h).1)
  kn := fun x hx => by
    obtain ⟨p, hp, e⟩ := List.mem_map.mp (M.kn x hx)
    refine List.mem_map.mpr ⟨p, mem_filterL hp fun q => ha ?_, e⟩
    rw [← q, e]; exact List.mem_map_of_mem hx
  gt := M.gt
theorem LR.tupsOf {m : Str → Option Value} (h : LR c ρ m φ N) (ht : ∀ a us k, (a, tupOf us k) ∈ N → (a, tupOf us k) ∈ N') (hc : ∀ x a o, c.cl.lookup x = some a → (a, o) ∈ N → (a, o) ∈ N') : LR c ρ m φ N' := fun x v e => by
  rcases h x v e with ⟨h1, u, h2, h3⟩ | ⟨h1, a, o, u, h2, h3, h4, h5⟩
  · exact .inl ⟨h1, u, h2, h3.mono (fun _ h => h) ht⟩
  · exact .inr ⟨h1, a, o, u, h2, hc _ _ _ h2 h3, h4, h5.mono (fun _ h => h) ht⟩
theorem Rep.other (R : Rep D c ρ μ φ N s) {a : Addr} {o o' : Obj} {m : Str → Option Value} {h' : Heap} {tk : Nat} (l : LR c ρ m φ N) (ha : a ∉ φ.map (·.2)) (hm : (a, o) ∈ N) (h1 : ∀ us j, o ≠ tupOf us j) (h2 : ∀ us j, o' ≠ tupOf us j) (hc : ∀ x, c.cl.lookup x ≠ some a) (how : a ∉ c.own) (hlc : ¬ LamCode c.lam o)
    (F' : Fr c.h₀ c.L h' m) (nw : News c.h₀ c.L h' (setA a o' N)) : Rep D c ρ μ φ (setA a o' N) { s with heap := h', toks := tk } where
  fr := ⟨m, F', l.tupsOf (other_tups R.mr.nd hm h1) fun x b ob e h => mem_setA h fun (q : b = a) => hc x (q ▸ e)⟩
  nw := nw
  mr := R.mr.other ha hm h1 h2
  ca := fun x b e => by
    refine byc fun hG => ?_
    obtain ⟨h3, ob, v, h4, h5⟩ := R.ca x b e
    exact hG (⟨h3, ob, v, mem_setA h4 fun (q : b = a) => hc x (q ▸ e), h5⟩)
  ow := R.ow
  tb := fun cc P e => (R.tb cc P e).ext (fun p hp _ h => mem_setA hp fun (q : p.1 = a) => by
    rcases h with h | h
    · exact how (by rw [← q, h]; exact (R.tb cc P e).own)
    · exact hlc (by rw [led_uniq R.mr.nd hm (by rw [← q]; exact hp)]; exact h.2)) fun _ h => .inl h
  gs := R.gs
  os := R.os
theorem Rep.drop (R : Rep D c ρ μ φ N s) {a : Addr} {o : Obj} {m : Str → Option Value} {h' : Heap} {tk : Nat} (l : LR c ρ m φ N) (ha : a ∉ φ.map (·.2)) (hm : (a, o) ∈ N) (h1 : ∀ us j, o ≠ tupOf us j) (hc : ∀ x, c.cl.lookup x ≠ some a) (how : a ∉ c.own) (hlc : ¬ LamCode c.lam o)
    (F' : Fr c.h₀ c.L h' m) (nw : News c.h₀ c.L h' (N.filter fun q => q.1 != a)) : Rep D c ρ μ φ (N.filter fun q => q.1 != a) { s with heap := h', toks := tk } where
  fr := ⟨m, F', l.tupsOf (fun b us j h => mem_filterL h fun (e : b = a) => h1 us j (led_uniq R.mr.nd hm (by subst e; exact h))) fun x b ob e h => mem_filterL h fun (q : b = a) => hc x (q ▸ e)⟩
  nw := nw
  mr := R.mr.drop ha hm h1
  ca := fun x b e => by
    refine byc fun hG => ?_
    obtain ⟨h3, ob, v, h4, h5⟩ := R.ca x b e
    exact hG (⟨h3, ob, v, mem_filterL h4 fun (q : b = a) => hc x (q ▸ e), h5⟩)
  ow := R.ow
  tb := fun cc P e => (R.tb cc P e).ext (fun p hp _ h => mem_filterL hp fun (q : p.1 = a) => by
    rcases h with h | h
    · exact how (by rw [← q, h]; exact (R.tb cc P e).own)
    · exact hlc (by rw [led_uniq R.mr.nd hm (by rw [← q]; exact hp)]; exact h.2)) fun _ h => .inl h
  gs := R.gs
  os := R.os
structure ItAt (c : Cx) (it : Addr) (φ : Idm) (N : Led) (φ1 : Idm) (N1 : Led) (o0 o : Obj) : Prop where
  ext : Ext (it :: c.own) φ ((it, o0) :: N) φ1 N1
  at_ : (it, o) ∈ N1
  new : it ∉ N.map (·.1)
  nt : ∀ us j, o ≠ tupOf us j
section
variable {it : Addr} {o0 o o' : Obj}
theorem ItAt.id (R0 : Rep D c ρ' μ' φ N s') (I : ItAt c it φ N φ1 N1 o0 o) : it ∉ φ1.map (·.2) := fun hm => by
  obtain ⟨q, hq, e⟩ := List.mem_map.mp hm
  rcases I.ext.new q hq with h | h
  · exact I.new (by rw [← e]; exact R0.mr.kn q h)
  · exact h (by rw [e]; exact List.Mem.head _)
theorem ItAt.cell (R0 : Rep D c ρ' μ' φ N s') (I : ItAt c it φ N φ1 N1 o0 o) : ∀ x, c.cl.lookup x ≠ some it := fun x e => by
  refine byc fun hG => ?_
  obtain ⟨_, ob, v, h, _⟩ := R0.ca x it e
  exact hG (I.new (List.mem_map_of_mem (f := (·.1)) h))
theorem ItAt.ow (R0 : Rep D c ρ' μ' φ N s') (I : ItAt c it φ N φ1 N1 o0 o) : it ∉ c.own := fun h => by
  rcases R0.ow it h with ⟨x, e⟩ | ⟨cc, e⟩
  · exact I.cell R0 x e
  · refine byc fun hG => ?_
    obtain ⟨_, _, _, ps, h2, _⟩ := R0.tb _ _ e
    exact hG (I.new (List.mem_map_of_mem (f := (·.1)) h2))
theorem not_lam {x : Str} {o : Obj} {v : Value} {i : Int} {t : Tok} (h : o.data = .fields #[v, .int i t]) : ¬ LamCode x o := fun ⟨vs, t', e, e2⟩ => by
  rw [h] at e; cases e; cases e2
theorem ItAt.body (R0 : Rep D c ρ' μ' φ N s') (I : ItAt c it φ N φ1 N1 o0 o) {φ2 : Idm} {N2 : Led} (E : Ext c.own φ1 N1 φ2 N2) : ItAt c it φ N φ2 N2 o0 o :=
  ⟨I.ext.trans (E.weaken fun _ h => .tail _ h), E.old _ I.at_ (I.id R0) (I.ow R0), I.new, I.nt⟩
theorem ItAt.turn (R0 : Rep D c ρ' μ' φ N s') (I : ItAt c it φ N φ1 N1 o0 o) (h2 : ∀ us j, o' ≠ tupOf us j) : ItAt c it φ N φ1 (setA it o' N1) o0 o' :=
  ⟨I.ext.trans ⟨fun _ h => h, fun p hp _ h => mem_setA hp fun e => h (e ▸ .head _), fun _ h => .inl h, fun b h => by rw [setA_keys]; exact h⟩, mem_setA_self I.at_, I.new, h2⟩
theorem ItAt.drop (I : ItAt c it φ N φ1 N1 o0 o) : Ext c.own φ N φ1 (N1.filter fun q => q.1 != it) where
  ids := I.ext.ids
  old := fun p hp h1 h2 => by
    have hne : p.1 ≠ it := fun e => I.new (by rw [← e]; exact List.mem_map_of_mem (f := (·.1)) hp)
    exact mem_filterL (I.ext.old p (.tail _ hp) h1 fun h => by
      rcases List.mem_cons.mp h with h | h
      · exact hne h
      · exact h2 h) hne
  new := fun q hq => by
    rcases I.ext.new q hq with h | h
    · exact .inl h
    · exact .inr fun hm => h (List.mem_cons_of_mem _ hm)
  keys := fun a h => by
    obtain ⟨p, hp, e⟩ := List.mem_map.mp (I.ext.keys a (List.mem_cons_of_mem _ h))
    refine List.mem_map.mpr ⟨p, mem_filterL hp fun q => I.new ?_, e⟩
    rw [← q, e]; exact h
theorem News.filtered {h₀ h h' : Heap} {L : Addr} (N : News h₀ L h N1) {it : Addr} (he : Heap.ExtBut it h h') : News h₀ L h' (N1.filter fun q => q.1 != it) := fun p hp => by
  obtain ⟨h1, h2⟩ := List.mem_filter.mp hp
  exact ⟨he _ _ (by simpa using h2) (N p h1).1, (N p h1).2⟩
theorem Fr.extIt {h₀ h h' : Heap} {L it : Addr} {m : Str → Option Value} (F : Fr h₀ L h m) (N : News h₀ L h N1) (hm : (it, o) ∈ N1) (he : Heap.ExtBut it h h') : Fr h₀ L h' m := by
  refine byc fun hG => ?_
  obtain ⟨oL, es, ep, hL, r⟩ := F.ns
  refine hG (⟨⟨oL, es, ep, he _ _ (fun e => (N _ hm).2.1 e.symm) hL, r⟩, fun b ob e => he _ _ (fun q => ?_) (F.keep b ob e), F.above⟩)
  have := (N _ hm).2.2
  rw [← q, e] at this; cases this
end
noncomputable def sFor (a : AM) (b : SM) (n : Nat) : Nat → Nat → SM
  | 0, _ => fun _ _ => none
  | f + 1, i => fun ρ μ => match μ.get n with
    | some (.list xs) => match xs[i]? with
      | none => some (.next, ρ, μ)
      | some v => match a v ρ μ with
        | some (ρ1, μ1) => match b ρ1 μ1 with
          | some (.next, ρ2, μ2) => sFor a b n f (i + 1) ρ2 μ2
          | some (.cont, ρ2, μ2) => sFor a b n f (i + 1) ρ2 μ2
          | some (.ret v, ρ2, μ2) => some (.ret v, ρ2, μ2)
          | _ => none
        | none => none
    | _ => none
noncomputable def sForIn (m : EM) (a : AM) (b : SM) (f : Nat) : SM := fun ρ μ => match m ρ μ with
  | some (.obj n, μ1) => sFor a b n f 0 ρ μ1
  | _ => none
theorem VRs.get_none {vs : List V} {us : List Value} {i : Nat} (h : VRs φ N vs us) (e : vs[i]? = none) : us[i]? = none := by
  rw [List.getElem?_eq_none_iff] at e ⊢
  rw [h.length]; exact e
inductive ForI (D : Wd) (c : Cx) (it : Addr) (φ1 : Idm) (N1 : Led) (q : Addr) (a : AM) (mb : SM) (n : Nat) (o : Out) (ρ' : Loc) (μ' : Mem) (f : Nat) (s : Shared) : Prop where
  | mk (i : Nat) (ρ : Loc) (μ : Mem) (φ2 : Idm) (N2 : Led) (oi : Obj) (I : ItAt c it φ1 N1 φ2 N2 { cls := .type "list_iterator", data := .fields #[.ref q, .int 0 0] } oi) (h1 : oi.cls = .type "list_iterator") (h2 : oi.data = .fields #[.ref q, .int i 0]) (R : Rep D c ρ μ φ2 N2 s) (e : sFor a mb n f i ρ μ = some (o, ρ', μ'))
theorem ds_for {t it : Expr} {b : List Stmt} {pos : Pos} {m : EM} {a : AM} {mb : SM} (f : Nat) (hi : DE D k cs it m) (ha : DA D k cs t a) (hb : DSS D CX k cs b mb)
    (hs : ∀ env x, foldedSetIterable it env x = pure x := by intro _ _; rfl) (ht : ∀ it v, letOwnedTupleGo t it v = pure () := by intro _ _; rfl) : DS D CX k cs (.For t it b [] pos) (sForIn m a mb f) := by
  rintro c hc O ρ μ φ N s o ρ' μ' R e
  unfold sForIn at e
  split at e
  case h_2 => cases e
  rename_i n μ1 e1
  refine wpAny_For (wpAny_mono (hi c hc O ρ μ φ N s _ _ R e1) (fun u s1 h1 => ?_) fun _ _ => no_elim) (hs _)
  refine byc fun hG => ?_
  obtain ⟨φ1, N1, E1, R1, v1⟩ := h1
  obtain ⟨xs0, eg0⟩ : ∃ xs, μ1.get n = some (.list xs) := by
    cases f with
    | zero => cases e
    | succ f =>
      unfold sFor at e
      split at e
      · rename_i xs eg; exact ⟨xs, eg⟩
      · cases e
  obtain ⟨q, us0, j0, rfl, hq, h3, h4⟩ := R1.list v1 eg0
  obtain ⟨m1, F1, l1⟩ := R1.fr
  refine hG (wpAny_pyIter_list (News.isList R1.nw h3) ?_)
  clear hG
  have hk : s1.heap.objs.size ∉ N1.map (·.1) := R1.notKey fun p hp => Heap.lt_size (R1.nw p hp).1
  have N2 := News.push F1 R1.nw { cls := .type "list_iterator", data := .fields #[.ref q, .int 0 0] }
  have R2 : Rep D c ρ μ1 φ1 ((s1.heap.objs.size, { cls := .type "list_iterator", data := .fields #[.ref q, .int 0 0] }) :: N1) { s1 with heap := s1.heap.push { cls := .type "list_iterator", data := .fields #[.ref q, .int 0 0] } } :=
    R1.next (tk := s1.toks) more_ext l1 (F1.push _) N2 (R1.mr.more hk)
  have I0 : ItAt c s1.heap.objs.size φ1 N1 φ1 ((s1.heap.objs.size, { cls := .type "list_iterator", data := .fields #[.ref q, .int 0 0] }) :: N1) { cls := .type "list_iterator", data := .fields #[.ref q, .int 0 0] } { cls := .type "list_iterator", data := .fields #[.ref q, .int 0 0] } :=
    ⟨.refl, .head _, hk, fun us j e => by have := congrArg Obj.cls e; simp at this⟩
  refine codeAny_forLoop (ForI D c s1.heap.objs.size φ1 N1 q a mb n o ρ' μ')
    ?_ f ⟨0, ρ, μ1, φ1, _, _, I0, rfl, rfl, R2, e⟩ (ht _)
  clear N2 R2 I0 hk e e1 eg0 h3 h4
  intro f s2 hI
  refine byc fun hG => ?_
  obtain ⟨i, ρ2, μ2, φ2, N2, oi, I, hcls, hdat, R2, e⟩ := hI
  cases f with
  | zero => cases e
  | succ f =>
    unfold sFor at e
    split at e
    case h_2 => cases e
    rename_i xs eg
    have hq2 : ((n, false), q) ∈ φ2 := I.ext.ids _ hq
    obtain ⟨q', us, j, eq, hq', h3, h4⟩ := R2.list (u := .ref q) (by simp only [VR]; exact ⟨q, hq2, rfl⟩) eg
    cases eq
    have hl := News.isList R2.nw h3
    have hit : s2.heap.IsListIter s1.heap.objs.size q i := ⟨oi, (R2.nw _ I.at_).1, hcls, hdat⟩
    obtain ⟨m2, F2, l2⟩ := R2.fr
    have hid := I.id R1
    have hce := I.cell R1
    cases ex : xs[i]? with
    | none =>
      rw [ex] at e
      cases e
      refine hG (wpAny_pyNext_list_end O.hh hit hl (by simpa using h4.get_none ex) fun h' he => ?_)
      refine wpAny_execs_nil ⟨φ2, _, E1.up.trans I.drop, R2.drop (tk := s2.toks) l2 hid I.at_ I.nt hce (I.ow R1) (not_lam hdat) (Fr.extIt F2 R2.nw I.at_ he) (News.filtered R2.nw he), rfl⟩
    | some v =>
      rw [ex] at e
      dsimp only at e
      obtain ⟨u, hu, hv⟩ := h4.get ex
      refine hG (wpAny_pyNext_list_item hit hl (by simpa using hu) fun h' hit' hsb => ?_)
      clear hG
      refine byc fun hG => ?_
      obtain ⟨o', ho', hc', hd'⟩ := hit'
      have nt' : ∀ us j, o' ≠ tupOf us j := fun us j e => by subst e; simp at hc'
      have nL := (R2.nw _ I.at_).2
      have F3 : Fr c.h₀ c.L h' m2 := F2.change hsb nL.1 nL.2
      have N3 : News c.h₀ c.L h' (setA s1.heap.objs.size o' N2) := R2.nw.update I.at_ hsb ho'
      have I3 := I.turn R1 nt'
      have R3 := R2.other (tk := s2.toks) l2 hid I.at_ I.nt nt' hce (I.ow R1) (not_lam hdat) F3 N3
      have hv3 : VR φ2 (setA s1.heap.objs.size o' N2) v u := hv.mono (fun _ h => h) (other_tups R2.mr.nd I.at_ I.nt)
      cases ea : a v ρ2 μ2 with
      | none => rw [ea] at e; cases e
      | some r =>
        obtain ⟨ρ3, μ3⟩ := r
        rw [ea] at e
        dsimp only at e
        refine hG (wpAny_mono (ha c hc O ρ2 μ2 φ2 _ _ _ _ _ _ R3 hv3 ea) (fun _ s4 h4' => ?_) fun _ _ => no_elim)
        clear hG
        refine byc fun hG => ?_
        obtain ⟨φ4, N4, E4, R4⟩ := h4'
        have I4 := I3.body R1 E4
        cases eb : mb ρ3 μ3 with
        | none => rw [eb] at e; cases e
        | some r =>
          obtain ⟨o5, ρ5, μ5⟩ := r
          rw [eb] at e
          refine hG (wpAny_mono (hb c hc O ρ3 μ3 φ4 N4 s4 o5 ρ5 μ5 R4 eb) (fun fl s5 h5 => ?_) fun x s5 h5 => ?_)
          · obtain ⟨φ5, N5, E5, R5, r5⟩ := h5
            have I5 := I4.body R1 E5
            cases o5
            · cases r5
              exact ⟨f, Nat.lt_succ_self _, i + 1, ρ5, μ5, φ5, N5, o', I5, hc', hd', R5, e⟩
            · cases r5
              exact ⟨f, Nat.lt_succ_self _, i + 1, ρ5, μ5, φ5, N5, o', I5, hc', hd', R5, e⟩
            · obtain ⟨u5, rfl, hu5⟩ := r5
              cases e
              obtain ⟨m5, F5, l5⟩ := R5.fr
              have R6 := R5.drop (tk := s5.toks) l5 (I5.id R1) I5.at_ I5.nt (I5.cell R1) (I5.ow R1) (not_lam hd') F5 (News.filtered R5.nw (Heap.ExtBut.refl _ _))
              exact ⟨φ5, _, E1.up.trans I5.drop, R6, u5, rfl, hu5.mono (fun _ h => h) fun b us j h => mem_filterL h fun (e : b = s1.heap.objs.size) => I5.nt us j (led_uniq R5.mr.nd I5.at_ (by rw [← e]; exact h))⟩
            · exact r5.elim
          · obtain ⟨rfl, _⟩ := h5
            cases e
end
end Mine
end
section
set_option maxRecDepth 10000
open PySem PySem.W PySem.Calls PyProof.Rows
namespace Mine
section
variable {D : Wd} {k : Nat} {CX : Addr}
variable {c : Cx} {ρ ρ' : Loc} {μ μ' : Mem} {φ φ1 φ' : Idm} {N N1 N' : Led} {s s' : Shared}
theorem mem_of_lookup {α β : Type} [BEq α] [LawfulBEq α] {l : List (α × β)} {x : α} {b : β} (h : l.lookup x = some b) : (x, b) ∈ l := by
  induction l with
  | nil => cases h
  | cons p r ih =>
    rw [List.lookup_cons] at h
    cases q : x == p.1 with
    | true =>
      rw [q] at h
      cases h
      have := eq_of_beq q
      subst this
      exact List.Mem.head _
    | false => rw [q] at h; exact List.mem_cons_of_mem _ (ih h)
noncomputable def BR (φ : Idm) (N : Led) : List (Str × V) → List (Str × Value) → Prop
  | [], us => us = []
  | e :: es, us => ∃ u us', us = (e.1, u) :: us' ∧ VR φ N e.2 u ∧ BR φ N es us'
theorem BR.zip : ∀ {ps : List Str} {vs : List V} {us : List Value}, VRs φ N vs us → BR φ N (ps.zip vs) (ps.zip us)
  | [], _, _, _ => rfl
  | _ :: _, [], _, h => by simp only [VRs] at h; subst h; rfl
  | p :: ps, v :: vs, _, h => by
    simp only [VRs] at h
    refine byc fun hG => ?_
    obtain ⟨u, us', rfl, h1, h2⟩ := h
    exact hG (⟨u, ps.zip us', rfl, h1, BR.zip h2⟩)
theorem BR.append : ∀ {l l' : List (Str × V)} {r r' : List (Str × Value)}, BR φ N l r → BR φ N l' r' → BR φ N (l ++ l') (r ++ r')
  | [], _, _, _, h, h' => by cases h; exact h'
  | _ :: _, _, _, _, ⟨u, us', rfl, h1, h2⟩, h' => ⟨u, _, rfl, h1, BR.append h2 h'⟩
theorem BR.reverse : ∀ {l : List (Str × V)} {r : List (Str × Value)}, BR φ N l r → BR φ N l.reverse r.reverse
  | [], _, h => by cases h; rfl
  | e :: l, _, ⟨u, us', rfl, h1, h2⟩ => by
    rw [List.reverse_cons, List.reverse_cons]
    exact BR.append (BR.reverse h2) ⟨u, [], rfl, h1, rfl⟩
theorem BR.lookup : ∀ {l : List (Str × V)} {r : List (Str × Value)}, BR φ N l r → ∀ {x : Str} {v : V}, l.lookup x = some v → ∃ u, r.lookup x = some u ∧ VR φ N v u
  | [], _, _, _, _, e => by cases e
  | (y, w) :: l, _, ⟨u, us', rfl, h1, h2⟩, x, v, e => by
    rw [List.lookup_cons] at e ⊢
    cases q : x == y with
    | true => rw [q] at e; cases e; exact ⟨u, rfl, h1⟩
    | false => rw [q] at e; exact BR.lookup h2 e
noncomputable def bindv (ps : List Str) (vs : List V) : Loc := fun x => (ps.zip vs).reverse.lookup x
noncomputable abbrev Cx.sub (c : Cx) (A : Around) (g : Heap) (L : Addr) (qual : Str) (scope : Scope) (f : Addr) (cdv : Value) : Cx :=
  { A₀ := A, base := c.base, outer := c.env :: c.outer, h₀ := g, L := L, cn := qual, cs := scope, a := f, ccd := cdv, cl := [], own := [], os := c.os, tab := none }
theorem OkA.sub {A : Around} (O : OkA D (k + 1) c A) {g : Heap} {L : Addr} {qual : Str} {scope : Scope} {f : Addr} {cdv : Value} (B : Below A c.base (c.env :: c.outer) g) (X : D.K.In g) (T : Top D.p D.loose D.mean D.mg D.mb g)
    (hk : scope.kind = .function) (hcell : ∀ x ∈ scope.names, x.2 ≠ .cell) (hscr : scope.names.lookup ("script" : Str) ≠ some .local) : Ok D k (c.sub A g L qual scope f cdv) where
  B := B
  X := X
  T := T
  XB := O.XB
  TB := O.TB
  fn := hk
  hh := O.hh
  hd := by have := O.hd; show A.depth + 1 + k < _; exact om29 this
  hu := by have := O.hu; show A.units + 200 + 8 * k < _; exact om30 this
  ci := fun _ _ _ e => nomatch e
  co := fun x h => absurd rfl (hcell _ (mem_of_lookup h))
  tk := fun h => absurd h hscr
theorem Rep.enter (R : Rep D c ρ μ φ N s) {A : Around} {g h₁ : Heap} {L : Addr} {qual : Str} {scope : Scope} {f : Addr} {cdv : Value} {ps : List Str} {vs : List V} {us : List Value} {tk : Nat} (v : VRs φ N vs us)
    (hloc : ∀ x ∈ ps, scope.names.lookup x = some .local) (F : Fr g L h₁ (fun y => (ps.zip us).reverse.lookup y)) (nw : News g L h₁ N) : Rep D (c.sub A g L qual scope f cdv) (bindv ps vs) μ φ N { s with heap := h₁, toks := tk } where
  fr := ⟨_, F, fun x w e => by
    obtain ⟨u, h1, h2⟩ := (BR.zip v).reverse.lookup e
    exact .inl ⟨hloc x (List.of_mem_zip (List.mem_reverse.mp (mem_of_lookup e))).1, u, h1, h2⟩⟩
  nw := nw
  mr := R.mr
  ca := fun x a e => by cases e
  ow := fun a h => nomatch h
  tb := fun cc P e => nomatch e
  gs := R.gs
  os := R.os
theorem Rep.back (R : Rep D c ρ μ φ N s) (E : Ext [] φ N φ' N') {m : Str → Option Value} (l : LR c ρ m φ N) (F : Fr c.h₀ c.L s'.heap m) (nw : News c.h₀ c.L s'.heap N') (mr : MR D.prog D.w φ' N' μ') (gs : s'.gens = #[]) (os : s'.os = c.os) : Rep D c ρ μ' φ' N' s' :=
  let R' := R.next (tk := s'.toks) E l F nw mr
  ⟨R'.fr, R'.nw, R'.mr, R'.ca, R'.ow, R'.tb, gs, os⟩
noncomputable def runBody (m : SM) (ps : List Str) : FM := fun vs μ => if vs.length = ps.length then match m (bindv ps vs) μ with
  | some (.ret v, _, μ') => some (v, μ')
  | some (.next, _, μ') => some (.none, μ')
  | _ => none
  else none
theorem fn_of {name qual : Str} {params : Arguments} {body : List Stmt} {scope : Scope} {dV kV doc pm cdv ct oc : Value} {an od : Option Addr} {osl : Array (Option Value)} {f : Addr} {m : SM} (ps : List Str)
    (ho : D.K.lookup f = some ⟨oc, od, .func (fnOf name qual params body scope dV kV doc pm an cdv ct), osl⟩) (hcd : codeIn D.K cdv qual = true)
    (hb : ∀ s us, D.K.In s.heap → us.length = ps.length → BindsTo s (fnOf name qual params body scope dV kV doc pm an cdv ct) ⟨us, []⟩ (ps.zip us)) (hloc : ∀ x ∈ ps, scope.names.lookup x = some .local)
    (h : DSS D CX k scope body m) (hscr : scope.names.lookup ("script" : Str) ≠ some .local) (hcell : ∀ x ∈ scope.names, x.2 ≠ .cell := by decide)
    (hco : scope.isCoroutine = false := by rfl) (hgen : scope.isGenerator = false := by rfl) (hk : scope.kind = .function := by rfl) : FnS D (k + 1) (.ref f) (runBody m ps) := by
  intro c A O ρ μ φ N s us vs b μ' R v e
  unfold runBody at e
  split at e
  case isFalse => cases e
  rename_i hlen
  obtain ⟨m0, F, l⟩ := R.fr
  refine W.code_def O.B F O.X R.nw O.T O.fr rfl O.fn ho hcd (by have := O.hd; exact om31 this) (hb s us (O.X.keeps F.keep) (by rw [v.length]; exact hlen)) (fun y hy => hloc _ (List.of_mem_zip hy).1) (fun g L' h₁ FG F' N' B' X' T' => ?_) hco hgen hk hcell
  have O' : Ok D k (c.sub A g L' qual scope f cdv) := O.sub B' X' T' hk hcell hscr
  have R' := R.enter (A := A) (g := g) (L := L') (qual := qual) (scope := scope) (f := f) (cdv := cdv) (tk := s.toks + (ps.zip us).length) v hloc F' N'
  cases em : m (bindv ps vs) μ with
  | none => rw [em] at e; cases e
  | some r =>
    obtain ⟨o, ρ2, μ2⟩ := r
    rw [em] at e
    refine wpAny_mono (h _ rfl O' _ _ _ _ _ o ρ2 μ2 R' em) (fun fl s2 h2 => ?_) fun x s2 h2 => ?_
    · refine byc fun hG => ?_
      obtain ⟨φ2, N2, E2, R2, r2⟩ := h2
      obtain ⟨m2, F2, _⟩ := R2.fr
      refine hG (leaveK_ F2 R2.nw fun F3 N3 => ?_)
      cases o
      · cases r2; cases e
        exact ⟨.none, rfl, φ2, N2, E2, R.back E2 l F3 N3 R2.mr R2.gs R2.os, vr_none⟩
      · cases e
      · obtain ⟨u, rfl, hu⟩ := r2; cases e
        exact ⟨u, rfl, φ2, N2, E2, R.back E2 l F3 N3 R2.mr R2.gs R2.os, hu⟩
      · cases e
    · obtain ⟨rfl, _⟩ := h2
      cases e
noncomputable abbrev XM := List V → Mem → Option Mem
noncomputable def PXF (D : Wd) (c : Cx) (CX : Addr) (φ : Idm) (N : Led) (μ' : Mem) (e : Value) (s' : Shared) : Prop :=
  ∃ e0 t vs g m φ' N', e = .ref e0 ∧ Ext [] φ N φ' N' ∧ MR D.prog D.w φ' N' μ' ∧ s'.gens = #[] ∧ s'.os = c.os ∧ Fr c.h₀ c.L g m ∧ RaisedS c.base g (c.env :: c.outer) e0 (.ref CX) t vs N' s'.heap ∧ g.UpToSlots s'.heap
noncomputable def FnX (D : Wd) (CX : Addr) (k : Nat) (f : Value) (m : XM) : Prop := ∀ c A, OkA D k c A → ∀ ρ μ φ N s us vs μ', Rep D c ρ μ φ N s → VRs φ N vs us → m vs μ = some μ' →
  codeAny (model D.prog D.w) A (.call f ⟨us, []⟩) (fun r s' => ∃ e, r = .error e ∧ PXF D c CX φ N μ' e s') s
noncomputable def raiseBody (m : SM) (ps : List Str) : XM := fun vs μ => if vs.length = ps.length then match m (bindv ps vs) μ with
  | some (.exc, _, μ') => some μ'
  | _ => none
  else none
theorem fnx_of {name qual : Str} {params : Arguments} {body : List Stmt} {scope : Scope} {dV kV doc pm cdv ct oc : Value} {an od : Option Addr} {osl : Array (Option Value)} {f : Addr} {m : SM} (ps : List Str)
    (ho : D.K.lookup f = some ⟨oc, od, .func (fnOf name qual params body scope dV kV doc pm an cdv ct), osl⟩) (hcd : codeIn D.K cdv qual = true)
    (hb : ∀ s us, D.K.In s.heap → us.length = ps.length → BindsTo s (fnOf name qual params body scope dV kV doc pm an cdv ct) ⟨us, []⟩ (ps.zip us)) (hloc : ∀ x ∈ ps, scope.names.lookup x = some .local)
    (h : DSS D CX k scope body m) (hscr : scope.names.lookup ("script" : Str) ≠ some .local) (hcell : ∀ x ∈ scope.names, x.2 ≠ .cell := by decide)
    (hco : scope.isCoroutine = false := by rfl) (hgen : scope.isGenerator = false := by rfl) (hk : scope.kind = .function := by rfl) : FnX D CX (k + 1) (.ref f) (raiseBody m ps) := by
  intro c A O ρ μ φ N s us vs μ' R v e
  unfold raiseBody at e
  split at e
  case isFalse => cases e
  rename_i hlen
  obtain ⟨m0, F, l⟩ := R.fr
  refine W.code_def O.B F O.X R.nw O.T O.fr rfl O.fn ho hcd (by have := O.hd; exact om31 this) (hb s us (O.X.keeps F.keep) (by rw [v.length]; exact hlen)) (fun y hy => hloc _ (List.of_mem_zip hy).1) (fun g L' h₁ FG F' N' B' X' T' => ?_) hco hgen hk hcell
  have O' : Ok D k (c.sub A g L' qual scope f cdv) := O.sub B' X' T' hk hcell hscr
  have R' := R.enter (A := A) (g := g) (L := L') (qual := qual) (scope := scope) (f := f) (cdv := cdv) (tk := s.toks + (ps.zip us).length) v hloc F' N'
  split at e
  case h_2 => cases e
  rename_i ρ2 μ2 em
  cases e
  refine wpAny_mono (h _ rfl O' _ _ _ _ _ _ _ _ R' em) (fun fl s2 h2 => ?_) fun x s2 h2 => ?_
  · refine byc fun hG => ?_
    obtain ⟨φ2, N2, E2, R2, r2⟩ := h2
    exact hG (r2.elim)
  · refine byc fun hG => ?_
    obtain ⟨_, e0, φ2, N2, rfl, E2, mr, gs, os, hl⟩ := h2
    exact hG (hl _ _ fun h' t vs' RS U => ⟨.ref e0, rfl, e0, t, vs', g, m0, φ2, N2, rfl, E2, mr, gs, os, FG, RS, U⟩)
theorem MR.newInst (M : MR D.prog D.w φ N μ) {C x d : Addr} (hx : x ∉ N.map (·.1)) (hd : d ∉ N.map (·.1)) (hxd : d ≠ x) : MR D.prog D.w (((μ.n, false), x) :: ((μ.n, true), d) :: φ) ((x, instObj C d) :: (d, W.dictOf [] 0) :: N) (μ.new (.inst C [])) where
  fk := by
    rw [List.map_cons, List.nodup_cons, List.map_cons, List.nodup_cons]
    refine ⟨fun hm => ?_, fun hm => ?_, M.fk⟩
    · rcases List.mem_cons.mp hm with e | hm
      · cases e
      · obtain ⟨y, hy, e⟩ := List.mem_map.mp hm
        have := M.lt y hy; rw [e] at this; exact Nat.lt_irrefl _ this
    · obtain ⟨y, hy, e⟩ := List.mem_map.mp hm
      have := M.lt y hy; rw [e] at this; exact Nat.lt_irrefl _ this
  fa := by
    rw [List.map_cons, List.nodup_cons, List.map_cons, List.nodup_cons]
    refine ⟨fun hm => ?_, fun hm => ?_, M.fa⟩
    · rcases List.mem_cons.mp hm with e | hm
      · exact hxd e.symm
      · obtain ⟨y, hy, e⟩ := List.mem_map.mp hm
        exact hx (by have := M.kn y hy; rw [e] at this; exact this)
    · obtain ⟨y, hy, e⟩ := List.mem_map.mp hm
      exact hd (by have := M.kn y hy; rw [e] at this; exact this)
  nd := by
    rw [List.map_cons, List.nodup_cons, List.map_cons, List.nodup_cons]
    refine ⟨fun hm => ?_, hd, M.nd⟩
    rcases List.mem_cons.mp hm with e | hm
    · exact hxd e.symm
    · exact hx hm
  lt := fun y hy => by
    show _ < μ.n + 1
    rcases List.mem_cons.mp hy with rfl | hy
    · exact Nat.lt_succ_self _
    · rcases List.mem_cons.mp hy with rfl | hy
      · exact Nat.lt_succ_self _
      · exact Nat.lt_succ_of_lt (M.lt y hy)
  ob := fun j oj e => by
    have e' : (if j = μ.n then some (AO.inst C []) else μ.get j) = some oj := e
    by_cases hj : j = μ.n
    · rw [if_pos hj] at e'; cases e'; rw [hj]
      exact ⟨x, d, [], 0, .head _, .tail _ (.head _), .head _, .tail _ (.head _), rfl⟩
    · rw [if_neg hj] at e'
      exact (M.ob j oj e').mono (fun _ h => .tail _ (.tail _ h)) (fun _ _ _ h => .tail _ (.tail _ h)) fun _ _ _ _ h => .tail _ (.tail _ h)
  nt := fun y hy us j hm => by
    rcases List.mem_cons.mp hy with rfl | hy
    · rcases List.mem_cons.mp hm with e | hm
      · exact instObj_ne us j (Prod.mk.inj e).2.symm
      · rcases List.mem_cons.mp hm with e | hm
        · exact hxd (Prod.mk.inj e).1.symm
        · exact hx (List.mem_map_of_mem (f := (·.1)) hm)
    · rcases List.mem_cons.mp hy with rfl | hy
      · rcases List.mem_cons.mp hm with e | hm
        · exact hxd (Prod.mk.inj e).1
        · rcases List.mem_cons.mp hm with e | hm
          · exact dictOf_ne us j (Prod.mk.inj e).2.symm
          · exact hd (List.mem_map_of_mem (f := (·.1)) hm)
      · rcases List.mem_cons.mp hm with e | hm
        · exact hx (by have := M.kn y hy; rw [(Prod.mk.inj e).1] at this; exact this)
        · rcases List.mem_cons.mp hm with e | hm
          · exact hd (by have := M.kn y hy; rw [(Prod.mk.inj e).1] at this; exact this)
          · exact M.nt y hy us j hm
  kn := fun y hy => by
    rcases List.mem_cons.mp hy with rfl | hy
    · exact List.mem_map.mpr ⟨(x, instObj C d), List.Mem.head _, rfl⟩
    · rcases List.mem_cons.mp hy with rfl | hy
      · exact List.mem_map.mpr ⟨(d, W.dictOf [] 0), .tail _ (.head _), rfl⟩
      · exact List.mem_cons_of_mem _ (List.mem_cons_of_mem _ (M.kn y hy))
  gt := fun j hj => by
    have hj' : μ.n + 1 ≤ j := hj
    show (if j = μ.n then _ else _) = _
    rw [if_neg (by exact om2 hj')]; exact M.gt j (by exact om3 hj')
noncomputable def mNew (C : Addr) (m : FM) : FM := fun vs μ => match m (.obj μ.n :: vs) (μ.new (.inst C [])) with
  | some (.none, μ') => some (.obj μ.n, μ')
  | _ => none
theorem under_tc {A : Around} {C : Addr} {us : List Value} {kw : List (Str × Value)} (O : OkA D (k + 2) c A) : OkA D k c (A.under (.builtin "type.__call__" ⟨.ref C :: us, kw⟩)) where
  B := O.B
  X := O.X
  T := O.T
  XB := O.XB
  TB := O.TB
  fn := O.fn
  fr := O.fr
  hh := O.hh
  hd := by
    have h1 := O.hd
    rw [W.depth_under_kw]
    exact om32 h1
  hu := by
    have h1 := O.hu
    have : (Code.builtin "type.__call__" ⟨.ref C :: us, kw⟩).cUnits = 1 := rfl
    show A.units + (Code.builtin "type.__call__" ⟨.ref C :: us, kw⟩).cUnits + 200 + 8 * k < _
    rw [this]
    exact om33 h1
  ci := O.ci
theorem new_of {C fI : Addr} {m : FM} (hm : makesIn D.K C = true) (hi : findIn D.K (.ref C) "__init__" = some (some (.ref fI))) (hf : typeIn D.K (.ref fI) = some (.type "function")) (h : FnS D k (.ref fI) m) : FnS D (k + 2) (.ref C) (mNew C m) := by
  intro c A O ρ μ φ N s us vs b μ' R v e
  unfold mNew at e
  split at e
  case h_2 => cases e
  rename_i μ2 em
  cases e
  obtain ⟨m0, F, l⟩ := R.fr
  refine make_K F R.nw (O.X.keeps F.keep) hm hi hf fun x dx h' F' N' lt hlt => ?_
  have hd := R.notKey lt
  have hx : x ∉ N.map (·.1) := R.notKey fun p hp => Nat.lt_trans (lt p hp) hlt
  have E : Ext [] φ N (((μ.n, false), x) :: ((μ.n, true), dx) :: φ) ((x, instObj C dx) :: (dx, W.dictOf [] 0) :: N) := by
    refine (new_ext (x := (μ.n, true)) hd).trans (new_ext fun hm => ?_)
    rcases List.mem_cons.mp hm with e | hm
    · exact absurd hlt (by rw [show x = dx from e]; exact Nat.lt_irrefl _)
    · exact hx hm
  have R1 : Rep D c ρ (μ.new (.inst C [])) _ _ { s with heap := h' } := R.next (tk := s.toks) E l F' N' (R.mr.newInst hx hd (Nat.ne_of_lt hlt))
  refine codeAny_mono (h c _ (under_tc O) ρ _ _ _ _ (.ref x :: us) (.obj μ.n :: vs) .none μ' R1 (.cons (by simp only [VR]; exact ⟨x, .head _, rfl⟩) (R.vrs E v)) em) fun r s2 h2 => ?_
  refine byc fun hG => ?_
  obtain ⟨u, rfl, φ2, N2, E2, R2, hu⟩ := h2
  simp only [VR] at hu
  subst hu
  exact hG (⟨rfl, .ref x, rfl, φ2, N2, E.trans E2, R2, by simp only [VR]; exact ⟨x, E2.ids _ (.head _), rfl⟩⟩)
end
end Mine
end
section
set_option maxRecDepth 10000
open PySem PySem.W PySem.Calls PyProof.Rows
open Builtin Builtin.ObjectAttr
namespace Mine
section
variable {prog : Program} {w : World} {A : Around} {E : Value → Shared → Prop} {h : Heap} {g : Array GenState} {d : Drawn} {t : Nat} {os : OsState}
variable {nm q : Str} {C N x : Addr} {bs bm : List Value} {hdct : Bool} {sn : List Str} {sub : List Value} {ab : Bool} {col : Option Bool} {dd : Option Addr} {k0 k1 k2 k3 k5 : Option Value} {B newId sa owner : String}
  {mN : Str → Option Value} {name : Str} {v : Value} {env : Env}
theorem first_attr {Q : Unit → Shared → Prop} {o : Obj} {fs : Array Value} (SF : StoreFacts B bm sa owner)
    (hC : h.get? C = some (excClassObj nm q C N bs bm true sn sub ab col dd k0 k1 k2 k3 k5 newId)) (hn : h.Ns N mN) (hns : mN "__setattr__" = none) (hna : mN name = none)
    (hB : typeLookup (.type B) name = pure none) (hx : h.get? x = some o) (hc : o.cls = .ref C) (hdn : o.dict = none) (hf : o.data = .fields fs)
    (hq : ∀ h' tk', h'.get? x = some { o with dict := some h.objs.size } → h'.Ns1 h.objs.size (fun y => if y = name then some v else none) →
      (∀ b o, b ≠ x → h.get? b = some o → h'.get? b = some o) → Q () ⟨h', g, d, tk', os⟩) :
    wpAny (model prog w) A (setAttr (.ref x) name v) Q E ⟨h, g, d, t, os⟩ := by
  have f3 := SF.slot.bind (.ref x)
  have hpass := SF.passes (.ref x)
  unfold setAttr callSpecial? specialOf
  repeat (any_goals (first | assumption | (with_reducible refine wpAny_loadPart_at hx ?_; rw [hc]) | (with_reducible refine wpAny_typeLookup_exc hC hn SF.mro SF.slot.lookup ?_; rw [hns]) | wp_step))
  refine codeAny_call_builtin SF.slot.plain SF.entry (wpAny_check_sa SF hC hx hc ?_)
  unfold Builtin.«object.__setattr__»
  repeat (first | rw [refuse_eq] | (rw [refuseLoop_ref, hpass]) | (with_reducible refine wpAny_loadPart_at hx ?_; rw [hc]) | with_reducible refine wpAny_mroOf_exc hC ?_ | (with_reducible refine wpAny_typeLookup_exc hC hn SF.mro hB ?_; rw [hna]) | wp_step)
  rw [hdn, if_neg (by simp [typeHasDict])]
  have hx₁ : (h.push { cls := .type "dict", data := .dict #[] }).get? x = some o := Heap.get?_push_of_some _ hx
  have hxs : x ≠ h.objs.size := Nat.ne_of_lt (Heap.lt_size hx)
  rw [hf]
  refine wpAny_bind (wpAny_alloc' (wpAny_bind (wpAny_update' hx₁ (wpAny_pure ?_))))
  have hgd : ((h.push { cls := .type "dict", data := .dict #[] }).update x fun o => { cls := o.cls, dict := some h.objs.size, data := o.data, slots := o.slots }).get? h.objs.size
      = some { cls := .type "dict", data := .dict #[] } :=
    (Heap.get?_update_ne _ _ _ _ hxs.symm).trans (Heap.get?_push_at rfl rfl)
  have hnd : ((h.push { cls := .type "dict", data := .dict #[] }).update x fun o => { cls := o.cls, dict := some h.objs.size, data := o.data, slots := o.slots }).Ns h.objs.size (fun _ => none) :=
    ⟨_, #[], _, hgd, rfl, fun e he => absurd he (by simp), fun _ => rfl⟩
  show wpAny _ _ (storeInDict h.objs.size _ name v) _ _ _
  unfold storeInDict newKeyGuard
  refine wpAny_bind (wpAny_pure (wpAny_bind (wpAny_nsSet1 (Heap.Ns1.of_empty hnd) fun h' hn' hs => ?_)))
  refine byc fun hG => ?_
  obtain ⟨oD, esD, epD, hoD, hdD, hcD⟩ := hn'.count (Within.cons name v Within.nil)
  refine hG (wpAny_bind (wpAny_lookBehind hoD (by rw [hdD]; exact pastItsLine_dict (Nat.le_trans hcD (by rw [List.length_cons, List.length_nil, sizeLine_eq]; decide))) ?_))
  wp_walk
  repeat (any_goals (first | assumption | wp_step))
  refine hq h' _ ?_ hn' fun b ob hb e => ?_
  · refine (hs.2 x hxs).trans (Heap.get?_update_self _ hx₁ ?_)
    have hfr := (Heap.get?_some_iff.mp hx).2
    obtain ⟨oc, od, odt, osl⟩ := o
    cases hf
    rfl
  · exact (hs.2 b (Nat.ne_of_lt (Heap.lt_size e))).trans ((Heap.get?_update_ne _ _ _ _ hb).trans (Heap.get?_push_of_some _ e))
theorem raise_own {s : Shared} {z : Sem Value} {Q : Flow → Shared → Prop} (hbase : bm.contains (.type "BaseException") = true) (hh : A.handled = none) {M : Model}
    (hz : wpAny M A z (fun u s₁ => ∃ e t dx, u = .ref e ∧ s₁.heap.get? C = some (excClassObj nm q C N bs bm hdct sn sub ab col dd k0 k1 k2 k3 k5 newId) ∧
      s₁.heap.get? e = some { cls := .ref C, dict := some dx, data := .fields #[.ref t, .none, .none, .none, .bool false, .none] } ∧ E (.ref e) s₁) E s) :
    wpAny M A (raiseStmt env (some z) none) Q E s := by
  have hcB : (Value.ref C :: bm).contains (.type "BaseException") = true := by rw [List.contains_cons, hbase, Bool.or_true]
  unfold raiseStmt
  refine wpAny_bind (wpAny_mono hz (fun u s₁ h₁ => ?_) fun _ _ x => x)
  obtain ⟨e, t, dx, rfl, hC, he, hE⟩ := h₁
  obtain ⟨hp, g, d, tk, os⟩ := s₁
  repeat (first | with_reducible refine wpAny_loadPart_at he ?_ | with_reducible refine wpAny_loadPart_at hC ?_ | (with_reducible refine wpAny_isSubtype_exc hC ?_; rw [hcB]) | wp_step)
  exact wpAny_raiseNew_none hh hE
end
structure SigOk (D : Wd) (CX fI : Addr) : Prop where
  nm : nsIn D.K mainGlobals "LispSignal" = some (some (.ref CX))
  keep : keepIn D.K (.ref CX) = true
  cls : ∃ nm q N bs sn sub ab col dd k0 k1 k2 k3 k5, D.K.lookup CX = some (excClassObj nm q CX N bs [.type "Exception", .type "BaseException", .type "object"] true sn sub ab col dd k0 k1 k2 k3 k5 "Exception.__new__") ∧ nsOkIn D.K N = true ∧
    nsIn D.K N "__init__" = some (some (.ref fI)) ∧ nsIn D.K N "__setattr__" = some none ∧ nsIn D.K N "symbol" = some none ∧ nsIn D.K N "data" = some none
  fn : ∃ od name qual params scope dV kV doc pm an cdv ct osl p1 p2 p3 p4 p5 p6 p7 p8, D.K.lookup fI = some ⟨.type "function", od, .func (fnOf name qual params [.Assign [.Attribute (.Name "self" p1) "symbol" p2] (.Name "symbol" p3) p4, .Assign [.Attribute (.Name "self" p5) "data" p6] (.Name "data" p7) p8] scope dV kV doc pm an cdv ct), osl⟩ ∧
    codeIn D.K cdv qual = true ∧ (∀ s (a b c : Value), BindsTo s (fnOf name qual params [.Assign [.Attribute (.Name "self" p1) "symbol" p2] (.Name "symbol" p3) p4, .Assign [.Attribute (.Name "self" p5) "data" p6] (.Name "data" p7) p8] scope dV kV doc pm an cdv ct) ⟨[a, b, c], []⟩ [("self", a), ("symbol", b), ("data", c)]) ∧
    scope.names.lookup ("self" : Str) = some .local ∧ scope.names.lookup ("symbol" : Str) = some .local ∧ scope.names.lookup ("data" : Str) = some .local ∧
    scope.isCoroutine = false ∧ scope.isGenerator = false ∧ scope.kind = .function ∧ (∀ x ∈ scope.names, x.2 ≠ .cell)
theorem ns_of {K : Frag} {h : Heap} {N : Addr} {n : Str} {v : Value} (X : K.In h) (e : nsIn K N n = some (some v)) (q : nsOkIn K N = true) : h.nsMap N n = some v := by
  obtain ⟨o, es, ep, ho, hd, _, hf⟩ := Heap.Ns.of_isNs (isNs_of_in X q)
  unfold nsIn at e
  split at e
  · rename_i c d es' n' sl q
    have := X _ _ q
    rw [ho] at this
    cases this
    cases hd
    split at e
    · rename_i en he
      cases e
      rw [← hf]
      unfold nsFind findBy
      rw [← Array.find?_toList, he]
      rfl
    · split at e <;> cases e
  · cases e
theorem Fr.store {h₀ h h' : Heap} {L e : Addr} {m : Str → Option Value} {N : Led} {o : Obj} (F : Fr h₀ L h m) (N1 : News h₀ L h N) (he : (e, o) ∈ N) (hk : ∀ b o, b ≠ e → h.get? b = some o → h'.get? b = some o) : Fr h₀ L h' m := by
  refine byc fun hG => ?_
  obtain ⟨oL, es, ep, hL, r⟩ := F.ns
  refine hG (⟨⟨oL, es, ep, hk _ _ (fun q => (N1 _ he).2.1 q.symm) hL, r⟩, fun b ob q => hk _ _ (fun z => ?_) (F.keep b ob q), F.above⟩)
  have := (N1 _ he).2.2
  rw [← z, q] at this; cases this
theorem News.store {h₀ h h' : Heap} {L e : Addr} {N : Led} {o o' : Obj} (N1 : News h₀ L h N) (he : (e, o) ∈ N) (hk : ∀ b o, b ≠ e → h.get? b = some o → h'.get? b = some o) (h2 : h'.get? e = some o') : News h₀ L h' (setA e o' N) := fun p hp => by
  rcases of_mem_setA hp with ⟨h3, h4⟩ | h3
  · exact ⟨hk _ _ h3 (N1 _ h4).1, (N1 _ h4).2⟩
  · rw [h3]; exact ⟨h2, (N1 _ he).2⟩
section
variable {D : Wd} {CX fI : Addr}
theorem no_symbol : typeLookup (.type "Exception") "symbol" = pure none := by rw [typeLookup_type, builtinLookup_eq_fast]; kernel_rfl
theorem no_data : typeLookup (.type "Exception") "data" = pure none := by rw [typeLookup_type, builtinLookup_eq_fast]; kernel_rfl
theorem sig_init (S : SigOk D CX fI) {A A₀ : Around} {base h₀ : Heap} {outer : List Env} {L : Addr} {m : Str → Option Value} {N1 : Led} {env : Env} {s : Shared} {e : Addr} {v1 v2 : Value} {fs : Array Value} {R : Result → Shared → Prop}
    (B : Below A₀ base outer h₀) (F : Fr h₀ L s.heap m) (X : D.K.In h₀) (N : News h₀ L s.heap N1) (T : Top D.p D.loose D.mean D.mg D.mb h₀) (hA : A.frames = some (env :: outer)) (hf : env.frame = some L) (hke : env.scope.kind = .function)
    (hroom : A.depth < recursionLimit) (he : (e, ⟨.ref CX, none, .fields fs, #[]⟩) ∈ N1)
    (k : ∀ h' dx tk', Fr h₀ L h' m → News h₀ L h' (setA e ⟨.ref CX, some dx, .fields fs, #[]⟩ N1) → R (.ok (.ret .none)) { s with heap := h', toks := tk' }) :
    codeAny (model D.prog D.w) A (.call (.ref fI) ⟨[.ref e, v1, v2], []⟩) R s := by
  refine byc fun hG => ?_
  obtain ⟨nm, q, Nx, bs, sn, sub, ab, col, dd, k0, k1, k2, k3, k5, hC, hN, hi, hs, hy, hd⟩ := S.cls
  obtain ⟨od, name, qual, params, scope, dV, kV, doc, pm, an, cdv, ct, osl, p1, p2, p3, p4, p5, p6, p7, p8, ho, hcd, hb, l1, l2, l3, hco, hgen, hk, hcell⟩ := S.fn
  obtain ⟨hp, gg, dd', tk, os⟩ := s
  refine hG (W.code_def B F X N T hA hf hke ho hcd hroom (hb _ _ _ _) (fun y hy => ?_) (fun g L' h₁ FG F' N' B' X' T' => ?_) hco hgen hk hcell)
  · simp at hy
    rcases hy with rfl | rfl | rfl
    · exact l1
    · exact l2
    · exact l3
  have CN : ∀ h : Heap, (∀ b o, g.get? b = some o → h.get? b = some o) → h.get? CX = some (excClassObj nm q CX Nx bs [.type "Exception", .type "BaseException", .type "object"] true sn sub ab col dd k0 k1 k2 k3 k5 "Exception.__new__") ∧ h.Ns Nx (g.nsMap Nx) := fun h kp =>
    ⟨kp _ _ (X' _ _ hC), let ⟨o, es, ep, e1, r⟩ := Heap.Ns.of_isNs (isNs_of_in X' hN); ⟨o, es, ep, kp _ _ e1, r⟩⟩
  have hs' := ns_none_of X' (Heap.Ns.of_isNs (isNs_of_in X' hN)) hs
  have hy' := ns_none_of X' (Heap.Ns.of_isNs (isNs_of_in X' hN)) hy
  have hd' := ns_none_of X' (Heap.Ns.of_isNs (isNs_of_in X' hN)) hd
  refine wpAny_execs_cons (plainObj_wpAny_Assign_Attribute (nameX_L F' (x := "symbol") (v := v1) rfl (nameX_L F' (x := "self") (v := .ref e) rfl ?_ hk l1 (by decide)) hk l2 (by decide)) rfl)
  obtain ⟨c1, c2⟩ := CN _ F'.keep
  refine first_attr PySem.F.store_Exception c1 c2 hs' hy' no_symbol (N' _ he).1 rfl rfl rfl fun h2 tk2 hx2 hn2 hk2 => ?_
  have F2 := Fr.store F' N' he hk2
  have N2 := News.store N' he hk2 hx2
  have he2 := mem_setA_self (o := ⟨.ref CX, some h₁.objs.size, .fields fs, #[]⟩) he
  refine wpAny_execs_cons (plainObj_wpAny_Assign_Attribute (nameX_L F2 (x := "data") (v := v2) rfl (nameX_L F2 (x := "self") (v := .ref e) rfl ?_ hk l1 (by decide)) hk l3 (by decide)) rfl)
  obtain ⟨c1, c2⟩ := CN _ F2.keep
  have hne : h₁.objs.size ≠ e := fun q => absurd (Heap.lt_size (N' _ he).1) (by rw [← q]; exact Nat.lt_irrefl _)
  have hCX : e ≠ CX := fun q => by
    have := (N' _ he).2.2
    rw [q, X' _ _ hC] at this; cases this
  refine store_attr PySem.F.store_Exception c1 c2 hs' hd' no_data hCX ⟨_, hx2, rfl, (fun c q => by cases q), .inr ⟨_, rfl, hne, hn2⟩⟩ (fun h3 tk3 _ hk3 hx3 => ?_) (Within.cons "symbol" v1 Within.nil)
  refine byc fun hG => ?_
  obtain ⟨o3, e3, e4, e5, e6, e7⟩ := hx3 _ hx2
  have hk3' : ∀ b o, b ≠ e → h₁.get? b = some o → h3.get? b = some o := fun b o hb q => hk3 b o hb (fun o₀ dx q1 q2 q3 => by
    rw [hx2] at q1
    cases q1
    cases q2
    exact absurd (Heap.lt_size q) (by rw [q3]; exact Nat.lt_irrefl _)) (hk2 b o hb q)
  have F3 := Fr.store F' N' he hk3'
  have ho3 : o3 = ⟨.ref CX, some h₁.objs.size, .fields fs, #[]⟩ := by
    have h7 := e7 _ rfl
    obtain ⟨a1, a2, a3, a4⟩ := o3
    cases e4; cases e5; cases e6; cases h7
    rfl
  subst ho3
  have N3 := News.store N' he hk3' e3
  exact hG (wpAny_execs_nil (leaveK_ F3 N3 fun F4 N4 => k _ _ _ F4 N4))
end
end Mine
end
section
set_option maxRecDepth 10000
open PySem PySem.W PySem.Calls PyProof.Rows
namespace Mine
section
variable {D : Wd} {k : Nat} {cs : Scope} {CX fI : Addr}
variable {c : Cx} {ρ ρ' : Loc} {μ μ' : Mem} {φ φ1 φ' : Idm} {N N1 N' : Led} {s s' : Shared}
theorem frame_mem {env : Env} {L : Addr} {outer : List Env} {b : Addr} (hf : env.frame = some L) (hm : b ∈ (env :: outer).filterMap (·.frame)) : b = L ∨ b ∈ outer.filterMap (·.frame) := by
  obtain ⟨env', he, hf'⟩ := List.mem_filterMap.mp hm
  rcases List.mem_cons.mp he with rfl | he
  · rw [hf] at hf'; exact .inl (Option.some.inj hf').symm
  · exact .inr (List.mem_filterMap.mpr ⟨env', he, hf'⟩)
theorem leave_first (O : Ok D k c) {m : Str → Option Value} {e t : Addr} {oe ot : Obj} {fs : Array Value} {vs : Array Value} {j : Nat} (F : Fr c.h₀ c.L s'.heap m) (N2 : News c.h₀ c.L s'.heap ((e, oe) :: (t, ot) :: N)) (hne : e ∉ N.map (·.1)) (hnt : t ∉ N.map (·.1))
    (hc : oe.cls = .ref CX) (hd : oe.data = .fields fs) (h1 : fs[1]? = some .none) (h0 : fs[0]? = some (.ref t)) (htc : ot.cls = .type "tuple") (htd : ot.data = .seq vs j)
    (Q : Unit → Shared → Prop) (E : Value → Shared → Prop) (hQ : ∀ h' t vs, RaisedS c.base c.h₀ c.outer e (.ref CX) t vs N h' → c.h₀.UpToSlots h' → Q () { s' with heap := h' }) :
    wpAny (model D.prog D.w) c.A (leaving c.env (.ref e)) Q E s' := by
  have K' := pushX (env := c.env) O.B F rfl O.fn
  have hin : ∀ env ∈ (c.env :: c.outer), ∀ b, env.frame = some b → b ∈ e :: t :: (c.env :: c.outer).filterMap (·.frame) := fun env he b hb => .tail _ (.tail _ (List.mem_filterMap.mpr ⟨env, he, hb⟩))
  have ne := N2 _ (.head _)
  have nt := N2 _ (.tail _ (.head _))
  have notin : ∀ b o, c.h₀.get? b = some o → b ∉ c.outer.filterMap (·.frame) → b ∉ e :: t :: (c.env :: c.outer).filterMap (·.frame) := fun b o q nm hm => by
    rcases List.mem_cons.mp hm with rfl | hm
    · rw [ne.2.2] at q; cases q
    · rcases List.mem_cons.mp hm with rfl | hm
      · rw [nt.2.2] at q; cases q
      · rcases frame_mem (L := c.L) rfl hm with z | z
        · rw [z, kts_self F] at q; cases q
        · exact nm z
  have sg : ∀ b o, c.h₀.get? b = some o → b ∉ c.outer.filterMap (·.frame) → (hideAll s'.heap (e :: t :: (c.env :: c.outer).filterMap (·.frame))).get? b = some o := fun b o q nm => hideAll_get _ (F.keep b o q) (notin b o q nm)
  have st : c.base.StaysIn (hideAll s'.heap (e :: t :: (c.env :: c.outer).filterMap (·.frame))) := fun b o q => sg b o (O.B.stays b o q) fun hm => by
    rw [(O.B.frames.mem hm).1] at q; cases q
  have hl : ∀ q ∈ N, (hideAll s'.heap (e :: t :: (c.env :: c.outer).filterMap (·.frame))).get? q.1 = some q.2 ∧ c.h₀.get? q.1 = none ∧ c.base.get? q.1 = none := fun q hq => by
    have nq := N2 q (.tail _ (.tail _ hq))
    refine ⟨hideAll_get _ nq.1 fun hm => ?_, nq.2.2, fresh_of_stays O.B.stays nq.2.2⟩
    rcases List.mem_cons.mp hm with e1 | hm
    · exact hne (by rw [← e1]; exact List.mem_map_of_mem (f := (·.1)) hq)
    · rcases List.mem_cons.mp hm with e1 | hm
      · exact hnt (by rw [← e1]; exact List.mem_map_of_mem (f := (·.1)) hq)
      · rcases frame_mem (L := c.L) rfl hm with z | z
        · exact nq.2.1 z
        · obtain ⟨o, ho, _⟩ := (O.B.frames.mem z).2
          rw [nq.2.2] at ho; cases ho
  refine wpAny_leaving_firstW (a0 := .ref t) K'.stack (funFrames_hide K'.frames hin) rfl ne.1 (fun b o q => of_hideAll _ q) (hideAll_none _ (.head _)) hd h1 h0 fun h' hL => ?_
  refine byc fun hG => ?_
  obtain ⟨k1, ⟨_, _, k2⟩, k3, k4⟩ := hL
  rw [hc] at k3
  exact hG (hQ h' t vs.toList ⟨⟨_, st, sg, hl, ⟨k1, hideAll_none _ (.head _), k2, k3⟩, hideAll_none _ (.tail _ (.head _))⟩, Heap.TupAt.of_slots ⟨_, _, nt.1, htc, htd⟩ k4⟩ ((Heap.UpToSlots.of_keeps F.keep).trans k4))
theorem leave_more (O : Ok D k c) {m : Str → Option Value} {e t : Addr} {vs : List Value} {cls : Value} {g : Heap} (F : Fr c.h₀ c.L g m) (R : RaisedS c.base g (c.env :: c.outer) e cls t vs N s'.heap) (hsm : g.UpToSlots s'.heap)
    (Q : Unit → Shared → Prop) (E : Value → Shared → Prop) (hQ : ∀ h', RaisedS c.base c.h₀ c.outer e cls t vs N h' → c.h₀.UpToSlots h' → Q () { s' with heap := h' }) :
    wpAny (model D.prog D.w) c.A (leaving c.env (.ref e)) Q E s' := by
  refine byc fun hG => ?_
  obtain ⟨⟨B, hB, hBG, hl, hfl, hnew⟩, htup⟩ := R
  exact hG (wpAny_leaves_onW (Around.frames_deeper O.B.stack) rfl hfl fun h' x1 x2 =>
    hQ h' ⟨⟨B, hB, fun b o q nm => hBG b o (F.keep b o q) (fun hm => by
      rcases frame_mem (L := c.L) rfl hm with z | z
      · rw [z, kts_self F] at q; cases q
      · exact nm z), fun q hq => ⟨(hl q hq).1, kts_none F.keep (hl q hq).2.1, (hl q hq).2.2⟩, x1, hnew⟩, htup.of_slots x2⟩ ((Heap.UpToSlots.of_keeps F.keep).trans (hsm.trans x2)))
noncomputable abbrev XEM := Loc → Mem → Option Mem
noncomputable def DX (D : Wd) (CX : Addr) (k : Nat) (cs : Scope) (e : Expr) (m : XEM) : Prop := ∀ c, c.cs = cs → Ok D k c → ∀ ρ μ φ N s μ', Rep D c ρ μ φ N s → m ρ μ = some μ' →
  wpAny (model D.prog D.w) c.A (eval e c.env) (fun _ _ => False) (XP D c CX φ N μ') s
theorem xp_of (O : Ok D k c) {e : Value} (h : PXF D c CX φ N μ' e s') : XP D c CX φ N μ' e s' := by
  refine byc fun hG => ?_
  obtain ⟨e0, t, vs, g, m, φ', N', rfl, E, mr, gs, os, F, RS, U⟩ := h
  exact hG (⟨e0, φ', N', rfl, E.up, mr, gs, os, fun Q E hQ => leave_more O F RS U Q E fun h' R' U' => hQ h' t vs R' U'⟩)
theorem xp_trans {e : Value} (E : Ext c.own φ N φ1 N1) (h : XP D c CX φ1 N1 μ' e s') : XP D c CX φ N μ' e s' :=
  let ⟨e0, φ2, N2, h1, E2, r⟩ := h; ⟨e0, φ2, N2, h1, E.trans E2, r⟩
noncomputable def xCall (ms : LM) (m : XM) : XEM := fun ρ μ => match ms ρ μ with
  | some (vs, μ) => m vs μ
  | none => none
theorem dx_call {x : Str} {p pos : Pos} {e : Expr} {es : List Expr} {v : Value} {ms : LM} {m : XM} {k' : Nat} (en : nsIn D.K mainGlobals x = some (some v)) (hk : keepIn D.K v = true) (f : FnX D CX k' v m) (hkk : k' + 1 ≤ k) (hx : cs.names.lookup x = some .globalImplicit)
    (ha : DL D k cs (e :: es) ms) (hd : (x == ("__debug__" : Str)) = false := by decide)
    (he : ∀ env, starEach (e :: es) env = (false, eval e env) :: starEach es env := by intro _; rfl) (hplain : ∀ env, (backTo pos (starEach es env)).any (·.1) = false := by intro _; rfl) : DX D CX k cs (.Call (.Name x p) (e :: es) [] pos) (xCall ms m) := by
  rintro c rfl O ρ μ φ N s μ' R e'
  unfold xCall at e'
  cases e1 : ms ρ μ with
  | none => rw [e1] at e'; cases e'
  | some r =>
    refine byc fun hG => ?_
    obtain ⟨vs, μ1⟩ := r
    rw [e1] at e'
    obtain ⟨m0, F, l⟩ := R.fr
    refine hG (Call_ (nameX_K F O.X (topRead_of O.T) en (callWith_K O.X hk (wpAny_mono (ha c rfl O pos ρ μ φ N s _ _ R e1) (fun us s1 h1 => ?_) fun _ _ => no_elim) (he _) (hplain _)) O.fn hx hd))
    refine byc fun hG => ?_
    obtain ⟨φ1, N1, E1, R1, v1⟩ := h1
    refine hG (⟨let ⟨_, F1, _⟩ := R1.fr; O.X.keeps F1.keep, ?_⟩)
    refine wpAny_call (codeAny_mono (f c c.A (O.a hkk) ρ μ1 φ1 N1 s1 us vs μ' R1 v1 e') fun r s' q => ?_)
    obtain ⟨e, rfl, q⟩ := q
    exact xp_trans E1.up (xp_of O q)
noncomputable def sAssignX (m : XEM) : SM := fun ρ μ => (m ρ μ).map fun μ' => (.exc, ρ, μ')
theorem ds_tupX {ts : List Expr} {j : Nat} {p pos : Pos} {e : Expr} {m : XEM} (h : DX D CX k cs e m)
    (hs : ∀ env, swapsWithSole [.Tuple ts j p] e pos.line env = pure false := by intro _; rfl) (hw : ∀ c : Cx, c.cs = cs → swappedStores [.Tuple ts j p] e c.env = pure none := by intro _ _; rfl) : DS D CX k cs (.Assign [.Tuple ts j p] e pos) (sAssignX m) := by
  rintro c hc O ρ μ φ N s o ρ' μ' R e'
  unfold sAssignX at e'
  replace e' := Option.map_eq_some_iff.mp e'; obtain ⟨μ1, e1, e'⟩ := e'
  cases e'
  exact Assign_Tuple (wpAny_mono (h c hc O ρ μ φ N s _ R e1) (fun u s1 h1 => h1.elim) fun _ _ h => ⟨rfl, h⟩) (hs _) (hw c hc)
theorem dss_exc {st : Stmt} {sts : List Stmt} {m : SM} (h : DS D CX k cs st m) (hm : ∀ ρ μ r, m ρ μ = some r → r.1 = .exc) : DSS D CX k cs (st :: sts) m := by
  rintro c hc O ρ μ φ N s o ρ' μ' R e
  obtain rfl : o = .exc := hm _ _ _ e
  refine wpAny_execs_cons (wpAny_mono (h c hc O ρ μ φ N s _ ρ' μ' R e) (fun fl s1 h1 => ?_) fun x s1 h1 => h1)
  refine byc fun hG => ?_
  obtain ⟨_, _, _, _, r1⟩ := h1
  exact hG (r1.elim)
noncomputable def sRaise : SM := fun ρ μ => some (.exc, ρ, μ)
theorem ds_raise (S : SigOk D CX fI) {np p1 p2 p3 cpos pos : Pos} {a b : Str} {j1 j2 : Nat} (hx : cs.names.lookup ("LispSignal" : Str) = some .globalImplicit) (hk : 4 ≤ k) :
    DS D CX k cs (.Raise (some (.Call (.Name "LispSignal" np) [.Constant (.str a) j1 p1, .List [.Constant (.str b) j2 p2] p3] [] cpos)) none pos) sRaise := by
  rintro c rfl O ρ μ φ N s o ρ' μ' R e
  cases e
  refine byc fun hG => ?_
  obtain ⟨nm, q, Nx, bs, sn, sub, ab, col, dd, k0, k1, k2, k3, k5, hC, hN, hi, hs, hy, hd⟩ := S.cls
  obtain ⟨m, F, l⟩ := R.fr
  rw [arm_exec_Raise] at hG
  refine hG (wpAny_bind (wpAny_standAt (raise_own (C := CX) (nm := nm) (q := q) (N := Nx) (bs := bs) (bm := [.type "Exception", .type "BaseException", .type "object"]) (hdct := true) (sn := sn) (sub := sub) (ab := ab) (col := col) (dd := dd) (k0 := k0) (k1 := k1) (k2 := k2) (k3 := k3) (k5 := k5) (newId := "Exception.__new__") (by decide) (show c.A.handled = none from O.hh) ?_)))
  refine wpAny_bind (wpAny_mono (Q := fun u s₁ => ∃ e t dx, u = .ref e ∧ s₁.heap.get? CX = some (excClassObj nm q CX Nx bs [.type "Exception", .type "BaseException", .type "object"] true sn sub ab col dd k0 k1 k2 k3 k5 "Exception.__new__") ∧
      s₁.heap.get? e = some { cls := .ref CX, dict := some dx, data := .fields #[.ref t, .none, .none, .none, .bool false, .none] } ∧ PX D c CX φ N .exc μ (.ref e) s₁) (wpAny_Call_ofName ?_) (fun v s3 h3 => wpAny_bind (wpAny_standAt (wpAny_pure h3))) fun _ _ x => x)
  refine nameX_K F O.X (topRead_of O.T) S.nm (callWith_K O.X S.keep (wpAny_items_cons (wpAny_Constant_str (wpAny_items_cons (List_ (wpAny_items_cons (wpAny_Constant_str (wpAny_items_nil ?_)) rfl)) rfl)) rfl) rfl rfl) O.fn hx (by decide)
  refine newList_K F R.nw fun l1 h1 F1 N1 lt1 => wpAny_items_nil ?_
  refine ⟨O.X.keeps F1.keep, ?_⟩
  have C1 := O.X.keeps F1.keep
  refine byc fun hG => ?_
  obtain ⟨od, name, qual, params, scope, dV, kV, doc, pm, an, cdv, ct, osl, p1, p2, p3, p4, p5, p6, p7, p8, ho, _⟩ := S.fn
  refine hG (wpAny_call_exc_init PySem.F.excBase_Exception (C1 _ _ hC) (Heap.Ns.of_isNs (isNs_of_in C1 hN)) (ns_of C1 hi hN) (C1 _ _ ho) rfl fun h2 e hm => ?_)
  obtain ⟨t, ht, htn, htt⟩ := hm.there
  have hen := hm.new
  have ge : ∀ {b : Addr}, h1.get? b = none → c.h₀.get? b = none := fun q => kts_none F1.keep q
  obtain ⟨oL, _, _, hL, _⟩ := F1.ns
  have nL : ∀ {b : Addr}, h1.get? b = none → b ≠ c.L := fun q z => by rw [z, hL] at q; cases q
  have nk : ∀ {b : Addr}, h1.get? b = none → b ∉ N.map (·.1) := fun {b} q hm => by
    obtain ⟨p, hp, z⟩ := List.mem_map.mp hm
    have := (N1 p (.tail _ hp)).1
    rw [z, q] at this; cases this
  have F2 : Fr c.h₀ c.L h2 m := ⟨F1.ns.keeps hm.keeps, fun b o q => hm.keeps _ _ (F1.keep _ _ q), F1.above⟩
  have N2 : News c.h₀ c.L h2 ((e, { cls := .ref CX, data := .fields #[.ref t, .none, .none, .none, .bool false, .none] }) :: (t, { cls := .type "tuple", data := .seq [Value.str a s.toks, .ref l1].toArray }) :: N) := fun p hp => by
    rcases List.mem_cons.mp hp with rfl | hp
    · exact ⟨ht, nL hen, ge hen⟩
    · rcases List.mem_cons.mp hp with rfl | hp
      · exact ⟨htt, nL htn, ge htn⟩
      · exact ⟨hm.keeps _ _ (N1 p (.tail _ hp)).1, (N1 p (.tail _ hp)).2⟩
  refine wpAny_call (codeAny_mono (sig_init S O.B F2 O.X N2 O.T (O.a (k' := 0) (by exact om34 hk)).fr rfl O.fn ?_ (.head _) (R := fun r s' => r = .ok (.ret .none) ∧ ∃ h' dx tk', s' = ⟨h', s.gens, s.drawn, tk', s.os⟩ ∧ Fr c.h₀ c.L h' m ∧ News c.h₀ c.L h' ((e, { cls := .ref CX, dict := some dx, data := .fields #[.ref t, .none, .none, .none, .bool false, .none] }) :: (t, { cls := .type "tuple", data := .seq [Value.str a s.toks, .ref l1].toArray }) :: N))
    fun h' dx tk' F3 N3 => ⟨rfl, h', dx, tk', rfl, F3, fun p hp => N3 p ?_⟩) fun r s' hr => ?_)
  · rw [W.depth_under_kw]
    have := O.hd
    show c.A₀.depth + 1 + 1 < _
    exact om35 hk this
  · rcases List.mem_cons.mp hp with rfl | hp
    · exact mem_setA_self (.head _)
    · refine mem_setA (.tail _ hp) ?_
      rcases List.mem_cons.mp hp with rfl | hp
      · intro z
        have z' : t = e := z
        rw [z', ht] at htt
        cases htt
      · intro z
        exact nk hen (by rw [← z]; exact List.mem_map_of_mem (f := (·.1)) hp)
  · refine byc fun hG => ?_
    obtain ⟨rfl, h', dx, tk', rfl, F3, N3⟩ := hr
    refine hG (⟨rfl, e, t, dx, rfl, F3.keep _ _ (O.X _ _ hC), (N3 _ (.head _)).1, rfl, e, φ, N, rfl, .refl, R.mr, R.gs, R.os, fun Q E hQ => ?_⟩)
    exact leave_first O F3 N3 (nk hen) (nk htn) rfl rfl rfl rfl rfl rfl Q E hQ
end
end Mine
end
section
set_option maxRecDepth 10000
open PySem PySem.W PySem.Calls PyProof.Rows
namespace Mine
section
variable {prog : Program} {w : World} {A₀ A : Around} {s : Shared} {base h₀ : Heap} {L : Addr} {m : Str → Option Value} {env : Env} {news : List (Addr × Obj)} {K : Frag} {p : Program} {loose : List Str} {mean : ExcName → Option Value} {mg mb : Str → Option Value}
    {R : Result → Shared → Prop} {name qual : Str} {params : Arguments} {body : List Stmt} {scope : Scope} {dV kV doc pm cdv ct oc : Value} {an od : Option Addr} {osl : Array (Option Value)} {f : Addr} {args : Args} {binds : List (Str × Value)}
theorem code_turn (B : Below A₀ base [] h₀) (F : Fr h₀ L s.heap m) (X₀ : K.In h₀) (N : News h₀ L s.heap news) (T : Top p loose mean mg mb h₀) (hA : A.frames = some [env]) (hf : env.frame = some L) (hke : env.scope.kind = .function)
    (ho : K.lookup f = some ⟨oc, od, .func (fnOf name qual params body scope dV kV doc pm an cdv ct), osl⟩) (hcd : codeIn K cdv qual = true) (hroom : A.depth < recursionLimit)
    (hbind : BindsTo s (fnOf name qual params body scope dV kV doc pm an cdv ct) args binds) (hloc : ∀ y ∈ binds, scope.names.lookup y.1 = some .local)
    (h : ∀ g L' h₁, Fr h₀ L g m → Fr g L' h₁ (fun y => binds.reverse.lookup y) → News g L' h₁ news → Below A base [env] g → K.In g → Top p loose mean mg mb g → KtsDicts ([env].filterMap (·.frame)) g →
      wpAny (model prog w) (A.deeper (envOf qual scope L' f cdv)) (execs body (envOf qual scope L' f cdv))
        (fun fl s' => LeaveS0 ([env].filterMap (·.frame)) h₀ L m g R (match fl with | .ret v => v | _ => .none) s') no { s with heap := h₁, toks := s.toks + binds.length })
    (hco : scope.isCoroutine = false) (hgen : scope.isGenerator = false) (hk : scope.kind = .function)
    (hcell : ∀ x ∈ scope.names, x.2 ≠ .cell) : codeAny (model prog w) A (.call (.ref f) args) R s := by
  have X := X₀.keeps F.keep
  refine byc fun hG => ?_
  obtain ⟨FG, BG, st, _⟩ := groundX (R := R) B F N hA hf hke
  have hfm : [env].filterMap (·.frame) = [L] := by simp [hf]
  obtain ⟨oL, es, ep, hLg, hLd, r1, r2⟩ := FG.ns
  refine hG (codeAny_call_def (fd := fnOf name qual params body scope dV kV doc pm an cdv ct) (body := body) (binds := binds) hroom (X _ _ ho) rfl (T.nolimit.keeps F.keep) (codeRec_of X hcd) rfl hbind hcell hloc (fun h₁ hns hk₁ => ?_) hco hgen hk)
  refine wpAny_mono (h _ s.heap.objs.size h₁ FG ⟨hns, fun b o e => hk₁ b o (of_hideAll _ e), Nat.le_of_eq (hideAll_size _ _)⟩
    (fun p hp => ⟨hk₁ _ _ (N p hp).1, Nat.ne_of_lt (Heap.lt_size (N p hp).1), hideAll_none _ (List.mem_map_of_mem hp)⟩) BG (X₀.keeps st) (T.keeps st) (fun b hb => by
      rw [hfm] at hb
      rcases List.mem_singleton.mp hb with rfl
      exact ⟨oL, es, ep, hLg, hLd⟩)) (fun fl s' hl => ?_) fun _ _ => no_elim
  refine byc fun hG => ?_
  obtain ⟨g', L', m', news', T', F', N', k⟩ := hl
  rw [hfm] at T'
  have nL₀ : h₀.get? L = none := kts_self F
  obtain ⟨sl, hs⟩ := T'.up hLg
  refine hG (k ⟨⟨_, es, ep, F'.keep _ _ hs, hLd, r1, r2⟩, fun b o e => F'.keep b o (T'.other b o (st b o e) (fun q => by
    rw [List.mem_singleton.mp q, nL₀] at e
    cases e)), F.above⟩ fun p hp => ⟨(N' p hp).1, fun q => ?_, ?_⟩)
  · have := (N' p hp).2.2; rw [q, hs] at this; cases this
  · cases q : h₀.get? p.1 with
    | none => rfl
    | some o =>
      obtain ⟨sl', hs'⟩ := T'.up (st _ _ q)
      have := (N' p hp).2.2
      rw [hs'] at this
      cases this
end
structure RefOk (D : Wd) (fR : Addr) : Prop where
  nm : nsIn D.K mainGlobals "_law_is_refused" = some (some (.ref fR))
  keep : keepIn D.K (.ref fR) = true
  fn : ∃ oc od name qual params scope dV kV doc pm an cdv ct osl p1 p2 p3 p4 p5 p6 p7 p8 p9 p10 j1 j2, D.K.lookup fR = some ⟨oc, od, .func (fnOf name qual params [.Try [.Expr (.Call (.Name "deed_asked" p1) [] [] p2) p3, .Return (some (.Constant (.bool false) j1 p4)) p5]
      [.ExceptHandler (some (.Name "LispSignal" p6)) none [.Return (some (.Constant (.bool true) j2 p7)) p8] p9] [] [] p10] scope dV kV doc pm an cdv ct), osl⟩ ∧
    codeIn D.K cdv qual = true ∧ (∀ s (a : Value), BindsTo s (fnOf name qual params [.Try [.Expr (.Call (.Name "deed_asked" p1) [] [] p2) p3, .Return (some (.Constant (.bool false) j1 p4)) p5]
      [.ExceptHandler (some (.Name "LispSignal" p6)) none [.Return (some (.Constant (.bool true) j2 p7)) p8] p9] [] [] p10] scope dV kV doc pm an cdv ct) ⟨[a], []⟩ [("deed_asked", a)]) ∧
    scope.names.lookup ("deed_asked" : Str) = some .local ∧ scope.names.lookup ("LispSignal" : Str) = some .globalImplicit ∧
    scope.isCoroutine = false ∧ scope.isGenerator = false ∧ scope.kind = .function ∧ (∀ x ∈ scope.names, x.2 ≠ .cell)
section
variable {D : Wd} {k : Nat} {CX fI fR : Addr}
variable {c : Cx} {ρ ρ' : Loc} {μ μ' : Mem} {φ φ1 φ' : Idm} {N N1 N' : Led} {s s' : Shared}
theorem refused (S : SigOk D CX fI) (RO : RefOk D fR) (q : ktsIn D.K CX "BaseException" = true) {A : Around} (O : OkA D (k + 3) c A) (hout : c.outer = []) (R : Rep D c ρ μ φ N s) {f c' : Addr} {lname lqual : Str} {lparams : Arguments} {lbody : Expr} {lscope : Scope} {clos : List (Str × Addr)} {pm ctv : Value} {oc : Obj}
    {mx : XEM} (hf : (f, kla_obj lname lqual lparams lbody lscope clos pm c' ctv) ∈ N) (hc' : (c', oc) ∈ N) (hoc : LamCode lqual oc) (hbody : DX D CX k lscope lbody mx)
    (hbind : bindArgs (kla_fn lname lqual lparams lbody lscope clos pm (.ref c') ctv) ⟨[], []⟩ = pure []) (lco : lscope.isCoroutine = false) (lgen : lscope.isGenerator = false) (lk : lscope.kind = .function) (lcell : ∀ x ∈ lscope.names, x.2 ≠ .cell) (lscr : lscope.names.lookup ("script" : Str) ≠ some .local)
    (hclos : ∀ x a, clos.lookup x = some a → c.cl.lookup x = some a) (hρ : ∀ x v, ρ' x = some v → ρ x = some v ∧ lscope.names.lookup x = some .free ∧ c.cs.names.lookup x = some .cell ∧ clos.lookup x = c.cl.lookup x)
    (e : mx ρ' μ = some μ') :
    codeAny (model D.prog D.w) A (.call (.ref fR) ⟨[.ref f], []⟩) (fun r s' => r = .ok (.ret (.bool true)) ∧ ∃ φ' N', Ext [] φ N φ' N' ∧ Rep D c ρ μ' φ' N' s') s := by
  refine byc fun hG => ?_
  obtain ⟨oc0, od, name, qual, params, scope, dV, kV, doc, pm0, an, cdv, ct, osl, p1, p2, p3, p4, p5, p6, p7, p8, p9, p10, j1, j2, ho, hcd, hb, l1, l2, hco, hgen, hk, hcell⟩ := RO.fn
  obtain ⟨m0, F, l⟩ := R.fr
  have B0 : Below c.A₀ c.base [] c.h₀ := by have := O.B; rw [hout] at this; exact this
  have fr0 : A.frames = some [c.env] := by have := O.fr; rw [hout] at this; exact this
  refine hG (code_turn B0 F O.X R.nw O.T fr0 rfl O.fn ho hcd (by have := O.hd; exact om36 this) (hb _ _) (fun y hy => ?_) (fun g L' h₁ FG F' N' B' X' T' D' => ?_) hco hgen hk hcell)
  · simp at hy
    subst hy
    exact l1
  refine wpAny_execs_cons (wpAny_Try_except (wpAny_execs_cons (wpAny_Expr_any (Call_ (nameX_L F' (x := "deed_asked") (v := .ref f) rfl (callWith_F0 (FnAt.of N' hf) (wpAny_call ?_)) hk l1 (by decide))) ?_ rfl)))
  · refine byc fun hG => ?_
    obtain ⟨vs0, t0, d0, v0⟩ := hoc
    refine hG (kla_code (B := B') (F := F') (X₀ := X') (N := N') (T := T') (env := envOf qual scope L' fR cdv) (outer := [c.env]) ?_ rfl hk hf (codeRec_news N' hc' d0 v0) ?_ hbind (fun y hy => nomatch hy) (fun g2 L2 h2 FG2 F2 N2 B2 X2 T2 => ?_) lco lgen lk lcell)
    · show (A.deeper _).frames = _
      show A.frames.map (_ :: ·) = _
      rw [fr0]; rfl
    · have := O.hd
      show A.depth + 1 < _
      exact om37 this
    · let c2 : Cx := { A₀ := A.deeper (envOf qual scope L' fR cdv), base := c.base, outer := [envOf qual scope L' fR cdv, c.env], h₀ := g2, L := L2, cn := lqual, cs := lscope, a := f, ccd := .ref c', cl := clos, own := [], os := c.os, tab := none }
      have O2 : Ok D k c2 := {
        B := B2
        X := X2
        T := T2
        XB := O.XB
        TB := O.TB
        fn := lk
        hh := O.hh
        hd := by have := O.hd; show A.depth + 1 + 1 + k < _; exact om38 this
        hu := by have := O.hu; show A.units + 3 + 200 + 8 * k < _; exact om39 this
        ci := fun x y a h1 h2 => O.ci x y a (hclos _ _ h1) (hclos _ _ h2)
        co := fun x h => absurd rfl (lcell _ (mem_of_lookup h))
        tk := fun h => absurd h lscr }
      have R2 : Rep D c2 ρ' μ φ N { s with heap := h2, toks := s.toks + 1 + 0 } := {
        fr := ⟨_, F2, fun x v ex => by
          obtain ⟨e1, e2, e3, e4⟩ := hρ x v ex
          rcases l x v e1 with ⟨z, _⟩ | ⟨_, a, o, u, z1, z2, z3, z4⟩
          · rw [e3] at z; cases z
          · exact .inr ⟨.inr e2, a, o, u, e4.trans z1, z2, z3, z4⟩⟩
        nw := N2
        mr := R.mr
        ca := fun x a ex => R.ca x a (hclos _ _ ex)
        ow := fun a h => nomatch h
        tb := fun cc P ex => nomatch ex
        gs := R.gs
        os := R.os }
      refine wpAny_mono (hbody c2 rfl O2 ρ' μ φ N _ μ' R2 e) (fun _ _ x => x.elim) (fun e s2 h3 => ?_)
      refine byc fun hG => ?_
      obtain ⟨e0, φ2, N3, rfl, E2, mr, gs, os, hl⟩ := h3
      refine hG (hl _ _ fun h' t vs RS U => ?_)
      refine caught_SO0 RS FG2 B' U O.XB O.TB D' .refl S.nm q (fun h4 g4 news₂ T4 F4 N4 Got Nl B4 X4 T5 D4 => ?_) hk l2 (by decide) (PassesOwnAt.never)
      refine wpAny_execs_cons (wpAny_Return_some (wpAny_Constant_bool ?_))
      exact leaveS0_ F4 Nl T4 fun F5 N5 => ⟨rfl, φ2, N3, E2, R.back E2 l F5 N5 mr gs os⟩
  · show interactive (envOf qual scope L' fR cdv) = false
    unfold interactive
    have : (envOf qual scope L' fR cdv).scope.kind = .function := hk
    rw [this]; rfl
end
end Mine
end
section
set_option maxRecDepth 10000
open PySem PySem.W PySem.Calls PyProof.Rows
namespace Mine
theorem triples_snoc {a b : Int} {c : Value} (l : List Value) (h : TriplesOk l) : TriplesOk (l ++ [rawInt a, rawInt b, c]) := by
  fun_induction TriplesOk l with
  | case1 => simp [TriplesOk, rawInt]
  | case2 a t b u x rest ih =>
    simp only [List.cons_append, TriplesOk] at h ⊢
    exact ih h
  | case3 => exact h.elim
theorem among_snoc {pos : Pos} {a b : Int} {c cv : Value} (l : List Value) (h : TriplesOk l) (e : codeAmong pos (l ++ [rawInt a, rawInt b, c]) = some cv) : codeAmong pos l = some cv ∨ cv = c := by
  fun_induction TriplesOk l with
  | case1 =>
    simp only [List.nil_append, codeAmong, rawInt] at e
    split at e
    · exact .inr (Option.some.inj e).symm
    · cases e
  | case2 a t b u x rest ih =>
    simp only [List.cons_append, codeAmong] at e ⊢
    split at e
    · rename_i h1; rw [if_pos h1]; exact .inl e
    · rename_i h1; rw [if_neg h1]; exact ih h e
  | case3 => exact h.elim
section
variable {D : Wd} {k : Nat} {cs : Scope} {CX fI fR : Addr}
variable {c : Cx} {ρ ρ' : Loc} {μ μ' : Mem} {φ φ1 φ' : Idm} {N N1 N' : Led} {s s' : Shared}
theorem Rep.grow (R : Rep D c ρ μ φ N s) {cc P f c' : Addr} {ps : Array Value} {a b : Int} {oc of : Obj} {m : Str → Option Value} {h' : Heap} {tk : Nat} (l : LR c ρ m φ N) (ht : c.tab = some (cc, P)) (hP : (P, tabObj ps) ∈ N) (hps : TriplesOk ps.toList)
    (hall : ∀ pos cv, codeAmong pos ps.toList = some cv → ∃ c' oc, cv = .ref c' ∧ (c', oc) ∈ N ∧ c' ∉ φ.map (·.2) ∧ c' ∉ c.own ∧ LamCode c.lam oc)
    (F' : Fr c.h₀ c.L h' m) (nw : News c.h₀ c.L h' ((f, of) :: (c', oc) :: setA P (tabObj (ps ++ #[rawInt a, rawInt b, .ref c'])) N)) (hoc : LamCode c.lam oc) (hc' : ∀ q ∈ N, q.1 < c') (hf : c' < f) :
    Ext c.own φ N φ ((f, of) :: (c', oc) :: setA P (tabObj (ps ++ #[rawInt a, rawInt b, .ref c'])) N) ∧ Rep D c ρ μ φ ((f, of) :: (c', oc) :: setA P (tabObj (ps ++ #[rawInt a, rawInt b, .ref c'])) N) { s with heap := h', toks := tk } := by
  have TR := R.tb cc P ht
  have hn : ∀ us j (qs : Array Value), tabObj qs ≠ tupOf us j := fun us j qs e => by have := congrArg Obj.cls e; simp at this
  have ncN : c' ∉ N.map (·.1) := R.notKey hc'
  have ncS : c' ∉ (setA P (tabObj (ps ++ #[rawInt a, rawInt b, .ref c'])) N).map (·.1) := by rw [setA_keys]; exact ncN
  have nfS : f ∉ ((c', oc) :: setA P (tabObj (ps ++ #[rawInt a, rawInt b, .ref c'])) N).map (·.1) := by
    rw [List.map_cons, setA_keys]
    intro hm
    rcases List.mem_cons.mp hm with e | hm
    · exact Nat.lt_irrefl c' (by rw [show f = c' from e] at hf; exact hf)
    · exact R.notKey (fun q hq => Nat.lt_trans (hc' q hq) hf) hm
  have hk : ∀ p ∈ N, p.1 ≠ P → p ∈ (f, of) :: (c', oc) :: setA P (tabObj (ps ++ #[rawInt a, rawInt b, .ref c'])) N := fun p hp h => .tail _ (.tail _ (mem_setA hp h))
  refine ⟨⟨fun _ h => h, fun p hp _ h => hk p hp fun e => h (e ▸ TR.own), fun _ h => .inl h, fun x hx => ?_⟩, ⟨⟨m, F', l.tupsOf (fun b us j h => hk _ h fun e => hn us j ps (led_uniq R.mr.nd hP (by rw [← (show b = P from e)]; exact h))) fun x b o e h => hk _ h fun (q : b = P) => TR.cl x (by rw [← q]; exact e)⟩, nw,
    ((R.mr.other TR.id hP (fun us j => hn us j _) (fun us j => hn us j _)).more ncS).more nfS, fun x b e => ?_, R.ow, fun cc2 P2 e2 => ?_, R.gs, R.os⟩⟩
  · rw [List.map_cons, List.map_cons, setA_keys]; exact .tail _ (.tail _ hx)
  · refine byc fun hG => ?_
    obtain ⟨h1, o, v, h2, h3⟩ := R.ca x b e
    exact hG (⟨h1, o, v, hk _ h2 fun (q : b = P) => TR.cl x (by rw [← q]; exact e), h3⟩)
  · rw [ht] at e2
    cases e2
    refine ⟨TR.id, TR.own, TR.cl, _, .tail _ (.tail _ (mem_setA_self hP)), ?_, fun pos cv e => ?_⟩
    · rw [Array.toList_append]; exact triples_snoc _ hps
    · rw [Array.toList_append] at e
      rcases among_snoc _ hps e with e | e
      · refine byc fun hG => ?_
        obtain ⟨c2, oc2, e1, e2, e3, e4, e5⟩ := hall pos cv e
        refine hG (⟨c2, oc2, e1, hk _ e2 fun (q : c2 = P) => e4 (q ▸ TR.own), e3, e4, e5⟩)
      · refine ⟨c', oc, e, .tail _ (.head _), fun hm => ?_, fun hm => ?_, hoc⟩
        · obtain ⟨x, hx, e⟩ := List.mem_map.mp hm
          exact ncN (by rw [← e]; exact R.mr.kn x hx)
        · rcases R.ow c' hm with ⟨x, hx⟩ | ⟨_, hx⟩
          · refine byc fun hG => ?_
            obtain ⟨_, o, v, h2, _⟩ := R.ca x c' hx
            exact hG (ncN (List.mem_map_of_mem (f := (·.1)) h2))
          · rw [ht] at hx
            cases hx
            exact ncN (List.mem_map_of_mem (f := (·.1)) hP)
theorem wp_lambda {params : Arguments} {body : Expr} {scope : Scope} {pos : Pos} {clos : List (Str × Addr)} (O : Ok D k c) (TO : TabOk c) (R : Rep D c ρ μ φ N s) (hdef : defaultsOf params c.env = ([], [])) (hcl : closureFor scope c.env = pure clos)
    {Q : Value → Shared → Prop} (h : ∀ f c' oc ctv N1 h' tk pm, Ext c.own φ N φ N1 → Rep D c ρ μ φ N1 { s with heap := h', toks := tk } → (f, kla_obj "<lambda>" c.lam params body scope clos pm c' ctv) ∈ N1 → (c', oc) ∈ N1 → LamCode c.lam oc → Q (.ref f) { s with heap := h', toks := tk }) :
    wpAny (model D.prog D.w) c.A (eval (.Lambda params body scope pos) c.env) Q no s := by
  refine byc fun hG => ?_
  obtain ⟨cc, P, ht, hcd, C, hout⟩ := TO
  obtain ⟨m, F, l⟩ := R.fr
  obtain ⟨i1, i2, i3, ps, hP, hps, hall⟩ := R.tb cc P ht
  refine hG (kla_eval hdef ?_)
  cases hf : codeAmong pos ps.toList with
  | none =>
    refine kla_nest F R.nw O.T C hcd (updF_setA hP R.mr.nd) hps hf hcl fun f c' oc vs t ctv h' tk F' N' d1 d2 l1 l2 => ?_
    refine byc fun hG => ?_
    obtain ⟨E, R'⟩ := R.grow (tk := tk) l ht hP hps hall F' N' ⟨vs, t, d1, d2⟩ l1 l2
    exact hG (h f c' oc ctv _ h' tk _ E R' (.head _) (.tail _ (.head _)) ⟨vs, t, d1, d2⟩)
  | some cv =>
    refine byc fun hG => ?_
    obtain ⟨c', oc, rfl, e2, e3, e4, e5⟩ := hall pos cv hf
    refine hG (kla_hit F R.nw O.T C hcd hP hps hf hcl fun f ctv h' tk F' N' l1 => ?_)
    have hk := R.notKey l1
    exact h f c' oc ctv _ h' tk _ more_ext.up (R.next (tk := tk) more_ext l F' N' (R.mr.more hk)) (.head _) (.tail _ e2) e5
noncomputable def PTo (D : Wd) (c : Cx) (ρ : Loc) (φ : Idm) (N : Led) (b : Bool) (μ' : Mem) (v : Bool) (s' : Shared) : Prop :=
  ∃ φ' N', Ext c.own φ N φ' N' ∧ Rep D c ρ μ' φ' N' s' ∧ v = b
noncomputable def DTo (D : Wd) (k : Nat) (cs : Scope) (e : Expr) (m : TM) : Prop := ∀ c, c.cs = cs → Ok D k c → ∀ ρ μ φ N s b μ', Rep D c ρ μ φ N s → m ρ μ = some (b, μ') →
  wpAny (model D.prog D.w) c.A (isTrue e c.env (eval e c.env)) (PTo D c ρ φ N b μ') no s
theorem dto_not {x : Expr} {pos : Pos} {m : TM} (h : DTo D k cs x m) : DTo D k cs (.UnaryOp .Not x pos) (tNot m) := by
  rintro c hc O ρ μ φ N s b μ' R e
  refine byc fun hG => ?_
  obtain ⟨t, μ1, e1, e⟩ := bind2_eq e
  cases e
  refine hG (wpAny_isTrue_Not (wpAny_mono (h c hc O ρ μ φ N s t _ R e1) (fun u s1 h1 => ?_) fun _ _ x => x))
  refine byc fun hG => ?_
  obtain ⟨φ1, N1, E1, R1, rfl⟩ := h1
  exact hG (⟨φ1, N1, E1, R1, rfl⟩)
theorem dto_or {x y : Expr} {pos : Pos} {m m' : TM} (h : DTo D k cs x m) (h' : DT D k cs y m') : DTo D k cs (.BoolOp .Or [x, y] pos) (tOr m m') := by
  rintro c hc O ρ μ φ N s b μ' R e
  refine byc fun hG => ?_
  obtain ⟨t, μ1, e1, e⟩ := bind2_eq e
  refine hG (wpAny_isTrue_BoolOp (wpAny_allTrue_Or_cons (wpAny_mono (h c hc O ρ μ φ N s t _ R e1) (fun u s1 h1 => ?_) fun _ _ x => x)))
  obtain ⟨φ1, N1, E1, R1, rfl⟩ := h1
  cases u
  · refine wpAny_allTrue_Or_cons (wpAny_mono (h' c hc O ρ μ1 φ1 N1 s1 b _ R1 e) (fun u s2 h2 => ?_) fun _ _ x => x)
    obtain ⟨φ2, N2, E2, R2, rfl⟩ := h2
    cases u
    · exact wpAny_allTrue_Or_nil ⟨φ2, N2, E1.trans E2.up, R2, rfl⟩
    · exact ⟨φ2, N2, E1.trans E2.up, R2, rfl⟩
  · cases e; exact ⟨φ1, N1, E1, R1, rfl⟩
theorem ds_ifo {t : Expr} {b b' : List Stmt} {pos : Pos} {mt : TM} {m m' : SM} (ht : DTo D k cs t mt) (h : DSS D CX k cs b m) (h' : DSS D CX k cs b' m') : DS D CX k cs (.If t b b' pos) (sIf mt m m') := by
  rintro c hc O ρ μ φ N s o ρ' μ' R e
  unfold sIf at e
  cases e1 : mt ρ μ with
  | none => rw [e1] at e; cases e
  | some r =>
    obtain ⟨v, μ1⟩ := r
    rw [e1] at e
    refine wpAny_If (wpAny_mono (ht c hc O ρ μ φ N s v μ1 R e1) (fun w s1 h1 => ?_) fun _ _ => no_elim)
    obtain ⟨φ1, N1, E1, R1, rfl⟩ := h1
    cases w
    · exact wpAny_mono (h' c hc O ρ μ1 φ1 N1 s1 o ρ' μ' R1 e) (fun _ _ h => ps_trans E1 h) fun _ _ h => px_trans E1 h
    · exact wpAny_mono (h c hc O ρ μ1 φ1 N1 s1 o ρ' μ' R1 e) (fun _ _ h => ps_trans E1 h) fun _ _ h => px_trans E1 h
end
end Mine
end
section
set_option maxRecDepth 10000
open PySem PySem.W PySem.Calls PyProof.Rows
namespace Mine
noncomputable def closL (cl : List (Str × Addr)) : List (Str × NameKind) → List (Str × Addr) → List (Str × Addr)
  | [], acc => acc
  | (x, kd) :: r, acc => if kd == .free then closL cl r ((x, (cl.lookup x).getD 0) :: acc) else closL cl r acc
theorem closL_some {cl : List (Str × Addr)} {x : Str} {a : Addr} : ∀ (names : List (Str × NameKind)) (acc : List (Str × Addr)), (closL cl names acc).lookup x = some a → acc.lookup x = some a ∨ ((x, NameKind.free) ∈ names ∧ a = (cl.lookup x).getD 0)
  | [], acc, h => .inl h
  | (y, kd) :: r, acc, h => by
    unfold closL at h
    split at h
    · rename_i hk
      rcases closL_some r _ h with h1 | ⟨h1, h2⟩
      · rw [List.lookup_cons] at h1
        cases q : x == y with
        | true =>
          rw [q] at h1
          have := eq_of_beq q
          subst this
          rw [eq_of_beq hk]
          exact .inr ⟨.head _, (Option.some.inj h1).symm⟩
        | false => rw [q] at h1; exact .inl h1
      · exact .inr ⟨.tail _ h1, h2⟩
    · rcases closL_some r _ h with h1 | ⟨h1, h2⟩
      · exact .inl h1
      · exact .inr ⟨.tail _ h1, h2⟩
theorem closL_up {cl : List (Str × Addr)} {x : Str} : ∀ (names : List (Str × NameKind)) (acc : List (Str × Addr)), ((x, NameKind.free) ∈ names ∨ (acc.lookup x).isSome = true) → ((closL cl names acc).lookup x).isSome = true
  | [], acc, h => by
    rcases h with h | h
    · cases h
    · exact h
  | (y, kd) :: r, acc, h => by
    unfold closL
    split
    · refine closL_up r _ ?_
      rcases h with h | h
      · rcases List.mem_cons.mp h with e | h
        · cases e
          right
          rw [List.lookup_cons_self]; rfl
        · exact .inl h
      · right
        rw [List.lookup_cons]
        cases q : x == y
        · exact h
        · rfl
    · rename_i hk
      refine closL_up r _ ?_
      rcases h with h | h
      · rcases List.mem_cons.mp h with e | h
        · cases e
          exact absurd rfl hk
        · exact .inl h
      · exact .inr h
theorem closureFor_eq {scope : Scope} {env : Env} (h : ∀ x, (x, NameKind.free) ∈ scope.names → (env.cells.lookup x).isSome = true) : closureFor scope env = pure (closL env.cells scope.names []) := by
  unfold closureFor
  have key : ∀ (names : List (Str × NameKind)) (acc : List (Str × Addr)), (∀ x, (x, NameKind.free) ∈ names → (env.cells.lookup x).isSome = true) →
      (forIn (m := Sem) names acc fun p cs => if p.2 == .free then do let a ← cellOf env p.1; pure (ForInStep.yield ((p.1, a) :: cs)) else pure (ForInStep.yield cs)) = pure (closL env.cells names acc) := by
    intro names
    induction names with
    | nil => intro acc _; rfl
    | cons p r ih =>
      intro acc hp
      obtain ⟨x, kd⟩ := p
      rw [List.forIn_cons]
      unfold closL
      by_cases hk : (kd == .free) = true
      · simp only [hk, if_true]
        have := hp x (by rw [eq_of_beq hk]; exact .head _)
        obtain ⟨a, ha⟩ := Option.isSome_iff_exists.mp this
        simp only [cellOf, ha]
        exact ih _ fun y hy => hp y (.tail _ hy)
      · simp only [hk]
        exact ih _ fun y hy => hp y (.tail _ hy)
  have := key scope.names [] h
  simp only [bind_pure] 
  exact this
section
variable {D : Wd} {k : Nat} {cs : Scope} {CX fI fR : Addr}
variable {c : Cx} {ρ ρ' : Loc} {μ μ' : Mem} {φ φ1 φ' : Idm} {N N1 N' : Led} {s s' : Shared}
noncomputable def restr (sc : Scope) (ρ : Loc) : Loc := fun x => if sc.names.lookup x = some .free then ρ x else none
noncomputable def tRef (sc : Scope) (mx : XEM) : TM := fun ρ μ => (mx (restr sc ρ) μ).map fun μ' => (true, μ')
theorem dto_ref (S : SigOk D CX fI) (RO : RefOk D fR) (q : ktsIn D.K CX "BaseException" = true) {p pl pos : Pos} {params : Arguments} {body : Expr} {scope : Scope} {mx : XEM} {k' : Nat} (hx : cs.names.lookup ("_law_is_refused" : Str) = some .globalImplicit)
    (hbody : DX D CX k' scope body mx) (hk : k' + 4 ≤ k) (hcell : cs.names.lookup ("script" : Str) = some .local) (hfree : ∀ x, (x, NameKind.free) ∈ scope.names → cs.names.lookup x = some .cell)
    (hdef : ∀ env, defaultsOf params env = ([], [])) (hbind : ∀ name qual clos pm cdv ct, bindArgs (kla_fn name qual params body scope clos pm cdv ct) ⟨[], []⟩ = pure [])
    (lco : scope.isCoroutine = false) (lgen : scope.isGenerator = false) (lk : scope.kind = .function) (lcell : ∀ x ∈ scope.names, x.2 ≠ .cell) (lscr : scope.names.lookup ("script" : Str) ≠ some .local) :
    DTo D k cs (.Call (.Name "_law_is_refused" p) [.Lambda params body scope pl] [] pos) (tRef scope mx) := by
  rintro c rfl O ρ μ φ N s b μ' R e
  unfold tRef at e
  replace e := Option.map_eq_some_iff.mp e; obtain ⟨μ2, e1, e⟩ := e
  cases e
  have TO := O.tk hcell
  obtain ⟨m0, F, l⟩ := R.fr
  have hsome : ∀ x, (x, NameKind.free) ∈ scope.names → (c.env.cells.lookup x).isSome = true := fun x hx => by
    obtain ⟨a, h1, _⟩ := O.co x (hfree x hx)
    show (c.cl.lookup x).isSome = true
    rw [h1]; rfl
  refine wpAny_isTrue_value (Call_ (nameX_K F O.X (topRead_of O.T) RO.nm (callWith_K O.X RO.keep (wpAny_items_cons (wp_lambda O TO R (hdef _) (closureFor_eq hsome) fun f c' oc ctv N1 h' tk pm E1 R1 hf hc' hoc => wpAny_items_nil ?_) rfl) rfl rfl) O.fn hx (by decide)) rfl) rfl
  refine ⟨let ⟨_, F1, _⟩ := R1.fr; O.X.keeps F1.keep, ?_⟩
  refine byc fun hG => ?_
  obtain ⟨_, _, _, _, _, hout⟩ := TO
  refine hG (wpAny_call (codeAny_mono (refused S RO q (O.a (k' := k' + 3) (by exact om40 hk)) hout R1 hf hc' hoc hbody (hbind _ _ _ _ _ _) lco lgen lk lcell lscr (fun x a h => ?_) (fun x v h => ?_) e1) fun r s' hr => ?_))
  · rcases closL_some _ _ h with h | ⟨h1, h2⟩
    · cases h
    · obtain ⟨a', h3⟩ := Option.isSome_iff_exists.mp (hsome x h1)
      have h3' : c.cl.lookup x = some a' := h3
      rw [h3]at h2
      rw [h3', h2]; rfl
  · unfold restr at h
    split at h
    · rename_i hl
      have hm := mem_of_lookup hl
      refine ⟨h, hl, hfree x hm, ?_⟩
      obtain ⟨a, ha⟩ := Option.isSome_iff_exists.mp (closL_up (cl := c.cl) scope.names [] (.inl hm))
      obtain ⟨a', h3⟩ := Option.isSome_iff_exists.mp (hsome x hm)
      have h3' : c.cl.lookup x = some a' := h3
      have ha' : (closL c.env.cells scope.names []).lookup x = some a := ha
      rw [ha', h3']
      rcases closL_some _ _ ha' with h | ⟨_, h2⟩
      · cases h
      · rw [h2, h3]; rfl
    · cases h
  · refine byc fun hG => ?_
    obtain ⟨rfl, φ', N', E2, R2⟩ := hr
    exact hG (wpAny_truthy_bool ⟨φ', N', E1.trans E2.up, R2, rfl⟩)
end
end Mine
end
section
set_option maxRecDepth 10000
open PySem PySem.W PySem.Calls PyProof.Rows
namespace Mine
noncomputable def keyOf : Value → Option Int
  | .int i _ => some i
  | _ => none
theorem valueAt_of {kvs : List (Int × Value)} (nd : (kvs.map (·.1)).Nodup) {q : Int × Value} (h : q ∈ kvs) : valueAt kvs q.1 = some q.2 := by
  induction kvs with
  | nil => cases h
  | cons p r ih =>
    rw [List.map_cons, List.nodup_cons] at nd
    unfold valueAt
    rcases List.mem_cons.mp h with rfl | h
    · rw [List.find?_cons_of_pos (by simp)]; rfl
    · rw [List.find?_cons_of_neg (by simpa using fun e => nd.1 (by rw [e]; exact List.mem_map_of_mem (f := (·.1)) h))]
      exact ih nd.2 h
theorem stored_of {kvs : List (Int × Value)} {l : List Value} {kvs' : List (Int × Value)}
    (h : StoredAll (fun v (k : Int) => ∃ t, v = .int k t) (fun v y => ∃ k t, v = .int k t ∧ valueAt kvs k = some y) l kvs') :
    ∀ qs : List (Int × Value), l.map keyOf = qs.map (fun q => some q.1) → (qs.map (·.1)).Nodup → (∀ q ∈ qs, valueAt kvs q.1 = some q.2) → kvs' = qs := by
  induction h with
  | nil =>
    intro qs h1 _ _
    cases qs with
    | nil => rfl
    | cons => cases h1
  | @snoc l kvs0 v k y hs hk hy ih =>
    intro qs h1 nd hv
    obtain ⟨qs0, q, rfl⟩ : ∃ qs0 q, qs = qs0 ++ [q] := by
      rcases List.eq_nil_or_concat qs with rfl | ⟨a, b, rfl⟩
      · simp at h1
      · exact ⟨a, b, by simp⟩
    rw [List.map_append, List.map_append, List.map_cons, List.map_nil, List.map_cons, List.map_nil] at h1
    obtain ⟨h2, h3⟩ := List.append_inj' h1 rfl
    obtain ⟨t, rfl⟩ := hk
    obtain ⟨k2, t2, e2, hy⟩ := hy
    cases e2
    have hkq : q.1 = k := by
      have : some k = some q.1 := (List.cons.inj h3).1
      exact (Option.some.inj this).symm
    rw [List.map_append, List.nodup_append] at nd
    have e0 := ih qs0 h2 nd.1 fun q hq => hv q (List.mem_append_left _ hq)
    subst e0
    have hq := hv q (List.mem_append_right _ (.head _))
    rw [hkq, hy] at hq
    unfold stored
    have hany : kvs0.any (fun kv => decide (kv.1 = k)) = false := by
      rw [List.any_eq_false]
      intro p hp hpk
      have : p.1 = k := of_decide_eq_true hpk
      exact nd.2.2 _ (List.mem_map_of_mem (f := (·.1)) hp) _ (List.mem_map_of_mem (f := (·.1)) (List.mem_singleton_self q)) (this.trans hkq.symm)
    rw [hany, if_neg (by simp)]
    obtain ⟨q1, q2⟩ := q
    cases hkq
    cases hq
    rfl
theorem sift_keys (j : Int) : ∀ {vs : List Value} {kvs : List (Int × Value)}, vs.map keyOf = kvs.map (fun q => some q.1) → (vs.filter fun v => keyOf v != some j).map keyOf = (PySem.without kvs j).map (fun q => some q.1)
  | [], [], _ => rfl
  | [], _ :: _, h => by cases h
  | _ :: _, [], h => by cases h
  | v :: vs, q :: kvs, h => by
    rw [List.map_cons, List.map_cons] at h
    have h1 := (List.cons.inj h).1
    have ih := sift_keys j (List.cons.inj h).2
    unfold PySem.without at ih ⊢
    by_cases hj : q.1 = j
    · rw [List.filter_cons_of_neg (by rw [h1, hj]; simp), List.filter_cons_of_neg (by simpa using hj)]
      exact ih
    · rw [List.filter_cons_of_pos (by rw [h1]; simpa using hj), List.filter_cons_of_pos (by simpa using hj), List.map_cons, List.map_cons, h1, ih]
theorem lookup_relabel_free {env : Env} : ∀ {names : List (Str × NameKind)} {x : Str}, names.lookup x = some .free → env.scope.kind = .function → env.kindOf x = some .cell →
    (names.map fun (n, k) => if (k == NameKind.free && env.scope.kind == .function && env.kindOf n == some .cell) then (n, NameKind.cell) else (n, k)).lookup x = some .cell
  | [], _, h, _, _ => by simp at h
  | (n, k) :: r, x, h, h1, h2 => by
    have ih := @lookup_relabel_free env r x
    show List.lookup x ((if (k == NameKind.free && env.scope.kind == .function && env.kindOf n == some .cell) = true then (n, NameKind.cell) else (n, k)) :: _) = _
    rw [List.lookup_cons] at h
    cases hx : x == n with
    | true =>
      rw [hx] at h
      cases h
      have := eq_of_beq hx
      subst this
      rw [h1, h2]
      rw [if_pos (by simp), List.lookup_cons, hx]
    | false =>
      rw [hx] at h
      split
      · rw [List.lookup_cons, hx]; exact ih h h1 h2
      · rw [List.lookup_cons, hx]; exact ih h h1 h2
theorem int_of {prog : Program} {w : World} {k : Int} {v : Value} (h : (intKind prog w).is k v = true) : ∃ t, v = .int k t := Value.isInt_shape h
section
variable {D : Wd} {k : Nat} {cs : Scope} {CX fI fR : Addr}
variable {c : Cx} {ρ ρ' : Loc} {μ μ' : Mem} {φ φ1 φ' : Idm} {N N1 N' : Led} {s s' : Shared}
theorem Rep.newDictK (R : Rep D c ρ μ φ N s) {es : List (Int × V)} {ks : List (Int × Value)} (r : DRs φ N es ks) {q : Addr} {o : Obj} {m : Str → Option Value} {h' : Heap} {tk : Nat} (l : LR c ρ m φ N) (hF : Fr c.h₀ c.L h' m) (nw : News c.h₀ c.L h' ((q, o) :: N)) (hk : q ∉ N.map (·.1))
    (lo : (q == sysModules) = false) (hd : o.IsDictOf (intKind D.prog D.w) ks) : PE D c ρ φ N (.obj μ.n) (μ.new (.dict es)) (.ref q) { s with heap := h', toks := tk } := by
  have E : Ext [] φ N (((μ.n, false), q) :: φ) ((q, o) :: N) := new_ext hk
  refine ⟨_, _, E, R.next E l hF nw (R.mr.new hk (isDictOf_ne hd) ?_), ?_⟩
  · exact ⟨q, o, ks, .head _, .head _, lo, hd, r.mono E.ids (R.tups E)⟩
  · simp only [VR]; exact ⟨q, .head _, rfl⟩
noncomputable def eSift : EM := fun ρ μ => match ρ "ahead", ρ "number" with
  | some (.obj n), some (.int j) => match μ.get n with
    | some (.dict es) => if es.length ≤ 1000 ∧ (es.map (·.1)).Nodup then some (.obj μ.n, μ.new (.dict (es.filter fun e => decide (e.1 ≠ j)))) else none
    | _ => none
  | _, _ => none
theorem cell_of (l : ∃ m, LR c ρ m φ N) {x : Str} {v : V} (hx : c.cs.names.lookup x = some .cell) (e : ρ x = some v) : ∃ a o u, c.cl.lookup x = some a ∧ (a, o) ∈ N ∧ o.data = .cell (some u) ∧ VR φ N v u := by
  obtain ⟨m, l⟩ := l
  rcases l x v e with ⟨h1, _⟩ | ⟨_, h⟩
  · rw [hx] at h1; cases h1
  · exact h
theorem de_sift {scope : Scope} {p1 p2 p3 p4 p5 p6 p7 p8 p9 pos : Pos} (hsm : (D.K.lookup sysModules).isSome = true) (ha : cs.names.lookup ("ahead" : Str) = some .cell) (hn : cs.names.lookup ("number" : Str) = some .cell)
    (ho' : scope.names.lookup ("own" : Str) = some .local) (ha' : scope.names.lookup ("ahead" : Str) = some .free) (hn' : scope.names.lookup ("number" : Str) = some .free) (hkind : scope.kind = .function)
    (hcell : ∀ y ∈ scope.names, y.2 ≠ .cell) (hnames : ∀ y ∈ scope.names, y.2 = .local → scope.names.lookup y.1 = some .local) (hfree : ∀ x, (x, NameKind.free) ∈ scope.names → cs.names.lookup x = some .cell) :
    DE D k cs (.DictComp (.Name "own" p1) (.Subscript (.Name "ahead" p2) (.Name "own" p3) p4) [⟨.Name "own" p5, .Name "ahead" p6, [.Compare (.Name "own" p7) [.NotEq] [.Name "number" p8] p9], 0⟩] scope pos) eSift := by
  rintro c rfl O ρ μ φ N s b μ' R e
  refine byc fun hG => ?_
  unfold eSift at e
  split at e
  case h_2 => cases e
  rename_i n j e1 e2
  split at e
  case h_2 => cases e
  rename_i es eg
  split at e
  case isFalse => cases e
  rename_i hlen
  obtain ⟨hlen, nd⟩ := hlen
  cases e
  obtain ⟨m, F, l⟩ := R.fr
  obtain ⟨aa, oa, ua, a1, a2, a3, a4⟩ := cell_of ⟨m, l⟩ ha e1
  obtain ⟨an, on, un, n1, n2, n3, n4⟩ := cell_of ⟨m, l⟩ hn e2
  simp only [VR] at n4; obtain ⟨tn, rfl⟩ := n4
  obtain ⟨d, od, kvs, rfl, _, h3, lo, h4, h5⟩ := R.dict a4 eg
  have ndk : (kvs.map (·.1)).Nodup := by rw [h5.keys]; exact nd
  have hsome : ∀ x, (x, NameKind.free) ∈ scope.names → (c.env.cells.lookup x).isSome = true := fun x hx => by
    obtain ⟨a, h1, _⟩ := O.co x (hfree x hx)
    show (c.cl.lookup x).isSome = true
    rw [h1]; rfl
  have hcl : ∀ x a, scope.names.lookup x = some .free → c.cl.lookup x = some a → (closL c.env.cells scope.names []).lookup x = some a := fun x a h1 h2 => by
    obtain ⟨a', h3⟩ := Option.isSome_iff_exists.mp (closL_up (cl := c.env.cells) scope.names [] (.inl (mem_of_lookup h1)))
    rcases closL_some _ _ h3 with h | ⟨_, h4⟩
    · cases h
    · have h2' : c.env.cells.lookup x = some a := h2
      rw [h3, h4, h2']; rfl
  refine hG (wpAny_DictComp_free (intKind D.prog D.w) (fun v => keyOf v != some j) (fun v (k : Int) => ∃ t, v = .int k t) (fun v y => ∃ k t, v = .int k t ∧ valueAt kvs k = some y) (closureFor_eq hsome) hcell hkind hnames ho'
    (nameX_C R.nw a1 a2 a3 ?_ O.fn ha (by decide)))
  refine byc fun hG => ?_
  obtain ⟨ep, hD⟩ := (kda_dict R.nw h3 h4).dictAt
  have hdlt := hD.lt_size
  have hlk := h5.length
  refine hG (wpAny_pyIter_dict lo hD ?_)
  have hI : ∀ {b : Addr} {o : Obj}, s.heap.get? b = some o → b ∉ [s.heap.objs.size] := fun {b o} q hm => by
    rw [List.mem_singleton.mp hm] at q
    exact Nat.lt_irrefl _ (Heap.lt_size q)
  have up : ∀ {s₃ : Shared}, (∀ b o, b ∉ [s.heap.objs.size] → (s.heap.push { cls := .type "dict_keyiterator", data := .fields #[.ref d, .int 0 0, .int kvs.length 0, .int ep 0] }).get? b = some o → s₃.heap.get? b = some o) → ∀ b o, s.heap.get? b = some o → s₃.heap.get? b = some o :=
    fun hk b o q => hk b o (hI q) (Heap.get?_push_of_some _ q)
  have hkp : ∀ C, (compEnvC scope (closL c.env.cells scope.names []) C c.env).scope.kind = .function := fun C => by simp [compEnvC, relabel, hkind]
  have kown : ∀ C, (compEnvC scope (closL c.env.cells scope.names []) C c.env).kindOf "own" = some .local := fun C => lookup_relabel_local ho'
  have kcell : ∀ C x, scope.names.lookup x = some .free → (compEnvC scope (closL c.env.cells scope.names []) C c.env).kindOf x = some .cell := fun C x hx => lookup_relabel_free hx O.fn (hfree x (mem_of_lookup hx))
  have gown : ∀ {M : Model} {A : Around} {E : Value → Shared → Prop} {C : Addr} {s₃ : Shared} {m₃ : Str → Option Value} {v : Value} {pos : Pos} {Q : Value → Shared → Prop}, s₃.heap.Ns C m₃ → m₃ "own" = some v → Q v s₃ →
      wpAny M A (eval (.Name "own" pos) (compEnvC scope (closL c.env.cells scope.names []) C c.env)) Q E s₃ := fun h1 h2 h3 => wpAny_Name (wpAny_loadName_local (hkp _) (kown _) h1 h2 h3) (by decide)
  have gcell : ∀ {M : Model} {A : Around} {E : Value → Shared → Prop} {C : Addr} {s₃ : Shared} {x : Str} {a : Addr} {o : Obj} {u : Value} {pos : Pos} {Q : Value → Shared → Prop}, (x == ("__debug__" : Str)) = false → scope.names.lookup x = some .free → c.cl.lookup x = some a → s₃.heap.get? a = some o → o.data = .cell (some u) → Q u s₃ →
      wpAny M A (eval (.Name x pos) (compEnvC scope (closL c.env.cells scope.names []) C c.env)) Q E s₃ := fun h0 h1 h2 h3 h4 h5 => wpAny_Name (wpAny_loadName_cell (hkp _) (kcell _ _ h1) (hcl _ _ h1 h2) ⟨_, h3, h4⟩ h5) h0
  have hP : ∀ {i : Nat} {v : Value}, (∃ k x, kvs[i]? = some (k, x) ∧ (intKind D.prog D.w).is k v = true) → ∃ k x t, kvs[i]? = some (k, x) ∧ v = .int k t := fun {i v} ⟨k, x, q1, q2⟩ => by
    obtain ⟨t, q3⟩ := int_of q2
    exact ⟨k, x, t, q1, q3⟩
  refine ⟨s.heap.objs.size, [s.heap.objs.size, d], [s.heap.objs.size], kvs.length, _, _, rfl, Walks.dictKeys (show c.A.handled = none from O.hh) _ d (Nat.ne_of_lt hdlt) kvs ep, (by rw [hlk]; exact le_line (by exact om13 hlen)), ⟨⟨_, Heap.get?_push_size _ rfl, rfl, rfl⟩, hD.push _⟩, ?_, ⟨?_, ?_, ?_⟩, ?_⟩
  · intro b hb
    show b < (s.heap.push _).objs.size
    rw [Heap.size_push]
    rcases List.mem_cons.mp hb with rfl | hb
    · exact Nat.lt_succ_self _
    · rcases List.mem_cons.mp hb with rfl | hb
      · exact Nat.lt_succ_of_lt hdlt
      · cases hb
  · intro C i v s₃ m₃ E' hp hns hm hk
    obtain ⟨kk, x, t, q1, rfl⟩ := hP hp
    have ku := up hk
    rw [List.forIn_cons]
    refine wpAny_bind ?_
    rw [if_pos rfl]
    refine wpAny_bind (wpAny_isTrue_Compare1 (gown hns hm (gcell (by decide) hn' n1 (ku _ _ (R.nw _ n2).1) n3 (PySem.P.ne_int (wpAny_truthy_bool ?_)))) (by with_unfolding_all rfl))
    refine wpAny_pure (wpAny_pure ?_)
    refine ⟨?_, s₃.heap, s₃.toks, rfl, fun _ _ q => q⟩
    show (kk != j) = (some kk != some j)
    simp [bne]
  · intro C i v s₃ m₃ E' hp hpv hns hm hk
    refine byc fun hG => ?_
    obtain ⟨kk, x, t, q1, rfl⟩ := hP hp
    exact hG (gown hns hm ⟨⟨kk, intKind_is _ _ _ _, t, rfl⟩, s₃.heap, s₃.toks, rfl, fun _ _ q => q⟩)
  · intro C i v s₃ m₃ E' hp hpv hns hm hk
    refine byc fun hG => ?_
    obtain ⟨kk, x, t, q1, rfl⟩ := hP hp
    have ku := up hk
    refine hG (Subscript_ (gcell (by decide) ha' a1 (ku _ _ (R.nw _ a2).1) a3 (gown hns hm ?_)))
    have hm2 : (kk, x) ∈ kvs := List.mem_of_getElem? q1
    have hv : valueAt kvs kk = some x := valueAt_of ndk hm2
    have hD3 := hD.keep ku
    exact tail_any hD3.dictOf.typeIs PySem.F.slot_dict_getitem.lookup (wpAny_getItem_of (intKind_is _ _ _ _) hD3.dictOf.mapOf hv ⟨⟨kk, t, rfl, hv⟩, s₃.heap, _, rfl, fun _ _ q => q⟩) rfl
  · intro Dn h' tk kvs' vs hnone hdo hlen' hall hst hkeep
    refine byc fun hG => ?_
    have ku : ∀ b o, s.heap.get? b = some o → h'.get? b = some o := fun b o q => hkeep b o (hI q) (Heap.get?_push_of_some _ q)
    have hkeys : vs.map keyOf = kvs.map (fun q => some q.1) := by
      refine List.ext_getElem? fun i => ?_
      rw [List.getElem?_map, List.getElem?_map]
      cases hv : vs[i]? with
      | none =>
        rw [List.getElem?_eq_none_iff, hlen'] at hv
        rw [List.getElem?_eq_none_iff.mpr hv]; rfl
      | some v =>
        obtain ⟨kk, x, t, q1, rfl⟩ := hP (hall i v hv)
        rw [q1]; rfl
    have hq := stored_of hst (PySem.without kvs j) (sift_keys j hkeys) (List.Nodup.sublist (List.Sublist.map _ List.filter_sublist) ndk) fun q hq => valueAt_of ndk (List.mem_filter.mp hq).1
    subst hq
    have fresh : s.heap.get? Dn = none := by
      cases q : s.heap.get? Dn with
      | none => rfl
      | some o => rw [Heap.get?_push_of_some _ q] at hnone; cases hnone
    have F' : Fr c.h₀ c.L h' m := ⟨F.ns.keeps ku, fun b o q => ku _ _ (F.keep b o q), F.above⟩
    obtain ⟨o', ho2, hd2⟩ := Heap.dictOf_iff.mp hdo
    have nL : Dn ≠ c.L := fun q => by
      obtain ⟨oL, _, _, hL, _⟩ := F.ns
      rw [← q, fresh] at hL; cases hL
    have nk : Dn ∉ N.map (·.1) := fun hm => by
      obtain ⟨p, hp, z⟩ := List.mem_map.mp hm
      have := (R.nw p hp).1
      rw [z, fresh] at this; cases this
    have N' : News c.h₀ c.L h' ((Dn, o') :: N) := fun p hp => by
      rcases List.mem_cons.mp hp with rfl | hp
      · exact ⟨ho2, nL, kts_none F.keep fresh⟩
      · exact ⟨ku _ _ (R.nw p hp).1, (R.nw p hp).2⟩
    refine hG (R.newDictK (tk := tk) (h5.without j) l F' N' nk ?_ hd2)
    obtain ⟨os, hos⟩ := Option.isSome_iff_exists.mp hsm
    refine beq_eq_false_iff_ne.mpr fun q => ?_
    have := F.keep _ _ (O.X _ _ hos)
    rw [← q, fresh] at this; cases this
end
end Mine
end
section
set_option maxRecDepth 10000
open PySem PySem.W PySem.Calls PyProof.Rows
namespace Mine
section
variable {D : Wd} {k : Nat} {cs : Scope} {CX : Addr}
variable {c : Cx} {ρ ρ' : Loc} {μ μ' : Mem} {φ φ1 φ' : Idm} {N N1 N' : Led} {s s' : Shared}
noncomputable def sRange (a : AM) (b : SM) : Nat → Int → Int → SM
  | 0, _, _ => fun _ _ => none
  | f + 1, x, left => fun ρ μ => if left ≤ 0 then some (.next, ρ, μ) else match a (.int x) ρ μ with
    | some (ρ1, μ1) => match b ρ1 μ1 with
      | some (.next, ρ2, μ2) => sRange a b f (x + 1) (left - 1) ρ2 μ2
      | some (.cont, ρ2, μ2) => sRange a b f (x + 1) (left - 1) ρ2 μ2
      | some (.ret v, ρ2, μ2) => some (.ret v, ρ2, μ2)
      | _ => none
    | none => none
noncomputable def sForRange (m : EM) (a : AM) (b : SM) (f : Nat) : SM := fun ρ μ => match m ρ μ with
  | some (.int n, μ1) => if 0 ≤ n ∧ n ≤ 1000 then sRange a b f 0 n ρ μ1 else none
  | _ => none
theorem not_lam_r {x : Str} {o : Obj} {v w : Value} {i : Int} {t : Tok} (h : o.data = .fields #[v, .int i t, w]) : ¬ LamCode x o := fun ⟨vs, t', e, e2⟩ => by
  rw [h] at e; cases e; cases e2
inductive RangeI (D : Wd) (c : Cx) (it : Addr) (φ1 : Idm) (N1 : Led) (n : Int) (a : AM) (mb : SM) (o : Out) (ρ' : Loc) (μ' : Mem) (f : Nat) (s : Shared) : Prop where
  | mk (x left : Int) (ρ : Loc) (μ : Mem) (φ2 : Idm) (N2 : Led) (I : ItAt c it φ1 N1 φ2 N2 { cls := .type "range_iterator", data := .fields #[rawInt 0, rawInt n, rawInt 1] } { cls := .type "range_iterator", data := .fields #[rawInt x, rawInt left, rawInt 1] }) (R : Rep D c ρ μ φ2 N2 s) (e : sRange a mb f x left ρ μ = some (o, ρ', μ'))
theorem ds_range {t e : Expr} {b : List Stmt} {p cpos pos : Pos} {m : EM} {a : AM} {mb : SM} (f : Nat) (hi : DE D k cs e m) (en : nsIn D.K mainGlobals "range" = some none) (hx : cs.names.lookup ("range" : Str) = some .globalImplicit) (ha : DA D k cs t a) (hb : DSS D CX k cs b mb)
    (he : ∀ env, starEach [e] env = (false, eval e env) :: starEach [] env := by intro _; rfl)
    (hs : ∀ env x, foldedSetIterable (.Call (.Name "range" p) [e] [] cpos) env x = pure x := by intro _ _; rfl) (ht : ∀ it v, letOwnedTupleGo t it v = pure () := by intro _ _; rfl) : DS D CX k cs (.For t (.Call (.Name "range" p) [e] [] cpos) b [] pos) (sForRange m a mb f) := by
  rintro c rfl O ρ μ φ N s o ρ' μ' R e0
  unfold sForRange at e0
  split at e0
  case h_2 => cases e0
  rename_i n μ1 e1
  split at e0
  case isFalse => cases e0
  rename_i hn
  obtain ⟨m0, F, l⟩ := R.fr
  refine wpAny_For (Call_ (nameX_B F O.X (topRead_of O.T) en (by decide +kernel : bootBuiltins "range" = some (.type "range")) (by decide) (PySem.Pv.callWith_type1 (wpAny_items_cons (wpAny_mono (hi c rfl O ρ μ φ N s _ _ R e1) (fun u s1 h1 => wpAny_items_nil ?_) fun _ _ => no_elim) (he _)) (he _) rfl) O.fn hx (by decide)) rfl) (hs _)
  refine byc fun hG => ?_
  obtain ⟨φ1, N1, E1, R1, v1⟩ := h1
  simp only [VR] at v1
  obtain ⟨tn, rfl⟩ := v1
  have hsz : Builtin.Range.rangeSize 0 n 1 = n := by
    rw [rangeSize_one]
    split <;> omega
  refine hG (call_range_1 (wpAny_pyIter_range (Heap.get?_push_size _ rfl) ?_ ?_))
  · unfold Builtin.Range.small
    rw [hsz]
    simp [Builtin.Range.rangeFitsLong]
    exact om41 hn.1 hn.2
  clear hG
  rw [hsz]
  obtain ⟨m1, F1, l1⟩ := R1.fr
  have ku : ∀ {o1 : Obj} b o, s1.heap.get? b = some o → (s1.heap.push o1).get? b = some o := fun b o q => Heap.get?_push_of_some _ q
  have F2 := F1.push { cls := .type "range", data := .fields #[.int 0 s1.toks, .int n tn, .int 1 (s1.toks + 1)] }
  have N2 : News c.h₀ c.L (s1.heap.push { cls := .type "range", data := .fields #[.int 0 s1.toks, .int n tn, .int 1 (s1.toks + 1)] }) N1 := R1.nw.grown ku
  have hk : (s1.heap.push { cls := .type "range", data := .fields #[.int 0 s1.toks, .int n tn, .int 1 (s1.toks + 1)] }).objs.size ∉ N1.map (·.1) := R1.notKey fun p hp => Heap.lt_size (N2 p hp).1
  generalize hH : s1.heap.push { cls := .type "range", data := .fields #[.int 0 s1.toks, .int n tn, .int 1 (s1.toks + 1)] } = H at F2 N2 hk
  show codeAny _ _ _ _ { s1 with heap := H.push _, toks := _ }
  have N3 := News.push F2 N2 { cls := .type "range_iterator", data := .fields #[rawInt 0, rawInt n, rawInt 1] }
  have R2 : Rep D c ρ μ1 φ1 ((H.objs.size, { cls := .type "range_iterator", data := .fields #[rawInt 0, rawInt n, rawInt 1] }) :: N1) { s1 with heap := H.push { cls := .type "range_iterator", data := .fields #[rawInt 0, rawInt n, rawInt 1] }, toks := s1.toks + 1 + 1 } :=
    R1.next (tk := s1.toks + 1 + 1) more_ext l1 (F2.push _) N3 (R1.mr.more hk)
  have I0 : ItAt c H.objs.size φ1 N1 φ1 ((H.objs.size, { cls := .type "range_iterator", data := .fields #[rawInt 0, rawInt n, rawInt 1] }) :: N1) { cls := .type "range_iterator", data := .fields #[rawInt 0, rawInt n, rawInt 1] } { cls := .type "range_iterator", data := .fields #[rawInt 0, rawInt n, rawInt 1] } :=
    ⟨.refl, .head _, hk, fun us j e => by have := congrArg Obj.cls e; simp at this⟩
  refine codeAny_forLoop (RangeI D c H.objs.size φ1 N1 n a mb o ρ' μ')
    ?_ f ⟨0, n, ρ, μ1, φ1, _, I0, R2, e0⟩ (ht _)
  clear N2 R2 I0 hk e0 e1 N3 F2 hH
  intro f s2 hI
  refine byc fun hG => ?_
  obtain ⟨x, left, ρ2, μ2, φ2, N2, I, R2, e⟩ := hI
  cases f with
  | zero => cases e
  | succ f =>
    unfold sRange at e
    have hit : IsRangeIter s2.heap H.objs.size x left 1 := (R2.nw _ I.at_).1
    obtain ⟨m2, F2, l2⟩ := R2.fr
    have hid := I.id R1
    have hce := I.cell R1
    have nl : ∀ {x left : Int} {y : Str}, ¬ LamCode y { cls := .type "range_iterator", data := .fields #[rawInt x, rawInt left, rawInt 1] } := not_lam_r rfl
    split at e
    · rename_i hleft
      cases e
      refine hG (wpAny_pyNext_range_end O.hh hit hleft fun h' he => ?_)
      refine wpAny_execs_nil ⟨φ2, _, E1.up.trans I.drop, R2.drop (tk := s2.toks) l2 hid I.at_ I.nt hce (I.ow R1) nl (Fr.extIt F2 R2.nw I.at_ he) (News.filtered R2.nw he), rfl⟩
    · rename_i hleft
      refine hG (wpAny_pyNext_range_item hit (by exact om42 hleft) fun h' hit' hsb => ?_)
      clear hG
      refine byc fun hG => ?_
      have nt' : ∀ us j, ({ cls := .type "range_iterator", data := .fields #[rawInt (x + 1), rawInt (left - 1), rawInt 1] } : Obj) ≠ tupOf us j := fun us j e => by have := congrArg Obj.cls e; simp at this
      have nL := (R2.nw _ I.at_).2
      have F3 : Fr c.h₀ c.L h' m2 := F2.change hsb nL.1 nL.2
      have N3 : News c.h₀ c.L h' (setA H.objs.size _ N2) := R2.nw.update I.at_ hsb hit'
      have I3 := I.turn R1 nt'
      have R3 := R2.other (tk := s2.toks + 1) l2 hid I.at_ I.nt nt' hce (I.ow R1) nl F3 N3
      cases ea : a (.int x) ρ2 μ2 with
      | none => rw [ea] at e; cases e
      | some r =>
        obtain ⟨ρ3, μ3⟩ := r
        rw [ea] at e
        dsimp only at e
        refine hG (wpAny_mono (ha c rfl O ρ2 μ2 φ2 _ _ _ _ _ _ R3 vr_int ea) (fun _ s4 h4' => ?_) fun _ _ => no_elim)
        clear hG
        refine byc fun hG => ?_
        obtain ⟨φ4, N4, E4, R4⟩ := h4'
        have I4 := I3.body R1 E4
        cases eb : mb ρ3 μ3 with
        | none => rw [eb] at e; cases e
        | some r =>
          obtain ⟨o5, ρ5, μ5⟩ := r
          rw [eb] at e
          refine hG (wpAny_mono (hb c rfl O ρ3 μ3 φ4 N4 s4 o5 ρ5 μ5 R4 eb) (fun fl s5 h5 => ?_) fun x s5 h5 => ?_)
          · obtain ⟨φ5, N5, E5, R5, r5⟩ := h5
            have I5 := I4.body R1 E5
            cases o5
            · cases r5
              exact ⟨f, Nat.lt_succ_self _, x + 1, left - 1, ρ5, μ5, φ5, N5, I5, R5, e⟩
            · cases r5
              exact ⟨f, Nat.lt_succ_self _, x + 1, left - 1, ρ5, μ5, φ5, N5, I5, R5, e⟩
            · obtain ⟨u5, rfl, hu5⟩ := r5
              cases e
              obtain ⟨m5, F5, l5⟩ := R5.fr
              have R6 := R5.drop (tk := s5.toks) l5 (I5.id R1) I5.at_ I5.nt (I5.cell R1) (I5.ow R1) nl F5 (News.filtered R5.nw (Heap.ExtBut.refl _ _))
              exact ⟨φ5, _, E1.up.trans I5.drop, R6, u5, rfl, hu5.mono (fun _ h => h) fun b us j h => mem_filterL h fun (e : b = H.objs.size) => I5.nt us j (led_uniq R5.mr.nd I5.at_ (by rw [← e]; exact h))⟩
            · exact r5.elim
          · obtain ⟨rfl, _⟩ := h5
            cases e
end
end Mine
end
section
set_option maxRecDepth 10000
open PySem PySem.W PySem.Calls PyProof.Rows
namespace Mine
section
variable {D : Wd} {k : Nat} {cs : Scope} {CX : Addr}
variable {c : Cx} {ρ ρ' : Loc} {μ μ' : Mem} {φ φ1 φ' : Idm} {N N1 N' : Led} {s s' : Shared}
noncomputable def absI (i : Int) : Int := if i < 0 then -i else i
theorem paired_abs {φ : Idm} {N : Led} : ∀ {vs ys : List Value} {ns : List Int}, IntsAre vs ns → Paired (fun v y => ∀ i t, v = .int i t → ∃ t', y = .int (absI i) t') vs ys → VRs φ N (ns.map fun i => .int (absI i)) ys
  | _, _, _, .nil, .nil => .nil
  | _, _, _, .cons i t r, .cons h p => by
    obtain ⟨t', rfl⟩ := h i t rfl
    exact .cons vr_int (paired_abs r p)
theorem ints_take : ∀ {vs : List Value} {ns : List Int} (n : Nat), IntsAre vs ns → IntsAre (vs.take n) (ns.take n)
  | _, _, 0, _ => .nil
  | _, _, n + 1, .nil => .nil
  | _, _, n + 1, .cons i t r => .cons i t (ints_take n r)
theorem ints_get : ∀ {vs : List Value} {ns : List Int} {j : Nat} {v : Value}, IntsAre vs ns → vs[j]? = some v → ∃ i t, v = .int i t
  | _, _, _, _, .nil, h => by simp at h
  | _, _, 0, _, .cons i t r, h => by simp at h; exact ⟨i, t, h.symm⟩
  | _, _, j + 1, _, .cons i t r, h => ints_get r (by simpa using h)
theorem filter_all {vs : List Value} : vs.filter (fun _ => true) = vs := List.filter_eq_self.mpr fun _ _ => rfl
theorem wp_script {sa : Addr} {vs : List Value} {ns : List Int} {m : Str → Option Value} {scope : Scope} {p1 p2 p3 p4 p5 p6 p7 p8 pos : Pos} {j : Nat} (O : Ok D k c) (R : Rep D c ρ μ φ N s) (F : Fr c.h₀ c.L s.heap m) (l : LR c ρ m φ N)
    (hm : m "script" = some (.ref sa)) (hl : s.heap.IsList sa vs.toArray) (hv : IntsAre vs ns) (hlen : vs.length ≤ 1000) (hsc : c.cs.names.lookup ("script" : Str) = some .local) (en : nsIn D.K mainGlobals "abs" = some none)
    (ho' : scope.names.lookup ("cell" : Str) = some .local) (hab : scope.names.lookup ("abs" : Str) = some .globalImplicit) (hkind : scope.kind = .function) (hrel : ∀ C cl, (compEnvC scope cl C c.env).kindOf "abs" = some .globalImplicit)
    (hcell : ∀ y ∈ scope.names, y.2 ≠ .cell) (hnames : ∀ y ∈ scope.names, y.2 = .local → scope.names.lookup y.1 = some .local) (hfree : ∀ x, (x, NameKind.free) ∉ scope.names) :
    wpAny (model D.prog D.w) c.A (eval (.ListComp (.Call (.Name "abs" p1) [.Name "cell" p2] [] p3) [⟨.Name "cell" p4, .Subscript (.Name "script" p5) (.Slice none (some (.Constant (.int 63) j p6)) none p7) p8, [], 0⟩] scope pos) c.env)
      (PE D c ρ φ N (.obj μ.n) (μ.new (.list ((ns.take 63).map fun i => .int (absI i))))) no s := by
  have hsome : ∀ x, (x, NameKind.free) ∈ scope.names → (c.env.cells.lookup x).isSome = true := fun x hx => absurd hx (hfree x)
  refine wpAny_ListComp_free (fun _ => true) (fun v y => ∀ i t, v = .int i t → ∃ t', y = .int (absI i) t') (closureFor_eq hsome) hcell hkind hnames ho' (Subscript_ (nameX_L F hm (wpAny_Slice ?_) O.fn hsc (by decide)))
  rw [evalPart_none, evalPart_some]
  refine wpAny_pure (wpAny_Constant_int (wpAny_pure ?_))
  have hl1 := hl.push { cls := .type "slice", data := .fields #[.none, .int 63 s.toks, .none] }
  refine tail_any (Heap.IsList.typeIs hl1) PySem.F.slot_list_getitem.lookup (wpAny_getItem_list_slice hl1 (Heap.IsSliceOf.new ..) .none (.int _ _) .none (by decide) ?_ (by rw [List.size_toArray]; exact le_line (by exact om13 hlen))) (ops := [_, _]) rfl
  have hpk : slicePick vs.toArray none (some 63) none = (vs.take 63).toArray := slicePick_upto' _ 63
  rw [hpk]
  have F1 := (F.push { cls := .type "slice", data := .fields #[.none, .int 63 s.toks, .none] }).push { cls := .type "list", data := .seq (vs.take 63).toArray }
  have ku : ∀ b o, s.heap.get? b = some o → ((s.heap.push { cls := .type "slice", data := .fields #[.none, .int 63 s.toks, .none] }).push { cls := .type "list", data := .seq (vs.take 63).toArray }).get? b = some o := fun b o q => Heap.get?_push_of_some _ (Heap.get?_push_of_some _ q)
  have hlt : (((s.heap.push { cls := .type "slice", data := .fields #[.none, .int 63 s.toks, .none] }).push { cls := .type "list", data := .seq (vs.take 63).toArray })).get? (s.heap.push { cls := .type "slice", data := .fields #[.none, .int 63 s.toks, .none] }).objs.size = some { cls := .type "list", data := .seq (vs.take 63).toArray } := Heap.get?_push_size _ rfl
  show wpAny _ _ (pyIter (.ref (s.heap.push { cls := .type "slice", data := .fields #[.none, .int 63 s.toks, .none] }).objs.size)) _ _ { s with heap := (s.heap.push { cls := .type "slice", data := .fields #[.none, .int 63 s.toks, .none] }).push { cls := .type "list", data := .seq (vs.take 63).toArray }, toks := s.toks + 1 }
  generalize hH : (s.heap.push { cls := .type "slice", data := .fields #[.none, .int 63 s.toks, .none] }).push { cls := .type "list", data := .seq (vs.take 63).toArray } = H at F1 ku hlt
  generalize hL : (s.heap.push { cls := .type "slice", data := .fields #[.none, .int 63 s.toks, .none] }).objs.size = ls at hlt
  have hli : H.IsList ls (vs.take 63).toArray := ⟨_, hlt, rfl, 0, rfl⟩
  have hlt2 : ls < H.objs.size := Heap.lt_size hlt
  refine wpAny_pyIter_list hli ?_
  have hI : ∀ {b : Addr} {o : Obj}, H.get? b = some o → b ∉ [H.objs.size] := fun {b o} q hm => by
    rw [List.mem_singleton.mp hm] at q
    exact Nat.lt_irrefl _ (Heap.lt_size q)
  have up : ∀ {s₃ : Shared}, (∀ b o, b ∉ [H.objs.size] → (H.push { cls := .type "list_iterator", data := .fields #[.ref ls, .int 0 0] }).get? b = some o → s₃.heap.get? b = some o) → ∀ b o, s.heap.get? b = some o → s₃.heap.get? b = some o :=
    fun hk b o q => hk b o (hI (ku _ _ q)) (Heap.get?_push_of_some _ (ku _ _ q))
  have hkp : ∀ C, (compEnvC scope (closL c.env.cells scope.names []) C c.env).scope.kind = .function := fun C => by simp [compEnvC, relabel, hkind]
  have kown : ∀ C, (compEnvC scope (closL c.env.cells scope.names []) C c.env).kindOf "cell" = some .local := fun C => lookup_relabel_local ho'
  have hv63 := ints_take 63 hv
  refine ⟨H.objs.size, [H.objs.size, ls], [H.objs.size], (vs.take 63).toArray.size, _, _, rfl, Walks.list (show c.A.handled = none from O.hh) _ ls (Nat.ne_of_lt hlt2) (vs.take 63).toArray, (by rw [List.size_toArray, List.length_take]; exact le_line (by exact om43)), ⟨⟨_, Heap.get?_push_size _ rfl, rfl, rfl⟩, hli.push _⟩, ?_, ⟨?_, ?_⟩, ?_⟩
  · intro b hb
    show b < (H.push _).objs.size
    rw [Heap.size_push]
    rcases List.mem_cons.mp hb with rfl | hb
    · exact Nat.lt_succ_self _
    · rcases List.mem_cons.mp hb with rfl | hb
      · exact Nat.lt_succ_of_lt hlt2
      · cases hb
  · intro C i v s₃ m₃ E' hC hp hns hm hk htk
    rw [List.forIn_nil]
    exact wpAny_pure ⟨rfl, s₃.heap, s₃.toks, rfl, fun _ _ q => q⟩
  · intro C i v s₃ m₃ E' hC hp hpv hns hm hk htk
    have hp' : (vs.take 63)[i]? = some v := by simpa using hp
    obtain ⟨i', t, rfl⟩ := ints_get hv63 hp'
    have ku3 := up hk
    have G3 : s₃.heap.Ns mainGlobals D.mg := O.T.g.keeps fun b o q => ku3 _ _ (F.keep b o q)
    have B3 : s₃.heap.Ns builtinsNs D.mb := O.T.b.keeps fun b o q => ku3 _ _ (F.keep b o q)
    refine Call_ (Name_function_global (hkp _) (hrel _ _) (loadGlobal_builtin (env := compEnvC scope (closL c.env.cells scope.names []) C c.env) G3 (mg_none_of O.X O.T.g en) B3 ((O.T.builtins "abs" (by decide)).trans (by decide +kernel : bootBuiltins "abs" = some (.builtin "abs"))) ?_) (by decide)) rfl
    refine PyProof.Rows.callWith_builtin1 (wpAny_items_cons (wpAny_Name (wpAny_loadName_local (hkp _) (kown _) hns hm (wpAny_items_nil ?_)) (by decide)) rfl) rfl rfl
    refine call_abs_int fun u tk => ⟨fun i2 t2 e2 => ?_, s₃.heap, _, rfl, fun _ _ q => q⟩
    cases e2
    exact ⟨_, rfl⟩
  · intro Dn h' tk ys vs' hnone hlst hpl hlen' hall hpair hkeep
    refine byc fun hG => ?_
    have ku' : ∀ b o, s.heap.get? b = some o → h'.get? b = some o := fun b o q => hkeep b o (hI (ku _ _ q)) (Heap.get?_push_of_some _ (ku _ _ q))
    have hvs : vs' = vs.take 63 := by
      refine List.ext_getElem? fun i => ?_
      cases hv : vs'[i]? with
      | none =>
        rw [List.getElem?_eq_none_iff, hlen', List.size_toArray] at hv
        rw [List.getElem?_eq_none_iff.mpr hv]
      | some v => have := hall i v hv; simpa using this.symm
    subst hvs
    rw [filter_all] at hpair
    have fresh : s.heap.get? Dn = none := by
      cases q : s.heap.get? Dn with
      | none => rfl
      | some o => rw [Heap.get?_push_of_some _ (ku _ _ q)] at hnone; cases hnone
    have F' : Fr c.h₀ c.L h' m := ⟨F.ns.keeps ku', fun b o q => ku' _ _ (F.keep b o q), F.above⟩
    obtain ⟨nl, ho2⟩ := hpl
    have nL : Dn ≠ c.L := fun q => by
      obtain ⟨oL, _, _, hL, _⟩ := F.ns
      rw [← q, fresh] at hL; cases hL
    have nk : Dn ∉ N.map (·.1) := fun hm => by
      obtain ⟨p, hp, z⟩ := List.mem_map.mp hm
      have := (R.nw p hp).1
      rw [z, fresh] at this; cases this
    have N' : News c.h₀ c.L h' ((Dn, listOf ys nl) :: N) := fun p hp => by
      rcases List.mem_cons.mp hp with rfl | hp
      · exact ⟨ho2, nL, kts_none F.keep fresh⟩
      · exact ⟨ku' _ _ (R.nw p hp).1, (R.nw p hp).2⟩
    have E : Ext [] φ N (((μ.n, false), Dn) :: φ) ((Dn, listOf ys nl) :: N) := new_ext nk
    refine hG ⟨_, _, E, R.next (tk := tk) E l F' N' (R.mr.new nk listOf_ne ?_), by simp only [VR]; exact ⟨Dn, .head _, rfl⟩⟩
    exact ⟨Dn, ys.toList, nl, .head _, .head _, paired_abs hv63 hpair⟩
end
end Mine
end
section
set_option maxRecDepth 10000
open PySem PySem.W PySem.Calls PyProof.Rows
namespace Mine
theorem bindL_eq (kd : Str → Option NameKind) : ∀ (bs : List (Str × Value)) (m : Str → Option Value) (x : Str), bindL kd bs m x = if kd x = some .local then (bs.reverse.lookup x).or (m x) else m x
  | [], m, x => by unfold bindL; split <;> rfl
  | (n, v) :: r, m, x => by
    unfold bindL
    rw [bindL_eq kd r, List.reverse_cons, List.lookup_append]
    by_cases hx : kd x = some .local
    · rw [if_pos hx, if_pos hx]
      by_cases hn : x = n
      · subst hn
        rw [if_pos hx, if_pos rfl, List.lookup_cons_self, Option.or_assoc]; rfl
      · have h1 : List.lookup x [(n, v)] = none := by
          rw [List.lookup_cons]
          have : (x == n) = false := beq_eq_false_iff_ne.mpr hn
          rw [this]; rfl
        rw [h1, Option.or_none]
        split
        · simp only [if_neg hn]
        · rfl
    · rw [if_neg hx, if_neg hx]
      split
      · rename_i hk
        by_cases hn : x = n
        · subst hn; exact absurd hk hx
        · simp only [if_neg hn]
      · rfl
theorem bindC_eq (kd : Str → Option NameKind) : ∀ (bs : List (Str × Value)) (m : Str → Option Value) (x : Str), bindC kd bs m x = if kd x = some .local then m x else (bs.reverse.lookup x).or (m x)
  | [], m, x => by unfold bindC; split <;> rfl
  | (n, v) :: r, m, x => by
    unfold bindC
    rw [bindC_eq kd r, List.reverse_cons, List.lookup_append]
    by_cases hx : kd x = some .local
    · rw [if_pos hx, if_pos hx]
      split
      · rfl
      · rename_i hk
        by_cases hn : x = n
        · subst hn; exact absurd hx hk
        · simp only [if_neg hn]
    · rw [if_neg hx, if_neg hx]
      by_cases hn : x = n
      · subst hn
        rw [if_neg hx, if_pos rfl, List.lookup_cons_self, Option.or_assoc]; rfl
      · have h1 : List.lookup x [(n, v)] = none := by
          rw [List.lookup_cons]
          have : (x == n) = false := beq_eq_false_iff_ne.mpr hn
          rw [this]; rfl
        rw [h1, Option.or_none]
        split
        · rfl
        · simp only [if_neg hn]
theorem cellsAre_at {cm : Str → Option Value} {cl : List (Str × Addr)} {cells : Led} (h : CellsAre cm cl cells) {x : Str} {a : Addr} (e : cl.lookup x = some a) : ∃ o, (a, o) ∈ cells ∧ o.data = .cell (cm x) := by
  induction h with
  | nil => cases e
  | @cons n c o cs cells hd h ih =>
    rw [List.lookup_cons] at e
    cases q : x == n with
    | true =>
      rw [q] at e
      cases e
      have := eq_of_beq q
      subst this
      exact ⟨o, .head _, hd⟩
    | false =>
      rw [q] at e
      obtain ⟨o', h1, h2⟩ := ih e
      exact ⟨o', .tail _ h1, h2⟩
theorem cellsAre_keys {cm : Str → Option Value} {cl : List (Str × Addr)} {cells : Led} (h : CellsAre cm cl cells) : cells.map (·.1) = cl.map (·.2) := by
  induction h with
  | nil => rfl
  | cons _ _ ih => rw [List.map_cons, List.map_cons, ih]
theorem cellsFrom_snd : ∀ (names : List (Str × NameKind)) (n : Nat) (acc : List (Str × Addr)), (∀ p ∈ acc, p.2 < n) → (acc.map (·.2)).Nodup → ((cellsFrom n names acc).map (·.2)).Nodup
  | [], _, _, _, h => h
  | (x, kd) :: r, n, acc, h1, h2 => by
    unfold cellsFrom
    split
    · refine cellsFrom_snd r _ _ (fun p hp => ?_) ?_
      · rcases List.mem_cons.mp hp with rfl | hp
        · exact Nat.lt_succ_self _
        · exact Nat.lt_succ_of_lt (h1 p hp)
      · rw [List.map_cons, List.nodup_cons]
        refine ⟨fun hm => ?_, h2⟩
        obtain ⟨p, hp, e⟩ := List.mem_map.mp hm
        exact Nat.lt_irrefl n (by have := h1 p hp; rw [e] at this; exact this)
    · exact cellsFrom_snd r _ _ h1 h2
theorem cellsFrom_ge : ∀ (names : List (Str × NameKind)) (n m : Nat) (acc : List (Str × Addr)), m ≤ n → (∀ p ∈ acc, m ≤ p.2) → ∀ p ∈ cellsFrom n names acc, m ≤ p.2
  | [], _, _, _, _, h => h
  | (x, kd) :: r, n, m, acc, hm, h => by
    unfold cellsFrom
    split
    · refine cellsFrom_ge r _ _ _ (Nat.le_succ_of_le hm) fun p hp => ?_
      rcases List.mem_cons.mp hp with rfl | hp
      · exact hm
      · exact h p hp
    · exact cellsFrom_ge r _ _ _ hm h
theorem lookup_inj {cl : List (Str × Addr)} (nd : (cl.map (·.2)).Nodup) {x y : Str} {a : Addr} (hx : cl.lookup x = some a) (hy : cl.lookup y = some a) : x = y := by
  have h1 := mem_of_lookup hx
  have h2 := mem_of_lookup hy
  clear hx hy
  induction cl with
  | nil => cases h1
  | cons p r ih =>
    rw [List.map_cons, List.nodup_cons] at nd
    rcases List.mem_cons.mp h1 with e1 | h1 <;> rcases List.mem_cons.mp h2 with e2 | h2
    · rw [← e1] at e2; cases e2; rfl
    · exact absurd (by rw [← e1]; exact List.mem_map_of_mem (f := (·.2)) h2) nd.1
    · exact absurd (by rw [← e2]; exact List.mem_map_of_mem (f := (·.2)) h1) nd.1
    · exact ih nd.2 h1 h2
section
variable {D : Wd} {k : Nat} {CX : Addr}
variable {c : Cx} {ρ ρ' : Loc} {μ μ' : Mem} {φ φ1 φ' : Idm} {N N1 N' : Led} {s s' : Shared}
theorem MR.mores (M : MR D.prog D.w φ N μ) : ∀ {cells : Led}, (cells.map (·.1)).Nodup → (∀ p ∈ cells, p.1 ∉ N.map (·.1)) → MR D.prog D.w φ (cells ++ N) μ
  | [], _, _ => M
  | (a, o) :: r, nd, h => by
    rw [List.map_cons, List.nodup_cons] at nd
    refine (MR.mores M nd.2 fun p hp => h p (.tail _ hp)).more fun hm => ?_
    rw [List.map_append] at hm
    rcases List.mem_append.mp hm with hm | hm
    · exact nd.1 hm
    · exact h _ (.head _) hm
noncomputable abbrev Cx.subC (c : Cx) (A : Around) (g : Heap) (L : Addr) (qual : Str) (scope : Scope) (f : Addr) (cdv : Value) : Cx :=
  { A₀ := A, base := c.base, outer := c.env :: c.outer, h₀ := g, L := L, cn := qual, cs := scope, a := f, ccd := cdv, cl := cellsFrom (L + 1) scope.names [], own := (cellsFrom (L + 1) scope.names []).map (·.2), os := c.os, tab := none }
theorem cells_lr {L : Addr} {c' : Cx} {ps : List Str} {vs : List V} {us : List Value} {cells : Led} (v : VRs φ N vs us) (hcl : c'.cl = cellsFrom (L + 1) c'.cs.names [])
    (hkind : ((ps.zip us).all fun y => c'.cs.names.lookup y.1 == some .local || c'.cs.names.lookup y.1 == some .cell) = true) {kd : Str → Option NameKind} (hkd : ∀ x, kd x = c'.cs.names.lookup x)
    (Y : CellsAre (bindC kd (ps.zip us) fun _ => none) c'.cl cells) : LR c' (bindv ps vs) (bindL kd (ps.zip us) fun _ => none) φ (cells ++ N) := fun x w e => by
  obtain ⟨u, h1, h2⟩ := (BR.zip v).reverse.lookup e
  have h2' : VR φ (cells ++ N) w u := h2.mono (fun _ h => h) fun _ _ _ h => List.mem_append_right _ h
  have hm := List.mem_reverse.mp (mem_of_lookup h1)
  rcases kindsX hkind (L + 1) _ hm with hl | ⟨hc, hs⟩
  · refine .inl ⟨hl, u, ?_, h2'⟩
    rw [bindL_eq, hkd, if_pos hl, h1]; rfl
  · refine byc fun hG => ?_
    obtain ⟨a, ha⟩ := Option.isSome_iff_exists.mp hs
    rw [← hcl] at ha
    obtain ⟨o, h3, h4⟩ := cellsAre_at Y ha
    refine hG (.inr ⟨.inl hc, a, o, u, ha, List.mem_append_left _ h3, ?_, h2'⟩)
    rw [h4, bindC_eq, hkd, if_neg (by rw [hc]; intro q; cases q), h1]; rfl
theorem Rep.enterC (R : Rep D c ρ μ φ N s) {A : Around} {g h₁ : Heap} {L : Addr} {qual : Str} {scope : Scope} {f : Addr} {cdv : Value} {ps : List Str} {vs : List V} {us : List Value} {tk : Nat} {cells : Led} {kd : Str → Option NameKind} (v : VRs φ N vs us) (hkd : ∀ x, kd x = scope.names.lookup x)
    (hkind : ((ps.zip us).all fun y => scope.names.lookup y.1 == some .local || scope.names.lookup y.1 == some .cell) = true) (hnd : ((cellsFrom 0 scope.names []).map (·.1)).Nodup)
    (F : Fr g L h₁ (bindL kd (ps.zip us) fun _ => none)) (nw : News g L h₁ (cells ++ N)) (Y : CellsAre (bindC kd (ps.zip us) fun _ => none) (cellsFrom (L + 1) scope.names []) cells) (hlt : ∀ p ∈ N, p.1 < L) :
    Rep D (c.subC A g L qual scope f cdv) (bindv ps vs) μ φ (cells ++ N) { s with heap := h₁, toks := tk } := by
  have hge : ∀ p ∈ cells, L < p.1 := fun p hp => by
    have : p.1 ∈ (cellsFrom (L + 1) scope.names []).map (·.2) := by rw [← cellsAre_keys Y]; exact List.mem_map_of_mem hp
    obtain ⟨q, hq, e⟩ := List.mem_map.mp this
    have := cellsFrom_ge scope.names (L + 1) (L + 1) [] (Nat.le_refl _) (fun _ h => nomatch h) q hq
    rw [e] at this; exact this
  have hnk : ∀ p ∈ cells, p.1 ∉ N.map (·.1) := fun p hp hm => by
    obtain ⟨q, hq, e⟩ := List.mem_map.mp hm
    have h1 := hlt q hq
    have h2 := hge p hp
    rw [e] at h1
    exact Nat.lt_irrefl _ (Nat.lt_trans h1 h2)
  have nd : (cells.map (·.1)).Nodup := by rw [cellsAre_keys Y]; exact cellsFrom_snd _ _ _ (fun _ h => nomatch h) List.nodup_nil
  exact {
    fr := ⟨_, F, cells_lr (L := L) v rfl hkind hkd Y⟩
    nw := nw
    mr := R.mr.mores nd hnk
    ca := fun x a e => by
      obtain ⟨o, h3, h4⟩ := cellsAre_at Y e
      refine ⟨fun hm => ?_, o, _, List.mem_append_left _ h3, h4⟩
      obtain ⟨q, hq, e2⟩ := List.mem_map.mp hm
      have := R.mr.kn q hq
      rw [e2] at this
      exact hnk _ h3 this
    ow := fun a h => by
      obtain ⟨q, hq, e⟩ := List.mem_map.mp h
      exact .inl ⟨q.1, lookup_of_mem_nodup (cellsFrom_names scope.names 0 (L + 1) [] [] rfl ▸ hnd) (by rw [← e]; exact hq)⟩
    tb := fun cc P e => nomatch e
    gs := R.gs
    os := R.os }
theorem fn_ofC {name qual : Str} {params : Arguments} {body : List Stmt} {scope : Scope} {dV kV doc pm cdv ct oc : Value} {an od : Option Addr} {osl : Array (Option Value)} {f : Addr} {m : SM} (ps : List Str)
    (ho : D.K.lookup f = some ⟨oc, od, .func (fnOf name qual params body scope dV kV doc pm an cdv ct), osl⟩) (hcd : codeIn D.K cdv qual = true)
    (hb : ∀ s us, D.K.In s.heap → us.length = ps.length → BindsTo s (fnOf name qual params body scope dV kV doc pm an cdv ct) ⟨us, []⟩ (ps.zip us)) (hloc : ∀ x ∈ ps, scope.names.lookup x = some .local ∨ scope.names.lookup x = some .cell)
    (h : DSS D CX k scope body m) (hscr : scope.names.lookup ("script" : Str) ≠ some .local) (hnd : ((cellsFrom 0 scope.names []).map (·.1)).Nodup)
    (hco : scope.isCoroutine = false := by rfl) (hgen : scope.isGenerator = false := by rfl) (hk : scope.kind = .function := by rfl) : FnS D (k + 1) (.ref f) (runBody m ps) := by
  intro c A O ρ μ φ N s us vs b μ' R v e
  unfold runBody at e
  split at e
  case isFalse => cases e
  rename_i hlen
  obtain ⟨m0, F, l⟩ := R.fr
  have hkind : ((ps.zip us).all fun y => scope.names.lookup y.1 == some .local || scope.names.lookup y.1 == some .cell) = true := List.all_eq_true.mpr fun y hy => by
    rcases hloc _ (List.of_mem_zip hy).1 with q | q
    · rw [q]; rfl
    · rw [q]; rfl
  refine W.code_defC O.B F O.X R.nw O.T O.fr rfl O.fn ho hcd (by have := O.hd; exact om31 this) (hb s us (O.X.keeps F.keep) (by rw [v.length]; exact hlen)) hkind hnd (fun g L' h₁ tk cells FG F' N' Y B' X' T' hlt => ?_) hco hgen hk
  have hinj : ∀ x y a, (cellsFrom (L' + 1) scope.names []).lookup x = some a → (cellsFrom (L' + 1) scope.names []).lookup y = some a → x = y := fun x y a h1 h2 => lookup_inj (cellsFrom_snd scope.names (L' + 1) [] (fun _ h => nomatch h) List.nodup_nil) h1 h2
  have O' : Ok D k (c.subC A g L' qual scope f cdv) := {
    B := B'
    X := X'
    T := T'
    XB := O.XB
    TB := O.TB
    fn := hk
    hh := O.hh
    hd := by have := O.hd; show A.depth + 1 + k < _; exact om29 this
    hu := by have := O.hu; show A.units + 200 + 8 * k < _; exact om30 this
    ci := hinj
    co := fun x hx => by
      obtain ⟨a, ha⟩ := Option.isSome_iff_exists.mp (cellsFrom_some scope.names (L' + 1) [] (.inl hx))
      exact ⟨a, ha, List.mem_map_of_mem (f := (·.2)) (mem_of_lookup ha)⟩
    tk := fun h => absurd h hscr }
  have R' := R.enterC (A := A) (g := g) (L := L') (qual := qual) (scope := scope) (f := f) (cdv := cdv) (tk := tk) v (fun _ => rfl) hkind hnd F' N' Y hlt
  have hE0 : ∀ {φ2 N2}, Ext (c.subC A g L' qual scope f cdv).own φ (cells ++ N) φ2 N2 → Ext [] φ N φ2 N2 := fun {φ2 N2} E => ⟨E.ids, fun p hp h1 _ => E.old p (List.mem_append_right _ hp) h1 fun hm => by
      obtain ⟨q, hq, e⟩ := List.mem_map.mp hm
      have h1 := cellsFrom_ge scope.names (L' + 1) (L' + 1) [] (Nat.le_refl _) (fun _ h => nomatch h) q hq
      have h2 := hlt p hp
      rw [e] at h1
      exact Nat.lt_irrefl _ (Nat.lt_trans h2 h1), fun q hq => (E.new q hq).imp_right fun h hm => h (by rw [List.map_append]; exact List.mem_append_right _ hm),
    fun a ha => E.keys a (by rw [List.map_append]; exact List.mem_append_right _ ha)⟩
  cases em : m (bindv ps vs) μ with
  | none => rw [em] at e; cases e
  | some r =>
    obtain ⟨o, ρ2, μ2⟩ := r
    rw [em] at e
    refine wpAny_mono (h _ rfl O' _ _ _ _ _ o ρ2 μ2 R' em) (fun fl s2 h2 => ?_) fun x s2 h2 => ?_
    · refine byc fun hG => ?_
      obtain ⟨φ2, N2, E2, R2, r2⟩ := h2
      obtain ⟨m2, F2, _⟩ := R2.fr
      refine hG (leaveK_ F2 R2.nw fun F3 N3 => ?_)
      cases o
      · cases r2; cases e
        exact ⟨.none, rfl, φ2, N2, hE0 E2, R.back (hE0 E2) l F3 N3 R2.mr R2.gs R2.os, vr_none⟩
      · cases e
      · obtain ⟨u, rfl, hu⟩ := r2; cases e
        exact ⟨u, rfl, φ2, N2, hE0 E2, R.back (hE0 E2) l F3 N3 R2.mr R2.gs R2.os, hu⟩
      · cases e
    · obtain ⟨rfl, _⟩ := h2
      cases e
end
end Mine
end
section
set_option maxRecDepth 10000
open PySem PySem.W PySem.Calls PyProof.Rows
namespace Mine
noncomputable def fnBody : Stmt → List Stmt
  | .FunctionDef _ _ body _ _ _ _ _ _ _ => body
  | _ => []
noncomputable def fnScope : Stmt → Scope
  | .FunctionDef _ _ _ _ _ _ scope _ _ _ => scope
  | _ => default
noncomputable def fnParams : Stmt → Arguments
  | .FunctionDef _ params _ _ _ _ _ _ _ _ => params
  | _ => default
noncomputable def clBody : Stmt → List Stmt
  | .ClassDef _ _ _ body _ _ _ _ _ _ _ => body
  | _ => []
noncomputable def item (l : List Stmt) (i : Nat) : Stmt := (l[i]?).getD (.Pass default)
noncomputable def top (i : Nat) : Stmt := item PySem.Challenge.pw_np0055_01.main.body i
noncomputable abbrev fobj (st : Stmt) (name qual : Str) (dV pm : Value) (c : Addr) : Obj := ⟨.type "function", none, .func (fnOf name qual (fnParams st) (fnBody st) (fnScope st) dV .none .none pm none (.ref c) .none), #[]⟩
noncomputable def st_sig_init : Stmt := item (clBody (top 2)) 0
noncomputable def sc_sig_init : Scope := fnScope st_sig_init
noncomputable def st_wi_init : Stmt := item (clBody (top 9)) 0
noncomputable def sc_wi_init : Scope := fnScope st_wi_init
noncomputable def st_wi_size : Stmt := item (clBody (top 9)) 1
noncomputable def sc_wi_size : Scope := fnScope st_wi_size
noncomputable def st_wi_set_size : Stmt := item (clBody (top 9)) 2
noncomputable def sc_wi_set_size : Scope := fnScope st_wi_set_size
noncomputable def st_wi_place : Stmt := item (clBody (top 9)) 3
noncomputable def sc_wi_place : Scope := fnScope st_wi_place
noncomputable def st_wi_shown : Stmt := item (clBody (top 9)) 4
noncomputable def sc_wi_shown : Scope := fnScope st_wi_shown
noncomputable def st_wi_show : Stmt := item (clBody (top 9)) 5
noncomputable def sc_wi_show : Scope := fnScope st_wi_show
noncomputable def st_wt_init : Stmt := item (clBody (top 10)) 0
noncomputable def sc_wt_init : Scope := fnScope st_wt_init
noncomputable def st_wt_fresh : Stmt := item (clBody (top 10)) 1
noncomputable def sc_wt_fresh : Scope := fnScope st_wt_fresh
noncomputable def st_wt_window : Stmt := item (clBody (top 10)) 2
noncomputable def sc_wt_window : Scope := fnScope st_wt_window
noncomputable def st_wt_touch : Stmt := item (clBody (top 10)) 4
noncomputable def sc_wt_touch : Scope := fnScope st_wt_touch
noncomputable def st_wt_least_leaf : Stmt := item (clBody (top 10)) 6
noncomputable def sc_wt_least_leaf : Scope := fnScope st_wt_least_leaf
noncomputable def st_along : Stmt := top 11
noncomputable def sc_along : Scope := fnScope st_along
noncomputable def st_sort_along : Stmt := top 12
noncomputable def sc_sort_along : Scope := fnScope st_sort_along
noncomputable def st_leaves_under : Stmt := top 13
noncomputable def sc_leaves_under : Scope := fnScope st_leaves_under
noncomputable def st_leaves : Stmt := top 14
noncomputable def sc_leaves : Scope := fnScope st_leaves
noncomputable def st_windows_under : Stmt := top 15
noncomputable def sc_windows_under : Scope := fnScope st_windows_under
noncomputable def st_replace_child : Stmt := top 16
noncomputable def sc_replace_child : Scope := fnScope st_replace_child
noncomputable def st_forget : Stmt := top 17
noncomputable def sc_forget : Scope := fnScope st_forget
noncomputable def st_least_size : Stmt := top 19
noncomputable def sc_least_size : Scope := fnScope st_least_size
noncomputable def st_set_tree_size : Stmt := top 21
noncomputable def sc_set_tree_size : Scope := fnScope st_set_tree_size
noncomputable def st_set_places : Stmt := top 22
noncomputable def sc_set_places : Scope := fnScope st_set_places
noncomputable def st_split_parts : Stmt := top 24
noncomputable def sc_split_parts : Scope := fnScope st_split_parts
noncomputable def st_combined : Stmt := top 25
noncomputable def sc_combined : Scope := fnScope st_combined
noncomputable def st_split : Stmt := top 26
noncomputable def sc_split : Scope := fnScope st_split
noncomputable def st_joined : Stmt := top 27
noncomputable def sc_joined : Scope := fnScope st_joined
noncomputable def st_lifted : Stmt := top 28
noncomputable def sc_lifted : Scope := fnScope st_lifted
noncomputable def st_delete_window : Stmt := top 30
noncomputable def sc_delete_window : Scope := fnScope st_delete_window
noncomputable def st_law_draw : Stmt := top 32
noncomputable def sc_law_draw : Scope := fnScope st_law_draw
noncomputable def st_law_places : Stmt := top 33
noncomputable def sc_law_places : Scope := fnScope st_law_places
noncomputable def st_law_halved : Stmt := top 34
noncomputable def sc_law_halved : Scope := fnScope st_law_halved
noncomputable def st_law_is_refused : Stmt := top 35
noncomputable def sc_law_is_refused : Scope := fnScope st_law_is_refused
noncomputable def st_law : Stmt := top 36
noncomputable def sc_law : Scope := fnScope st_law
noncomputable abbrev ke (P : Params) (k : Str) (t : Nat) (v : Value) : DictEntry := { hash := PyData.keyHash P k, key := .str k t, val := v }
noncomputable def K (P : Params) : Frag := [
(3, { cls := .type "dict", data := .dict #[ke P "__name__" 165 (.str "law_np0055_01" 614), ke P "__doc__" 166 (.none), ke P "__package__" 167 (.none), ke P "__loader__" 168 (.builtin "__main__.__loader__#opaque"), ke P "__spec__" 169 (.none), ke P "__annotations__" 170 (.ref 6), ke P "__builtins__" 171 (.ref 4), ke P "__file__" 173 (.str "/claim/cut.py" 172), ke P "__cached__" 174 (.none), ke P "_wall" 193 (.ref 21), ke P "LispSignal" 226 (.ref 38), ke P "LEAF" 230 (.int 0 229), ke P "COLUMN" 232 (.int 1 231), ke P "ROW" 234 (.int 2 233), ke P "WIDTH" 236 (.int 0 235), ke P "HEIGHT" 238 (.int 1 237), ke P "Window" 324 (.ref 93), ke P "WindowTree" 426 (.ref 164), ke P "along" 433 (.ref 175), ke P "sort_along" 440 (.ref 182), ke P "leaves_under" 451 (.ref 189), ke P "leaves" 458 (.ref 196), ke P "windows_under" 469 (.ref 203), ke P "replace_child" 480 (.ref 210), ke P "forget" 489 (.ref 217), ke P "least_size" 497 (.ref 222), ke P "shares" 503 (.ref 227), ke P "set_tree_size" 509 (.ref 232), ke P "set_places" 522 (.ref 239), ke P "split_parts" 537 (.ref 246), ke P "combined" 548 (.ref 253), ke P "split" 566 (.ref 260), ke P "joined" 578 (.ref 267), ke P "lifted" 588 (.ref 274), ke P "most_recent" 598 (.ref 281), ke P "delete_window" 613 (.ref 288), ke P "_law_draw" 623 (.ref 295), ke P "_law_places" 633 (.ref 302), ke P "_law_halved" 641 (.ref 309), ke P "_law_is_refused" 648 (.ref 316), ke P "law" 654 (.ref 321)] 41 }),
(164, { cls := .type "type", data := .cls { name := "WindowTree", bases := [.type "object"], mro := [.ref 164, .type "object"], ns := 163, qualname := "WindowTree" }, slots := #[none, none, some (.str "WindowTree" 325), some (.str "WindowTree" 333), some (.builtin "object.__new__"), some (.bool true)] }),
(163, { cls := .type "dict", data := .dict #[ke P "__module__" 332 (.str "emacs.windows" 227), ke P "__firstlineno__" 336 (.int 53 335), ke P "__init__" 351 (.ref 112), ke P "fresh" 361 (.ref 119), ke P "window" 370 (.ref 126), ke P "leaf" 379 (.ref 133), ke P "touch" 387 (.ref 140), ke P "select" 395 (.ref 147), ke P "least_leaf" 403 (.ref 154), ke P "frame_size" 411 (.ref 161), ke P "__static_attributes__" 419 (.ref 162), ke P "__dict__" 421 (.ref 165), ke P "__weakref__" 423 (.ref 166), ke P "__doc__" 424 (.none)] 4 }),
(93, { cls := .type "type", data := .cls { name := "Window", bases := [.type "object"], mro := [.ref 93, .type "object"], ns := 92, qualname := "Window" }, slots := #[none, none, some (.str "Window" 239), some (.str "Window" 247), some (.builtin "object.__new__"), some (.bool true)] }),
(92, { cls := .type "dict", data := .dict #[ke P "__module__" 246 (.str "emacs.windows" 227), ke P "__firstlineno__" 250 (.int 16 249), ke P "__init__" 260 (.ref 55), ke P "size" 268 (.ref 62), ke P "set_size" 277 (.ref 69), ke P "place" 285 (.ref 76), ke P "shown" 292 (.ref 83), ke P "show" 300 (.ref 90), ke P "__static_attributes__" 317 (.ref 91), ke P "__dict__" 319 (.ref 94), ke P "__weakref__" 321 (.ref 95), ke P "__doc__" 322 (.none)] 4 }),
(38, { cls := .type "type", data := .cls { name := "LispSignal", bases := [.type "Exception"], mro := [.ref 38, .type "Exception", .type "BaseException", .type "object"], ns := 37, qualname := "LispSignal" }, slots := #[some (.ref 22), none, some (.str "LispSignal" 196), some (.str "LispSignal" 204), some (.builtin "Exception.__new__"), some (.bool true)] }),
(37, { cls := .type "dict", data := .dict #[ke P "__module__" 203 (.str "emacs.errors" 194), ke P "__firstlineno__" 207 (.int 5 206), ke P "__init__" 216 (.ref 35), ke P "__static_attributes__" 219 (.ref 36), ke P "__weakref__" 221 (.ref 39), ke P "__doc__" 222 (.none)] 3 }),
(35, fobj st_sig_init "__init__" "LispSignal.__init__" (.none) (.str "emacs.errors" 194) 34),
(55, fobj st_wi_init "__init__" "Window.__init__" (.none) (.str "emacs.windows" 227) 54),
(62, fobj st_wi_size "size" "Window.size" (.none) (.str "emacs.windows" 227) 61),
(69, fobj st_wi_set_size "set_size" "Window.set_size" (.none) (.str "emacs.windows" 227) 68),
(76, fobj st_wi_place "place" "Window.place" (.none) (.str "emacs.windows" 227) 75),
(83, fobj st_wi_shown "shown" "Window.shown" (.none) (.str "emacs.windows" 227) 82),
(90, fobj st_wi_show "show" "Window.show" (.none) (.str "emacs.windows" 227) 89),
(112, fobj st_wt_init "__init__" "WindowTree.__init__" (.ref 105) (.str "emacs.windows" 227) 111),
(119, fobj st_wt_fresh "fresh" "WindowTree.fresh" (.none) (.str "emacs.windows" 227) 118),
(126, fobj st_wt_window "window" "WindowTree.window" (.none) (.str "emacs.windows" 227) 125),
(140, fobj st_wt_touch "touch" "WindowTree.touch" (.none) (.str "emacs.windows" 227) 139),
(154, fobj st_wt_least_leaf "least_leaf" "WindowTree.least_leaf" (.none) (.str "emacs.windows" 227) 153),
(175, fobj st_along "along" "along" (.none) (.str "emacs.windows" 227) 174),
(182, fobj st_sort_along "sort_along" "sort_along" (.none) (.str "emacs.windows" 227) 181),
(189, fobj st_leaves_under "leaves_under" "leaves_under" (.none) (.str "emacs.windows" 227) 188),
(196, fobj st_leaves "leaves" "leaves" (.none) (.str "emacs.windows" 227) 195),
(203, fobj st_windows_under "windows_under" "windows_under" (.none) (.str "emacs.windows" 227) 202),
(210, fobj st_replace_child "replace_child" "replace_child" (.none) (.str "emacs.windows" 227) 209),
(217, fobj st_forget "forget" "forget" (.none) (.str "emacs.windows" 227) 216),
(222, fobj st_least_size "least_size" "least_size" (.none) (.str "emacs.sizes" 490) 221),
(232, fobj st_set_tree_size "set_tree_size" "set_tree_size" (.none) (.str "emacs.sizes" 490) 231),
(239, fobj st_set_places "set_places" "set_places" (.none) (.str "emacs.sizes" 490) 238),
(246, fobj st_split_parts "split_parts" "split_parts" (.none) (.str "emacs.splits" 523) 245),
(253, fobj st_combined "combined" "combined" (.none) (.str "emacs.splits" 523) 252),
(260, fobj st_split "split" "split" (.none) (.str "emacs.splits" 523) 259),
(267, fobj st_joined "joined" "joined" (.none) (.str "emacs.splits" 523) 266),
(274, fobj st_lifted "lifted" "lifted" (.none) (.str "emacs.splits" 523) 273),
(288, fobj st_delete_window "delete_window" "delete_window" (.none) (.str "emacs.splits" 523) 287),
(295, fobj st_law_draw "_law_draw" "_law_draw" (.none) (.str "law_np0055_01" 614) 294),
(302, fobj st_law_places "_law_places" "_law_places" (.none) (.str "law_np0055_01" 614) 301),
(309, fobj st_law_halved "_law_halved" "_law_halved" (.none) (.str "law_np0055_01" 614) 308),
(316, fobj st_law_is_refused "_law_is_refused" "_law_is_refused" (.none) (.str "law_np0055_01" 614) 315),
(321, fobj st_law "law" "law" (.none) (.str "law_np0055_01" 614) 320),
(34, { cls := .type "code", data := .fields #[.str "__init__" 208, .str "LispSignal.__init__" 209, .str "/claim/cut.py" 210, .int 7 0, .int 3 0, .int 0 0, .int 0 0, .int 3 0, .ref 29, .bool true, .int 181 0, .ref 30, .none, .ref 31, .ref 32, .ref 33, .int 214 0, .int 7 0, .str "/claim/cut.py" 215] }),
(54, { cls := .type "code", data := .fields #[.str "__init__" 251, .str "Window.__init__" 252, .str "/claim/cut.py" 253, .int 18 0, .int 4 0, .int 0 0, .int 0 0, .int 3 0, .ref 49, .bool true, .int 181 0, .ref 50, .none, .ref 51, .ref 52, .ref 53, .int 258 0, .int 18 0, .str "/claim/cut.py" 259] }),
(61, { cls := .type "code", data := .fields #[.str "size" 261, .str "Window.size" 262, .str "/claim/cut.py" 263, .int 36 0, .int 2 0, .int 0 0, .int 0 0, .int 3 0, .ref 56, .bool true, .int 181 0, .ref 57, .none, .ref 58, .ref 59, .ref 60, .int 266 0, .int 36 0, .str "/claim/cut.py" 267] }),
(68, { cls := .type "code", data := .fields #[.str "set_size" 269, .str "Window.set_size" 270, .str "/claim/cut.py" 271, .int 39 0, .int 3 0, .int 0 0, .int 0 0, .int 3 0, .ref 63, .bool true, .int 181 0, .ref 64, .none, .ref 65, .ref 66, .ref 67, .int 275 0, .int 39 0, .str "/claim/cut.py" 276] }),
(75, { cls := .type "code", data := .fields #[.str "place" 278, .str "Window.place" 279, .str "/claim/cut.py" 280, .int 45 0, .int 2 0, .int 0 0, .int 0 0, .int 3 0, .ref 70, .bool true, .int 181 0, .ref 71, .none, .ref 72, .ref 73, .ref 74, .int 283 0, .int 45 0, .str "/claim/cut.py" 284] }),
(82, { cls := .type "code", data := .fields #[.str "shown" 286, .str "Window.shown" 287, .str "/claim/cut.py" 288, .int 48 0, .int 1 0, .int 0 0, .int 0 0, .int 3 0, .ref 77, .bool true, .int 181 0, .ref 78, .none, .ref 79, .ref 80, .ref 81, .int 290 0, .int 48 0, .str "/claim/cut.py" 291] }),
(89, { cls := .type "code", data := .fields #[.str "show" 293, .str "Window.show" 294, .str "/claim/cut.py" 295, .int 51 0, .int 2 0, .int 0 0, .int 0 0, .int 3 0, .ref 84, .bool true, .int 181 0, .ref 85, .none, .ref 86, .ref 87, .ref 88, .int 298 0, .int 51 0, .str "/claim/cut.py" 299] }),
(111, { cls := .type "code", data := .fields #[.str "__init__" 339, .str "WindowTree.__init__" 340, .str "/claim/cut.py" 341, .int 55 0, .int 6 0, .int 0 0, .int 0 0, .int 3 0, .ref 106, .bool true, .int 181 0, .ref 107, .none, .ref 108, .ref 109, .ref 110, .int 349 0, .int 55 0, .str "/claim/cut.py" 350] }),
(118, { cls := .type "code", data := .fields #[.str "fresh" 352, .str "WindowTree.fresh" 353, .str "/claim/cut.py" 354, .int 69 0, .int 3 0, .int 0 0, .int 0 0, .int 3 0, .ref 113, .bool true, .int 181 0, .ref 114, .none, .ref 115, .ref 116, .ref 117, .int 359 0, .int 69 0, .str "/claim/cut.py" 360] }),
(125, { cls := .type "code", data := .fields #[.str "window" 362, .str "WindowTree.window" 363, .str "/claim/cut.py" 364, .int 75 0, .int 2 0, .int 0 0, .int 0 0, .int 3 0, .ref 120, .bool true, .int 181 0, .ref 121, .none, .ref 122, .ref 123, .ref 124, .int 368 0, .int 75 0, .str "/claim/cut.py" 369] }),
(139, { cls := .type "code", data := .fields #[.str "touch" 380, .str "WindowTree.touch" 381, .str "/claim/cut.py" 382, .int 87 0, .int 2 0, .int 0 0, .int 0 0, .int 3 0, .ref 134, .bool true, .int 181 0, .ref 135, .none, .ref 136, .ref 137, .ref 138, .int 385 0, .int 87 0, .str "/claim/cut.py" 386] }),
(153, { cls := .type "code", data := .fields #[.str "least_leaf" 396, .str "WindowTree.least_leaf" 397, .str "/claim/cut.py" 398, .int 94 0, .int 2 0, .int 0 0, .int 0 0, .int 3 0, .ref 148, .bool true, .int 181 0, .ref 149, .none, .ref 150, .ref 151, .ref 152, .int 401 0, .int 94 0, .str "/claim/cut.py" 402] }),
(174, { cls := .type "code", data := .fields #[.str "along" 427, .str "along" 428, .str "/claim/cut.py" 429, .int 99 0, .int 1 0, .int 0 0, .int 0 0, .int 3 0, .ref 169, .bool true, .int 181 0, .ref 170, .none, .ref 171, .ref 172, .ref 173, .int 431 0, .int 99 0, .str "/claim/cut.py" 432] }),
(181, { cls := .type "code", data := .fields #[.str "sort_along" 434, .str "sort_along" 435, .str "/claim/cut.py" 436, .int 101 0, .int 1 0, .int 0 0, .int 0 0, .int 3 0, .ref 176, .bool true, .int 181 0, .ref 177, .none, .ref 178, .ref 179, .ref 180, .int 438 0, .int 101 0, .str "/claim/cut.py" 439] }),
(188, { cls := .type "code", data := .fields #[.str "leaves_under" 441, .str "leaves_under" 442, .str "/claim/cut.py" 443, .int 103 0, .int 2 0, .int 0 0, .int 0 0, .int 3 0, .ref 183, .bool true, .int 181 0, .ref 184, .none, .ref 185, .ref 186, .ref 187, .int 449 0, .int 103 0, .str "/claim/cut.py" 450] }),
(195, { cls := .type "code", data := .fields #[.str "leaves" 452, .str "leaves" 453, .str "/claim/cut.py" 454, .int 113 0, .int 1 0, .int 0 0, .int 0 0, .int 3 0, .ref 190, .bool true, .int 181 0, .ref 191, .none, .ref 192, .ref 193, .ref 194, .int 456 0, .int 113 0, .str "/claim/cut.py" 457] }),
(202, { cls := .type "code", data := .fields #[.str "windows_under" 459, .str "windows_under" 460, .str "/claim/cut.py" 461, .int 115 0, .int 2 0, .int 0 0, .int 0 0, .int 3 0, .ref 197, .bool true, .int 181 0, .ref 198, .none, .ref 199, .ref 200, .ref 201, .int 467 0, .int 115 0, .str "/claim/cut.py" 468] }),
(209, { cls := .type "code", data := .fields #[.str "replace_child" 470, .str "replace_child" 471, .str "/claim/cut.py" 472, .int 123 0, .int 3 0, .int 0 0, .int 0 0, .int 3 0, .ref 204, .bool true, .int 181 0, .ref 205, .none, .ref 206, .ref 207, .ref 208, .int 478 0, .int 123 0, .str "/claim/cut.py" 479] }),
(216, { cls := .type "code", data := .fields #[.str "forget" 481, .str "forget" 482, .str "/claim/cut.py" 483, .int 131 0, .int 2 0, .int 0 0, .int 0 0, .int 3 0, .ref 211, .bool true, .int 181 0, .ref 212, .none, .ref 213, .ref 214, .ref 215, .int 487 0, .int 131 0, .str "/claim/cut.py" 488] }),
(221, { cls := .type "code", data := .fields #[.str "least_size" 492, .str "least_size" 493, .str "/claim/cut.py" 494, .int 135 0, .int 3 0, .int 0 0, .int 0 0, .int 3 0, .ref 218, .bool true, .int 181 0, .ref 219, .none, .none, .none, .ref 220, .int 495 0, .int 135 0, .str "/claim/cut.py" 496] }),
(231, { cls := .type "code", data := .fields #[.str "set_tree_size" 504, .str "set_tree_size" 505, .str "/claim/cut.py" 506, .int 154 0, .int 4 0, .int 0 0, .int 0 0, .int 3 0, .ref 228, .bool true, .int 181 0, .ref 229, .none, .none, .none, .ref 230, .int 507 0, .int 154 0, .str "/claim/cut.py" 508] }),
(238, { cls := .type "code", data := .fields #[.str "set_places" 510, .str "set_places" 511, .str "/claim/cut.py" 512, .int 169 0, .int 1 0, .int 0 0, .int 0 0, .int 3 0, .ref 233, .bool true, .int 181 0, .ref 234, .none, .ref 235, .ref 236, .ref 237, .int 520 0, .int 169 0, .str "/claim/cut.py" 521] }),
(245, { cls := .type "code", data := .fields #[.str "split_parts" 525, .str "split_parts" 526, .str "/claim/cut.py" 527, .int 182 0, .int 4 0, .int 0 0, .int 0 0, .int 3 0, .ref 240, .bool true, .int 181 0, .ref 241, .none, .ref 242, .ref 243, .ref 244, .int 535 0, .int 182 0, .str "/claim/cut.py" 536] }),
(252, { cls := .type "code", data := .fields #[.str "combined" 538, .str "combined" 539, .str "/claim/cut.py" 540, .int 192 0, .int 3 0, .int 0 0, .int 0 0, .int 3 0, .ref 247, .bool true, .int 181 0, .ref 248, .none, .ref 249, .ref 250, .ref 251, .int 546 0, .int 192 0, .str "/claim/cut.py" 547] }),
(259, { cls := .type "code", data := .fields #[.str "split" 549, .str "split" 550, .str "/claim/cut.py" 551, .int 202 0, .int 5 0, .int 0 0, .int 0 0, .int 3 0, .ref 254, .bool true, .int 181 0, .ref 255, .none, .ref 256, .ref 257, .ref 258, .int 564 0, .int 202 0, .str "/claim/cut.py" 565] }),
(266, { cls := .type "code", data := .fields #[.str "joined" 567, .str "joined" 568, .str "/claim/cut.py" 569, .int 219 0, .int 2 0, .int 0 0, .int 0 0, .int 3 0, .ref 261, .bool true, .int 181 0, .ref 262, .none, .ref 263, .ref 264, .ref 265, .int 576 0, .int 219 0, .str "/claim/cut.py" 577] }),
(273, { cls := .type "code", data := .fields #[.str "lifted" 579, .str "lifted" 580, .str "/claim/cut.py" 581, .int 232 0, .int 2 0, .int 0 0, .int 0 0, .int 3 0, .ref 268, .bool true, .int 181 0, .ref 269, .none, .ref 270, .ref 271, .ref 272, .int 586 0, .int 232 0, .str "/claim/cut.py" 587] }),
(287, { cls := .type "code", data := .fields #[.str "delete_window" 599, .str "delete_window" 600, .str "/claim/cut.py" 601, .int 248 0, .int 2 0, .int 0 0, .int 0 0, .int 3 0, .ref 282, .bool true, .int 181 0, .ref 283, .none, .ref 284, .ref 285, .ref 286, .int 611 0, .int 248 0, .str "/claim/cut.py" 612] }),
(294, { cls := .type "code", data := .fields #[.str "_law_draw" 616, .str "_law_draw" 617, .str "/claim/cut.py" 618, .int 265 0, .int 2 0, .int 0 0, .int 0 0, .int 3 0, .ref 289, .bool true, .int 181 0, .ref 290, .none, .ref 291, .ref 292, .ref 293, .int 621 0, .int 265 0, .str "/claim/cut.py" 622] }),
(301, { cls := .type "code", data := .fields #[.str "_law_places" 624, .str "_law_places" 625, .str "/claim/cut.py" 626, .int 270 0, .int 1 0, .int 0 0, .int 0 0, .int 3 0, .ref 296, .bool true, .int 181 0, .ref 297, .none, .ref 298, .ref 299, .ref 300, .int 631 0, .int 270 0, .str "/claim/cut.py" 632] }),
(308, { cls := .type "code", data := .fields #[.str "_law_halved" 634, .str "_law_halved" 635, .str "/claim/cut.py" 636, .int 276 0, .int 2 0, .int 0 0, .int 0 0, .int 3 0, .ref 303, .bool true, .int 181 0, .ref 304, .none, .ref 305, .ref 306, .ref 307, .int 639 0, .int 276 0, .str "/claim/cut.py" 640] }),
(315, { cls := .type "code", data := .fields #[.str "_law_is_refused" 642, .str "_law_is_refused" 643, .str "/claim/cut.py" 644, .int 280 0, .int 1 0, .int 0 0, .int 0 0, .int 3 0, .ref 310, .bool true, .int 181 0, .ref 311, .none, .ref 312, .ref 313, .ref 314, .int 646 0, .int 280 0, .str "/claim/cut.py" 647] }),
(320, { cls := .type "code", data := .fields #[.str "law" 649, .str "law" 650, .str "/claim/cut.py" 651, .int 286 0, .int 1 0, .int 0 0, .int 0 0, .int 3 0, .ref 317, .bool true, .int 181 0, .ref 318, .none, .none, .none, .ref 319, .int 652 0, .int 286 0, .str "/claim/cut.py" 653] }),
(105, { cls := .type "tuple", data := .seq #[.int 10 337, .int 4 338] }),
(1, { cls := .type "dict", data := .dict #[ke P "builtins" 162 (.ref 4), ke P "__main__" 163 (.ref 5)] 2 })]
noncomputable def kAddrs : List Addr := [3, 164, 163, 93, 92, 38, 37, 35, 55, 62, 69, 76, 83, 90, 112, 119, 126, 140, 154, 175, 182, 189, 196, 203, 210, 217, 222, 232, 239, 246, 253, 260, 267, 274, 288, 295, 302, 309, 316, 321, 34, 54, 61, 68, 75, 82, 89, 111, 118, 125, 139, 153, 174, 181, 188, 195, 202, 209, 216, 221, 231, 238, 245, 252, 259, 266, 273, 287, 294, 301, 308, 315, 320, 105, 1]
theorem kAddrs_eq (P : Params) : kAddrs = (K P).map (·.1) := rfl
section
variable {D : Wd} (hK : D.K = K D.w.params)
include hK
theorem G_LEAF : nsIn D.K mainGlobals "LEAF" = some (some (.int 0 229)) := by rw [hK]; kernel_rfl
theorem G_COLUMN : nsIn D.K mainGlobals "COLUMN" = some (some (.int 1 231)) := by rw [hK]; kernel_rfl
theorem G_ROW : nsIn D.K mainGlobals "ROW" = some (some (.int 2 233)) := by rw [hK]; kernel_rfl
theorem G_WIDTH : nsIn D.K mainGlobals "WIDTH" = some (some (.int 0 235)) := by rw [hK]; kernel_rfl
theorem G_HEIGHT : nsIn D.K mainGlobals "HEIGHT" = some (some (.int 1 237)) := by rw [hK]; kernel_rfl
theorem B_len : nsIn D.K mainGlobals "len" = some none := by rw [hK]; kernel_rfl
theorem B_abs : nsIn D.K mainGlobals "abs" = some none := by rw [hK]; kernel_rfl
theorem B_list : nsIn D.K mainGlobals "list" = some none := by rw [hK]; kernel_rfl
theorem B_dict : nsIn D.K mainGlobals "dict" = some none := by rw [hK]; kernel_rfl
theorem B_range : nsIn D.K mainGlobals "range" = some none := by rw [hK]; kernel_rfl
theorem K_sig_init : D.K.lookup 35 = some (fobj st_sig_init "__init__" "LispSignal.__init__" (Value.none) (Value.str "emacs.errors" 194) 34) := by rw [hK]; kernel_rfl
theorem C_sig_init : codeIn D.K (.ref 34) "LispSignal.__init__" = true := by rw [hK]; kernel_rfl
theorem K_wi_init : D.K.lookup 55 = some (fobj st_wi_init "__init__" "Window.__init__" (Value.none) (Value.str "emacs.windows" 227) 54) := by rw [hK]; kernel_rfl
theorem C_wi_init : codeIn D.K (.ref 54) "Window.__init__" = true := by rw [hK]; kernel_rfl
theorem K_wi_size : D.K.lookup 62 = some (fobj st_wi_size "size" "Window.size" (Value.none) (Value.str "emacs.windows" 227) 61) := by rw [hK]; kernel_rfl
theorem C_wi_size : codeIn D.K (.ref 61) "Window.size" = true := by rw [hK]; kernel_rfl
theorem K_wi_set_size : D.K.lookup 69 = some (fobj st_wi_set_size "set_size" "Window.set_size" (Value.none) (Value.str "emacs.windows" 227) 68) := by rw [hK]; kernel_rfl
theorem C_wi_set_size : codeIn D.K (.ref 68) "Window.set_size" = true := by rw [hK]; kernel_rfl
theorem K_wi_place : D.K.lookup 76 = some (fobj st_wi_place "place" "Window.place" (Value.none) (Value.str "emacs.windows" 227) 75) := by rw [hK]; kernel_rfl
theorem C_wi_place : codeIn D.K (.ref 75) "Window.place" = true := by rw [hK]; kernel_rfl
theorem K_wi_shown : D.K.lookup 83 = some (fobj st_wi_shown "shown" "Window.shown" (Value.none) (Value.str "emacs.windows" 227) 82) := by rw [hK]; kernel_rfl
theorem C_wi_shown : codeIn D.K (.ref 82) "Window.shown" = true := by rw [hK]; kernel_rfl
theorem K_wi_show : D.K.lookup 90 = some (fobj st_wi_show "show" "Window.show" (Value.none) (Value.str "emacs.windows" 227) 89) := by rw [hK]; kernel_rfl
theorem C_wi_show : codeIn D.K (.ref 89) "Window.show" = true := by rw [hK]; kernel_rfl
theorem K_wt_init : D.K.lookup 112 = some (fobj st_wt_init "__init__" "WindowTree.__init__" (Value.ref 105) (Value.str "emacs.windows" 227) 111) := by rw [hK]; kernel_rfl
theorem C_wt_init : codeIn D.K (.ref 111) "WindowTree.__init__" = true := by rw [hK]; kernel_rfl
theorem K_wt_fresh : D.K.lookup 119 = some (fobj st_wt_fresh "fresh" "WindowTree.fresh" (Value.none) (Value.str "emacs.windows" 227) 118) := by rw [hK]; kernel_rfl
theorem C_wt_fresh : codeIn D.K (.ref 118) "WindowTree.fresh" = true := by rw [hK]; kernel_rfl
theorem K_wt_window : D.K.lookup 126 = some (fobj st_wt_window "window" "WindowTree.window" (Value.none) (Value.str "emacs.windows" 227) 125) := by rw [hK]; kernel_rfl
theorem C_wt_window : codeIn D.K (.ref 125) "WindowTree.window" = true := by rw [hK]; kernel_rfl
theorem K_wt_touch : D.K.lookup 140 = some (fobj st_wt_touch "touch" "WindowTree.touch" (Value.none) (Value.str "emacs.windows" 227) 139) := by rw [hK]; kernel_rfl
theorem C_wt_touch : codeIn D.K (.ref 139) "WindowTree.touch" = true := by rw [hK]; kernel_rfl
theorem K_wt_least_leaf : D.K.lookup 154 = some (fobj st_wt_least_leaf "least_leaf" "WindowTree.least_leaf" (Value.none) (Value.str "emacs.windows" 227) 153) := by rw [hK]; kernel_rfl
theorem C_wt_least_leaf : codeIn D.K (.ref 153) "WindowTree.least_leaf" = true := by rw [hK]; kernel_rfl
theorem N_along : nsIn D.K mainGlobals "along" = some (some (.ref 175)) := by rw [hK]; kernel_rfl
theorem Kp_along : keepIn D.K (.ref 175) = true := by rw [hK]; kernel_rfl
theorem K_along : D.K.lookup 175 = some (fobj st_along "along" "along" (Value.none) (Value.str "emacs.windows" 227) 174) := by rw [hK]; kernel_rfl
theorem C_along : codeIn D.K (.ref 174) "along" = true := by rw [hK]; kernel_rfl
theorem N_sort_along : nsIn D.K mainGlobals "sort_along" = some (some (.ref 182)) := by rw [hK]; kernel_rfl
theorem Kp_sort_along : keepIn D.K (.ref 182) = true := by rw [hK]; kernel_rfl
theorem K_sort_along : D.K.lookup 182 = some (fobj st_sort_along "sort_along" "sort_along" (Value.none) (Value.str "emacs.windows" 227) 181) := by rw [hK]; kernel_rfl
theorem C_sort_along : codeIn D.K (.ref 181) "sort_along" = true := by rw [hK]; kernel_rfl
theorem N_leaves_under : nsIn D.K mainGlobals "leaves_under" = some (some (.ref 189)) := by rw [hK]; kernel_rfl
theorem Kp_leaves_under : keepIn D.K (.ref 189) = true := by rw [hK]; kernel_rfl
theorem K_leaves_under : D.K.lookup 189 = some (fobj st_leaves_under "leaves_under" "leaves_under" (Value.none) (Value.str "emacs.windows" 227) 188) := by rw [hK]; kernel_rfl
theorem C_leaves_under : codeIn D.K (.ref 188) "leaves_under" = true := by rw [hK]; kernel_rfl
theorem N_leaves : nsIn D.K mainGlobals "leaves" = some (some (.ref 196)) := by rw [hK]; kernel_rfl
theorem Kp_leaves : keepIn D.K (.ref 196) = true := by rw [hK]; kernel_rfl
theorem K_leaves : D.K.lookup 196 = some (fobj st_leaves "leaves" "leaves" (Value.none) (Value.str "emacs.windows" 227) 195) := by rw [hK]; kernel_rfl
theorem C_leaves : codeIn D.K (.ref 195) "leaves" = true := by rw [hK]; kernel_rfl
theorem N_windows_under : nsIn D.K mainGlobals "windows_under" = some (some (.ref 203)) := by rw [hK]; kernel_rfl
theorem Kp_windows_under : keepIn D.K (.ref 203) = true := by rw [hK]; kernel_rfl
theorem K_windows_under : D.K.lookup 203 = some (fobj st_windows_under "windows_under" "windows_under" (Value.none) (Value.str "emacs.windows" 227) 202) := by rw [hK]; kernel_rfl
theorem C_windows_under : codeIn D.K (.ref 202) "windows_under" = true := by rw [hK]; kernel_rfl
theorem N_replace_child : nsIn D.K mainGlobals "replace_child" = some (some (.ref 210)) := by rw [hK]; kernel_rfl
theorem Kp_replace_child : keepIn D.K (.ref 210) = true := by rw [hK]; kernel_rfl
theorem K_replace_child : D.K.lookup 210 = some (fobj st_replace_child "replace_child" "replace_child" (Value.none) (Value.str "emacs.windows" 227) 209) := by rw [hK]; kernel_rfl
theorem C_replace_child : codeIn D.K (.ref 209) "replace_child" = true := by rw [hK]; kernel_rfl
theorem N_forget : nsIn D.K mainGlobals "forget" = some (some (.ref 217)) := by rw [hK]; kernel_rfl
theorem Kp_forget : keepIn D.K (.ref 217) = true := by rw [hK]; kernel_rfl
theorem K_forget : D.K.lookup 217 = some (fobj st_forget "forget" "forget" (Value.none) (Value.str "emacs.windows" 227) 216) := by rw [hK]; kernel_rfl
theorem C_forget : codeIn D.K (.ref 216) "forget" = true := by rw [hK]; kernel_rfl
theorem N_least_size : nsIn D.K mainGlobals "least_size" = some (some (.ref 222)) := by rw [hK]; kernel_rfl
theorem Kp_least_size : keepIn D.K (.ref 222) = true := by rw [hK]; kernel_rfl
theorem K_least_size : D.K.lookup 222 = some (fobj st_least_size "least_size" "least_size" (Value.none) (Value.str "emacs.sizes" 490) 221) := by rw [hK]; kernel_rfl
theorem C_least_size : codeIn D.K (.ref 221) "least_size" = true := by rw [hK]; kernel_rfl
theorem N_set_tree_size : nsIn D.K mainGlobals "set_tree_size" = some (some (.ref 232)) := by rw [hK]; kernel_rfl
theorem Kp_set_tree_size : keepIn D.K (.ref 232) = true := by rw [hK]; kernel_rfl
theorem K_set_tree_size : D.K.lookup 232 = some (fobj st_set_tree_size "set_tree_size" "set_tree_size" (Value.none) (Value.str "emacs.sizes" 490) 231) := by rw [hK]; kernel_rfl
theorem C_set_tree_size : codeIn D.K (.ref 231) "set_tree_size" = true := by rw [hK]; kernel_rfl
theorem N_set_places : nsIn D.K mainGlobals "set_places" = some (some (.ref 239)) := by rw [hK]; kernel_rfl
theorem Kp_set_places : keepIn D.K (.ref 239) = true := by rw [hK]; kernel_rfl
theorem K_set_places : D.K.lookup 239 = some (fobj st_set_places "set_places" "set_places" (Value.none) (Value.str "emacs.sizes" 490) 238) := by rw [hK]; kernel_rfl
theorem C_set_places : codeIn D.K (.ref 238) "set_places" = true := by rw [hK]; kernel_rfl
theorem N_split_parts : nsIn D.K mainGlobals "split_parts" = some (some (.ref 246)) := by rw [hK]; kernel_rfl
theorem Kp_split_parts : keepIn D.K (.ref 246) = true := by rw [hK]; kernel_rfl
theorem K_split_parts : D.K.lookup 246 = some (fobj st_split_parts "split_parts" "split_parts" (Value.none) (Value.str "emacs.splits" 523) 245) := by rw [hK]; kernel_rfl
theorem C_split_parts : codeIn D.K (.ref 245) "split_parts" = true := by rw [hK]; kernel_rfl
theorem N_combined : nsIn D.K mainGlobals "combined" = some (some (.ref 253)) := by rw [hK]; kernel_rfl
theorem Kp_combined : keepIn D.K (.ref 253) = true := by rw [hK]; kernel_rfl
theorem K_combined : D.K.lookup 253 = some (fobj st_combined "combined" "combined" (Value.none) (Value.str "emacs.splits" 523) 252) := by rw [hK]; kernel_rfl
theorem C_combined : codeIn D.K (.ref 252) "combined" = true := by rw [hK]; kernel_rfl
theorem N_split : nsIn D.K mainGlobals "split" = some (some (.ref 260)) := by rw [hK]; kernel_rfl
theorem Kp_split : keepIn D.K (.ref 260) = true := by rw [hK]; kernel_rfl
theorem K_split : D.K.lookup 260 = some (fobj st_split "split" "split" (Value.none) (Value.str "emacs.splits" 523) 259) := by rw [hK]; kernel_rfl
theorem C_split : codeIn D.K (.ref 259) "split" = true := by rw [hK]; kernel_rfl
theorem N_joined : nsIn D.K mainGlobals "joined" = some (some (.ref 267)) := by rw [hK]; kernel_rfl
theorem Kp_joined : keepIn D.K (.ref 267) = true := by rw [hK]; kernel_rfl
theorem K_joined : D.K.lookup 267 = some (fobj st_joined "joined" "joined" (Value.none) (Value.str "emacs.splits" 523) 266) := by rw [hK]; kernel_rfl
theorem C_joined : codeIn D.K (.ref 266) "joined" = true := by rw [hK]; kernel_rfl
theorem N_lifted : nsIn D.K mainGlobals "lifted" = some (some (.ref 274)) := by rw [hK]; kernel_rfl
theorem Kp_lifted : keepIn D.K (.ref 274) = true := by rw [hK]; kernel_rfl
theorem K_lifted : D.K.lookup 274 = some (fobj st_lifted "lifted" "lifted" (Value.none) (Value.str "emacs.splits" 523) 273) := by rw [hK]; kernel_rfl
theorem C_lifted : codeIn D.K (.ref 273) "lifted" = true := by rw [hK]; kernel_rfl
theorem N_delete_window : nsIn D.K mainGlobals "delete_window" = some (some (.ref 288)) := by rw [hK]; kernel_rfl
theorem Kp_delete_window : keepIn D.K (.ref 288) = true := by rw [hK]; kernel_rfl
theorem K_delete_window : D.K.lookup 288 = some (fobj st_delete_window "delete_window" "delete_window" (Value.none) (Value.str "emacs.splits" 523) 287) := by rw [hK]; kernel_rfl
theorem C_delete_window : codeIn D.K (.ref 287) "delete_window" = true := by rw [hK]; kernel_rfl
theorem N_law_draw : nsIn D.K mainGlobals "_law_draw" = some (some (.ref 295)) := by rw [hK]; kernel_rfl
theorem Kp_law_draw : keepIn D.K (.ref 295) = true := by rw [hK]; kernel_rfl
theorem K_law_draw : D.K.lookup 295 = some (fobj st_law_draw "_law_draw" "_law_draw" (Value.none) (Value.str "law_np0055_01" 614) 294) := by rw [hK]; kernel_rfl
theorem C_law_draw : codeIn D.K (.ref 294) "_law_draw" = true := by rw [hK]; kernel_rfl
theorem N_law_places : nsIn D.K mainGlobals "_law_places" = some (some (.ref 302)) := by rw [hK]; kernel_rfl
theorem Kp_law_places : keepIn D.K (.ref 302) = true := by rw [hK]; kernel_rfl
theorem K_law_places : D.K.lookup 302 = some (fobj st_law_places "_law_places" "_law_places" (Value.none) (Value.str "law_np0055_01" 614) 301) := by rw [hK]; kernel_rfl
theorem C_law_places : codeIn D.K (.ref 301) "_law_places" = true := by rw [hK]; kernel_rfl
theorem N_law_halved : nsIn D.K mainGlobals "_law_halved" = some (some (.ref 309)) := by rw [hK]; kernel_rfl
theorem Kp_law_halved : keepIn D.K (.ref 309) = true := by rw [hK]; kernel_rfl
theorem K_law_halved : D.K.lookup 309 = some (fobj st_law_halved "_law_halved" "_law_halved" (Value.none) (Value.str "law_np0055_01" 614) 308) := by rw [hK]; kernel_rfl
theorem C_law_halved : codeIn D.K (.ref 308) "_law_halved" = true := by rw [hK]; kernel_rfl
theorem N_law_is_refused : nsIn D.K mainGlobals "_law_is_refused" = some (some (.ref 316)) := by rw [hK]; kernel_rfl
theorem Kp_law_is_refused : keepIn D.K (.ref 316) = true := by rw [hK]; kernel_rfl
theorem K_law_is_refused : D.K.lookup 316 = some (fobj st_law_is_refused "_law_is_refused" "_law_is_refused" (Value.none) (Value.str "law_np0055_01" 614) 315) := by rw [hK]; kernel_rfl
theorem C_law_is_refused : codeIn D.K (.ref 315) "_law_is_refused" = true := by rw [hK]; kernel_rfl
theorem K_38 : D.K.lookup 38 = some { cls := Value.type "type", data := Data.cls { name := "LispSignal", bases := [Value.type "Exception"], mro := [Value.ref 38, Value.type "Exception", Value.type "BaseException", Value.type "object"], ns := 37, qualname := "LispSignal" }, slots := #[some (Value.ref 22), none, some (Value.str "LispSignal" 196), some (Value.str "LispSignal" 204), some (Value.builtin "Exception.__new__"), some (Value.bool true)] } := by rw [hK]; kernel_rfl
theorem K_105 : D.K.lookup 105 = some { cls := Value.type "tuple", data := Data.seq #[Value.int 10 337, Value.int 4 338] } := by rw [hK]; kernel_rfl
theorem N_LispSignal : nsIn D.K mainGlobals "LispSignal" = some (some (.ref 38)) := by rw [hK]; kernel_rfl
theorem Kp_LispSignal : keepIn D.K (.ref 38) = true := by rw [hK]; kernel_rfl
theorem SN0 : nsIn D.K 37 "__init__" = some (some (.ref 35)) := by rw [hK]; kernel_rfl
theorem SN1 : nsIn D.K 37 "__setattr__" = some (none) := by rw [hK]; kernel_rfl
theorem SN2 : nsIn D.K 37 "symbol" = some (none) := by rw [hK]; kernel_rfl
theorem SN3 : nsIn D.K 37 "data" = some (none) := by rw [hK]; kernel_rfl
theorem SNok : nsOkIn D.K 37 = true := by rw [hK]; kernel_rfl
theorem N_Window : nsIn D.K mainGlobals "Window" = some (some (.ref 93)) := by rw [hK]; kernel_rfl
theorem Kp_Window : keepIn D.K (.ref 93) = true := by rw [hK]; kernel_rfl
theorem Mk_Window : makesIn D.K 93 = true := by rw [hK]; kernel_rfl
theorem In_Window : findIn D.K (.ref 93) "__init__" = some (some (.ref 55)) := by rw [hK]; kernel_rfl
theorem Ty_Window : typeIn D.K (.ref 55) = some (.type "function") := by rw [hK]; kernel_rfl
theorem N_WindowTree : nsIn D.K mainGlobals "WindowTree" = some (some (.ref 164)) := by rw [hK]; kernel_rfl
theorem Kp_WindowTree : keepIn D.K (.ref 164) = true := by rw [hK]; kernel_rfl
theorem Mk_WindowTree : makesIn D.K 164 = true := by rw [hK]; kernel_rfl
theorem In_WindowTree : findIn D.K (.ref 164) "__init__" = some (some (.ref 112)) := by rw [hK]; kernel_rfl
theorem Ty_WindowTree : typeIn D.K (.ref 112) = some (.type "function") := by rw [hK]; kernel_rfl
theorem Sa_93 : findIn D.K (.ref 93) "__setattr__" = some (some (.builtin "object.__setattr__")) := by rw [hK]; kernel_rfl
theorem Po_93 : plainOver D.K 93 = true := by rw [hK]; kernel_rfl
theorem Hd_93 : hasDictIn D.K 93 = true := by rw [hK]; kernel_rfl
theorem Pg_93 (x : Str) : plainGet D.K 93 x = true := by rw [hK]; kernel_rfl
theorem A_number : AttrOk D 93 "number" := ⟨Pg_93 hK _, Hd_93 hK, none, by rw [hK]; kernel_rfl, rfl⟩
theorem S_number : SetOk D 93 "number" := ⟨Sa_93 hK, Po_93 hK, by rw [hK]; kernel_rfl, Hd_93 hK⟩
theorem A_sort : AttrOk D 93 "sort" := ⟨Pg_93 hK _, Hd_93 hK, none, by rw [hK]; kernel_rfl, rfl⟩
theorem S_sort : SetOk D 93 "sort" := ⟨Sa_93 hK, Po_93 hK, by rw [hK]; kernel_rfl, Hd_93 hK⟩
theorem A_parent : AttrOk D 93 "parent" := ⟨Pg_93 hK _, Hd_93 hK, none, by rw [hK]; kernel_rfl, rfl⟩
theorem S_parent : SetOk D 93 "parent" := ⟨Sa_93 hK, Po_93 hK, by rw [hK]; kernel_rfl, Hd_93 hK⟩
theorem A_children : AttrOk D 93 "children" := ⟨Pg_93 hK _, Hd_93 hK, none, by rw [hK]; kernel_rfl, rfl⟩
theorem S_children : SetOk D 93 "children" := ⟨Sa_93 hK, Po_93 hK, by rw [hK]; kernel_rfl, Hd_93 hK⟩
theorem A_left : AttrOk D 93 "left" := ⟨Pg_93 hK _, Hd_93 hK, none, by rw [hK]; kernel_rfl, rfl⟩
theorem S_left : SetOk D 93 "left" := ⟨Sa_93 hK, Po_93 hK, by rw [hK]; kernel_rfl, Hd_93 hK⟩
theorem A_top : AttrOk D 93 "top" := ⟨Pg_93 hK _, Hd_93 hK, none, by rw [hK]; kernel_rfl, rfl⟩
theorem S_top : SetOk D 93 "top" := ⟨Sa_93 hK, Po_93 hK, by rw [hK]; kernel_rfl, Hd_93 hK⟩
theorem A_width : AttrOk D 93 "width" := ⟨Pg_93 hK _, Hd_93 hK, none, by rw [hK]; kernel_rfl, rfl⟩
theorem S_width : SetOk D 93 "width" := ⟨Sa_93 hK, Po_93 hK, by rw [hK]; kernel_rfl, Hd_93 hK⟩
theorem A_height : AttrOk D 93 "height" := ⟨Pg_93 hK _, Hd_93 hK, none, by rw [hK]; kernel_rfl, rfl⟩
theorem S_height : SetOk D 93 "height" := ⟨Sa_93 hK, Po_93 hK, by rw [hK]; kernel_rfl, Hd_93 hK⟩
theorem A_buffer : AttrOk D 93 "buffer" := ⟨Pg_93 hK _, Hd_93 hK, none, by rw [hK]; kernel_rfl, rfl⟩
theorem S_buffer : SetOk D 93 "buffer" := ⟨Sa_93 hK, Po_93 hK, by rw [hK]; kernel_rfl, Hd_93 hK⟩
theorem A_start : AttrOk D 93 "start" := ⟨Pg_93 hK _, Hd_93 hK, none, by rw [hK]; kernel_rfl, rfl⟩
theorem S_start : SetOk D 93 "start" := ⟨Sa_93 hK, Po_93 hK, by rw [hK]; kernel_rfl, Hd_93 hK⟩
theorem A_point : AttrOk D 93 "point" := ⟨Pg_93 hK _, Hd_93 hK, none, by rw [hK]; kernel_rfl, rfl⟩
theorem S_point : SetOk D 93 "point" := ⟨Sa_93 hK, Po_93 hK, by rw [hK]; kernel_rfl, Hd_93 hK⟩
theorem A_hscroll : AttrOk D 93 "hscroll" := ⟨Pg_93 hK _, Hd_93 hK, none, by rw [hK]; kernel_rfl, rfl⟩
theorem S_hscroll : SetOk D 93 "hscroll" := ⟨Sa_93 hK, Po_93 hK, by rw [hK]; kernel_rfl, Hd_93 hK⟩
theorem S_is_dedicated : SetOk D 93 "is_dedicated" := ⟨Sa_93 hK, Po_93 hK, by rw [hK]; kernel_rfl, Hd_93 hK⟩
theorem S_use_time : SetOk D 93 "use_time" := ⟨Sa_93 hK, Po_93 hK, by rw [hK]; kernel_rfl, Hd_93 hK⟩
theorem A_earlier : AttrOk D 93 "earlier" := ⟨Pg_93 hK _, Hd_93 hK, none, by rw [hK]; kernel_rfl, rfl⟩
theorem S_earlier : SetOk D 93 "earlier" := ⟨Sa_93 hK, Po_93 hK, by rw [hK]; kernel_rfl, Hd_93 hK⟩
theorem S_later : SetOk D 93 "later" := ⟨Sa_93 hK, Po_93 hK, by rw [hK]; kernel_rfl, Hd_93 hK⟩
theorem Sa_164 : findIn D.K (.ref 164) "__setattr__" = some (some (.builtin "object.__setattr__")) := by rw [hK]; kernel_rfl
theorem Po_164 : plainOver D.K 164 = true := by rw [hK]; kernel_rfl
theorem Hd_164 : hasDictIn D.K 164 = true := by rw [hK]; kernel_rfl
theorem Pg_164 (x : Str) : plainGet D.K 164 x = true := by rw [hK]; kernel_rfl
theorem A_windows : AttrOk D 164 "windows" := ⟨Pg_164 hK _, Hd_164 hK, none, by rw [hK]; kernel_rfl, rfl⟩
theorem S_windows : SetOk D 164 "windows" := ⟨Sa_164 hK, Po_164 hK, by rw [hK]; kernel_rfl, Hd_164 hK⟩
theorem A_last : AttrOk D 164 "last" := ⟨Pg_164 hK _, Hd_164 hK, none, by rw [hK]; kernel_rfl, rfl⟩
theorem S_last : SetOk D 164 "last" := ⟨Sa_164 hK, Po_164 hK, by rw [hK]; kernel_rfl, Hd_164 hK⟩
theorem A_clock : AttrOk D 164 "clock" := ⟨Pg_164 hK _, Hd_164 hK, none, by rw [hK]; kernel_rfl, rfl⟩
theorem S_clock : SetOk D 164 "clock" := ⟨Sa_164 hK, Po_164 hK, by rw [hK]; kernel_rfl, Hd_164 hK⟩
theorem A_least_width : AttrOk D 164 "least_width" := ⟨Pg_164 hK _, Hd_164 hK, none, by rw [hK]; kernel_rfl, rfl⟩
theorem S_least_width : SetOk D 164 "least_width" := ⟨Sa_164 hK, Po_164 hK, by rw [hK]; kernel_rfl, Hd_164 hK⟩
theorem A_least_height : AttrOk D 164 "least_height" := ⟨Pg_164 hK _, Hd_164 hK, none, by rw [hK]; kernel_rfl, rfl⟩
theorem S_least_height : SetOk D 164 "least_height" := ⟨Sa_164 hK, Po_164 hK, by rw [hK]; kernel_rfl, Hd_164 hK⟩
theorem A_root : AttrOk D 164 "root" := ⟨Pg_164 hK _, Hd_164 hK, none, by rw [hK]; kernel_rfl, rfl⟩
theorem S_root : SetOk D 164 "root" := ⟨Sa_164 hK, Po_164 hK, by rw [hK]; kernel_rfl, Hd_164 hK⟩
theorem A_selected : AttrOk D 164 "selected" := ⟨Pg_164 hK _, Hd_164 hK, none, by rw [hK]; kernel_rfl, rfl⟩
theorem S_selected : SetOk D 164 "selected" := ⟨Sa_164 hK, Po_164 hK, by rw [hK]; kernel_rfl, Hd_164 hK⟩
theorem M_wi_size : MethOk D 93 "size" 62 := ⟨Pg_93 hK _, by rw [hK]; kernel_rfl, by rw [hK]; kernel_rfl, by rw [hK]; kernel_rfl⟩
theorem M_wi_set_size : MethOk D 93 "set_size" 69 := ⟨Pg_93 hK _, by rw [hK]; kernel_rfl, by rw [hK]; kernel_rfl, by rw [hK]; kernel_rfl⟩
theorem M_wi_place : MethOk D 93 "place" 76 := ⟨Pg_93 hK _, by rw [hK]; kernel_rfl, by rw [hK]; kernel_rfl, by rw [hK]; kernel_rfl⟩
theorem M_wi_shown : MethOk D 93 "shown" 83 := ⟨Pg_93 hK _, by rw [hK]; kernel_rfl, by rw [hK]; kernel_rfl, by rw [hK]; kernel_rfl⟩
theorem M_wi_show : MethOk D 93 "show" 90 := ⟨Pg_93 hK _, by rw [hK]; kernel_rfl, by rw [hK]; kernel_rfl, by rw [hK]; kernel_rfl⟩
theorem M_wt_fresh : MethOk D 164 "fresh" 119 := ⟨Pg_164 hK _, by rw [hK]; kernel_rfl, by rw [hK]; kernel_rfl, by rw [hK]; kernel_rfl⟩
theorem M_wt_window : MethOk D 164 "window" 126 := ⟨Pg_164 hK _, by rw [hK]; kernel_rfl, by rw [hK]; kernel_rfl, by rw [hK]; kernel_rfl⟩
theorem M_wt_touch : MethOk D 164 "touch" 140 := ⟨Pg_164 hK _, by rw [hK]; kernel_rfl, by rw [hK]; kernel_rfl, by rw [hK]; kernel_rfl⟩
theorem M_wt_least_leaf : MethOk D 164 "least_leaf" 154 := ⟨Pg_164 hK _, by rw [hK]; kernel_rfl, by rw [hK]; kernel_rfl, by rw [hK]; kernel_rfl⟩
theorem sysIn : (D.K.lookup sysModules).isSome = true := by rw [hK]; kernel_rfl
theorem ktsSig : ktsIn D.K 38 "BaseException" = true := by rw [hK]; kernel_rfl
end
end Mine
end
section
set_option maxRecDepth 100000
open PySem PySem.W PySem.Calls PyProof.Rows
namespace Mine
noncomputable def kv (P : Params) (i : Nat) : Obj := (((K P)[i]?).map (·.2)).getD default
noncomputable abbrev fraw (st : Stmt) (n q : Str) : Obj := ⟨.none, none, .func { (fnOf n q (fnParams st) (fnBody st) (fnScope st) .none .none .none .none none .none .none) with globals := 0 }, #[]⟩
noncomputable def tp0 : Obj := { cls := .type "tuple", data := .seq #[] }
noncomputable def fl0 : Obj := { cls := .none, data := .fields #[] }
noncomputable def tp (l : Array Value) : Obj := { cls := .type "tuple", data := .seq l }
noncomputable def fl (l : Array Value) : Obj := { cls := .none, data := .fields l }
noncomputable def strsFrom : List Str → Nat → List Value
  | [], _ => []
  | x :: r, t => .str x t :: strsFrom r (t + 1)
noncomputable def tps (l : List Str) (t : Nat) : Obj := tp (strsFrom l t).toArray
noncomputable abbrev nd (v : Obj) (l r : BT) : BT := .node v l r
noncomputable abbrev lf (v : Obj) : BT := .node v .nil .nil
noncomputable def cutT : BT → Nat → BT
  | .nil, _ => .nil
  | .node v l r, n => match Nat.beq n 0 with
    | true => .nil
    | false => .node v (cutT l (n / 2)) (cutT r ((n - 1) / 2))
noncomputable def dEnts (o : Obj) : List DictEntry := match o.data with | .dict l _ => l.toList | _ => []
noncomputable def fEnts (o : Obj) : List Value := match o.data with | .fields l => l.toList | _ => []
noncomputable def o12 : Obj := fl #[.int 1 0, .int 0 0, .ref 20, .int 5 0, .int 0 0, .ref 27, .int 16 0, .int 0 0, .ref 47, .int 53 0, .int 0 0, .ref 103, .int 99 0, .int 0 0, .ref 174, .int 101 0, .int 0 0, .ref 181, .int 103 0, .int 0 0, .ref 188, .int 113 0, .int 0 0, .ref 195, .int 115 0, .int 0 0, .ref 202, .int 123 0, .int 0 0, .ref 209, .int 131 0, .int 0 0, .ref 216, .int 135 0, .int 0 0, .ref 221, .int 146 0, .int 0 0, .ref 226, .int 154 0, .int 0 0, .ref 231, .int 169 0, .int 0 0, .ref 238, .int 182 0, .int 0 0, .ref 245, .int 192 0, .int 0 0, .ref 252, .int 202 0, .int 0 0, .ref 259, .int 219 0, .int 0 0, .ref 266, .int 232 0, .int 0 0, .ref 273, .int 242 0, .int 0 0, .ref 280, .int 248 0, .int 0 0, .ref 287, .int 265 0, .int 0 0, .ref 294, .int 270 0, .int 0 0, .ref 301, .int 276 0, .int 0 0, .ref 308, .int 280 0, .int 0 0, .ref 315, .int 286 0, .int 0 0, .ref 320]
noncomputable def Tf (P : Params) : BT :=
 (nd (boot_o_0 P)
 (nd (kv P 74)
 (nd (kv P 0)
 (nd (boot_o_7 P)
 (nd tp0
 (nd (tps ["self", "symbol", "data"] 211)
 (nd tp0
 (nd tp0
 (lf fl0)
 .nil)
 (nd fl0
 (lf (fraw (top 36) "law" "law"))
 .nil))
 (nd ({ cls := .type "getset_descriptor", data := .fields #[.str "__weakref__" 320, .ref 93, .builtin "ExceptionGroup.__weakref__", .none] })
 (nd (fraw (item (clBody (top 10)) 7) "frame_size" "WindowTree.frame_size")
 (lf (kv P 67))
 .nil)
 (lf tp0)))
 (nd ({ cls := .type "code", data := .fields #[.str "Window" 241, .str "Window" 242, .str "/claim/cut.py" 243, .int 16 0, .int 0 0, .int 0 0, .int 0 0, .int 0 0, .ref 45, .bool false, .int 181 0, .ref 46, .none, .none, .none, .none, .int 244 0, .int 16 0, .str "/claim/cut.py" 245] })
 (nd (tps ["self"] 289)
 (nd (tps ["self", "number"] 391)
 (lf tp0)
 .nil)
 (lf tp0))
 (nd (kv P 47)
 (nd (kv P 19)
 (lf tp0)
 .nil)
 (lf (kv P 28)))))
 (nd ({ cls := .type "builtin_function_or_method", data := .fields #[.builtin "type.__prepare__", .type "type"] })
 (nd ({ cls := .type "getset_descriptor", data := .fields #[.str "__weakref__" 220, .ref 38, .builtin "ExceptionGroup.__weakref__", .none] })
 (nd fl0
 (nd fl0
 (lf (tps ["tree", "number", "here", "found", "child", "own"] 570))
 .nil)
 (lf (tps ["tree", "number", "found", "waiting", "here"] 462)))
 (nd ({ cls := .type "code", data := .fields #[.str "WindowTree" 327, .str "WindowTree" 328, .str "/claim/cut.py" 329, .int 53 0, .int 0 0, .int 0 0, .int 0 0, .int 0 0, .ref 101, .bool false, .int 181 0, .ref 102, .none, .none, .none, .none, .int 330 0, .int 53 0, .str "/claim/cut.py" 331] })
 (nd ({ cls := .type "super", data := .fields #[.ref 164, .ref 164, .ref 164] })
 (lf (kv P 35))
 .nil)
 (lf (kv P 60))))
 (nd (kv P 8)
 (nd tp0
 (nd tp0
 (lf (fraw (top 29) "most_recent" "most_recent"))
 .nil)
 (lf (fraw (top 17) "forget" "forget")))
 (nd (kv P 15)
 (nd tp0
 (lf fl0)
 .nil)
 (lf tp0)))))
 (nd tp0
 (nd (fraw (top 0) "_wall" "_wall")
 (nd (kv P 7)
 (nd (fraw (item (clBody (top 9)) 2) "set_size" "Window.set_size")
 (nd (fraw (item (clBody (top 10)) 3) "leaf" "WindowTree.leaf")
 (lf (kv P 64))
 .nil)
 (lf (kv P 55)))
 (nd ({ cls := .type "builtin_function_or_method", data := .fields #[.builtin "type.__prepare__", .type "type"] })
 (nd (kv P 2)
 (lf (tps ["deck", "many"] 619))
 .nil)
 (lf (fobj (top 20) "shares" "shares" (.none) (.str "emacs.sizes" 490) 226))))
 (nd (tps ["self", "number", "sort", "parent"] 254)
 (nd (kv P 12)
 (nd (fobj (item (clBody (top 10)) 5) "select" "WindowTree.select" (.none) (.str "emacs.windows" 227) 146)
 (lf tp0)
 .nil)
 (lf tp0))
 (nd (tps ["self", "sort", "parent", "found"] 355)
 (nd tp0
 (lf (fraw (top 34) "_law_halved" "_law_halved"))
 .nil)
 (lf tp0))))
 (nd ({ cls := .type "code", data := .fields #[.str "LispSignal" 198, .str "LispSignal" 199, .str "/claim/cut.py" 200, .int 5 0, .int 0 0, .int 0 0, .int 0 0, .int 0 0, .ref 25, .bool false, .int 181 0, .ref 26, .none, .none, .none, .none, .int 201 0, .int 5 0, .str "/claim/cut.py" 202] })
 (nd ({ cls := .type "builtin_function_or_method", data := .fields #[.builtin "type.__prepare__", .type "type"] })
 (nd (kv P 44)
 (nd (kv P 50)
 (lf (kv P 32))
 .nil)
 (lf (kv P 23)))
 (nd fl0
 (nd (tps ["sort"] 430)
 (lf tp0)
 .nil)
 (lf (tps ["tree", "waiting", "number", "left", "top", "here", "child"] 513))))
 (nd tp0
 (nd (tps ["buffer", "children", "earlier", "height", "hscroll", "is_dedicated", "later", "left", "number", "parent", "point", "sort", "start", "top", "use_time", "width"] 301)
 (nd tp0
 (lf fl0)
 .nil)
 (lf fl0))
 (nd tp0
 (nd (fraw (top 13) "leaves_under" "leaves_under")
 (lf (kv P 71))
 .nil)
 (lf (fraw (top 25) "combined" "combined")))))))
 (nd (boot_o_5 P)
 (nd (boot_o_9 P)
 (nd (tps ["k"] 190)
 (nd (fraw (item (clBody (top 2)) 0) "__init__" "LispSignal.__init__")
 (nd (tps ["self", "axis", "size"] 272)
 (nd (tps ["self", "number", "found"] 374)
 (lf tp0)
 .nil)
 (nd tp0
 (lf (kv P 39))
 .nil))
 (nd ({ cls := .type "builtin_function_or_method", data := .fields #[.builtin "object.__init_subclass__", .ref 93] })
 (nd (fobj (item (clBody (top 10)) 7) "frame_size" "WindowTree.frame_size" (.none) (.str "emacs.windows" 227) 160)
 (lf tp0)
 .nil)
 (lf (fraw (top 20) "shares" "shares"))))
 (nd tp0
 (nd (fraw (item (clBody (top 9)) 4) "shown" "Window.shown")
 (nd (fraw (item (clBody (top 10)) 5) "select" "WindowTree.select")
 (lf (kv P 66))
 .nil)
 (lf (kv P 57)))
 (nd tp0
 (nd fl0
 (lf (tps ["entire", "part"] 637))
 .nil)
 (lf fl0))))
 (nd tp0
 (nd ({ cls := .type "builtin_function_or_method", data := .fields #[.builtin "object.__init_subclass__", .ref 38] })
 (nd tp0
 (nd tp0
 (lf (fraw (top 27) "joined" "joined"))
 .nil)
 (lf (fraw (top 15) "windows_under" "windows_under")))
 (nd (kv P 73)
 (nd tp0
 (lf fl0)
 .nil)
 (lf tp0)))
 (nd fl0
 (nd (kv P 46)
 (nd (kv P 51)
 (lf (fobj (top 29) "most_recent" "most_recent" (.none) (.str "emacs.splits" 523) 280))
 .nil)
 (lf (kv P 25)))
 (nd fl0
 (nd (tps ["tree", "number", "found", "waiting", "here"] 444)
 (lf tp0)
 .nil)
 (lf (tps ["tree", "number", "axis", "here", "around"] 541))))))
 (nd ({ cls := .type "code", data := .fields #[.str "<module>" 182, .str "<module>" 183, .str "/claim/cut.py" 184, .int 1 0, .int 0 0, .int 0 0, .int 0 0, .int 0 0, .ref 11, .bool false, .int 181 0, .ref 12, .none, .none, .none, .none, .int 185 0, .int 1 0, .str "/claim/cut.py" 186] })
 (nd (fobj (top 0) "_wall" "_wall" (.none) (.str "__main__" 164) 20)
 (nd (kv P 6)
 (nd (kv P 10)
 (nd (fobj (item (clBody (top 10)) 3) "leaf" "WindowTree.leaf" (.none) (.str "emacs.windows" 227) 132)
 (lf tp0)
 .nil)
 (lf tp0))
 (nd tp0
 (nd ({ cls := .type "getset_descriptor", data := .fields #[.str "__dict__" 420, .ref 164, .builtin "function.__dict__", .builtin "function.__dict__#set"] })
 (lf (fraw (top 32) "_law_draw" "_law_draw"))
 .nil)
 (lf fl0)))
 (nd (fraw (item (clBody (top 9)) 0) "__init__" "Window.__init__")
 (nd fl0
 (nd fl0
 (lf (tps ["tree", "numbers", "found", "number"] 592))
 .nil)
 (lf (tps ["tree", "number", "own"] 484)))
 (nd (fraw (item (clBody (top 10)) 1) "fresh" "WindowTree.fresh")
 (nd (kv P 53)
 (lf (kv P 37))
 .nil)
 (lf (kv P 62)))))
 (nd tp0
 (nd tp0
 (nd tp0
 (nd tp0
 (lf fl0)
 .nil)
 (lf fl0))
 (nd tp0
 (nd (fraw (top 11) "along" "along")
 (lf (kv P 69))
 .nil)
 (lf (fraw (top 22) "set_places" "set_places"))))
 (nd (kv P 42)
 (nd (kv P 3)
 (nd (tps ["self", "axis"] 407)
 (lf tp0)
 .nil)
 (lf (kv P 59)))
 (nd (kv P 49)
 (nd (kv P 21)
 (lf tp0)
 .nil)
 (lf (kv P 30))))))))
 (nd ({ cls := .none, data := .dict #[ke P "type.__subclasses__.Exception.0" 223 (.int 38 0), ke P "type.__subclasses__.Exception.n" 224 (.int 1 0)] 2 })
 (nd (boot_o_4 P)
 (nd (boot_o_8 P)
 (nd fl0
 (nd tp0
 (nd fl0
 (nd fl0
 (lf (tps ["tree", "number", "size", "axis", "is_ahead", "old", "new", "parent", "model", "found", "children", "at"] 552))
 .nil)
 (nd (tps ["tree"] 455)
 (lf (kv P 72))
 .nil))
 (nd ({ cls := .type "super", data := .fields #[.ref 93, .ref 93, .ref 93] })
 (nd ({ cls := .type "code", data := .fields #[.str "frame_size" 404, .str "WindowTree.frame_size" 405, .str "/claim/cut.py" 406, .int 97 0, .int 2 0, .int 0 0, .int 0 0, .int 3 0, .ref 155, .bool true, .int 181 0, .ref 156, .none, .ref 157, .ref 158, .ref 159, .int 409 0, .int 97 0, .str "/claim/cut.py" 410] })
 (lf (kv P 34))
 .nil)
 (lf fl0)))
 (nd ({ cls := .type "frame", slots := #[some (.ref 47), some (.ref 3), some (.ref 44), none, some (.str "emacs.windows" 227), none, some (.ref 0)] })
 (nd tp0
 (nd tp0
 (lf (fraw (top 28) "lifted" "lifted"))
 .nil)
 (lf (fraw (top 16) "replace_child" "replace_child")))
 (nd (kv P 14)
 (nd tp0
 (lf fl0)
 .nil)
 (lf tp0))))
 (nd ({ cls := .type "dict", data := .dict #[ke P "__module__" 203 (.str "emacs.errors" 194), ke P "__qualname__" 205 (.str "LispSignal" 204), ke P "__firstlineno__" 207 (.int 5 206), ke P "__init__" 216 (.ref 35), ke P "__static_attributes__" 219 (.ref 36)] 5 })
 (nd ({ cls := .type "super", data := .fields #[.ref 38, .ref 38, .ref 38] })
 (nd (tps ["self", "axis"] 281)
 (nd (tps ["self", "number"] 383)
 (lf tp0)
 .nil)
 (lf tp0))
 (nd ({ cls := .type "frame", slots := #[some (.ref 103), some (.ref 3), some (.ref 100), none, some (.str "emacs.windows" 227), none, some (.ref 0)] })
 (nd ({ cls := .type "builtin_function_or_method", data := .fields #[.builtin "object.__init_subclass__", .ref 164] })
 (lf tp0)
 .nil)
 (lf (kv P 27))))
 (nd tp0
 (nd (fraw (item (clBody (top 9)) 5) "show" "Window.show")
 (nd (fraw (item (clBody (top 10)) 6) "least_leaf" "WindowTree.least_leaf")
 (lf ({ cls := .type "code", data := .fields #[.str "most_recent" 589, .str "most_recent" 590, .str "/claim/cut.py" 591, .int 242 0, .int 2 0, .int 0 0, .int 0 0, .int 3 0, .ref 275, .bool true, .int 181 0, .ref 276, .none, .ref 277, .ref 278, .ref 279, .int 596 0, .int 242 0, .str "/claim/cut.py" 597] }))
 .nil)
 (lf (kv P 58)))
 (nd tp0
 (nd fl0
 (lf (tps ["deed_asked"] 645))
 .nil)
 (lf fl0)))))
 (nd o12
 (nd ({ cls := .type "code", data := .fields #[.str "_wall" 187, .str "_wall" 188, .str "/claim/cut.py" 189, .int 1 0, .int 1 0, .int 0 0, .int 0 0, .int 3 0, .ref 15, .bool true, .int 181 0, .ref 16, .none, .ref 17, .ref 18, .ref 19, .int 191 0, .int 1 0, .str "/claim/cut.py" 192] })
 (nd (tps ["data", "symbol"] 217)
 (nd (kv P 43)
 (nd ({ cls := .type "code", data := .fields #[.str "leaf" 371, .str "WindowTree.leaf" 372, .str "/claim/cut.py" 373, .int 81 0, .int 2 0, .int 0 0, .int 0 0, .int 3 0, .ref 127, .bool true, .int 181 0, .ref 128, .none, .ref 129, .ref 130, .ref 131, .int 377 0, .int 81 0, .str "/claim/cut.py" 378] })
 (lf (kv P 31))
 .nil)
 (lf (kv P 22)))
 (nd ({ cls := .type "dict", data := .dict #[ke P "__module__" 332 (.str "emacs.windows" 227), ke P "__qualname__" 334 (.str "WindowTree" 333), ke P "__firstlineno__" 336 (.int 53 335), ke P "__init__" 351 (.ref 112), ke P "fresh" 361 (.ref 119), ke P "window" 370 (.ref 126), ke P "leaf" 379 (.ref 133), ke P "touch" 387 (.ref 140), ke P "select" 395 (.ref 147), ke P "least_leaf" 403 (.ref 154), ke P "frame_size" 411 (.ref 161), ke P "__static_attributes__" 419 (.ref 162)] 12 })
 (nd (kv P 1)
 (lf tp0)
 .nil)
 (lf tp0)))
 (nd tp0
 (nd tp0
 (nd tp0
 (lf fl0)
 .nil)
 (lf fl0))
 (nd tp0
 (nd (fraw (top 12) "sort_along" "sort_along")
 (lf (kv P 70))
 .nil)
 (lf (fraw (top 24) "split_parts" "split_parts")))))
 (nd ({ cls := .type "frame", slots := #[some (.ref 27), some (.ref 3), some (.ref 24), none, some (.str "emacs.errors" 194), none, some (.ref 0)] })
 (nd ({ cls := .type "dict", data := .dict #[ke P "__module__" 246 (.str "emacs.windows" 227), ke P "__qualname__" 248 (.str "Window" 247), ke P "__firstlineno__" 250 (.int 16 249), ke P "__init__" 260 (.ref 55), ke P "size" 268 (.ref 62), ke P "set_size" 277 (.ref 69), ke P "place" 285 (.ref 76), ke P "shown" 292 (.ref 83), ke P "show" 300 (.ref 90), ke P "__static_attributes__" 317 (.ref 91)] 10 })
 (nd (kv P 11)
 (nd (kv P 17)
 (lf tp0)
 .nil)
 (lf tp0))
 (nd (tps ["self", "width", "height", "buffer", "least_width", "least_height", "first"] 342)
 (nd tp0
 (lf (fraw (top 33) "_law_places" "_law_places"))
 .nil)
 (lf tp0)))
 (nd (fraw (item (clBody (top 9)) 1) "size" "Window.size")
 (nd (kv P 4)
 (nd fl0
 (lf (tps ["tree", "number", "here", "parent", "axis", "at", "other", "size", "is_gone"] 602))
 .nil)
 (lf (fraw (top 19) "least_size" "least_size")))
 (nd (fraw (item (clBody (top 10)) 2) "window" "WindowTree.window")
 (nd (kv P 54)
 (lf (kv P 38))
 .nil)
 (lf (kv P 63)))))))
 (nd (boot_o_6 P)
 (nd (boot_o_10 P)
 (nd tp0
 (nd (kv P 40)
 (nd tp0
 (nd tp0
 (lf (fraw (top 26) "split" "split"))
 .nil)
 (lf (fraw (top 14) "leaves" "leaves")))
 (nd tp0
 (nd (tps ["clock", "last", "least_height", "least_width", "root", "selected", "windows"] 412)
 (lf fl0)
 .nil)
 (lf ({ cls := .type "code", data := .fields #[.str "shares" 498, .str "shares" 499, .str "/claim/cut.py" 500, .int 146 0, .int 3 0, .int 0 0, .int 0 0, .int 3 0, .ref 223, .bool true, .int 181 0, .ref 224, .none, .none, .none, .ref 225, .int 501 0, .int 146 0, .str "/claim/cut.py" 502] }))))
 (nd fl0
 (nd (kv P 45)
 (nd ({ cls := .type "code", data := .fields #[.str "select" 388, .str "WindowTree.select" 389, .str "/claim/cut.py" 390, .int 91 0, .int 2 0, .int 0 0, .int 0 0, .int 3 0, .ref 141, .bool true, .int 181 0, .ref 142, .none, .ref 143, .ref 144, .ref 145, .int 393 0, .int 91 0, .str "/claim/cut.py" 394] })
 (lf (kv P 33))
 .nil)
 (lf (kv P 24)))
 (nd fl0
 (nd (tps ["axis"] 437)
 (lf tp0)
 .nil)
 (lf (tps ["tree", "number", "size", "axis", "whole", "new", "old"] 528)))))
 (nd (fl #[.int 7 0, .int 4 0, .ref 34])
 (nd tp0
 (nd (fraw (item (clBody (top 9)) 3) "place" "Window.place")
 (nd (fraw (item (clBody (top 10)) 4) "touch" "WindowTree.touch")
 (lf (kv P 65))
 .nil)
 (lf (kv P 56)))
 (nd tp0
 (nd fl0
 (lf (tps ["tree", "found", "number", "shown_window"] 627))
 .nil)
 (lf fl0)))
 (nd (tps ["self", "axis"] 264)
 (nd (kv P 13)
 (nd (kv P 18)
 (lf tp0)
 .nil)
 (lf tp0))
 (nd (tps ["self", "number", "found"] 365)
 (nd tp0
 (lf (fraw (top 35) "_law_is_refused" "_law_is_refused"))
 .nil)
 (lf tp0)))))
 (nd ({ cls := .type "frame", slots := #[some (.ref 13), some (.ref 3), some (.ref 3), none, some (.str "__main__" 164), none, some (.ref 0)] })
 (nd (tp #[.type "Exception"])
 (nd (kv P 5)
 (nd tp0
 (nd tp0
 (lf fl0)
 .nil)
 (lf fl0))
 (nd (fl #[.int 55 0, .int 4 0, .ref 111, .int 69 0, .int 4 0, .ref 118, .int 75 0, .int 4 0, .ref 125, .int 81 0, .int 4 0, .ref 132, .int 87 0, .int 4 0, .ref 139, .int 91 0, .int 4 0, .ref 146, .int 94 0, .int 4 0, .ref 153, .int 97 0, .int 4 0, .ref 160])
 (nd ({ cls := .type "getset_descriptor", data := .fields #[.str "__weakref__" 422, .ref 164, .builtin "ExceptionGroup.__weakref__", .none] })
 (lf (kv P 68))
 .nil)
 (lf (fraw (top 21) "set_tree_size" "set_tree_size"))))
 (nd (kv P 41)
 (nd (tps ["self", "told"] 296)
 (nd (tps ["self", "axis"] 399)
 (lf tp0)
 .nil)
 (lf tp0))
 (nd (kv P 48)
 (nd (kv P 20)
 (lf tp0)
 .nil)
 (lf (kv P 29)))))
 (nd fl0
 (nd (fl #[.int 18 0, .int 4 0, .ref 54, .int 36 0, .int 4 0, .ref 61, .int 39 0, .int 4 0, .ref 68, .int 45 0, .int 4 0, .ref 75, .int 48 0, .int 4 0, .ref 82, .int 51 0, .int 4 0, .ref 89])
 (nd fl0
 (nd fl0
 (lf (tps ["tree", "number", "here", "left"] 582))
 .nil)
 (lf (tps ["tree", "old", "new", "parent", "children"] 473)))
 (nd (fraw (item (clBody (top 10)) 0) "__init__" "WindowTree.__init__")
 (nd (kv P 52)
 (lf (kv P 36))
 .nil)
 (lf (kv P 61))))
 (nd (kv P 9)
 (nd ({ cls := .type "getset_descriptor", data := .fields #[.str "__dict__" 318, .ref 93, .builtin "function.__dict__", .builtin "function.__dict__#set"] })
 (nd tp0
 (lf (fraw (top 30) "delete_window" "delete_window"))
 .nil)
 (lf (kv P 26)))
 (nd (kv P 16)
 (nd tp0
 (lf fl0)
 .nil)
 (lf tp0))))))))
noncomputable def reVal (e : DictEntry) (v : Value) : DictEntry := { e with val := v }
noncomputable def d3 (P : Params) (m : Nat) (v : Value) : Obj := { cls := .type "dict", data := .dict ((match dEnts (kv P 0) with | e :: r => (reVal e v :: r).take m | [] => []).toArray) m }
noncomputable def f12 (m : Nat) : Obj := fl ((fEnts o12).take m).toArray
noncomputable def T0 (P : Params) : BT := ((((cutT (Tf P) 15).set 2 fun _ => boot_o_2 P).set 3 fun _ => boot_o_3 P).set 12 fun _ => f12 0)
noncomputable def T1 (P : Params) : BT := (((cutT (Tf P) 42).set 3 fun _ => d3 P 16 (.str "emacs.windows" 227)).set 12 fun _ => f12 6)
noncomputable def T2 (P : Params) : BT := (((cutT (Tf P) 98).set 3 fun _ => d3 P 17 (.str "emacs.windows" 227)).set 12 fun _ => f12 9)
noncomputable def T3 (P : Params) : BT := (((cutT (Tf P) 169).set 3 fun _ => d3 P 18 (.str "emacs.windows" 227)).set 12 fun _ => f12 12)
noncomputable def T4 (P : Params) : BT := (((cutT (Tf P) 247).set 3 fun _ => d3 P 30 (.str "emacs.splits" 523)).set 12 fun _ => f12 48)
end Mine
end
section
open PySem PySem.W PyProof.Rows
set_option maxRecDepth 100000
namespace Mine
noncomputable def q : Program := { PySem.Challenge.pw_np0055_01 with main := { PySem.Challenge.pw_np0055_01.main with body := [top 36] } }
noncomputable def loose : List Str := ["_wall", "LispSignal", "LEAF", "COLUMN", "ROW", "WIDTH", "HEIGHT", "Window", "WindowTree", "along", "sort_along", "leaves_under", "leaves", "windows_under", "replace_child", "forget", "least_size", "shares", "set_tree_size", "set_places", "split_parts", "combined", "split", "joined", "lifted", "most_recent", "delete_window", "_law_draw", "_law_places", "_law_halved", "_law_is_refused"]
noncomputable def xt (s : Shared) : Bool := xlAt q [] s && recOk (RowW.records PySem.Challenge.rw_np0055_01.row.toRowW) s
noncomputable def yf (s : Shared) : List (Option Obj) × Option Obj := (kAddrs.map s.heap.get?, s.heap.get? 318)
noncomputable def ya (w : World) : List (Option Obj) × Option Obj := ((K w.params).map fun p => some p.2, some (tabObj #[]))
noncomputable abbrev pg : Program := PySem.Challenge.rw_np0055_01.row.prog
noncomputable def envP (p : Program) : Env := { scope := p.main.scope, locals := mainNs, globals := mainNs, cells := [], code := .ref 13, frame := some 14 }
noncomputable abbrev cdP (p : Program) : Code := .body (behindTheImports p) (envP p)
noncomputable abbrev q0 : PySem.Pos := ⟨0, 0, 0, 0⟩
noncomputable abbrev an : Option Value := some (.ref 6)
noncomputable abbrev stT (T : Params → BT) (n k : Nat) (w : World) (os : OsState) : SharedT := { tree := T w.params, n := n, life := {}, gens := ⟨[]⟩, drawn := {}, toks := k, os := os }
noncomputable def gr (p : Program) (i n : Nat) : List Stmt := ((behindTheImports p).drop i).take n
noncomputable def sgP (p : Program) (w : World) (n : Nat) (s : SharedT) (l : List Stmt) (ps : PySem.Pos) := segRunT treeTable p w 11 an 1 n s (piecesOf l (envP p) (cdP p) ps [topFrame q0])
theorem sgP_self : Mine.sgP = Mine.sgP := rfl
noncomputable def goP (p : Program) (w : World) (s : Shared) := topGo treeTable p w 11 an 12 s (topStub p)
theorem goP_self : Mine.goP = Mine.goP := rfl
noncomputable def geP (p : Program) (s : Shared) : Option (Shared × Thread) := some (s, ⟨denote treeTable (cdP p), cdP p, q0, [topFrame q0]⟩)
theorem geP_self : Mine.geP = Mine.geP := rfl
noncomputable def blP (p : Program) (w : World) (s : Shared) := segRun treeTable p w 11 an 1 1 s (blockOf (behindTheImports p) (envP p) (cdP p) q0 [topFrame q0])
theorem blP_self : Mine.blP = Mine.blP := rfl
noncomputable def fiP (p : Program) (w : World) (s : Shared) (ps : PySem.Pos) := topRun treeTable p w 11 an 2 s ⟨doneF .next, cdP p, ps, [topFrame q0]⟩
theorem fiP_self : Mine.fiP = Mine.fiP := rfl
noncomputable def lkP (q : Program) (loose mods : List Str) (recs : WRecords) (p : Program) (h0 h1 : Heap) (k : Nat) (os : OsState) :=
  ((staticsOk mods h0 h1 && namesBound p h1 && gensDone ⟨h1, ⟨[]⟩, {}, k, os⟩ && laidKept h0 h1), openSeen q loose mods (fun s => xlAt q [] s && recOk recs s) true ⟨h1, ⟨[]⟩, {}, k, os⟩, yf ⟨h1, ⟨[]⟩, {}, k, os⟩)
theorem lkP_self : Mine.lkP = Mine.lkP := rfl
end Mine
name_quick sgQ for Mine.sgP by Mine.sgP_self
name_quick goQ for Mine.goP by Mine.goP_self
name_quick geQ for Mine.geP by Mine.geP_self
name_quick blQ for Mine.blP by Mine.blP_self
name_quick fiQ for Mine.fiP by Mine.fiP_self
name_quick lkQ for Mine.lkP by Mine.lkP_self
namespace Mine
theorem sg_of {w : World} {n : Nat} {s s' : SharedT} {l : List Stmt} {ps p' : PySem.Pos} (h : PySem.W.Fast.sgQ pg w n s l ps = some (.next, s', cdP pg, p')) : segRun treeTable pg w 11 an 1 n s.abs (piecesOf l (envP pg) (cdP pg) ps [topFrame q0]) = some (.next, s'.abs, cdP pg, p') :=
  segRun_of ((congrFun (congrFun (congrFun (congrFun (congrFun (congrFun PySem.W.Fast.sgQ_eq pg) w) n) s) l) ps).trans h)
theorem r1 (w : World) (os : OsState) : PySem.W.Fast.sgQ pg w 323 (stT T0 15 187 w os) (gr pg 0 9) q0 = some (.next, stT T1 42 239 w os, cdP pg, ⟨15, 0, 15, 6⟩) := by kernel_rfl
theorem r2 (w : World) (os : OsState) : PySem.W.Fast.sgQ pg w 400 (stT T1 42 239 w os) (gr pg 9 1) ⟨15, 0, 15, 6⟩ = some (.next, stT T2 98 325 w os, cdP pg, ⟨16, 0, 52, 64⟩) := by kernel_rfl
theorem r3 (w : World) (os : OsState) : PySem.W.Fast.sgQ pg w 465 (stT T2 98 325 w os) (gr pg 10 1) ⟨16, 0, 52, 64⟩ = some (.next, stT T3 169 427 w os, cdP pg, ⟨53, 0, 98, 16⟩) := by kernel_rfl
theorem r4 (w : World) (os : OsState) : PySem.W.Fast.sgQ pg w 384 (stT T3 169 427 w os) (gr pg 11 14) ⟨53, 0, 98, 16⟩ = some (.next, stT T4 247 538 w os, cdP pg, ⟨182, 0, 191, 21⟩) := by kernel_rfl
theorem r5 (w : World) (os : OsState) : PySem.W.Fast.sgQ pg w 365 (stT T4 247 538 w os) (gr pg 25 12) ⟨182, 0, 191, 21⟩ = some (.next, stT Tf 322 655 w os, cdP pg, ⟨286, 0, 322, 15⟩) := by kernel_rfl
theorem rGo (w : World) (os : OsState) : PySem.W.Fast.goQ pg w ⟨boot_heap w.params, ⟨[]⟩, boot_drawn, boot_toks, os⟩ = PySem.W.Fast.geQ pg (stT T0 15 187 w os).abs := by kernel_rfl
theorem rBl (w : World) (os : OsState) : PySem.W.Fast.blQ pg w (stT T0 15 187 w os).abs = some (.next, (stT T0 15 187 w os).abs, cdP pg, q0) := by kernel_rfl
theorem rFi (w : World) (os : OsState) : PySem.W.Fast.fiQ pg w (stT Tf 322 655 w os).abs ⟨286, 0, 322, 15⟩ = some (stT Tf 322 655 w os).abs := by kernel_rfl
theorem rSz (w : World) : ((boot_heap w.params).isNs mainGlobals && (⟨[]⟩ : Array GenState).size == 0, (boot_heap w.params).objs.size, (boot_heap w.params).nsMap mainGlobals "__annotations__") = (true, 11, an) := by kernel_rfl
theorem body_eq : behindTheImports pg = gr pg 0 9 ++ (gr pg 9 1 ++ (gr pg 10 1 ++ (gr pg 11 14 ++ (gr pg 25 12 ++ [])))) := by kernel_rfl
theorem rLk (w : World) (os : OsState) : PySem.W.Fast.lkQ q loose (importedModules pg.main.body) (RowW.records PySem.Challenge.rw_np0055_01.row.toRowW) pg (boot_heap w.params) (absHeap (Tf w.params) 322 {}) 655 os = (true, openGood q loose, ya w) := by kernel_rfl
theorem topRuns (w : World) (os : OsState) : topRun treeTable pg w 11 an (12 + (1 + (323 + (400 + (465 + (384 + (365 + 2))))))) ⟨boot_heap w.params, ⟨[]⟩, boot_drawn, boot_toks, os⟩ (topStub pg) = some (stT Tf 322 655 w os).abs :=
  go_top (((congrFun (congrFun (congrFun PySem.W.Fast.goQ_eq pg) w) _).trans (rGo w os)).trans (congrFun (congrFun PySem.W.Fast.geQ_eq pg) _).symm) (piece_block ((congrFun (congrFun (congrFun PySem.W.Fast.blQ_eq pg) w) _).trans (rBl w os))
    ((congrArg (fun b => topRun treeTable pg w 11 an (323 + (400 + (465 + (384 + (365 + 2))))) (stT T0 15 187 w os).abs (restOf b (envP pg) (cdP pg) q0 [topFrame q0])) body_eq).trans
      (piece_app (sg_of (r1 w os)) (piece_app (sg_of (r2 w os)) (piece_app (sg_of (r3 w os)) (piece_app (sg_of (r4 w os)) (piece_app (sg_of (r5 w os)) (piece_nil ((congrFun (congrFun (congrFun (congrFun PySem.W.Fast.fiQ_eq pg) w) _) _).trans (rFi w os))))))))))
theorem left : LeftO pg q loose xt yf ya 3990 :=
  LeftO.of_pieces (H₁ := fun P => absHeap (Tf P) 322 {}) (boot_open (by kernel_rfl) (by rfl) (fun _ => rfl)) rSz topRuns (by rfl)
    (fun w => funext fun os => (congrFun (congrFun (congrFun (congrFun (congrFun (congrFun (congrFun (congrFun (congrFun PySem.W.Fast.lkQ_eq q) loose) (importedModules pg.main.body)) (RowW.records PySem.Challenge.rw_np0055_01.row.toRowW)) pg) (boot_heap w.params)) (absHeap (Tf w.params) 322 {})) 655) os).trans (rLk w os))
end Mine
end
section
set_option maxRecDepth 10000
open PySem PySem.W PySem.Calls PyProof.Rows
namespace Mine
noncomputable def sBad : SM := fun _ _ => none
theorem dss_bad {D : Wd} {CX : Addr} {k : Nat} {cs : Scope} {sts : List Stmt} : DSS D CX k cs sts sBad := fun c hc O ρ μ φ N s o ρ' μ' R e => nomatch e
theorem free_of {sc cs : Scope} (h : ∀ p ∈ sc.names, p.2 = NameKind.free → cs.names.lookup p.1 = some .cell) : ∀ x, (x, NameKind.free) ∈ sc.names → cs.names.lookup x = some .cell := fun x hx => h _ hx rfl
theorem len1 {α : Type} {l : List α} (h : l.length = 1) : ∃ a, l = [a] := by match l, h with | [a], _ => exact ⟨a, rfl⟩
theorem len2 {α : Type} {l : List α} (h : l.length = 2) : ∃ a b, l = [a, b] := by match l, h with | [a, b], _ => exact ⟨a, b, rfl⟩
theorem len3 {α : Type} {l : List α} (h : l.length = 3) : ∃ a b c, l = [a, b, c] := by match l, h with | [a, b, c], _ => exact ⟨a, b, c, rfl⟩
theorem len4 {α : Type} {l : List α} (h : l.length = 4) : ∃ a b c d, l = [a, b, c, d] := by match l, h with | [a, b, c, d], _ => exact ⟨a, b, c, d, rfl⟩
theorem len5 {α : Type} {l : List α} (h : l.length = 5) : ∃ a b c d e, l = [a, b, c, d, e] := by match l, h with | [a, b, c, d, e], _ => exact ⟨a, b, c, d, e, rfl⟩
theorem len6 {α : Type} {l : List α} (h : l.length = 6) : ∃ a b c d e f, l = [a, b, c, d, e, f] := by match l, h with | [a, b, c, d, e, f], _ => exact ⟨a, b, c, d, e, f, rfl⟩
theorem sigOk {D : Wd} (hK : D.K = K D.w.params) : SigOk D 38 35 :=
  ⟨N_LispSignal hK, Kp_LispSignal hK, ⟨_, _, _, _, _, _, _, _, _, _, _, _, _, _, K_38 hK, SNok hK, SN0 hK, SN1 hK, SN2 hK, SN3 hK⟩,
    ⟨_, _, _, _, _, _, _, _, _, _, _, _, _, _, _, _, _, _, _, _, _, K_sig_init hK, C_sig_init hK, fun s a b c => .of_eq rfl, by kernel_rfl, by kernel_rfl, by kernel_rfl, by kernel_rfl, by kernel_rfl, by kernel_rfl, by decide +kernel⟩⟩
theorem refOk {D : Wd} (hK : D.K = K D.w.params) : RefOk D 316 :=
  ⟨N_law_is_refused hK, Kp_law_is_refused hK, ⟨_, _, _, _, _, _, _, _, _, _, _, _, _, _, _, _, _, _, _, _, _, _, _, _, _, _, K_law_is_refused hK, C_law_is_refused hK, fun s a => .of_eq rfl, by kernel_rfl, by kernel_rfl, by kernel_rfl, by kernel_rfl, by kernel_rfl, by decide +kernel⟩⟩
noncomputable def b_wi_size : SM := (sSeq (sRet (eIf (tCmp .Eq (eName "axis") (eInt 0)) (eAttr (eName "self") 93 "width") (eAttr (eName "self") 93 "height")))
  sNil)
noncomputable def m_wi_size : FM := runBody b_wi_size [("self" : Str), ("axis" : Str)]
theorem d_wi_size {D : Wd} (hK : D.K = K D.w.params) : DSS D 38 1 sc_wi_size (fnBody st_wi_size) b_wi_size := (dss_cons (ds_ret (de_if (dt_cmp (de_local (by kernel_rfl)) (de_globInt (G_WIDTH hK) (by kernel_rfl))) (de_attr (de_local (by kernel_rfl)) (A_width hK)) (de_attr (de_local (by kernel_rfl)) (A_height hK))))
  dss_nil)
theorem f_wi_size {D : Wd} (hK : D.K = K D.w.params) : FnS D 2 (.ref 62) m_wi_size := fn_of [("self" : Str), ("axis" : Str)] (K_wi_size hK) (C_wi_size hK) (fun s us hin h => by obtain ⟨a, b, rfl⟩ := len2 h; exact .of_eq rfl) (by decide +kernel) (d_wi_size hK) (by decide +kernel) (by decide +kernel) (by kernel_rfl) (by kernel_rfl) (by kernel_rfl)
noncomputable def b_wi_set_size : SM := (sSeq (sIf (tCmp .Eq (eName "axis") (eInt 0)) (sSeq (sAssign (eName "size") (aAttr (eName "self") 93 "width"))
  sNil) (sSeq (sAssign (eName "size") (aAttr (eName "self") 93 "height"))
  sNil))
  sNil)
noncomputable def m_wi_set_size : FM := runBody b_wi_set_size [("self" : Str), ("axis" : Str), ("size" : Str)]
theorem d_wi_set_size {D : Wd} (hK : D.K = K D.w.params) : DSS D 38 1 sc_wi_set_size (fnBody st_wi_set_size) b_wi_set_size := (dss_cons (ds_if (dt_cmp (de_local (by kernel_rfl)) (de_globInt (G_WIDTH hK) (by kernel_rfl))) (dss_cons (ds_attr (de_local (by kernel_rfl)) (de_local (by kernel_rfl)) (S_width hK))
  dss_nil) (dss_cons (ds_attr (de_local (by kernel_rfl)) (de_local (by kernel_rfl)) (S_height hK))
  dss_nil))
  dss_nil)
theorem f_wi_set_size {D : Wd} (hK : D.K = K D.w.params) : FnS D 2 (.ref 69) m_wi_set_size := fn_of [("self" : Str), ("axis" : Str), ("size" : Str)] (K_wi_set_size hK) (C_wi_set_size hK) (fun s us hin h => by obtain ⟨a, b, c, rfl⟩ := len3 h; exact .of_eq rfl) (by decide +kernel) (d_wi_set_size hK) (by decide +kernel) (by decide +kernel) (by kernel_rfl) (by kernel_rfl) (by kernel_rfl)
noncomputable def b_wi_place : SM := (sSeq (sRet (eIf (tCmp .Eq (eName "axis") (eInt 0)) (eAttr (eName "self") 93 "left") (eAttr (eName "self") 93 "top")))
  sNil)
noncomputable def m_wi_place : FM := runBody b_wi_place [("self" : Str), ("axis" : Str)]
theorem d_wi_place {D : Wd} (hK : D.K = K D.w.params) : DSS D 38 1 sc_wi_place (fnBody st_wi_place) b_wi_place := (dss_cons (ds_ret (de_if (dt_cmp (de_local (by kernel_rfl)) (de_globInt (G_WIDTH hK) (by kernel_rfl))) (de_attr (de_local (by kernel_rfl)) (A_left hK)) (de_attr (de_local (by kernel_rfl)) (A_top hK))))
  dss_nil)
theorem f_wi_place {D : Wd} (hK : D.K = K D.w.params) : FnS D 2 (.ref 76) m_wi_place := fn_of [("self" : Str), ("axis" : Str)] (K_wi_place hK) (C_wi_place hK) (fun s us hin h => by obtain ⟨a, b, rfl⟩ := len2 h; exact .of_eq rfl) (by decide +kernel) (d_wi_place hK) (by decide +kernel) (by decide +kernel) (by kernel_rfl) (by kernel_rfl) (by kernel_rfl)
noncomputable def b_wi_shown : SM := (sSeq (sRet (eTup (lCons (eAttr (eName "self") 93 "buffer") (lCons (eAttr (eName "self") 93 "start") (lCons (eAttr (eName "self") 93 "point") (lCons (eAttr (eName "self") 93 "hscroll") lNil))))))
  sNil)
noncomputable def m_wi_shown : FM := runBody b_wi_shown [("self" : Str)]
theorem d_wi_shown {D : Wd} (hK : D.K = K D.w.params) : DSS D 38 1 sc_wi_shown (fnBody st_wi_shown) b_wi_shown := (dss_cons (ds_ret (de_tup (dl_cons (de_attr (de_local (by kernel_rfl)) (A_buffer hK)) (dl_cons (de_attr (de_local (by kernel_rfl)) (A_start hK)) (dl_cons (de_attr (de_local (by kernel_rfl)) (A_point hK)) (dl_cons (de_attr (de_local (by kernel_rfl)) (A_hscroll hK)) dl_nil))))))
  dss_nil)
theorem f_wi_shown {D : Wd} (hK : D.K = K D.w.params) : FnS D 2 (.ref 83) m_wi_shown := fn_of [("self" : Str)] (K_wi_shown hK) (C_wi_shown hK) (fun s us hin h => by obtain ⟨a, rfl⟩ := len1 h; exact .of_eq rfl) (by decide +kernel) (d_wi_shown hK) (by decide +kernel) (by decide +kernel) (by kernel_rfl) (by kernel_rfl) (by kernel_rfl)
noncomputable def b_wi_show : SM := (sSeq (sAssign (eName "told") (aTup (asCons (aAttr (eName "self") 93 "buffer") (asCons (aAttr (eName "self") 93 "start") (asCons (aAttr (eName "self") 93 "point") (asCons (aAttr (eName "self") 93 "hscroll") asNil))))))
  sNil)
noncomputable def m_wi_show : FM := runBody b_wi_show [("self" : Str), ("told" : Str)]
theorem d_wi_show {D : Wd} (hK : D.K = K D.w.params) : DSS D 38 1 sc_wi_show (fnBody st_wi_show) b_wi_show := (dss_cons (ds_tup (de_local (by kernel_rfl)) (das_cons (da_attr (de_local (by kernel_rfl)) (S_buffer hK)) (das_cons (da_attr (de_local (by kernel_rfl)) (S_start hK)) (das_cons (da_attr (de_local (by kernel_rfl)) (S_point hK)) (das_cons (da_attr (de_local (by kernel_rfl)) (S_hscroll hK)) das_nil)))) (as_len_cons (as_len_cons (as_len_cons (as_len_cons as_len_nil)))) (hw := fun c hc => by show swappedStores _ _ (envX c.cn c.cs c.L c.a c.ccd c.cl) = _; rw [hc]; kernel_rfl))
  dss_nil)
theorem f_wi_show {D : Wd} (hK : D.K = K D.w.params) : FnS D 2 (.ref 90) m_wi_show := fn_of [("self" : Str), ("told" : Str)] (K_wi_show hK) (C_wi_show hK) (fun s us hin h => by obtain ⟨a, b, rfl⟩ := len2 h; exact .of_eq rfl) (by decide +kernel) (d_wi_show hK) (by decide +kernel) (by decide +kernel) (by kernel_rfl) (by kernel_rfl) (by kernel_rfl)
noncomputable def b_wi_init : SM := (sSeq (sAssign (eName "number") (aAttr (eName "self") 93 "number"))
  (sSeq (sAssign (eName "sort") (aAttr (eName "self") 93 "sort"))
  (sSeq (sAssign (eName "parent") (aAttr (eName "self") 93 "parent"))
  (sSeq (sAssign (eList lNil) (aAttr (eName "self") 93 "children"))
  (sSeq (sAssign (eInt 0) (aAttr (eName "self") 93 "left"))
  (sSeq (sAssign (eInt 0) (aAttr (eName "self") 93 "top"))
  (sSeq (sAssign (eInt 0) (aAttr (eName "self") 93 "width"))
  (sSeq (sAssign (eInt 0) (aAttr (eName "self") 93 "height"))
  (sSeq (sAssign (eInt 0) (aAttr (eName "self") 93 "buffer"))
  (sSeq (sAssign (eInt 1) (aAttr (eName "self") 93 "start"))
  (sSeq (sAssign (eInt 1) (aAttr (eName "self") 93 "point"))
  (sSeq (sAssign (eInt 0) (aAttr (eName "self") 93 "hscroll"))
  (sSeq (sAssign (eBool false) (aAttr (eName "self") 93 "is_dedicated"))
  (sSeq (sAssign (eInt 0) (aAttr (eName "self") 93 "use_time"))
  (sSeq (sAssign (eList lNil) (aAttr (eName "self") 93 "earlier"))
  (sSeq (sAssign (eList lNil) (aAttr (eName "self") 93 "later"))
  sNil))))))))))))))))
noncomputable def m_wi_init : FM := runBody b_wi_init [("self" : Str), ("number" : Str), ("sort" : Str), ("parent" : Str)]
theorem d_wi_init {D : Wd} (hK : D.K = K D.w.params) : DSS D 38 1 sc_wi_init (fnBody st_wi_init) b_wi_init := (dss_cons (ds_attr (de_local (by kernel_rfl)) (de_local (by kernel_rfl)) (S_number hK))
  (dss_cons (ds_attr (de_local (by kernel_rfl)) (de_local (by kernel_rfl)) (S_sort hK))
  (dss_cons (ds_attr (de_local (by kernel_rfl)) (de_local (by kernel_rfl)) (S_parent hK))
  (dss_cons (ds_attr (de_list dl_nil) (de_local (by kernel_rfl)) (S_children hK))
  (dss_cons (ds_attr de_int (de_local (by kernel_rfl)) (S_left hK))
  (dss_cons (ds_attr de_int (de_local (by kernel_rfl)) (S_top hK))
  (dss_cons (ds_attr de_int (de_local (by kernel_rfl)) (S_width hK))
  (dss_cons (ds_attr de_int (de_local (by kernel_rfl)) (S_height hK))
  (dss_cons (ds_attr de_int (de_local (by kernel_rfl)) (S_buffer hK))
  (dss_cons (ds_attr de_int (de_local (by kernel_rfl)) (S_start hK))
  (dss_cons (ds_attr de_int (de_local (by kernel_rfl)) (S_point hK))
  (dss_cons (ds_attr de_int (de_local (by kernel_rfl)) (S_hscroll hK))
  (dss_cons (ds_attr de_bool (de_local (by kernel_rfl)) (S_is_dedicated hK))
  (dss_cons (ds_attr de_int (de_local (by kernel_rfl)) (S_use_time hK))
  (dss_cons (ds_attr (de_list dl_nil) (de_local (by kernel_rfl)) (S_earlier hK))
  (dss_cons (ds_attr (de_list dl_nil) (de_local (by kernel_rfl)) (S_later hK))
  dss_nil))))))))))))))))
theorem f_wi_init {D : Wd} (hK : D.K = K D.w.params) : FnS D 2 (.ref 55) m_wi_init := fn_of [("self" : Str), ("number" : Str), ("sort" : Str), ("parent" : Str)] (K_wi_init hK) (C_wi_init hK) (fun s us hin h => by obtain ⟨a, b, c, d, rfl⟩ := len4 h; exact .of_eq rfl) (by decide +kernel) (d_wi_init hK) (by decide +kernel) (by decide +kernel) (by kernel_rfl) (by kernel_rfl) (by kernel_rfl)
noncomputable def b_wt_fresh : SM := (sSeq (sAssign (eBin .Add (eAttr (eName "self") 164 "last") (eInt 1)) (aAttr (eName "self") 164 "last"))
  (sSeq (sAssign (eCall (lCons (eAttr (eName "self") 164 "last") (lCons (eName "sort") (lCons (eName "parent") lNil))) (mNew 93 m_wi_init)) (aName "found"))
  (sSeq (sAssign (eName "found") (aSub (eAttr (eName "self") 164 "windows") (eAttr (eName "self") 164 "last")))
  (sSeq (sRet (eName "found"))
  sNil))))
noncomputable def m_wt_fresh : FM := runBody b_wt_fresh [("self" : Str), ("sort" : Str), ("parent" : Str)]
theorem d_wt_fresh {D : Wd} (hK : D.K = K D.w.params) : DSS D 38 5 sc_wt_fresh (fnBody st_wt_fresh) b_wt_fresh := (dss_cons (ds_attr (de_bin (de_attr (de_local (by kernel_rfl)) (A_last hK)) de_int) (de_local (by kernel_rfl)) (S_last hK))
  (dss_cons (ds_local (de_call (N_Window hK) (Kp_Window hK) (new_of (Mk_Window hK) (In_Window hK) (Ty_Window hK) (f_wi_init hK)) (by decide) (by kernel_rfl) (dl_cons (de_attr (de_local (by kernel_rfl)) (A_last hK)) (dl_cons (de_local (by kernel_rfl)) (dl_cons (de_local (by kernel_rfl)) dl_nil)))) (by kernel_rfl))
  (dss_cons (ds_sub (de_local (by kernel_rfl)) (de_attr (de_local (by kernel_rfl)) (A_windows hK)) (de_attr (de_local (by kernel_rfl)) (A_last hK)))
  (dss_cons (ds_ret (de_local (by kernel_rfl)))
  dss_nil))))
theorem f_wt_fresh {D : Wd} (hK : D.K = K D.w.params) : FnS D 6 (.ref 119) m_wt_fresh := fn_of [("self" : Str), ("sort" : Str), ("parent" : Str)] (K_wt_fresh hK) (C_wt_fresh hK) (fun s us hin h => by obtain ⟨a, b, c, rfl⟩ := len3 h; exact .of_eq rfl) (by decide +kernel) (d_wt_fresh hK) (by decide +kernel) (by decide +kernel) (by kernel_rfl) (by kernel_rfl) (by kernel_rfl)
noncomputable def b_wt_window : SM := (sSeq (sAssign (eBM (eAttr (eName "self") 164 "windows") isDict (lCons (eName "number") (lCons eNone lNil)) mGet) (aName "found"))
  (sSeq (sIf (tCmp .Is (eName "found") eNone) sBad sNil)
  (sSeq (sRet (eName "found"))
  sNil)))
noncomputable def m_wt_window : FM := runBody b_wt_window [("self" : Str), ("number" : Str)]
theorem d_wt_window {D : Wd} (hK : D.K = K D.w.params) : DSS D 38 1 sc_wt_window (fnBody st_wt_window) b_wt_window := (dss_cons (ds_local (de_bm (de_attr (de_local (by kernel_rfl)) (A_windows hK)) bm_get (dl_cons (de_local (by kernel_rfl)) (dl_cons de_none dl_nil))) (by kernel_rfl))
  (dss_cons (ds_if (dt_cmp (de_local (by kernel_rfl)) de_none) dss_bad dss_nil)
  (dss_cons (ds_ret (de_local (by kernel_rfl)))
  dss_nil)))
theorem f_wt_window {D : Wd} (hK : D.K = K D.w.params) : FnS D 2 (.ref 126) m_wt_window := fn_of [("self" : Str), ("number" : Str)] (K_wt_window hK) (C_wt_window hK) (fun s us hin h => by obtain ⟨a, b, rfl⟩ := len2 h; exact .of_eq rfl) (by decide +kernel) (d_wt_window hK) (by decide +kernel) (by decide +kernel) (by kernel_rfl) (by kernel_rfl) (by kernel_rfl)
noncomputable def b_wt_touch : SM := (sSeq (sAssign (eBin .Add (eAttr (eName "self") 164 "clock") (eInt 1)) (aAttr (eName "self") 164 "clock"))
  (sSeq (sAssign (eAttr (eName "self") 164 "clock") (aAttr (eSub (eAttr (eName "self") 164 "windows") (eName "number")) 93 "use_time"))
  sNil))
noncomputable def m_wt_touch : FM := runBody b_wt_touch [("self" : Str), ("number" : Str)]
theorem d_wt_touch {D : Wd} (hK : D.K = K D.w.params) : DSS D 38 1 sc_wt_touch (fnBody st_wt_touch) b_wt_touch := (dss_cons (ds_attr (de_bin (de_attr (de_local (by kernel_rfl)) (A_clock hK)) de_int) (de_local (by kernel_rfl)) (S_clock hK))
  (dss_cons (ds_attr (de_attr (de_local (by kernel_rfl)) (A_clock hK)) (de_sub (de_attr (de_local (by kernel_rfl)) (A_windows hK)) (de_local (by kernel_rfl))) (S_use_time hK))
  dss_nil))
theorem f_wt_touch {D : Wd} (hK : D.K = K D.w.params) : FnS D 2 (.ref 140) m_wt_touch := fn_of [("self" : Str), ("number" : Str)] (K_wt_touch hK) (C_wt_touch hK) (fun s us hin h => by obtain ⟨a, b, rfl⟩ := len2 h; exact .of_eq rfl) (by decide +kernel) (d_wt_touch hK) (by decide +kernel) (by decide +kernel) (by kernel_rfl) (by kernel_rfl) (by kernel_rfl)
noncomputable def b_wt_least_leaf : SM := (sSeq (sRet (eIf (tCmp .Eq (eName "axis") (eInt 0)) (eAttr (eName "self") 164 "least_width") (eAttr (eName "self") 164 "least_height")))
  sNil)
noncomputable def m_wt_least_leaf : FM := runBody b_wt_least_leaf [("self" : Str), ("axis" : Str)]
theorem d_wt_least_leaf {D : Wd} (hK : D.K = K D.w.params) : DSS D 38 1 sc_wt_least_leaf (fnBody st_wt_least_leaf) b_wt_least_leaf := (dss_cons (ds_ret (de_if (dt_cmp (de_local (by kernel_rfl)) (de_globInt (G_WIDTH hK) (by kernel_rfl))) (de_attr (de_local (by kernel_rfl)) (A_least_width hK)) (de_attr (de_local (by kernel_rfl)) (A_least_height hK))))
  dss_nil)
theorem f_wt_least_leaf {D : Wd} (hK : D.K = K D.w.params) : FnS D 2 (.ref 154) m_wt_least_leaf := fn_of [("self" : Str), ("axis" : Str)] (K_wt_least_leaf hK) (C_wt_least_leaf hK) (fun s us hin h => by obtain ⟨a, b, rfl⟩ := len2 h; exact .of_eq rfl) (by decide +kernel) (d_wt_least_leaf hK) (by decide +kernel) (by decide +kernel) (by kernel_rfl) (by kernel_rfl) (by kernel_rfl)
noncomputable def b_wt_init : SM := (sSeq (sAssign eDict0 (aAttr (eName "self") 164 "windows"))
  (sSeq (sAssign (eInt 0) (aAttr (eName "self") 164 "last"))
  (sSeq (sAssign (eInt 0) (aAttr (eName "self") 164 "clock"))
  (sSeq (sAssign (eName "least_width") (aAttr (eName "self") 164 "least_width"))
  (sSeq (sAssign (eName "least_height") (aAttr (eName "self") 164 "least_height"))
  (sSeq (sAssign (eMeth (eName "self") 164 "fresh" (lCons (eInt 0) (lCons (eInt 0) lNil)) m_wt_fresh) (aName "first"))
  (sSeq (sAssign (eName "width") (aAttr (eName "first") 93 "width"))
  (sSeq (sAssign (eName "height") (aAttr (eName "first") 93 "height"))
  (sSeq (sAssign (eName "buffer") (aAttr (eName "first") 93 "buffer"))
  (sSeq (sAssign (eAttr (eName "first") 93 "number") (aAttr (eName "self") 164 "root"))
  (sSeq (sAssign (eAttr (eName "first") 93 "number") (aAttr (eName "self") 164 "selected"))
  (sSeq (sExpr (eMeth (eName "self") 164 "touch" (lCons (eAttr (eName "first") 93 "number") lNil) m_wt_touch))
  sNil))))))))))))
noncomputable def m_wt_init : FM := runBody b_wt_init [("self" : Str), ("width" : Str), ("height" : Str), ("buffer" : Str), ("least_width" : Str), ("least_height" : Str)]
theorem d_wt_init {D : Wd} (hK : D.K = K D.w.params) : DSS D 38 7 sc_wt_init (fnBody st_wt_init) b_wt_init := (dss_cons (ds_attr de_dict0 (de_local (by kernel_rfl)) (S_windows hK))
  (dss_cons (ds_attr de_int (de_local (by kernel_rfl)) (S_last hK))
  (dss_cons (ds_attr de_int (de_local (by kernel_rfl)) (S_clock hK))
  (dss_cons (ds_attr (de_local (by kernel_rfl)) (de_local (by kernel_rfl)) (S_least_width hK))
  (dss_cons (ds_attr (de_local (by kernel_rfl)) (de_local (by kernel_rfl)) (S_least_height hK))
  (dss_cons (ds_local (de_meth (de_local (by kernel_rfl)) (M_wt_fresh hK) (f_wt_fresh hK) (by decide) (dl_cons (de_globInt (G_LEAF hK) (by kernel_rfl)) (dl_cons de_int dl_nil))) (by kernel_rfl))
  (dss_cons (ds_attr (de_local (by kernel_rfl)) (de_local (by kernel_rfl)) (S_width hK))
  (dss_cons (ds_attr (de_local (by kernel_rfl)) (de_local (by kernel_rfl)) (S_height hK))
  (dss_cons (ds_attr (de_local (by kernel_rfl)) (de_local (by kernel_rfl)) (S_buffer hK))
  (dss_cons (ds_attr (de_attr (de_local (by kernel_rfl)) (A_number hK)) (de_local (by kernel_rfl)) (S_root hK))
  (dss_cons (ds_attr (de_attr (de_local (by kernel_rfl)) (A_number hK)) (de_local (by kernel_rfl)) (S_selected hK))
  (dss_cons (ds_expr (de_meth (de_local (by kernel_rfl)) (M_wt_touch hK) (f_wt_touch hK) (by decide) (dl_cons (de_attr (de_local (by kernel_rfl)) (A_number hK)) dl_nil)))
  dss_nil))))))))))))
theorem f_wt_init {D : Wd} (hK : D.K = K D.w.params) : FnS D 8 (.ref 112) m_wt_init := fn_of [("self" : Str), ("width" : Str), ("height" : Str), ("buffer" : Str), ("least_width" : Str), ("least_height" : Str)] (K_wt_init hK) (C_wt_init hK) (fun s us hin h => by obtain ⟨a, b, c, d, e, f, rfl⟩ := len6 h; exact .of_defaults (T := 105) rfl (hin _ _ (K_105 hK)) rfl rfl rfl) (by decide +kernel) (d_wt_init hK) (by decide +kernel) (by decide +kernel) (by kernel_rfl) (by kernel_rfl) (by kernel_rfl)
noncomputable def b_along : SM := (sSeq (sRet (eIf (tCmp .Eq (eName "sort") (eInt 2)) (eInt 0) (eInt 1)))
  sNil)
noncomputable def m_along : FM := runBody b_along [("sort" : Str)]
theorem d_along {D : Wd} (hK : D.K = K D.w.params) : DSS D 38 1 sc_along (fnBody st_along) b_along := (dss_cons (ds_ret (de_if (dt_cmp (de_local (by kernel_rfl)) (de_globInt (G_ROW hK) (by kernel_rfl))) (de_globInt (G_WIDTH hK) (by kernel_rfl)) (de_globInt (G_HEIGHT hK) (by kernel_rfl))))
  dss_nil)
theorem f_along {D : Wd} (hK : D.K = K D.w.params) : FnS D 2 (.ref 175) m_along := fn_of [("sort" : Str)] (K_along hK) (C_along hK) (fun s us hin h => by obtain ⟨a, rfl⟩ := len1 h; exact .of_eq rfl) (by decide +kernel) (d_along hK) (by decide +kernel) (by decide +kernel) (by kernel_rfl) (by kernel_rfl) (by kernel_rfl)
noncomputable def b_sort_along : SM := (sSeq (sRet (eIf (tCmp .Eq (eName "axis") (eInt 0)) (eInt 2) (eInt 1)))
  sNil)
noncomputable def m_sort_along : FM := runBody b_sort_along [("axis" : Str)]
theorem d_sort_along {D : Wd} (hK : D.K = K D.w.params) : DSS D 38 1 sc_sort_along (fnBody st_sort_along) b_sort_along := (dss_cons (ds_ret (de_if (dt_cmp (de_local (by kernel_rfl)) (de_globInt (G_WIDTH hK) (by kernel_rfl))) (de_globInt (G_ROW hK) (by kernel_rfl)) (de_globInt (G_COLUMN hK) (by kernel_rfl))))
  dss_nil)
theorem f_sort_along {D : Wd} (hK : D.K = K D.w.params) : FnS D 2 (.ref 182) m_sort_along := fn_of [("axis" : Str)] (K_sort_along hK) (C_sort_along hK) (fun s us hin h => by obtain ⟨a, rfl⟩ := len1 h; exact .of_eq rfl) (by decide +kernel) (d_sort_along hK) (by decide +kernel) (by decide +kernel) (by kernel_rfl) (by kernel_rfl) (by kernel_rfl)
noncomputable def b_leaves_under : SM := (sSeq (sAssign (eList lNil) (aName "found"))
  (sSeq (sAssign (eList (lCons (eName "number") lNil)) (aName "waiting"))
  (sSeq (sWhile (tCmp .NotEq (eName "waiting") (eList lNil)) (sSeq (sAssign (eSub (eAttr (eName "tree") 164 "windows") (eBM (eName "waiting") isList lNil mPop)) (aName "here"))
  (sSeq (sIf (tCmp .Eq (eAttr (eName "here") 93 "sort") (eInt 0)) (sSeq (sExpr (eBM (eName "found") isList (lCons (eAttr (eName "here") 93 "number") lNil) mAppend))
  sNil) (sSeq (sExpr (eBM (eName "waiting") isList (lCons (eRev (eAttr (eName "here") 93 "children")) lNil) mExtend))
  sNil))
  sNil)) 200)
  (sSeq (sRet (eName "found"))
  sNil))))
noncomputable def m_leaves_under : FM := runBody b_leaves_under [("tree" : Str), ("number" : Str)]
theorem d_leaves_under {D : Wd} (hK : D.K = K D.w.params) : DSS D 38 1 sc_leaves_under (fnBody st_leaves_under) b_leaves_under := (dss_cons (ds_local (de_list dl_nil) (by kernel_rfl))
  (dss_cons (ds_local (de_list (dl_cons (de_local (by kernel_rfl)) dl_nil)) (by kernel_rfl))
  (dss_cons (ds_while 200 (dt_cmp (de_local (by kernel_rfl)) (de_list dl_nil)) (dss_cons (ds_local (de_sub (de_attr (de_local (by kernel_rfl)) (A_windows hK)) (de_bm0 (de_local (by kernel_rfl)) bm_pop)) (by kernel_rfl))
  (dss_cons (ds_if (dt_cmp (de_attr (de_local (by kernel_rfl)) (A_sort hK)) (de_globInt (G_LEAF hK) (by kernel_rfl))) (dss_cons (ds_expr (de_bm (de_local (by kernel_rfl)) bm_append (dl_cons (de_attr (de_local (by kernel_rfl)) (A_number hK)) dl_nil)))
  dss_nil) (dss_cons (ds_expr (de_bm (de_local (by kernel_rfl)) bm_extend (dl_cons (de_rev (de_attr (de_local (by kernel_rfl)) (A_children hK))) dl_nil)))
  dss_nil))
  dss_nil)))
  (dss_cons (ds_ret (de_local (by kernel_rfl)))
  dss_nil))))
theorem f_leaves_under {D : Wd} (hK : D.K = K D.w.params) : FnS D 2 (.ref 189) m_leaves_under := fn_of [("tree" : Str), ("number" : Str)] (K_leaves_under hK) (C_leaves_under hK) (fun s us hin h => by obtain ⟨a, b, rfl⟩ := len2 h; exact .of_eq rfl) (by decide +kernel) (d_leaves_under hK) (by decide +kernel) (by decide +kernel) (by kernel_rfl) (by kernel_rfl) (by kernel_rfl)
noncomputable def b_leaves : SM := (sSeq (sRet (eCall (lCons (eName "tree") (lCons (eAttr (eName "tree") 164 "root") lNil)) m_leaves_under))
  sNil)
noncomputable def m_leaves : FM := runBody b_leaves [("tree" : Str)]
theorem d_leaves {D : Wd} (hK : D.K = K D.w.params) : DSS D 38 3 sc_leaves (fnBody st_leaves) b_leaves := (dss_cons (ds_ret (de_call (N_leaves_under hK) (Kp_leaves_under hK) (f_leaves_under hK) (by decide) (by kernel_rfl) (dl_cons (de_local (by kernel_rfl)) (dl_cons (de_attr (de_local (by kernel_rfl)) (A_root hK)) dl_nil))))
  dss_nil)
theorem f_leaves {D : Wd} (hK : D.K = K D.w.params) : FnS D 4 (.ref 196) m_leaves := fn_of [("tree" : Str)] (K_leaves hK) (C_leaves hK) (fun s us hin h => by obtain ⟨a, rfl⟩ := len1 h; exact .of_eq rfl) (by decide +kernel) (d_leaves hK) (by decide +kernel) (by decide +kernel) (by kernel_rfl) (by kernel_rfl) (by kernel_rfl)
noncomputable def b_windows_under : SM := (sSeq (sAssign (eList lNil) (aName "found"))
  (sSeq (sAssign (eList (lCons (eName "number") lNil)) (aName "waiting"))
  (sSeq (sWhile (tCmp .NotEq (eName "waiting") (eList lNil)) (sSeq (sAssign (eSub (eAttr (eName "tree") 164 "windows") (eBM (eName "waiting") isList lNil mPop)) (aName "here"))
  (sSeq (sExpr (eBM (eName "found") isList (lCons (eAttr (eName "here") 93 "number") lNil) mAppend))
  (sSeq (sExpr (eBM (eName "waiting") isList (lCons (eRev (eAttr (eName "here") 93 "children")) lNil) mExtend))
  sNil))) 200)
  (sSeq (sRet (eName "found"))
  sNil))))
noncomputable def m_windows_under : FM := runBody b_windows_under [("tree" : Str), ("number" : Str)]
theorem d_windows_under {D : Wd} (hK : D.K = K D.w.params) : DSS D 38 1 sc_windows_under (fnBody st_windows_under) b_windows_under := (dss_cons (ds_local (de_list dl_nil) (by kernel_rfl))
  (dss_cons (ds_local (de_list (dl_cons (de_local (by kernel_rfl)) dl_nil)) (by kernel_rfl))
  (dss_cons (ds_while 200 (dt_cmp (de_local (by kernel_rfl)) (de_list dl_nil)) (dss_cons (ds_local (de_sub (de_attr (de_local (by kernel_rfl)) (A_windows hK)) (de_bm0 (de_local (by kernel_rfl)) bm_pop)) (by kernel_rfl))
  (dss_cons (ds_expr (de_bm (de_local (by kernel_rfl)) bm_append (dl_cons (de_attr (de_local (by kernel_rfl)) (A_number hK)) dl_nil)))
  (dss_cons (ds_expr (de_bm (de_local (by kernel_rfl)) bm_extend (dl_cons (de_rev (de_attr (de_local (by kernel_rfl)) (A_children hK))) dl_nil)))
  dss_nil))))
  (dss_cons (ds_ret (de_local (by kernel_rfl)))
  dss_nil))))
theorem f_windows_under {D : Wd} (hK : D.K = K D.w.params) : FnS D 2 (.ref 203) m_windows_under := fn_of [("tree" : Str), ("number" : Str)] (K_windows_under hK) (C_windows_under hK) (fun s us hin h => by obtain ⟨a, b, rfl⟩ := len2 h; exact .of_eq rfl) (by decide +kernel) (d_windows_under hK) (by decide +kernel) (by decide +kernel) (by kernel_rfl) (by kernel_rfl) (by kernel_rfl)
noncomputable def b_replace_child : SM := (sSeq (sAssign (eAttr (eSub (eAttr (eName "tree") 164 "windows") (eName "old")) 93 "parent") (aName "parent"))
  (sSeq (sAssign (eName "parent") (aAttr (eSub (eAttr (eName "tree") 164 "windows") (eName "new")) 93 "parent"))
  (sSeq (sIf (tCmp .Eq (eName "parent") (eInt 0)) (sSeq (sAssign (eName "new") (aAttr (eName "tree") 164 "root"))
  sNil) (sSeq (sAssign (eAttr (eSub (eAttr (eName "tree") 164 "windows") (eName "parent")) 93 "children") (aName "children"))
  (sSeq (sAssign (eName "new") (aSub (eName "children") (eBM (eName "children") isList (lCons (eName "old") lNil) mIndex)))
  sNil)))
  sNil)))
noncomputable def m_replace_child : FM := runBody b_replace_child [("tree" : Str), ("old" : Str), ("new" : Str)]
theorem d_replace_child {D : Wd} (hK : D.K = K D.w.params) : DSS D 38 1 sc_replace_child (fnBody st_replace_child) b_replace_child := (dss_cons (ds_local (de_attr (de_sub (de_attr (de_local (by kernel_rfl)) (A_windows hK)) (de_local (by kernel_rfl))) (A_parent hK)) (by kernel_rfl))
  (dss_cons (ds_attr (de_local (by kernel_rfl)) (de_sub (de_attr (de_local (by kernel_rfl)) (A_windows hK)) (de_local (by kernel_rfl))) (S_parent hK))
  (dss_cons (ds_if (dt_cmp (de_local (by kernel_rfl)) de_int) (dss_cons (ds_attr (de_local (by kernel_rfl)) (de_local (by kernel_rfl)) (S_root hK))
  dss_nil) (dss_cons (ds_local (de_attr (de_sub (de_attr (de_local (by kernel_rfl)) (A_windows hK)) (de_local (by kernel_rfl))) (A_children hK)) (by kernel_rfl))
  (dss_cons (ds_sub (de_local (by kernel_rfl)) (de_local (by kernel_rfl)) (de_bm (de_local (by kernel_rfl)) bm_index (dl_cons (de_local (by kernel_rfl)) dl_nil)))
  dss_nil)))
  dss_nil)))
theorem f_replace_child {D : Wd} (hK : D.K = K D.w.params) : FnS D 2 (.ref 210) m_replace_child := fn_of [("tree" : Str), ("old" : Str), ("new" : Str)] (K_replace_child hK) (C_replace_child hK) (fun s us hin h => by obtain ⟨a, b, c, rfl⟩ := len3 h; exact .of_eq rfl) (by decide +kernel) (d_replace_child hK) (by decide +kernel) (by decide +kernel) (by kernel_rfl) (by kernel_rfl) (by kernel_rfl)
noncomputable def b_forget : SM := (sSeq (sForIn (eCall (lCons (eName "tree") (lCons (eName "number") lNil)) m_windows_under) (aName "own") (sSeq (sExpr (eBM (eAttr (eName "tree") 164 "windows") isDict (lCons (eName "own") lNil) mDPop))
  sNil) 200)
  sNil)
noncomputable def m_forget : FM := runBody b_forget [("tree" : Str), ("number" : Str)]
theorem d_forget {D : Wd} (hK : D.K = K D.w.params) : DSS D 38 3 sc_forget (fnBody st_forget) b_forget := (dss_cons (ds_for 200 (de_call (N_windows_under hK) (Kp_windows_under hK) (f_windows_under hK) (by decide) (by kernel_rfl) (dl_cons (de_local (by kernel_rfl)) (dl_cons (de_local (by kernel_rfl)) dl_nil))) (da_local (by kernel_rfl)) (dss_cons (ds_expr (de_bm (de_attr (de_local (by kernel_rfl)) (A_windows hK)) bm_dpop (dl_cons (de_local (by kernel_rfl)) dl_nil)))
  dss_nil))
  dss_nil)
theorem f_forget {D : Wd} (hK : D.K = K D.w.params) : FnS D 4 (.ref 217) m_forget := fn_of [("tree" : Str), ("number" : Str)] (K_forget hK) (C_forget hK) (fun s us hin h => by obtain ⟨a, b, rfl⟩ := len2 h; exact .of_eq rfl) (by decide +kernel) (d_forget hK) (by decide +kernel) (by decide +kernel) (by kernel_rfl) (by kernel_rfl) (by kernel_rfl)
noncomputable def b_least_size : SM := (sSeq (sAssign eDict0 (aName "found"))
  (sSeq (sForIn (eRev (eCall (lCons (eName "tree") (lCons (eName "number") lNil)) m_windows_under)) (aName "own") (sSeq (sAssign (eSub (eAttr (eName "tree") 164 "windows") (eName "own")) (aName "here"))
  (sSeq (sIf (tCmp .Eq (eAttr (eName "here") 93 "sort") (eInt 0)) (sSeq (sAssign (eMeth (eName "tree") 164 "least_leaf" (lCons (eName "axis") lNil) m_wt_least_leaf) (aSub (eName "found") (eName "own")))
  sNil) sBad)
  sNil)) 200)
  (sSeq (sRet (eSub (eName "found") (eName "number")))
  sNil)))
noncomputable def m_least_size : FM := runBody b_least_size [("tree" : Str), ("number" : Str), ("axis" : Str)]
theorem d_least_size {D : Wd} (hK : D.K = K D.w.params) : DSS D 38 3 sc_least_size (fnBody st_least_size) b_least_size := (dss_cons (ds_cell de_dict0 (by kernel_rfl))
  (dss_cons (ds_for 200 (de_rev (de_call (N_windows_under hK) (Kp_windows_under hK) (f_windows_under hK) (by decide) (by kernel_rfl) (dl_cons (de_local (by kernel_rfl)) (dl_cons (de_local (by kernel_rfl)) dl_nil)))) (da_local (by kernel_rfl)) (dss_cons (ds_local (de_sub (de_attr (de_local (by kernel_rfl)) (A_windows hK)) (de_local (by kernel_rfl))) (by kernel_rfl))
  (dss_cons (ds_if (dt_cmp (de_attr (de_local (by kernel_rfl)) (A_sort hK)) (de_globInt (G_LEAF hK) (by kernel_rfl))) (dss_cons (ds_sub (de_meth (de_local (by kernel_rfl)) (M_wt_least_leaf hK) (f_wt_least_leaf hK) (by decide) (dl_cons (de_local (by kernel_rfl)) dl_nil)) (de_cell (by kernel_rfl)) (de_local (by kernel_rfl)))
  dss_nil) dss_bad)
  dss_nil)))
  (dss_cons (ds_ret (de_sub (de_cell (by kernel_rfl)) (de_local (by kernel_rfl))))
  dss_nil)))
theorem f_least_size {D : Wd} (hK : D.K = K D.w.params) : FnS D 4 (.ref 222) m_least_size := fn_ofC [("tree" : Str), ("number" : Str), ("axis" : Str)] (K_least_size hK) (C_least_size hK) (fun s us hin h => by obtain ⟨a, b, c, rfl⟩ := len3 h; exact .of_eq rfl) (by decide +kernel) (d_least_size hK) (by decide +kernel) (by decide +kernel) (by kernel_rfl) (by kernel_rfl) (by kernel_rfl)
noncomputable def b_set_tree_size : SM := (sSeq (sAssign (eList (lCons (eTup (lCons (eName "number") (lCons (eName "size") lNil))) lNil)) (aName "waiting"))
  (sSeq (sWhile (tCmp .NotEq (eName "waiting") (eList lNil)) (sSeq (sAssign (eBM (eName "waiting") isList lNil mPop) (aTup (asCons (aName "own") (asCons (aName "much") asNil))))
  (sSeq (sAssign (eSub (eAttr (eName "tree") 164 "windows") (eName "own")) (aName "here"))
  (sSeq (sIf (tCmp .NotEq (eAttr (eName "here") 93 "sort") (eInt 0)) sBad sNil)
  (sSeq (sExpr (eMeth (eName "here") 93 "set_size" (lCons (eName "axis") (lCons (eName "much") lNil)) m_wi_set_size))
  sNil)))) 200)
  sNil))
noncomputable def m_set_tree_size : FM := runBody b_set_tree_size [("tree" : Str), ("number" : Str), ("axis" : Str), ("size" : Str)]
theorem d_set_tree_size {D : Wd} (hK : D.K = K D.w.params) : DSS D 38 3 sc_set_tree_size (fnBody st_set_tree_size) b_set_tree_size := (dss_cons (ds_local (de_list (dl_cons (de_tup (dl_cons (de_local (by kernel_rfl)) (dl_cons (de_local (by kernel_rfl)) dl_nil))) dl_nil)) (by kernel_rfl))
  (dss_cons (ds_while 200 (dt_cmp (de_local (by kernel_rfl)) (de_list dl_nil)) (dss_cons (ds_tup (de_bm0 (de_local (by kernel_rfl)) bm_pop) (das_cons (da_local (by kernel_rfl)) (das_cons (da_local (by kernel_rfl)) das_nil)) (as_len_cons (as_len_cons as_len_nil)) (hw := fun c hc => by show swappedStores _ _ (envX c.cn c.cs c.L c.a c.ccd c.cl) = _; rw [hc]; kernel_rfl))
  (dss_cons (ds_local (de_sub (de_attr (de_cell (by kernel_rfl)) (A_windows hK)) (de_local (by kernel_rfl))) (by kernel_rfl))
  (dss_cons (ds_if (dt_cmp (de_attr (de_local (by kernel_rfl)) (A_sort hK)) (de_globInt (G_LEAF hK) (by kernel_rfl))) dss_bad dss_nil)
  (dss_cons (ds_expr (de_meth (de_local (by kernel_rfl)) (M_wi_set_size hK) (f_wi_set_size hK) (by decide) (dl_cons (de_cell (by kernel_rfl)) (dl_cons (de_local (by kernel_rfl)) dl_nil))))
  dss_nil)))))
  dss_nil))
theorem f_set_tree_size {D : Wd} (hK : D.K = K D.w.params) : FnS D 4 (.ref 232) m_set_tree_size := fn_ofC [("tree" : Str), ("number" : Str), ("axis" : Str), ("size" : Str)] (K_set_tree_size hK) (C_set_tree_size hK) (fun s us hin h => by obtain ⟨a, b, c, d, rfl⟩ := len4 h; exact .of_eq rfl) (by decide +kernel) (d_set_tree_size hK) (by decide +kernel) (by decide +kernel) (by kernel_rfl) (by kernel_rfl) (by kernel_rfl)
noncomputable def b_set_places : SM := (sSeq (sAssign (eList (lCons (eTup (lCons (eAttr (eName "tree") 164 "root") (lCons (eInt 0) (lCons (eInt 0) lNil)))) lNil)) (aName "waiting"))
  (sSeq (sWhile (tCmp .NotEq (eName "waiting") (eList lNil)) (sSeq (sAssign (eBM (eName "waiting") isList lNil mPop) (aTup (asCons (aName "number") (asCons (aName "left") (asCons (aName "top") asNil)))))
  (sSeq (sAssign (eSub (eAttr (eName "tree") 164 "windows") (eName "number")) (aName "here"))
  (sSeq (sAssign (eTup (lCons (eName "left") (lCons (eName "top") lNil))) (aTup (asCons (aAttr (eName "here") 93 "left") (asCons (aAttr (eName "here") 93 "top") asNil))))
  (sSeq (sForIn (eAttr (eName "here") 93 "children") (aName "child") (sSeq (sExpr (eBM (eName "waiting") isList (lCons (eTup (lCons (eName "child") (lCons (eName "left") (lCons (eName "top") lNil)))) lNil) mAppend))
  (sSeq (sIf (tCmp .Eq (eCall (lCons (eAttr (eName "here") 93 "sort") lNil) m_along) (eInt 0)) (sSeq (sAssign (eBin .Add (eName "left") (eAttr (eSub (eAttr (eName "tree") 164 "windows") (eName "child")) 93 "width")) (aName "left"))
  sNil) (sSeq (sAssign (eBin .Add (eName "top") (eAttr (eSub (eAttr (eName "tree") 164 "windows") (eName "child")) 93 "height")) (aName "top"))
  sNil))
  sNil)) 200)
  sNil)))) 200)
  sNil))
noncomputable def m_set_places : FM := runBody b_set_places [("tree" : Str)]
theorem d_set_places {D : Wd} (hK : D.K = K D.w.params) : DSS D 38 3 sc_set_places (fnBody st_set_places) b_set_places := (dss_cons (ds_local (de_list (dl_cons (de_tup (dl_cons (de_attr (de_local (by kernel_rfl)) (A_root hK)) (dl_cons de_int (dl_cons de_int dl_nil)))) dl_nil)) (by kernel_rfl))
  (dss_cons (ds_while 200 (dt_cmp (de_local (by kernel_rfl)) (de_list dl_nil)) (dss_cons (ds_tup (de_bm0 (de_local (by kernel_rfl)) bm_pop) (das_cons (da_local (by kernel_rfl)) (das_cons (da_local (by kernel_rfl)) (das_cons (da_local (by kernel_rfl)) das_nil))) (as_len_cons (as_len_cons (as_len_cons as_len_nil))) (hw := fun c hc => by show swappedStores _ _ (envX c.cn c.cs c.L c.a c.ccd c.cl) = _; rw [hc]; kernel_rfl))
  (dss_cons (ds_local (de_sub (de_attr (de_local (by kernel_rfl)) (A_windows hK)) (de_local (by kernel_rfl))) (by kernel_rfl))
  (dss_cons (ds_tup (de_tup (dl_cons (de_local (by kernel_rfl)) (dl_cons (de_local (by kernel_rfl)) dl_nil))) (das_cons (da_attr (de_local (by kernel_rfl)) (S_left hK)) (das_cons (da_attr (de_local (by kernel_rfl)) (S_top hK)) das_nil)) (as_len_cons (as_len_cons as_len_nil)) (hw := fun c hc => by show swappedStores _ _ (envX c.cn c.cs c.L c.a c.ccd c.cl) = _; rw [hc]; kernel_rfl))
  (dss_cons (ds_for 200 (de_attr (de_local (by kernel_rfl)) (A_children hK)) (da_local (by kernel_rfl)) (dss_cons (ds_expr (de_bm (de_local (by kernel_rfl)) bm_append (dl_cons (de_tup (dl_cons (de_local (by kernel_rfl)) (dl_cons (de_local (by kernel_rfl)) (dl_cons (de_local (by kernel_rfl)) dl_nil)))) dl_nil)))
  (dss_cons (ds_if (dt_cmp (de_call (N_along hK) (Kp_along hK) (f_along hK) (by decide) (by kernel_rfl) (dl_cons (de_attr (de_local (by kernel_rfl)) (A_sort hK)) dl_nil)) (de_globInt (G_WIDTH hK) (by kernel_rfl))) (dss_cons (ds_local (de_bin (de_local (by kernel_rfl)) (de_attr (de_sub (de_attr (de_local (by kernel_rfl)) (A_windows hK)) (de_local (by kernel_rfl))) (A_width hK))) (by kernel_rfl))
  dss_nil) (dss_cons (ds_local (de_bin (de_local (by kernel_rfl)) (de_attr (de_sub (de_attr (de_local (by kernel_rfl)) (A_windows hK)) (de_local (by kernel_rfl))) (A_height hK))) (by kernel_rfl))
  dss_nil))
  dss_nil)))
  dss_nil)))))
  dss_nil))
theorem f_set_places {D : Wd} (hK : D.K = K D.w.params) : FnS D 4 (.ref 239) m_set_places := fn_of [("tree" : Str)] (K_set_places hK) (C_set_places hK) (fun s us hin h => by obtain ⟨a, rfl⟩ := len1 h; exact .of_eq rfl) (by decide +kernel) (d_set_places hK) (by decide +kernel) (by decide +kernel) (by kernel_rfl) (by kernel_rfl) (by kernel_rfl)
noncomputable def b_split_parts : SM := (sSeq (sAssign (eMeth (eMeth (eName "tree") 164 "window" (lCons (eName "number") lNil) m_wt_window) 93 "size" (lCons (eName "axis") lNil) m_wi_size) (aName "whole"))
  (sSeq (sIf (tCmp .Is (eName "size") eNone) (sSeq (sAssign (eBin .FloorDiv (eName "whole") (eInt 2)) (aName "new"))
  sNil) (sSeq (sAssign (eIf (tCmp .Gt (eName "size") (eInt 0)) (eBin .Sub (eName "whole") (eName "size")) (eBin .Sub (eInt 0) (eName "size"))) (aName "new"))
  sNil))
  (sSeq (sAssign (eBin .Sub (eName "whole") (eName "new")) (aName "old"))
  (sSeq (sIf (tOr (tCmp .Lt (eName "old") (eCall (lCons (eName "tree") (lCons (eName "number") (lCons (eName "axis") lNil))) m_least_size)) (tCmp .Lt (eName "new") (eMeth (eName "tree") 164 "least_leaf" (lCons (eName "axis") lNil) m_wt_least_leaf))) (sSeq sRaise
  sNil) sNil)
  (sSeq (sRet (eTup (lCons (eName "old") (lCons (eName "new") lNil))))
  sNil)))))
noncomputable def m_split_parts : FM := runBody b_split_parts [("tree" : Str), ("number" : Str), ("size" : Str), ("axis" : Str)]
theorem d_split_parts {D : Wd} (hK : D.K = K D.w.params) : DSS D 38 5 sc_split_parts (fnBody st_split_parts) b_split_parts := (dss_cons (ds_local (de_meth (de_meth (de_local (by kernel_rfl)) (M_wt_window hK) (f_wt_window hK) (by decide) (dl_cons (de_local (by kernel_rfl)) dl_nil)) (M_wi_size hK) (f_wi_size hK) (by decide) (dl_cons (de_local (by kernel_rfl)) dl_nil)) (by kernel_rfl))
  (dss_cons (ds_if (dt_cmp (de_local (by kernel_rfl)) de_none) (dss_cons (ds_local (de_bin (de_local (by kernel_rfl)) de_int) (by kernel_rfl))
  dss_nil) (dss_cons (ds_local (de_if (dt_cmp (de_local (by kernel_rfl)) de_int) (de_bin (de_local (by kernel_rfl)) (de_local (by kernel_rfl))) (de_bin de_int (de_local (by kernel_rfl)))) (by kernel_rfl))
  dss_nil))
  (dss_cons (ds_local (de_bin (de_local (by kernel_rfl)) (de_local (by kernel_rfl))) (by kernel_rfl))
  (dss_cons (ds_if (dt_or (dt_cmp (de_local (by kernel_rfl)) (de_call (N_least_size hK) (Kp_least_size hK) (f_least_size hK) (by decide) (by kernel_rfl) (dl_cons (de_local (by kernel_rfl)) (dl_cons (de_local (by kernel_rfl)) (dl_cons (de_local (by kernel_rfl)) dl_nil))))) (dt_cmp (de_local (by kernel_rfl)) (de_meth (de_local (by kernel_rfl)) (M_wt_least_leaf hK) (f_wt_least_leaf hK) (by decide) (dl_cons (de_local (by kernel_rfl)) dl_nil)))) (dss_cons (ds_raise (sigOk hK) (by kernel_rfl) (by decide))
  dss_nil) dss_nil)
  (dss_cons (ds_ret (de_tup (dl_cons (de_local (by kernel_rfl)) (dl_cons (de_local (by kernel_rfl)) dl_nil))))
  dss_nil)))))
theorem f_split_parts {D : Wd} (hK : D.K = K D.w.params) : FnS D 6 (.ref 246) m_split_parts := fn_of [("tree" : Str), ("number" : Str), ("size" : Str), ("axis" : Str)] (K_split_parts hK) (C_split_parts hK) (fun s us hin h => by obtain ⟨a, b, c, d, rfl⟩ := len4 h; exact .of_eq rfl) (by decide +kernel) (d_split_parts hK) (by decide +kernel) (by decide +kernel) (by kernel_rfl) (by kernel_rfl) (by kernel_rfl)
noncomputable def x_split_parts : XM := raiseBody b_split_parts [("tree" : Str), ("number" : Str), ("size" : Str), ("axis" : Str)]
theorem fx_split_parts {D : Wd} (hK : D.K = K D.w.params) : FnX D 38 6 (.ref 246) x_split_parts := fnx_of [("tree" : Str), ("number" : Str), ("size" : Str), ("axis" : Str)] (K_split_parts hK) (C_split_parts hK) (fun s us hin h => by obtain ⟨a, b, c, d, rfl⟩ := len4 h; exact .of_eq rfl) (by decide +kernel) (d_split_parts hK) (by decide +kernel) (by decide +kernel) (by kernel_rfl) (by kernel_rfl) (by kernel_rfl)
noncomputable def b_combined : SM := (sSeq (sAssign (eSub (eAttr (eName "tree") 164 "windows") (eName "number")) (aName "here"))
  (sSeq (sIf (tAnd (tCmp .NotEq (eAttr (eName "here") 93 "parent") (eInt 0)) (tCmp .Eq (eCall (lCons (eAttr (eSub (eAttr (eName "tree") 164 "windows") (eAttr (eName "here") 93 "parent")) 93 "sort") lNil) m_along) (eName "axis"))) (sSeq (sRet (eAttr (eName "here") 93 "parent"))
  sNil) sNil)
  (sSeq (sAssign (eMeth (eName "tree") 164 "fresh" (lCons (eCall (lCons (eName "axis") lNil) m_sort_along) (lCons (eAttr (eName "here") 93 "parent") lNil)) m_wt_fresh) (aName "around"))
  (sSeq (sAssign (eTup (lCons (eAttr (eName "here") 93 "width") (lCons (eAttr (eName "here") 93 "height") (lCons (eAttr (eName "here") 93 "left") (lCons (eAttr (eName "here") 93 "top") lNil))))) (aTup (asCons (aAttr (eName "around") 93 "width") (asCons (aAttr (eName "around") 93 "height") (asCons (aAttr (eName "around") 93 "left") (asCons (aAttr (eName "around") 93 "top") asNil))))))
  (sSeq (sExpr (eCall (lCons (eName "tree") (lCons (eName "number") (lCons (eAttr (eName "around") 93 "number") lNil))) m_replace_child))
  (sSeq (sAssign (eAttr (eName "around") 93 "number") (aAttr (eName "here") 93 "parent"))
  (sSeq (sAssign (eList (lCons (eName "number") lNil)) (aAttr (eName "around") 93 "children"))
  (sSeq (sRet (eAttr (eName "around") 93 "number"))
  sNil))))))))
noncomputable def m_combined : FM := runBody b_combined [("tree" : Str), ("number" : Str), ("axis" : Str)]
theorem d_combined {D : Wd} (hK : D.K = K D.w.params) : DSS D 38 7 sc_combined (fnBody st_combined) b_combined := (dss_cons (ds_local (de_sub (de_attr (de_local (by kernel_rfl)) (A_windows hK)) (de_local (by kernel_rfl))) (by kernel_rfl))
  (dss_cons (ds_if (dt_and (dt_cmp (de_attr (de_local (by kernel_rfl)) (A_parent hK)) de_int) (dt_cmp (de_call (N_along hK) (Kp_along hK) (f_along hK) (by decide) (by kernel_rfl) (dl_cons (de_attr (de_sub (de_attr (de_local (by kernel_rfl)) (A_windows hK)) (de_attr (de_local (by kernel_rfl)) (A_parent hK))) (A_sort hK)) dl_nil)) (de_local (by kernel_rfl)))) (dss_cons (ds_ret (de_attr (de_local (by kernel_rfl)) (A_parent hK)))
  dss_nil) dss_nil)
  (dss_cons (ds_local (de_meth (de_local (by kernel_rfl)) (M_wt_fresh hK) (f_wt_fresh hK) (by decide) (dl_cons (de_call (N_sort_along hK) (Kp_sort_along hK) (f_sort_along hK) (by decide) (by kernel_rfl) (dl_cons (de_local (by kernel_rfl)) dl_nil)) (dl_cons (de_attr (de_local (by kernel_rfl)) (A_parent hK)) dl_nil))) (by kernel_rfl))
  (dss_cons (ds_tup (de_tup (dl_cons (de_attr (de_local (by kernel_rfl)) (A_width hK)) (dl_cons (de_attr (de_local (by kernel_rfl)) (A_height hK)) (dl_cons (de_attr (de_local (by kernel_rfl)) (A_left hK)) (dl_cons (de_attr (de_local (by kernel_rfl)) (A_top hK)) dl_nil))))) (das_cons (da_attr (de_local (by kernel_rfl)) (S_width hK)) (das_cons (da_attr (de_local (by kernel_rfl)) (S_height hK)) (das_cons (da_attr (de_local (by kernel_rfl)) (S_left hK)) (das_cons (da_attr (de_local (by kernel_rfl)) (S_top hK)) das_nil)))) (as_len_cons (as_len_cons (as_len_cons (as_len_cons as_len_nil)))) (hw := fun c hc => by show swappedStores _ _ (envX c.cn c.cs c.L c.a c.ccd c.cl) = _; rw [hc]; kernel_rfl))
  (dss_cons (ds_expr (de_call (N_replace_child hK) (Kp_replace_child hK) (f_replace_child hK) (by decide) (by kernel_rfl) (dl_cons (de_local (by kernel_rfl)) (dl_cons (de_local (by kernel_rfl)) (dl_cons (de_attr (de_local (by kernel_rfl)) (A_number hK)) dl_nil)))))
  (dss_cons (ds_attr (de_attr (de_local (by kernel_rfl)) (A_number hK)) (de_local (by kernel_rfl)) (S_parent hK))
  (dss_cons (ds_attr (de_list (dl_cons (de_local (by kernel_rfl)) dl_nil)) (de_local (by kernel_rfl)) (S_children hK))
  (dss_cons (ds_ret (de_attr (de_local (by kernel_rfl)) (A_number hK)))
  dss_nil))))))))
theorem f_combined {D : Wd} (hK : D.K = K D.w.params) : FnS D 8 (.ref 253) m_combined := fn_of [("tree" : Str), ("number" : Str), ("axis" : Str)] (K_combined hK) (C_combined hK) (fun s us hin h => by obtain ⟨a, b, c, rfl⟩ := len3 h; exact .of_eq rfl) (by decide +kernel) (d_combined hK) (by decide +kernel) (by decide +kernel) (by kernel_rfl) (by kernel_rfl) (by kernel_rfl)
noncomputable def b_joined : SM := (sSeq (sAssign (eSub (eAttr (eName "tree") 164 "windows") (eName "number")) (aName "here"))
  (sSeq (sAssign (eList lNil) (aName "found"))
  (sSeq (sForIn (eAttr (eName "here") 93 "children") (aName "child") (sSeq (sAssign (eSub (eAttr (eName "tree") 164 "windows") (eName "child")) (aName "own"))
  (sSeq (sIf (tCmp .Eq (eAttr (eName "own") 93 "sort") (eAttr (eName "here") 93 "sort")) (sSeq (sExpr (eBM (eName "found") isList (lCons (eAttr (eName "own") 93 "children") lNil) mExtend))
  (sSeq (sExpr (eBM (eAttr (eName "tree") 164 "windows") isDict (lCons (eName "child") lNil) mDPop))
  sNil)) (sSeq (sExpr (eBM (eName "found") isList (lCons (eName "child") lNil) mAppend))
  sNil))
  sNil)) 200)
  (sSeq (sForIn (eName "found") (aName "child") (sSeq (sAssign (eName "number") (aAttr (eSub (eAttr (eName "tree") 164 "windows") (eName "child")) 93 "parent"))
  sNil) 200)
  (sSeq (sAssign (eName "found") (aAttr (eName "here") 93 "children"))
  sNil)))))
noncomputable def m_joined : FM := runBody b_joined [("tree" : Str), ("number" : Str)]
theorem d_joined {D : Wd} (hK : D.K = K D.w.params) : DSS D 38 1 sc_joined (fnBody st_joined) b_joined := (dss_cons (ds_local (de_sub (de_attr (de_local (by kernel_rfl)) (A_windows hK)) (de_local (by kernel_rfl))) (by kernel_rfl))
  (dss_cons (ds_local (de_list dl_nil) (by kernel_rfl))
  (dss_cons (ds_for 200 (de_attr (de_local (by kernel_rfl)) (A_children hK)) (da_local (by kernel_rfl)) (dss_cons (ds_local (de_sub (de_attr (de_local (by kernel_rfl)) (A_windows hK)) (de_local (by kernel_rfl))) (by kernel_rfl))
  (dss_cons (ds_if (dt_cmp (de_attr (de_local (by kernel_rfl)) (A_sort hK)) (de_attr (de_local (by kernel_rfl)) (A_sort hK))) (dss_cons (ds_expr (de_bm (de_local (by kernel_rfl)) bm_extend (dl_cons (de_attr (de_local (by kernel_rfl)) (A_children hK)) dl_nil)))
  (dss_cons (ds_expr (de_bm (de_attr (de_local (by kernel_rfl)) (A_windows hK)) bm_dpop (dl_cons (de_local (by kernel_rfl)) dl_nil)))
  dss_nil)) (dss_cons (ds_expr (de_bm (de_local (by kernel_rfl)) bm_append (dl_cons (de_local (by kernel_rfl)) dl_nil)))
  dss_nil))
  dss_nil)))
  (dss_cons (ds_for 200 (de_local (by kernel_rfl)) (da_local (by kernel_rfl)) (dss_cons (ds_attr (de_local (by kernel_rfl)) (de_sub (de_attr (de_local (by kernel_rfl)) (A_windows hK)) (de_local (by kernel_rfl))) (S_parent hK))
  dss_nil))
  (dss_cons (ds_attr (de_local (by kernel_rfl)) (de_local (by kernel_rfl)) (S_children hK))
  dss_nil)))))
theorem f_joined {D : Wd} (hK : D.K = K D.w.params) : FnS D 2 (.ref 267) m_joined := fn_of [("tree" : Str), ("number" : Str)] (K_joined hK) (C_joined hK) (fun s us hin h => by obtain ⟨a, b, rfl⟩ := len2 h; exact .of_eq rfl) (by decide +kernel) (d_joined hK) (by decide +kernel) (by decide +kernel) (by kernel_rfl) (by kernel_rfl) (by kernel_rfl)
noncomputable def b_lifted : SM := (sSeq (sAssign (eSub (eAttr (eName "tree") 164 "windows") (eName "number")) (aName "here"))
  (sSeq (sIf (tCmp .NotEq (eCall (lCons (eAttr (eName "here") 93 "children") lNil) mLen) (eInt 1)) (sSeq sRet0
  sNil) sNil)
  (sSeq (sAssign (eSub (eAttr (eName "here") 93 "children") (eInt 0)) (aName "left"))
  (sSeq (sExpr (eCall (lCons (eName "tree") (lCons (eName "number") (lCons (eName "left") lNil))) m_replace_child))
  (sSeq (sAssign (eList lNil) (aAttr (eName "here") 93 "children"))
  (sSeq (sExpr (eBM (eAttr (eName "tree") 164 "windows") isDict (lCons (eName "number") lNil) mDPop))
  (sSeq (sIf (tCmp .NotEq (eAttr (eSub (eAttr (eName "tree") 164 "windows") (eName "left")) 93 "parent") (eInt 0)) (sSeq (sExpr (eCall (lCons (eName "tree") (lCons (eAttr (eSub (eAttr (eName "tree") 164 "windows") (eName "left")) 93 "parent") lNil)) m_joined))
  sNil) sNil)
  sNil)))))))
noncomputable def m_lifted : FM := runBody b_lifted [("tree" : Str), ("number" : Str)]
theorem d_lifted {D : Wd} (hK : D.K = K D.w.params) : DSS D 38 3 sc_lifted (fnBody st_lifted) b_lifted := (dss_cons (ds_local (de_sub (de_attr (de_local (by kernel_rfl)) (A_windows hK)) (de_local (by kernel_rfl))) (by kernel_rfl))
  (dss_cons (ds_if (dt_cmp (de_bf bf_len (dl_cons (de_attr (de_local (by kernel_rfl)) (A_children hK)) dl_nil) (B_len hK) (by kernel_rfl) (by kernel_rfl)) de_int) (dss_cons ds_ret0
  dss_nil) dss_nil)
  (dss_cons (ds_local (de_sub (de_attr (de_local (by kernel_rfl)) (A_children hK)) de_int) (by kernel_rfl))
  (dss_cons (ds_expr (de_call (N_replace_child hK) (Kp_replace_child hK) (f_replace_child hK) (by decide) (by kernel_rfl) (dl_cons (de_local (by kernel_rfl)) (dl_cons (de_local (by kernel_rfl)) (dl_cons (de_local (by kernel_rfl)) dl_nil)))))
  (dss_cons (ds_attr (de_list dl_nil) (de_local (by kernel_rfl)) (S_children hK))
  (dss_cons (ds_expr (de_bm (de_attr (de_local (by kernel_rfl)) (A_windows hK)) bm_dpop (dl_cons (de_local (by kernel_rfl)) dl_nil)))
  (dss_cons (ds_if (dt_cmp (de_attr (de_sub (de_attr (de_local (by kernel_rfl)) (A_windows hK)) (de_local (by kernel_rfl))) (A_parent hK)) de_int) (dss_cons (ds_expr (de_call (N_joined hK) (Kp_joined hK) (f_joined hK) (by decide) (by kernel_rfl) (dl_cons (de_local (by kernel_rfl)) (dl_cons (de_attr (de_sub (de_attr (de_local (by kernel_rfl)) (A_windows hK)) (de_local (by kernel_rfl))) (A_parent hK)) dl_nil))))
  dss_nil) dss_nil)
  dss_nil)))))))
theorem f_lifted {D : Wd} (hK : D.K = K D.w.params) : FnS D 4 (.ref 274) m_lifted := fn_of [("tree" : Str), ("number" : Str)] (K_lifted hK) (C_lifted hK) (fun s us hin h => by obtain ⟨a, b, rfl⟩ := len2 h; exact .of_eq rfl) (by decide +kernel) (d_lifted hK) (by decide +kernel) (by decide +kernel) (by kernel_rfl) (by kernel_rfl) (by kernel_rfl)
noncomputable def b_split : SM := (sSeq (sAssign (eCall (lCons (eName "tree") (lCons (eName "number") (lCons (eName "size") (lCons (eName "axis") lNil)))) m_split_parts) (aTup (asCons (aName "old") (asCons (aName "new") asNil))))
  (sSeq (sAssign (eCall (lCons (eName "tree") (lCons (eName "number") (lCons (eName "axis") lNil))) m_combined) (aName "parent"))
  (sSeq (sAssign (eSub (eAttr (eName "tree") 164 "windows") (eSub (eCall (lCons (eName "tree") (lCons (eName "number") lNil)) m_leaves_under) (eInt 0))) (aName "model"))
  (sSeq (sAssign (eMeth (eName "tree") 164 "fresh" (lCons (eInt 0) (lCons (eName "parent") lNil)) m_wt_fresh) (aName "found"))
  (sSeq (sAssign (eTup (lCons (eAttr (eName "model") 93 "width") (lCons (eAttr (eName "model") 93 "height") lNil))) (aTup (asCons (aAttr (eName "found") 93 "width") (asCons (aAttr (eName "found") 93 "height") asNil))))
  (sSeq (sExpr (eMeth (eName "found") 93 "set_size" (lCons (eName "axis") (lCons (eName "new") lNil)) m_wi_set_size))
  (sSeq (sExpr (eMeth (eName "found") 93 "set_size" (lCons (eBin .Sub (eInt 1) (eName "axis")) (lCons (eMeth (eSub (eAttr (eName "tree") 164 "windows") (eName "number")) 93 "size" (lCons (eBin .Sub (eInt 1) (eName "axis")) lNil) m_wi_size) lNil)) m_wi_set_size))
  (sSeq (sExpr (eMeth (eName "found") 93 "show" (lCons (eMeth (eName "model") 93 "shown" lNil m_wi_shown) lNil) m_wi_show))
  (sSeq (sAssign (eCall (lCons (eAttr (eName "model") 93 "earlier") lNil) mList) (aAttr (eName "found") 93 "earlier"))
  (sSeq (sAssign (eAttr (eSub (eAttr (eName "tree") 164 "windows") (eName "parent")) 93 "children") (aName "children"))
  (sSeq (sAssign (eBM (eName "children") isList (lCons (eName "number") lNil) mIndex) (aName "at"))
  (sSeq (sExpr (eBM (eName "children") isList (lCons (eIf (tVal (eName "is_ahead")) (eName "at") (eBin .Add (eName "at") (eInt 1))) (lCons (eAttr (eName "found") 93 "number") lNil)) mInsert))
  (sSeq (sExpr (eCall (lCons (eName "tree") (lCons (eName "number") (lCons (eName "axis") (lCons (eName "old") lNil)))) m_set_tree_size))
  (sSeq (sExpr (eCall (lCons (eName "tree") (lCons (eName "parent") lNil)) m_joined))
  (sSeq (sExpr (eCall (lCons (eName "tree") lNil) m_set_places))
  (sSeq (sRet (eAttr (eName "found") 93 "number"))
  sNil))))))))))))))))
noncomputable def m_split : FM := runBody b_split [("tree" : Str), ("number" : Str), ("size" : Str), ("axis" : Str), ("is_ahead" : Str)]
theorem d_split {D : Wd} (hK : D.K = K D.w.params) : DSS D 38 9 sc_split (fnBody st_split) b_split := (dss_cons (ds_tup (de_call (N_split_parts hK) (Kp_split_parts hK) (f_split_parts hK) (by decide) (by kernel_rfl) (dl_cons (de_local (by kernel_rfl)) (dl_cons (de_local (by kernel_rfl)) (dl_cons (de_local (by kernel_rfl)) (dl_cons (de_local (by kernel_rfl)) dl_nil))))) (das_cons (da_local (by kernel_rfl)) (das_cons (da_local (by kernel_rfl)) das_nil)) (as_len_cons (as_len_cons as_len_nil)) (hw := fun c hc => by show swappedStores _ _ (envX c.cn c.cs c.L c.a c.ccd c.cl) = _; rw [hc]; kernel_rfl))
  (dss_cons (ds_local (de_call (N_combined hK) (Kp_combined hK) (f_combined hK) (by decide) (by kernel_rfl) (dl_cons (de_local (by kernel_rfl)) (dl_cons (de_local (by kernel_rfl)) (dl_cons (de_local (by kernel_rfl)) dl_nil)))) (by kernel_rfl))
  (dss_cons (ds_local (de_sub (de_attr (de_local (by kernel_rfl)) (A_windows hK)) (de_sub (de_call (N_leaves_under hK) (Kp_leaves_under hK) (f_leaves_under hK) (by decide) (by kernel_rfl) (dl_cons (de_local (by kernel_rfl)) (dl_cons (de_local (by kernel_rfl)) dl_nil))) de_int)) (by kernel_rfl))
  (dss_cons (ds_local (de_meth (de_local (by kernel_rfl)) (M_wt_fresh hK) (f_wt_fresh hK) (by decide) (dl_cons (de_globInt (G_LEAF hK) (by kernel_rfl)) (dl_cons (de_local (by kernel_rfl)) dl_nil))) (by kernel_rfl))
  (dss_cons (ds_tup (de_tup (dl_cons (de_attr (de_local (by kernel_rfl)) (A_width hK)) (dl_cons (de_attr (de_local (by kernel_rfl)) (A_height hK)) dl_nil))) (das_cons (da_attr (de_local (by kernel_rfl)) (S_width hK)) (das_cons (da_attr (de_local (by kernel_rfl)) (S_height hK)) das_nil)) (as_len_cons (as_len_cons as_len_nil)) (hw := fun c hc => by show swappedStores _ _ (envX c.cn c.cs c.L c.a c.ccd c.cl) = _; rw [hc]; kernel_rfl))
  (dss_cons (ds_expr (de_meth (de_local (by kernel_rfl)) (M_wi_set_size hK) (f_wi_set_size hK) (by decide) (dl_cons (de_local (by kernel_rfl)) (dl_cons (de_local (by kernel_rfl)) dl_nil))))
  (dss_cons (ds_expr (de_meth (de_local (by kernel_rfl)) (M_wi_set_size hK) (f_wi_set_size hK) (by decide) (dl_cons (de_bin de_int (de_local (by kernel_rfl))) (dl_cons (de_meth (de_sub (de_attr (de_local (by kernel_rfl)) (A_windows hK)) (de_local (by kernel_rfl))) (M_wi_size hK) (f_wi_size hK) (by decide) (dl_cons (de_bin de_int (de_local (by kernel_rfl))) dl_nil)) dl_nil))))
  (dss_cons (ds_expr (de_meth (de_local (by kernel_rfl)) (M_wi_show hK) (f_wi_show hK) (by decide) (dl_cons (de_meth0 (de_local (by kernel_rfl)) (M_wi_shown hK) (f_wi_shown hK) (by decide)) dl_nil)))
  (dss_cons (ds_attr (de_bt bf_list (dl_cons (de_attr (de_local (by kernel_rfl)) (A_earlier hK)) dl_nil) (B_list hK) (by kernel_rfl) (by kernel_rfl)) (de_local (by kernel_rfl)) (S_earlier hK))
  (dss_cons (ds_local (de_attr (de_sub (de_attr (de_local (by kernel_rfl)) (A_windows hK)) (de_local (by kernel_rfl))) (A_children hK)) (by kernel_rfl))
  (dss_cons (ds_local (de_bm (de_local (by kernel_rfl)) bm_index (dl_cons (de_local (by kernel_rfl)) dl_nil)) (by kernel_rfl))
  (dss_cons (ds_expr (de_bm (de_local (by kernel_rfl)) bm_insert (dl_cons (de_if (dt_val (de_local (by kernel_rfl))) (de_local (by kernel_rfl)) (de_bin (de_local (by kernel_rfl)) de_int)) (dl_cons (de_attr (de_local (by kernel_rfl)) (A_number hK)) dl_nil))))
  (dss_cons (ds_expr (de_call (N_set_tree_size hK) (Kp_set_tree_size hK) (f_set_tree_size hK) (by decide) (by kernel_rfl) (dl_cons (de_local (by kernel_rfl)) (dl_cons (de_local (by kernel_rfl)) (dl_cons (de_local (by kernel_rfl)) (dl_cons (de_local (by kernel_rfl)) dl_nil))))))
  (dss_cons (ds_expr (de_call (N_joined hK) (Kp_joined hK) (f_joined hK) (by decide) (by kernel_rfl) (dl_cons (de_local (by kernel_rfl)) (dl_cons (de_local (by kernel_rfl)) dl_nil))))
  (dss_cons (ds_expr (de_call (N_set_places hK) (Kp_set_places hK) (f_set_places hK) (by decide) (by kernel_rfl) (dl_cons (de_local (by kernel_rfl)) dl_nil)))
  (dss_cons (ds_ret (de_attr (de_local (by kernel_rfl)) (A_number hK)))
  dss_nil))))))))))))))))
theorem f_split {D : Wd} (hK : D.K = K D.w.params) : FnS D 10 (.ref 260) m_split := fn_of [("tree" : Str), ("number" : Str), ("size" : Str), ("axis" : Str), ("is_ahead" : Str)] (K_split hK) (C_split hK) (fun s us hin h => by obtain ⟨a, b, c, d, e, rfl⟩ := len5 h; exact .of_eq rfl) (by decide +kernel) (d_split hK) (by decide +kernel) (by decide +kernel) (by kernel_rfl) (by kernel_rfl) (by kernel_rfl)
noncomputable def bx_split : SM := sAssignX (xCall (lCons (eName "tree") (lCons (eName "number") (lCons (eName "size") (lCons (eName "axis") lNil)))) x_split_parts)
theorem dx_split {D : Wd} (hK : D.K = K D.w.params) : DSS D 38 9 sc_split (fnBody st_split) bx_split := dss_exc (ds_tupX (dx_call (N_split_parts hK) (Kp_split_parts hK) (fx_split_parts hK) (by decide) (by kernel_rfl) (dl_cons (de_local (by kernel_rfl)) (dl_cons (de_local (by kernel_rfl)) (dl_cons (de_local (by kernel_rfl)) (dl_cons (de_local (by kernel_rfl)) dl_nil))))) (hw := fun c hc => by show swappedStores _ _ (envX c.cn c.cs c.L c.a c.ccd c.cl) = _; rw [hc]; kernel_rfl)) (fun ρ μ r e => by unfold bx_split sAssignX at e; obtain ⟨μ1, _, rfl⟩ := Option.map_eq_some_iff.mp e; rfl)
noncomputable def x_split : XM := raiseBody bx_split [("tree" : Str), ("number" : Str), ("size" : Str), ("axis" : Str), ("is_ahead" : Str)]
theorem fx_split {D : Wd} (hK : D.K = K D.w.params) : FnX D 38 10 (.ref 260) x_split := fnx_of [("tree" : Str), ("number" : Str), ("size" : Str), ("axis" : Str), ("is_ahead" : Str)] (K_split hK) (C_split hK) (fun s us hin h => by obtain ⟨a, b, c, d, e, rfl⟩ := len5 h; exact .of_eq rfl) (by decide +kernel) (dx_split hK) (by decide +kernel) (by decide +kernel) (by kernel_rfl) (by kernel_rfl) (by kernel_rfl)
noncomputable def b_delete_window : SM := (sSeq (sAssign (eMeth (eName "tree") 164 "window" (lCons (eName "number") lNil) m_wt_window) (aName "here"))
  (sSeq (sIf (tCmp .Eq (eAttr (eName "here") 93 "parent") (eInt 0)) (sSeq sRaise
  sNil) sNil)
  (sSeq (sAssign (eSub (eAttr (eName "tree") 164 "windows") (eAttr (eName "here") 93 "parent")) (aName "parent"))
  (sSeq (sAssign (eTup (lCons (eCall (lCons (eAttr (eName "parent") 93 "sort") lNil) m_along) (lCons (eBM (eAttr (eName "parent") 93 "children") isList (lCons (eName "number") lNil) mIndex) lNil))) (aSwap "axis" "at"))
  (sSeq (sAssign (eIf (tCmp .Gt (eName "at") (eInt 0)) (eSub (eAttr (eName "parent") 93 "children") (eBin .Sub (eName "at") (eInt 1))) (eSub (eAttr (eName "parent") 93 "children") (eInt 1))) (aName "other"))
  (sSeq (sAssign (eBin .Add (eMeth (eSub (eAttr (eName "tree") 164 "windows") (eName "other")) 93 "size" (lCons (eName "axis") lNil) m_wi_size) (eMeth (eName "here") 93 "size" (lCons (eName "axis") lNil) m_wi_size)) (aName "size"))
  (sSeq (sAssign (eCmp .In (eAttr (eName "tree") 164 "selected") (eCall (lCons (eName "tree") (lCons (eName "number") lNil)) m_leaves_under)) (aName "is_gone"))
  (sSeq (sExpr (eBM (eAttr (eName "parent") 93 "children") isList (lCons (eName "number") lNil) mRemove))
  (sSeq (sExpr (eCall (lCons (eName "tree") (lCons (eName "number") lNil)) m_forget))
  (sSeq (sExpr (eCall (lCons (eName "tree") (lCons (eName "other") (lCons (eName "axis") (lCons (eName "size") lNil)))) m_set_tree_size))
  (sSeq (sExpr (eCall (lCons (eName "tree") (lCons (eAttr (eName "parent") 93 "number") lNil)) m_lifted))
  (sSeq (sExpr (eCall (lCons (eName "tree") lNil) m_set_places))
  (sSeq (sIf (tVal (eName "is_gone")) sBad sNil)
  sNil)))))))))))))
noncomputable def m_delete_window : FM := runBody b_delete_window [("tree" : Str), ("number" : Str)]
theorem d_delete_window {D : Wd} (hK : D.K = K D.w.params) : DSS D 38 5 sc_delete_window (fnBody st_delete_window) b_delete_window := (dss_cons (ds_local (de_meth (de_local (by kernel_rfl)) (M_wt_window hK) (f_wt_window hK) (by decide) (dl_cons (de_local (by kernel_rfl)) dl_nil)) (by kernel_rfl))
  (dss_cons (ds_if (dt_cmp (de_attr (de_local (by kernel_rfl)) (A_parent hK)) de_int) (dss_cons (ds_raise (sigOk hK) (by kernel_rfl) (by decide))
  dss_nil) dss_nil)
  (dss_cons (ds_local (de_sub (de_attr (de_local (by kernel_rfl)) (A_windows hK)) (de_attr (de_local (by kernel_rfl)) (A_parent hK))) (by kernel_rfl))
  (dss_cons (ds_swap (de_tup (dl_cons (de_call (N_along hK) (Kp_along hK) (f_along hK) (by decide) (by kernel_rfl) (dl_cons (de_attr (de_local (by kernel_rfl)) (A_sort hK)) dl_nil)) (dl_cons (de_bm (de_attr (de_local (by kernel_rfl)) (A_children hK)) bm_index (dl_cons (de_local (by kernel_rfl)) dl_nil)) dl_nil))) (by kernel_rfl) (by kernel_rfl) (fun c hc => by show swappedStores _ _ (envX c.cn c.cs c.L c.a c.ccd c.cl) = _; rw [hc]; kernel_rfl))
  (dss_cons (ds_local (de_if (dt_cmp (de_local (by kernel_rfl)) de_int) (de_sub (de_attr (de_local (by kernel_rfl)) (A_children hK)) (de_bin (de_local (by kernel_rfl)) de_int)) (de_sub (de_attr (de_local (by kernel_rfl)) (A_children hK)) de_int)) (by kernel_rfl))
  (dss_cons (ds_local (de_bin (de_meth (de_sub (de_attr (de_local (by kernel_rfl)) (A_windows hK)) (de_local (by kernel_rfl))) (M_wi_size hK) (f_wi_size hK) (by decide) (dl_cons (de_local (by kernel_rfl)) dl_nil)) (de_meth (de_local (by kernel_rfl)) (M_wi_size hK) (f_wi_size hK) (by decide) (dl_cons (de_local (by kernel_rfl)) dl_nil))) (by kernel_rfl))
  (dss_cons (ds_local (de_cmp (de_attr (de_local (by kernel_rfl)) (A_selected hK)) (de_call (N_leaves_under hK) (Kp_leaves_under hK) (f_leaves_under hK) (by decide) (by kernel_rfl) (dl_cons (de_local (by kernel_rfl)) (dl_cons (de_local (by kernel_rfl)) dl_nil)))) (by kernel_rfl))
  (dss_cons (ds_expr (de_bm (de_attr (de_local (by kernel_rfl)) (A_children hK)) bm_remove (dl_cons (de_local (by kernel_rfl)) dl_nil)))
  (dss_cons (ds_expr (de_call (N_forget hK) (Kp_forget hK) (f_forget hK) (by decide) (by kernel_rfl) (dl_cons (de_local (by kernel_rfl)) (dl_cons (de_local (by kernel_rfl)) dl_nil))))
  (dss_cons (ds_expr (de_call (N_set_tree_size hK) (Kp_set_tree_size hK) (f_set_tree_size hK) (by decide) (by kernel_rfl) (dl_cons (de_local (by kernel_rfl)) (dl_cons (de_local (by kernel_rfl)) (dl_cons (de_local (by kernel_rfl)) (dl_cons (de_local (by kernel_rfl)) dl_nil))))))
  (dss_cons (ds_expr (de_call (N_lifted hK) (Kp_lifted hK) (f_lifted hK) (by decide) (by kernel_rfl) (dl_cons (de_local (by kernel_rfl)) (dl_cons (de_attr (de_local (by kernel_rfl)) (A_number hK)) dl_nil))))
  (dss_cons (ds_expr (de_call (N_set_places hK) (Kp_set_places hK) (f_set_places hK) (by decide) (by kernel_rfl) (dl_cons (de_local (by kernel_rfl)) dl_nil)))
  (dss_cons (ds_if (dt_val (de_local (by kernel_rfl))) dss_bad dss_nil)
  dss_nil)))))))))))))
theorem f_delete_window {D : Wd} (hK : D.K = K D.w.params) : FnS D 6 (.ref 288) m_delete_window := fn_of [("tree" : Str), ("number" : Str)] (K_delete_window hK) (C_delete_window hK) (fun s us hin h => by obtain ⟨a, b, rfl⟩ := len2 h; exact .of_eq rfl) (by decide +kernel) (d_delete_window hK) (by decide +kernel) (by decide +kernel) (by kernel_rfl) (by kernel_rfl) (by kernel_rfl)
noncomputable def x_delete_window : XM := raiseBody b_delete_window [("tree" : Str), ("number" : Str)]
theorem fx_delete_window {D : Wd} (hK : D.K = K D.w.params) : FnX D 38 6 (.ref 288) x_delete_window := fnx_of [("tree" : Str), ("number" : Str)] (K_delete_window hK) (C_delete_window hK) (fun s us hin h => by obtain ⟨a, b, rfl⟩ := len2 h; exact .of_eq rfl) (by decide +kernel) (d_delete_window hK) (by decide +kernel) (by decide +kernel) (by kernel_rfl) (by kernel_rfl) (by kernel_rfl)
noncomputable def b_law_draw : SM := (sSeq (sAssign (eBin .Add (eSub (eName "deck") (eInt 1)) (eInt 1)) (aSub (eName "deck") (eInt 1)))
  (sSeq (sIf (tCmp .LtE (eSub (eName "deck") (eInt 1)) (eCall (lCons (eSub (eName "deck") (eInt 0)) lNil) mLen)) (sSeq (sRet (eBin .Mod (eSub (eSub (eName "deck") (eInt 0)) (eBin .Sub (eSub (eName "deck") (eInt 1)) (eInt 1))) (eName "many")))
  sNil) sNil)
  (sSeq (sRet (eBin .Mod (eBin .FloorDiv (eBin .Add (eBin .Add (eBin .Mult (eBin .Mult (eSub (eName "deck") (eInt 1)) (eSub (eName "deck") (eInt 1))) (eInt 37)) (eBin .Mult (eInt 23) (eSub (eName "deck") (eInt 1)))) (eBin .Mult (eInt 7) (eCall (lCons (eSub (eName "deck") (eInt 0)) lNil) mLen))) (eInt 5)) (eName "many")))
  sNil)))
noncomputable def m_law_draw : FM := runBody b_law_draw [("deck" : Str), ("many" : Str)]
theorem d_law_draw {D : Wd} (hK : D.K = K D.w.params) : DSS D 38 1 sc_law_draw (fnBody st_law_draw) b_law_draw := (dss_cons (ds_sub (de_bin (de_sub (de_local (by kernel_rfl)) de_int) de_int) (de_local (by kernel_rfl)) de_int)
  (dss_cons (ds_if (dt_cmp (de_sub (de_local (by kernel_rfl)) de_int) (de_bf bf_len (dl_cons (de_sub (de_local (by kernel_rfl)) de_int) dl_nil) (B_len hK) (by kernel_rfl) (by kernel_rfl))) (dss_cons (ds_ret (de_bin (de_sub (de_sub (de_local (by kernel_rfl)) de_int) (de_bin (de_sub (de_local (by kernel_rfl)) de_int) de_int)) (de_local (by kernel_rfl))))
  dss_nil) dss_nil)
  (dss_cons (ds_ret (de_bin (de_bin (de_bin (de_bin (de_bin (de_bin (de_sub (de_local (by kernel_rfl)) de_int) (de_sub (de_local (by kernel_rfl)) de_int)) de_int) (de_bin de_int (de_sub (de_local (by kernel_rfl)) de_int))) (de_bin de_int (de_bf bf_len (dl_cons (de_sub (de_local (by kernel_rfl)) de_int) dl_nil) (B_len hK) (by kernel_rfl) (by kernel_rfl)))) de_int) (de_local (by kernel_rfl))))
  dss_nil)))
theorem f_law_draw {D : Wd} (hK : D.K = K D.w.params) : FnS D 2 (.ref 295) m_law_draw := fn_of [("deck" : Str), ("many" : Str)] (K_law_draw hK) (C_law_draw hK) (fun s us hin h => by obtain ⟨a, b, rfl⟩ := len2 h; exact .of_eq rfl) (by decide +kernel) (d_law_draw hK) (by decide +kernel) (by decide +kernel) (by kernel_rfl) (by kernel_rfl) (by kernel_rfl)
noncomputable def b_law_places : SM := (sSeq (sAssign eDict0 (aName "found"))
  (sSeq (sForIn (eCall (lCons (eName "tree") lNil) m_leaves) (aName "number") (sSeq (sAssign (eSub (eAttr (eName "tree") 164 "windows") (eName "number")) (aName "shown_window"))
  (sSeq (sAssign (eTup (lCons (eAttr (eName "shown_window") 93 "left") (lCons (eAttr (eName "shown_window") 93 "top") (lCons (eAttr (eName "shown_window") 93 "width") (lCons (eAttr (eName "shown_window") 93 "height") (lCons (eMeth (eName "shown_window") 93 "shown" lNil m_wi_shown) lNil)))))) (aSub (eName "found") (eName "number")))
  sNil)) 200)
  (sSeq (sRet (eName "found"))
  sNil)))
noncomputable def m_law_places : FM := runBody b_law_places [("tree" : Str)]
theorem d_law_places {D : Wd} (hK : D.K = K D.w.params) : DSS D 38 5 sc_law_places (fnBody st_law_places) b_law_places := (dss_cons (ds_local de_dict0 (by kernel_rfl))
  (dss_cons (ds_for 200 (de_call (N_leaves hK) (Kp_leaves hK) (f_leaves hK) (by decide) (by kernel_rfl) (dl_cons (de_local (by kernel_rfl)) dl_nil)) (da_local (by kernel_rfl)) (dss_cons (ds_local (de_sub (de_attr (de_local (by kernel_rfl)) (A_windows hK)) (de_local (by kernel_rfl))) (by kernel_rfl))
  (dss_cons (ds_sub (de_tup (dl_cons (de_attr (de_local (by kernel_rfl)) (A_left hK)) (dl_cons (de_attr (de_local (by kernel_rfl)) (A_top hK)) (dl_cons (de_attr (de_local (by kernel_rfl)) (A_width hK)) (dl_cons (de_attr (de_local (by kernel_rfl)) (A_height hK)) (dl_cons (de_meth0 (de_local (by kernel_rfl)) (M_wi_shown hK) (f_wi_shown hK) (by decide)) dl_nil)))))) (de_local (by kernel_rfl)) (de_local (by kernel_rfl)))
  dss_nil)))
  (dss_cons (ds_ret (de_local (by kernel_rfl)))
  dss_nil)))
theorem f_law_places {D : Wd} (hK : D.K = K D.w.params) : FnS D 6 (.ref 302) m_law_places := fn_of [("tree" : Str)] (K_law_places hK) (C_law_places hK) (fun s us hin h => by obtain ⟨a, rfl⟩ := len1 h; exact .of_eq rfl) (by decide +kernel) (d_law_places hK) (by decide +kernel) (by decide +kernel) (by kernel_rfl) (by kernel_rfl) (by kernel_rfl)
noncomputable def b_law_halved : SM := (sSeq (sIf (tCmp .Is (eName "part") eNone) (sSeq (sRet (eTup (lCons (eBin .Sub (eName "entire") (eBin .FloorDiv (eName "entire") (eInt 2))) (lCons (eBin .FloorDiv (eName "entire") (eInt 2)) lNil))))
  sNil) sNil)
  (sSeq (sRet (eIf (tCmp .Gt (eName "part") (eInt 0)) (eTup (lCons (eName "part") (lCons (eBin .Sub (eName "entire") (eName "part")) lNil))) (eTup (lCons (eBin .Add (eName "entire") (eName "part")) (lCons (eBin .Sub (eInt 0) (eName "part")) lNil)))))
  sNil))
noncomputable def m_law_halved : FM := runBody b_law_halved [("entire" : Str), ("part" : Str)]
theorem d_law_halved {D : Wd} (hK : D.K = K D.w.params) : DSS D 38 1 sc_law_halved (fnBody st_law_halved) b_law_halved := (dss_cons (ds_if (dt_cmp (de_local (by kernel_rfl)) de_none) (dss_cons (ds_ret (de_tup (dl_cons (de_bin (de_local (by kernel_rfl)) (de_bin (de_local (by kernel_rfl)) de_int)) (dl_cons (de_bin (de_local (by kernel_rfl)) de_int) dl_nil))))
  dss_nil) dss_nil)
  (dss_cons (ds_ret (de_if (dt_cmp (de_local (by kernel_rfl)) de_int) (de_tup (dl_cons (de_local (by kernel_rfl)) (dl_cons (de_bin (de_local (by kernel_rfl)) (de_local (by kernel_rfl))) dl_nil))) (de_tup (dl_cons (de_bin (de_local (by kernel_rfl)) (de_local (by kernel_rfl))) (dl_cons (de_bin de_int (de_local (by kernel_rfl))) dl_nil)))))
  dss_nil))
theorem f_law_halved {D : Wd} (hK : D.K = K D.w.params) : FnS D 2 (.ref 309) m_law_halved := fn_of [("entire" : Str), ("part" : Str)] (K_law_halved hK) (C_law_halved hK) (fun s us hin h => by obtain ⟨a, b, rfl⟩ := len2 h; exact .of_eq rfl) (by decide +kernel) (d_law_halved hK) (by decide +kernel) (by decide +kernel) (by kernel_rfl) (by kernel_rfl) (by kernel_rfl)
noncomputable def ifTest : Stmt → PySem.Expr
  | .If t _ _ _ => t
  | _ => .Constant .none 0 default
noncomputable def ifBody : Stmt → List Stmt
  | .If _ b _ _ => b
  | _ => []
noncomputable def forBody : Stmt → List Stmt
  | .For _ _ b _ _ => b
  | _ => []
noncomputable def unNot : PySem.Expr → PySem.Expr
  | .UnaryOp _ e _ => e
  | e => e
noncomputable def orFst : PySem.Expr → PySem.Expr
  | .BoolOp _ (e :: _) _ => e
  | e => e
noncomputable def lamSc : PySem.Expr → Scope
  | .Call _ [.Lambda _ _ sc _] _ _ => sc
  | _ => default
noncomputable def lapStmts : List Stmt := forBody (item (fnBody st_law) 3)
noncomputable def lamScope1 : Scope := lamSc (unNot (orFst (ifTest (item (ifBody (item lapStmts 8)) 0))))
noncomputable def lamScope2 : Scope := lamSc (unNot (ifTest (item (fnBody st_law) 2)))
noncomputable def lapBody : SM := (sSeq (sAssign (eCall (lCons (eName "tree") lNil) m_leaves) (aName "found"))
  (sSeq (sAssign (eTup (lCons (eSub (eName "found") (eCall (lCons (eName "deck") (lCons (eCall (lCons (eName "found") lNil) mLen) lNil)) m_law_draw)) (lCons (eSub (eList (lCons (eInt 1) (lCons (eInt 0) lNil))) (eCall (lCons (eName "deck") (lCons (eInt 2) lNil)) m_law_draw)) lNil))) (aTup (asCons (aName "number") (asCons (aName "axis") asNil))))
  (sSeq (sAssign (eTup (lCons (eBin .Sub (eCall (lCons (eName "deck") (lCons (eInt 33) lNil)) m_law_draw) (eInt 16)) (lCons (eCmp .Eq (eCall (lCons (eName "deck") (lCons (eInt 2) lNil)) m_law_draw) (eInt 1)) lNil))) (aTup (asCons (aName "part") (asCons (aName "is_ahead") asNil))))
  (sSeq (sAssign (eIf (tCmp .Gt (eName "part") (eInt 8)) eNone (eName "part")) (aName "part"))
  (sSeq (sAssign (eTup (lCons (eSub (eAttr (eName "tree") 164 "windows") (eName "number")) (lCons (eCall (lCons (eName "tree") lNil) m_law_places) (lCons (eSub (eList (lCons (eInt 3) (lCons (eInt 2) lNil))) (eName "axis")) lNil)))) (aTup (asCons (aName "shown_window") (asCons (aName "ahead") (asCons (aName "least") asNil)))))
  (sSeq (sExpr (eMeth (eName "shown_window") 93 "show" (lCons (eTup (lCons (eBin .Add (eInt 5) (eName "lap")) (lCons (eInt 1) (lCons (eBin .Add (eInt 3) (eName "lap")) (lCons (eInt 0) lNil))))) lNil) m_wi_show))
  (sSeq (sAssign (eCall (lCons (eName "tree") lNil) m_law_places) (aName "ahead"))
  (sSeq (sAssign (eCall (lCons (eMeth (eName "shown_window") 93 "size" (lCons (eName "axis") lNil) m_wi_size) (lCons (eName "part") lNil)) m_law_halved) (aTup (asCons (aName "old") (asCons (aName "new") asNil))))
  (sSeq (sIf (tOr (tCmp .Lt (eName "old") (eName "least")) (tCmp .Lt (eName "new") (eName "least"))) (sSeq (sIf (tOr (tNot (tRef (lamScope1) (xCall (lCons (eName "tree") (lCons (eName "number") (lCons (eName "part") (lCons (eName "axis") (lCons (eName "is_ahead") lNil))))) x_split))) (tCmp .NotEq (eCall (lCons (eName "tree") lNil) m_law_places) (eName "ahead"))) (sSeq (sRet (eBool false))
  sNil) sNil)
  (sSeq sCont
  sNil)) sNil)
  (sSeq (sAssign (eCall (lCons (eName "tree") (lCons (eName "number") (lCons (eName "part") (lCons (eName "axis") (lCons (eName "is_ahead") lNil))))) m_split) (aName "newest_one"))
  (sSeq (sAssign (eSub (eAttr (eName "tree") 164 "windows") (eName "newest_one")) (aName "fresh"))
  (sSeq (sIf (tCmp .NotEq (eList (lCons (eMeth (eName "shown_window") 93 "size" (lCons (eName "axis") lNil) m_wi_size) (lCons (eMeth (eName "fresh") 93 "size" (lCons (eName "axis") lNil) m_wi_size) (lCons (eMeth (eName "fresh") 93 "size" (lCons (eBin .Sub (eInt 1) (eName "axis")) lNil) m_wi_size) lNil)))) (eList (lCons (eName "old") (lCons (eName "new") (lCons (eMeth (eName "shown_window") 93 "size" (lCons (eBin .Sub (eInt 1) (eName "axis")) lNil) m_wi_size) lNil))))) (sSeq (sRet (eBool false))
  sNil) sNil)
  (sSeq (sAssign (eIf (tVal (eName "is_ahead")) (eTup (lCons (eName "fresh") (lCons (eName "shown_window") lNil))) (eTup (lCons (eName "shown_window") (lCons (eName "fresh") lNil)))) (aTup (asCons (aName "first") (asCons (aName "second") asNil))))
  (sSeq (sIf (tOr (tCmp .NotEq (eMeth (eName "first") 93 "place" (lCons (eName "axis") lNil) m_wi_place) (eSub (eSub (eName "ahead") (eName "number")) (eName "axis"))) (tCmp .NotEq (eMeth (eName "second") 93 "place" (lCons (eName "axis") lNil) m_wi_place) (eBin .Add (eMeth (eName "first") 93 "place" (lCons (eName "axis") lNil) m_wi_place) (eMeth (eName "first") 93 "size" (lCons (eName "axis") lNil) m_wi_size)))) (sSeq (sRet (eBool false))
  sNil) sNil)
  (sSeq (sAssign (eCall (lCons (eCall (lCons (eName "tree") lNil) m_law_places) lNil) mDict) (aName "others"))
  (sSeq (sIf (tOr (tCmp .NotEq (eSub (eBM (eName "others") isDict (lCons (eName "newest_one") lNil) mDPop) (eInt 4)) (eMeth (eName "shown_window") 93 "shown" lNil m_wi_shown)) (tCmp .NotEq (eSub (eBM (eName "others") isDict (lCons (eName "number") lNil) mDPop) (eInt 4)) (eMeth (eName "shown_window") 93 "shown" lNil m_wi_shown))) (sSeq (sRet (eBool false))
  sNil) sNil)
  (sSeq (sIf (tCmp .NotEq (eName "others") eSift) (sSeq (sRet (eBool false))
  sNil) sNil)
  (sSeq (sIf (tOr (tNot (tVal (eName "is_ahead"))) (tCmp .Eq (eSub (eAttr (eSub (eAttr (eName "tree") 164 "windows") (eAttr (eName "fresh") 93 "parent")) 93 "children") (eInt 0)) (eName "newest_one"))) (sSeq (sExpr (eCall (lCons (eName "tree") (lCons (eName "newest_one") lNil)) m_delete_window))
  (sSeq (sIf (tCmp .NotEq (eCall (lCons (eName "tree") lNil) m_law_places) (eName "ahead")) (sSeq (sRet (eBool false))
  sNil) sNil)
  (sSeq (sIf (tCmp .Eq (eCall (lCons (eName "deck") (lCons (eInt 2) lNil)) m_law_draw) (eInt 0)) (sSeq (sExpr (eCall (lCons (eName "tree") (lCons (eName "number") (lCons (eName "part") (lCons (eName "axis") (lCons (eName "is_ahead") lNil))))) m_split))
  sNil) sNil)
  sNil))) sNil)
  sNil))))))))))))))))))
set_option maxHeartbeats 0 in
theorem d_lap {D : Wd} (hK : D.K = K D.w.params) : DSS D 38 15 sc_law lapStmts lapBody := (dss_cons (ds_local (de_call (N_leaves hK) (Kp_leaves hK) (f_leaves hK) (by decide) (by kernel_rfl) (dl_cons (de_cell (by kernel_rfl)) dl_nil)) (by kernel_rfl))
  (dss_cons (ds_tup (de_tup (dl_cons (de_sub (de_local (by kernel_rfl)) (de_call (N_law_draw hK) (Kp_law_draw hK) (f_law_draw hK) (by decide) (by kernel_rfl) (dl_cons (de_local (by kernel_rfl)) (dl_cons (de_bf bf_len (dl_cons (de_local (by kernel_rfl)) dl_nil) (B_len hK) (by kernel_rfl) (by kernel_rfl)) dl_nil)))) (dl_cons (de_sub (de_list (dl_cons (de_globInt (G_HEIGHT hK) (by kernel_rfl)) (dl_cons (de_globInt (G_WIDTH hK) (by kernel_rfl)) dl_nil))) (de_call (N_law_draw hK) (Kp_law_draw hK) (f_law_draw hK) (by decide) (by kernel_rfl) (dl_cons (de_local (by kernel_rfl)) (dl_cons de_int dl_nil)))) dl_nil))) (das_cons (da_cell (by kernel_rfl)) (das_cons (da_cell (by kernel_rfl)) das_nil)) (as_len_cons (as_len_cons as_len_nil)) (hw := fun c hc => by show swappedStores _ _ (envX c.cn c.cs c.L c.a c.ccd c.cl) = _; rw [hc]; kernel_rfl))
  (dss_cons (ds_tup (de_tup (dl_cons (de_bin (de_call (N_law_draw hK) (Kp_law_draw hK) (f_law_draw hK) (by decide) (by kernel_rfl) (dl_cons (de_local (by kernel_rfl)) (dl_cons de_int dl_nil))) de_int) (dl_cons (de_cmp (de_call (N_law_draw hK) (Kp_law_draw hK) (f_law_draw hK) (by decide) (by kernel_rfl) (dl_cons (de_local (by kernel_rfl)) (dl_cons de_int dl_nil))) de_int) dl_nil))) (das_cons (da_cell (by kernel_rfl)) (das_cons (da_cell (by kernel_rfl)) das_nil)) (as_len_cons (as_len_cons as_len_nil)) (hw := fun c hc => by show swappedStores _ _ (envX c.cn c.cs c.L c.a c.ccd c.cl) = _; rw [hc]; kernel_rfl))
  (dss_cons (ds_cell (de_if (dt_cmp (de_cell (by kernel_rfl)) de_int) de_none (de_cell (by kernel_rfl))) (by kernel_rfl))
  (dss_cons (ds_tup (de_tup (dl_cons (de_sub (de_attr (de_cell (by kernel_rfl)) (A_windows hK)) (de_cell (by kernel_rfl))) (dl_cons (de_call (N_law_places hK) (Kp_law_places hK) (f_law_places hK) (by decide) (by kernel_rfl) (dl_cons (de_cell (by kernel_rfl)) dl_nil)) (dl_cons (de_sub (de_list (dl_cons de_int (dl_cons de_int dl_nil))) (de_cell (by kernel_rfl))) dl_nil)))) (das_cons (da_local (by kernel_rfl)) (das_cons (da_cell (by kernel_rfl)) (das_cons (da_local (by kernel_rfl)) das_nil))) (as_len_cons (as_len_cons (as_len_cons as_len_nil))) (hw := fun c hc => by show swappedStores _ _ (envX c.cn c.cs c.L c.a c.ccd c.cl) = _; rw [hc]; kernel_rfl))
  (dss_cons (ds_expr (de_meth (de_local (by kernel_rfl)) (M_wi_show hK) (f_wi_show hK) (by decide) (dl_cons (de_tup (dl_cons (de_bin de_int (de_local (by kernel_rfl))) (dl_cons de_int (dl_cons (de_bin de_int (de_local (by kernel_rfl))) (dl_cons de_int dl_nil))))) dl_nil)))
  (dss_cons (ds_cell (de_call (N_law_places hK) (Kp_law_places hK) (f_law_places hK) (by decide) (by kernel_rfl) (dl_cons (de_cell (by kernel_rfl)) dl_nil)) (by kernel_rfl))
  (dss_cons (ds_tup (de_call (N_law_halved hK) (Kp_law_halved hK) (f_law_halved hK) (by decide) (by kernel_rfl) (dl_cons (de_meth (de_local (by kernel_rfl)) (M_wi_size hK) (f_wi_size hK) (by decide) (dl_cons (de_cell (by kernel_rfl)) dl_nil)) (dl_cons (de_cell (by kernel_rfl)) dl_nil))) (das_cons (da_local (by kernel_rfl)) (das_cons (da_local (by kernel_rfl)) das_nil)) (as_len_cons (as_len_cons as_len_nil)) (hw := fun c hc => by show swappedStores _ _ (envX c.cn c.cs c.L c.a c.ccd c.cl) = _; rw [hc]; kernel_rfl))
  (dss_cons (ds_if (dt_or (dt_cmp (de_local (by kernel_rfl)) (de_local (by kernel_rfl))) (dt_cmp (de_local (by kernel_rfl)) (de_local (by kernel_rfl)))) (dss_cons (ds_ifo (dto_or (dto_not (dto_ref (sigOk hK) (refOk hK) (ktsSig hK) (by kernel_rfl) (k' := 11) (dx_call (N_split hK) (Kp_split hK) (fx_split hK) (by decide) (by kernel_rfl) (dl_cons (de_free (by kernel_rfl)) (dl_cons (de_free (by kernel_rfl)) (dl_cons (de_free (by kernel_rfl)) (dl_cons (de_free (by kernel_rfl)) (dl_cons (de_free (by kernel_rfl)) dl_nil)))))) (by decide) (by kernel_rfl) (free_of (by decide +kernel)) (fun _ => rfl) (fun _ _ _ _ _ _ => rfl) (by kernel_rfl) (by kernel_rfl) (by kernel_rfl) (by decide +kernel) (by decide +kernel))) (dt_cmp (de_call (N_law_places hK) (Kp_law_places hK) (f_law_places hK) (by decide) (by kernel_rfl) (dl_cons (de_cell (by kernel_rfl)) dl_nil)) (de_cell (by kernel_rfl)))) (dss_cons (ds_ret de_bool)
  dss_nil) dss_nil)
  (dss_cons ds_cont
  dss_nil)) dss_nil)
  (dss_cons (ds_local (de_call (N_split hK) (Kp_split hK) (f_split hK) (by decide) (by kernel_rfl) (dl_cons (de_cell (by kernel_rfl)) (dl_cons (de_cell (by kernel_rfl)) (dl_cons (de_cell (by kernel_rfl)) (dl_cons (de_cell (by kernel_rfl)) (dl_cons (de_cell (by kernel_rfl)) dl_nil)))))) (by kernel_rfl))
  (dss_cons (ds_local (de_sub (de_attr (de_cell (by kernel_rfl)) (A_windows hK)) (de_local (by kernel_rfl))) (by kernel_rfl))
  (dss_cons (ds_if (dt_cmp (de_list (dl_cons (de_meth (de_local (by kernel_rfl)) (M_wi_size hK) (f_wi_size hK) (by decide) (dl_cons (de_cell (by kernel_rfl)) dl_nil)) (dl_cons (de_meth (de_local (by kernel_rfl)) (M_wi_size hK) (f_wi_size hK) (by decide) (dl_cons (de_cell (by kernel_rfl)) dl_nil)) (dl_cons (de_meth (de_local (by kernel_rfl)) (M_wi_size hK) (f_wi_size hK) (by decide) (dl_cons (de_bin de_int (de_cell (by kernel_rfl))) dl_nil)) dl_nil)))) (de_list (dl_cons (de_local (by kernel_rfl)) (dl_cons (de_local (by kernel_rfl)) (dl_cons (de_meth (de_local (by kernel_rfl)) (M_wi_size hK) (f_wi_size hK) (by decide) (dl_cons (de_bin de_int (de_cell (by kernel_rfl))) dl_nil)) dl_nil))))) (dss_cons (ds_ret de_bool)
  dss_nil) dss_nil)
  (dss_cons (ds_tup (de_if (dt_val (de_cell (by kernel_rfl))) (de_tup (dl_cons (de_local (by kernel_rfl)) (dl_cons (de_local (by kernel_rfl)) dl_nil))) (de_tup (dl_cons (de_local (by kernel_rfl)) (dl_cons (de_local (by kernel_rfl)) dl_nil)))) (das_cons (da_local (by kernel_rfl)) (das_cons (da_local (by kernel_rfl)) das_nil)) (as_len_cons (as_len_cons as_len_nil)) (hw := fun c hc => by show swappedStores _ _ (envX c.cn c.cs c.L c.a c.ccd c.cl) = _; rw [hc]; kernel_rfl))
  (dss_cons (ds_if (dt_or (dt_cmp (de_meth (de_local (by kernel_rfl)) (M_wi_place hK) (f_wi_place hK) (by decide) (dl_cons (de_cell (by kernel_rfl)) dl_nil)) (de_sub (de_sub (de_cell (by kernel_rfl)) (de_cell (by kernel_rfl))) (de_cell (by kernel_rfl)))) (dt_cmp (de_meth (de_local (by kernel_rfl)) (M_wi_place hK) (f_wi_place hK) (by decide) (dl_cons (de_cell (by kernel_rfl)) dl_nil)) (de_bin (de_meth (de_local (by kernel_rfl)) (M_wi_place hK) (f_wi_place hK) (by decide) (dl_cons (de_cell (by kernel_rfl)) dl_nil)) (de_meth (de_local (by kernel_rfl)) (M_wi_size hK) (f_wi_size hK) (by decide) (dl_cons (de_cell (by kernel_rfl)) dl_nil))))) (dss_cons (ds_ret de_bool)
  dss_nil) dss_nil)
  (dss_cons (ds_local (de_bt bf_dict (dl_cons (de_call (N_law_places hK) (Kp_law_places hK) (f_law_places hK) (by decide) (by kernel_rfl) (dl_cons (de_cell (by kernel_rfl)) dl_nil)) dl_nil) (B_dict hK) (by kernel_rfl) (by kernel_rfl)) (by kernel_rfl))
  (dss_cons (ds_if (dt_or (dt_cmp (de_sub (de_bm (de_local (by kernel_rfl)) bm_dpop (dl_cons (de_local (by kernel_rfl)) dl_nil)) de_int) (de_meth0 (de_local (by kernel_rfl)) (M_wi_shown hK) (f_wi_shown hK) (by decide))) (dt_cmp (de_sub (de_bm (de_local (by kernel_rfl)) bm_dpop (dl_cons (de_cell (by kernel_rfl)) dl_nil)) de_int) (de_meth0 (de_local (by kernel_rfl)) (M_wi_shown hK) (f_wi_shown hK) (by decide)))) (dss_cons (ds_ret de_bool)
  dss_nil) dss_nil)
  (dss_cons (ds_if (dt_cmp (de_local (by kernel_rfl)) (de_sift (sysIn hK) (by kernel_rfl) (by kernel_rfl) (by kernel_rfl) (by kernel_rfl) (by kernel_rfl) (by kernel_rfl) (by decide +kernel) (by decide +kernel) (free_of (by decide +kernel)))) (dss_cons (ds_ret de_bool)
  dss_nil) dss_nil)
  (dss_cons (ds_if (dt_or (dt_not (dt_val (de_cell (by kernel_rfl)))) (dt_cmp (de_sub (de_attr (de_sub (de_attr (de_cell (by kernel_rfl)) (A_windows hK)) (de_attr (de_local (by kernel_rfl)) (A_parent hK))) (A_children hK)) de_int) (de_local (by kernel_rfl)))) (dss_cons (ds_expr (de_call (N_delete_window hK) (Kp_delete_window hK) (f_delete_window hK) (by decide) (by kernel_rfl) (dl_cons (de_cell (by kernel_rfl)) (dl_cons (de_local (by kernel_rfl)) dl_nil))))
  (dss_cons (ds_if (dt_cmp (de_call (N_law_places hK) (Kp_law_places hK) (f_law_places hK) (by decide) (by kernel_rfl) (dl_cons (de_cell (by kernel_rfl)) dl_nil)) (de_cell (by kernel_rfl))) (dss_cons (ds_ret de_bool)
  dss_nil) dss_nil)
  (dss_cons (ds_if (dt_cmp (de_call (N_law_draw hK) (Kp_law_draw hK) (f_law_draw hK) (by decide) (by kernel_rfl) (dl_cons (de_local (by kernel_rfl)) (dl_cons de_int dl_nil))) de_int) (dss_cons (ds_expr (de_call (N_split hK) (Kp_split hK) (f_split hK) (by decide) (by kernel_rfl) (dl_cons (de_cell (by kernel_rfl)) (dl_cons (de_cell (by kernel_rfl)) (dl_cons (de_cell (by kernel_rfl)) (dl_cons (de_cell (by kernel_rfl)) (dl_cons (de_cell (by kernel_rfl)) dl_nil)))))))
  dss_nil) dss_nil)
  dss_nil))) dss_nil)
  dss_nil))))))))))))))))))
noncomputable def lawRest : SM := (sSeq (sAssign (eCall (lCons (eBin .Add (eInt 9) (eCall (lCons (eName "deck") (lCons (eInt 40) lNil)) m_law_draw)) (lCons (eBin .Add (eInt 6) (eCall (lCons (eName "deck") (lCons (eInt 30) lNil)) m_law_draw)) (lCons (eInt 7) (lCons (eInt 3) (lCons (eInt 2) lNil))))) (mNew 164 m_wt_init)) (aName "tree"))
  (sSeq (sIf (tNot (tRef (lamScope2) (xCall (lCons (eName "tree") (lCons (eAttr (eName "tree") 164 "root") lNil)) x_delete_window))) (sSeq (sRet (eBool false))
  sNil) sNil)
  (sSeq (sForRange (eBin .Add (eInt 2) (eCall (lCons (eName "deck") (lCons (eInt 4) lNil)) m_law_draw)) (aName "lap") lapBody 100)
  (sSeq (sRet (eBool true))
  sNil))))
set_option maxHeartbeats 0 in
theorem d_lawRest {D : Wd} (hK : D.K = K D.w.params) : DSS D 38 15 sc_law (fnBody st_law).tail lawRest := (dss_cons (ds_cell (de_call (N_WindowTree hK) (Kp_WindowTree hK) (new_of (Mk_WindowTree hK) (In_WindowTree hK) (Ty_WindowTree hK) (f_wt_init hK)) (by decide) (by kernel_rfl) (dl_cons (de_bin de_int (de_call (N_law_draw hK) (Kp_law_draw hK) (f_law_draw hK) (by decide) (by kernel_rfl) (dl_cons (de_local (by kernel_rfl)) (dl_cons de_int dl_nil)))) (dl_cons (de_bin de_int (de_call (N_law_draw hK) (Kp_law_draw hK) (f_law_draw hK) (by decide) (by kernel_rfl) (dl_cons (de_local (by kernel_rfl)) (dl_cons de_int dl_nil)))) (dl_cons de_int (dl_cons de_int (dl_cons de_int dl_nil)))))) (by kernel_rfl))
  (dss_cons (ds_ifo (dto_not (dto_ref (sigOk hK) (refOk hK) (ktsSig hK) (by kernel_rfl) (k' := 7) (dx_call (N_delete_window hK) (Kp_delete_window hK) (fx_delete_window hK) (by decide) (by kernel_rfl) (dl_cons (de_free (by kernel_rfl)) (dl_cons (de_attr (de_free (by kernel_rfl)) (A_root hK)) dl_nil))) (by decide) (by kernel_rfl) (free_of (by decide +kernel)) (fun _ => rfl) (fun _ _ _ _ _ _ => rfl) (by kernel_rfl) (by kernel_rfl) (by kernel_rfl) (by decide +kernel) (by decide +kernel))) (dss_cons (ds_ret de_bool)
  dss_nil) dss_nil)
  (dss_cons (ds_range 100 (de_bin de_int (de_call (N_law_draw hK) (Kp_law_draw hK) (f_law_draw hK) (by decide) (by kernel_rfl) (dl_cons (de_local (by kernel_rfl)) (dl_cons de_int dl_nil)))) (B_range hK) (by kernel_rfl) (da_local (by kernel_rfl)) (d_lap hK))
  (dss_cons (ds_ret de_bool)
  dss_nil))))
end Mine
end
section
set_option maxRecDepth 10000
open PySem PySem.W PySem.Calls PyProof.Rows
namespace Mine
theorem nofree {sc : Scope} (h : sc.names.all (fun p => p.2 != NameKind.free) = true) : ∀ x, (x, NameKind.free) ∉ sc.names := fun x hx => by
  have := List.all_eq_true.mp h _ hx
  cases this
noncomputable def mem0 (ns : List Int) : Mem := (((⟨0, fun _ => none⟩ : Mem).new (.list ((ns.take 63).map fun i => .int (absI i)))).new (.list [.obj 0, .int 0]))
noncomputable def loc0 : Loc := put (fun _ => none) "deck" (.obj 1)
theorem law_run {D : Wd} (hK : D.K = K D.w.params) {g : Heap} {L fa sa : Addr} {ns : List Int} {vs : List Value} {cells : Led} {cm m : Str → Option Value} {s : Shared} {Q : Flow → Shared → Prop} {E : Value → Shared → Prop} (B : Below callerA g [] g) (X : D.K.In g) (T : Top D.p D.loose D.mean D.mg D.mb g)
    (F : Fr g L s.heap m) (hm : m "script" = some (.ref sa)) (hc : CodeHd g 320 318) (hl : g.IsList sa vs.toArray) (hI : IntsAre vs ns) (hlen : ns.length ≤ 63) (Y : CellsAre cm (cellsFrom (L + 1) sc_law.names []) cells) (N : News g L s.heap (cells ++ [(318, tabObj #[])])) (l0 : 318 < L) (gens : s.gens = #[])
    (hM : ∃ ρ' μ', lawRest loc0 (mem0 ns) = some (.ret (.bool true), ρ', μ'))
    (hQ : ∀ s' m' N', Fr g L s'.heap m' → News g L s'.heap N' → (∃ ps, (318, tabObj ps) ∈ N') → s'.gens = #[] → s'.os = s.os → Q (.ret (.bool true)) s') :
    wpAny (model D.prog D.w) (callerA.deeper (envX "law" sc_law L fa (.ref 320) (cellsFrom (L + 1) sc_law.names []))) (execs (fnBody st_law) (envX "law" sc_law L fa (.ref 320) (cellsFrom (L + 1) sc_law.names []))) Q E s := by
  let c : Cx := { A₀ := callerA, base := g, outer := [], h₀ := g, L := L, cn := "law", cs := sc_law, a := fa, ccd := .ref 320, cl := cellsFrom (L + 1) sc_law.names [], own := (cellsFrom (L + 1) sc_law.names []).map (·.2) ++ [318], os := s.os, tab := some (320, 318) }
  have hnd : ((cellsFrom 0 sc_law.names []).map (·.1)).Nodup := by decide +kernel
  have hge : ∀ p ∈ cells, L < p.1 := fun p hp => by
    have : p.1 ∈ (cellsFrom (L + 1) sc_law.names []).map (·.2) := by rw [← cellsAre_keys Y]; exact List.mem_map_of_mem hp
    obtain ⟨q, hq, e⟩ := List.mem_map.mp this
    have := cellsFrom_ge sc_law.names (L + 1) (L + 1) [] (Nat.le_refl _) (fun _ h => nomatch h) q hq
    rw [e] at this; exact this
  have nd : (cells.map (·.1)).Nodup := by rw [cellsAre_keys Y]; exact cellsFrom_snd _ _ _ (fun _ h => nomatch h) List.nodup_nil
  have ndN : (List.map (fun p : Addr × Obj => p.1) (cells ++ [(318, tabObj #[])])).Nodup := by
    rw [List.map_append, List.nodup_append]
    refine ⟨nd, by simp, fun a ha b hb e => ?_⟩
    obtain ⟨p, hp, e2⟩ := List.mem_map.mp ha
    have h1 := hge p hp
    have h2 : b = 318 := by simpa using hb
    rw [e2, e, h2] at h1
    exact Nat.lt_irrefl _ (Nat.lt_trans l0 h1)
  have hcl : ∀ x a, c.cl.lookup x = some a → L < a := fun x a e => by
    obtain ⟨o, h3, _⟩ := cellsAre_at Y e
    exact hge _ h3
  have R : Rep D c (fun _ => none) ⟨0, fun _ => none⟩ [] (cells ++ [(318, tabObj #[])]) s := {
    fr := ⟨m, F, fun x v e => nomatch e⟩
    nw := N
    mr := ⟨List.nodup_nil, List.nodup_nil, ndN, (fun _ h => nomatch h), (fun _ _ e => nomatch e), (fun _ h => nomatch h), (fun _ h => nomatch h), (fun _ _ => rfl)⟩
    ca := fun x a e => by
      obtain ⟨o, h3, h4⟩ := cellsAre_at Y e
      exact ⟨(fun hm => nomatch hm), o, _, List.mem_append_left _ h3, h4⟩
    ow := fun a h => by
      rcases List.mem_append.mp h with h | h
      · obtain ⟨q, hq, e⟩ := List.mem_map.mp h
        exact .inl ⟨q.1, lookup_of_mem_nodup (cellsFrom_names sc_law.names 0 (L + 1) [] [] rfl ▸ hnd) (by rw [← e]; exact hq)⟩
      · rw [List.mem_singleton.mp h]
        exact .inr ⟨320, rfl⟩
    tb := fun cc P e => by
      cases e
      refine ⟨(fun h => nomatch h), List.mem_append_right _ (.head _), (fun x e => ?_), #[], List.mem_append_right _ (.head _), trivial, (fun pos cv e => nomatch e)⟩
      exact Nat.lt_irrefl _ (Nat.lt_trans l0 (hcl x 318 e))
    gs := gens
    os := rfl }
  have O : Ok D 15 c := {
    B := B
    X := X
    T := T
    XB := X
    TB := T
    fn := by kernel_rfl
    hh := rfl
    hd := by show callerA.depth + 1 + 15 < recursionLimit; decide
    hu := by show callerA.units + 200 + 8 * 15 < cLine; decide
    ci := fun x y a h1 h2 => lookup_inj (cellsFrom_snd sc_law.names (L + 1) [] (fun _ h => nomatch h) List.nodup_nil) h1 h2
    co := fun x hx => by
      obtain ⟨a, ha⟩ := Option.isSome_iff_exists.mp (cellsFrom_some sc_law.names (L + 1) [] (.inl hx))
      exact ⟨a, ha, List.mem_append_left _ (List.mem_map_of_mem (f := (·.2)) (mem_of_lookup ha))⟩
    tk := fun _ => ⟨320, 318, rfl, rfl, hc, rfl⟩ }
  obtain ⟨ρ', μ', hM⟩ := hM
  have hsc : sc_law.names.lookup ("script" : Str) = some .local := by kernel_rfl
  have hdk : sc_law.names.lookup ("deck" : Str) = some .local := by kernel_rfl
  have hvl := hI.length
  have hKe : K D.w.params = D.K := hK.symm
  show wpAny (model D.prog D.w) c.A (execs (fnBody st_law) c.env) Q E s
  have hR := d_lawRest hK c rfl O loc0 (mem0 ns)
  have key : wpAny (model D.prog D.w) c.A (exec (item (fnBody st_law) 0) c.env) (fun fl s' => fl = .next ∧ ∃ φ1 N1, Ext c.own [] (cells ++ [(318, tabObj #[])]) φ1 N1 ∧ Rep D c loc0 (mem0 ns) φ1 N1 s') E s := by
    refine wpAny_Assign_Name (List_ (wpAny_items_cons (wpAny_mono (wp_script (ns := ns) (vs := vs) O R F (fun x v e => nomatch e) hm (hl := ?_) hI (by exact om44 hvl hlen) hsc (B_abs hK) (by kernel_rfl) (by kernel_rfl) (by kernel_rfl) (fun C cl => by kernel_rfl) (by decide +kernel) (by decide +kernel) (nofree (by kernel_rfl))) (fun u1 s1 h1 => wpAny_items_cons (wpAny_Constant_int (wpAny_items_nil ?_)) rfl) fun _ _ => no_elim) rfl)) rfl
    · obtain ⟨o, e1, r⟩ := hl
      exact ⟨o, F.keep _ _ e1, r⟩
    · refine byc fun hG => ?_
      obtain ⟨φ1, N1, E1, R1, v1⟩ := h1
      have R1' := R1.toks (tk := s1.toks + 1)
      obtain ⟨m1, F1, l1⟩ := R1'.fr
      refine hG (newList_K F1 R1'.nw (fun l h' F' N' lt => ?_) (by show 2 ≤ _; rw [sizeLine_eq]; decide))
      refine byc fun hG => ?_
      obtain ⟨φ2, N2, E2, R2, v2⟩ := R1'.newList (tk := s1.toks + 1) (.cons v1 (.one (vr_int (i := 0) (t := s1.toks)))) l1 F' N' lt
      obtain ⟨m2, F2, l2⟩ := R2.fr
      exact hG (storeX_L F2 R2.nw (fun h3 F3 N3 => ⟨rfl, φ2, N2, (E1.trans E2).up, R2.storeL l2 hdk v2 F3 N3⟩) O.fn hdk)
  show wpAny _ _ (execs (item (fnBody st_law) 0 :: (fnBody st_law).tail) c.env) _ _ _
  refine wpAny_execs_cons (wpAny_mono key (fun fl s1 h1 => ?_) fun _ _ x => x)
  refine byc fun hG => ?_
  obtain ⟨rfl, φ1, N1, E1, R1⟩ := h1
  refine hG (wpAny_mono (hR φ1 N1 s1 _ _ _ R1 hM) (fun fl s2 h2 => ?_) fun x s2 h2 => ?_)
  · refine byc fun hG => ?_
    obtain ⟨φ2, N2, E2, R2, u, rfl, hu⟩ := h2
    simp only [VR] at hu
    subst hu
    obtain ⟨m2, F2, _⟩ := R2.fr
    obtain ⟨_, _, _, ps, hps, _⟩ := R2.tb 320 318 rfl
    exact hG (hQ s2 m2 N2 F2 R2.nw ⟨ps, hps⟩ R2.gs R2.os)
  · cases h2.1
end Mine
end
section
set_option maxRecDepth 10000
open PySem PySem.W PySem.Calls PyProof.Rows
namespace Mine
theorem ofString_inj (a b : String) : (Str.ofString a = Str.ofString b) = (a = b) := by
  apply propext
  constructor
  · intro h
    rw [Str.ofString_eq_toList, Str.ofString_eq_toList] at h
    have h1 : (a.toList.map Char.toNat) = (b.toList.map Char.toNat) := by
      have := congrArg (fun s : Str => s.cps.toList) h
      simpa using this
    have h2 : a.toList = b.toList := by
      have inj : ∀ l l' : List Char, l.map Char.toNat = l'.map Char.toNat → l = l' := by
        intro l
        induction l with
        | nil => intro l' h; cases l' with
          | nil => rfl
          | cons => cases h
        | cons c r ih => intro l' h; cases l' with
          | nil => cases h
          | cons d r' =>
            rw [List.map_cons, List.map_cons] at h
            have e1 := (List.cons.inj h).1
            have e2 := ih r' (List.cons.inj h).2
            rw [e2]
            congr 1
            exact Char.ext (UInt32.toNat_inj.mp e1)
      exact inj _ _ h1
    exact String.toList_inj.mp h2
  · intro h; rw [h]
theorem put_at (ρ : Loc) (x y : Str) (v : V) : put ρ x v y = if y = x then some v else ρ y := rfl
theorem bindv_nil (x : Str) (vs : List V) : bindv [] vs x = none := rfl
theorem bindv_cons (p : Str) (ps : List Str) (v : V) (vs : List V) (x : Str) : bindv (p :: ps) (v :: vs) x = match bindv ps vs x with
    | some w => some w
    | none => if x = p then some v else none := by
  unfold bindv
  rw [List.zip_cons_cons, List.reverse_cons, List.lookup_append]
  cases (ps.zip vs).reverse.lookup x with
  | some w => rfl
  | none =>
    show List.lookup x [(p, v)] = _
    rw [List.lookup_cons]
    by_cases h : x = p
    · subst h; simp
    · have : (x == p) = false := beq_eq_false_iff_ne.mpr h
      rw [this, if_neg h]; rfl
theorem get_set (μ : Mem) (k j : Nat) (o : AO) : (μ.set k o).get j = if j = k then some o else μ.get j := rfl
theorem get_new (μ : Mem) (j : Nat) (o : AO) : (μ.new o).get j = if j = μ.n then some o else μ.get j := rfl
theorem n_set (μ : Mem) (k : Nat) (o : AO) : (μ.set k o).n = μ.n := rfl
theorem n_new (μ : Mem) (o : AO) : (μ.new o).n = μ.n + 1 := rfl
theorem fgp {x y : Str} {v : V} {fs : List (Str × V)} {w : Option V} (hne : (x == y) = false) (h : fget fs y = w) : fget (fput x v fs) y = w := by
  rw [fget_fput, if_neg (beq_eq_false_iff_ne.mp hne)]; exact h
theorem fgs {x : Str} {v : V} {fs : List (Str × V)} : fget (fput x v fs) x = some v := by rw [fget_fput, if_pos rfl]
theorem fpl {x : Str} {v w : V} {fs : List (Str × V)} (h : fget fs x = some w) (hl : fs.length ≤ 20) : (fput x v fs).length ≤ 20 := by
  rw [fput_len, h]; exact hl
theorem lk {F G : Loc} {x : Str} {w : V} (h : F = G) (e : F x = some w) : G x = some w := h ▸ e
theorem lk2 {F G H : Loc} {x : Str} {w : V} (h : F = G) (e : F x = H x) (a : H x = some w) : G x = some w := h ▸ e.trans a
theorem nm {ρ : Loc} {μ : Mem} {x : Str} {v : V} (h : ρ x = some v) : eName x ρ μ = some (v, μ) := by unfold eName; rw [h]; rfl
theorem pl {F H : Loc} {x : Str} {w : V} (e : F x = H x) (a : H x = some w) : F x = some w := e.trans a
section
variable {m m' : SM} {ρ ρ1 ρ2 : Loc} {μ μ1 μ2 : Mem} {o : Out}
theorem seq_next (h : m ρ μ = some (.next, ρ1, μ1)) : sSeq m m' ρ μ = m' ρ1 μ1 := by unfold sSeq; rw [h]
theorem seq_ret {v : V} (h : m ρ μ = some (.ret v, ρ1, μ1)) : sSeq m m' ρ μ = some (.ret v, ρ1, μ1) := by unfold sSeq; rw [h]
theorem seq_cont (h : m ρ μ = some (.cont, ρ1, μ1)) : sSeq m m' ρ μ = some (.cont, ρ1, μ1) := by unfold sSeq; rw [h]
theorem seq_exc (h : m ρ μ = some (.exc, ρ1, μ1)) : sSeq m m' ρ μ = some (.exc, ρ1, μ1) := by unfold sSeq; rw [h]
theorem st_assign {e : EM} {a : AM} {v : V} (h : e ρ μ = some (v, μ1)) (ha : a v ρ μ1 = some (ρ2, μ2)) : sAssign e a ρ μ = some (.next, ρ2, μ2) := by unfold sAssign; rw [h]; simp [ha]
theorem st_name {e : EM} {x : Str} {v : V} (h : e ρ μ = some (v, μ1)) : sAssign e (aName x) ρ μ = some (.next, put ρ x v, μ1) := st_assign h rfl
theorem st_expr {e : EM} {v : V} (h : e ρ μ = some (v, μ1)) : sExpr e ρ μ = some (.next, ρ, μ1) := by unfold sExpr; rw [h]; rfl
theorem st_ret {e : EM} {v : V} (h : e ρ μ = some (v, μ1)) : sRet e ρ μ = some (.ret v, ρ, μ1) := by unfold sRet; rw [h]; rfl
theorem sif_true {t : TM} (h : t ρ μ = some (true, μ1)) : sIf t m m' ρ μ = m ρ μ1 := by unfold sIf; rw [h]
theorem sif_false {t : TM} (h : t ρ μ = some (false, μ1)) : sIf t m m' ρ μ = m' ρ μ1 := by unfold sIf; rw [h]
theorem while_true {t : TM} {n : Nat} (h : t ρ μ = some (true, μ1)) (hb : m ρ μ1 = some (.next, ρ2, μ2)) : sWhile t m (n + 1) ρ μ = sWhile t m n ρ2 μ2 := by
  conv => lhs; unfold sWhile
  rw [h]; dsimp only; rw [hb]
theorem while_false {t : TM} {n : Nat} (h : t ρ μ = some (false, μ1)) : sWhile t m (n + 1) ρ μ = some (.next, ρ, μ1) := by
  conv => lhs; unfold sWhile
  rw [h]
theorem for_end {a : AM} {k f i : Nat} {xs : List V} (hg : μ.get k = some (.list xs)) (hi : xs[i]? = none) : sFor a m k (f + 1) i ρ μ = some (.next, ρ, μ) := by
  conv => lhs; unfold sFor
  rw [hg]; dsimp only; rw [hi]
theorem for_step {a : AM} {k f i : Nat} {xs : List V} {v : V} (hg : μ.get k = some (.list xs)) (hi : xs[i]? = some v) (ha : a v ρ μ = some (ρ1, μ1)) (hb : m ρ1 μ1 = some (.next, ρ2, μ2)) : sFor a m k (f + 1) i ρ μ = sFor a m k f (i + 1) ρ2 μ2 := by
  conv => lhs; unfold sFor
  rw [hg]; dsimp only; rw [hi]; dsimp only; rw [ha]; dsimp only; rw [hb]
theorem st_nm {e : EM} {x : Str} {v : V} (h : e ρ μ = some (v, μ1)) (hp : put ρ x v = ρ1) : sAssign e (aName x) ρ μ = some (.next, ρ1, μ1) := hp ▸ st_name h
theorem st_asH {e : EM} {a : AM} {v : V} {ρ3 : Loc} (h : e ρ μ = some (v, μ1)) (ha : a v ρ μ1 = some (ρ2, μ2)) (hp : ρ2 = ρ3) : sAssign e a ρ μ = some (.next, ρ3, μ2) := hp ▸ st_assign h ha
theorem run_ret {b : SM} {ps : List Str} {vs : List V} {v : V} (hl : vs.length = ps.length) (h : b (bindv ps vs) μ = some (.ret v, ρ1, μ1)) : runBody b ps vs μ = some (v, μ1) := by unfold runBody; rw [if_pos hl, h]
theorem run_next {b : SM} {ps : List Str} {vs : List V} (hl : vs.length = ps.length) (h : b (bindv ps vs) μ = some (.next, ρ1, μ1)) : runBody b ps vs μ = some (.none, μ1) := by unfold runBody; rw [if_pos hl, h]
theorem run_retH {b : SM} {ps : List Str} {vs : List V} {v : V} {ρ0 : Loc} (hb : bindv ps vs = ρ0) (hl : vs.length = ps.length) (h : b ρ0 μ = some (.ret v, ρ1, μ1)) : runBody b ps vs μ = some (v, μ1) := run_ret hl (hb ▸ h)
theorem run_nextH {b : SM} {ps : List Str} {vs : List V} {ρ0 : Loc} (hb : bindv ps vs = ρ0) (hl : vs.length = ps.length) (h : b ρ0 μ = some (.next, ρ1, μ1)) : runBody b ps vs μ = some (.none, μ1) := run_next hl (hb ▸ h)
theorem run_exc {b : SM} {ps : List Str} {vs : List V} (hl : vs.length = ps.length) (h : b (bindv ps vs) μ = some (.exc, ρ1, μ1)) : raiseBody b ps vs μ = some μ1 := by unfold raiseBody; rw [if_pos hl, h]
end
structure WinR where
  o : Nat
  c : Nat
  e : Nat
  sort : Int
  parent : Int
  left : Int
  top : Int
  width : Int
  height : Int
  buf : Int
  st : Int
  pt : Int
  hs : Int
  kids : List Int
noncomputable def WinR.setParent (r : WinR) (p : Int) : WinR := { r with parent := p }
noncomputable def WinR.setKids (r : WinR) (ks : List Int) : WinR := { r with kids := ks }
noncomputable def WinR.setC (r : WinR) (c : Nat) : WinR := { r with c := c }
noncomputable def WinR.setCK (r : WinR) (c : Nat) (ks : List Int) : WinR := { r with c := c, kids := ks }
noncomputable def WinR.setE (r : WinR) (e : Nat) : WinR := { r with e := e }
noncomputable def WinR.setPos (r : WinR) (l t : Int) : WinR := { r with left := l, top := t }
noncomputable def WinR.setShown (r : WinR) (a b c d : Int) : WinR := { r with buf := a, st := b, pt := c, hs := d }
inductive Role where
  | tree
  | dict
  | win (n : Int)
  | kids (n : Int)
  | earl
structure Store where
  t : Nat
  wd : Nat
  last : Int
  root : Int
  ws : Int → Option WinR
structure WF (n : Int) (r : WinR) (fs : List (Str × V)) : Prop where
  len : fs.length ≤ 20
  number : fget fs "number" = some (.int n)
  sort : fget fs "sort" = some (.int r.sort)
  parent : fget fs "parent" = some (.int r.parent)
  children : fget fs "children" = some (.obj r.c)
  left : fget fs "left" = some (.int r.left)
  top : fget fs "top" = some (.int r.top)
  width : fget fs "width" = some (.int r.width)
  height : fget fs "height" = some (.int r.height)
  buffer : fget fs "buffer" = some (.int r.buf)
  start : fget fs "start" = some (.int r.st)
  point : fget fs "point" = some (.int r.pt)
  hscroll : fget fs "hscroll" = some (.int r.hs)
  earlier : fget fs "earlier" = some (.obj r.e)
  m1 : fget fs "size" = none
  m2 : fget fs "set_size" = none
  m3 : fget fs "place" = none
  m4 : fget fs "shown" = none
  m5 : fget fs "show" = none
structure TF (S : Store) (fs : List (Str × V)) : Prop where
  len : fs.length ≤ 20
  windows : fget fs "windows" = some (.obj S.wd)
  last : fget fs "last" = some (.int S.last)
  root : fget fs "root" = some (.int S.root)
  lw : fget fs "least_width" = some (.int 3)
  lh : fget fs "least_height" = some (.int 2)
  selected : fget fs "selected" = some (.int 1)
  m1 : fget fs "fresh" = none
  m2 : fget fs "window" = none
  m3 : fget fs "least_leaf" = none
structure RT (μ : Mem) (ro : Nat → Option Role) (S : Store) : Prop where
  tr : ∃ fs, μ.get S.t = some (.inst 164 fs) ∧ TF S fs
  dc : ∃ es, μ.get S.wd = some (.dict es) ∧ (es.length : Int) ≤ S.last ∧ ∀ n, (es.find? fun e => e.1 = n).map (·.2) = (S.ws n).map fun r => V.obj r.o
  wn : ∀ n r, S.ws n = some r → ∃ fs, μ.get r.o = some (.inst 93 fs) ∧ WF n r fs
  kd : ∀ n r, S.ws n = some r → μ.get r.c = some (.list (r.kids.map .int))
  er : ∀ n r, S.ws n = some r → μ.get r.e = some (.list [])
  rt : ro S.t = some .tree
  rd : ro S.wd = some .dict
  rw : ∀ n r, S.ws n = some r → ro r.o = some (.win n) ∧ ro r.c = some (.kids n) ∧ ro r.e = some .earl
  lt : ∀ j R, ro j = some R → j < μ.n
  fr : ∀ n, S.last < n → S.ws n = none
  l0 : 0 ≤ S.last
  l9 : S.last ≤ 900
  uq : ∀ j n, ro j = some (.win n) → n ≤ S.last ∧ ∀ r, S.ws n = some r → r.o = j
structure Step (μ : Mem) (ro : Nat → Option Role) (μ' : Mem) (ro' : Nat → Option Role) : Prop where
  le : μ.n ≤ μ'.n
  fr : ∀ j, j < μ.n → ro j = none → μ'.get j = μ.get j
  ro : ∀ j, j < μ.n → ro' j = ro j
theorem Step.trans {μ μ1 μ2 : Mem} {ro ro1 ro2 : Nat → Option Role} (a : Step μ ro μ1 ro1) (b : Step μ1 ro1 μ2 ro2) : Step μ ro μ2 ro2 where
  le := Nat.le_trans a.le b.le
  fr := fun j h1 h2 => (b.fr j (Nat.lt_of_lt_of_le h1 a.le) ((a.ro j h1).trans h2)).trans (a.fr j h1 h2)
  ro := fun j h => (b.ro j (Nat.lt_of_lt_of_le h a.le)).trans (a.ro j h)
noncomputable def Store.upd (S : Store) (n : Int) (r : WinR) : Store := { S with ws := fun m => if m = n then some r else S.ws m }
theorem upd_self (S : Store) (n : Int) (r : WinR) : (S.upd n r).ws n = some r := by simp [Store.upd]
theorem upd_ne (S : Store) {n m : Int} (r : WinR) (h : m ≠ n) : (S.upd n r).ws m = S.ws m := by simp [Store.upd, h]
section
variable {μ : Mem} {ro : Nat → Option Role} {S : Store}
theorem RT.fresh_ro (R : RT μ ro S) {j : Nat} (h : μ.n ≤ j) : ro j = none := by
  cases e : ro j with
  | none => rfl
  | some x => exact absurd (R.lt j x e) (Nat.not_lt.mpr h)
theorem RT.new (R : RT μ ro S) (o : AO) : RT (μ.new o) ro S ∧ Step μ ro (μ.new o) ro := by
  have hne : ∀ {j x}, ro j = some x → (μ.new o).get j = μ.get j := fun {j x} e => by
    rw [get_new, if_neg (Nat.ne_of_lt (R.lt j x e))]
  refine ⟨⟨?_, ?_, fun n r e => ?_, fun n r e => ?_, fun n r e => ?_, R.rt, R.rd, R.rw, fun j x e => Nat.lt_succ_of_lt (R.lt j x e), R.fr, R.l0, R.l9, R.uq⟩, ⟨Nat.le_succ _, fun j h1 _ => by rw [get_new, if_neg (Nat.ne_of_lt h1)], fun _ _ => rfl⟩⟩
  · rw [hne R.rt]; exact R.tr
  · rw [hne R.rd]; exact R.dc
  · rw [hne (R.rw n r e).1]; exact R.wn n r e
  · rw [hne (R.rw n r e).2.1]; exact R.kd n r e
  · rw [hne (R.rw n r e).2.2]; exact R.er n r e
theorem RT.temp (R : RT μ ro S) {k : Nat} (hk : ro k = none) (o : AO) : RT (μ.set k o) ro S := by
  have hne : ∀ {j x}, ro j = some x → (μ.set k o).get j = μ.get j := fun {j x} e => by
    rw [get_set, if_neg fun q => by rw [q, hk] at e; cases e]
  refine ⟨?_, ?_, fun n r e => ?_, fun n r e => ?_, fun n r e => ?_, R.rt, R.rd, R.rw, R.lt, R.fr, R.l0, R.l9, R.uq⟩
  · rw [hne R.rt]; exact R.tr
  · rw [hne R.rd]; exact R.dc
  · rw [hne (R.rw n r e).1]; exact R.wn n r e
  · rw [hne (R.rw n r e).2.1]; exact R.kd n r e
  · rw [hne (R.rw n r e).2.2]; exact R.er n r e
theorem temp_step {k : Nat} {μ0 : Mem} (h : μ0.n ≤ k) (o : AO) (st : Step μ0 ro μ ro) : Step μ0 ro (μ.set k o) ro :=
  ⟨st.le, fun j h1 h2 => by rw [get_set, if_neg (by exact om45 h1 h)]; exact st.fr j h1 h2, st.ro⟩
theorem RT.win (R : RT μ ro S) {n : Int} {r r' : WinR} (hn : S.ws n = some r) {fs' : List (Str × V)} (wf : WF n r' fs') (h1 : r'.o = r.o) (h2 : r'.c = r.c) (h3 : r'.e = r.e) (h4 : r'.kids = r.kids) :
    RT (μ.set r.o (.inst 93 fs')) ro (S.upd n r') ∧ Step μ ro (μ.set r.o (.inst 93 fs')) ro := by
  have hro := (R.rw n r hn).1
  have hne : ∀ {j x}, ro j = some x → x ≠ .win n → (μ.set r.o (.inst 93 fs')).get j = μ.get j := fun {j x} e hx => by
    rw [get_set, if_neg fun q => hx (by rw [q, hro] at e; cases e; rfl)]
  have cs : ∀ {m q}, (S.upd n r').ws m = some q → (m = n ∧ q = r') ∨ (m ≠ n ∧ S.ws m = some q) := fun {m q} e => by
    by_cases hm : m = n
    · rw [hm, upd_self] at e; cases e; exact .inl ⟨hm, rfl⟩
    · rw [upd_ne _ _ hm] at e; exact .inr ⟨hm, e⟩
  refine ⟨⟨?_, ?_, fun m q e => ?_, fun m q e => ?_, fun m q e => ?_, R.rt, R.rd, fun m q e => ?_, R.lt, fun m hm => ?_, R.l0, R.l9, fun j m e => ⟨(R.uq j m e).1, fun q hq => by rcases cs hq with ⟨rfl, rfl⟩ | ⟨_, hq⟩ <;> first | exact (R.uq j _ e).2 _ hq | exact h1.trans ((R.uq j _ e).2 r hn)⟩⟩, ⟨Nat.le_refl _, fun j _ h => ?_, fun _ _ => rfl⟩⟩
  · show ∃ fs, (μ.set _ _).get S.t = _ ∧ _
    rw [hne R.rt (by simp)]
    obtain ⟨fs, a, b⟩ := R.tr
    exact ⟨fs, a, ⟨b.len, b.windows, b.last, b.root, b.lw, b.lh, b.selected, b.m1, b.m2, b.m3⟩⟩
  · show ∃ es, (μ.set _ _).get S.wd = _ ∧ _
    rw [hne R.rd (by simp)]
    obtain ⟨es, a, b, c⟩ := R.dc
    refine ⟨es, a, b, fun m => ?_⟩
    rw [c m]
    by_cases hm : m = n
    · rw [hm, upd_self, hn]; simp [h1]
    · rw [upd_ne _ _ hm]
  · rcases cs e with ⟨rfl, rfl⟩ | ⟨hm, e⟩
    · exact ⟨fs', by rw [h1, get_set, if_pos rfl], wf⟩
    · rw [hne (R.rw m q e).1 (by simp [hm])]; exact R.wn m q e
  · rcases cs e with ⟨rfl, rfl⟩ | ⟨hm, e⟩
    · rw [h2, h4, hne (R.rw _ r hn).2.1 (by simp)]; exact R.kd _ r hn
    · rw [hne (R.rw m q e).2.1 (by simp)]; exact R.kd m q e
  · rcases cs e with ⟨rfl, rfl⟩ | ⟨hm, e⟩
    · rw [h3, hne (R.rw _ r hn).2.2 (by simp)]; exact R.er _ r hn
    · rw [hne (R.rw m q e).2.2 (by simp)]; exact R.er m q e
  · rcases cs e with ⟨rfl, rfl⟩ | ⟨hm, e⟩
    · rw [h1, h2, h3]; exact R.rw _ r hn
    · exact R.rw m q e
  · have hm' : m ≠ n := fun q => by have := R.fr m hm; rw [q, hn] at this; cases this
    rw [upd_ne _ _ hm']; exact R.fr m hm
  · rw [get_set, if_neg fun q => by rw [q, hro] at h; cases h]
theorem RT.kids (R : RT μ ro S) {n : Int} {r : WinR} (hn : S.ws n = some r) (ks : List Int) :
    RT (μ.set r.c (.list (ks.map .int))) ro (S.upd n (r.setKids ks)) ∧ Step μ ro (μ.set r.c (.list (ks.map .int))) ro := by
  rw [show r.setKids ks = { r with kids := ks } from rfl]
  have hro := (R.rw n r hn).2.1
  have hne : ∀ {j x}, ro j = some x → x ≠ .kids n → (μ.set r.c (.list (ks.map .int))).get j = μ.get j := fun {j x} e hx => by
    rw [get_set, if_neg fun q => hx (by rw [q, hro] at e; cases e; rfl)]
  have cs : ∀ {m q}, (S.upd n { r with kids := ks }).ws m = some q → (m = n ∧ q = { r with kids := ks }) ∨ (m ≠ n ∧ S.ws m = some q) := fun {m q} e => by
    by_cases hm : m = n
    · rw [hm, upd_self] at e; cases e; exact .inl ⟨hm, rfl⟩
    · rw [upd_ne _ _ hm] at e; exact .inr ⟨hm, e⟩
  refine ⟨⟨?_, ?_, fun m q e => ?_, fun m q e => ?_, fun m q e => ?_, R.rt, R.rd, fun m q e => ?_, R.lt, fun m hm => ?_, R.l0, R.l9, fun j m e => ⟨(R.uq j m e).1, fun q hq => by rcases cs hq with ⟨rfl, rfl⟩ | ⟨_, hq⟩ <;> first | exact (R.uq j _ e).2 _ hq | exact (R.uq j _ e).2 r hn⟩⟩, ⟨Nat.le_refl _, fun j _ h => ?_, fun _ _ => rfl⟩⟩
  · show ∃ fs, (μ.set _ _).get S.t = _ ∧ _
    rw [hne R.rt (by simp)]
    obtain ⟨fs, a, b⟩ := R.tr
    exact ⟨fs, a, ⟨b.len, b.windows, b.last, b.root, b.lw, b.lh, b.selected, b.m1, b.m2, b.m3⟩⟩
  · show ∃ es, (μ.set _ _).get S.wd = _ ∧ _
    rw [hne R.rd (by simp)]
    obtain ⟨es, a, b, c⟩ := R.dc
    refine ⟨es, a, b, fun m => ?_⟩
    rw [c m]
    by_cases hm : m = n
    · rw [hm, upd_self, hn]; simp
    · rw [upd_ne _ _ hm]
  · rcases cs e with ⟨rfl, rfl⟩ | ⟨hm, e⟩
    · obtain ⟨fs, a, b⟩ := R.wn m r hn
      refine ⟨fs, by rw [hne (R.rw m r hn).1 (by simp)]; exact a, ⟨b.len, b.number, b.sort, b.parent, b.children, b.left, b.top, b.width, b.height, b.buffer, b.start, b.point, b.hscroll, b.earlier, b.m1, b.m2, b.m3, b.m4, b.m5⟩⟩
    · rw [hne (R.rw m q e).1 (by simp)]; exact R.wn m q e
  · rcases cs e with ⟨rfl, rfl⟩ | ⟨hm, e⟩
    · rw [get_set, if_pos rfl]
    · rw [hne (R.rw m q e).2.1 (by simp [hm])]; exact R.kd m q e
  · rcases cs e with ⟨rfl, rfl⟩ | ⟨hm, e⟩
    · rw [hne (R.rw m r hn).2.2 (by simp)]; exact R.er m r hn
    · rw [hne (R.rw m q e).2.2 (by simp)]; exact R.er m q e
  · rcases cs e with ⟨rfl, rfl⟩ | ⟨hm, e⟩
    · exact R.rw m r hn
    · exact R.rw m q e
  · have hm' : m ≠ n := fun q => by have := R.fr m hm; rw [q, hn] at this; cases this
    rw [upd_ne _ _ hm']; exact R.fr m hm
  · rw [get_set, if_neg fun q => by rw [q, hro] at h; cases h]
end
end Mine
end
section
set_option maxRecDepth 10000
open PySem PySem.W PySem.Calls PyProof.Rows
namespace Mine
theorem WF.put_parent {n : Int} {r : WinR} {fs : List (Str × V)} (h : WF n r fs) (v : Int) : WF n (r.setParent v) (fput "parent" (.int v) fs) where
  len := fpl h.parent h.len
  number := fgp (by kernel_rfl) h.number
  sort := fgp (by kernel_rfl) h.sort
  parent := fgs
  children := fgp (by kernel_rfl) h.children
  left := fgp (by kernel_rfl) h.left
  top := fgp (by kernel_rfl) h.top
  width := fgp (by kernel_rfl) h.width
  height := fgp (by kernel_rfl) h.height
  buffer := fgp (by kernel_rfl) h.buffer
  start := fgp (by kernel_rfl) h.start
  point := fgp (by kernel_rfl) h.point
  hscroll := fgp (by kernel_rfl) h.hscroll
  earlier := fgp (by kernel_rfl) h.earlier
  m1 := fgp (by kernel_rfl) h.m1
  m2 := fgp (by kernel_rfl) h.m2
  m3 := fgp (by kernel_rfl) h.m3
  m4 := fgp (by kernel_rfl) h.m4
  m5 := fgp (by kernel_rfl) h.m5
theorem WF.put_left {n : Int} {r : WinR} {fs : List (Str × V)} (h : WF n r fs) (v : Int) : WF n { r with left := v } (fput "left" (.int v) fs) where
  len := fpl h.left h.len
  number := fgp (by kernel_rfl) h.number
  sort := fgp (by kernel_rfl) h.sort
  parent := fgp (by kernel_rfl) h.parent
  children := fgp (by kernel_rfl) h.children
  left := fgs
  top := fgp (by kernel_rfl) h.top
  width := fgp (by kernel_rfl) h.width
  height := fgp (by kernel_rfl) h.height
  buffer := fgp (by kernel_rfl) h.buffer
  start := fgp (by kernel_rfl) h.start
  point := fgp (by kernel_rfl) h.point
  hscroll := fgp (by kernel_rfl) h.hscroll
  earlier := fgp (by kernel_rfl) h.earlier
  m1 := fgp (by kernel_rfl) h.m1
  m2 := fgp (by kernel_rfl) h.m2
  m3 := fgp (by kernel_rfl) h.m3
  m4 := fgp (by kernel_rfl) h.m4
  m5 := fgp (by kernel_rfl) h.m5
theorem WF.put_top {n : Int} {r : WinR} {fs : List (Str × V)} (h : WF n r fs) (v : Int) : WF n { r with top := v } (fput "top" (.int v) fs) where
  len := fpl h.top h.len
  number := fgp (by kernel_rfl) h.number
  sort := fgp (by kernel_rfl) h.sort
  parent := fgp (by kernel_rfl) h.parent
  children := fgp (by kernel_rfl) h.children
  left := fgp (by kernel_rfl) h.left
  top := fgs
  width := fgp (by kernel_rfl) h.width
  height := fgp (by kernel_rfl) h.height
  buffer := fgp (by kernel_rfl) h.buffer
  start := fgp (by kernel_rfl) h.start
  point := fgp (by kernel_rfl) h.point
  hscroll := fgp (by kernel_rfl) h.hscroll
  earlier := fgp (by kernel_rfl) h.earlier
  m1 := fgp (by kernel_rfl) h.m1
  m2 := fgp (by kernel_rfl) h.m2
  m3 := fgp (by kernel_rfl) h.m3
  m4 := fgp (by kernel_rfl) h.m4
  m5 := fgp (by kernel_rfl) h.m5
theorem WF.put_width {n : Int} {r : WinR} {fs : List (Str × V)} (h : WF n r fs) (v : Int) : WF n { r with width := v } (fput "width" (.int v) fs) where
  len := fpl h.width h.len
  number := fgp (by kernel_rfl) h.number
  sort := fgp (by kernel_rfl) h.sort
  parent := fgp (by kernel_rfl) h.parent
  children := fgp (by kernel_rfl) h.children
  left := fgp (by kernel_rfl) h.left
  top := fgp (by kernel_rfl) h.top
  width := fgs
  height := fgp (by kernel_rfl) h.height
  buffer := fgp (by kernel_rfl) h.buffer
  start := fgp (by kernel_rfl) h.start
  point := fgp (by kernel_rfl) h.point
  hscroll := fgp (by kernel_rfl) h.hscroll
  earlier := fgp (by kernel_rfl) h.earlier
  m1 := fgp (by kernel_rfl) h.m1
  m2 := fgp (by kernel_rfl) h.m2
  m3 := fgp (by kernel_rfl) h.m3
  m4 := fgp (by kernel_rfl) h.m4
  m5 := fgp (by kernel_rfl) h.m5
theorem WF.put_height {n : Int} {r : WinR} {fs : List (Str × V)} (h : WF n r fs) (v : Int) : WF n { r with height := v } (fput "height" (.int v) fs) where
  len := fpl h.height h.len
  number := fgp (by kernel_rfl) h.number
  sort := fgp (by kernel_rfl) h.sort
  parent := fgp (by kernel_rfl) h.parent
  children := fgp (by kernel_rfl) h.children
  left := fgp (by kernel_rfl) h.left
  top := fgp (by kernel_rfl) h.top
  width := fgp (by kernel_rfl) h.width
  height := fgs
  buffer := fgp (by kernel_rfl) h.buffer
  start := fgp (by kernel_rfl) h.start
  point := fgp (by kernel_rfl) h.point
  hscroll := fgp (by kernel_rfl) h.hscroll
  earlier := fgp (by kernel_rfl) h.earlier
  m1 := fgp (by kernel_rfl) h.m1
  m2 := fgp (by kernel_rfl) h.m2
  m3 := fgp (by kernel_rfl) h.m3
  m4 := fgp (by kernel_rfl) h.m4
  m5 := fgp (by kernel_rfl) h.m5
theorem WF.put_buffer {n : Int} {r : WinR} {fs : List (Str × V)} (h : WF n r fs) (v : Int) : WF n { r with buf := v } (fput "buffer" (.int v) fs) where
  len := fpl h.buffer h.len
  number := fgp (by kernel_rfl) h.number
  sort := fgp (by kernel_rfl) h.sort
  parent := fgp (by kernel_rfl) h.parent
  children := fgp (by kernel_rfl) h.children
  left := fgp (by kernel_rfl) h.left
  top := fgp (by kernel_rfl) h.top
  width := fgp (by kernel_rfl) h.width
  height := fgp (by kernel_rfl) h.height
  buffer := fgs
  start := fgp (by kernel_rfl) h.start
  point := fgp (by kernel_rfl) h.point
  hscroll := fgp (by kernel_rfl) h.hscroll
  earlier := fgp (by kernel_rfl) h.earlier
  m1 := fgp (by kernel_rfl) h.m1
  m2 := fgp (by kernel_rfl) h.m2
  m3 := fgp (by kernel_rfl) h.m3
  m4 := fgp (by kernel_rfl) h.m4
  m5 := fgp (by kernel_rfl) h.m5
theorem WF.put_start {n : Int} {r : WinR} {fs : List (Str × V)} (h : WF n r fs) (v : Int) : WF n { r with st := v } (fput "start" (.int v) fs) where
  len := fpl h.start h.len
  number := fgp (by kernel_rfl) h.number
  sort := fgp (by kernel_rfl) h.sort
  parent := fgp (by kernel_rfl) h.parent
  children := fgp (by kernel_rfl) h.children
  left := fgp (by kernel_rfl) h.left
  top := fgp (by kernel_rfl) h.top
  width := fgp (by kernel_rfl) h.width
  height := fgp (by kernel_rfl) h.height
  buffer := fgp (by kernel_rfl) h.buffer
  start := fgs
  point := fgp (by kernel_rfl) h.point
  hscroll := fgp (by kernel_rfl) h.hscroll
  earlier := fgp (by kernel_rfl) h.earlier
  m1 := fgp (by kernel_rfl) h.m1
  m2 := fgp (by kernel_rfl) h.m2
  m3 := fgp (by kernel_rfl) h.m3
  m4 := fgp (by kernel_rfl) h.m4
  m5 := fgp (by kernel_rfl) h.m5
theorem WF.put_point {n : Int} {r : WinR} {fs : List (Str × V)} (h : WF n r fs) (v : Int) : WF n { r with pt := v } (fput "point" (.int v) fs) where
  len := fpl h.point h.len
  number := fgp (by kernel_rfl) h.number
  sort := fgp (by kernel_rfl) h.sort
  parent := fgp (by kernel_rfl) h.parent
  children := fgp (by kernel_rfl) h.children
  left := fgp (by kernel_rfl) h.left
  top := fgp (by kernel_rfl) h.top
  width := fgp (by kernel_rfl) h.width
  height := fgp (by kernel_rfl) h.height
  buffer := fgp (by kernel_rfl) h.buffer
  start := fgp (by kernel_rfl) h.start
  point := fgs
  hscroll := fgp (by kernel_rfl) h.hscroll
  earlier := fgp (by kernel_rfl) h.earlier
  m1 := fgp (by kernel_rfl) h.m1
  m2 := fgp (by kernel_rfl) h.m2
  m3 := fgp (by kernel_rfl) h.m3
  m4 := fgp (by kernel_rfl) h.m4
  m5 := fgp (by kernel_rfl) h.m5
theorem WF.put_hscroll {n : Int} {r : WinR} {fs : List (Str × V)} (h : WF n r fs) (v : Int) : WF n { r with hs := v } (fput "hscroll" (.int v) fs) where
  len := fpl h.hscroll h.len
  number := fgp (by kernel_rfl) h.number
  sort := fgp (by kernel_rfl) h.sort
  parent := fgp (by kernel_rfl) h.parent
  children := fgp (by kernel_rfl) h.children
  left := fgp (by kernel_rfl) h.left
  top := fgp (by kernel_rfl) h.top
  width := fgp (by kernel_rfl) h.width
  height := fgp (by kernel_rfl) h.height
  buffer := fgp (by kernel_rfl) h.buffer
  start := fgp (by kernel_rfl) h.start
  point := fgp (by kernel_rfl) h.point
  hscroll := fgs
  earlier := fgp (by kernel_rfl) h.earlier
  m1 := fgp (by kernel_rfl) h.m1
  m2 := fgp (by kernel_rfl) h.m2
  m3 := fgp (by kernel_rfl) h.m3
  m4 := fgp (by kernel_rfl) h.m4
  m5 := fgp (by kernel_rfl) h.m5
theorem WF.put_children {n : Int} {r : WinR} {fs : List (Str × V)} (h : WF n r fs) (v : Nat) : WF n { r with c := v } (fput "children" (.obj v) fs) where
  len := fpl h.children h.len
  number := fgp (by kernel_rfl) h.number
  sort := fgp (by kernel_rfl) h.sort
  parent := fgp (by kernel_rfl) h.parent
  children := fgs
  left := fgp (by kernel_rfl) h.left
  top := fgp (by kernel_rfl) h.top
  width := fgp (by kernel_rfl) h.width
  height := fgp (by kernel_rfl) h.height
  buffer := fgp (by kernel_rfl) h.buffer
  start := fgp (by kernel_rfl) h.start
  point := fgp (by kernel_rfl) h.point
  hscroll := fgp (by kernel_rfl) h.hscroll
  earlier := fgp (by kernel_rfl) h.earlier
  m1 := fgp (by kernel_rfl) h.m1
  m2 := fgp (by kernel_rfl) h.m2
  m3 := fgp (by kernel_rfl) h.m3
  m4 := fgp (by kernel_rfl) h.m4
  m5 := fgp (by kernel_rfl) h.m5
theorem WF.put_earlier {n : Int} {r : WinR} {fs : List (Str × V)} (h : WF n r fs) (v : Nat) : WF n { r with e := v } (fput "earlier" (.obj v) fs) where
  len := fpl h.earlier h.len
  number := fgp (by kernel_rfl) h.number
  sort := fgp (by kernel_rfl) h.sort
  parent := fgp (by kernel_rfl) h.parent
  children := fgp (by kernel_rfl) h.children
  left := fgp (by kernel_rfl) h.left
  top := fgp (by kernel_rfl) h.top
  width := fgp (by kernel_rfl) h.width
  height := fgp (by kernel_rfl) h.height
  buffer := fgp (by kernel_rfl) h.buffer
  start := fgp (by kernel_rfl) h.start
  point := fgp (by kernel_rfl) h.point
  hscroll := fgp (by kernel_rfl) h.hscroll
  earlier := fgs
  m1 := fgp (by kernel_rfl) h.m1
  m2 := fgp (by kernel_rfl) h.m2
  m3 := fgp (by kernel_rfl) h.m3
  m4 := fgp (by kernel_rfl) h.m4
  m5 := fgp (by kernel_rfl) h.m5
theorem WF.put_other {n : Int} {r : WinR} {fs : List (Str × V)} (h : WF n r fs) (v : V) (hs : (fget fs "use_time").isSome = true) : WF n r (fput "use_time" v fs) where
  len := by rw [fput_len, hs]; exact h.len
  number := fgp (by kernel_rfl) h.number
  sort := fgp (by kernel_rfl) h.sort
  parent := fgp (by kernel_rfl) h.parent
  children := fgp (by kernel_rfl) h.children
  left := fgp (by kernel_rfl) h.left
  top := fgp (by kernel_rfl) h.top
  width := fgp (by kernel_rfl) h.width
  height := fgp (by kernel_rfl) h.height
  buffer := fgp (by kernel_rfl) h.buffer
  start := fgp (by kernel_rfl) h.start
  point := fgp (by kernel_rfl) h.point
  hscroll := fgp (by kernel_rfl) h.hscroll
  earlier := fgp (by kernel_rfl) h.earlier
  m1 := fgp (by kernel_rfl) h.m1
  m2 := fgp (by kernel_rfl) h.m2
  m3 := fgp (by kernel_rfl) h.m3
  m4 := fgp (by kernel_rfl) h.m4
  m5 := fgp (by kernel_rfl) h.m5
theorem TF.put_last {S : Store} {fs : List (Str × V)} (h : TF S fs) (v : Int) : TF { S with last := v } (fput "last" (.int v) fs) where
  len := fpl h.last h.len
  windows := fgp (by kernel_rfl) h.windows
  last := fgs
  root := fgp (by kernel_rfl) h.root
  lw := fgp (by kernel_rfl) h.lw
  lh := fgp (by kernel_rfl) h.lh
  selected := fgp (by kernel_rfl) h.selected
  m1 := fgp (by kernel_rfl) h.m1
  m2 := fgp (by kernel_rfl) h.m2
  m3 := fgp (by kernel_rfl) h.m3
theorem TF.put_root {S : Store} {fs : List (Str × V)} (h : TF S fs) (v : Int) : TF { S with root := v } (fput "root" (.int v) fs) where
  len := fpl h.root h.len
  windows := fgp (by kernel_rfl) h.windows
  last := fgp (by kernel_rfl) h.last
  root := fgs
  lw := fgp (by kernel_rfl) h.lw
  lh := fgp (by kernel_rfl) h.lh
  selected := fgp (by kernel_rfl) h.selected
  m1 := fgp (by kernel_rfl) h.m1
  m2 := fgp (by kernel_rfl) h.m2
  m3 := fgp (by kernel_rfl) h.m3
theorem at_set {mo : EM} {x : Str} {v : V} {ρ : Loc} {μ : Mem} {k : Nat} {C : Addr} {fs : List (Str × V)} (hm : mo ρ μ = some (.obj k, μ)) (hg : μ.get k = some (.inst C fs)) (hl : fs.length ≤ 20) : aAttr mo C x v ρ μ = some (ρ, μ.set k (.inst C (fput x v fs))) := by
  unfold aAttr
  rw [hm]; dsimp only
  rw [hg]; dsimp only
  rw [if_pos ⟨rfl, by exact om46 hl⟩]
theorem if_t {t : TM} {m m' : SM} {ρ : Loc} {μ : Mem} (h : t ρ μ = some (true, μ)) : sIf t m m' ρ μ = m ρ μ := by unfold sIf; rw [h]
theorem if_f {t : TM} {m m' : SM} {ρ : Loc} {μ : Mem} (h : t ρ μ = some (false, μ)) : sIf t m m' ρ μ = m' ρ μ := by unfold sIf; rw [h]
theorem st_set {e mo : EM} {x : Str} {v : V} {ρ : Loc} {μ : Mem} {k : Nat} {C : Addr} {fs : List (Str × V)} (he : e ρ μ = some (v, μ)) (hm : mo ρ μ = some (.obj k, μ)) (hg : μ.get k = some (.inst C fs)) (hl : fs.length ≤ 20) : sAssign e (aAttr mo C x) ρ μ = some (.next, ρ, μ.set k (.inst C (fput x v fs))) := st_assign he (at_set hm hg hl)
theorem tup_at {as : AsM} {vs : List V} {ρ : Loc} {μ : Mem} : aTup as (.tup vs) ρ μ = as vs ρ μ := rfl
theorem cons_at {a : AM} {as : AsM} {v : V} {vs : List V} {ρ ρ1 : Loc} {μ μ1 : Mem} (h : a v ρ μ = some (ρ1, μ1)) : asCons a as (v :: vs) ρ μ = as vs ρ1 μ1 := by
  show (match a v ρ μ with | some (ρ1, μ1) => as vs ρ1 μ1 | none => none) = _
  rw [h]
theorem nil_at {ρ : Loc} {μ : Mem} : asNil [] ρ μ = some (ρ, μ) := rfl
theorem name_at {x : Str} {v : V} {as : AsM} {vs : List V} {ρ : Loc} {μ : Mem} : asCons (aName x) as (v :: vs) ρ μ = as vs (put ρ x v) μ := cons_at rfl
section
variable {μ : Mem} {ro : Nat → Option Role} {S : Store} {n : Int} {r : WinR}
theorem h_size (R : RT μ ro S) (hn : S.ws n = some r) (ax : Int) : m_wi_size [.obj r.o, .int ax] μ = some (.int (if ax = 0 then r.width else r.height), μ) := by
  obtain ⟨fs, hg, wf⟩ := R.wn n r hn
  refine run_ret rfl (seq_ret (st_ret ?_))
  by_cases h : ax = 0 <;> simp [eName, eInt, eNone, eBool, bind2_some, bind2, eAttr, eIf, tCmp, eCmp, tNot, tAnd, tOr, tVal, cv_eq, cv_ne, cv_lt, cv_le, cv_gt, cv_is, isN_none, isN_int, isN_obj, eBin, iBin, eMeth, lCons, lNil, eCall, eSub, eBM, eList, eTup, eDict0, mLen, mList, mDict, mGet, mIndex, mAppend, mExtend, mPop, mDPop, mInsert, mRemove, isList, isDict, bindv_cons, bindv_nil, put_at, ofString_inj, Option.map_some, List.length_cons, List.length_nil, hg, wf.width, wf.height, h]
theorem h_place (R : RT μ ro S) (hn : S.ws n = some r) (ax : Int) : m_wi_place [.obj r.o, .int ax] μ = some (.int (if ax = 0 then r.left else r.top), μ) := by
  obtain ⟨fs, hg, wf⟩ := R.wn n r hn
  refine run_ret rfl (seq_ret (st_ret ?_))
  by_cases h : ax = 0 <;> simp [eName, eInt, eNone, eBool, bind2_some, bind2, eAttr, eIf, tCmp, eCmp, tNot, tAnd, tOr, tVal, cv_eq, cv_ne, cv_lt, cv_le, cv_gt, cv_is, isN_none, isN_int, isN_obj, eBin, iBin, eMeth, lCons, lNil, eCall, eSub, eBM, eList, eTup, eDict0, mLen, mList, mDict, mGet, mIndex, mAppend, mExtend, mPop, mDPop, mInsert, mRemove, isList, isDict, bindv_cons, bindv_nil, put_at, ofString_inj, Option.map_some, List.length_cons, List.length_nil, hg, wf.left, wf.top, h]
noncomputable def WinR.shown (r : WinR) : V := .tup [.int r.buf, .int r.st, .int r.pt, .int r.hs]
theorem h_shown (R : RT μ ro S) (hn : S.ws n = some r) : m_wi_shown [.obj r.o] μ = some (r.shown, μ) := by
  obtain ⟨fs, hg, wf⟩ := R.wn n r hn
  refine run_ret rfl (seq_ret (st_ret ?_))
  simp [eName, eInt, eNone, eBool, bind2_some, bind2, eAttr, eIf, tCmp, eCmp, tNot, tAnd, tOr, tVal, cv_eq, cv_ne, cv_lt, cv_le, cv_gt, cv_is, isN_none, isN_int, isN_obj, eBin, iBin, eMeth, lCons, lNil, eCall, eSub, eBM, eList, eTup, eDict0, mLen, mList, mDict, mGet, mIndex, mAppend, mExtend, mPop, mDPop, mInsert, mRemove, isList, isDict, bindv_cons, bindv_nil, put_at, ofString_inj, Option.map_some, List.length_cons, List.length_nil, hg, wf.buffer, wf.start, wf.point, wf.hscroll, WinR.shown]
noncomputable def WinR.sized (r : WinR) (ax v : Int) : WinR := if ax = 0 then { r with width := v } else { r with height := v }
theorem h_set_size (R : RT μ ro S) (hn : S.ws n = some r) (ax v : Int) : ∃ μ', m_wi_set_size [.obj r.o, .int ax, .int v] μ = some (.none, μ') ∧ RT μ' ro (S.upd n (r.sized ax v)) ∧ Step μ ro μ' ro := by
  obtain ⟨fs, hg, wf⟩ := R.wn n r hn
  by_cases h : ax = 0
  · subst h
    obtain ⟨R', st⟩ := R.win hn (wf.put_width v) rfl rfl rfl rfl
    refine ⟨_, run_next rfl ((seq_next ((if_t (by simp [eName, eInt, eNone, eBool, bind2_some, bind2, eAttr, eIf, tCmp, eCmp, tNot, tAnd, tOr, tVal, cv_eq, cv_ne, cv_lt, cv_le, cv_gt, cv_is, isN_none, isN_int, isN_obj, eBin, iBin, eMeth, lCons, lNil, eCall, eSub, eBM, eList, eTup, eDict0, mLen, mList, mDict, mGet, mIndex, mAppend, mExtend, mPop, mDPop, mInsert, mRemove, isList, isDict, bindv_cons, bindv_nil, put_at, ofString_inj, Option.map_some, List.length_cons, List.length_nil])).trans ((seq_next (st_set (v := .int v) (by simp [eName, eInt, eNone, eBool, bind2_some, bind2, eAttr, eIf, tCmp, eCmp, tNot, tAnd, tOr, tVal, cv_eq, cv_ne, cv_lt, cv_le, cv_gt, cv_is, isN_none, isN_int, isN_obj, eBin, iBin, eMeth, lCons, lNil, eCall, eSub, eBM, eList, eTup, eDict0, mLen, mList, mDict, mGet, mIndex, mAppend, mExtend, mPop, mDPop, mInsert, mRemove, isList, isDict, bindv_cons, bindv_nil, put_at, ofString_inj, Option.map_some, List.length_cons, List.length_nil]) (by simp [eName, eInt, eNone, eBool, bind2_some, bind2, eAttr, eIf, tCmp, eCmp, tNot, tAnd, tOr, tVal, cv_eq, cv_ne, cv_lt, cv_le, cv_gt, cv_is, isN_none, isN_int, isN_obj, eBin, iBin, eMeth, lCons, lNil, eCall, eSub, eBM, eList, eTup, eDict0, mLen, mList, mDict, mGet, mIndex, mAppend, mExtend, mPop, mDPop, mInsert, mRemove, isList, isDict, bindv_cons, bindv_nil, put_at, ofString_inj, Option.map_some, List.length_cons, List.length_nil]) hg wf.len)).trans rfl))).trans rfl), ?_, st⟩
    simpa [WinR.sized] using R'
  · obtain ⟨R', st⟩ := R.win hn (wf.put_height v) rfl rfl rfl rfl
    refine ⟨_, run_next rfl ((seq_next ((if_f (by simp [eName, eInt, eNone, eBool, bind2_some, bind2, eAttr, eIf, tCmp, eCmp, tNot, tAnd, tOr, tVal, cv_eq, cv_ne, cv_lt, cv_le, cv_gt, cv_is, isN_none, isN_int, isN_obj, eBin, iBin, eMeth, lCons, lNil, eCall, eSub, eBM, eList, eTup, eDict0, mLen, mList, mDict, mGet, mIndex, mAppend, mExtend, mPop, mDPop, mInsert, mRemove, isList, isDict, bindv_cons, bindv_nil, put_at, ofString_inj, Option.map_some, List.length_cons, List.length_nil, h])).trans ((seq_next (st_set (v := .int v) (by simp [eName, eInt, eNone, eBool, bind2_some, bind2, eAttr, eIf, tCmp, eCmp, tNot, tAnd, tOr, tVal, cv_eq, cv_ne, cv_lt, cv_le, cv_gt, cv_is, isN_none, isN_int, isN_obj, eBin, iBin, eMeth, lCons, lNil, eCall, eSub, eBM, eList, eTup, eDict0, mLen, mList, mDict, mGet, mIndex, mAppend, mExtend, mPop, mDPop, mInsert, mRemove, isList, isDict, bindv_cons, bindv_nil, put_at, ofString_inj, Option.map_some, List.length_cons, List.length_nil]) (by simp [eName, eInt, eNone, eBool, bind2_some, bind2, eAttr, eIf, tCmp, eCmp, tNot, tAnd, tOr, tVal, cv_eq, cv_ne, cv_lt, cv_le, cv_gt, cv_is, isN_none, isN_int, isN_obj, eBin, iBin, eMeth, lCons, lNil, eCall, eSub, eBM, eList, eTup, eDict0, mLen, mList, mDict, mGet, mIndex, mAppend, mExtend, mPop, mDPop, mInsert, mRemove, isList, isDict, bindv_cons, bindv_nil, put_at, ofString_inj, Option.map_some, List.length_cons, List.length_nil]) hg wf.len)).trans rfl))).trans rfl), ?_, st⟩
    simpa [WinR.sized, h] using R'
theorem upd_upd (S : Store) (n : Int) (a b : WinR) : (S.upd n a).upd n b = S.upd n b := by
  unfold Store.upd
  congr 1
  funext m
  by_cases h : m = n <;> simp [h]
theorem h_show (R : RT μ ro S) (hn : S.ws n = some r) (a b c d : Int) : ∃ μ', m_wi_show [.obj r.o, .tup [.int a, .int b, .int c, .int d]] μ = some (.none, μ') ∧ RT μ' ro (S.upd n (r.setShown a b c d)) ∧ Step μ ro μ' ro := by
  obtain ⟨fs, hg, wf⟩ := R.wn n r hn
  obtain ⟨R1, s1⟩ := R.win hn (wf.put_buffer a) rfl rfl rfl rfl
  have w1 := wf.put_buffer a
  obtain ⟨R2, s2⟩ := R1.win (upd_self _ _ _) (w1.put_start b) rfl rfl rfl rfl
  have w2 := w1.put_start b
  obtain ⟨R3, s3⟩ := R2.win (upd_self _ _ _) (w2.put_point c) rfl rfl rfl rfl
  have w3 := w2.put_point c
  obtain ⟨R4, s4⟩ := R3.win (upd_self _ _ _) (w3.put_hscroll d) rfl rfl rfl rfl
  rw [upd_upd, upd_upd, upd_upd] at R4
  refine ⟨_, run_next (ρ1 := bindv [("self" : Str), ("told" : Str)] [.obj r.o, .tup [.int a, .int b, .int c, .int d]]) rfl ((seq_next (st_assign (v := .tup [.int a, .int b, .int c, .int d]) (μ1 := μ) (by simp [eName, eInt, eNone, eBool, bind2_some, bind2, eAttr, eIf, tCmp, eCmp, tNot, tAnd, tOr, tVal, cv_eq, cv_ne, cv_lt, cv_le, cv_gt, cv_is, isN_none, isN_int, isN_obj, eBin, iBin, eMeth, lCons, lNil, eCall, eSub, eBM, eList, eTup, eDict0, mLen, mList, mDict, mGet, mIndex, mAppend, mExtend, mPop, mDPop, mInsert, mRemove, isList, isDict, bindv_cons, bindv_nil, put_at, ofString_inj, Option.map_some, List.length_cons, List.length_nil]) ?_)).trans rfl), R4, ((s1.trans s2).trans s3).trans s4⟩
  have hs : ∀ {μ : Mem}, eName "self" (bindv [("self" : Str), ("told" : Str)] [.obj r.o, .tup [.int a, .int b, .int c, .int d]]) μ = some (.obj r.o, μ) := fun {μ} => by simp [eName, eInt, eNone, eBool, bind2_some, bind2, eAttr, eIf, tCmp, eCmp, tNot, tAnd, tOr, tVal, cv_eq, cv_ne, cv_lt, cv_le, cv_gt, cv_is, isN_none, isN_int, isN_obj, eBin, iBin, eMeth, lCons, lNil, eCall, eSub, eBM, eList, eTup, eDict0, mLen, mList, mDict, mGet, mIndex, mAppend, mExtend, mPop, mDPop, mInsert, mRemove, isList, isDict, bindv_cons, bindv_nil, put_at, ofString_inj, Option.map_some, List.length_cons, List.length_nil]
  rw [tup_at, cons_at (at_set hs hg wf.len), cons_at (at_set hs (by rw [get_set, if_pos rfl]) w1.len), cons_at (at_set hs (by rw [get_set, if_pos rfl]) w2.len), cons_at (at_set hs (by rw [get_set, if_pos rfl]) w3.len)]
  rfl
theorem h_windows (R : RT μ ro S) (hn : S.ws n = some r) : ∃ fs es, μ.get S.t = some (.inst 164 fs) ∧ TF S fs ∧ μ.get S.wd = some (.dict es) ∧ (es.find? fun e => e.1 = n).map (·.2) = some (.obj r.o) := by
  obtain ⟨fs, a, b⟩ := R.tr
  obtain ⟨es, c, d, e⟩ := R.dc
  exact ⟨fs, es, a, b, c, by rw [e, hn]; rfl⟩
theorem h_at {et en : EM} {ρ : Loc} (R : RT μ ro S) (hn : S.ws n = some r) (ht : et ρ μ = some (.obj S.t, μ)) (he : en ρ μ = some (.int n, μ)) : eSub (eAttr et 164 "windows") en ρ μ = some (.obj r.o, μ) := by
  obtain ⟨fs, es, a, b, c, d⟩ := h_windows R hn
  simp only [eSub, eAttr, ht, bind2_some, a, reduceIte, b.windows, Option.map_some, he, c, d]
theorem h_fld {eo : EM} {ρ : Loc} {x : Str} {v : V} (R : RT μ ro S) (hn : S.ws n = some r) (ho : eo ρ μ = some (.obj r.o, μ)) (hf : ∀ fs, WF n r fs → fget fs x = some v) : eAttr eo 93 x ρ μ = some (v, μ) := by
  obtain ⟨fs, hg, wf⟩ := R.wn n r hn
  simp only [eAttr, ho, bind2_some, hg, reduceIte, hf fs wf, Option.map_some]
theorem h_tfld {eo : EM} {ρ : Loc} {x : Str} {v : V} (R : RT μ ro S) (ho : eo ρ μ = some (.obj S.t, μ)) (hf : ∀ fs, TF S fs → fget fs x = some v) : eAttr eo 164 x ρ μ = some (v, μ) := by
  obtain ⟨fs, hg, tf⟩ := R.tr
  simp only [eAttr, ho, bind2_some, hg, reduceIte, hf fs tf, Option.map_some]
theorem h_meth {eo : EM} {ms : LM} {m : FM} {ρ : Loc} {x : Str} {vs : List V} {v : V} {μ' : Mem} (R : RT μ ro S) (hn : S.ws n = some r) (ho : eo ρ μ = some (.obj r.o, μ)) (hx : ∀ fs, WF n r fs → fget fs x = none) (hm : ms ρ μ = some (vs, μ)) (h : m (.obj r.o :: vs) μ = some (v, μ')) : eMeth eo 93 x ms m ρ μ = some (v, μ') := by
  obtain ⟨fs, hg, wf⟩ := R.wn n r hn
  simp only [eMeth, ho, bind2_some, hg, hx fs wf, and_self, reduceIte, hm, h]
theorem h_tmeth {eo : EM} {ms : LM} {m : FM} {ρ : Loc} {x : Str} {vs : List V} {v : V} {μ' : Mem} (R : RT μ ro S) (ho : eo ρ μ = some (.obj S.t, μ)) (hx : ∀ fs, TF S fs → fget fs x = none) (hm : ms ρ μ = some (vs, μ)) (h : m (.obj S.t :: vs) μ = some (v, μ')) : eMeth eo 164 x ms m ρ μ = some (v, μ') := by
  obtain ⟨fs, hg, tf⟩ := R.tr
  simp only [eMeth, ho, bind2_some, hg, hx fs tf, and_self, reduceIte, hm, h]
theorem h_window (R : RT μ ro S) (hn : S.ws n = some r) : m_wt_window [.obj S.t, .int n] μ = some (.obj r.o, μ) := by
  obtain ⟨fs, es, a, b, c, d⟩ := h_windows R hn
  refine run_ret rfl ((seq_next (st_name (v := .obj r.o) (μ1 := μ) ?_)).trans ((seq_next (if_f (by simp [eName, eInt, eNone, eBool, bind2_some, bind2, eAttr, eIf, tCmp, eCmp, tNot, tAnd, tOr, tVal, cv_eq, cv_ne, cv_lt, cv_le, cv_gt, cv_is, isN_none, isN_int, isN_obj, eBin, iBin, eMeth, lCons, lNil, eCall, eSub, eBM, eList, eTup, eDict0, mLen, mList, mDict, mGet, mIndex, mAppend, mExtend, mPop, mDPop, mInsert, mRemove, isList, isDict, bindv_cons, bindv_nil, put_at, ofString_inj, Option.map_some, List.length_cons, List.length_nil]))).trans (seq_ret (st_ret (by simp [eName, eInt, eNone, eBool, bind2_some, bind2, eAttr, eIf, tCmp, eCmp, tNot, tAnd, tOr, tVal, cv_eq, cv_ne, cv_lt, cv_le, cv_gt, cv_is, isN_none, isN_int, isN_obj, eBin, iBin, eMeth, lCons, lNil, eCall, eSub, eBM, eList, eTup, eDict0, mLen, mList, mDict, mGet, mIndex, mAppend, mExtend, mPop, mDPop, mInsert, mRemove, isList, isDict, bindv_cons, bindv_nil, put_at, ofString_inj, Option.map_some, List.length_cons, List.length_nil])))))
  simp [eName, eInt, eNone, eBool, bind2_some, bind2, eAttr, eIf, tCmp, eCmp, tNot, tAnd, tOr, tVal, cv_eq, cv_ne, cv_lt, cv_le, cv_gt, cv_is, isN_none, isN_int, isN_obj, eBin, iBin, eMeth, lCons, lNil, eCall, eSub, eBM, eList, eTup, eDict0, mLen, mList, mDict, mGet, mIndex, mAppend, mExtend, mPop, mDPop, mInsert, mRemove, isList, isDict, bindv_cons, bindv_nil, put_at, ofString_inj, Option.map_some, List.length_cons, List.length_nil, a, b.windows, c, d]
theorem h_least_leaf (R : RT μ ro S) (ax : Int) : m_wt_least_leaf [.obj S.t, .int ax] μ = some (.int (if ax = 0 then 3 else 2), μ) := by
  obtain ⟨fs, a, b⟩ := R.tr
  refine run_ret rfl (seq_ret (st_ret ?_))
  by_cases h : ax = 0 <;> simp [eName, eInt, eNone, eBool, bind2_some, bind2, eAttr, eIf, tCmp, eCmp, tNot, tAnd, tOr, tVal, cv_eq, cv_ne, cv_lt, cv_le, cv_gt, cv_is, isN_none, isN_int, isN_obj, eBin, iBin, eMeth, lCons, lNil, eCall, eSub, eBM, eList, eTup, eDict0, mLen, mList, mDict, mGet, mIndex, mAppend, mExtend, mPop, mDPop, mInsert, mRemove, isList, isDict, bindv_cons, bindv_nil, put_at, ofString_inj, Option.map_some, List.length_cons, List.length_nil, a, b.lw, b.lh, h]
theorem h_along (s : Int) : m_along [.int s] μ = some (.int (if s = 2 then 0 else 1), μ) := by
  refine run_ret rfl (seq_ret (st_ret ?_))
  by_cases h : s = 2 <;> simp [eName, eInt, eNone, eBool, bind2_some, bind2, eAttr, eIf, tCmp, eCmp, tNot, tAnd, tOr, tVal, cv_eq, cv_ne, cv_lt, cv_le, cv_gt, cv_is, isN_none, isN_int, isN_obj, eBin, iBin, eMeth, lCons, lNil, eCall, eSub, eBM, eList, eTup, eDict0, mLen, mList, mDict, mGet, mIndex, mAppend, mExtend, mPop, mDPop, mInsert, mRemove, isList, isDict, bindv_cons, bindv_nil, put_at, ofString_inj, Option.map_some, List.length_cons, List.length_nil, h]
theorem h_sort_along (a : Int) : m_sort_along [.int a] μ = some (.int (if a = 0 then 2 else 1), μ) := by
  refine run_ret rfl (seq_ret (st_ret ?_))
  by_cases h : a = 0 <;> simp [eName, eInt, eNone, eBool, bind2_some, bind2, eAttr, eIf, tCmp, eCmp, tNot, tAnd, tOr, tVal, cv_eq, cv_ne, cv_lt, cv_le, cv_gt, cv_is, isN_none, isN_int, isN_obj, eBin, iBin, eMeth, lCons, lNil, eCall, eSub, eBM, eList, eTup, eDict0, mLen, mList, mDict, mGet, mIndex, mAppend, mExtend, mPop, mDPop, mInsert, mRemove, isList, isDict, bindv_cons, bindv_nil, put_at, ofString_inj, Option.map_some, List.length_cons, List.length_nil, h]
end
end Mine
end
section
set_option maxRecDepth 10000
open PySem PySem.W PySem.Calls PyProof.Rows
namespace Mine
theorem h_winit (μ : Mem) (k : Nat) (hg : μ.get k = some (.inst 93 [])) (hk : k < μ.n) (n sort parent : Int) : ∃ μ', m_wi_init [.obj k, .int n, .int sort, .int parent] μ = some (.none, μ') ∧ μ'.n = μ.n + 3 ∧
    (∃ fs, μ'.get k = some (.inst 93 fs) ∧ WF n ⟨k, μ.n, μ.n + 1, sort, parent, 0, 0, 0, 0, 0, 1, 1, 0, []⟩ fs ∧ (fget fs "use_time").isSome = true) ∧ μ'.get μ.n = some (.list []) ∧ μ'.get (μ.n + 1) = some (.list []) ∧ (∀ j, j ≠ k → j < μ.n → μ'.get j = μ.get j) := by
  have key : ∃ μ', b_wi_init (bindv [("self" : Str), ("number" : Str), ("sort" : Str), ("parent" : Str)] [.obj k, .int n, .int sort, .int parent]) μ = some (.next, bindv [("self" : Str), ("number" : Str), ("sort" : Str), ("parent" : Str)] [.obj k, .int n, .int sort, .int parent], μ') ∧ μ'.n = μ.n + 3 ∧
    (∃ fs, μ'.get k = some (.inst 93 fs) ∧ WF n ⟨k, μ.n, μ.n + 1, sort, parent, 0, 0, 0, 0, 0, 1, 1, 0, []⟩ fs ∧ (fget fs "use_time").isSome = true) ∧ μ'.get μ.n = some (.list []) ∧ μ'.get (μ.n + 1) = some (.list []) ∧ (∀ j, j ≠ k → j < μ.n → μ'.get j = μ.get j) := by
    generalize hρ : bindv [("self" : Str), ("number" : Str), ("sort" : Str), ("parent" : Str)] [.obj k, .int n, .int sort, .int parent] = ρ
    have hs : ∀ m, eName "self" ρ m = some (.obj k, m) := fun m => nm (lk hρ (by kernel_rfl))
    have Z : ∀ (m : Mem) fs x v e rest, m.get k = some (.inst 93 fs) → fs.length ≤ 20 → e ρ m = some (v, m) → sSeq (sAssign e (aAttr (eName "self") 93 x)) rest ρ m = rest ρ (m.set k (.inst 93 (fput x v fs))) :=
      fun m fs x v e rest h1 h2 h3 => seq_next (st_set h3 (hs m) h1 h2)
    have L : ∀ (m : Mem) fs x rest, m.get k = some (.inst 93 fs) → fs.length ≤ 20 → k < m.n → sSeq (sAssign (eList lNil) (aAttr (eName "self") 93 x)) rest ρ m = rest ρ ((m.new (.list [])).set k (.inst 93 (fput x (.obj m.n) fs))) :=
      fun m fs x rest h1 h2 h3 => seq_next (st_assign (v := .obj m.n) (μ1 := m.new (.list [])) (by simp [eName, eInt, eNone, eBool, bind2_some, bind2, eAttr, eIf, tCmp, eCmp, tNot, tAnd, tOr, tVal, cv_eq, cv_ne, cv_lt, cv_le, cv_gt, cv_is, isN_none, isN_int, isN_obj, eBin, iBin, eMeth, lCons, lNil, eCall, eSub, eBM, eList, eTup, eDict0, mLen, mList, mDict, mGet, mIndex, mAppend, mExtend, mPop, mDPop, mInsert, mRemove, isList, isDict, bindv_cons, bindv_nil, put_at, ofString_inj, Option.map_some, List.length_cons, List.length_nil]) (at_set (hs _) (by rw [get_new, if_neg (by exact om47 h3)]; exact h1) h2))
    have gs : ∀ (m : Mem) o, (m.set k o).get k = some o := fun m o => by rw [get_set, if_pos rfl]
    have hρ' : ρ = bindv [("self" : Str), ("number" : Str), ("sort" : Str), ("parent" : Str)] [.obj k, .int n, .int sort, .int parent] := hρ.symm
    have en : ∀ m, eName "number" ρ m = some (.int n, m) := fun m => nm (lk hρ (by kernel_rfl))
    have es : ∀ m, eName "sort" ρ m = some (.int sort, m) := fun m => nm (lk hρ (by kernel_rfl))
    have ep : ∀ m, eName "parent" ρ m = some (.int parent, m) := fun m => nm (lk hρ (by kernel_rfl))
    unfold b_wi_init
    rw [Z _ _ "number" (.int n) _ _ hg (by simp) (en _)]
    rw [Z _ _ "sort" (.int sort) _ _ (gs _ _) (Nat.le_of_ble_eq_true (by kernel_rfl)) (es _)]
    rw [Z _ _ "parent" (.int parent) _ _ (gs _ _) (Nat.le_of_ble_eq_true (by kernel_rfl)) (ep _)]
    rw [L _ _ "children" _ (gs _ _) (Nat.le_of_ble_eq_true (by kernel_rfl)) (by simp [n_set, n_new]; exact om48 hk)]
    rw [Z _ _ "left" (.int 0) _ _ (gs _ _) (Nat.le_of_ble_eq_true (by kernel_rfl)) rfl]
    rw [Z _ _ "top" (.int 0) _ _ (gs _ _) (Nat.le_of_ble_eq_true (by kernel_rfl)) rfl]
    rw [Z _ _ "width" (.int 0) _ _ (gs _ _) (Nat.le_of_ble_eq_true (by kernel_rfl)) rfl]
    rw [Z _ _ "height" (.int 0) _ _ (gs _ _) (Nat.le_of_ble_eq_true (by kernel_rfl)) rfl]
    rw [Z _ _ "buffer" (.int 0) _ _ (gs _ _) (Nat.le_of_ble_eq_true (by kernel_rfl)) rfl]
    rw [Z _ _ "start" (.int 1) _ _ (gs _ _) (Nat.le_of_ble_eq_true (by kernel_rfl)) rfl]
    rw [Z _ _ "point" (.int 1) _ _ (gs _ _) (Nat.le_of_ble_eq_true (by kernel_rfl)) rfl]
    rw [Z _ _ "hscroll" (.int 0) _ _ (gs _ _) (Nat.le_of_ble_eq_true (by kernel_rfl)) rfl]
    rw [Z _ _ "is_dedicated" (.bool false) _ _ (gs _ _) (Nat.le_of_ble_eq_true (by kernel_rfl)) rfl]
    rw [Z _ _ "use_time" (.int 0) _ _ (gs _ _) (Nat.le_of_ble_eq_true (by kernel_rfl)) rfl]
    rw [L _ _ "earlier" _ (gs _ _) (Nat.le_of_ble_eq_true (by kernel_rfl)) (by simp [n_set, n_new]; exact om49 hk)]
    rw [L _ _ "later" _ (gs _ _) (Nat.le_of_ble_eq_true (by kernel_rfl)) (by simp [n_set, n_new]; exact om50 hk)]
    refine ⟨_, rfl, ?_, ⟨_, gs _ _, ?_, ?_⟩, ?_, ?_, ?_⟩
    · rfl
    · exact ⟨Nat.le_of_ble_eq_true (by kernel_rfl), by kernel_rfl, by kernel_rfl, by kernel_rfl, by kernel_rfl, by kernel_rfl, by kernel_rfl, by kernel_rfl, by kernel_rfl, by kernel_rfl, by kernel_rfl, by kernel_rfl, by kernel_rfl, by kernel_rfl, by kernel_rfl, by kernel_rfl, by kernel_rfl, by kernel_rfl, by kernel_rfl⟩
    · kernel_rfl
    · simp only [get_set, get_new, n_set, n_new]
      repeat (first | rw [if_pos trivial] | rw [if_neg (by omega)] | rw [if_pos rfl])
    · simp only [get_set, get_new, n_set, n_new]
      repeat (first | rw [if_pos trivial] | rw [if_neg (by omega)] | rw [if_pos rfl])
    · intro j h1 h2
      simp only [get_set, get_new, n_set, n_new]
      have a1 : ¬ j = μ.n + 1 + 1 := by exact om51 h2
      have a2 : ¬ j = μ.n + 1 := by exact om52 h2
      have a3 : ¬ j = μ.n := by exact om47 h2
      simp [h1, a1, a2, a3]
  obtain ⟨μ', h, r⟩ := key
  exact ⟨μ', run_next rfl h, r⟩
end Mine
end
section
set_option maxRecDepth 10000
open PySem PySem.W PySem.Calls PyProof.Rows
namespace Mine
theorem dstore_at (es : List (Int × V)) (i : Int) (v : V) (hno : (es.find? fun e => e.1 = i).map (·.2) = none) (n : Int) :
    ((dstore es i v).find? fun e => e.1 = n).map (·.2) = if n = i then some v else (es.find? fun e => e.1 = n).map (·.2) := by
  have hf : es.find? (fun e => decide (e.1 = i)) = none := by
    cases q : es.find? (fun e => decide (e.1 = i)) with
    | none => rfl
    | some x => rw [q] at hno; cases hno
  have hany : es.any (fun e => decide (e.1 = i)) = false := by
    rw [List.any_eq_false]
    intro x hx
    rw [List.find?_eq_none] at hf
    exact hf x hx
  unfold dstore
  rw [hany, if_neg (by simp), List.find?_append]
  by_cases h : n = i
  · subst h
    rw [hf, if_pos rfl]
    simp
  · rw [if_neg h]
    cases q : es.find? (fun e => decide (e.1 = n)) with
    | some x => rfl
    | none => simp [Ne.symm h]
theorem dstore_len (es : List (Int × V)) (i : Int) (v : V) : (dstore es i v).length ≤ es.length + 1 := by
  unfold dstore
  split <;> simp
theorem filter_at (es : List (Int × V)) (i n : Int) : ((es.filter fun e => decide (e.1 ≠ i)).find? fun e => e.1 = n).map (·.2) = if n = i then none else (es.find? fun e => e.1 = n).map (·.2) := by
  induction es with
  | nil => simp
  | cons x r ih =>
    by_cases hx : x.1 = i
    · rw [List.filter_cons_of_neg (by simpa using hx), ih]
      by_cases h : n = i
      · simp [h]
      · rw [if_neg h, if_neg h, List.find?_cons_of_neg (by simp; exact om53 hx h)]
    · rw [List.filter_cons_of_pos (by simpa using hx)]
      by_cases h : x.1 = n
      · rw [List.find?_cons_of_pos (by simpa using h), List.find?_cons_of_pos (by simpa using h), if_neg (by exact om54 h hx)]
      · rw [List.find?_cons_of_neg (by simpa using h), List.find?_cons_of_neg (by simpa using h), ih]
section
variable {μ μ0 : Mem} {ro ro0 : Nat → Option Role} {S : Store} {n : Int} {r : WinR}
noncomputable def Store.add (S : Store) (r : WinR) : Store := { S with last := S.last + 1, ws := fun m => if m = S.last + 1 then some r else S.ws m }
theorem RT.add (R : RT μ ro S) {μ' : Mem} (hn : μ.n ≤ μ'.n) (ho : μ.n ≤ r.o ∧ r.o < μ'.n) (hc : μ.n ≤ r.c ∧ r.c < μ'.n) (he : μ.n ≤ r.e ∧ r.e < μ'.n) (d1 : r.o ≠ r.c) (d2 : r.o ≠ r.e) (d3 : r.c ≠ r.e)
    (keep : ∀ j, j < μ.n → j ≠ S.t → j ≠ S.wd → μ'.get j = μ.get j) (ht : ∃ fs, μ'.get S.t = some (.inst 164 fs) ∧ TF { S with last := S.last + 1 } fs)
    (hd : ∀ es, μ.get S.wd = some (.dict es) → μ'.get S.wd = some (.dict (dstore es (S.last + 1) (.obj r.o)))) (hw : ∃ fs, μ'.get r.o = some (.inst 93 fs) ∧ WF (S.last + 1) r fs)
    (hk : μ'.get r.c = some (.list (r.kids.map .int))) (hee : μ'.get r.e = some (.list [])) (h9 : S.last + 1 ≤ 900) : ∃ ro', RT μ' ro' (S.add r) ∧ Step μ ro μ' ro' := by
  have hne : ∀ {j x}, ro j = some x → x ≠ .tree → x ≠ .dict → (fun j => if j = r.o then some (Role.win (S.last + 1)) else if j = r.c then some (.kids (S.last + 1)) else if j = r.e then some .earl else ro j) j = some x ∧ μ'.get j = μ.get j := fun {j x} e h1 h2 => by
    have hj := R.lt j x e
    refine ⟨?_, keep j hj (fun q => h1 (by rw [q, R.rt] at e; cases e; rfl)) fun q => h2 (by rw [q, R.rd] at e; cases e; rfl)⟩
    show (if j = r.o then _ else if j = r.c then _ else if j = r.e then _ else ro j) = _
    rw [if_neg (by exact om45 hj ho.1), if_neg (by exact om45 hj hc.1), if_neg (by exact om45 hj he.1)]; exact e
  have hnone : S.ws (S.last + 1) = none := R.fr _ (by exact om55)
  have cs : ∀ {m q}, (S.add r).ws m = some q → (m = S.last + 1 ∧ q = r) ∨ (m ≠ S.last + 1 ∧ S.ws m = some q) := fun {m q} e => by
    have e' : (if m = S.last + 1 then some r else S.ws m) = some q := e
    by_cases hm : m = S.last + 1
    · rw [if_pos hm] at e'; cases e'; exact .inl ⟨hm, rfl⟩
    · rw [if_neg hm] at e'; exact .inr ⟨hm, e'⟩
  have lt1 := R.lt _ _ R.rt
  have lt2 := R.lt _ _ R.rd
  refine ⟨fun j => if j = r.o then some (Role.win (S.last + 1)) else if j = r.c then some (.kids (S.last + 1)) else if j = r.e then some .earl else ro j, ⟨?_, ?_, fun m q e => ?_, fun m q e => ?_, fun m q e => ?_, ?_, ?_, fun m q e => ?_, fun j x e => ?_, fun m hm => ?_, ?_, h9, fun j m e => ?_⟩, ⟨hn, fun j h1 h2 => ?_, fun j h1 => ?_⟩⟩
  · obtain ⟨fs, a, b⟩ := ht
    exact ⟨fs, a, ⟨b.len, b.windows, b.last, b.root, b.lw, b.lh, b.selected, b.m1, b.m2, b.m3⟩⟩
  · obtain ⟨es, a, b, c⟩ := R.dc
    refine ⟨_, hd es a, ?_, fun m => ?_⟩
    · have := dstore_len es (S.last + 1) (.obj r.o)
      show _ ≤ S.last + 1
      exact om56 b this
    · rw [dstore_at _ _ _ (by rw [c, hnone]; rfl), c m]
      show _ = Option.map _ (if m = S.last + 1 then some r else S.ws m)
      split <;> rfl
  · rcases cs e with ⟨rfl, rfl⟩ | ⟨hm, e⟩
    · exact hw
    · rw [(hne (R.rw m q e).1 (by simp) (by simp)).2]; exact R.wn m q e
  · rcases cs e with ⟨rfl, rfl⟩ | ⟨hm, e⟩
    · exact hk
    · rw [(hne (R.rw m q e).2.1 (by simp) (by simp)).2]; exact R.kd m q e
  · rcases cs e with ⟨rfl, rfl⟩ | ⟨hm, e⟩
    · exact hee
    · rw [(hne (R.rw m q e).2.2 (by simp) (by simp)).2]; exact R.er m q e
  · show (if S.t = r.o then _ else if S.t = r.c then _ else if S.t = r.e then _ else ro S.t) = _
    rw [if_neg (by exact om45 lt1 ho.1), if_neg (by exact om45 lt1 hc.1), if_neg (by exact om45 lt1 he.1)]; exact R.rt
  · show (if S.wd = r.o then _ else if S.wd = r.c then _ else if S.wd = r.e then _ else ro S.wd) = _
    rw [if_neg (by exact om45 lt2 ho.1), if_neg (by exact om45 lt2 hc.1), if_neg (by exact om45 lt2 he.1)]; exact R.rd
  · rcases cs e with ⟨rfl, rfl⟩ | ⟨hm, e⟩
    · refine ⟨if_pos rfl, ?_, ?_⟩
      · show (if q.c = q.o then _ else if q.c = q.c then _ else _) = _
        rw [if_neg (Ne.symm d1), if_pos rfl]
      · show (if q.e = q.o then _ else if q.e = q.c then _ else if q.e = q.e then _ else _) = _
        rw [if_neg (Ne.symm d2), if_neg (Ne.symm d3), if_pos rfl]
    · have h := R.rw m q e
      exact ⟨(hne h.1 (by simp) (by simp)).1, (hne h.2.1 (by simp) (by simp)).1, (hne h.2.2 (by simp) (by simp)).1⟩
  · have e' : (if j = r.o then some (Role.win (S.last + 1)) else if j = r.c then some (.kids (S.last + 1)) else if j = r.e then some .earl else ro j) = some x := e
    split at e'
    · omega
    · split at e'
      · omega
      · split at e'
        · omega
        · exact Nat.lt_of_lt_of_le (R.lt j x e') hn
  · have hm' : S.last + 1 < m := hm
    show (if m = S.last + 1 then some r else S.ws m) = none
    rw [if_neg (by exact om57 hm')]; exact R.fr m (by exact om58 hm')
  · have := R.l0; show 0 ≤ S.last + 1; exact om59 this
  · have e' : (if j = r.o then some (Role.win (S.last + 1)) else if j = r.c then some (.kids (S.last + 1)) else if j = r.e then some .earl else ro j) = some (.win m) := e
    split at e'
    · rename_i hj
      cases e'
      refine ⟨Int.le_refl _, fun q hq => ?_⟩
      rcases cs hq with ⟨_, rfl⟩ | ⟨h, _⟩
      · exact hj.symm
      · exact absurd rfl h
    · split at e'
      · cases e'
      · split at e'
        · cases e'
        · have hu := R.uq j m e'
          refine ⟨by show m ≤ S.last + 1; exact om60 hu.1, fun q hq => ?_⟩
          rcases cs hq with ⟨h, _⟩ | ⟨_, h⟩
          · exact om61 h hu.1
          · exact hu.2 q h
  · exact keep j h1 (fun q => by rw [q, R.rt] at h2; cases h2) fun q => by rw [q, R.rd] at h2; cases h2
  · show (if j = r.o then _ else if j = r.c then _ else if j = r.e then _ else ro j) = _
    rw [if_neg (by exact om45 h1 ho.1), if_neg (by exact om45 h1 hc.1), if_neg (by exact om45 h1 he.1)]
theorem h_fresh (R : RT μ ro S) (h9 : S.last + 1 ≤ 900) (sort parent : Int) : ∃ μ' ro' r, m_wt_fresh [.obj S.t, .int sort, .int parent] μ = some (.obj r.o, μ') ∧ (∃ o c e, r = ⟨o, c, e, sort, parent, 0, 0, 0, 0, 0, 1, 1, 0, []⟩) ∧ RT μ' ro' (S.add r) ∧ Step μ ro μ' ro' := by
  refine byc fun hG => ?_
  obtain ⟨fs, a, tf⟩ := R.tr
  obtain ⟨es, d, dl, dd⟩ := R.dc
  have lt1 := R.lt _ _ R.rt
  have lt2 := R.lt _ _ R.rd
  have hne : S.t ≠ S.wd := fun q => by have := R.rt; rw [q, R.rd] at this; cases this
  have tf1 := tf.put_last (S.last + 1)
  generalize hM1 : μ.set S.t (.inst 164 (fput "last" (.int (S.last + 1)) fs)) = M1
  have g1 : M1.get S.t = some (.inst 164 (fput "last" (.int (S.last + 1)) fs)) := by rw [← hM1, get_set, if_pos rfl]
  have n1 : M1.n = μ.n := by rw [← hM1]; rfl
  have k1 : ∀ j, j ≠ S.t → M1.get j = μ.get j := fun j h => by rw [← hM1, get_set, if_neg h]
  obtain ⟨M3, hw, n3, ⟨fw, g3, wf, _⟩, g4, g5, k3⟩ := h_winit (M1.new (.inst 93 [])) M1.n (by rw [get_new, if_pos rfl]) (by rw [n_new]; exact om62) (S.last + 1) sort parent
  rw [n_new] at n3 g4 g5 k3 wf
  have k3' : ∀ j, j < μ.n → M3.get j = M1.get j := fun j h => by
    rw [k3 j (by exact om63 h n1) (by exact om64 h n1), get_new, if_neg (by exact om63 h n1)]
  generalize hρ : bindv [("self" : Str), ("sort" : Str), ("parent" : Str)] [.obj S.t, .int sort, .int parent] = ρ
  have hs : ∀ m, eName "self" ρ m = some (.obj S.t, m) := fun m => nm (lk hρ (by kernel_rfl))
  have gw3 : M3.get S.wd = some (.dict es) := by rw [k3' _ lt2, k1 _ (Ne.symm hne)]; exact d
  have gt3 : M3.get S.t = some (.inst 164 (fput "last" (.int (S.last + 1)) fs)) := by rw [k3' _ lt1]; exact g1
  have key : b_wt_fresh ρ μ = some (.ret (.obj M1.n), put ρ "found" (.obj M1.n), M3.set S.wd (.dict (dstore es (S.last + 1) (.obj M1.n)))) := by
    have h9' := R.l9
    have e1 : eBin .Add (eAttr (eName "self") 164 "last") (eInt 1) ρ μ = some (.int (S.last + 1), μ) := by
      simp only [eBin, eAttr, hs, bind2_some, a, reduceIte, tf.last, Option.map_some, eInt, iBin]
    have e2 : lCons (eAttr (eName "self") 164 "last") (lCons (eName "sort") (lCons (eName "parent") lNil)) ρ M1 = some ([.int (S.last + 1), .int sort, .int parent], M1) := by
      rw [← hρ]; simp [eName, eInt, eNone, eBool, bind2_some, bind2, eAttr, eIf, tCmp, eCmp, tNot, tAnd, tOr, tVal, cv_eq, cv_ne, cv_lt, cv_le, cv_gt, cv_is, isN_none, isN_int, isN_obj, eBin, iBin, eMeth, lCons, lNil, eCall, eSub, eBM, eList, eTup, eDict0, mLen, mList, mDict, mGet, mIndex, mAppend, mExtend, mPop, mDPop, mInsert, mRemove, isList, isDict, bindv_cons, bindv_nil, put_at, ofString_inj, Option.map_some, List.length_cons, List.length_nil, g1, tf1.last]
    have e3 : eCall (lCons (eAttr (eName "self") 164 "last") (lCons (eName "sort") (lCons (eName "parent") lNil))) (mNew 93 m_wi_init) ρ M1 = some (.obj M1.n, M3) := by
      unfold eCall
      rw [e2, bind2_some]
      unfold mNew
      rw [hw]
    have e4 : eAttr (eName "self") 164 "windows" (put ρ "found" (.obj M1.n)) M3 = some (.obj S.wd, M3) := by
      rw [← hρ]; simp [eName, eInt, eNone, eBool, bind2_some, bind2, eAttr, eIf, tCmp, eCmp, tNot, tAnd, tOr, tVal, cv_eq, cv_ne, cv_lt, cv_le, cv_gt, cv_is, isN_none, isN_int, isN_obj, eBin, iBin, eMeth, lCons, lNil, eCall, eSub, eBM, eList, eTup, eDict0, mLen, mList, mDict, mGet, mIndex, mAppend, mExtend, mPop, mDPop, mInsert, mRemove, isList, isDict, bindv_cons, bindv_nil, put_at, ofString_inj, Option.map_some, List.length_cons, List.length_nil, gt3, tf1.windows]
    have e5 : eAttr (eName "self") 164 "last" (put ρ "found" (.obj M1.n)) M3 = some (.int (S.last + 1), M3) := by
      rw [← hρ]; simp [eName, eInt, eNone, eBool, bind2_some, bind2, eAttr, eIf, tCmp, eCmp, tNot, tAnd, tOr, tVal, cv_eq, cv_ne, cv_lt, cv_le, cv_gt, cv_is, isN_none, isN_int, isN_obj, eBin, iBin, eMeth, lCons, lNil, eCall, eSub, eBM, eList, eTup, eDict0, mLen, mList, mDict, mGet, mIndex, mAppend, mExtend, mPop, mDPop, mInsert, mRemove, isList, isDict, bindv_cons, bindv_nil, put_at, ofString_inj, Option.map_some, List.length_cons, List.length_nil, gt3, tf1.last]
    have e6 : aSub (eAttr (eName "self") 164 "windows") (eAttr (eName "self") 164 "last") (.obj M1.n) (put ρ "found" (.obj M1.n)) M3 = some (put ρ "found" (.obj M1.n), M3.set S.wd (.dict (dstore es (S.last + 1) (.obj M1.n)))) := by
      unfold aSub
      rw [e4]; dsimp only
      rw [e5]; dsimp only
      unfold setItemM
      rw [gw3]; dsimp only
      rw [if_pos (by exact om65 h9 dl)]
      rfl
    have e7 : ∀ m, eName "found" (put ρ "found" (.obj M1.n)) m = some (.obj M1.n, m) := fun m => by simp [eName, eInt, eNone, eBool, bind2_some, bind2, eAttr, eIf, tCmp, eCmp, tNot, tAnd, tOr, tVal, cv_eq, cv_ne, cv_lt, cv_le, cv_gt, cv_is, isN_none, isN_int, isN_obj, eBin, iBin, eMeth, lCons, lNil, eCall, eSub, eBM, eList, eTup, eDict0, mLen, mList, mDict, mGet, mIndex, mAppend, mExtend, mPop, mDPop, mInsert, mRemove, isList, isDict, bindv_cons, bindv_nil, put_at, ofString_inj, Option.map_some, List.length_cons, List.length_nil]
    unfold b_wt_fresh
    rw [seq_next (st_set e1 (hs _) a tf.len), hM1, seq_next (st_name e3), seq_next (st_assign (e7 _) e6)]
    exact seq_ret (st_ret (e7 _))
  obtain ⟨ro', R', st⟩ := R.add (r := ⟨M1.n, M1.n + 1, M1.n + 1 + 1, sort, parent, 0, 0, 0, 0, 0, 1, 1, 0, []⟩) (μ' := M3.set S.wd (.dict (dstore es (S.last + 1) (.obj M1.n)))) (by rw [n_set]; exact om66 n3 n1) (by rw [n_set]; dsimp only; exact om67 n3 n1) (by rw [n_set]; dsimp only; exact om68 n3 n1) (by rw [n_set]; dsimp only; exact om69 n3 n1) (by dsimp only; exact om70) (by dsimp only; exact om71) (by dsimp only; exact om72)
    (fun j h1 h2 h3 => by rw [get_set, if_neg h3, k3' j h1, k1 j h2]) ⟨_, by rw [get_set, if_neg hne]; exact gt3, tf1⟩ (fun es' e => by rw [d] at e; cases e; rw [get_set, if_pos rfl]) ⟨fw, by rw [get_set, if_neg (by dsimp only; exact om73 lt2 n1)]; exact g3, wf⟩
    (by rw [get_set, if_neg (by dsimp only; exact om74 lt2 n1)]; exact g4) (by rw [get_set, if_neg (by dsimp only; exact om75 lt2 n1)]; exact g5) h9
  exact hG ⟨_, ro', _, run_ret rfl (by rw [hρ]; exact key), ⟨_, _, _, rfl⟩, R', st⟩
end
end Mine
end
section
set_option maxRecDepth 10000
open PySem PySem.W PySem.Calls PyProof.Rows
namespace Mine
inductive WT where
  | leaf (n w h : Int) (c : Int × Int × Int × Int)
  | node (n w h : Int) (row : Bool) (ks : List WT)
noncomputable def WT.num : WT → Int
  | .leaf n _ _ _ => n
  | .node n _ _ _ _ => n
noncomputable def WT.wid : WT → Int
  | .leaf _ w _ _ => w
  | .node _ w _ _ _ => w
noncomputable def WT.hei : WT → Int
  | .leaf _ _ h _ => h
  | .node _ _ h _ _ => h
noncomputable def rowSort (row : Bool) : Int := if row then 2 else 1
noncomputable def WT.sort : WT → Int
  | .leaf .. => 0
  | .node _ _ _ row _ => rowSort row
mutual
noncomputable def WT.size : WT → Nat
  | .leaf .. => 1
  | .node _ _ _ _ ks => 1 + WT.sizeL ks
noncomputable def WT.sizeL : List WT → Nat
  | [] => 0
  | k :: r => k.size + WT.sizeL r
end
mutual
noncomputable def WT.nums : WT → List Int
  | .leaf n _ _ _ => [n]
  | .node n _ _ _ ks => n :: WT.numsL ks
noncomputable def WT.numsL : List WT → List Int
  | [] => []
  | k :: r => k.nums ++ WT.numsL r
end
mutual
noncomputable def WT.leaves : WT → List Int
  | .leaf n _ _ _ => [n]
  | .node _ _ _ _ ks => WT.leavesL ks
noncomputable def WT.leavesL : List WT → List Int
  | [] => []
  | k :: r => k.leaves ++ WT.leavesL r
end
noncomputable abbrev WS := Int → Option WinR
mutual
noncomputable def Sh (ws : WS) (p : Int) : WT → Prop
  | .leaf n w h c => ∃ r, ws n = some r ∧ r.sort = 0 ∧ r.parent = p ∧ r.width = w ∧ r.height = h ∧ r.kids = [] ∧ (r.buf, r.st, r.pt, r.hs) = c
  | .node n w h row ks => (∃ r, ws n = some r ∧ r.sort = rowSort row ∧ r.parent = p ∧ r.width = w ∧ r.height = h ∧ r.kids = ks.map WT.num) ∧ 2 ≤ ks.length ∧ (∀ k ∈ ks, k.sort ≠ rowSort row) ∧ ShL ws n ks
noncomputable def ShL (ws : WS) (p : Int) : List WT → Prop
  | [] => True
  | k :: r => Sh ws p k ∧ ShL ws p r
end
theorem leavesL_append (a b : List WT) : WT.leavesL (a ++ b) = WT.leavesL a ++ WT.leavesL b := by
  induction a with
  | nil => rfl
  | cons k r ih => simp only [List.cons_append, WT.leavesL, ih, List.append_assoc]
theorem sizeL_append (a b : List WT) : WT.sizeL (a ++ b) = WT.sizeL a + WT.sizeL b := by
  induction a with
  | nil => simp [WT.sizeL]
  | cons k r ih => simp only [List.cons_append, WT.sizeL, ih]; exact om76
theorem size_pos (T : WT) : 1 ≤ T.size := by cases T <;> simp [WT.size]
theorem len_sizeL (ks : List WT) : ks.length ≤ WT.sizeL ks := by
  induction ks with
  | nil => simp
  | cons k r ih => have := size_pos k; simp only [List.length_cons, WT.sizeL]; exact om77 this ih
theorem shL_mem {ws : WS} {p : Int} {ks : List WT} (h : ShL ws p ks) {k : WT} (hk : k ∈ ks) : Sh ws p k := by
  induction ks with
  | nil => cases hk
  | cons x r ih =>
    rcases List.mem_cons.mp hk with rfl | hk
    · exact h.1
    · exact ih h.2 hk
noncomputable def ShF (ws : WS) (ts : List WT) : Prop := ∀ t ∈ ts, ∃ p, Sh ws p t
theorem sh_at {ws : WS} {p : Int} {T : WT} (h : Sh ws p T) : ∃ r, ws T.num = some r ∧ r.sort = T.sort ∧ r.parent = p ∧ r.width = T.wid ∧ r.height = T.hei := by
  cases T with
  | leaf n w h' c => obtain ⟨r, a, b, c', d, e, _⟩ := h; exact ⟨r, a, b, c', d, e⟩
  | node n w h' row ks => obtain ⟨⟨r, a, b, c', d, e, _⟩, _⟩ := h; exact ⟨r, a, b, c', d, e⟩
theorem ok_int (i : Int) : V.ok (.int i) = true := rfl
theorem ok_ints (xs : List Int) : (xs.map V.int).all V.ok = true := by
  induction xs with
  | nil => rfl
  | cons x r ih => simp only [List.map_cons, List.all_cons, ok_int, Bool.true_and, ih]
theorem dats_nil : V.dats [] = [] := rfl
theorem dats_cons (v : V) (r : List V) : V.dats (v :: r) = v.dat :: V.dats r := rfl
theorem t_more {ρ : Loc} {μ : Mem} {x : Str} {k : Nat} {xs : List V} (hx : ρ x = some (.obj k)) (hg : μ.get k = some (.list xs)) (hk : k < μ.n) (hok : xs.all V.ok = true) :
    tCmp .NotEq (eName x) (eList lNil) ρ μ = some (!xs.isEmpty, μ.new (.list [])) := by
  have h1 : (μ.new (.list [])).get k = some (.list xs) := by rw [get_new, if_neg (by exact om47 hk)]; exact hg
  have h2 : (μ.new (.list [])).get μ.n = some (.list []) := by rw [get_new, if_pos rfl]
  simp only [tCmp, eName, hx, Option.map_some, bind2_some, eList, lNil, List.length_nil, Nat.zero_le, reduceIte, cv_list h1 h2 (ys := []) (by rw [hok]; rfl)]
  cases xs with
  | nil => simp [dats_nil]
  | cons v r => simp [dats_nil, dats_cons]
section
variable {μ μ0 : Mem} {ro ro0 : Nat → Option Role} {S : Store} {n : Int} {r : WinR}
structure Two (μ0 : Mem) (ro : Nat → Option Role) (S : Store) (a b : Nat) (xs ys : List V) (μ : Mem) : Prop where
  R : RT μ ro S
  st : Step μ0 ro μ ro
  ga : μ.get a = some (.list xs)
  gb : μ.get b = some (.list ys)
  la : μ0.n ≤ a ∧ a < μ.n
  lb : μ0.n ≤ b ∧ b < μ.n
  ne : a ≠ b
  ra : ro a = none
  rb : ro b = none
theorem Two.new {a b : Nat} {xs ys : List V} (h : Two μ0 ro S a b xs ys μ) (o : AO) : Two μ0 ro S a b xs ys (μ.new o) :=
  ⟨(h.R.new o).1, h.st.trans (h.R.new o).2, by rw [get_new, if_neg (by have := h.la; exact om47 this.2)]; exact h.ga, by rw [get_new, if_neg (by have := h.lb; exact om47 this.2)]; exact h.gb, ⟨h.la.1, by have := h.la; rw [n_new]; exact om49 this.2⟩, ⟨h.lb.1, by have := h.lb; rw [n_new]; exact om49 this.2⟩, h.ne, h.ra, h.rb⟩
theorem Two.setA {a b : Nat} {xs ys : List V} (h : Two μ0 ro S a b xs ys μ) (zs : List V) : Two μ0 ro S a b zs ys (μ.set a (.list zs)) :=
  ⟨h.R.temp h.ra _, temp_step h.la.1 _ h.st, by rw [get_set, if_pos rfl], by rw [get_set, if_neg (Ne.symm h.ne)]; exact h.gb, h.la, h.lb, h.ne, h.ra, h.rb⟩
theorem Two.setB {a b : Nat} {xs ys : List V} (h : Two μ0 ro S a b xs ys μ) (zs : List V) : Two μ0 ro S a b xs zs (μ.set b (.list zs)) :=
  ⟨h.R.temp h.rb _, temp_step h.lb.1 _ h.st, by rw [get_set, if_neg h.ne]; exact h.ga, by rw [get_set, if_pos rfl], h.la, h.lb, h.ne, h.ra, h.rb⟩
theorem Two.start (R : RT μ ro S) (xs ys : List V) : Two μ ro S μ.n (μ.n + 1) xs ys ((μ.new (.list xs)).new (.list ys)) := by
  have h1 := R.new (.list xs)
  have h2 := h1.1.new (.list ys)
  exact ⟨h2.1, h1.2.trans h2.2, by rw [get_new, if_neg (by rw [n_new]; exact om70), get_new, if_pos rfl], by rw [get_new, n_new, if_pos rfl], ⟨Nat.le_refl _, by rw [n_new, n_new]; exact om78⟩, ⟨by exact om79, by rw [n_new, n_new]; exact om80⟩, by exact om70, R.fresh_ro (Nat.le_refl _), R.fresh_ro (by exact om79)⟩
end
end Mine
end
section
set_option maxRecDepth 10000
open PySem PySem.W PySem.Calls PyProof.Rows
namespace Mine
section
variable {μ μ0 μ1 : Mem} {ro ro0 : Nat → Option Role} {S : Store} {n : Int} {r : WinR} {ρ : Loc}
theorem name_of {x : Str} {v : V} (h : ρ x = some v) : eName x ρ μ = some (v, μ) := by simp only [eName, h, Option.map_some]
theorem isList_of {k : Nat} {xs : List V} (h : μ.get k = some (.list xs)) : isList μ k = true := by simp only [isList, h]
theorem isDict_of {k : Nat} {xs : List (Int × V)} (h : μ.get k = some (.dict xs)) : isDict μ k = true := by simp only [isDict, h]
theorem pop_at {eo : EM} {k : Nat} {x : V} {l : List V} (ho : eo ρ μ = some (.obj k, μ)) (hg : μ.get k = some (.list (l ++ [x]))) (hl : l.length ≤ 900) : eBM eo isList lNil mPop ρ μ = some (x, μ.set k (.list l)) := by
  have h1 : (l ++ [x]).length ≤ 1000 := by rw [List.length_append]; simp; exact om81 hl
  simp only [eBM, ho, bind2_some, isList_of hg, reduceIte, lNil, mPop, hg, h1, List.getLast?_append, List.getLast?_singleton, Option.or_some, Option.some_or, List.dropLast_concat]
theorem append_at {eo e1 : EM} {k : Nat} {v : V} {l : List V} (ho : eo ρ μ = some (.obj k, μ)) (hg : μ.get k = some (.list l)) (hl : l.length ≤ 1000) (he : e1 ρ μ = some (v, μ)) : eBM eo isList (lCons e1 lNil) mAppend ρ μ = some (.none, μ.set k (.list (l ++ [v]))) := by
  simp only [eBM, ho, bind2_some, isList_of hg, reduceIte, lNil, lCons, he, mAppend, hg, hl]
theorem extend_at {eo e1 : EM} {k j : Nat} {l l2 : List V} (ho : eo ρ μ = some (.obj k, μ)) (hg : μ.get k = some (.list l)) (he : e1 ρ μ = some (.obj j, μ1)) (hg1 : μ1.get k = some (.list l)) (hg2 : μ1.get j = some (.list l2)) (hl : l.length + l2.length ≤ 1000) : eBM eo isList (lCons e1 lNil) mExtend ρ μ = some (.none, μ1.set k (.list (l ++ l2))) := by
  simp only [eBM, ho, bind2_some, isList_of hg, reduceIte, lNil, lCons, he, mExtend, hg1, hg2, hl]
theorem rev_at {e : EM} {k : Nat} {l : List V} (he : e ρ μ = some (.obj k, μ)) (hg : μ.get k = some (.list l)) (hl : l.length ≤ 1000) : eRev e ρ μ = some (.obj μ.n, μ.new (.list l.reverse)) := by
  simp only [eRev, he, bind2_some, hg, hl, reduceIte]
theorem h_at2 {et en : EM} (R : RT μ ro S) (R1 : RT μ1 ro S) (hn : S.ws n = some r) (ht : et ρ μ = some (.obj S.t, μ)) (he : en ρ μ = some (.int n, μ1)) : eSub (eAttr et 164 "windows") en ρ μ = some (.obj r.o, μ1) := by
  obtain ⟨fs, es, a, b, c, d⟩ := h_windows R hn
  obtain ⟨fs1, es1, a1, b1, c1, d1⟩ := h_windows R1 hn
  simp only [eSub, eAttr, ht, bind2_some, a, reduceIte, b.windows, Option.map_some, he, c1, d1]
theorem Two.cast {a b : Nat} {xs ys xs' ys' : List V} (h : Two μ0 ro S a b xs ys μ) (h1 : xs = xs') (h2 : ys = ys') : Two μ0 ro S a b xs' ys' μ := h1 ▸ h2 ▸ h
theorem t_eqi {e : EM} {s j : Int} (h : e ρ μ = some (.int s, μ)) : tCmp .Eq e (eInt j) ρ μ = some (s == j, μ) := by
  simp only [tCmp, h, bind2_some, eInt, cv_eq, cv_ne, cv_lt, cv_le, cv_gt, cv_is, isN_none, isN_int, isN_obj, Option.map_some]
theorem lu_loop {a b : Nat} : ∀ (f : Nat) (ts : List WT) (acc : List Int) (ρ : Loc) (μ : Mem), WT.sizeL ts < f → acc.length + WT.sizeL ts ≤ 800 → ShF S.ws ts → ρ "tree" = some (.obj S.t) → ρ "found" = some (.obj a) → ρ "waiting" = some (.obj b) →
    Two μ0 ro S a b (acc.map .int) ((ts.map WT.num).reverse.map .int) μ → ∃ ρ' μ', sWhile (tCmp .NotEq (eName "waiting") (eList lNil)) (sSeq (sAssign (eSub (eAttr (eName "tree") 164 "windows") (eBM (eName "waiting") isList lNil mPop)) (aName "here"))
  (sSeq (sIf (tCmp .Eq (eAttr (eName "here") 93 "sort") (eInt 0)) (sSeq (sExpr (eBM (eName "found") isList (lCons (eAttr (eName "here") 93 "number") lNil) mAppend))
  sNil) (sSeq (sExpr (eBM (eName "waiting") isList (lCons (eRev (eAttr (eName "here") 93 "children")) lNil) mExtend))
  sNil))
  sNil)) f ρ μ = some (.next, ρ', μ') ∧ ρ' "found" = some (.obj a) ∧ Two μ0 ro S a b ((acc ++ WT.leavesL ts).map .int) [] μ' := by
  intro f
  induction f with
  | zero => intro ts acc ρ μ h; omega
  | succ f ih =>
    intro ts acc ρ μ hf hl hS ht hfd hw T
    have hok : ((ts.map WT.num).reverse.map V.int).all V.ok = true := ok_ints _
    have hm := t_more hw T.gb T.lb.2 hok
    cases ts with
    | nil =>
      refine ⟨ρ, _, while_false hm, hfd, ?_⟩
      rw [WT.leavesL, List.append_nil]
      exact T.new _
    | cons t ts =>
      have hm' : tCmp .NotEq (eName "waiting") (eList lNil) ρ μ = some (true, μ.new (.list [])) := by rw [hm]; simp
      have T1 := T.new (.list [])
      obtain ⟨p, hp⟩ := hS t (.head _)
      obtain ⟨r, hr, hsort, _⟩ := sh_at hp
      have hlen := len_sizeL ts
      have hsz : WT.sizeL (t :: ts) = t.size + WT.sizeL ts := by rw [WT.sizeL]
      have hpos := size_pos t
      have hgb : (μ.new (.list [])).get b = some (.list ((ts.map WT.num).reverse.map V.int ++ [.int t.num])) := by rw [T1.gb]; simp
      have T2 := T1.setB ((ts.map WT.num).reverse.map V.int)
      have e1 := h_at2 (et := eName "tree") (ρ := ρ) T1.R T2.R hr (name_of ht) (pop_at (eo := eName "waiting") (name_of hw) hgb (by simp; exact om82 hl hsz hlen))
      have q1 : put ρ "here" (.obj r.o) "here" = some (.obj r.o) := by kernel_rfl
      have q2 : put ρ "here" (.obj r.o) "tree" = some (.obj S.t) := pl (by kernel_rfl) ht
      have q3 : put ρ "here" (.obj r.o) "found" = some (.obj a) := pl (by kernel_rfl) hfd
      have q4 : put ρ "here" (.obj r.o) "waiting" = some (.obj b) := pl (by kernel_rfl) hw
      have e2 := h_fld (x := "sort") T2.R hr (name_of q1) (fun fs wf => wf.sort)
      cases t with
      | leaf tn tw th tc =>
        have e3 := t_eqi (j := 0) e2
        rw [hsort] at e3
        change _ = some (true, _) at e3
        have e4 := append_at (e1 := eAttr (eName "here") 93 "number") (name_of q3) T2.ga (by simp; exact om83 hl) (h_fld (x := "number") T2.R hr (name_of q1) (fun fs wf => wf.number))
        have T3 := T2.setA (acc.map V.int ++ [.int (WT.leaf tn tw th tc).num])
        obtain ⟨ρ', μ', h1, h2, h3⟩ := ih ts (acc ++ [tn]) (put ρ "here" (.obj r.o)) _ (by rw [hsz] at hf; exact om84 hpos hf) (by rw [List.length_append]; simp; exact om85 hpos hl hsz) (fun t ht => hS t (.tail _ ht)) q2 q3 q4 (T3.cast (by simp [WT.num]) rfl)
        refine ⟨ρ', μ', ?_, h2, by simpa [WT.leavesL, WT.leaves] using h3⟩
        refine (while_true hm' ((seq_next (st_name e1)).trans ((seq_next ((if_t e3).trans ((seq_next (st_expr e4)).trans rfl))).trans rfl))).trans ?_
        exact h1
      | node tn tw th row ks =>
        have hr' : S.ws tn = some r := hr
        obtain ⟨⟨r', hr2, _, _, _, _, hkids⟩, _, _, hks⟩ := hp
        rw [hr'] at hr2
        cases hr2
        have e3 := t_eqi (j := 0) e2
        rw [hsort, show ((WT.node tn tw th row ks).sort == 0) = false by cases row <;> rfl] at e3
        have gk := T2.R.kd _ _ hr'
        rw [hkids] at gk
        have hlk := len_sizeL ks
        have hszk : (WT.node tn tw th row ks).size = 1 + WT.sizeL ks := by rw [WT.size]
        have e4 := rev_at (ρ := put ρ "here" (.obj r.o)) (h_fld (x := "children") T2.R hr (name_of q1) (fun fs wf => wf.children)) gk (by simp; exact om86 hl hsz hlk hszk)
        have T3 := T2.new (.list ((ks.map WT.num).map V.int).reverse)
        have e5 := extend_at (e1 := eRev (eAttr (eName "here") 93 "children")) (name_of q4) T2.gb e4 T3.gb (by rw [get_new, if_pos rfl]) (by simp; exact om87 hlen hl hsz hlk hszk)
        have T4 := T3.setB ((ts.map WT.num).reverse.map V.int ++ ((ks.map WT.num).map V.int).reverse)
        obtain ⟨ρ', μ', h1, h2, h3⟩ := ih (ks ++ ts) acc (put ρ "here" (.obj r.o)) _ (by rw [sizeL_append]; exact om88 hf hsz hszk) (by rw [sizeL_append]; exact om89 hl hsz hszk)
          (fun t ht => by
            rcases List.mem_append.mp ht with ht | ht
            · exact ⟨tn, shL_mem hks ht⟩
            · exact hS t (.tail _ ht)) q2 q3 q4 (T4.cast rfl (by simp))
        refine ⟨ρ', μ', ?_, h2, by simpa [WT.leavesL, WT.leaves, leavesL_append] using h3⟩
        refine (while_true hm' ((seq_next (st_name e1)).trans ((seq_next ((if_f e3).trans ((seq_next (st_expr e5)).trans rfl))).trans rfl))).trans ?_
        exact h1
structure Made (μ0 : Mem) (ro : Nat → Option Role) (S : Store) (k : Nat) (o : AO) (μ : Mem) : Prop where
  R : RT μ ro S
  st : Step μ0 ro μ ro
  g : μ.get k = some o
  l : μ0.n ≤ k ∧ k < μ.n
  r : ro k = none
theorem h_leaves_under {T : WT} {p : Int} (R : RT μ ro S) (hT : Sh S.ws p T) (hs : T.size ≤ 150) : ∃ k μ', m_leaves_under [.obj S.t, .int T.num] μ = some (.obj k, μ') ∧ Made μ ro S k (.list (T.leaves.map .int)) μ' := by
  have T0 := Two.start R [] [.int T.num]
  have e1 : eList lNil (bindv [("tree" : Str), ("number" : Str)] [.obj S.t, .int T.num]) μ = some (.obj μ.n, μ.new (.list [])) := by simp [eName, eInt, eNone, eBool, bind2_some, bind2, eAttr, eIf, tCmp, eCmp, tNot, tAnd, tOr, tVal, cv_eq, cv_ne, cv_lt, cv_le, cv_gt, cv_is, isN_none, isN_int, isN_obj, eBin, iBin, eMeth, lCons, lNil, eCall, eSub, eBM, eList, eTup, eDict0, mLen, mList, mDict, mGet, mIndex, mAppend, mExtend, mPop, mDPop, mInsert, mRemove, isList, isDict, bindv_cons, bindv_nil, put_at, ofString_inj, Option.map_some, List.length_cons, List.length_nil]
  generalize hρ : put (bindv [("tree" : Str), ("number" : Str)] [.obj S.t, .int T.num]) "found" (.obj μ.n) = ρ1
  have e2 : eList (lCons (eName "number") lNil) ρ1 (μ.new (.list [])) = some (.obj (μ.n + 1), (μ.new (.list [])).new (.list [.int T.num])) := by
    rw [← hρ]; simp [eName, eInt, eNone, eBool, bind2_some, bind2, eAttr, eIf, tCmp, eCmp, tNot, tAnd, tOr, tVal, cv_eq, cv_ne, cv_lt, cv_le, cv_gt, cv_is, isN_none, isN_int, isN_obj, eBin, iBin, eMeth, lCons, lNil, eCall, eSub, eBM, eList, eTup, eDict0, mLen, mList, mDict, mGet, mIndex, mAppend, mExtend, mPop, mDPop, mInsert, mRemove, isList, isDict, bindv_cons, bindv_nil, put_at, ofString_inj, Option.map_some, List.length_cons, List.length_nil, n_new]
  obtain ⟨ρ', μ', h1, h2, h3⟩ := lu_loop (S := S) (ro := ro) (μ0 := μ) 200 [T] [] (put ρ1 "waiting" (.obj (μ.n + 1))) _ (by simp [WT.sizeL]; exact om90 hs) (by simp [WT.sizeL]; exact om91 hs) (fun t ht => by rw [List.mem_singleton.mp ht]; exact ⟨p, hT⟩)
    (by rw [← hρ]; simp [eName, eInt, eNone, eBool, bind2_some, bind2, eAttr, eIf, tCmp, eCmp, tNot, tAnd, tOr, tVal, cv_eq, cv_ne, cv_lt, cv_le, cv_gt, cv_is, isN_none, isN_int, isN_obj, eBin, iBin, eMeth, lCons, lNil, eCall, eSub, eBM, eList, eTup, eDict0, mLen, mList, mDict, mGet, mIndex, mAppend, mExtend, mPop, mDPop, mInsert, mRemove, isList, isDict, bindv_cons, bindv_nil, put_at, ofString_inj, Option.map_some, List.length_cons, List.length_nil]) (by rw [← hρ]; simp [eName, eInt, eNone, eBool, bind2_some, bind2, eAttr, eIf, tCmp, eCmp, tNot, tAnd, tOr, tVal, cv_eq, cv_ne, cv_lt, cv_le, cv_gt, cv_is, isN_none, isN_int, isN_obj, eBin, iBin, eMeth, lCons, lNil, eCall, eSub, eBM, eList, eTup, eDict0, mLen, mList, mDict, mGet, mIndex, mAppend, mExtend, mPop, mDPop, mInsert, mRemove, isList, isDict, bindv_cons, bindv_nil, put_at, ofString_inj, Option.map_some, List.length_cons, List.length_nil]) (by simp [eName, eInt, eNone, eBool, bind2_some, bind2, eAttr, eIf, tCmp, eCmp, tNot, tAnd, tOr, tVal, cv_eq, cv_ne, cv_lt, cv_le, cv_gt, cv_is, isN_none, isN_int, isN_obj, eBin, iBin, eMeth, lCons, lNil, eCall, eSub, eBM, eList, eTup, eDict0, mLen, mList, mDict, mGet, mIndex, mAppend, mExtend, mPop, mDPop, mInsert, mRemove, isList, isDict, bindv_cons, bindv_nil, put_at, ofString_inj, Option.map_some, List.length_cons, List.length_nil]) (T0.cast rfl (by simp))
  have key : b_leaves_under (bindv [("tree" : Str), ("number" : Str)] [.obj S.t, .int T.num]) μ = some (.ret (.obj μ.n), ρ', μ') := by
    refine (seq_next (st_name e1)).trans ?_
    rw [hρ]
    exact (seq_next (st_name e2)).trans ((seq_next h1).trans (seq_ret (st_ret (name_of h2))))
  exact ⟨μ.n, μ', run_ret rfl key, ⟨h3.R, h3.st, by simpa [WT.leavesL] using h3.ga, h3.la, h3.ra⟩⟩
theorem h_leaves {T : WT} {p : Int} (R : RT μ ro S) (hT : Sh S.ws p T) (hs : T.size ≤ 150) (hroot : S.root = T.num) : ∃ k μ', m_leaves [.obj S.t] μ = some (.obj k, μ') ∧ Made μ ro S k (.list (T.leaves.map .int)) μ' := by
  obtain ⟨k, μ', h1, h2⟩ := h_leaves_under R hT hs
  obtain ⟨fs, a, b⟩ := R.tr
  refine ⟨k, μ', run_ret (ρ1 := bindv [("tree" : Str)] [.obj S.t]) rfl (seq_ret (st_ret ?_)), h2⟩
  have e1 : lCons (eName "tree") (lCons (eAttr (eName "tree") 164 "root") lNil) (bindv [("tree" : Str)] [.obj S.t]) μ = some ([.obj S.t, .int T.num], μ) := by
    simp [eName, eInt, eNone, eBool, bind2_some, bind2, eAttr, eIf, tCmp, eCmp, tNot, tAnd, tOr, tVal, cv_eq, cv_ne, cv_lt, cv_le, cv_gt, cv_is, isN_none, isN_int, isN_obj, eBin, iBin, eMeth, lCons, lNil, eCall, eSub, eBM, eList, eTup, eDict0, mLen, mList, mDict, mGet, mIndex, mAppend, mExtend, mPop, mDPop, mInsert, mRemove, isList, isDict, bindv_cons, bindv_nil, put_at, ofString_inj, Option.map_some, List.length_cons, List.length_nil, a, b.root, hroot]
  unfold eCall
  rw [e1, bind2_some]
  exact h1
end
end Mine
end
section
set_option maxRecDepth 10000
open PySem PySem.W PySem.Calls PyProof.Rows
namespace Mine
noncomputable def Store.drop (S : Store) (n : Int) : Store := { S with ws := fun m => if m = n then none else S.ws m }
section
variable {μ μ0 μ1 : Mem} {ro ro0 : Nat → Option Role} {S : Store} {n : Int} {r : WinR} {ρ : Loc}
theorem RT.pop (R : RT μ ro S) {es : List (Int × V)} (hd : μ.get S.wd = some (.dict es)) (n : Int) : RT (μ.set S.wd (.dict (es.filter fun e => decide (e.1 ≠ n)))) ro (S.drop n) ∧ Step μ ro (μ.set S.wd (.dict (es.filter fun e => decide (e.1 ≠ n)))) ro := by
  have hne : ∀ {j x}, ro j = some x → x ≠ .dict → (μ.set S.wd (.dict (es.filter fun e => decide (e.1 ≠ n)))).get j = μ.get j := fun {j x} e hx => by
    rw [get_set, if_neg fun q => hx (by rw [q, R.rd] at e; cases e; rfl)]
  have cs : ∀ {m q}, (S.drop n).ws m = some q → S.ws m = some q := fun {m q} e => by
    have e' : (if m = n then none else S.ws m) = some q := e
    split at e'
    · cases e'
    · exact e'
  refine ⟨⟨?_, ?_, fun m q e => ?_, fun m q e => ?_, fun m q e => ?_, R.rt, R.rd, fun m q e => R.rw m q (cs e), R.lt, fun m hm => ?_, R.l0, R.l9, fun j m e => ⟨(R.uq j m e).1, fun q hq => (R.uq j m e).2 q (cs hq)⟩⟩, ⟨Nat.le_refl _, fun j _ h => ?_, fun _ _ => rfl⟩⟩
  · show ∃ fs, (μ.set _ _).get S.t = _ ∧ _
    rw [hne R.rt (by simp)]
    obtain ⟨fs, a, b⟩ := R.tr
    exact ⟨fs, a, ⟨b.len, b.windows, b.last, b.root, b.lw, b.lh, b.selected, b.m1, b.m2, b.m3⟩⟩
  · obtain ⟨es', a, b, c⟩ := R.dc
    rw [hd] at a
    cases a
    refine ⟨_, by show (μ.set S.wd _).get S.wd = _; rw [get_set, if_pos rfl], ?_, fun m => ?_⟩
    · have := List.length_filter_le (fun e : Int × V => decide (e.1 ≠ n)) es
      show _ ≤ S.last
      exact om92 b this
    · rw [filter_at, c m]
      show _ = Option.map _ (if m = n then none else S.ws m)
      split <;> rfl
  · rw [hne (R.rw m q (cs e)).1 (by simp)]; exact R.wn m q (cs e)
  · rw [hne (R.rw m q (cs e)).2.1 (by simp)]; exact R.kd m q (cs e)
  · rw [hne (R.rw m q (cs e)).2.2 (by simp)]; exact R.er m q (cs e)
  · show (if m = n then none else S.ws m) = none
    rw [R.fr m hm]; simp
  · rw [get_set, if_neg fun q => by rw [q, R.rd] at h; cases h]
theorem RT.tree (R : RT μ ro S) {fs' : List (Str × V)} {v : Int} (tf : TF { S with root := v } fs') : RT (μ.set S.t (.inst 164 fs')) ro { S with root := v } ∧ Step μ ro (μ.set S.t (.inst 164 fs')) ro := by
  have hne : ∀ {j x}, ro j = some x → x ≠ .tree → (μ.set S.t (.inst 164 fs')).get j = μ.get j := fun {j x} e hx => by
    rw [get_set, if_neg fun q => hx (by rw [q, R.rt] at e; cases e; rfl)]
  refine ⟨⟨⟨fs', by show (μ.set S.t _).get S.t = _; rw [get_set, if_pos rfl], tf⟩, ?_, fun m q e => ?_, fun m q e => ?_, fun m q e => ?_, R.rt, R.rd, R.rw, R.lt, R.fr, R.l0, R.l9, R.uq⟩, ⟨Nat.le_refl _, fun j _ h => ?_, fun _ _ => rfl⟩⟩
  · show ∃ es, (μ.set _ _).get S.wd = _ ∧ _
    rw [hne R.rd (by simp)]; exact R.dc
  · rw [hne (R.rw m q e).1 (by simp)]; exact R.wn m q e
  · rw [hne (R.rw m q e).2.1 (by simp)]; exact R.kd m q e
  · rw [hne (R.rw m q e).2.2 (by simp)]; exact R.er m q e
  · rw [get_set, if_neg fun q => by rw [q, R.rt] at h; cases h]
theorem RT.adopt (R : RT μ ro S) (st : Step μ0 ro0 μ ro) (hn : S.ws n = some r) {k : Nat} {ks : List Int} (hk : ro k = none) (hl : μ0.n ≤ k) (hlt : k < μ.n) (hg : μ.get k = some (.list (ks.map .int))) {fs : List (Str × V)} (hf : μ.get r.o = some (.inst 93 fs)) :
    ∃ ro', RT (μ.set r.o (.inst 93 (fput "children" (.obj k) fs))) ro' (S.upd n (r.setCK k ks)) ∧ Step μ0 ro0 (μ.set r.o (.inst 93 (fput "children" (.obj k) fs))) ro' := by
  rw [show r.setCK k ks = { r with c := k, kids := ks } from rfl]
  have hro := (R.rw n r hn).1
  have wf : WF n { r with c := k, kids := ks } (fput "children" (.obj k) fs) := by
    obtain ⟨fs0, a, b⟩ := R.wn n r hn
    rw [hf] at a
    cases a
    have w := b.put_children k
    exact ⟨w.len, w.number, w.sort, w.parent, w.children, w.left, w.top, w.width, w.height, w.buffer, w.start, w.point, w.hscroll, w.earlier, w.m1, w.m2, w.m3, w.m4, w.m5⟩
  have hne : ∀ {j x}, ro j = some x → x ≠ .win n → (μ.set r.o (.inst 93 (fput "children" (.obj k) fs))).get j = μ.get j := fun {j x} e hx => by
    rw [get_set, if_neg fun q => hx (by rw [q, hro] at e; cases e; rfl)]
  have hro' : ∀ {j x}, ro j = some x → (fun j => if j = k then some (Role.kids n) else ro j) j = some x := fun {j x} e => by
    show (if j = k then _ else ro j) = _
    rw [if_neg fun q => by rw [q, hk] at e; cases e]; exact e
  have cs : ∀ {m q}, (S.upd n { r with c := k, kids := ks }).ws m = some q → (m = n ∧ q = { r with c := k, kids := ks }) ∨ (m ≠ n ∧ S.ws m = some q) := fun {m q} e => by
    by_cases hm : m = n
    · rw [hm, upd_self] at e; cases e; exact .inl ⟨hm, rfl⟩
    · rw [upd_ne _ _ hm] at e; exact .inr ⟨hm, e⟩
  refine ⟨fun j => if j = k then some (Role.kids n) else ro j, ⟨?_, ?_, fun m q e => ?_, fun m q e => ?_, fun m q e => ?_, hro' R.rt, hro' R.rd, fun m q e => ?_, fun j x e => ?_, fun m hm => ?_, R.l0, R.l9, fun j m e => ?_⟩, ⟨st.le, fun j h1 h => ?_, fun j h => ?_⟩⟩
  · show ∃ fs, (μ.set _ _).get S.t = _ ∧ _
    rw [hne R.rt (by simp)]
    obtain ⟨fs, a, b⟩ := R.tr
    exact ⟨fs, a, ⟨b.len, b.windows, b.last, b.root, b.lw, b.lh, b.selected, b.m1, b.m2, b.m3⟩⟩
  · show ∃ es, (μ.set _ _).get S.wd = _ ∧ _
    rw [hne R.rd (by simp)]
    obtain ⟨es, a, b, c⟩ := R.dc
    refine ⟨es, a, b, fun m => ?_⟩
    rw [c m]
    by_cases hm : m = n
    · rw [hm, upd_self, hn]; simp
    · rw [upd_ne _ _ hm]
  · rcases cs e with ⟨rfl, rfl⟩ | ⟨hm, e⟩
    · exact ⟨_, by rw [get_set, if_pos rfl], wf⟩
    · rw [hne (R.rw m q e).1 (by simp [hm])]; exact R.wn m q e
  · rcases cs e with ⟨rfl, rfl⟩ | ⟨hm, e⟩
    · have hko : k ≠ r.o := fun q => by rw [q, hro] at hk; cases hk
      rw [get_set, if_neg hko]; exact hg
    · rw [hne (R.rw m q e).2.1 (by simp)]; exact R.kd m q e
  · rcases cs e with ⟨rfl, rfl⟩ | ⟨hm, e⟩
    · rw [hne (R.rw _ r hn).2.2 (by simp)]; exact R.er _ r hn
    · rw [hne (R.rw m q e).2.2 (by simp)]; exact R.er m q e
  · rcases cs e with ⟨rfl, rfl⟩ | ⟨hm, e⟩
    · exact ⟨hro' (R.rw _ r hn).1, if_pos rfl, hro' (R.rw _ r hn).2.2⟩
    · have h := R.rw m q e
      exact ⟨hro' h.1, hro' h.2.1, hro' h.2.2⟩
  · have e' : (if j = k then some (Role.kids n) else ro j) = some x := e
    split at e'
    · rename_i q; rw [q]; exact hlt
    · exact R.lt j x e'
  · have hm' : m ≠ n := fun q => by have := R.fr m hm; rw [q, hn] at this; cases this
    rw [upd_ne _ _ hm']; exact R.fr m hm
  · have e' : (if j = k then some (Role.kids n) else ro j) = some (.win m) := e
    split at e'
    · cases e'
    · exact ⟨(R.uq j m e').1, fun q hq => by rcases cs hq with ⟨rfl, rfl⟩ | ⟨_, hq⟩ <;> first | exact (R.uq j _ e').2 _ hq | exact (R.uq j _ e').2 r hn⟩
  · have h2 := (st.ro j h1).trans h
    rw [get_set, if_neg fun q => by rw [q, hro] at h2; cases h2]
    exact st.fr j h1 h
  · show (if j = k then _ else ro j) = _
    rw [if_neg (by exact om45 h hl)]; exact st.ro j h
theorem forin_at {e : EM} {a : AM} {b : SM} {f k : Nat} (h : e ρ μ = some (.obj k, μ1)) : sForIn e a b f ρ μ = sFor a b k f 0 ρ μ1 := by
  show (match e ρ μ with | some (.obj n, μ1) => sFor a b n f 0 ρ μ1 | _ => none) = _
  rw [h]
theorem call_at {ms : LM} {m : FM} {vs : List V} {v : V} (h : ms ρ μ = some (vs, μ)) (hm : m vs μ = some (v, μ1)) : eCall ms m ρ μ = some (v, μ1) := by
  simp only [eCall, h, bind2_some, hm]
theorem l_cons {e : EM} {es : LM} {v : V} {vs : List V} (h : e ρ μ = some (v, μ)) (hs : es ρ μ = some (vs, μ)) : lCons e es ρ μ = some (v :: vs, μ) := by
  simp only [lCons, h, hs, bind2_some]
theorem l_nil : lNil ρ μ = some ([], μ) := rfl
theorem rev_at1 {e : EM} {k : Nat} {l : List V} (he : e ρ μ = some (.obj k, μ1)) (hg : μ1.get k = some (.list l)) (hl : l.length ≤ 1000) : eRev e ρ μ = some (.obj μ1.n, μ1.new (.list l.reverse)) := by
  simp only [eRev, he, bind2_some, hg, hl, reduceIte]
theorem h_under (R : RT μ ro S) (hn : S.ws n = some r) (hk : r.kids = []) : ∃ k μ', m_windows_under [.obj S.t, .int n] μ = some (.obj k, μ') ∧ Made μ ro S k (.list [.int n]) μ' := by
  refine byc fun hG => ?_
  have T0 := Two.start R [] [.int n]
  have e1 : eList lNil (bindv [("tree" : Str), ("number" : Str)] [.obj S.t, .int n]) μ = some (.obj μ.n, μ.new (.list [])) := by simp [eName, eInt, eNone, eBool, bind2_some, bind2, eAttr, eIf, tCmp, eCmp, tNot, tAnd, tOr, tVal, cv_eq, cv_ne, cv_lt, cv_le, cv_gt, cv_is, isN_none, isN_int, isN_obj, eBin, iBin, eMeth, lCons, lNil, eCall, eSub, eBM, eList, eTup, eDict0, mLen, mList, mDict, mGet, mIndex, mAppend, mExtend, mPop, mDPop, mInsert, mRemove, isList, isDict, bindv_cons, bindv_nil, put_at, ofString_inj, Option.map_some, List.length_cons, List.length_nil]
  generalize hρ : put (bindv [("tree" : Str), ("number" : Str)] [.obj S.t, .int n]) "found" (.obj μ.n) = ρ1
  have e2 : eList (lCons (eName "number") lNil) ρ1 (μ.new (.list [])) = some (.obj (μ.n + 1), (μ.new (.list [])).new (.list [.int n])) := by
    rw [← hρ]; simp [eName, eInt, eNone, eBool, bind2_some, bind2, eAttr, eIf, tCmp, eCmp, tNot, tAnd, tOr, tVal, cv_eq, cv_ne, cv_lt, cv_le, cv_gt, cv_is, isN_none, isN_int, isN_obj, eBin, iBin, eMeth, lCons, lNil, eCall, eSub, eBM, eList, eTup, eDict0, mLen, mList, mDict, mGet, mIndex, mAppend, mExtend, mPop, mDPop, mInsert, mRemove, isList, isDict, bindv_cons, bindv_nil, put_at, ofString_inj, Option.map_some, List.length_cons, List.length_nil, n_new]
  generalize hρ2 : put ρ1 "waiting" (.obj (μ.n + 1)) = ρ2
  have ht : ρ2 "tree" = some (.obj S.t) := lk2 hρ2 (by kernel_rfl) (lk hρ (by kernel_rfl))
  have hfd : ρ2 "found" = some (.obj μ.n) := lk2 hρ2 (by kernel_rfl) (lk hρ (by kernel_rfl))
  have hw : ρ2 "waiting" = some (.obj (μ.n + 1)) := lk hρ2 (by kernel_rfl)
  have hm := t_more hw T0.gb T0.lb.2 (by rfl)
  have T1 := T0.new (.list [])
  have T2 := T1.setB []
  have e3 := h_at2 (et := eName "tree") (ρ := ρ2) T1.R T2.R hn (name_of ht) (pop_at (eo := eName "waiting") (l := []) (name_of hw) T1.gb (by simp))
  have q1 : put ρ2 "here" (.obj r.o) "here" = some (.obj r.o) := by kernel_rfl
  have q3 : put ρ2 "here" (.obj r.o) "found" = some (.obj μ.n) := pl (by kernel_rfl) hfd
  have q4 : put ρ2 "here" (.obj r.o) "waiting" = some (.obj (μ.n + 1)) := pl (by kernel_rfl) hw
  have e4 := append_at (e1 := eAttr (eName "here") 93 "number") (name_of q3) T2.ga (by simp) (h_fld (x := "number") T2.R hn (name_of q1) (fun fs wf => wf.number))
  have T3 := T2.setA ([] ++ [.int n])
  have gk := T3.R.kd _ _ hn
  rw [hk] at gk
  have e5 := rev_at (ρ := put ρ2 "here" (.obj r.o)) (h_fld (x := "children") T3.R hn (name_of q1) (fun fs wf => wf.children)) gk (by simp)
  have T4 := T3.new (.list (([] : List Int).map V.int).reverse)
  have e6 := extend_at (e1 := eRev (eAttr (eName "here") 93 "children")) (name_of q4) T3.gb e5 T4.gb (by rw [get_new, if_pos rfl]) (by simp)
  have T5 := T4.setB ([] ++ (([] : List Int).map V.int).reverse)
  have hm2 := t_more q4 T5.gb T5.lb.2 (by rfl)
  have T6 := T5.new (.list [])
  exact hG ⟨μ.n, _, run_ret rfl ((seq_next (st_nm e1 hρ)).trans ((seq_next (st_nm e2 hρ2)).trans ((seq_next ((while_true (n := 199) hm ((seq_next (st_name e3)).trans ((seq_next (st_expr e4)).trans ((seq_next (st_expr e6)).trans rfl)))).trans (while_false (n := 198) hm2))).trans (seq_ret (st_ret (name_of q3)))))), ⟨T6.R, T6.st, T6.ga, T6.la, T6.ra⟩⟩
end
end Mine
end
section
set_option maxRecDepth 10000
open PySem PySem.W PySem.Calls PyProof.Rows
namespace Mine
section
variable {μ μ0 μ1 μ' : Mem} {ro ro0 ro' : Nat → Option Role} {S S' : Store} {n : Int} {r : WinR} {ρ : Loc}
theorem Step.keep (s : Step μ ro μ' ro') {k : Nat} {o : AO} (hk : k < μ.n) (hr : ro k = none) (hg : μ.get k = some o) : μ'.get k = some o ∧ ro' k = none ∧ k < μ'.n :=
  ⟨(s.fr k hk hr).trans hg, (s.ro k hk).trans hr, Nat.lt_of_lt_of_le hk s.le⟩
theorem Made.new {k : Nat} {o : AO} (h : Made μ0 ro S k o μ) (o' : AO) : Made μ0 ro S k o (μ.new o') :=
  ⟨(h.R.new o').1, h.st.trans (h.R.new o').2, by rw [get_new, if_neg (by have := h.l; exact om47 this.2)]; exact h.g, ⟨h.l.1, by have := h.l; rw [n_new]; exact om49 this.2⟩, h.r⟩
theorem Made.set {k : Nat} {o : AO} (h : Made μ0 ro S k o μ) (o' : AO) : Made μ0 ro S k o' (μ.set k o') :=
  ⟨h.R.temp h.r o', temp_step h.l.1 o' h.st, by rw [get_set, if_pos rfl], h.l, h.r⟩
theorem Made.start (R : RT μ ro S) (o : AO) : Made μ ro S μ.n o (μ.new o) :=
  ⟨(R.new o).1, (R.new o).2, by rw [get_new, if_pos rfl], ⟨Nat.le_refl _, by rw [n_new]; exact om62⟩, R.fresh_ro (Nat.le_refl _)⟩
theorem dpop_at {eo e1 : EM} {v : V} (R : RT μ ro S) {es : List (Int × V)} (hd : μ.get S.wd = some (.dict es)) (ho : eo ρ μ = some (.obj S.wd, μ)) (he : e1 ρ μ = some (.int n, μ)) (hl : es.length ≤ 1000) (hf : (es.find? fun e => e.1 = n).map (·.2) = some v) :
    eBM eo isDict (lCons e1 lNil) mDPop ρ μ = some (v, μ.set S.wd (.dict (es.filter fun e => decide (e.1 ≠ n)))) := by
  simp only [eBM, ho, bind2_some, isDict_of hd, reduceIte, lNil, lCons, he, mDPop, hd, hl, hf]
theorem h_dpop {et e1 : EM} (R : RT μ ro S) (hn : S.ws n = some r) (ht : et ρ μ = some (.obj S.t, μ)) (he : e1 ρ μ = some (.int n, μ)) : ∃ μ', eBM (eAttr et 164 "windows") isDict (lCons e1 lNil) mDPop ρ μ = some (.obj r.o, μ') ∧ RT μ' ro (S.drop n) ∧ Step μ ro μ' ro := by
  obtain ⟨es, d, dl, dd⟩ := R.dc
  have h9 := R.l9
  obtain ⟨R', st⟩ := R.pop d n
  exact ⟨_, dpop_at R d (h_tfld R ht (fun fs tf => tf.windows)) he (by exact om93 h9 dl) (by rw [dd, hn]; rfl), R', st⟩
theorem h_forget (R : RT μ ro S) (hn : S.ws n = some r) (hk : r.kids = []) : ∃ μ', m_forget [.obj S.t, .int n] μ = some (.none, μ') ∧ RT μ' ro (S.drop n) ∧ Step μ ro μ' ro := by
  obtain ⟨k, μ1, h1, M⟩ := h_under R hn hk
  have e0 : lCons (eName "tree") (lCons (eName "number") lNil) (bindv [("tree" : Str), ("number" : Str)] [.obj S.t, .int n]) μ = some ([.obj S.t, .int n], μ) := by simp [eName, eInt, eNone, eBool, bind2_some, bind2, eAttr, eIf, tCmp, eCmp, tNot, tAnd, tOr, tVal, cv_eq, cv_ne, cv_lt, cv_le, cv_gt, cv_is, isN_none, isN_int, isN_obj, eBin, iBin, eMeth, lCons, lNil, eCall, eSub, eBM, eList, eTup, eDict0, mLen, mList, mDict, mGet, mIndex, mAppend, mExtend, mPop, mDPop, mInsert, mRemove, isList, isDict, bindv_cons, bindv_nil, put_at, ofString_inj, Option.map_some, List.length_cons, List.length_nil]
  have q1 : put (bindv [("tree" : Str), ("number" : Str)] [.obj S.t, .int n]) "own" (.int n) "tree" = some (.obj S.t) := by kernel_rfl
  have q2 : put (bindv [("tree" : Str), ("number" : Str)] [.obj S.t, .int n]) "own" (.int n) "own" = some (.int n) := by kernel_rfl
  obtain ⟨μ2, h2, R2, s2⟩ := h_dpop (et := eName "tree") (e1 := eName "own") M.R hn (name_of q1) (name_of q2)
  obtain ⟨g2, _, _⟩ := s2.keep M.l.2 M.r M.g
  exact ⟨μ2, run_next rfl ((seq_next ((forin_at (call_at e0 h1)).trans ((for_step (f := 199) M.g rfl rfl ((seq_next (st_expr h2)).trans rfl)).trans (for_end (f := 198) g2 rfl)))).trans rfl), R2, M.st.trans s2⟩
theorem t_nei {e : EM} {s j : Int} (h : e ρ μ = some (.int s, μ)) : tCmp .NotEq e (eInt j) ρ μ = some (s != j, μ) := by
  simp only [tCmp, h, bind2_some, eInt, cv_eq, cv_ne, cv_lt, cv_le, cv_gt, cv_is, isN_none, isN_int, isN_obj, Option.map_some]
theorem h_set_tree_size (R : RT μ ro S) (hn : S.ws n = some r) (hs : r.sort = 0) (ax v : Int) : ∃ μ', m_set_tree_size [.obj S.t, .int n, .int ax, .int v] μ = some (.none, μ') ∧ RT μ' ro (S.upd n (r.sized ax v)) ∧ Step μ ro μ' ro := by
  refine byc fun hG => ?_
  have M0 := Made.start R (.list [.tup [.int n, .int v]])
  have e1 : eList (lCons (eTup (lCons (eName "number") (lCons (eName "size") lNil))) lNil) (bindv [("tree" : Str), ("number" : Str), ("axis" : Str), ("size" : Str)] [.obj S.t, .int n, .int ax, .int v]) μ = some (.obj μ.n, μ.new (.list [.tup [.int n, .int v]])) := by simp [eName, eInt, eNone, eBool, bind2_some, bind2, eAttr, eIf, tCmp, eCmp, tNot, tAnd, tOr, tVal, cv_eq, cv_ne, cv_lt, cv_le, cv_gt, cv_is, isN_none, isN_int, isN_obj, eBin, iBin, eMeth, lCons, lNil, eCall, eSub, eBM, eList, eTup, eDict0, mLen, mList, mDict, mGet, mIndex, mAppend, mExtend, mPop, mDPop, mInsert, mRemove, isList, isDict, bindv_cons, bindv_nil, put_at, ofString_inj, Option.map_some, List.length_cons, List.length_nil]
  generalize hρ : put (bindv [("tree" : Str), ("number" : Str), ("axis" : Str), ("size" : Str)] [.obj S.t, .int n, .int ax, .int v]) "waiting" (.obj μ.n) = ρ1
  have hw : ρ1 "waiting" = some (.obj μ.n) := lk hρ (by kernel_rfl)
  have hm := t_more hw M0.g M0.l.2 (by rfl)
  have M1 := M0.new (.list [])
  have e2 := pop_at (ρ := ρ1) (eo := eName "waiting") (l := []) (name_of hw) M1.g (by simp)
  have M2 := M1.set (.list [])
  have q1 : put (put ρ1 "own" (.int n)) "much" (.int v) "tree" = some (.obj S.t) := by rw [← hρ]; simp [eName, eInt, eNone, eBool, bind2_some, bind2, eAttr, eIf, tCmp, eCmp, tNot, tAnd, tOr, tVal, cv_eq, cv_ne, cv_lt, cv_le, cv_gt, cv_is, isN_none, isN_int, isN_obj, eBin, iBin, eMeth, lCons, lNil, eCall, eSub, eBM, eList, eTup, eDict0, mLen, mList, mDict, mGet, mIndex, mAppend, mExtend, mPop, mDPop, mInsert, mRemove, isList, isDict, bindv_cons, bindv_nil, put_at, ofString_inj, Option.map_some, List.length_cons, List.length_nil]
  have q2 : put (put ρ1 "own" (.int n)) "much" (.int v) "own" = some (.int n) := by kernel_rfl
  have e3 := h_at (et := eName "tree") (en := eName "own") M2.R hn (name_of q1) (name_of q2)
  have q3 : put (put (put ρ1 "own" (.int n)) "much" (.int v)) "here" (.obj r.o) "here" = some (.obj r.o) := by kernel_rfl
  have q4 : put (put (put ρ1 "own" (.int n)) "much" (.int v)) "here" (.obj r.o) "axis" = some (.int ax) := by rw [← hρ]; simp [eName, eInt, eNone, eBool, bind2_some, bind2, eAttr, eIf, tCmp, eCmp, tNot, tAnd, tOr, tVal, cv_eq, cv_ne, cv_lt, cv_le, cv_gt, cv_is, isN_none, isN_int, isN_obj, eBin, iBin, eMeth, lCons, lNil, eCall, eSub, eBM, eList, eTup, eDict0, mLen, mList, mDict, mGet, mIndex, mAppend, mExtend, mPop, mDPop, mInsert, mRemove, isList, isDict, bindv_cons, bindv_nil, put_at, ofString_inj, Option.map_some, List.length_cons, List.length_nil]
  have q5 : put (put (put ρ1 "own" (.int n)) "much" (.int v)) "here" (.obj r.o) "much" = some (.int v) := by kernel_rfl
  have q6 : put (put (put ρ1 "own" (.int n)) "much" (.int v)) "here" (.obj r.o) "waiting" = some (.obj μ.n) := pl (by kernel_rfl) hw
  have e4 := t_nei (j := 0) (h_fld (x := "sort") M2.R hn (name_of q3) (fun fs wf => wf.sort))
  rw [hs] at e4
  obtain ⟨μ3, h3, R3, s3⟩ := h_set_size M2.R hn ax v
  have e5 := h_meth (x := "set_size") M2.R hn (name_of q3) (fun fs wf => wf.m2) (l_cons (name_of q4) (l_cons (name_of q5) l_nil)) h3
  obtain ⟨g3, r3, l3⟩ := s3.keep M2.l.2 M2.r M2.g
  have hm2 := t_more q6 g3 l3 (by rfl)
  have R4 := R3.new (.list [])
  exact hG ⟨_, run_next rfl ((seq_next (st_nm e1 hρ)).trans ((seq_next ((while_true (n := 199) hm ((seq_next (st_assign e2 (tup_at.trans (name_at.trans (name_at.trans nil_at))))).trans ((seq_next (st_name e3)).trans ((seq_next ((if_f e4).trans rfl)).trans ((seq_next (st_expr e5)).trans rfl))))).trans (while_false (n := 198) hm2))).trans rfl)), R4.1, (M2.st.trans s3).trans R4.2⟩
theorem sub_dict {eo ei : EM} {k : Nat} {es : List (Int × V)} {v : V} (ho : eo ρ μ = some (.obj k, μ)) (hi : ei ρ μ = some (.int n, μ)) (hg : μ.get k = some (.dict es)) (hf : (es.find? fun e => e.1 = n).map (·.2) = some v) : eSub eo ei ρ μ = some (v, μ) := by
  simp only [eSub, ho, bind2_some, hi, hg, hf, Option.map_some]
theorem h_least_size (R : RT μ ro S) (hn : S.ws n = some r) (hs : r.sort = 0) (hk : r.kids = []) (ax : Int) : ∃ μ', m_least_size [.obj S.t, .int n, .int ax] μ = some (.int (if ax = 0 then 3 else 2), μ') ∧ RT μ' ro S ∧ Step μ ro μ' ro := by
  refine byc fun hG => ?_
  have M0 := Made.start R (.dict [])
  have e1 : eDict0 (bindv [("tree" : Str), ("number" : Str), ("axis" : Str)] [.obj S.t, .int n, .int ax]) μ = some (.obj μ.n, μ.new (.dict [])) := by simp [eName, eInt, eNone, eBool, bind2_some, bind2, eAttr, eIf, tCmp, eCmp, tNot, tAnd, tOr, tVal, cv_eq, cv_ne, cv_lt, cv_le, cv_gt, cv_is, isN_none, isN_int, isN_obj, eBin, iBin, eMeth, lCons, lNil, eCall, eSub, eBM, eList, eTup, eDict0, mLen, mList, mDict, mGet, mIndex, mAppend, mExtend, mPop, mDPop, mInsert, mRemove, isList, isDict, bindv_cons, bindv_nil, put_at, ofString_inj, Option.map_some, List.length_cons, List.length_nil]
  generalize hρ : put (bindv [("tree" : Str), ("number" : Str), ("axis" : Str)] [.obj S.t, .int n, .int ax]) "found" (.obj μ.n) = ρ1
  have e0 : ∀ m, lCons (eName "tree") (lCons (eName "number") lNil) ρ1 m = some ([.obj S.t, .int n], m) := fun m => by rw [← hρ]; simp [eName, eInt, eNone, eBool, bind2_some, bind2, eAttr, eIf, tCmp, eCmp, tNot, tAnd, tOr, tVal, cv_eq, cv_ne, cv_lt, cv_le, cv_gt, cv_is, isN_none, isN_int, isN_obj, eBin, iBin, eMeth, lCons, lNil, eCall, eSub, eBM, eList, eTup, eDict0, mLen, mList, mDict, mGet, mIndex, mAppend, mExtend, mPop, mDPop, mInsert, mRemove, isList, isDict, bindv_cons, bindv_nil, put_at, ofString_inj, Option.map_some, List.length_cons, List.length_nil]
  obtain ⟨k, μ1, h1, M1⟩ := h_under M0.R hn hk
  obtain ⟨g1, r1, l1⟩ := M1.st.keep M0.l.2 M0.r M0.g
  have e2 := rev_at1 (call_at (e0 _) h1) M1.g (by simp)
  have M2 := M1.R.new (.list [V.int n].reverse)
  obtain ⟨g2, r2, l2⟩ := M2.2.keep l1 r1 g1
  have gl : (μ1.new (.list [V.int n].reverse)).get μ1.n = some (.list [.int n]) := by rw [get_new, if_pos rfl]; rfl
  generalize hM : μ1.new (.list [V.int n].reverse) = M at e2 M2 g2 l2 gl
  have rl : ro μ1.n = none := M1.R.fresh_ro (Nat.le_refl _)
  have ll : μ1.n < M.n := by rw [← hM, n_new]; exact om62
  have q1 : put ρ1 "own" (.int n) "tree" = some (.obj S.t) := by rw [← hρ]; simp [eName, eInt, eNone, eBool, bind2_some, bind2, eAttr, eIf, tCmp, eCmp, tNot, tAnd, tOr, tVal, cv_eq, cv_ne, cv_lt, cv_le, cv_gt, cv_is, isN_none, isN_int, isN_obj, eBin, iBin, eMeth, lCons, lNil, eCall, eSub, eBM, eList, eTup, eDict0, mLen, mList, mDict, mGet, mIndex, mAppend, mExtend, mPop, mDPop, mInsert, mRemove, isList, isDict, bindv_cons, bindv_nil, put_at, ofString_inj, Option.map_some, List.length_cons, List.length_nil]
  have q2 : put ρ1 "own" (.int n) "own" = some (.int n) := by kernel_rfl
  have e3 := h_at (et := eName "tree") (en := eName "own") M2.1 hn (name_of q1) (name_of q2)
  have p1 : put (put ρ1 "own" (.int n)) "here" (.obj r.o) "here" = some (.obj r.o) := by kernel_rfl
  have p2 : put (put ρ1 "own" (.int n)) "here" (.obj r.o) "tree" = some (.obj S.t) := by rw [← hρ]; simp [eName, eInt, eNone, eBool, bind2_some, bind2, eAttr, eIf, tCmp, eCmp, tNot, tAnd, tOr, tVal, cv_eq, cv_ne, cv_lt, cv_le, cv_gt, cv_is, isN_none, isN_int, isN_obj, eBin, iBin, eMeth, lCons, lNil, eCall, eSub, eBM, eList, eTup, eDict0, mLen, mList, mDict, mGet, mIndex, mAppend, mExtend, mPop, mDPop, mInsert, mRemove, isList, isDict, bindv_cons, bindv_nil, put_at, ofString_inj, Option.map_some, List.length_cons, List.length_nil]
  have p3 : put (put ρ1 "own" (.int n)) "here" (.obj r.o) "own" = some (.int n) := by kernel_rfl
  have p4 : put (put ρ1 "own" (.int n)) "here" (.obj r.o) "found" = some (.obj μ.n) := by rw [← hρ]; simp [eName, eInt, eNone, eBool, bind2_some, bind2, eAttr, eIf, tCmp, eCmp, tNot, tAnd, tOr, tVal, cv_eq, cv_ne, cv_lt, cv_le, cv_gt, cv_is, isN_none, isN_int, isN_obj, eBin, iBin, eMeth, lCons, lNil, eCall, eSub, eBM, eList, eTup, eDict0, mLen, mList, mDict, mGet, mIndex, mAppend, mExtend, mPop, mDPop, mInsert, mRemove, isList, isDict, bindv_cons, bindv_nil, put_at, ofString_inj, Option.map_some, List.length_cons, List.length_nil]
  have p5 : put (put ρ1 "own" (.int n)) "here" (.obj r.o) "axis" = some (.int ax) := by rw [← hρ]; simp [eName, eInt, eNone, eBool, bind2_some, bind2, eAttr, eIf, tCmp, eCmp, tNot, tAnd, tOr, tVal, cv_eq, cv_ne, cv_lt, cv_le, cv_gt, cv_is, isN_none, isN_int, isN_obj, eBin, iBin, eMeth, lCons, lNil, eCall, eSub, eBM, eList, eTup, eDict0, mLen, mList, mDict, mGet, mIndex, mAppend, mExtend, mPop, mDPop, mInsert, mRemove, isList, isDict, bindv_cons, bindv_nil, put_at, ofString_inj, Option.map_some, List.length_cons, List.length_nil]
  have p6 : put (put ρ1 "own" (.int n)) "here" (.obj r.o) "number" = some (.int n) := by rw [← hρ]; simp [eName, eInt, eNone, eBool, bind2_some, bind2, eAttr, eIf, tCmp, eCmp, tNot, tAnd, tOr, tVal, cv_eq, cv_ne, cv_lt, cv_le, cv_gt, cv_is, isN_none, isN_int, isN_obj, eBin, iBin, eMeth, lCons, lNil, eCall, eSub, eBM, eList, eTup, eDict0, mLen, mList, mDict, mGet, mIndex, mAppend, mExtend, mPop, mDPop, mInsert, mRemove, isList, isDict, bindv_cons, bindv_nil, put_at, ofString_inj, Option.map_some, List.length_cons, List.length_nil]
  have e4 := t_eqi (j := 0) (h_fld (x := "sort") M2.1 hn (name_of p1) (fun fs wf => wf.sort))
  rw [hs] at e4
  have e5 := h_tmeth (x := "least_leaf") M2.1 (name_of p2) (fun fs tf => tf.m3) (l_cons (name_of p5) l_nil) (h_least_leaf M2.1 ax)
  have e6 : aSub (eName "found") (eName "own") (.int (if ax = 0 then 3 else 2)) (put (put ρ1 "own" (.int n)) "here" (.obj r.o)) M = some (put (put ρ1 "own" (.int n)) "here" (.obj r.o), M.set μ.n (.dict [(n, .int (if ax = 0 then 3 else 2))])) := by
    unfold aSub
    rw [name_of p4]; dsimp only
    rw [name_of p3]; dsimp only
    unfold setItemM
    rw [g2]; dsimp only
    rw [if_pos (by simp)]
    rfl
  have R3 := M2.1.temp r2 (.dict [(n, .int (if ax = 0 then 3 else 2))])
  have s3 : Step μ ro (M.set μ.n (.dict [(n, .int (if ax = 0 then 3 else 2))])) ro := temp_step (Nat.le_refl _) _ ((M0.st.trans M1.st).trans M2.2)
  have hne : μ1.n ≠ μ.n := by have := M0.l.2; have := M1.st.le; exact om94 l1
  have e7 : eSub (eName "found") (eName "number") (put (put ρ1 "own" (.int n)) "here" (.obj r.o)) (M.set μ.n (.dict [(n, .int (if ax = 0 then 3 else 2))])) = some (.int (if ax = 0 then 3 else 2), _) :=
    sub_dict (name_of p4) (name_of p6) (by rw [get_set, if_pos rfl]) (by simp)
  exact hG ⟨_, run_ret rfl ((seq_next (st_nm e1 hρ)).trans ((seq_next ((forin_at e2).trans ((for_step (f := 199) gl rfl rfl ((seq_next (st_name e3)).trans ((seq_next ((if_t e4).trans ((seq_next (st_assign e5 e6)).trans rfl))).trans rfl))).trans (for_end (f := 198) (by rw [get_set, if_neg hne]; exact gl) rfl)))).trans (seq_ret (st_ret e7)))), R3, s3⟩
end
end Mine
end
section
set_option maxRecDepth 10000
open PySem PySem.W PySem.Calls PyProof.Rows
namespace Mine
section
variable {μ μ0 μ1 μ' : Mem} {ro ro0 ro' : Nat → Option Role} {S S' : Store} {n : Int} {r : WinR} {ρ : Loc}
theorem for_loop {a : AM} {b : SM} {k : Nat} {xs : List V} (I : Nat → Loc → Mem → Prop) (hg : ∀ i ρ μ, I i ρ μ → μ.get k = some (.list xs))
    (hb : ∀ i v ρ μ, I i ρ μ → xs[i]? = some v → ∃ ρ1 μ1 ρ2 μ2, a v ρ μ = some (ρ1, μ1) ∧ b ρ1 μ1 = some (.next, ρ2, μ2) ∧ I (i + 1) ρ2 μ2) :
    ∀ (m f i : Nat) (ρ : Loc) (μ : Mem), xs.length = i + m → m < f → I i ρ μ → ∃ ρ' μ', sFor a b k f i ρ μ = some (.next, ρ', μ') ∧ I xs.length ρ' μ' := by
  intro m
  induction m with
  | zero =>
    intro f i ρ μ hl hf h
    obtain ⟨f, rfl⟩ : ∃ g, f = g + 1 := ⟨f - 1, by exact om95 hf⟩
    refine ⟨ρ, μ, for_end (hg _ _ _ h) (List.getElem?_eq_none (by exact om96 hl)), ?_⟩
    rw [hl]; exact h
  | succ m ih =>
    intro f i ρ μ hl hf h
    obtain ⟨f, rfl⟩ : ∃ g, f = g + 1 := ⟨f - 1, by exact om97 hf⟩
    have hi : i < xs.length := by exact om98 hl
    obtain ⟨ρ1, μ1, ρ2, μ2, h1, h2, h3⟩ := hb i xs[i] ρ μ h (List.getElem?_eq_getElem hi)
    obtain ⟨ρ', μ', h4, h5⟩ := ih f (i + 1) ρ2 μ2 (by exact om99 hl) (by exact om100 hf) h3
    exact ⟨ρ', μ', (for_step (hg _ _ _ h) (List.getElem?_eq_getElem hi) h1 h2).trans h4, h5⟩
theorem intsOf_map (ks : List Int) : intsOf (ks.map V.int) = some ks := by
  induction ks with
  | nil => rfl
  | cons k r ih => rw [List.map_cons, intsOf, ih]; rfl
theorem index_at {eo e1 : EM} {k : Nat} {ks : List Int} {i : Int} {j : Nat} (ho : eo ρ μ = some (.obj k, μ)) (hg : μ.get k = some (.list (ks.map .int))) (hl : ks.length ≤ 1000) (he : e1 ρ μ = some (.int i, μ)) (hj : ks.findIdx? (· == i) = some j) : eBM eo isList (lCons e1 lNil) mIndex ρ μ = some (.int j, μ) := by
  have hl' : (ks.map V.int).length ≤ 1000 := by rw [List.length_map]; exact hl
  simp only [eBM, ho, bind2_some, isList_of hg, reduceIte, lNil, lCons, he, mIndex, hg, hl', intsOf_map, hj, Option.map_some]
theorem findIdx_mid {A B : List Int} {x : Int} (h : x ∉ A) : (A ++ x :: B).findIdx? (· == x) = some A.length := by
  induction A with
  | nil => simp [List.findIdx?_cons]
  | cons a r ih =>
    rw [List.cons_append, List.findIdx?_cons, if_neg (by simp; intro e; exact h (by rw [e]; exact .head _)), ih fun q => h (.tail _ q)]
    simp
theorem set_mid {A B : List Int} {x y : Int} : ((A ++ x :: B).map V.int).set A.length (.int y) = (A ++ y :: B).map V.int := by
  simp [List.map_append, List.set_append]
theorem set_fld {e mo : EM} {x : Str} {v : V} {r' : WinR} (R : RT μ ro S) (hn : S.ws n = some r) (he : e ρ μ = some (v, μ)) (hm : mo ρ μ = some (.obj r.o, μ)) (hw : ∀ fs, WF n r fs → WF n r' (fput x v fs)) (h1 : r'.o = r.o) (h2 : r'.c = r.c) (h3 : r'.e = r.e) (h4 : r'.kids = r.kids) :
    ∃ μ', sAssign e (aAttr mo 93 x) ρ μ = some (.next, ρ, μ') ∧ RT μ' ro (S.upd n r') ∧ Step μ ro μ' ro := by
  obtain ⟨fs, hg, wf⟩ := R.wn n r hn
  obtain ⟨R', s⟩ := R.win hn (hw fs wf) h1 h2 h3 h4
  exact ⟨_, st_set he hm hg wf.len, R', s⟩
theorem upd_same (h : S.ws n = some r) : S.upd n r = S := by
  unfold Store.upd
  have : (fun m => if m = n then some r else S.ws m) = S.ws := by
    funext m
    by_cases hm : m = n
    · rw [if_pos hm, hm, h]
    · rw [if_neg hm]
  rw [this]
theorem h_replace0 {old new : Int} {rn : WinR} (R : RT μ ro S) (ho : S.ws old = some r) (hp : r.parent = 0) (hn : S.ws new = some rn) : ∃ μ', m_replace_child [.obj S.t, .int old, .int new] μ = some (.none, μ') ∧ RT μ' ro { S.upd new (rn.setParent 0) with root := new } ∧ Step μ ro μ' ro := by
  refine byc fun hG => ?_
  generalize hρ : bindv [("tree" : Str), ("old" : Str), ("new" : Str)] [.obj S.t, .int old, .int new] = ρ0
  have a1 : ρ0 "tree" = some (.obj S.t) := lk hρ (by kernel_rfl)
  have a2 : ρ0 "old" = some (.int old) := lk hρ (by kernel_rfl)
  have a3 : ρ0 "new" = some (.int new) := lk hρ (by kernel_rfl)
  have e1 := h_fld (x := "parent") R ho (h_at (et := eName "tree") (en := eName "old") R ho (name_of a1) (name_of a2)) (fun fs wf => wf.parent)
  rw [hp] at e1
  have b1 : put ρ0 "parent" (.int 0) "tree" = some (.obj S.t) := pl (by kernel_rfl) a1
  have b2 : put ρ0 "parent" (.int 0) "new" = some (.int new) := pl (by kernel_rfl) a3
  have b3 : put ρ0 "parent" (.int 0) "parent" = some (.int 0) := by kernel_rfl
  obtain ⟨μ1, h1, R1, s1⟩ := set_fld (x := "parent") (r' := (rn.setParent 0)) R hn (name_of b3) (h_at (et := eName "tree") (en := eName "new") R hn (name_of b1) (name_of b2)) (fun fs wf => wf.put_parent 0) rfl rfl rfl rfl
  obtain ⟨fs, t1, tf⟩ := R1.tr
  obtain ⟨R2, s2⟩ := R1.tree (tf.put_root new)
  have e3 := t_eqi (μ := μ1) (j := 0) (name_of b3)
  exact hG ⟨_, run_nextH hρ rfl ((seq_next (st_name e1)).trans ((seq_next h1).trans ((seq_next ((if_t e3).trans ((seq_next (st_set (name_of b2) (name_of b1) t1 tf.len)).trans rfl))).trans rfl))), R2, s1.trans s2⟩
theorem h_replace1 {old new p : Int} {rn rp : WinR} {A B : List Int} (R : RT μ ro S) (ho : S.ws old = some r) (hp : r.parent = p) (hp0 : p ≠ 0) (hn : S.ws new = some rn) (hpn : p ≠ new) (hrp : S.ws p = some rp) (hk : rp.kids = A ++ old :: B) (hA : old ∉ A) (hl : rp.kids.length ≤ 900) :
    ∃ μ', m_replace_child [.obj S.t, .int old, .int new] μ = some (.none, μ') ∧ RT μ' ro ((S.upd new (rn.setParent p)).upd p (rp.setKids (A ++ new :: B))) ∧ Step μ ro μ' ro := by
  refine byc fun hG => ?_
  generalize hρ : bindv [("tree" : Str), ("old" : Str), ("new" : Str)] [.obj S.t, .int old, .int new] = ρ0
  have a1 : ρ0 "tree" = some (.obj S.t) := lk hρ (by kernel_rfl)
  have a2 : ρ0 "old" = some (.int old) := lk hρ (by kernel_rfl)
  have a3 : ρ0 "new" = some (.int new) := lk hρ (by kernel_rfl)
  have e1 := h_fld (x := "parent") R ho (h_at (et := eName "tree") (en := eName "old") R ho (name_of a1) (name_of a2)) (fun fs wf => wf.parent)
  rw [hp] at e1
  have b1 : put ρ0 "parent" (.int p) "tree" = some (.obj S.t) := pl (by kernel_rfl) a1
  have b2 : put ρ0 "parent" (.int p) "new" = some (.int new) := pl (by kernel_rfl) a3
  have b3 : put ρ0 "parent" (.int p) "parent" = some (.int p) := by kernel_rfl
  have b4 : put ρ0 "parent" (.int p) "old" = some (.int old) := pl (by kernel_rfl) a2
  obtain ⟨μ1, h1, R1, s1⟩ := set_fld (x := "parent") (r' := (rn.setParent p)) R hn (name_of b3) (h_at (et := eName "tree") (en := eName "new") R hn (name_of b1) (name_of b2)) (fun fs wf => wf.put_parent p) rfl rfl rfl rfl
  have e3 := t_eqi (μ := μ1) (j := 0) (name_of b3)
  rw [show (p == 0) = false from beq_eq_false_iff_ne.mpr hp0] at e3
  have hrp1 : (S.upd new (rn.setParent p)).ws p = some rp := by rw [upd_ne _ _ hpn]; exact hrp
  have e4 := h_fld (x := "children") R1 hrp1 (h_at (et := eName "tree") (en := eName "parent") R1 hrp1 (name_of b1) (name_of b3)) (fun fs wf => wf.children)
  have c1 : put (put ρ0 "parent" (.int p)) "children" (.obj rp.c) "children" = some (.obj rp.c) := by kernel_rfl
  have c2 : put (put ρ0 "parent" (.int p)) "children" (.obj rp.c) "old" = some (.int old) := pl (by kernel_rfl) a2
  have c3 : put (put ρ0 "parent" (.int p)) "children" (.obj rp.c) "new" = some (.int new) := pl (by kernel_rfl) a3
  have gk := R1.kd _ _ hrp1
  have e5 := index_at (name_of c1) gk (by exact om101 hl) (name_of c2) (by rw [hk]; exact findIdx_mid hA)
  obtain ⟨R2, s2⟩ := R1.kids hrp1 (A ++ new :: B)
  have e6 : aSub (eName "children") (eBM (eName "children") isList (lCons (eName "old") lNil) mIndex) (.int new) (put (put ρ0 "parent" (.int p)) "children" (.obj rp.c)) μ1 = some (put (put ρ0 "parent" (.int p)) "children" (.obj rp.c), μ1.set rp.c (.list ((A ++ new :: B).map .int))) := by
    unfold aSub
    rw [name_of c1]; dsimp only
    rw [e5]; dsimp only
    unfold setItemM
    rw [gk]; dsimp only
    rw [hk] at hl ⊢
    rw [if_pos (by rw [List.length_map, List.length_append, List.length_cons] at *; exact om102 hl), Int.toNat_natCast, set_mid]
    rfl
  exact hG ⟨_, run_nextH hρ rfl ((seq_next (st_name e1)).trans ((seq_next h1).trans ((seq_next ((if_f e3).trans ((seq_next (st_name e4)).trans ((seq_next (st_assign (name_of c3) e6)).trans rfl)))).trans rfl))), R2, s1.trans s2⟩
theorem h_joined (R : RT μ ro S) (hn : S.ws n = some r) (hl : r.kids.length ≤ 150) (hk : ∀ k ∈ r.kids, ∃ q, S.ws k = some q ∧ q.sort ≠ r.sort ∧ q.parent = n) : ∃ μ' ro' c, m_joined [.obj S.t, .int n] μ = some (.none, μ') ∧ RT μ' ro' (S.upd n (r.setC c)) ∧ Step μ ro μ' ro' := by
  refine byc fun hG => ?_
  generalize hρ : bindv [("tree" : Str), ("number" : Str)] [.obj S.t, .int n] = ρ0
  have a1 : ρ0 "tree" = some (.obj S.t) := lk hρ (by kernel_rfl)
  have a2 : ρ0 "number" = some (.int n) := lk hρ (by kernel_rfl)
  have e1 := h_at (et := eName "tree") (en := eName "number") R hn (name_of a1) (name_of a2)
  have e2 : eList lNil (put ρ0 "here" (.obj r.o)) μ = some (.obj μ.n, μ.new (.list [])) := by simp [eName, eInt, eNone, eBool, bind2_some, bind2, eAttr, eIf, tCmp, eCmp, tNot, tAnd, tOr, tVal, cv_eq, cv_ne, cv_lt, cv_le, cv_gt, cv_is, isN_none, isN_int, isN_obj, eBin, iBin, eMeth, lCons, lNil, eCall, eSub, eBM, eList, eTup, eDict0, mLen, mList, mDict, mGet, mIndex, mAppend, mExtend, mPop, mDPop, mInsert, mRemove, isList, isDict, bindv_cons, bindv_nil, put_at, ofString_inj, Option.map_some, List.length_cons, List.length_nil]
  have M0 := Made.start R (.list [])
  generalize hρ1 : put (put ρ0 "here" (.obj r.o)) "found" (.obj μ.n) = ρ1
  have b1 : ρ1 "tree" = some (.obj S.t) := lk2 hρ1 (by kernel_rfl) a1
  have b2 : ρ1 "number" = some (.int n) := lk2 hρ1 (by kernel_rfl) a2
  have b3 : ρ1 "here" = some (.obj r.o) := lk hρ1 (by kernel_rfl)
  have b4 : ρ1 "found" = some (.obj μ.n) := lk hρ1 (by kernel_rfl)
  have hlen : (r.kids.map V.int).length = 0 + r.kids.length := by simp
  obtain ⟨ρ2, μ2, h2, ⟨c1, c2, c3, c4, M2⟩⟩ := for_loop (a := aName "child") (b := sSeq (sAssign (eSub (eAttr (eName "tree") 164 "windows") (eName "child")) (aName "own"))
  (sSeq (sIf (tCmp .Eq (eAttr (eName "own") 93 "sort") (eAttr (eName "here") 93 "sort")) (sSeq (sExpr (eBM (eName "found") isList (lCons (eAttr (eName "own") 93 "children") lNil) mExtend))
  (sSeq (sExpr (eBM (eAttr (eName "tree") 164 "windows") isDict (lCons (eName "child") lNil) mDPop))
  sNil)) (sSeq (sExpr (eBM (eName "found") isList (lCons (eName "child") lNil) mAppend))
  sNil))
  sNil)) (k := r.c) (xs := r.kids.map V.int)
    (fun i ρ m => ρ "tree" = some (.obj S.t) ∧ ρ "number" = some (.int n) ∧ ρ "here" = some (.obj r.o) ∧ ρ "found" = some (.obj μ.n) ∧ Made μ ro S μ.n (.list ((r.kids.take i).map .int)) m)
    (fun i ρ m h => h.2.2.2.2.R.kd _ _ hn) (fun i v ρ m h hi => by
      obtain ⟨c1, c2, c3, c4, M⟩ := h
      rw [List.getElem?_map] at hi
      obtain ⟨x, hx, rfl⟩ := Option.map_eq_some_iff.mp hi
      obtain ⟨q, hq, hqs, _⟩ := hk x (List.mem_of_getElem? hx)
      have d1 : put ρ "child" (.int x) "tree" = some (.obj S.t) := pl (by kernel_rfl) c1
      have d2 : put ρ "child" (.int x) "child" = some (.int x) := by kernel_rfl
      have f1 := h_at (et := eName "tree") (en := eName "child") M.R hq (name_of d1) (name_of d2)
      have d3 : put (put ρ "child" (.int x)) "own" (.obj q.o) "own" = some (.obj q.o) := by kernel_rfl
      have d4 : put (put ρ "child" (.int x)) "own" (.obj q.o) "here" = some (.obj r.o) := pl (by kernel_rfl) c3
      have d5 : put (put ρ "child" (.int x)) "own" (.obj q.o) "found" = some (.obj μ.n) := pl (by kernel_rfl) c4
      have d6 : put (put ρ "child" (.int x)) "own" (.obj q.o) "child" = some (.int x) := by kernel_rfl
      have f2 : tCmp .Eq (eAttr (eName "own") 93 "sort") (eAttr (eName "here") 93 "sort") (put (put ρ "child" (.int x)) "own" (.obj q.o)) m = some (false, m) := by
        simp only [tCmp, h_fld (x := "sort") M.R hq (name_of d3) (fun fs wf => wf.sort), h_fld (x := "sort") M.R hn (name_of d4) (fun fs wf => wf.sort), bind2_some, cv_eq, cv_ne, cv_lt, cv_le, cv_gt, cv_is, isN_none, isN_int, isN_obj, Option.map_some]
        rw [show (q.sort == r.sort) = false from beq_eq_false_iff_ne.mpr hqs]
      have hi2 : i < r.kids.length := (List.getElem?_eq_some_iff.mp hx).1
      have f3 := append_at (name_of d5) M.g (by rw [List.length_map, List.length_take]; exact om103 hl) (name_of d6)
      refine ⟨_, _, _, _, rfl, (seq_next (st_name f1)).trans ((seq_next ((if_f f2).trans ((seq_next (st_expr f3)).trans rfl))).trans rfl), by simp [eName, eInt, eNone, eBool, bind2_some, bind2, eAttr, eIf, tCmp, eCmp, tNot, tAnd, tOr, tVal, cv_eq, cv_ne, cv_lt, cv_le, cv_gt, cv_is, isN_none, isN_int, isN_obj, eBin, iBin, eMeth, lCons, lNil, eCall, eSub, eBM, eList, eTup, eDict0, mLen, mList, mDict, mGet, mIndex, mAppend, mExtend, mPop, mDPop, mInsert, mRemove, isList, isDict, bindv_cons, bindv_nil, put_at, ofString_inj, Option.map_some, List.length_cons, List.length_nil, c1], by simp [eName, eInt, eNone, eBool, bind2_some, bind2, eAttr, eIf, tCmp, eCmp, tNot, tAnd, tOr, tVal, cv_eq, cv_ne, cv_lt, cv_le, cv_gt, cv_is, isN_none, isN_int, isN_obj, eBin, iBin, eMeth, lCons, lNil, eCall, eSub, eBM, eList, eTup, eDict0, mLen, mList, mDict, mGet, mIndex, mAppend, mExtend, mPop, mDPop, mInsert, mRemove, isList, isDict, bindv_cons, bindv_nil, put_at, ofString_inj, Option.map_some, List.length_cons, List.length_nil, c2], by simp [eName, eInt, eNone, eBool, bind2_some, bind2, eAttr, eIf, tCmp, eCmp, tNot, tAnd, tOr, tVal, cv_eq, cv_ne, cv_lt, cv_le, cv_gt, cv_is, isN_none, isN_int, isN_obj, eBin, iBin, eMeth, lCons, lNil, eCall, eSub, eBM, eList, eTup, eDict0, mLen, mList, mDict, mGet, mIndex, mAppend, mExtend, mPop, mDPop, mInsert, mRemove, isList, isDict, bindv_cons, bindv_nil, put_at, ofString_inj, Option.map_some, List.length_cons, List.length_nil, c3], by simp [eName, eInt, eNone, eBool, bind2_some, bind2, eAttr, eIf, tCmp, eCmp, tNot, tAnd, tOr, tVal, cv_eq, cv_ne, cv_lt, cv_le, cv_gt, cv_is, isN_none, isN_int, isN_obj, eBin, iBin, eMeth, lCons, lNil, eCall, eSub, eBM, eList, eTup, eDict0, mLen, mList, mDict, mGet, mIndex, mAppend, mExtend, mPop, mDPop, mInsert, mRemove, isList, isDict, bindv_cons, bindv_nil, put_at, ofString_inj, Option.map_some, List.length_cons, List.length_nil, c4], ?_⟩
      have hst : (r.kids.take i).map V.int ++ [.int x] = (r.kids.take (i + 1)).map V.int := by
        rw [List.take_add_one, hx]; simp
      rw [hst]
      exact M.set _)
    r.kids.length 200 0 ρ1 (μ.new (.list [])) hlen (by exact om90 hl) ⟨b1, b2, b3, b4, by simpa using M0⟩
  rw [List.length_map, List.take_length] at M2
  have e3 := forin_at (a := aName "child") (f := 200) (b := sSeq (sAssign (eSub (eAttr (eName "tree") 164 "windows") (eName "child")) (aName "own"))
  (sSeq (sIf (tCmp .Eq (eAttr (eName "own") 93 "sort") (eAttr (eName "here") 93 "sort")) (sSeq (sExpr (eBM (eName "found") isList (lCons (eAttr (eName "own") 93 "children") lNil) mExtend))
  (sSeq (sExpr (eBM (eAttr (eName "tree") 164 "windows") isDict (lCons (eName "child") lNil) mDPop))
  sNil)) (sSeq (sExpr (eBM (eName "found") isList (lCons (eName "child") lNil) mAppend))
  sNil))
  sNil)) (h_fld (x := "children") M0.R hn (name_of b3) (fun fs wf => wf.children))
  obtain ⟨ρ3, μ3, h3, ⟨g1, g2, g3, g4, M3⟩⟩ := for_loop (a := aName "child") (b := sSeq (sAssign (eName "number") (aAttr (eSub (eAttr (eName "tree") 164 "windows") (eName "child")) 93 "parent"))
  sNil) (k := μ.n) (xs := r.kids.map V.int)
    (fun i ρ m => ρ "tree" = some (.obj S.t) ∧ ρ "number" = some (.int n) ∧ ρ "here" = some (.obj r.o) ∧ ρ "found" = some (.obj μ.n) ∧ Made μ ro S μ.n (.list (r.kids.map .int)) m)
    (fun i ρ m h => h.2.2.2.2.g) (fun i v ρ m h hi => by
      obtain ⟨c1, c2, c3, c4, M⟩ := h
      rw [List.getElem?_map] at hi
      obtain ⟨x, hx, rfl⟩ := Option.map_eq_some_iff.mp hi
      obtain ⟨q, hq, _, hqp⟩ := hk x (List.mem_of_getElem? hx)
      have d1 : put ρ "child" (.int x) "tree" = some (.obj S.t) := pl (by kernel_rfl) c1
      have d2 : put ρ "child" (.int x) "child" = some (.int x) := by kernel_rfl
      have d3 : put ρ "child" (.int x) "number" = some (.int n) := pl (by kernel_rfl) c2
      obtain ⟨μ4, f1, R4, s4⟩ := set_fld (x := "parent") (r' := (q.setParent n)) M.R hq (name_of d3) (h_at (et := eName "tree") (en := eName "child") M.R hq (name_of d1) (name_of d2)) (fun fs wf => wf.put_parent n) rfl rfl rfl rfl
      have hq' : (q.setParent n) = q := by rw [← hqp]; rfl
      rw [hq', upd_same hq] at R4
      obtain ⟨k1, k2, k3⟩ := s4.keep M.l.2 M.r M.g
      exact ⟨_, _, _, _, rfl, (seq_next f1).trans rfl, by simp [eName, eInt, eNone, eBool, bind2_some, bind2, eAttr, eIf, tCmp, eCmp, tNot, tAnd, tOr, tVal, cv_eq, cv_ne, cv_lt, cv_le, cv_gt, cv_is, isN_none, isN_int, isN_obj, eBin, iBin, eMeth, lCons, lNil, eCall, eSub, eBM, eList, eTup, eDict0, mLen, mList, mDict, mGet, mIndex, mAppend, mExtend, mPop, mDPop, mInsert, mRemove, isList, isDict, bindv_cons, bindv_nil, put_at, ofString_inj, Option.map_some, List.length_cons, List.length_nil, c1], by simp [eName, eInt, eNone, eBool, bind2_some, bind2, eAttr, eIf, tCmp, eCmp, tNot, tAnd, tOr, tVal, cv_eq, cv_ne, cv_lt, cv_le, cv_gt, cv_is, isN_none, isN_int, isN_obj, eBin, iBin, eMeth, lCons, lNil, eCall, eSub, eBM, eList, eTup, eDict0, mLen, mList, mDict, mGet, mIndex, mAppend, mExtend, mPop, mDPop, mInsert, mRemove, isList, isDict, bindv_cons, bindv_nil, put_at, ofString_inj, Option.map_some, List.length_cons, List.length_nil, c2], by simp [eName, eInt, eNone, eBool, bind2_some, bind2, eAttr, eIf, tCmp, eCmp, tNot, tAnd, tOr, tVal, cv_eq, cv_ne, cv_lt, cv_le, cv_gt, cv_is, isN_none, isN_int, isN_obj, eBin, iBin, eMeth, lCons, lNil, eCall, eSub, eBM, eList, eTup, eDict0, mLen, mList, mDict, mGet, mIndex, mAppend, mExtend, mPop, mDPop, mInsert, mRemove, isList, isDict, bindv_cons, bindv_nil, put_at, ofString_inj, Option.map_some, List.length_cons, List.length_nil, c3], by simp [eName, eInt, eNone, eBool, bind2_some, bind2, eAttr, eIf, tCmp, eCmp, tNot, tAnd, tOr, tVal, cv_eq, cv_ne, cv_lt, cv_le, cv_gt, cv_is, isN_none, isN_int, isN_obj, eBin, iBin, eMeth, lCons, lNil, eCall, eSub, eBM, eList, eTup, eDict0, mLen, mList, mDict, mGet, mIndex, mAppend, mExtend, mPop, mDPop, mInsert, mRemove, isList, isDict, bindv_cons, bindv_nil, put_at, ofString_inj, Option.map_some, List.length_cons, List.length_nil, c4], ⟨R4, M.st.trans s4, k1, ⟨M.l.1, k3⟩, M.r⟩⟩)
    r.kids.length 200 0 ρ2 μ2 hlen (by exact om90 hl) ⟨c1, c2, c3, c4, M2⟩
  obtain ⟨fs, hg, wf⟩ := M3.R.wn _ _ hn
  obtain ⟨ro', R5, s5⟩ := M3.R.adopt M3.st hn M3.r M3.l.1 M3.l.2 M3.g hg
  have e5 := st_set (x := "children") (name_of (μ := μ3) g4) (name_of g3) hg wf.len
  exact hG ⟨_, ro', μ.n, run_nextH hρ rfl ((seq_next (st_name e1)).trans ((seq_next (st_nm e2 hρ1)).trans ((seq_next (e3.trans h2)).trans ((seq_next ((forin_at (name_of c4)).trans h3)).trans ((seq_next e5).trans rfl))))), R5, s5⟩
end
end Mine
end
section
set_option maxRecDepth 10000
open PySem PySem.W PySem.Calls PyProof.Rows
namespace Mine
noncomputable def Pos (ws ws' : WS) : Prop := (∀ n, ws n = none → ws' n = none) ∧ ∀ n r, ws n = some r → ∃ l t, ws' n = some (r.setPos l t)
theorem Pos.refl (ws : WS) : Pos ws ws := ⟨fun _ h => h, fun n r h => ⟨r.left, r.top, h⟩⟩
theorem Pos.trans {a b c : WS} (x : Pos a b) (y : Pos b c) : Pos a c := ⟨fun n h => y.1 n (x.1 n h), fun n r h => by
  obtain ⟨l, t, h1⟩ := x.2 n r h
  obtain ⟨l', t', h2⟩ := y.2 n _ h1
  exact ⟨l', t', h2⟩⟩
mutual
theorem Sh.pos {ws ws' : WS} (x : Pos ws ws') : ∀ {p : Int} {T : WT}, Sh ws p T → Sh ws' p T
  | p, .leaf n w h c, ⟨r, h1, h2⟩ => by
    obtain ⟨l, t, e⟩ := x.2 n r h1
    exact ⟨_, e, h2⟩
  | p, .node n w h row ks, ⟨⟨r, h1, h2⟩, h3, h4, h5⟩ => by
    obtain ⟨l, t, e⟩ := x.2 n r h1
    exact ⟨⟨_, e, h2⟩, h3, h4, ShL.pos x h5⟩
theorem ShL.pos {ws ws' : WS} (x : Pos ws ws') : ∀ {p : Int} {ks : List WT}, ShL ws p ks → ShL ws' p ks
  | _, [], _ => trivial
  | _, _ :: _, ⟨h1, h2⟩ => ⟨Sh.pos x h1, ShL.pos x h2⟩
end
mutual
noncomputable def At (ws : WS) (l t : Int) : WT → Prop
  | .leaf n _ _ _ => ∃ r, ws n = some r ∧ r.left = l ∧ r.top = t
  | .node _ _ _ row ks => AtL ws row l t ks
noncomputable def AtL (ws : WS) (row : Bool) (l t : Int) : List WT → Prop
  | [] => True
  | k :: r => At ws l t k ∧ AtL ws row (if row then l + k.wid else l) (if row then t else t + k.hei) r
end
noncomputable def kidsPos (row : Bool) (l t : Int) : List WT → List (WT × Int × Int)
  | [] => []
  | k :: r => (k, l, t) :: kidsPos row (if row then l + k.wid else l) (if row then t else t + k.hei) r
noncomputable def tup3 (x : WT × Int × Int) : V := .tup [.int x.1.num, .int x.2.1, .int x.2.2]
theorem ok_tup3 (W : List (WT × Int × Int)) : (W.map tup3).all V.ok = true := by
  induction W with
  | nil => rfl
  | cons x r ih =>
    have : V.ok (tup3 x) = true := rfl
    simp only [List.map_cons, List.all_cons, ih, this, Bool.and_self]
theorem kidsPos_fst {row : Bool} : ∀ {l t : Int} {ks : List WT}, (kidsPos row l t ks).map (·.1) = ks
  | _, _, [] => rfl
  | _, _, _ :: _ => by simp only [kidsPos, List.map_cons, kidsPos_fst]
theorem atL_of {ws : WS} {row : Bool} : ∀ {l t : Int} {ks : List WT}, (∀ x ∈ kidsPos row l t ks, At ws x.2.1 x.2.2 x.1) → AtL ws row l t ks
  | _, _, [], _ => trivial
  | _, _, _ :: _, h => ⟨h _ (.head _), atL_of fun x hx => h x (.tail _ hx)⟩
noncomputable def sizeW (W : List (WT × Int × Int)) : Nat := WT.sizeL (W.map (·.1))
noncomputable def numsW (W : List (WT × Int × Int)) : List Int := WT.numsL (W.map (·.1))
theorem numsL_append (a b : List WT) : WT.numsL (a ++ b) = WT.numsL a ++ WT.numsL b := by
  induction a with
  | nil => rfl
  | cons k r ih => simp only [List.cons_append, WT.numsL, ih, List.append_assoc]
theorem num_mem (T : WT) : T.num ∈ T.nums := by cases T <;> simp [WT.num, WT.nums]
section
variable {μ μ0 μ1 μ' : Mem} {ro ro0 ro' : Nat → Option Role} {S S' : Store} {n : Int} {r : WinR} {ρ : Loc}
noncomputable abbrev placeBody : SM := sSeq (sExpr (eBM (eName "waiting") isList (lCons (eTup (lCons (eName "child") (lCons (eName "left") (lCons (eName "top") lNil)))) lNil) mAppend))
  (sSeq (sIf (tCmp .Eq (eCall (lCons (eAttr (eName "here") 93 "sort") lNil) m_along) (eInt 0)) (sSeq (sAssign (eBin .Add (eName "left") (eAttr (eSub (eAttr (eName "tree") 164 "windows") (eName "child")) 93 "width")) (aName "left"))
  sNil) (sSeq (sAssign (eBin .Add (eName "top") (eAttr (eSub (eAttr (eName "tree") 164 "windows") (eName "child")) 93 "height")) (aName "top"))
  sNil))
  sNil)
theorem place_kids {row : Bool} {b : Nat} {kids : List WT} (hn : S.ws n = some r) (hs : r.sort = rowSort row) (hkk : r.kids = kids.map WT.num) : ∀ (suf pre : List WT) (l t : Int) (W : List (WT × Int × Int)) (f : Nat) (ρ : Loc) (μ : Mem), kids = pre ++ suf → ShL S.ws n suf → suf.length < f → W.length + suf.length ≤ 900 →
    ρ "tree" = some (.obj S.t) → ρ "waiting" = some (.obj b) → ρ "here" = some (.obj r.o) → ρ "left" = some (.int l) → ρ "top" = some (.int t) → Made μ0 ro S b (.list (W.map tup3)) μ →
    ∃ ρ' μ', sFor (aName "child") placeBody r.c f pre.length ρ μ = some (.next, ρ', μ') ∧ ρ' "tree" = some (.obj S.t) ∧ ρ' "waiting" = some (.obj b) ∧ Made μ0 ro S b (.list ((W ++ kidsPos row l t suf).map tup3)) μ' := by
  intro suf
  induction suf with
  | nil =>
    intro pre l t W f ρ μ hk _ hf hl h1 h2 h3 h4 h5 M
    obtain ⟨f, rfl⟩ : ∃ g, f = g + 1 := ⟨f - 1, by simp at hf; exact om95 hf⟩
    have gk := M.R.kd _ _ hn
    rw [hkk, hk] at gk
    exact ⟨ρ, μ, for_end gk (by simp), h1, h2, by rw [kidsPos, List.append_nil]; exact M⟩
  | cons k suf ih =>
    intro pre l t W f ρ μ hk hsh hf hl h1 h2 h3 h4 h5 M
    obtain ⟨f, rfl⟩ : ∃ g, f = g + 1 := ⟨f - 1, by simp at hf; exact om97 hf⟩
    have gk := M.R.kd _ _ hn
    rw [hkk, hk] at gk
    obtain ⟨q, hq, _, _, hqw, hqh⟩ := sh_at hsh.1
    have d1 : put ρ "child" (.int k.num) "child" = some (.int k.num) := by kernel_rfl
    have d2 : put ρ "child" (.int k.num) "left" = some (.int l) := pl (by kernel_rfl) h4
    have d3 : put ρ "child" (.int k.num) "top" = some (.int t) := pl (by kernel_rfl) h5
    have d4 : put ρ "child" (.int k.num) "waiting" = some (.obj b) := pl (by kernel_rfl) h2
    have d5 : put ρ "child" (.int k.num) "here" = some (.obj r.o) := pl (by kernel_rfl) h3
    have d6 : put ρ "child" (.int k.num) "tree" = some (.obj S.t) := pl (by kernel_rfl) h1
    have e0 : eTup (lCons (eName "child") (lCons (eName "left") (lCons (eName "top") lNil))) (put ρ "child" (.int k.num)) μ = some (tup3 (k, l, t), μ) := by
      simp only [eTup, l_cons (name_of d1) (l_cons (name_of d2) (l_cons (name_of d3) l_nil)), bind2_some]
      rfl
    have e1 := append_at (name_of d4) M.g (by rw [List.length_map]; simp at hl; exact om104 hl) e0
    have M1 := M.set (.list (W.map tup3 ++ [tup3 (k, l, t)]))
    have hW : W.map tup3 ++ [tup3 (k, l, t)] = (W ++ [(k, l, t)]).map tup3 := by simp
    rw [hW] at e1 M1
    have e2 := t_eqi (j := 0) (call_at (l_cons (h_fld (x := "sort") M1.R hn (name_of d5) (fun fs wf => wf.sort)) l_nil) (h_along r.sort))
    rw [hs] at e2
    have e3 := h_at (et := eName "tree") (en := eName "child") M1.R hq (name_of d6) (name_of d1)
    have hi : (List.map V.int (List.map WT.num (pre ++ k :: suf)))[pre.length]? = some (.int k.num) := by simp
    have hpl : (pre ++ [k]).length = pre.length + 1 := by simp
    cases row with
    | true =>
      have e4 : eBin .Add (eName "left") (eAttr (eSub (eAttr (eName "tree") 164 "windows") (eName "child")) 93 "width") (put ρ "child" (.int k.num)) (μ.set b (.list ((W ++ [(k, l, t)]).map tup3))) = some (.int (l + k.wid), μ.set b (.list ((W ++ [(k, l, t)]).map tup3))) := by
        simp only [eBin, name_of d2, h_fld (x := "width") M1.R hq e3 (fun fs wf => wf.width), bind2_some, iBin, Option.map_some, hqw]
      obtain ⟨ρ', μ', g1, g2, g3, g4⟩ := ih (pre ++ [k]) (l + k.wid) t (W ++ [(k, l, t)]) f (put (put ρ "child" (.int k.num)) "left" (.int (l + k.wid))) _ (by simp [hk]) hsh.2 (by simp at hf; exact om48 hf) (by simp at hl ⊢; exact om105 hl) (by simp [eName, eInt, eNone, eBool, bind2_some, bind2, eAttr, eIf, tCmp, eCmp, tNot, tAnd, tOr, tVal, cv_eq, cv_ne, cv_lt, cv_le, cv_gt, cv_is, isN_none, isN_int, isN_obj, eBin, iBin, eMeth, lCons, lNil, eCall, eSub, eBM, eList, eTup, eDict0, mLen, mList, mDict, mGet, mIndex, mAppend, mExtend, mPop, mDPop, mInsert, mRemove, isList, isDict, bindv_cons, bindv_nil, put_at, ofString_inj, Option.map_some, List.length_cons, List.length_nil, h1]) (by simp [eName, eInt, eNone, eBool, bind2_some, bind2, eAttr, eIf, tCmp, eCmp, tNot, tAnd, tOr, tVal, cv_eq, cv_ne, cv_lt, cv_le, cv_gt, cv_is, isN_none, isN_int, isN_obj, eBin, iBin, eMeth, lCons, lNil, eCall, eSub, eBM, eList, eTup, eDict0, mLen, mList, mDict, mGet, mIndex, mAppend, mExtend, mPop, mDPop, mInsert, mRemove, isList, isDict, bindv_cons, bindv_nil, put_at, ofString_inj, Option.map_some, List.length_cons, List.length_nil, h2]) (by simp [eName, eInt, eNone, eBool, bind2_some, bind2, eAttr, eIf, tCmp, eCmp, tNot, tAnd, tOr, tVal, cv_eq, cv_ne, cv_lt, cv_le, cv_gt, cv_is, isN_none, isN_int, isN_obj, eBin, iBin, eMeth, lCons, lNil, eCall, eSub, eBM, eList, eTup, eDict0, mLen, mList, mDict, mGet, mIndex, mAppend, mExtend, mPop, mDPop, mInsert, mRemove, isList, isDict, bindv_cons, bindv_nil, put_at, ofString_inj, Option.map_some, List.length_cons, List.length_nil, h3]) (by simp [eName, eInt, eNone, eBool, bind2_some, bind2, eAttr, eIf, tCmp, eCmp, tNot, tAnd, tOr, tVal, cv_eq, cv_ne, cv_lt, cv_le, cv_gt, cv_is, isN_none, isN_int, isN_obj, eBin, iBin, eMeth, lCons, lNil, eCall, eSub, eBM, eList, eTup, eDict0, mLen, mList, mDict, mGet, mIndex, mAppend, mExtend, mPop, mDPop, mInsert, mRemove, isList, isDict, bindv_cons, bindv_nil, put_at, ofString_inj, Option.map_some, List.length_cons, List.length_nil]) (by simp [eName, eInt, eNone, eBool, bind2_some, bind2, eAttr, eIf, tCmp, eCmp, tNot, tAnd, tOr, tVal, cv_eq, cv_ne, cv_lt, cv_le, cv_gt, cv_is, isN_none, isN_int, isN_obj, eBin, iBin, eMeth, lCons, lNil, eCall, eSub, eBM, eList, eTup, eDict0, mLen, mList, mDict, mGet, mIndex, mAppend, mExtend, mPop, mDPop, mInsert, mRemove, isList, isDict, bindv_cons, bindv_nil, put_at, ofString_inj, Option.map_some, List.length_cons, List.length_nil, h5]) M1
      rw [hpl] at g1
      exact ⟨ρ', μ', (for_step gk hi rfl ((seq_next (st_expr e1)).trans ((seq_next ((if_t e2).trans ((seq_next (st_name e4)).trans rfl))).trans rfl))).trans g1, g2, g3, by simpa [kidsPos] using g4⟩
    | false =>
      have e4 : eBin .Add (eName "top") (eAttr (eSub (eAttr (eName "tree") 164 "windows") (eName "child")) 93 "height") (put ρ "child" (.int k.num)) (μ.set b (.list ((W ++ [(k, l, t)]).map tup3))) = some (.int (t + k.hei), μ.set b (.list ((W ++ [(k, l, t)]).map tup3))) := by
        simp only [eBin, name_of d3, h_fld (x := "height") M1.R hq e3 (fun fs wf => wf.height), bind2_some, iBin, Option.map_some, hqh]
      obtain ⟨ρ', μ', g1, g2, g3, g4⟩ := ih (pre ++ [k]) l (t + k.hei) (W ++ [(k, l, t)]) f (put (put ρ "child" (.int k.num)) "top" (.int (t + k.hei))) _ (by simp [hk]) hsh.2 (by simp at hf; exact om48 hf) (by simp at hl ⊢; exact om105 hl) (by simp [eName, eInt, eNone, eBool, bind2_some, bind2, eAttr, eIf, tCmp, eCmp, tNot, tAnd, tOr, tVal, cv_eq, cv_ne, cv_lt, cv_le, cv_gt, cv_is, isN_none, isN_int, isN_obj, eBin, iBin, eMeth, lCons, lNil, eCall, eSub, eBM, eList, eTup, eDict0, mLen, mList, mDict, mGet, mIndex, mAppend, mExtend, mPop, mDPop, mInsert, mRemove, isList, isDict, bindv_cons, bindv_nil, put_at, ofString_inj, Option.map_some, List.length_cons, List.length_nil, h1]) (by simp [eName, eInt, eNone, eBool, bind2_some, bind2, eAttr, eIf, tCmp, eCmp, tNot, tAnd, tOr, tVal, cv_eq, cv_ne, cv_lt, cv_le, cv_gt, cv_is, isN_none, isN_int, isN_obj, eBin, iBin, eMeth, lCons, lNil, eCall, eSub, eBM, eList, eTup, eDict0, mLen, mList, mDict, mGet, mIndex, mAppend, mExtend, mPop, mDPop, mInsert, mRemove, isList, isDict, bindv_cons, bindv_nil, put_at, ofString_inj, Option.map_some, List.length_cons, List.length_nil, h2]) (by simp [eName, eInt, eNone, eBool, bind2_some, bind2, eAttr, eIf, tCmp, eCmp, tNot, tAnd, tOr, tVal, cv_eq, cv_ne, cv_lt, cv_le, cv_gt, cv_is, isN_none, isN_int, isN_obj, eBin, iBin, eMeth, lCons, lNil, eCall, eSub, eBM, eList, eTup, eDict0, mLen, mList, mDict, mGet, mIndex, mAppend, mExtend, mPop, mDPop, mInsert, mRemove, isList, isDict, bindv_cons, bindv_nil, put_at, ofString_inj, Option.map_some, List.length_cons, List.length_nil, h3]) (by simp [eName, eInt, eNone, eBool, bind2_some, bind2, eAttr, eIf, tCmp, eCmp, tNot, tAnd, tOr, tVal, cv_eq, cv_ne, cv_lt, cv_le, cv_gt, cv_is, isN_none, isN_int, isN_obj, eBin, iBin, eMeth, lCons, lNil, eCall, eSub, eBM, eList, eTup, eDict0, mLen, mList, mDict, mGet, mIndex, mAppend, mExtend, mPop, mDPop, mInsert, mRemove, isList, isDict, bindv_cons, bindv_nil, put_at, ofString_inj, Option.map_some, List.length_cons, List.length_nil, h4]) (by simp [eName, eInt, eNone, eBool, bind2_some, bind2, eAttr, eIf, tCmp, eCmp, tNot, tAnd, tOr, tVal, cv_eq, cv_ne, cv_lt, cv_le, cv_gt, cv_is, isN_none, isN_int, isN_obj, eBin, iBin, eMeth, lCons, lNil, eCall, eSub, eBM, eList, eTup, eDict0, mLen, mList, mDict, mGet, mIndex, mAppend, mExtend, mPop, mDPop, mInsert, mRemove, isList, isDict, bindv_cons, bindv_nil, put_at, ofString_inj, Option.map_some, List.length_cons, List.length_nil]) M1
      rw [hpl] at g1
      exact ⟨ρ', μ', (for_step gk hi rfl ((seq_next (st_expr e1)).trans ((seq_next ((if_f e2).trans ((seq_next (st_name e4)).trans rfl))).trans rfl))).trans g1, g2, g3, by simpa [kidsPos] using g4⟩
end
end Mine
end
section
set_option maxRecDepth 10000
open PySem PySem.W PySem.Calls PyProof.Rows
namespace Mine
theorem pos_upd {S : Store} {n : Int} {r : WinR} (h : S.ws n = some r) (l t : Int) : Pos S.ws (S.upd n (r.setPos l t)).ws := by
  refine ⟨fun m hm => ?_, fun m q hq => ?_⟩
  · rw [upd_ne _ _ fun e => by rw [e, h] at hm; cases hm]; exact hm
  · by_cases e : m = n
    · subst e
      rw [h] at hq
      cases hq
      exact ⟨l, t, upd_self _ _ _⟩
    · exact ⟨q.left, q.top, by rw [upd_ne _ _ e]; exact hq⟩
theorem numsW_append (a b : List (WT × Int × Int)) : numsW (a ++ b) = numsW a ++ numsW b := by
  unfold numsW
  rw [List.map_append, numsL_append]
theorem sizeW_append (a b : List (WT × Int × Int)) : sizeW (a ++ b) = sizeW a + sizeW b := by
  unfold sizeW
  rw [List.map_append, sizeL_append]
theorem len_sizeW (W : List (WT × Int × Int)) : W.length ≤ sizeW W := by
  have := len_sizeL (W.map (·.1))
  rwa [List.length_map] at this
section
variable {μ μ0 μ1 μ' : Mem} {ro ro0 ro' : Nat → Option Role} {S S' : Store} {n : Int} {r : WinR} {ρ : Loc}
noncomputable abbrev walkBody : SM := (sSeq (sAssign (eBM (eName "waiting") isList lNil mPop) (aTup (asCons (aName "number") (asCons (aName "left") (asCons (aName "top") asNil)))))
  (sSeq (sAssign (eSub (eAttr (eName "tree") 164 "windows") (eName "number")) (aName "here"))
  (sSeq (sAssign (eTup (lCons (eName "left") (lCons (eName "top") lNil))) (aTup (asCons (aAttr (eName "here") 93 "left") (asCons (aAttr (eName "here") 93 "top") asNil))))
  (sSeq (sForIn (eAttr (eName "here") 93 "children") (aName "child") placeBody 200)
  sNil))))
theorem sp_loop {b : Nat} : ∀ (f : Nat) (W : List (WT × Int × Int)) (S : Store) (ρ : Loc) (μ : Mem), sizeW W < f → sizeW W ≤ 150 → (∀ x ∈ W, ∃ p, Sh S.ws p x.1) → (numsW W).Nodup → ρ "tree" = some (.obj S.t) → ρ "waiting" = some (.obj b) → Made μ0 ro S b (.list (W.map tup3)) μ →
    ∃ ρ' μ' ws', sWhile (tCmp .NotEq (eName "waiting") (eList lNil)) walkBody f ρ μ = some (.next, ρ', μ') ∧ RT μ' ro { S with ws := ws' } ∧ Step μ0 ro μ' ro ∧ Pos S.ws ws' ∧ (∀ n, n ∉ numsW W → ws' n = S.ws n) ∧ ∀ x ∈ W, At ws' x.2.1 x.2.2 x.1 := by
  intro f
  induction f with
  | zero => intro W S ρ μ h; omega
  | succ f ih =>
    intro W S ρ μ hf hl hS nd ht hw M
    refine byc fun hG => ?_
    have hm := t_more hw M.g M.l.2 (ok_tup3 W)
    rcases List.eq_nil_or_concat W with rfl | ⟨W', ⟨T, l, t⟩, rfl⟩
    · have M1 := M.new (.list [])
      exact hG ⟨ρ, _, S.ws, while_false hm, M1.R, M1.st, Pos.refl _, fun _ _ => rfl, fun x hx => nomatch hx⟩
    · rw [List.concat_eq_append] at *
      have hm' : tCmp .NotEq (eName "waiting") (eList lNil) ρ μ = some (true, μ.new (.list [])) := by rw [hm]; simp
      have M1 := M.new (.list [])
      have g1 : (μ.new (.list [])).get b = some (.list (W'.map tup3 ++ [tup3 (T, l, t)])) := by rw [M1.g]; simp
      have hlen := len_sizeW W'
      have hsz : sizeW (W' ++ [(T, l, t)]) = sizeW W' + T.size := by rw [sizeW_append]; simp [sizeW, WT.sizeL]
      have hpos := size_pos T
      have e1 := pop_at (name_of (μ := μ.new (.list [])) hw) g1 (by rw [List.length_map]; exact om106 hsz hl hlen)
      have M2 := M1.set (.list (W'.map tup3))
      generalize hM2 : (μ.new (.list [])).set b (.list (W'.map tup3)) = m2 at e1 M2
      generalize hρ1 : put (put (put ρ "number" (.int T.num)) "left" (.int l)) "top" (.int t) = ρ1
      have a1 : ρ1 "number" = some (.int T.num) := lk hρ1 (by kernel_rfl)
      have a2 : ρ1 "left" = some (.int l) := lk hρ1 (by kernel_rfl)
      have a3 : ρ1 "top" = some (.int t) := lk hρ1 (by kernel_rfl)
      have a4 : ρ1 "tree" = some (.obj S.t) := lk2 hρ1 (by kernel_rfl) ht
      have a5 : ρ1 "waiting" = some (.obj b) := lk2 hρ1 (by kernel_rfl) hw
      obtain ⟨p, hp⟩ := hS (T, l, t) (List.mem_append_right _ (.head _))
      obtain ⟨r, hr, hrs, _⟩ := sh_at hp
      have e2 := h_at (et := eName "tree") (en := eName "number") M2.R hr (name_of a4) (name_of a1)
      generalize hρ2 : put ρ1 "here" (.obj r.o) = ρ2
      have b1 : ρ2 "here" = some (.obj r.o) := lk hρ2 (by kernel_rfl)
      have b2 : ρ2 "left" = some (.int l) := lk2 hρ2 (by kernel_rfl) a2
      have b3 : ρ2 "top" = some (.int t) := lk2 hρ2 (by kernel_rfl) a3
      have b4 : ρ2 "tree" = some (.obj S.t) := lk2 hρ2 (by kernel_rfl) a4
      have b5 : ρ2 "waiting" = some (.obj b) := lk2 hρ2 (by kernel_rfl) a5
      have e3 : eTup (lCons (eName "left") (lCons (eName "top") lNil)) ρ2 m2 = some (.tup [.int l, .int t], m2) := by
        simp only [eTup, l_cons (name_of b2) (l_cons (name_of b3) l_nil), bind2_some]
        rfl
      obtain ⟨fs, hg, wf⟩ := M2.R.wn _ _ hr
      obtain ⟨R3, s3⟩ := M2.R.win hr (wf.put_left l) rfl rfl rfl rfl
      have wf3 := wf.put_left l
      obtain ⟨R4, s4⟩ := R3.win (upd_self _ _ _) (wf3.put_top t) rfl rfl rfl rfl
      rw [upd_upd] at R4
      have e4 : aTup (asCons (aAttr (eName "here") 93 "left") (asCons (aAttr (eName "here") 93 "top") asNil)) (.tup [.int l, .int t]) ρ2 m2 = some (ρ2, _) :=
        tup_at.trans ((cons_at (at_set (name_of b1) hg wf.len)).trans ((cons_at (at_set (name_of b1) (by rw [get_set, if_pos rfl]) wf3.len)).trans nil_at))
      have s34 := s3.trans s4
      obtain ⟨k1, k2, k3⟩ := s34.keep M2.l.2 M2.r M2.g
      generalize hM4 : (m2.set r.o (.inst 93 (fput "left" (.int l) fs))).set r.o (.inst 93 (fput "top" (.int t) (fput "left" (.int l) fs))) = m4 at *
      have M4 : Made μ0 ro (S.upd T.num (r.setPos l t)) b (.list (W'.map tup3)) m4 := ⟨R4, M2.st.trans s34, k1, ⟨M2.l.1, k3⟩, k2⟩
      have hP := pos_upd hr l t
      rw [numsW_append] at nd
      have ndW' : (numsW W').Nodup := (List.nodup_append.mp nd).1
      have hdis : ∀ x, x ∈ T.nums → x ∉ numsW W' := fun x hx hx' => by
        have := (List.nodup_append.mp nd).2.2 x hx' x (by simpa [numsW, WT.numsL] using hx)
        exact this rfl
      have ndT : T.nums.Nodup := by
        have := (List.nodup_append.mp nd).2.1
        simpa [numsW, WT.numsL] using this
      have hS' : ∀ x ∈ W', ∃ p, Sh (S.upd T.num (r.setPos l t)).ws p x.1 := fun x hx => by
        obtain ⟨p', hp'⟩ := hS x (List.mem_append_left _ hx)
        exact ⟨p', hp'.pos hP⟩
      have e5 := h_fld (x := "children") M4.R (upd_self _ _ _) (name_of (μ := m4) b1) (fun fs wf => wf.children)
      have fin : ∀ (row : Bool) (ks : List WT), r.kids = ks.map WT.num → (ks ≠ [] → r.sort = rowSort row) → ShL S.ws T.num ks → WT.sizeL ks < T.size → (∀ x ∈ WT.numsL ks, x ∈ T.nums) → (WT.numsL ks).Nodup →
          ∃ ρ' μ' ws', sWhile (tCmp .NotEq (eName "waiting") (eList lNil)) walkBody (f + 1) ρ μ = some (.next, ρ', μ') ∧ RT μ' ro { S with ws := ws' } ∧ Step μ0 ro μ' ro ∧ Pos S.ws ws' ∧ (∀ n, n ∉ numsW (W' ++ [(T, l, t)]) → ws' n = S.ws n) ∧ (∀ x ∈ W', At ws' x.2.1 x.2.2 x.1) ∧ (∀ x ∈ kidsPos row l t ks, At ws' x.2.1 x.2.2 x.1) ∧ (ks = [] → ws' T.num = some (r.setPos l t)) := by
        intro row ks hkids hrow hsh hlt hin hnd
        have hlk := len_sizeL ks
        have key : ∃ ρ' μ', sFor (aName "child") placeBody r.c 200 0 ρ2 m4 = some (.next, ρ', μ') ∧ ρ' "tree" = some (.obj S.t) ∧ ρ' "waiting" = some (.obj b) ∧ Made μ0 ro (S.upd T.num (r.setPos l t)) b (.list ((W' ++ kidsPos row l t ks).map tup3)) μ' := by
          cases ks with
          | nil =>
            have gk := M4.R.kd _ _ (upd_self _ _ _)
            rw [show ((r.setPos l t) : WinR).kids = r.kids from rfl, hkids] at gk
            exact ⟨ρ2, m4, for_end (f := 199) gk (by simp), b4, b5, by rw [kidsPos, List.append_nil]; exact M4⟩
          | cons k ks =>
            exact place_kids (row := row) (kids := k :: ks) (r := (r.setPos l t)) (upd_self _ _ _) (hrow (by simp)) hkids (k :: ks) [] l t W' 200 ρ2 m4 rfl (ShL.pos hP hsh) (by exact om107 hl hsz hlt hlk) (by exact om108 hl hlen hsz hlt hlk) b4 b5 b1 b2 b3 M4
        obtain ⟨ρ3, m5, h5, c1, c2, M5⟩ := key
        have hk1 : sizeW (kidsPos row l t ks) = WT.sizeL ks := by unfold sizeW; rw [kidsPos_fst]
        have hk2 : numsW (kidsPos row l t ks) = WT.numsL ks := by unfold numsW; rw [kidsPos_fst]
        obtain ⟨ρ', μ', ws', w1, w2, w3, w4, w5, w6⟩ := ih (W' ++ kidsPos row l t ks) (S.upd T.num (r.setPos l t)) ρ3 m5 (by rw [sizeW_append, hk1]; exact om109 hf hsz hlt) (by rw [sizeW_append, hk1]; exact om110 hlt hsz hl)
          (fun x hx => by
            rcases List.mem_append.mp hx with hx | hx
            · exact hS' x hx
            · have : x.1 ∈ ks := by
                have := List.mem_map_of_mem (f := (·.1)) hx
                rwa [kidsPos_fst] at this
              exact ⟨T.num, shL_mem (ShL.pos hP hsh) this⟩)
          (by
            rw [numsW_append, hk2, List.nodup_append]
            exact ⟨ndW', hnd, fun a ha b' hb e => hdis b' (hin _ hb) (e ▸ ha)⟩) c1 c2 M5
        refine ⟨ρ', μ', ws', ?_, w2, w3, hP.trans w4, fun n hn => ?_, fun x hx => w6 x (List.mem_append_left _ hx), fun x hx => w6 x (List.mem_append_right _ hx), fun hk => ?_⟩
        · refine (while_true hm' ((seq_next (st_asH e1 (tup_at.trans (name_at.trans (name_at.trans (name_at.trans nil_at)))) hρ1)).trans ((seq_next (st_nm e2 hρ2)).trans ((seq_next (st_assign e3 e4)).trans ((seq_next ((forin_at e5).trans h5)).trans rfl))))).trans ?_
          exact w1
        · rw [numsW_append] at hn
          have h1 : n ∉ numsW W' := fun q => hn (List.mem_append_left _ q)
          have h2 : n ∉ T.nums := fun q => hn (List.mem_append_right _ (by simpa [numsW, WT.numsL] using q))
          rw [w5 n (by rw [numsW_append, hk2]; intro q; rcases List.mem_append.mp q with q | q; exact h1 q; exact h2 (hin _ q))]
          exact upd_ne _ _ fun e => h2 (e ▸ num_mem T)
        · rw [w5 T.num (by rw [numsW_append, hk2, hk]; intro q; rcases List.mem_append.mp q with q | q; exact hdis _ (num_mem T) q; exact nomatch q)]
          exact upd_self _ _ _
      cases T with
      | leaf tn tw th tc =>
        have hp' := hp
        obtain ⟨r', hr', _, _, _, _, hk, _⟩ := hp'
        have hr2 : S.ws tn = some r := hr
        rw [hr2] at hr'
        cases hr'
        obtain ⟨ρ', μ', ws', w1, w2, w3, w4, w5, w6, w7, w8⟩ := fin true [] (by rw [hk]; rfl) (fun h => absurd rfl h) trivial (by simp [WT.sizeL, WT.size]) (fun x hx => nomatch hx) List.nodup_nil
        refine hG ⟨ρ', μ', ws', w1, w2, w3, w4, w5, fun x hx => ?_⟩
        rcases List.mem_append.mp hx with hx | hx
        · exact w6 x hx
        · rw [List.mem_singleton.mp hx]
          exact ⟨_, w8 rfl, rfl, rfl⟩
      | node tn tw th row ks =>
        have hp' := hp
        obtain ⟨⟨r', hr', hsr, _, _, _, hk⟩, _, _, hsh⟩ := hp'
        have hr2 : S.ws tn = some r := hr
        rw [hr2] at hr'
        cases hr'
        obtain ⟨ρ', μ', ws', w1, w2, w3, w4, w5, w6, w7, w8⟩ := fin row ks hk (fun _ => hsr) hsh (by rw [WT.size]; exact om111) (fun x hx => by rw [WT.nums]; exact .tail _ hx) (by rw [WT.nums] at ndT; exact (List.nodup_cons.mp ndT).2)
        refine hG ⟨ρ', μ', ws', w1, w2, w3, w4, w5, fun x hx => ?_⟩
        rcases List.mem_append.mp hx with hx | hx
        · exact w6 x hx
        · rw [List.mem_singleton.mp hx]
          exact atL_of w7
theorem h_set_places {T : WT} {p : Int} (R : RT μ ro S) (hT : Sh S.ws p T) (hs : T.size ≤ 150) (nd : T.nums.Nodup) (hroot : S.root = T.num) : ∃ μ' ws', m_set_places [.obj S.t] μ = some (.none, μ') ∧ RT μ' ro { S with ws := ws' } ∧ Step μ ro μ' ro ∧ Pos S.ws ws' ∧ At ws' 0 0 T := by
  have M0 := Made.start R (.list [tup3 (T, 0, 0)])
  obtain ⟨fs, a, tf⟩ := R.tr
  have e1 : eList (lCons (eTup (lCons (eAttr (eName "tree") 164 "root") (lCons (eInt 0) (lCons (eInt 0) lNil)))) lNil) (bindv [("tree" : Str)] [.obj S.t]) μ = some (.obj μ.n, μ.new (.list [tup3 (T, 0, 0)])) := by
    simp [eName, eInt, eNone, eBool, bind2_some, bind2, eAttr, eIf, tCmp, eCmp, tNot, tAnd, tOr, tVal, cv_eq, cv_ne, cv_lt, cv_le, cv_gt, cv_is, isN_none, isN_int, isN_obj, eBin, iBin, eMeth, lCons, lNil, eCall, eSub, eBM, eList, eTup, eDict0, mLen, mList, mDict, mGet, mIndex, mAppend, mExtend, mPop, mDPop, mInsert, mRemove, isList, isDict, bindv_cons, bindv_nil, put_at, ofString_inj, Option.map_some, List.length_cons, List.length_nil, a, tf.root, hroot, tup3]
  obtain ⟨ρ', μ', ws', h1, h2, h3, h4, h5, h6⟩ := sp_loop (ro := ro) (μ0 := μ) 200 [(T, 0, 0)] S (put (bindv [("tree" : Str)] [.obj S.t]) "waiting" (.obj μ.n)) _ (by simp [sizeW, WT.sizeL]; exact om90 hs) (by simp [sizeW, WT.sizeL]; exact om112 hs) (fun x hx => by rw [List.mem_singleton.mp hx]; exact ⟨p, hT⟩)
    (by simpa [numsW, WT.numsL] using nd) (by simp [eName, eInt, eNone, eBool, bind2_some, bind2, eAttr, eIf, tCmp, eCmp, tNot, tAnd, tOr, tVal, cv_eq, cv_ne, cv_lt, cv_le, cv_gt, cv_is, isN_none, isN_int, isN_obj, eBin, iBin, eMeth, lCons, lNil, eCall, eSub, eBM, eList, eTup, eDict0, mLen, mList, mDict, mGet, mIndex, mAppend, mExtend, mPop, mDPop, mInsert, mRemove, isList, isDict, bindv_cons, bindv_nil, put_at, ofString_inj, Option.map_some, List.length_cons, List.length_nil]) (by simp [eName, eInt, eNone, eBool, bind2_some, bind2, eAttr, eIf, tCmp, eCmp, tNot, tAnd, tOr, tVal, cv_eq, cv_ne, cv_lt, cv_le, cv_gt, cv_is, isN_none, isN_int, isN_obj, eBin, iBin, eMeth, lCons, lNil, eCall, eSub, eBM, eList, eTup, eDict0, mLen, mList, mDict, mGet, mIndex, mAppend, mExtend, mPop, mDPop, mInsert, mRemove, isList, isDict, bindv_cons, bindv_nil, put_at, ofString_inj, Option.map_some, List.length_cons, List.length_nil]) M0
  exact ⟨μ', ws', run_next rfl ((seq_next (st_name e1)).trans ((seq_next h1).trans rfl)), h2, h3, h4, h6 _ (.head _)⟩
end
end Mine
end
section
set_option maxRecDepth 10000
open PySem PySem.W PySem.Calls PyProof.Rows
namespace Mine
structure Core where
  sort : Int
  parent : Int
  width : Int
  height : Int
  kids : List Int
  sh : Int × Int × Int × Int
noncomputable def WinR.core (r : WinR) : Core := ⟨r.sort, r.parent, r.width, r.height, r.kids, (r.buf, r.st, r.pt, r.hs)⟩
noncomputable def Core.setParent (k : Core) (p : Int) : Core := { k with parent := p }
noncomputable def Core.setKids (k : Core) (ks : List Int) : Core := { k with kids := ks }
noncomputable def Core.setSh (k : Core) (s : Int × Int × Int × Int) : Core := { k with sh := s }
noncomputable def Core.sized (k : Core) (ax v : Int) : Core := if ax = 0 then { k with width := v } else { k with height := v }
noncomputable def Core.sz (k : Core) (ax : Int) : Int := if ax = 0 then k.width else k.height
noncomputable def cs (S : Store) (m : Int) : Option Core := (S.ws m).map WinR.core
theorem cs_upd (S : Store) (n : Int) (r : WinR) (m : Int) : cs (S.upd n r) m = if m = n then some r.core else cs S m := by
  unfold cs Store.upd
  dsimp only
  split <;> rfl
theorem cs_add (S : Store) (r : WinR) (m : Int) : cs (S.add r) m = if m = S.last + 1 then some r.core else cs S m := by
  unfold cs Store.add
  dsimp only
  split <;> rfl
theorem cs_drop (S : Store) (n m : Int) : cs (S.drop n) m = if m = n then none else cs S m := by
  unfold cs Store.drop
  dsimp only
  split <;> rfl
theorem cs_some {S : Store} {m : Int} {k : Core} (h : cs S m = some k) : ∃ r, S.ws m = some r ∧ r.core = k := Option.map_eq_some_iff.mp h
theorem cs_of {S : Store} {m : Int} {r : WinR} (h : S.ws m = some r) : cs S m = some r.core := by unfold cs; rw [h]; rfl
theorem core_sized (r : WinR) (ax v : Int) : (r.sized ax v).core = r.core.sized ax v := by
  unfold WinR.sized Core.sized
  split <;> rfl
theorem cs_pos {S : Store} {ws' : WS} (h : Pos S.ws ws') (m : Int) : cs { S with ws := ws' } m = cs S m := by
  unfold cs
  cases e : S.ws m with
  | none => dsimp only; rw [h.1 m e]
  | some r =>
    obtain ⟨l, t, e2⟩ := h.2 m r e
    dsimp only
    rw [e2]; rfl
noncomputable def newOf (whole : Int) : Option Int → Int
  | none => whole / 2
  | some s => if s > 0 then whole - s else 0 - s
noncomputable def vsz : Option Int → V
  | none => .none
  | some s => .int s
noncomputable def leastOf (ax : Int) : Int := if ax = 0 then 3 else 2
section
variable {μ μ0 μ1 μ' : Mem} {ro ro0 ro' : Nat → Option Role} {S S' : Store} {n : Int} {r : WinR} {ρ : Loc}
theorem bin_at {e1 e2 : EM} {op : Operator} {a b c : Int} (h1 : e1 ρ μ = some (.int a, μ)) (h2 : e2 ρ μ = some (.int b, μ)) (h : iBin op a b = some c) : eBin op e1 e2 ρ μ = some (.int c, μ) := by
  simp only [eBin, h1, h2, bind2_some, h, Option.map_some]
theorem t_lt {e1 e2 : EM} {a b : Int} (h1 : e1 ρ μ = some (.int a, μ)) (h2 : e2 ρ μ = some (.int b, μ1)) : tCmp .Lt e1 e2 ρ μ = some (decide (a < b), μ1) := by
  simp only [tCmp, h1, h2, bind2_some, cv_eq, cv_ne, cv_lt, cv_le, cv_gt, cv_is, isN_none, isN_int, isN_obj, Option.map_some]
theorem t_or {t1 t2 : TM} {a b : Bool} (h1 : t1 ρ μ = some (a, μ1)) (h2 : t2 ρ μ1 = some (b, μ1)) : tOr t1 t2 ρ μ = some (a || b, μ1) := by
  simp only [tOr, h1, bind2_some]
  cases a <;> simp [h2]
theorem h_split_parts (R : RT μ ro S) (hn : S.ws n = some r) (hs : r.sort = 0) (hk : r.kids = []) (ax : Int) (sz : Option Int) : ∃ μ' ρ', b_split_parts (bindv [("tree" : Str), ("number" : Str), ("size" : Str), ("axis" : Str)] [.obj S.t, .int n, vsz sz, .int ax]) μ =
      some (if r.core.sz ax - newOf (r.core.sz ax) sz < leastOf ax ∨ newOf (r.core.sz ax) sz < leastOf ax then .exc else .ret (.tup [.int (r.core.sz ax - newOf (r.core.sz ax) sz), .int (newOf (r.core.sz ax) sz)]), ρ', μ') ∧ RT μ' ro S ∧ Step μ ro μ' ro := by
  generalize hρ : bindv [("tree" : Str), ("number" : Str), ("size" : Str), ("axis" : Str)] [.obj S.t, .int n, vsz sz, .int ax] = ρ0
  have a1 : ρ0 "tree" = some (.obj S.t) := lk hρ (by kernel_rfl)
  have a2 : ρ0 "number" = some (.int n) := lk hρ (by kernel_rfl)
  have a3 : ρ0 "size" = some (vsz sz) := lk hρ (by kernel_rfl)
  have a4 : ρ0 "axis" = some (.int ax) := lk hρ (by kernel_rfl)
  have e1 := h_tmeth (x := "window") R (name_of a1) (fun fs tf => tf.m2) (l_cons (name_of a2) l_nil) (h_window R hn)
  have e2 := h_meth (x := "size") R hn e1 (fun fs wf => wf.m1) (l_cons (name_of a4) l_nil) (h_size R hn ax)
  have hw : (if ax = 0 then r.width else r.height) = r.core.sz ax := rfl
  rw [hw] at e2
  generalize r.core.sz ax = whole at e2 ⊢
  have b1 : put ρ0 "whole" (.int whole) "whole" = some (.int whole) := by kernel_rfl
  have b2 : put ρ0 "whole" (.int whole) "size" = some (vsz sz) := pl (by kernel_rfl) a3
  have e3 : sIf (tCmp .Is (eName "size") eNone) (sSeq (sAssign (eBin .FloorDiv (eName "whole") (eInt 2)) (aName "new")) sNil) (sSeq (sAssign (eIf (tCmp .Gt (eName "size") (eInt 0)) (eBin .Sub (eName "whole") (eName "size")) (eBin .Sub (eInt 0) (eName "size"))) (aName "new")) sNil) (put ρ0 "whole" (.int whole)) μ = some (.next, put (put ρ0 "whole" (.int whole)) "new" (.int (newOf whole sz)), μ) := by
    cases sz with
    | none =>
      rw [if_t (by simp only [tCmp, name_of b2, eNone, bind2_some, vsz, cv_eq, cv_ne, cv_lt, cv_le, cv_gt, cv_is, isN_none, isN_int, isN_obj, Option.map_some])]
      exact (seq_next (st_name (bin_at (name_of b1) rfl (by simp [iBin]; rfl)))).trans rfl
    | some s =>
      rw [if_f (by simp only [tCmp, name_of b2, eNone, bind2_some, vsz, cv_eq, cv_ne, cv_lt, cv_le, cv_gt, cv_is, isN_none, isN_int, isN_obj, Option.map_some])]
      by_cases h : s > 0
      · refine (seq_next (st_name (v := .int (newOf whole (some s))) (μ1 := μ) ?_)).trans rfl
        simp only [eIf, tCmp, name_of b2, name_of b1, eInt, bind2_some, vsz, cv_eq, cv_ne, cv_lt, cv_le, cv_gt, cv_is, isN_none, isN_int, isN_obj, Option.map_some, h, decide_true, reduceIte, eBin, iBin, newOf]
      · refine (seq_next (st_name (v := .int (newOf whole (some s))) (μ1 := μ) ?_)).trans rfl
        simp [eIf, tCmp, name_of b2, name_of b1, eInt, bind2_some, vsz, cv_eq, cv_ne, cv_lt, cv_le, cv_gt, cv_is, isN_none, isN_int, isN_obj, Option.map_some, h, eBin, iBin, newOf]
  generalize hρ2 : put (put ρ0 "whole" (.int whole)) "new" (.int (newOf whole sz)) = ρ2 at e3
  have c1 : ρ2 "whole" = some (.int whole) := lk hρ2 (by kernel_rfl)
  have c2 : ρ2 "new" = some (.int (newOf whole sz)) := lk hρ2 (by kernel_rfl)
  have c3 : ρ2 "tree" = some (.obj S.t) := lk2 hρ2 (by kernel_rfl) a1
  have c4 : ρ2 "number" = some (.int n) := lk2 hρ2 (by kernel_rfl) a2
  have c5 : ρ2 "axis" = some (.int ax) := lk2 hρ2 (by kernel_rfl) a4
  have e4 := bin_at (op := .Sub) (name_of (μ := μ) c1) (name_of c2) rfl
  generalize hρ3 : put ρ2 "old" (.int (whole - newOf whole sz)) = ρ3
  have d1 : ρ3 "old" = some (.int (whole - newOf whole sz)) := lk hρ3 (by kernel_rfl)
  have d2 : ρ3 "new" = some (.int (newOf whole sz)) := lk2 hρ3 (by kernel_rfl) c2
  have d3 : ρ3 "tree" = some (.obj S.t) := lk2 hρ3 (by kernel_rfl) c3
  have d4 : ρ3 "number" = some (.int n) := lk2 hρ3 (by kernel_rfl) c4
  have d5 : ρ3 "axis" = some (.int ax) := lk2 hρ3 (by kernel_rfl) c5
  obtain ⟨μ1, h1, R1, s1⟩ := h_least_size R hn hs hk ax
  have e5 := t_lt (name_of d1) (call_at (l_cons (name_of (μ := μ) d3) (l_cons (name_of d4) (l_cons (name_of d5) l_nil))) h1)
  have e6 := t_lt (μ := μ1) (name_of d2) (h_tmeth (x := "least_leaf") R1 (name_of d3) (fun fs tf => tf.m3) (l_cons (name_of d5) l_nil) (h_least_leaf R1 ax))
  have e7 := t_or e5 e6
  have hleast : (if ax = 0 then (3 : Int) else 2) = leastOf ax := rfl
  rw [hleast] at e7
  by_cases hr : whole - newOf whole sz < leastOf ax ∨ newOf whole sz < leastOf ax
  · rw [show (decide (whole - newOf whole sz < leastOf ax) || decide (newOf whole sz < leastOf ax)) = true by rcases hr with h | h <;> simp [h]] at e7
    refine ⟨μ1, ρ3, ?_, R1, s1⟩
    rw [if_pos hr]
    exact (seq_next (st_name e2)).trans ((seq_next e3).trans ((seq_next (st_nm e4 hρ3)).trans (seq_exc ((sif_true e7).trans (seq_exc rfl)))))
  · rw [show (decide (whole - newOf whole sz < leastOf ax) || decide (newOf whole sz < leastOf ax)) = false by rw [not_or] at hr; simp [hr.1, hr.2]] at e7
    refine ⟨μ1, ρ3, ?_, R1, s1⟩
    rw [if_neg hr]
    have e8 : eTup (lCons (eName "old") (lCons (eName "new") lNil)) ρ3 μ1 = some (.tup [.int (whole - newOf whole sz), .int (newOf whole sz)], μ1) := by
      simp only [eTup, l_cons (name_of d1) (l_cons (name_of d2) l_nil), bind2_some]
      rfl
    exact (seq_next (st_name e2)).trans ((seq_next e3).trans ((seq_next (st_nm e4 hρ3)).trans ((seq_next ((sif_false e7).trans rfl)).trans (seq_ret (st_ret e8)))))
theorem map_mid {A B : List Int} {x y : Int} (hA : x ∉ A) (hB : x ∉ B) : (A ++ x :: B).map (fun z => if z = x then y else z) = A ++ y :: B := by
  have h : ∀ {l : List Int}, x ∉ l → l.map (fun z => if z = x then y else z) = l := fun {l} hl => by
    conv => rhs; rw [← List.map_id l]
    exact List.map_congr_left fun z hz => if_neg fun e => hl (by rw [← e]; exact hz)
  rw [List.map_append, List.map_cons, h hA, h hB, if_pos rfl]
theorem and_at {t1 t2 : TM} {a b : Bool} (h1 : t1 ρ μ = some (a, μ)) (h2 : a = true → t2 ρ μ = some (b, μ)) : tAnd t1 t2 ρ μ = some (a && b, μ) := by
  simp only [tAnd, h1, bind2_some]
  cases a
  · simp
  · simp [h2 rfl]
noncomputable def alongOf (s : Int) : Int := if s = 2 then 0 else 1
noncomputable def sortOf (a : Int) : Int := if a = 0 then 2 else 1
theorem h_combinedA (R : RT μ ro S) (hn : S.ws n = some r) {p : Int} {rp : WinR} (hp : r.parent = p) (h0 : p ≠ 0) (hrp : S.ws p = some rp) (ax : Int) (ha : alongOf rp.sort = ax) : m_combined [.obj S.t, .int n, .int ax] μ = some (.int p, μ) := by
  generalize hρ : bindv [("tree" : Str), ("number" : Str), ("axis" : Str)] [.obj S.t, .int n, .int ax] = ρ0
  have a1 : ρ0 "tree" = some (.obj S.t) := lk hρ (by kernel_rfl)
  have a2 : ρ0 "number" = some (.int n) := lk hρ (by kernel_rfl)
  have a3 : ρ0 "axis" = some (.int ax) := lk hρ (by kernel_rfl)
  have e1 := h_at (et := eName "tree") (en := eName "number") R hn (name_of a1) (name_of a2)
  have b1 : put ρ0 "here" (.obj r.o) "here" = some (.obj r.o) := by kernel_rfl
  have b2 : put ρ0 "here" (.obj r.o) "tree" = some (.obj S.t) := pl (by kernel_rfl) a1
  have b3 : put ρ0 "here" (.obj r.o) "axis" = some (.int ax) := pl (by kernel_rfl) a3
  have e2 := h_fld (x := "parent") R hn (name_of b1) (fun fs wf => wf.parent)
  rw [hp] at e2
  have e3 := t_nei (j := 0) e2
  have e4 := h_at (et := eName "tree") R hrp (name_of b2) e2
  have e5 := call_at (l_cons (h_fld (x := "sort") R hrp e4 (fun fs wf => wf.sort)) l_nil) (h_along rp.sort)
  have e6 : tCmp .Eq (eCall (lCons (eAttr (eSub (eAttr (eName "tree") 164 "windows") (eAttr (eName "here") 93 "parent")) 93 "sort") lNil) m_along) (eName "axis") (put ρ0 "here" (.obj r.o)) μ = some (true, μ) := by
    simp only [tCmp, e5, name_of b3, bind2_some, cv_eq, cv_ne, cv_lt, cv_le, cv_gt, cv_is, isN_none, isN_int, isN_obj, Option.map_some]
    rw [show (if rp.sort = 2 then (0 : Int) else 1) = ax from ha]; simp
  have e7 := and_at e3 (fun _ => e6)
  rw [show ((p != 0) && true) = true by simp [h0]] at e7
  exact run_retH hρ rfl ((seq_next (st_name e1)).trans (seq_ret ((if_t e7).trans (seq_ret (st_ret e2)))))
theorem h_combinedB (R : RT μ ro S) (hn : S.ws n = some r) (h9 : S.last + 1 ≤ 900) (h1n : n ≤ S.last) (h1p : r.parent ≤ S.last) (ax : Int) (hpar : r.parent = 0 ∨ (r.parent ≠ 0 ∧ ∃ rp A B, S.ws r.parent = some rp ∧ alongOf rp.sort ≠ ax ∧ rp.kids = A ++ n :: B ∧ n ∉ A ∧ n ∉ B ∧ rp.kids.length ≤ 800 ∧ r.parent ≠ n)) :
    ∃ μ' ro' S', m_combined [.obj S.t, .int n, .int ax] μ = some (.int (S.last + 1), μ') ∧ RT μ' ro' S' ∧ Step μ ro μ' ro' ∧ S'.t = S.t ∧ S'.last = S.last + 1 ∧ S'.root = (if r.parent = 0 then S.last + 1 else S.root) ∧
      ∀ m, cs S' m = if m = S.last + 1 then some ⟨sortOf ax, r.parent, r.width, r.height, [n], (0, 1, 1, 0)⟩ else if m = n then some (r.core.setParent (S.last + 1)) else if m = r.parent ∧ r.parent ≠ 0 then (cs S m).map fun k => (k.setKids (k.kids.map fun x => if x = n then S.last + 1 else x)) else cs S m := by
  refine byc fun hG => ?_
  generalize hρ : bindv [("tree" : Str), ("number" : Str), ("axis" : Str)] [.obj S.t, .int n, .int ax] = ρ0
  have a1 : ρ0 "tree" = some (.obj S.t) := lk hρ (by kernel_rfl)
  have a2 : ρ0 "number" = some (.int n) := lk hρ (by kernel_rfl)
  have a3 : ρ0 "axis" = some (.int ax) := lk hρ (by kernel_rfl)
  have e1 := h_at (et := eName "tree") (en := eName "number") R hn (name_of a1) (name_of a2)
  generalize hρ1 : put ρ0 "here" (.obj r.o) = ρ1
  have b1 : ρ1 "here" = some (.obj r.o) := lk hρ1 (by kernel_rfl)
  have b2 : ρ1 "tree" = some (.obj S.t) := lk2 hρ1 (by kernel_rfl) a1
  have b3 : ρ1 "axis" = some (.int ax) := lk2 hρ1 (by kernel_rfl) a3
  have b4 : ρ1 "number" = some (.int n) := lk2 hρ1 (by kernel_rfl) a2
  have e2 := h_fld (x := "parent") R hn (name_of b1) (fun fs wf => wf.parent)
  have e3 := t_nei (j := 0) e2
  have e7 : tAnd (tCmp .NotEq (eAttr (eName "here") 93 "parent") (eInt 0)) (tCmp .Eq (eCall (lCons (eAttr (eSub (eAttr (eName "tree") 164 "windows") (eAttr (eName "here") 93 "parent")) 93 "sort") lNil) m_along) (eName "axis")) ρ1 μ = some (false, μ) := by
    rcases hpar with h0 | ⟨h0, rp, A, B, hrp, ha, _⟩
    · have := and_at (b := false) (t2 := tCmp .Eq (eCall (lCons (eAttr (eSub (eAttr (eName "tree") 164 "windows") (eAttr (eName "here") 93 "parent")) 93 "sort") lNil) m_along) (eName "axis")) e3 (fun h => by rw [h0] at h; cases h)
      rw [this]; simp
    · have e4 := h_at (et := eName "tree") R hrp (name_of b2) e2
      have e5 := call_at (l_cons (h_fld (x := "sort") R hrp e4 (fun fs wf => wf.sort)) l_nil) (h_along rp.sort)
      have e6 : tCmp .Eq (eCall (lCons (eAttr (eSub (eAttr (eName "tree") 164 "windows") (eAttr (eName "here") 93 "parent")) 93 "sort") lNil) m_along) (eName "axis") ρ1 μ = some (false, μ) := by
        simp only [tCmp, e5, name_of b3, bind2_some, cv_eq, cv_ne, cv_lt, cv_le, cv_gt, cv_is, isN_none, isN_int, isN_obj, Option.map_some]
        rw [show (if rp.sort = 2 then (0 : Int) else 1) = alongOf rp.sort from rfl, beq_eq_false_iff_ne.mpr ha]
      have := and_at e3 (fun _ => e6)
      rw [this]; simp
  obtain ⟨μ1, ro1, ra, f1, ⟨o, c, e, hra⟩, R1, s1⟩ := h_fresh R h9 (sortOf ax) r.parent
  have e8 := h_tmeth (x := "fresh") R (name_of b2) (fun fs tf => tf.m1) (l_cons (call_at (l_cons (name_of b3) l_nil) (h_sort_along ax)) (l_cons e2 l_nil)) f1
  have hna : n ≠ S.last + 1 := by exact om113 h1n
  have hpa : r.parent ≠ S.last + 1 := by exact om113 h1p
  have hadd : (S.add ra).ws (S.last + 1) = some ra := by simp [Store.add]
  have haddn : ∀ m, m ≠ S.last + 1 → (S.add ra).ws m = S.ws m := fun m h => by simp [Store.add, h]
  have ht1 : (S.add ra).t = S.t := rfl
  generalize hρ2 : put ρ1 "around" (.obj ra.o) = ρ2
  have c1 : ρ2 "here" = some (.obj r.o) := lk2 hρ2 (by kernel_rfl) b1
  have c2 : ρ2 "tree" = some (.obj S.t) := lk2 hρ2 (by kernel_rfl) b2
  have c3 : ρ2 "around" = some (.obj ra.o) := lk hρ2 (by kernel_rfl)
  have c4 : ρ2 "number" = some (.int n) := lk2 hρ2 (by kernel_rfl) b4
  have hn1 : (S.add ra).ws n = some r := by rw [haddn _ hna]; exact hn
  have e9 : eTup (lCons (eAttr (eName "here") 93 "width") (lCons (eAttr (eName "here") 93 "height") (lCons (eAttr (eName "here") 93 "left") (lCons (eAttr (eName "here") 93 "top") lNil)))) ρ2 μ1 = some (.tup [.int r.width, .int r.height, .int r.left, .int r.top], μ1) := by
    simp only [eTup, l_cons (h_fld (x := "width") R1 hn1 (name_of c1) (fun fs wf => wf.width)) (l_cons (h_fld (x := "height") R1 hn1 (name_of c1) (fun fs wf => wf.height)) (l_cons (h_fld (x := "left") R1 hn1 (name_of c1) (fun fs wf => wf.left)) (l_cons (h_fld (x := "top") R1 hn1 (name_of c1) (fun fs wf => wf.top)) l_nil))), bind2_some]
    rfl
  obtain ⟨fs, hg, wf⟩ := R1.wn _ _ hadd
  obtain ⟨Q1, q1⟩ := R1.win hadd (wf.put_width r.width) rfl rfl rfl rfl
  have w1 := wf.put_width r.width
  obtain ⟨Q2, q2⟩ := Q1.win (upd_self _ _ _) (w1.put_height r.height) rfl rfl rfl rfl
  have w2 := w1.put_height r.height
  obtain ⟨Q3, q3⟩ := Q2.win (upd_self _ _ _) (w2.put_left r.left) rfl rfl rfl rfl
  have w3 := w2.put_left r.left
  obtain ⟨Q4, q4⟩ := Q3.win (upd_self _ _ _) (w3.put_top r.top) rfl rfl rfl rfl
  rw [upd_upd, upd_upd, upd_upd] at Q4
  have e10 := tup_at.trans ((cons_at (as := asCons (aAttr (eName "around") 93 "height") (asCons (aAttr (eName "around") 93 "left") (asCons (aAttr (eName "around") 93 "top") asNil))) (vs := [.int r.height, .int r.left, .int r.top]) (at_set (v := .int r.width) (x := "width") (name_of c3) hg wf.len)).trans ((cons_at (at_set (name_of c3) (by rw [get_set, if_pos rfl]) w1.len)).trans ((cons_at (at_set (name_of c3) (by rw [get_set, if_pos rfl]) w2.len)).trans ((cons_at (at_set (name_of c3) (by rw [get_set, if_pos rfl]) w3.len)).trans nil_at))))
  have q := ((q1.trans q2).trans q3).trans q4
  generalize hM : ((((μ1.set ra.o (.inst 93 (fput "width" (.int r.width) fs))).set ra.o (.inst 93 (fput "height" (.int r.height) (fput "width" (.int r.width) fs)))).set ra.o (.inst 93 (fput "left" (.int r.left) (fput "height" (.int r.height) (fput "width" (.int r.width) fs))))).set ra.o (.inst 93 (fput "top" (.int r.top) (fput "left" (.int r.left) (fput "height" (.int r.height) (fput "width" (.int r.width) fs)))))) = m2 at *
  generalize hra2 : ({ ({ ({ ({ ra with width := r.width } : WinR) with height := r.height } : WinR) with left := r.left } : WinR) with top := r.top } : WinR) = ra2 at *
  have ho2 : ra2.o = ra.o := by rw [← hra2]
  have hc2 : ra2.core = ⟨sortOf ax, r.parent, r.width, r.height, [], (0, 1, 1, 0)⟩ := by rw [← hra2, hra]; rfl
  have hp2 : ra2.parent = r.parent := by rw [← hra2, hra]
  have hN : ((S.add ra).upd (S.last + 1) ra2).ws n = some r := by rw [upd_ne _ _ hna]; exact hn1
  have hA2 : ((S.add ra).upd (S.last + 1) ra2).ws (S.last + 1) = some ra2 := upd_self _ _ _
  have hcs2 : ∀ m, cs ((S.add ra).upd (S.last + 1) ra2) m = if m = S.last + 1 then some ra2.core else cs S m := fun m => by
    rw [cs_upd, cs_add]
    split <;> rfl
  have e11 := h_fld (x := "number") Q4 hA2 ((name_of c3).trans (by rw [ho2])) (fun fs wf => wf.number)
  -- the parent takes the new one in the old one's place
  have step : ∃ μ3 S3, m_replace_child [.obj S.t, .int n, .int (S.last + 1)] m2 = some (.none, μ3) ∧ RT μ3 ro1 S3 ∧ Step m2 ro1 μ3 ro1 ∧ S3.t = S.t ∧ S3.last = S.last + 1 ∧ S3.root = (if r.parent = 0 then S.last + 1 else S.root) ∧ S3.ws n = some r ∧ S3.ws (S.last + 1) = some ra2 ∧
      ∀ m, cs S3 m = if m = S.last + 1 then some ra2.core else if m = r.parent ∧ r.parent ≠ 0 then (cs S m).map fun k => (k.setKids (k.kids.map fun x => if x = n then S.last + 1 else x)) else cs S m := by
    rcases hpar with h0 | ⟨h0, rp, A, B, hrp, ha, hk, hA, hnB, hl, hpn⟩
    · obtain ⟨μ3, g1, g2, g3⟩ := h_replace0 Q4 hN h0 hA2
      have hsame : ((ra2.setParent 0) : WinR) = ra2 := by rw [← h0, ← hp2]; rfl
      rw [hsame, upd_upd] at g2
      refine ⟨μ3, _, g1, g2, g3, rfl, rfl, by rw [if_pos h0], hN, hA2, fun m => ?_⟩
      show cs ((S.add ra).upd (S.last + 1) ra2) m = _
      rw [hcs2 m]
      split
      · rfl
      · rw [if_neg (fun q => q.2 h0)]
    · have hrp2 : ((S.add ra).upd (S.last + 1) ra2).ws r.parent = some rp := by rw [upd_ne _ _ hpa, haddn _ hpa]; exact hrp
      obtain ⟨μ3, g1, g2, g3⟩ := h_replace1 Q4 hN rfl h0 hA2 hpa hrp2 hk hA (by exact om114 hl)
      have hsame : ((ra2.setParent r.parent) : WinR) = ra2 := by rw [← hp2]; rfl
      rw [hsame, upd_upd] at g2
      refine ⟨μ3, _, g1, g2, g3, rfl, rfl, by rw [if_neg h0]; rfl, by rw [upd_ne _ _ (Ne.symm hpn)]; exact hN, by rw [upd_ne _ _ (Ne.symm hpa)]; exact hA2, fun m => ?_⟩
      rw [cs_upd, hcs2]
      by_cases hm : m = r.parent
      · subst hm
        rw [if_pos rfl, if_neg hpa, if_pos ⟨rfl, h0⟩, cs_of hrp]
        have : rp.core.kids.map (fun x => if x = n then S.last + 1 else x) = A ++ (S.last + 1) :: B := by
          show rp.kids.map _ = _
          rw [hk]; exact map_mid hA hnB
        simp only [Option.map_some]
        rw [this]; rfl
      · rw [if_neg hm]
        by_cases ha : m = S.last + 1
        · rw [if_pos ha, if_pos ha]
        · rw [if_neg ha, if_neg ha, if_neg (fun q => hm q.1)]
  obtain ⟨μ3, S3, g1, R3, g3, k1, k2, k3, k4, k5, k6⟩ := step
  have e12 := call_at (l_cons (name_of (μ := m2) c2) (l_cons (name_of c4) (l_cons e11 l_nil))) (by rw [← ht1]; exact g1)
  have e13 := h_fld (x := "number") R3 k5 ((name_of (μ := μ3) c3).trans (by rw [ho2])) (fun fs wf => wf.number)
  obtain ⟨μ4, g4, R4, s4⟩ := set_fld (x := "parent") (r' := (r.setParent (S.last + 1))) R3 k4 e13 (name_of c1) (fun fs wf => wf.put_parent (S.last + 1)) rfl rfl rfl rfl
  have hA4 : (S3.upd n (r.setParent (S.last + 1))).ws (S.last + 1) = some ra2 := by rw [upd_ne _ _ (Ne.symm hna)]; exact k5
  have e14 : eList (lCons (eName "number") lNil) ρ2 μ4 = some (.obj μ4.n, μ4.new (.list ([n].map .int))) := by
    simp only [eList, l_cons (name_of c4) l_nil, bind2_some]
    rfl
  have M5 := Made.start R4 (.list ([n].map .int))
  obtain ⟨fs5, hg5, wf5⟩ := M5.R.wn _ _ hA4
  have st5 := (((s1.trans q).trans g3).trans s4).trans M5.st
  obtain ⟨ro', R6, s6⟩ := M5.R.adopt (μ0 := μ) (ro0 := ro) st5 hA4 M5.r (Nat.le_trans (((s1.trans q).trans g3).trans s4).le M5.l.1) M5.l.2 M5.g hg5
  have e15 := at_set (mo := eName "around") (x := "children") (v := .obj μ4.n) ((name_of (μ := μ4.new (.list ([n].map .int))) c3).trans (by rw [ho2])) hg5 wf5.len
  have e16 := h_fld (x := "number") R6 (upd_self _ _ _) ((name_of c3).trans (by show _ = some (V.obj ra2.o, _); rw [ho2])) (fun fs wf => wf.number)
  refine hG ⟨_, ro', _, ?_, R6, s6, ?_, ?_, ?_, fun m => ?_⟩
  · exact run_retH hρ rfl ((seq_next (st_nm e1 hρ1)).trans ((seq_next ((if_f e7).trans rfl)).trans ((seq_next (st_nm e8 hρ2)).trans ((seq_next (st_assign e9 e10)).trans ((seq_next (st_expr e12)).trans ((seq_next g4).trans ((seq_next (st_assign e14 e15)).trans (seq_ret (st_ret e16)))))))))
  · exact k1
  · exact k2
  · exact k3
  · rw [cs_upd, cs_upd]
    by_cases hm : m = S.last + 1
    · rw [if_pos hm, if_pos hm]
      show some ((ra2.core.setKids ([n])) : Core) = _
      rw [hc2]; rfl
    · rw [if_neg hm, if_neg hm, k6 m, if_neg hm]
      rfl
end
end Mine
end
section
set_option maxRecDepth 10000
open PySem PySem.W PySem.Calls PyProof.Rows
namespace Mine
noncomputable def isLf (n : Int) : WT → Bool
  | .leaf m _ _ _ => m == n
  | _ => false
mutual
noncomputable def ins (n : Int) (xs : List WT) : WT → WT
  | .leaf m w h c => .leaf m w h c
  | .node m w h row ks => .node m w h row (insL n xs ks)
noncomputable def insL (n : Int) (xs : List WT) : List WT → List WT
  | [] => []
  | k :: r => (if isLf n k = true then xs else [ins n xs k]) ++ insL n xs r
end
theorem ins_num (n : Int) (xs : List WT) (T : WT) : (ins n xs T).num = T.num := by cases T <;> rfl
theorem ins_sort (n : Int) (xs : List WT) (T : WT) : (ins n xs T).sort = T.sort := by cases T <;> rfl
theorem ins_wid (n : Int) (xs : List WT) (T : WT) : (ins n xs T).wid = T.wid := by cases T <;> rfl
theorem ins_hei (n : Int) (xs : List WT) (T : WT) : (ins n xs T).hei = T.hei := by cases T <;> rfl
theorem isLf_num {n : Int} {k : WT} (h : isLf n k = true) : k.num = n := by
  cases k with
  | leaf m w h' c =>
    have : m = n := by simpa [isLf] using h
    exact this
  | node => cases h
noncomputable abbrev CF := Int → Option Core
mutual
noncomputable def ShC (c : CF) (p : Int) : WT → Prop
  | .leaf n w h s => c n = some ⟨0, p, w, h, [], s⟩
  | .node n w h row ks => (∃ s, c n = some ⟨rowSort row, p, w, h, ks.map WT.num, s⟩) ∧ 2 ≤ ks.length ∧ (∀ k ∈ ks, k.sort ≠ rowSort row) ∧ ShCL c n ks
noncomputable def ShCL (c : CF) (p : Int) : List WT → Prop
  | [] => True
  | k :: r => ShC c p k ∧ ShCL c p r
end
mutual
theorem shC_iff {S : Store} : ∀ {p : Int} {T : WT}, Sh S.ws p T ↔ ShC (cs S) p T
  | p, .leaf n w h s => by
    constructor
    · rintro ⟨r, h1, h2, h3, h4, h5, h6, h7⟩
      show cs S n = _
      rw [cs_of h1]
      show some (⟨r.sort, r.parent, r.width, r.height, r.kids, (r.buf, r.st, r.pt, r.hs)⟩ : Core) = _
      rw [h2, h3, h4, h5, h6, h7]
    · intro h
      obtain ⟨r, h1, h2⟩ := cs_some h
      have e := h2
      simp only [WinR.core, Core.mk.injEq] at e
      obtain ⟨e1, e2, e3, e4, e5, e6⟩ := e
      exact ⟨r, h1, e1, e2, e3, e4, e5, e6⟩
  | p, .node n w h row ks => by
    constructor
    · rintro ⟨⟨r, h1, h2, h3, h4, h5, h6⟩, h7, h8, h9⟩
      refine ⟨⟨(r.buf, r.st, r.pt, r.hs), ?_⟩, h7, h8, shCL_iff.mp h9⟩
      rw [cs_of h1]
      show some (⟨r.sort, r.parent, r.width, r.height, r.kids, (r.buf, r.st, r.pt, r.hs)⟩ : Core) = _
      rw [h2, h3, h4, h5, h6]
    · rintro ⟨⟨s, h⟩, h7, h8, h9⟩
      obtain ⟨r, h1, h2⟩ := cs_some h
      have e := h2
      simp only [WinR.core, Core.mk.injEq] at e
      obtain ⟨e1, e2, e3, e4, e5, e6⟩ := e
      exact ⟨⟨r, h1, e1, e2, e3, e4, e5⟩, h7, h8, shCL_iff.mpr h9⟩
theorem shCL_iff {S : Store} : ∀ {p : Int} {ks : List WT}, ShL S.ws p ks ↔ ShCL (cs S) p ks
  | _, [] => Iff.rfl
  | _, _ :: _ => by
    show _ ∧ _ ↔ _ ∧ _
    rw [shC_iff, shCL_iff]
end
theorem shC_at {c : CF} {p : Int} {T : WT} (h : ShC c p T) : ∃ k, c T.num = some k ∧ k.sort = T.sort ∧ k.parent = p ∧ k.width = T.wid ∧ k.height = T.hei := by
  cases T with
  | leaf n w h' s => exact ⟨_, h, rfl, rfl, rfl, rfl⟩
  | node n w h' row ks => obtain ⟨⟨s, h1⟩, _⟩ := h; exact ⟨_, h1, rfl, rfl, rfl, rfl⟩
theorem shCL_mem {c : CF} {p : Int} {ks : List WT} (h : ShCL c p ks) {k : WT} (hk : k ∈ ks) : ShC c p k := by
  induction ks with
  | nil => cases hk
  | cons x r ih =>
    rcases List.mem_cons.mp hk with rfl | hk
    · exact h.1
    · exact ih h.2 hk
theorem shCL_append {c : CF} {p : Int} (a b : List WT) : ShCL c p (a ++ b) ↔ ShCL c p a ∧ ShCL c p b := by
  induction a with
  | nil => simp [ShCL]
  | cons k r ih => simp only [List.cons_append, ShCL, ih, and_assoc]
theorem rowSort_pos (row : Bool) : rowSort row ≠ 0 := by cases row <;> decide
theorem kid_is {c : CF} {m n pn : Int} {k : WT} {kn : Core} (h : ShC c m k) (hn : c n = some kn) (hs : kn.sort = 0) (hp : kn.parent = pn) (e : k.num = n) : isLf n k = true ∧ m = pn := by
  obtain ⟨k', h1, h2, h3, _⟩ := shC_at h
  rw [e, hn] at h1
  cases h1
  cases k with
  | leaf a w h' s => exact ⟨by have e' : a = n := e; simpa [isLf] using e', h3.symm.trans hp⟩
  | node a w h' row ks => exact absurd (h2.symm.trans hs) (rowSort_pos row)
theorem insL_nums {n : Int} {xs ks : List WT} (h : ∀ k ∈ ks, isLf n k = false → k.num ≠ n) : (insL n xs ks).map WT.num = (ks.map WT.num).flatMap fun x => if x = n then xs.map WT.num else [x] := by
  induction ks with
  | nil => simp [insL]
  | cons k r ih =>
    rw [insL, List.map_append, ih fun k hk => h k (.tail _ hk), List.map_cons, List.flatMap_cons]
    cases hl : isLf n k with
    | true => rw [if_pos rfl, isLf_num hl, if_pos rfl]
    | false =>
      have := h k (.head _) hl
      rw [if_neg (by simp), if_neg this, List.map_cons, List.map_nil, ins_num]
theorem insL_none {n : Int} {xs ks : List WT} (h : ∀ k ∈ ks, isLf n k = false) : insL n xs ks = ks.map (ins n xs) := by
  induction ks with
  | nil => simp [insL]
  | cons k r ih =>
    rw [insL, ih fun k hk => h k (.tail _ hk), h k (.head _)]
    rfl
theorem insL_len {n : Int} {xs ks : List WT} (hx : xs ≠ []) : ks.length ≤ (insL n xs ks).length := by
  induction ks with
  | nil => simp
  | cons k r ih =>
    have : 1 ≤ xs.length := by cases xs with | nil => exact absurd rfl hx | cons => simp
    rw [insL, List.length_append, List.length_cons]
    split
    · exact om77 this ih
    · simp; exact om115 ih
theorem insL_mem {n : Int} {xs ks : List WT} {y : WT} (h : y ∈ insL n xs ks) : (∃ k ∈ ks, isLf n k = true ∧ y ∈ xs) ∨ ∃ k ∈ ks, isLf n k = false ∧ y = ins n xs k := by
  induction ks with
  | nil => simp [insL] at h
  | cons k r ih =>
    rw [insL] at h
    rcases List.mem_append.mp h with h | h
    · cases hl : isLf n k with
      | true => rw [hl, if_pos rfl] at h; exact .inl ⟨k, .head _, hl, h⟩
      | false => rw [hl, if_neg (by simp)] at h; exact .inr ⟨k, .head _, hl, List.mem_singleton.mp h⟩
    · rcases ih h with ⟨k', h1, h2⟩ | ⟨k', h1, h2⟩
      · exact .inl ⟨k', .tail _ h1, h2⟩
      · exact .inr ⟨k', .tail _ h1, h2⟩
structure Chg (c c' : CF) (n pn : Int) (kn : Core) (xs : List WT) (U : List Int) : Prop where
  hn : c n = some kn
  hs : kn.sort = 0
  hp : kn.parent = pn
  h1 : ∀ m ∈ U, m ≠ n → m ≠ pn → c' m = c m
  h2 : pn ≠ 0 → c' pn = (c pn).map fun k => (k.setKids (k.kids.flatMap fun x => if x = n then xs.map WT.num else [x]))
  h3 : ShCL c' pn xs
  h4 : ∀ k, c pn = some k → ∀ x ∈ xs, x.sort ≠ k.sort
  h5 : xs ≠ []
  h0 : ∀ m ∈ U, m ≠ 0
mutual
theorem ins_sh {c c' : CF} {n pn : Int} {kn : Core} {xs : List WT} {U : List Int} (C : Chg c c' n pn kn xs U) : ∀ {p : Int} {T : WT}, (∀ m ∈ T.nums, m ∈ U) → ShC c p T → isLf n T = false → ShC c' p (ins n xs T)
  | p, .leaf m w h s, hU, h1, hl => by
    have hm : m ≠ n := by simpa [isLf] using hl
    have h1' : c m = some ⟨0, p, w, h, [], s⟩ := h1
    show c' m = _
    by_cases hmp : m = pn
    · have hpn : pn ≠ 0 := by rw [← hmp]; exact C.h0 m (hU m (by simp [WT.nums]))
      rw [hmp, C.h2 hpn, ← hmp, h1']
      rfl
    · rw [C.h1 m (hU m (by simp [WT.nums])) hm hmp]; exact h1
  | p, .node m w h row ks, hU, ⟨⟨s, h1⟩, h2, h3, h4⟩, hl => by
    have hmU := hU m (by simp [WT.nums])
    have hm : m ≠ n := fun e => by
      have := C.hn
      rw [← e, h1] at this
      have hs := C.hs
      rw [← Option.some.inj this] at hs
      exact rowSort_pos row hs
    have hk : ∀ k ∈ ks, isLf n k = false → k.num ≠ n := fun k hk hf e => by
      have := (kid_is (shCL_mem h4 hk) C.hn C.hs C.hp e).1
      rw [hf] at this; cases this
    have hL := insL_sh C (fun x hx => hU x (by rw [WT.nums]; exact .tail _ hx)) h4
    by_cases hmp : m = pn
    · have hpn : pn ≠ 0 := by rw [← hmp]; exact C.h0 m hmU
      refine ⟨⟨s, ?_⟩, Nat.le_trans h2 (insL_len C.h5), fun y hy => ?_, hL⟩
      · rw [hmp, C.h2 hpn, ← hmp, h1, insL_nums hk]
        rfl
      · rcases insL_mem hy with ⟨k, _, _, hy⟩ | ⟨k, hk2, _, rfl⟩
        · have := C.h4 _ (by rw [← hmp]; exact h1) y hy
          exact this
        · rw [ins_sort]; exact h3 k hk2
    · have hno : ∀ k ∈ ks, isLf n k = false := fun k hk2 => by
        cases hf : isLf n k with
        | false => rfl
        | true => exact absurd (kid_is (shCL_mem h4 hk2) C.hn C.hs C.hp (isLf_num hf)).2 hmp
      refine ⟨⟨s, ?_⟩, Nat.le_trans h2 (insL_len C.h5), fun y hy => ?_, hL⟩
      · rw [C.h1 m hmU hm hmp, h1, insL_none hno, List.map_map]
        have : (WT.num ∘ ins n xs) = WT.num := by funext k; exact ins_num n xs k
        rw [this]
      · rcases insL_mem hy with ⟨k, hk2, hf, _⟩ | ⟨k, hk2, _, rfl⟩
        · rw [hno k hk2] at hf; cases hf
        · rw [ins_sort]; exact h3 k hk2
theorem insL_sh {c c' : CF} {n pn : Int} {kn : Core} {xs : List WT} {U : List Int} (C : Chg c c' n pn kn xs U) : ∀ {p : Int} {ks : List WT}, (∀ m ∈ WT.numsL ks, m ∈ U) → ShCL c p ks → ShCL c' p (insL n xs ks)
  | _, [], _, _ => trivial
  | p, k :: r, hU, ⟨h1, h2⟩ => by
    rw [insL, shCL_append]
    refine ⟨?_, insL_sh C (fun m hm => hU m (by rw [WT.numsL]; exact List.mem_append_right _ hm)) h2⟩
    cases hl : isLf n k with
    | true =>
      rw [if_pos rfl, (kid_is h1 C.hn C.hs C.hp (isLf_num hl)).2]
      exact C.h3
    | false =>
      rw [if_neg (by simp)]
      exact ⟨ins_sh C (fun m hm => hU m (by rw [WT.numsL]; exact List.mem_append_left _ hm)) h1 hl, trivial⟩
end
end Mine
end
section
set_option maxRecDepth 10000
open PySem PySem.W PySem.Calls PyProof.Rows
namespace Mine
mutual
theorem size_nums : ∀ T : WT, T.size = T.nums.length
  | .leaf .. => rfl
  | .node _ _ _ _ ks => by rw [WT.size, WT.nums, List.length_cons, sizeL_nums ks]; exact om116
theorem sizeL_nums : ∀ ks : List WT, WT.sizeL ks = (WT.numsL ks).length
  | [] => rfl
  | k :: r => by rw [WT.sizeL, WT.numsL, List.length_append, size_nums k, sizeL_nums r]
end
mutual
theorem leaves_sub : ∀ T : WT, T.leaves.Sublist T.nums
  | .leaf .. => .refl _
  | .node _ _ _ _ ks => by rw [WT.leaves, WT.nums]; exact (leavesL_sub ks).cons _
theorem leavesL_sub : ∀ ks : List WT, (WT.leavesL ks).Sublist (WT.numsL ks)
  | [] => .refl _
  | k :: r => by rw [WT.leavesL, WT.numsL]; exact (leaves_sub k).append (leavesL_sub r)
end
mutual
theorem ins_nums {c : CF} {n : Int} {kn : Core} {xs : List WT} (hn : c n = some kn) (hs : kn.sort = 0) : ∀ {p : Int} {T : WT}, ShC c p T → isLf n T = false → (ins n xs T).nums = T.nums.flatMap fun m => if m = n then WT.numsL xs else [m]
  | p, .leaf m w h s, h1, hl => by
    have hm : m ≠ n := by simpa [isLf] using hl
    simp [ins, WT.nums, hm]
  | p, .node m w h row ks, ⟨⟨s, h1⟩, h2, h3, h4⟩, hl => by
    have hm : m ≠ n := fun e => by
      rw [e, hn] at h1
      rw [Option.some.inj h1] at hs
      exact rowSort_pos row hs
    simp only [ins, WT.nums, List.flatMap_cons, if_neg hm, List.singleton_append, insL_numsL hn hs h4]
theorem insL_numsL {c : CF} {n : Int} {kn : Core} {xs : List WT} (hn : c n = some kn) (hs : kn.sort = 0) : ∀ {p : Int} {ks : List WT}, ShCL c p ks → WT.numsL (insL n xs ks) = (WT.numsL ks).flatMap fun m => if m = n then WT.numsL xs else [m]
  | _, [], _ => by simp [insL, WT.numsL]
  | p, k :: r, ⟨h1, h2⟩ => by
    rw [insL, numsL_append, insL_numsL hn hs h2, WT.numsL, List.flatMap_append]
    cases hl : isLf n k with
    | true =>
      rw [if_pos rfl]
      cases k with
      | leaf m w h s =>
        have hm : m = n := by simpa [isLf] using hl
        simp [WT.nums, hm]
      | node => cases hl
    | false => rw [if_neg (by simp), WT.numsL, WT.numsL, List.append_nil, ins_nums hn hs h1 hl]
end
noncomputable abbrev Ent := Int × Int × Int × Int × Int × (Int × Int × Int × Int)
mutual
noncomputable def ents (l t : Int) : WT → List Ent
  | .leaf n w h c => [(n, l, t, w, h, c)]
  | .node _ _ _ row ks => entsL row l t ks
noncomputable def entsL (row : Bool) (l t : Int) : List WT → List Ent
  | [] => []
  | k :: r => ents l t k ++ entsL row (if row then l + k.wid else l) (if row then t else t + k.hei) r
end
mutual
theorem ents_fst : ∀ {l t : Int} {T : WT}, (ents l t T).map (·.1) = T.leaves
  | _, _, .leaf .. => rfl
  | l, t, .node _ _ _ row ks => by rw [ents, WT.leaves, entsL_fst]
theorem entsL_fst : ∀ {row : Bool} {l t : Int} {ks : List WT}, (entsL row l t ks).map (·.1) = WT.leavesL ks
  | _, _, _, [] => rfl
  | row, l, t, k :: r => by rw [entsL, WT.leavesL, List.map_append, ents_fst, entsL_fst]
end
noncomputable def exts (row : Bool) (ks : List WT) : Int := (ks.map fun k => if row then k.wid else k.hei).sum
theorem entsL_append (row : Bool) : ∀ (l t : Int) (a b : List WT), entsL row l t (a ++ b) = entsL row l t a ++ entsL row (if row then l + exts row a else l) (if row then t else t + exts row a) b
  | l, t, [], b => by simp [entsL, exts]
  | l, t, k :: a, b => by
    rw [List.cons_append, entsL, entsL, entsL_append row _ _ a b, List.append_assoc]
    congr 3
    · cases row <;> simp [exts]; exact om117
    · cases row <;> simp [exts]; exact om117
mutual
theorem ents_ins {c : CF} {n pn : Int} {kn kp : Core} {xs : List WT} {prow : Bool} (hn : c n = some kn) (hs : kn.sort = 0) (hp : kn.parent = pn) (hkp : c pn = some kp) (hrow : kp.sort = rowSort prow) (hsum : exts prow xs = if prow then kn.width else kn.height) :
    ∀ {p l t : Int} {T : WT}, ShC c p T → isLf n T = false → ents l t (ins n xs T) = (ents l t T).flatMap fun e => if e.1 = n then entsL prow e.2.1 e.2.2.1 xs else [e]
  | p, l, t, .leaf m w h s, h1, hl => by
    have hm : m ≠ n := by simpa [isLf] using hl
    simp [ins, ents, hm]
  | p, l, t, .node m w h row ks, ⟨⟨s, h1⟩, h2, h3, h4⟩, hl => by
    rw [ins, ents, ents]
    exact entsL_ins hn hs hp hkp hrow hsum h1 rfl h4
theorem entsL_ins {c : CF} {n pn : Int} {kn kp : Core} {xs : List WT} {prow : Bool} (hn : c n = some kn) (hs : kn.sort = 0) (hp : kn.parent = pn) (hkp : c pn = some kp) (hrow : kp.sort = rowSort prow) (hsum : exts prow xs = if prow then kn.width else kn.height) :
    ∀ {m l t : Int} {k : Core} {row : Bool} {ks : List WT}, c m = some k → k.sort = rowSort row → ShCL c m ks → entsL row l t (insL n xs ks) = (entsL row l t ks).flatMap fun e => if e.1 = n then entsL prow e.2.1 e.2.2.1 xs else [e]
  | m, l, t, k, row, [], _, _, _ => by simp [insL, entsL]
  | m, l, t, k, row, x :: r, hm, hk, ⟨h1, h2⟩ => by
    rw [insL, entsL_append, entsL, List.flatMap_append]
    cases hl : isLf n x with
    | true =>
      rw [if_pos rfl]
      have hmp := (kid_is h1 hn hs hp (isLf_num hl)).2
      have hrr : row = prow := by
        rw [hmp, hkp] at hm
        cases hm
        have := hrow.symm.trans hk
        cases row <;> cases prow <;> first | rfl | (exact absurd this (by decide))
      subst hrr
      cases x with
      | leaf a w h s =>
        have ha : a = n := by simpa [isLf] using hl
        subst ha
        have hc : c a = some ⟨0, m, w, h, [], s⟩ := h1
        rw [hn] at hc
        have hw : kn.width = w := by rw [Option.some.inj hc]
        have hh : kn.height = h := by rw [Option.some.inj hc]
        have e1 : (if row = true then l + exts row xs else l) = if row = true then l + (WT.leaf a w h s).wid else l := by
          cases row
          · rfl
          · rw [hsum, if_pos rfl, if_pos rfl, if_pos rfl, hw]; rfl
        have e2 : (if row = true then t else t + exts row xs) = if row = true then t else t + (WT.leaf a w h s).hei := by
          cases row
          · rw [hsum, if_neg (by simp), if_neg (by simp), if_neg (by simp), hh]; rfl
          · rfl
        rw [e1, e2, entsL_ins hn hs hp hkp hrow hsum hm hk h2]
        simp [ents]
      | node => cases hl
    | false =>
      rw [if_neg (by simp), entsL, entsL, List.append_nil, ents_ins hn hs hp hkp hrow hsum h1 hl]
      have e1 : (if row = true then l + exts row [ins n xs x] else l) = if row = true then l + x.wid else l := by
        simp [exts, ins_wid]
        cases row <;> simp
      have e2 : (if row = true then t else t + exts row [ins n xs x]) = if row = true then t else t + x.hei := by
        simp [exts, ins_hei]
        cases row <;> simp
      rw [e1, e2, entsL_ins hn hs hp hkp hrow hsum hm hk h2]
end
theorem flat_mid {α : Type} {key : α → Int} {n : Int} {A B : List α} {e : α} {g : α → List α} (he : key e = n) (hA : ∀ a ∈ A, key a ≠ n) (hB : ∀ a ∈ B, key a ≠ n) : (A ++ e :: B).flatMap (fun x => if key x = n then g x else [x]) = A ++ g e ++ B := by
  have h : ∀ {l : List α}, (∀ a ∈ l, key a ≠ n) → l.flatMap (fun x => if key x = n then g x else [x]) = l := fun {l} hl => by
    induction l with
    | nil => rfl
    | cons a r ih => rw [List.flatMap_cons, if_neg (hl a (.head _)), ih fun b hb => hl b (.tail _ hb)]; rfl
  rw [List.flatMap_append, List.flatMap_cons, h hA, h hB, if_pos he, List.append_assoc]
theorem mid_of {α : Type} {key : α → Int} {n : Int} : ∀ {l : List α}, (l.map key).Nodup → n ∈ l.map key → ∃ A e B, l = A ++ e :: B ∧ key e = n ∧ (∀ a ∈ A, key a ≠ n) ∧ ∀ a ∈ B, key a ≠ n
  | [], _, h => by simp at h
  | x :: r, nd, h => by
    rw [List.map_cons, List.nodup_cons] at nd
    rw [List.map_cons] at h
    by_cases hx : key x = n
    · exact ⟨[], x, r, rfl, hx, (fun a h => nomatch h), fun a ha e => nd.1 (by rw [hx, ← e]; exact List.mem_map_of_mem ha)⟩
    · rcases List.mem_cons.mp h with e | h
      · exact absurd e.symm hx
      · obtain ⟨A, e, B, rfl, h1, h2, h3⟩ := mid_of nd.2 h
        refine ⟨x :: A, e, B, rfl, h1, fun a ha => ?_, h3⟩
        rcases List.mem_cons.mp ha with rfl | ha
        · exact hx
        · exact h2 a ha
mutual
theorem shC_leaf {c : CF} {n : Int} : ∀ {p : Int} {T : WT}, ShC c p T → n ∈ T.leaves → ∃ k, c n = some k ∧ k.sort = 0 ∧ k.kids = []
  | p, .leaf m w h s, h1, hm => by
    rw [WT.leaves, List.mem_singleton] at hm
    rw [hm]
    exact ⟨_, h1, rfl, rfl⟩
  | p, .node m w h row ks, ⟨_, _, _, h4⟩, hm => shCL_leaf h4 hm
theorem shCL_leaf {c : CF} {n : Int} : ∀ {p : Int} {ks : List WT}, ShCL c p ks → n ∈ WT.leavesL ks → ∃ k, c n = some k ∧ k.sort = 0 ∧ k.kids = []
  | _, [], _, hm => nomatch hm
  | _, _ :: _, ⟨h1, h2⟩, hm => by
    rcases List.mem_append.mp hm with hm | hm
    · exact shC_leaf h1 hm
    · exact shCL_leaf h2 hm
end
mutual
theorem shC_par {c : CF} {n : Int} {kn : Core} (hn : c n = some kn) (hs : kn.sort = 0) : ∀ {p : Int} {T : WT}, ShC c p T → n ∈ T.leaves → isLf n T = false → ∃ row ks w h s pp, c kn.parent = some ⟨rowSort row, pp, w, h, ks.map WT.num, s⟩ ∧ ShCL c kn.parent ks ∧ (∀ k ∈ ks, k.sort ≠ rowSort row) ∧ 2 ≤ ks.length ∧ (∃ k ∈ ks, isLf n k = true) ∧ kn.parent ∈ T.nums ∧ (∀ m ∈ WT.numsL ks, m ∈ T.nums) ∧ (kn.parent :: WT.numsL ks).Sublist T.nums
  | p, .leaf m w h s, h1, hm, hl => by
    rw [WT.leaves, List.mem_singleton] at hm
    rw [hm] at hl
    simp [isLf] at hl
  | p, .node m w h row ks, ⟨⟨s, h1⟩, h2, h3, h4⟩, hm, hl => by
    rcases shCL_par hn hs h4 hm with h | ⟨row', ks', w', h', s', pp, e1, e2, e3, e4, e5, e6, e7, e8⟩
    · obtain ⟨k, hk, hf⟩ := h
      have hmp := (kid_is (shCL_mem h4 hk) hn hs rfl (isLf_num hf)).2
      subst hmp
      exact ⟨row, ks, w, h, s, p, h1, h4, h3, h2, ⟨k, hk, hf⟩, by simp [WT.nums], fun m hm => by rw [WT.nums]; exact .tail _ hm, by rw [WT.nums]; exact .refl _⟩
    · exact ⟨row', ks', w', h', s', pp, e1, e2, e3, e4, e5, by rw [WT.nums]; exact .tail _ e6, fun m hm => by rw [WT.nums]; exact .tail _ (e7 m hm), by rw [WT.nums]; exact e8.cons _⟩
theorem shCL_par {c : CF} {n : Int} {kn : Core} (hn : c n = some kn) (hs : kn.sort = 0) : ∀ {p : Int} {ks : List WT}, ShCL c p ks → n ∈ WT.leavesL ks → (∃ k ∈ ks, isLf n k = true) ∨ ∃ row ks' w h s pp, c kn.parent = some ⟨rowSort row, pp, w, h, ks'.map WT.num, s⟩ ∧ ShCL c kn.parent ks' ∧ (∀ k ∈ ks', k.sort ≠ rowSort row) ∧ 2 ≤ ks'.length ∧ (∃ k ∈ ks', isLf n k = true) ∧ kn.parent ∈ WT.numsL ks ∧ (∀ m ∈ WT.numsL ks', m ∈ WT.numsL ks) ∧ (kn.parent :: WT.numsL ks').Sublist (WT.numsL ks)
  | _, [], _, hm => nomatch hm
  | _, k :: r, ⟨h1, h2⟩, hm => by
    rcases List.mem_append.mp hm with hm | hm
    · cases hf : isLf n k with
      | true => exact .inl ⟨k, .head _, hf⟩
      | false =>
        obtain ⟨row', ks', w', h', s', pp, e1, e2, e3, e4, e5, e6, e7, e8⟩ := shC_par hn hs h1 hm hf
        exact .inr ⟨row', ks', w', h', s', pp, e1, e2, e3, e4, e5, by rw [WT.numsL]; exact List.mem_append_left _ e6, fun m hm => by rw [WT.numsL]; exact List.mem_append_left _ (e7 m hm), by rw [WT.numsL]; exact e8.trans (List.sublist_append_left _ _)⟩
    · rcases shCL_par hn hs h2 hm with ⟨k', h3, h4⟩ | ⟨row', ks', w', h', s', pp, e1, e2, e3, e4, e5, e6, e7, e8⟩
      · exact .inl ⟨k', .tail _ h3, h4⟩
      · exact .inr ⟨row', ks', w', h', s', pp, e1, e2, e3, e4, e5, by rw [WT.numsL]; exact List.mem_append_right _ e6, fun m hm => by rw [WT.numsL]; exact List.mem_append_right _ (e7 m hm), by rw [WT.numsL]; exact e8.trans (List.sublist_append_right _ _)⟩
end
end Mine
end
section
set_option maxRecDepth 10000
open PySem PySem.W PySem.Calls PyProof.Rows
namespace Mine
section
variable {μ μ0 μ1 μ' : Mem} {ro ro0 ro' : Nat → Option Role} {S S' : Store} {n : Int} {r : WinR} {ρ : Loc}
theorem RT.adoptE (R : RT μ ro S) (st : Step μ0 ro0 μ ro) (hn : S.ws n = some r) {k : Nat} (hk : ro k = none) (hl : μ0.n ≤ k) (hlt : k < μ.n) (hg : μ.get k = some (.list [])) {fs : List (Str × V)} (hf : μ.get r.o = some (.inst 93 fs)) :
    ∃ ro', RT (μ.set r.o (.inst 93 (fput "earlier" (.obj k) fs))) ro' (S.upd n (r.setE k)) ∧ Step μ0 ro0 (μ.set r.o (.inst 93 (fput "earlier" (.obj k) fs))) ro' := by
  rw [show r.setE k = { r with e := k } from rfl]
  have hro := (R.rw n r hn).1
  have wf : WF n { r with e := k } (fput "earlier" (.obj k) fs) := by
    obtain ⟨fs0, a, b⟩ := R.wn n r hn
    rw [hf] at a
    cases a
    exact b.put_earlier k
  have hne : ∀ {j x}, ro j = some x → x ≠ .win n → (μ.set r.o (.inst 93 (fput "earlier" (.obj k) fs))).get j = μ.get j := fun {j x} e hx => by
    rw [get_set, if_neg fun q => hx (by rw [q, hro] at e; cases e; rfl)]
  have hro' : ∀ {j x}, ro j = some x → (fun j => if j = k then some Role.earl else ro j) j = some x := fun {j x} e => by
    show (if j = k then _ else ro j) = _
    rw [if_neg fun q => by rw [q, hk] at e; cases e]; exact e
  have cs : ∀ {m q}, (S.upd n { r with e := k }).ws m = some q → (m = n ∧ q = { r with e := k }) ∨ (m ≠ n ∧ S.ws m = some q) := fun {m q} e => by
    by_cases hm : m = n
    · rw [hm, upd_self] at e; cases e; exact .inl ⟨hm, rfl⟩
    · rw [upd_ne _ _ hm] at e; exact .inr ⟨hm, e⟩
  refine ⟨fun j => if j = k then some Role.earl else ro j, ⟨?_, ?_, fun m q e => ?_, fun m q e => ?_, fun m q e => ?_, hro' R.rt, hro' R.rd, fun m q e => ?_, fun j x e => ?_, fun m hm => ?_, R.l0, R.l9, fun j m e => ?_⟩, ⟨st.le, fun j h1 h => ?_, fun j h => ?_⟩⟩
  · show ∃ fs, (μ.set _ _).get S.t = _ ∧ _
    rw [hne R.rt (by simp)]
    obtain ⟨fs, a, b⟩ := R.tr
    exact ⟨fs, a, ⟨b.len, b.windows, b.last, b.root, b.lw, b.lh, b.selected, b.m1, b.m2, b.m3⟩⟩
  · show ∃ es, (μ.set _ _).get S.wd = _ ∧ _
    rw [hne R.rd (by simp)]
    obtain ⟨es, a, b, c⟩ := R.dc
    refine ⟨es, a, b, fun m => ?_⟩
    rw [c m]
    by_cases hm : m = n
    · rw [hm, upd_self, hn]; simp
    · rw [upd_ne _ _ hm]
  · rcases cs e with ⟨rfl, rfl⟩ | ⟨hm, e⟩
    · exact ⟨_, by rw [get_set, if_pos rfl], wf⟩
    · rw [hne (R.rw m q e).1 (by simp [hm])]; exact R.wn m q e
  · rcases cs e with ⟨rfl, rfl⟩ | ⟨hm, e⟩
    · rw [hne (R.rw _ r hn).2.1 (by simp)]; exact R.kd _ r hn
    · rw [hne (R.rw m q e).2.1 (by simp)]; exact R.kd m q e
  · rcases cs e with ⟨rfl, rfl⟩ | ⟨hm, e⟩
    · have hko : k ≠ r.o := fun q => by rw [q, hro] at hk; cases hk
      rw [get_set, if_neg hko]; exact hg
    · rw [hne (R.rw m q e).2.2 (by simp)]; exact R.er m q e
  · rcases cs e with ⟨rfl, rfl⟩ | ⟨hm, e⟩
    · exact ⟨hro' (R.rw _ r hn).1, hro' (R.rw _ r hn).2.1, if_pos rfl⟩
    · have h := R.rw m q e
      exact ⟨hro' h.1, hro' h.2.1, hro' h.2.2⟩
  · have e' : (if j = k then some Role.earl else ro j) = some x := e
    split at e'
    · rename_i q; rw [q]; exact hlt
    · exact R.lt j x e'
  · have hm' : m ≠ n := fun q => by have := R.fr m hm; rw [q, hn] at this; cases this
    rw [upd_ne _ _ hm']; exact R.fr m hm
  · have e' : (if j = k then some (Role.earl) else ro j) = some (.win m) := e
    split at e'
    · cases e'
    · exact ⟨(R.uq j m e').1, fun q hq => by rcases cs hq with ⟨rfl, rfl⟩ | ⟨_, hq⟩ <;> first | exact (R.uq j _ e').2 _ hq | exact (R.uq j _ e').2 r hn⟩
  · have h2 := (st.ro j h1).trans h
    rw [get_set, if_neg fun q => by rw [q, hro] at h2; cases h2]
    exact st.fr j h1 h
  · show (if j = k then _ else ro j) = _
    rw [if_neg (by exact om45 h hl)]; exact st.ro j h
theorem insert_at {eo e1 e2 : EM} {k : Nat} {ks : List Int} {i x : Int} (ho : eo ρ μ = some (.obj k, μ)) (hg : μ.get k = some (.list (ks.map .int))) (hl : ks.length ≤ 1000) (h1 : e1 ρ μ = some (.int i, μ)) (h2 : e2 ρ μ = some (.int x, μ)) (hi : 0 ≤ i ∧ i ≤ ks.length) :
    eBM eo isList (lCons e1 (lCons e2 lNil)) mInsert ρ μ = some (.none, μ.set k (.list ((ks.take i.toNat ++ x :: ks.drop i.toNat).map .int))) := by
  have hc : (ks.map V.int).length ≤ 1000 ∧ 0 ≤ i ∧ i ≤ (ks.map V.int).length := by rw [List.length_map]; exact om118 hi.1 hi.2 hl
  simp only [eBM, ho, bind2_some, isList_of hg, reduceIte, lNil, lCons, h1, h2, mInsert, hg, if_pos hc]
  simp [List.map_take, List.map_drop]
theorem sub_list {eo ei : EM} {k : Nat} {l : List V} {i : Int} {v : V} (ho : eo ρ μ = some (.obj k, μ1)) (hi : ei ρ μ1 = some (.int i, μ1)) (hg : μ1.get k = some (.list l)) (h : 0 ≤ i ∧ i < 1000) (hv : l[i.toNat]? = some v) : eSub eo ei ρ μ = some (v, μ1) := by
  simp only [eSub, ho, bind2_some, hi, hg, if_pos h, hv, Option.map_some]
noncomputable def pairOf (ahead : Bool) (n f : Int) : List Int := if ahead then [f, n] else [n, f]
theorem split_mid {q new old : Int} {rq : WinR} {X Y : List Int} (R : RT μ ro S) (hn : S.ws n = some r) (hs : r.sort = 0) (hk : r.kids = []) (hq : S.ws q = some rq) (hqs : rq.sort ≠ 0) (hp : r.parent = q) (hqn : q ≠ n) (hkids : rq.kids = X ++ n :: Y) (hX : n ∉ X) (hlen : rq.kids.length ≤ 140)
    (hoth : ∀ k ∈ X ++ Y, k ≠ n ∧ ∃ w, S.ws k = some w ∧ w.sort ≠ rq.sort ∧ w.parent = q) (h9 : S.last + 1 ≤ 900) (hnl : n ≤ S.last) (hql : q ≤ S.last) (hXY : ∀ k ∈ X ++ Y, k ≠ q) (ax : Int) (hax : ax = 0 ∨ ax = 1) (ahead : Bool)
    (a1 : ρ "tree" = some (.obj S.t)) (a2 : ρ "number" = some (.int n)) (a3 : ρ "axis" = some (.int ax)) (a4 : ρ "is_ahead" = some (.bool ahead)) (a5 : ρ "old" = some (.int old)) (a6 : ρ "new" = some (.int new)) (a7 : ρ "parent" = some (.int q)) :
    ∃ ρ' μ' ro' S' rf, (sSeq (sAssign (eSub (eAttr (eName "tree") 164 "windows") (eSub (eCall (lCons (eName "tree") (lCons (eName "number") lNil)) m_leaves_under) (eInt 0))) (aName "model"))
  (sSeq (sAssign (eMeth (eName "tree") 164 "fresh" (lCons (eInt 0) (lCons (eName "parent") lNil)) m_wt_fresh) (aName "found"))
  (sSeq (sAssign (eTup (lCons (eAttr (eName "model") 93 "width") (lCons (eAttr (eName "model") 93 "height") lNil))) (aTup (asCons (aAttr (eName "found") 93 "width") (asCons (aAttr (eName "found") 93 "height") asNil))))
  (sSeq (sExpr (eMeth (eName "found") 93 "set_size" (lCons (eName "axis") (lCons (eName "new") lNil)) m_wi_set_size))
  (sSeq (sExpr (eMeth (eName "found") 93 "set_size" (lCons (eBin .Sub (eInt 1) (eName "axis")) (lCons (eMeth (eSub (eAttr (eName "tree") 164 "windows") (eName "number")) 93 "size" (lCons (eBin .Sub (eInt 1) (eName "axis")) lNil) m_wi_size) lNil)) m_wi_set_size))
  (sSeq (sExpr (eMeth (eName "found") 93 "show" (lCons (eMeth (eName "model") 93 "shown" lNil m_wi_shown) lNil) m_wi_show))
  (sSeq (sAssign (eCall (lCons (eAttr (eName "model") 93 "earlier") lNil) mList) (aAttr (eName "found") 93 "earlier"))
  (sSeq (sAssign (eAttr (eSub (eAttr (eName "tree") 164 "windows") (eName "parent")) 93 "children") (aName "children"))
  (sSeq (sAssign (eBM (eName "children") isList (lCons (eName "number") lNil) mIndex) (aName "at"))
  (sSeq (sExpr (eBM (eName "children") isList (lCons (eIf (tVal (eName "is_ahead")) (eName "at") (eBin .Add (eName "at") (eInt 1))) (lCons (eAttr (eName "found") 93 "number") lNil)) mInsert))
  (sSeq (sExpr (eCall (lCons (eName "tree") (lCons (eName "number") (lCons (eName "axis") (lCons (eName "old") lNil)))) m_set_tree_size))
  (sSeq (sExpr (eCall (lCons (eName "tree") (lCons (eName "parent") lNil)) m_joined))
  (sSeq (sExpr (eCall (lCons (eName "tree") lNil) m_set_places))
  (sSeq (sRet (eAttr (eName "found") 93 "number"))
  sNil)))))))))))))) ρ μ = (sSeq (sExpr (eCall (lCons (eName "tree") lNil) m_set_places))
  (sSeq (sRet (eAttr (eName "found") 93 "number"))
  sNil)) ρ' μ' ∧ ρ' "tree" = some (.obj S.t) ∧ ρ' "found" = some (.obj rf.o) ∧ RT μ' ro' S' ∧ Step μ ro μ' ro' ∧ S'.ws (S.last + 1) = some rf ∧ S'.t = S.t ∧ S'.last = S.last + 1 ∧ S'.root = S.root ∧
      ∀ m, cs S' m = if m = S.last + 1 then some (r.core.sized ax new) else if m = n then some (r.core.sized ax old) else if m = q then some (rq.core.setKids (X ++ pairOf ahead n (S.last + 1) ++ Y)) else cs S m := by
  refine byc fun hG => ?_
  -- the model is the old one
  have hT : Sh S.ws q (.leaf n r.width r.height (r.buf, r.st, r.pt, r.hs)) := ⟨r, hn, hs, hp, rfl, rfl, hk, rfl⟩
  obtain ⟨kl, μ1, h1, M1⟩ := h_leaves_under R hT (by simp [WT.size])
  have e3 := sub_list (ei := eInt 0) (call_at (l_cons (name_of (μ := μ) a1) (l_cons (name_of a2) l_nil)) h1) rfl M1.g (by decide) (v := .int n) rfl
  have e3' := h_at2 (et := eName "tree") R M1.R hn (name_of a1) e3
  generalize hρ1 : put ρ "model" (.obj r.o) = ρ1
  have b1 : ρ1 "tree" = some (.obj S.t) := lk2 hρ1 (by kernel_rfl) a1
  have b7 : ρ1 "parent" = some (.int q) := lk2 hρ1 (by kernel_rfl) a7
  obtain ⟨μ2, ro2, rf0, f2, ⟨o, c, e, hrf⟩, R2, s2⟩ := h_fresh M1.R h9 0 q
  have e4 := h_tmeth (x := "fresh") M1.R (name_of b1) (fun fs tf => tf.m1) (l_cons (e := eInt 0) rfl (l_cons (name_of b7) l_nil)) f2
  have hnf : n ≠ S.last + 1 := by exact om113 hnl
  have hqf : q ≠ S.last + 1 := by exact om113 hql
  have hF2 : (S.add rf0).ws (S.last + 1) = some rf0 := by simp [Store.add]
  have hadd : ∀ m, m ≠ S.last + 1 → (S.add rf0).ws m = S.ws m := fun m h => by simp [Store.add, h]
  generalize hρ2 : put ρ1 "found" (.obj rf0.o) = ρ2
  have c1 : ρ2 "tree" = some (.obj S.t) := lk2 hρ2 (by kernel_rfl) b1
  have c2 : ρ2 "number" = some (.int n) := lk2 hρ2 (by kernel_rfl) (lk2 hρ1 (by kernel_rfl) a2)
  have c3 : ρ2 "axis" = some (.int ax) := lk2 hρ2 (by kernel_rfl) (lk2 hρ1 (by kernel_rfl) a3)
  have c4 : ρ2 "is_ahead" = some (.bool ahead) := lk2 hρ2 (by kernel_rfl) (lk2 hρ1 (by kernel_rfl) a4)
  have c5 : ρ2 "old" = some (.int old) := lk2 hρ2 (by kernel_rfl) (lk2 hρ1 (by kernel_rfl) a5)
  have c6 : ρ2 "new" = some (.int new) := lk2 hρ2 (by kernel_rfl) (lk2 hρ1 (by kernel_rfl) a6)
  have c7 : ρ2 "parent" = some (.int q) := lk2 hρ2 (by kernel_rfl) b7
  have c8 : ρ2 "model" = some (.obj r.o) := lk2 hρ2 (by kernel_rfl) (lk hρ1 (by kernel_rfl))
  have c9 : ρ2 "found" = some (.obj rf0.o) := lk hρ2 (by kernel_rfl)
  -- width and height
  have hn2 : (S.add rf0).ws n = some r := (hadd n hnf).trans hn
  have e5 : eTup (lCons (eAttr (eName "model") 93 "width") (lCons (eAttr (eName "model") 93 "height") lNil)) ρ2 μ2 = some (.tup [.int r.width, .int r.height], μ2) := by
    simp only [eTup, l_cons (h_fld (x := "width") R2 hn2 (name_of c8) (fun fs wf => wf.width)) (l_cons (h_fld (x := "height") R2 hn2 (name_of c8) (fun fs wf => wf.height)) l_nil), bind2_some]
    rfl
  obtain ⟨fs, hg, wf⟩ := R2.wn _ _ hF2
  obtain ⟨Q1, q1⟩ := R2.win hF2 (wf.put_width r.width) rfl rfl rfl rfl
  have w1 := wf.put_width r.width
  obtain ⟨Q2, q2⟩ := Q1.win (upd_self _ _ _) (w1.put_height r.height) rfl rfl rfl rfl
  rw [upd_upd] at Q2
  have e6 := tup_at.trans ((cons_at (as := asCons (aAttr (eName "found") 93 "height") asNil) (vs := [.int r.height]) (at_set (v := .int r.width) (x := "width") (name_of c9) hg wf.len)).trans ((cons_at (at_set (name_of c9) (by rw [get_set, if_pos rfl]) w1.len)).trans nil_at))
  have q12 := q1.trans q2
  generalize hM3 : (μ2.set rf0.o (.inst 93 (fput "width" (.int r.width) fs))).set rf0.o (.inst 93 (fput "height" (.int r.height) (fput "width" (.int r.width) fs))) = μ3 at *
  generalize hrf3 : ({ ({ rf0 with width := r.width } : WinR) with height := r.height } : WinR) = rf3 at *
  have ho3 : rf3.o = rf0.o := by rw [← hrf3]
  -- its size along the axis
  obtain ⟨μ4, f4, R4, s4⟩ := h_set_size Q2 (upd_self _ _ _) ax new
  rw [upd_upd] at R4
  have e7 := h_meth (x := "set_size") Q2 (upd_self _ _ _) ((name_of (μ := μ3) c9).trans (by rw [ho3])) (fun fs wf => wf.m2) (l_cons (name_of c3) (l_cons (name_of c6) l_nil)) f4
  -- and across
  have hsz : ∀ (r : WinR) (a v : Int), (r.sized a v).o = r.o := fun r a v => by unfold WinR.sized; split <;> rfl
  have hn4 : ((S.add rf0).upd (S.last + 1) (rf3.sized ax new)).ws n = some r := by rw [upd_ne _ _ hnf]; exact hn2
  have e8 : eBin .Sub (eInt 1) (eName "axis") ρ2 μ4 = some (.int (1 - ax), μ4) := bin_at rfl (name_of c3) rfl
  have e9 := h_meth (x := "size") R4 hn4 (h_at (et := eName "tree") (en := eName "number") R4 hn4 (name_of c1) (name_of c2)) (fun fs wf => wf.m1) (l_cons e8 l_nil) (h_size R4 hn4 (1 - ax))
  obtain ⟨μ5, f5, R5, s5⟩ := h_set_size R4 (upd_self _ _ _) (1 - ax) (if 1 - ax = 0 then r.width else r.height)
  rw [upd_upd] at R5
  have e10 := h_meth (x := "set_size") R4 (upd_self _ _ _) ((name_of (μ := μ4) c9).trans (by rw [hsz, ho3])) (fun fs wf => wf.m2) (l_cons e8 (l_cons e9 l_nil)) f5
  generalize hrf5 : (rf3.sized ax new).sized (1 - ax) (if 1 - ax = 0 then r.width else r.height) = rf5 at *
  have ho5 : rf5.o = rf0.o := by rw [← hrf5, hsz, hsz, ho3]
  -- what it shows
  have hn5 : ((S.add rf0).upd (S.last + 1) rf5).ws n = some r := by rw [upd_ne _ _ hnf]; exact hn2
  have e11 := h_meth (x := "shown") R5 hn5 (name_of c8) (fun fs wf => wf.m4) l_nil (h_shown R5 hn5)
  obtain ⟨μ6, f6, R6, s6⟩ := h_show R5 (upd_self _ _ _) r.buf r.st r.pt r.hs
  rw [upd_upd] at R6
  have e12 := h_meth (x := "show") R5 (upd_self _ _ _) ((name_of (μ := μ5) c9).trans (by rw [ho5])) (fun fs wf => wf.m5) (l_cons e11 l_nil) f6
  generalize hrf6 : ((rf5.setShown r.buf r.st r.pt r.hs) : WinR) = rf6 at *
  have ho6 : rf6.o = rf0.o := by rw [← hrf6]; exact ho5
  -- its earlier list
  have hn6 : ((S.add rf0).upd (S.last + 1) rf6).ws n = some r := by rw [upd_ne _ _ hnf]; exact hn2
  have ge6 := R6.er _ _ hn6
  have e13 : eCall (lCons (eAttr (eName "model") 93 "earlier") lNil) mList ρ2 μ6 = some (.obj μ6.n, μ6.new (.list [])) := by
    refine call_at (l_cons (h_fld (x := "earlier") R6 hn6 (name_of c8) (fun fs wf => wf.earlier)) l_nil) ?_
    simp [mList, ge6]
  have M7 := Made.start R6 (.list [])
  have st6 := ((((M1.st.trans s2).trans q12).trans s4).trans s5).trans s6
  have st7 := st6.trans M7.st
  obtain ⟨fs7, hg7, wf7⟩ := M7.R.wn _ _ (upd_self _ _ _)
  obtain ⟨ro8, R8, s8⟩ := M7.R.adoptE (μ0 := μ) (ro0 := ro) st7 (upd_self _ _ _) M7.r (Nat.le_trans st6.le M7.l.1) M7.l.2 M7.g hg7
  have e14 := at_set (mo := eName "found") (x := "earlier") (v := .obj μ6.n) ((name_of (μ := μ6.new (.list [])) c9).trans (by rw [ho6])) hg7 wf7.len
  rw [upd_upd] at R8
  generalize hM8 : (μ6.new (.list [])).set rf6.o (.inst 93 (fput "earlier" (.obj μ6.n) fs7)) = μ8 at *
  generalize hrf8 : ((rf6.setE μ6.n) : WinR) = rf8 at *
  have ho8 : rf8.o = rf0.o := by rw [← hrf8]; exact ho6
  have hcore8 : rf8.core = r.core.sized ax new := by
    rw [← hrf8, ← hrf6, ← hrf5, ← hrf3, hrf]
    rcases hax with h | h
    · subst h; simp [WinR.core, WinR.sized, WinR.setShown, WinR.setE, Core.sized, hs, hk, hp]
    · subst h; simp [WinR.core, WinR.sized, WinR.setShown, WinR.setE, Core.sized, hs, hk, hp]
  -- among the children
  have hq8 : ((S.add rf0).upd (S.last + 1) rf8).ws q = some rq := by rw [upd_ne _ _ hqf, hadd _ hqf]; exact hq
  have e15 := h_fld (x := "children") R8 hq8 (h_at (et := eName "tree") (en := eName "parent") R8 hq8 (name_of c1) (name_of c7)) (fun fs wf => wf.children)
  generalize hρ3 : put ρ2 "children" (.obj rq.c) = ρ3
  have d1 : ρ3 "children" = some (.obj rq.c) := lk hρ3 (by kernel_rfl)
  have d2 : ρ3 "number" = some (.int n) := lk2 hρ3 (by kernel_rfl) c2
  have gk8 := R8.kd _ _ hq8
  have e16 := index_at (name_of d1) gk8 (by exact om119 hlen) (name_of d2) (by rw [hkids]; exact findIdx_mid hX)
  generalize hρ4 : put ρ3 "at" (.int X.length) = ρ4
  have g1 : ρ4 "children" = some (.obj rq.c) := lk2 hρ4 (by kernel_rfl) d1
  have g2 : ρ4 "number" = some (.int n) := lk2 hρ4 (by kernel_rfl) d2
  have g3 : ρ4 "axis" = some (.int ax) := lk2 hρ4 (by kernel_rfl) (lk2 hρ3 (by kernel_rfl) c3)
  have g4 : ρ4 "is_ahead" = some (.bool ahead) := lk2 hρ4 (by kernel_rfl) (lk2 hρ3 (by kernel_rfl) c4)
  have g5 : ρ4 "old" = some (.int old) := lk2 hρ4 (by kernel_rfl) (lk2 hρ3 (by kernel_rfl) c5)
  have g6 : ρ4 "at" = some (.int X.length) := lk hρ4 (by kernel_rfl)
  have g7 : ρ4 "parent" = some (.int q) := lk2 hρ4 (by kernel_rfl) (lk2 hρ3 (by kernel_rfl) c7)
  have g8 : ρ4 "tree" = some (.obj S.t) := lk2 hρ4 (by kernel_rfl) (lk2 hρ3 (by kernel_rfl) c1)
  have g9 : ρ4 "found" = some (.obj rf0.o) := lk2 hρ4 (by kernel_rfl) (lk2 hρ3 (by kernel_rfl) c9)
  have e17 : eIf (tVal (eName "is_ahead")) (eName "at") (eBin .Add (eName "at") (eInt 1)) ρ4 μ8 = some (.int (if ahead then (X.length : Int) else X.length + 1), μ8) := by
    have t1 : tVal (eName "is_ahead") ρ4 μ8 = some (ahead, μ8) := by simp only [tVal, name_of g4, bind2_some]
    simp only [eIf, t1, bind2_some]
    cases ahead
    · exact bin_at (name_of g6) rfl rfl
    · exact name_of g6
  have e18 := h_fld (x := "number") R8 (upd_self _ _ _) ((name_of (μ := μ8) g9).trans (by rw [ho8])) (fun fs wf => wf.number)
  have hlen2 : rq.kids.length = X.length + Y.length + 1 := by rw [hkids]; simp; exact om120
  have e19 := insert_at (name_of g1) gk8 (by exact om119 hlen) e17 e18 (by cases ahead <;> simp <;> omega)
  have hins : rq.kids.take (if ahead then (X.length : Int) else X.length + 1).toNat ++ (S.last + 1) :: rq.kids.drop (if ahead then (X.length : Int) else X.length + 1).toNat = X ++ pairOf ahead n (S.last + 1) ++ Y := by
    rw [hkids]
    cases ahead
    · have h1 : (if false = true then (X.length : Int) else X.length + 1).toNat = (X ++ [n]).length := by simp
      rw [h1, show X ++ n :: Y = (X ++ [n]) ++ Y by simp, List.take_left' rfl, List.drop_left' rfl]
      simp [pairOf]
    · have : ((X.length : Int)).toNat = X.length := by exact om121
      simp [pairOf, this]
  rw [hins] at e19
  obtain ⟨R9, s9⟩ := R8.kids hq8 (X ++ pairOf ahead n (S.last + 1) ++ Y)
  generalize hM9 : μ8.set rq.c (.list ((X ++ pairOf ahead n (S.last + 1) ++ Y).map .int)) = μ9 at *
  have hn9 : (((S.add rf0).upd (S.last + 1) rf8).upd q (rq.setKids (X ++ pairOf ahead n (S.last + 1) ++ Y))).ws n = some r := by
    rw [upd_ne _ _ (Ne.symm hqn), upd_ne _ _ hnf]; exact hn2
  obtain ⟨μ10, f10, R10, s10⟩ := h_set_tree_size R9 hn9 hs ax old
  have e20 := call_at (l_cons (name_of (μ := μ9) g8) (l_cons (name_of g2) (l_cons (name_of g3) (l_cons (name_of g5) l_nil)))) f10
  generalize hS10 : (((S.add rf0).upd (S.last + 1) rf8).upd q (rq.setKids (X ++ pairOf ahead n (S.last + 1) ++ Y))).upd n (r.sized ax old) = S10 at *
  have hq10 : S10.ws q = some (rq.setKids (X ++ pairOf ahead n (S.last + 1) ++ Y)) := by rw [← hS10, upd_ne _ _ hqn, upd_self]
  have hn10 : S10.ws n = some (r.sized ax old) := by rw [← hS10, upd_self]
  have hf10 : S10.ws (S.last + 1) = some rf8 := by rw [← hS10, upd_ne _ _ (Ne.symm hnf), upd_ne _ _ (Ne.symm hqf), upd_self]
  have ho10 : ∀ m, m ≠ n → m ≠ q → m ≠ S.last + 1 → S10.ws m = S.ws m := fun m h1 h2 h3 => by rw [← hS10, upd_ne _ _ h1, upd_ne _ _ h2, upd_ne _ _ h3, hadd _ h3]
  have hsort : ∀ (r : WinR) (a v : Int), (r.sized a v).sort = r.sort ∧ (r.sized a v).parent = r.parent := fun r a v => by unfold WinR.sized; split <;> exact ⟨rfl, rfl⟩
  have hl0 := R.l0
  obtain ⟨μ11, ro11, c11, f11, R11, s11⟩ := h_joined (r := (rq.setKids (X ++ pairOf ahead n (S.last + 1) ++ Y))) R10 hq10 (by
      show (X ++ pairOf ahead n (S.last + 1) ++ Y).length ≤ 150
      have : (pairOf ahead n (S.last + 1)).length = 2 := by cases ahead <;> rfl
      rw [List.length_append, List.length_append, this]; exact om122 hlen2 hlen) (fun k hk => by
    have hk' : k = n ∨ k = S.last + 1 ∨ k ∈ X ++ Y := by
      have hk2 : k ∈ X ++ pairOf ahead n (S.last + 1) ++ Y := hk
      rw [List.mem_append, List.mem_append] at hk2
      rcases hk2 with (h | h) | h
      · exact .inr (.inr (List.mem_append_left _ h))
      · cases ahead <;> simp [pairOf] at h <;> rcases h with h | h <;> simp [h]
      · exact .inr (.inr (List.mem_append_right _ h))
    rcases hk' with rfl | rfl | hk'
    · exact ⟨_, hn10, by rw [(hsort _ _ _).1, hs]; exact Ne.symm hqs, by rw [(hsort _ _ _).2, hp]⟩
    · have h1 : rf8.sort = 0 := by have := congrArg Core.sort hcore8; rw [show (r.core.sized ax new).sort = r.sort by unfold Core.sized; split <;> rfl, hs] at this; exact this
      have h2 : rf8.parent = q := by have := congrArg Core.parent hcore8; rw [show (r.core.sized ax new).parent = r.parent by unfold Core.sized; split <;> rfl, hp] at this; exact this
      exact ⟨_, hf10, by rw [h1]; exact Ne.symm hqs, h2⟩
    · obtain ⟨hkn, w, hw1, hw2, hw3⟩ := hoth k hk'
      have hkf : k ≠ S.last + 1 := fun e => by rw [e, R.fr _ (by exact om55)] at hw1; cases hw1
      exact ⟨w, by rw [ho10 k hkn (hXY k hk') hkf]; exact hw1, hw2, hw3⟩)
  have ht10 : S10.t = S.t := by rw [← hS10]; rfl
  have e21 := call_at (l_cons (name_of (μ := μ10) g8) (l_cons (name_of g7) l_nil)) (by rw [← ht10]; exact f11)
  refine hG ⟨ρ4, μ11, ro11, _, rf8, ?_, g8, by rw [ho8]; exact g9, R11, ((s8.trans s9).trans s10).trans s11, ?_, ?_, ?_, ?_, fun m => ?_⟩
  · exact (seq_next (st_nm e3' hρ1)).trans ((seq_next (st_nm e4 hρ2)).trans ((seq_next (st_assign e5 e6)).trans ((seq_next (st_expr e7)).trans ((seq_next (st_expr e10)).trans ((seq_next (st_expr e12)).trans ((seq_next (st_assign e13 e14)).trans ((seq_next (st_nm e15 hρ3)).trans ((seq_next (st_nm e16 hρ4)).trans ((seq_next (st_expr e19)).trans ((seq_next (st_expr e20)).trans (seq_next (st_expr e21))))))))))))
  · rw [upd_ne _ _ (Ne.symm hqf)]; exact hf10
  · exact ht10
  · show S10.last = _
    rw [← hS10]; rfl
  · show S10.root = _
    rw [← hS10]; rfl
  · rw [cs_upd]
    by_cases hmq : m = q
    · subst hmq
      rw [if_pos rfl, if_neg hqf, if_neg hqn, if_pos rfl]
      rfl
    · rw [if_neg hmq, if_neg hmq, ← hS10, cs_upd, cs_upd, cs_upd, cs_add, if_neg hmq, core_sized, hcore8]
      by_cases hmn : m = n
      · subst hmn
        rw [if_pos rfl, if_neg hnf, if_pos rfl]
      · rw [if_neg hmn, if_neg hmn]
        by_cases hmf : m = S.last + 1
        · rw [if_pos hmf, if_pos hmf]
        · rw [if_neg hmf, if_neg hmf, if_neg hmf]
end
end Mine
end
section
set_option maxRecDepth 10000
open PySem PySem.W PySem.Calls PyProof.Rows
namespace Mine
noncomputable def leafOf (m : Int) (k : Core) : WT := .leaf m k.width k.height k.sh
noncomputable def pairT (ahead : Bool) (n f : Int) (kn kf : Core) : List WT := if ahead then [leafOf f kf, leafOf n kn] else [leafOf n kn, leafOf f kf]
theorem pairT_num (ahead : Bool) (n f : Int) (kn kf : Core) : (pairT ahead n f kn kf).map WT.num = pairOf ahead n f := by cases ahead <;> rfl
theorem pairT_nums (ahead : Bool) (n f : Int) (kn kf : Core) : WT.numsL (pairT ahead n f kn kf) = pairOf ahead n f := by cases ahead <;> simp [pairT, pairOf, WT.numsL, leafOf, WT.nums]
theorem pairT_mem {ahead : Bool} {n f : Int} {kn kf : Core} {x : WT} (h : x ∈ pairT ahead n f kn kf) : x.sort = 0 := by
  cases ahead <;> simp [pairT, leafOf] at h <;> rcases h with h | h <;> rw [h] <;> rfl
theorem pairT_sh {c : CF} {q n f : Int} {ahead : Bool} {kn kf : Core} (h1 : c n = some ⟨0, q, kn.width, kn.height, [], kn.sh⟩) (h2 : c f = some ⟨0, q, kf.width, kf.height, [], kf.sh⟩) : ShCL c q (pairT ahead n f kn kf) := by
  cases ahead
  · exact ⟨h1, h2, trivial⟩
  · exact ⟨h2, h1, trivial⟩
noncomputable def rowOf (ax : Int) : Bool := decide (ax = 0)
theorem sized_sum {ax old new : Int} {kn : Core} (hax : ax = 0 ∨ ax = 1) (hon : old + new = kn.sz ax) (ahead : Bool) (n f : Int) : exts (rowOf ax) (pairT ahead n f (kn.sized ax old) (kn.sized ax new)) = if rowOf ax then kn.width else kn.height := by
  rcases hax with rfl | rfl
  · have : old + new = kn.width := hon
    cases ahead <;> simp [exts, pairT, leafOf, rowOf, WT.wid, WT.hei, Core.sized] <;> omega
  · have : old + new = kn.height := hon
    cases ahead <;> simp [exts, pairT, leafOf, rowOf, WT.wid, WT.hei, Core.sized] <;> omega
structure Grown (c' : CF) (T T' : WT) (n f q : Int) (kn : Core) (ax old new : Int) (ahead : Bool) : Prop where
  sh : ShC c' 0 T'
  nd : T'.nums.Nodup
  sub : ∀ m ∈ T'.nums, m ∈ T.nums ∨ m = f ∨ m = q
  sz : T'.size ≤ T.size + 2
  en : ∃ A B l t, ents 0 0 T = A ++ (n, l, t, kn.width, kn.height, kn.sh) :: B ∧ (∀ a ∈ A, a.1 ≠ n) ∧ (∀ a ∈ B, a.1 ≠ n) ∧ ents 0 0 T' = A ++ entsL (rowOf ax) l t (pairT ahead n f (kn.sized ax old) (kn.sized ax new)) ++ B
theorem alongOf_row {row : Bool} {ax : Int} (h : alongOf (rowSort row) = ax) : row = rowOf ax := by
  cases row
  · simp [alongOf, rowSort] at h; simp [rowOf, ← h]
  · simp [alongOf, rowSort] at h; simp [rowOf, ← h]
theorem nodup_mid {A B xs : List Int} {n : Int} (nd : (A ++ n :: B).Nodup) (hxs : xs.Nodup) (hd : ∀ x ∈ xs, x = n ∨ x ∉ A ++ n :: B) : (A ++ xs ++ B).Nodup := by
  rw [List.nodup_append, List.nodup_cons] at nd
  obtain ⟨h1, ⟨h2, h3⟩, h4⟩ := nd
  rw [List.append_assoc, List.nodup_append, List.nodup_append]
  refine ⟨h1, ⟨hxs, h3, fun a ha b hb e => ?_⟩, fun a ha b hb e => ?_⟩
  · rcases hd a ha with h | h
    · exact h2 (by rw [← h, e]; exact hb)
    · exact h (by rw [e]; exact List.mem_append_right _ (.tail _ hb))
  · rcases List.mem_append.mp hb with hb | hb
    · rcases hd b hb with h | h
      · exact h4 a ha n (.head _) (by rw [e, h])
      · exact h (by rw [← e]; exact List.mem_append_left _ ha)
    · exact h4 a ha b (.tail _ hb) e
theorem id_key (l : List Int) : l.map (fun x => x) = l := List.map_id l
theorem leaf_ent {c : CF} {n : Int} {kn : Core} (hn : c n = some kn) : ∀ {p l t : Int} {T : WT} {e : Ent}, ShC c p T → e ∈ ents l t T → e.1 = n → e.2.2.2 = (kn.width, kn.height, kn.sh) := by
  have main : ∀ (T : WT), (∀ {p l t : Int} {e : Ent}, ShC c p T → e ∈ ents l t T → e.1 = n → e.2.2.2 = (kn.width, kn.height, kn.sh)) := by
    apply WT.rec (motive_1 := fun T => ∀ {p l t : Int} {e : Ent}, ShC c p T → e ∈ ents l t T → e.1 = n → e.2.2.2 = (kn.width, kn.height, kn.sh))
      (motive_2 := fun ks => ∀ {row : Bool} {p l t : Int} {e : Ent}, ShCL c p ks → e ∈ entsL row l t ks → e.1 = n → e.2.2.2 = (kn.width, kn.height, kn.sh))
    · intro m w h s p l t e h1 he hen
      rw [ents, List.mem_singleton] at he
      subst he
      have h1' : c m = some ⟨0, p, w, h, [], s⟩ := h1
      have hen' : m = n := hen
      rw [hen', hn] at h1'
      cases h1'
      rfl
    · intro m w h row ks ih p l t e h1 he hen
      exact ih h1.2.2.2 he hen
    · intro row p l t e _ he
      cases he
    · intro k r ih1 ih2 row p l t e h1 he hen
      rw [entsL] at he
      rcases List.mem_append.mp he with he | he
      · exact ih1 h1.1 he hen
      · exact ih2 h1.2 he hen
  intro p l t T e h1 h2 h3
  exact main T h1 h2 h3
theorem ents_mid {c : CF} {n : Int} {kn : Core} {T : WT} (hn : c n = some kn) (sh : ShC c 0 T) (nd : T.nums.Nodup) (hm : n ∈ T.leaves) : ∃ A B l t, ents 0 0 T = A ++ (n, l, t, kn.width, kn.height, kn.sh) :: B ∧ (∀ a ∈ A, a.1 ≠ n) ∧ (∀ a ∈ B, a.1 ≠ n) := by
  have hl : ((ents 0 0 T).map (·.1)).Nodup := by rw [ents_fst]; exact nd.sublist (leaves_sub T)
  obtain ⟨A, e, B, h1, h2, h3, h4⟩ := mid_of (key := fun e : Ent => e.1) hl (by rw [ents_fst]; exact hm)
  have h5 := leaf_ent hn sh (e := e) (by rw [h1]; exact List.mem_append_right _ (.head _)) h2
  obtain ⟨e1, e2, e3, e4⟩ := e
  dsimp only at h2 h5
  subst h2 h5
  exact ⟨A, B, e2, e3, h1, h3, h4⟩
section
variable {c c' : CF} {T : WT} {n f q : Int} {kn : Core} {ax old new : Int} {ahead : Bool}
theorem grownA (sh : ShC c 0 T) (nd : T.nums.Nodup) (hm : n ∈ T.leaves) (hn : c n = some kn) (hs : kn.sort = 0) (hk : kn.kids = []) (hax : ax = 0 ∨ ax = 1) (hon : old + new = kn.sz ax) (h0 : ∀ m ∈ T.nums, m ≠ 0) (hf : f ∉ T.nums) {kq : Core} {X Y : List Int} (hq : q = kn.parent) (hq0 : q ≠ 0) (hkq : c q = some kq)
    (ha : alongOf kq.sort = ax) (hkids : kq.kids = X ++ n :: Y) (hX : n ∉ X) (hY : n ∉ Y) (hc : ∀ m, c' m = if m = f then some (kn.sized ax new) else if m = n then some (kn.sized ax old) else if m = q then some (kq.setKids (X ++ pairOf ahead n f ++ Y)) else c m) :
    ∃ T', Grown c' T T' n f q kn ax old new ahead ∧ T'.num = T.num := by
  refine byc fun hG => ?_
  have hlf : isLf n T = false := by
    cases h : isLf n T with
    | false => rfl
    | true =>
      obtain ⟨k, h1, _, h3, _⟩ := shC_at sh
      rw [isLf_num h, hn] at h1
      cases h1
      exact absurd (hq.trans h3) hq0
  have hnT : n ∈ T.nums := (leaves_sub T).subset hm
  have hfn : n ≠ f := fun e => hf (e ▸ hnT)
  have hfq : ∀ m ∈ T.nums, m ≠ f := fun m h e => hf (e ▸ h)
  obtain ⟨row, ks, w, h, s, pp, e1, e2, e3, e4, e5, e6, e7⟩ := shC_par hn hs sh hm hlf
  rw [← hq] at e1 e2 e6
  rw [hkq] at e1
  have hks : kq.sort = rowSort row := by rw [Option.some.inj e1]
  have hrow : row = rowOf ax := alongOf_row (by rw [← hks]; exact ha)
  have hqn : q ≠ n := fun e => by
    rw [e, hn] at hkq
    rw [← Option.some.inj hkq, hs] at hks
    exact rowSort_pos row hks.symm
  have hsort : ∀ v, (kn.sized ax v).sort = 0 ∧ (kn.sized ax v).parent = q ∧ (kn.sized ax v).kids = [] := fun v => by
    unfold Core.sized
    split <;> exact ⟨hs, hq.symm, hk⟩
  have hself : ∀ k : Core, k.sort = 0 → k.parent = q → k.kids = [] → k = ⟨0, q, k.width, k.height, [], k.sh⟩ := fun k a b d => by cases k; dsimp only at *; subst a b d; rfl
  have C : Chg c c' n q kn (pairT ahead n f (kn.sized ax old) (kn.sized ax new)) T.nums := {
    hn := hn
    hs := hs
    hp := hq.symm
    h1 := fun m hm h1 h2 => by rw [hc m, if_neg (hfq m hm), if_neg h1, if_neg h2]
    h2 := fun _ => by
      rw [hc q, if_neg (hfq q e6), if_neg hqn, if_pos rfl, hkq, Option.map_some, hkids, flat_mid (key := fun x => x) (g := fun _ => (pairT ahead n f (kn.sized ax old) (kn.sized ax new)).map WT.num) rfl (fun a ha e => hX (by have e' : a = n := e; rw [← e']; exact ha)) (fun a ha e => hY (by have e' : a = n := e; rw [← e']; exact ha)), pairT_num]
    h3 := pairT_sh (by rw [hc n, if_neg hfn, if_pos rfl]; exact congrArg some (hself _ (hsort _).1 (hsort _).2.1 (hsort _).2.2)) (by rw [hc f, if_pos rfl]; exact congrArg some (hself _ (hsort _).1 (hsort _).2.1 (hsort _).2.2))
    h4 := fun k hk x hx => by
      rw [hkq] at hk
      cases hk
      rw [pairT_mem hx, hks]
      exact Ne.symm (rowSort_pos row)
    h5 := by cases ahead <;> simp [pairT]
    h0 := h0 }
  obtain ⟨A, B, l, t, g1, g2, g3⟩ := ents_mid hn sh nd hm
  have hid : (T.nums.map fun x => x).Nodup := by rw [id_key]; exact nd
  obtain ⟨A', e', B', k1, k2, k3, k4⟩ := mid_of (key := fun x : Int => x) hid (by rw [id_key]; exact hnT)
  have k2' : e' = n := k2
  subst k2'
  have hnums : (ins e' (pairT ahead e' f (kn.sized ax old) (kn.sized ax new)) T).nums = A' ++ pairOf ahead e' f ++ B' := by
    rw [ins_nums hn hs sh hlf, k1, flat_mid (key := fun x => x) (g := fun _ => WT.numsL (pairT ahead e' f (kn.sized ax old) (kn.sized ax new))) rfl k3 k4, pairT_nums]
  have hpair : ∀ x ∈ pairOf ahead e' f, x = e' ∨ x = f := fun x hx => by cases ahead <;> simp [pairOf] at hx <;> rcases hx with h | h <;> simp [h]
  refine hG ⟨_, ⟨ins_sh C (fun _ h => h) sh hlf, ?_, fun m hm => ?_, ?_, A, B, l, t, g1, g2, g3, ?_⟩, ins_num _ _ _⟩
  · rw [hnums]
    refine nodup_mid (by rw [← k1]; exact nd) (by cases ahead <;> simp [pairOf, hfn, Ne.symm hfn]) fun x hx => ?_
    rcases hpair x hx with h | h
    · exact .inl h
    · exact .inr (by rw [← k1, h]; exact hf)
  · rw [hnums, List.mem_append, List.mem_append] at hm
    rcases hm with (h | h) | h
    · exact .inl (by rw [k1]; exact List.mem_append_left _ h)
    · rcases hpair m h with h | h
      · exact .inl (by rw [h]; exact hnT)
      · exact .inr (.inl h)
    · exact .inl (by rw [k1]; exact List.mem_append_right _ (.tail _ h))
  · rw [size_nums, size_nums, hnums, k1]
    have : (pairOf ahead e' f).length = 2 := by cases ahead <;> rfl
    simp only [List.length_append, List.length_cons, this]; exact om123
  · rw [ents_ins hn hs hq.symm hkq (hrow ▸ hks) (sized_sum hax hon ahead e' f) sh hlf, g1]
    exact flat_mid (key := fun e : Ent => e.1) (g := fun e : Ent => entsL (rowOf ax) e.2.1 e.2.2.1 (pairT ahead e' f (kn.sized ax old) (kn.sized ax new))) rfl g2 g3
theorem grownB (sh : ShC c 0 T) (nd : T.nums.Nodup) (hm : n ∈ T.leaves) (hn : c n = some kn) (hs : kn.sort = 0) (hk : kn.kids = []) (hax : ax = 0 ∨ ax = 1) (hon : old + new = kn.sz ax) (h0 : ∀ m ∈ T.nums, m ≠ 0) (hz : c 0 = none) (hf : f ∉ T.nums) (hq : q ∉ T.nums) (hqf : q ≠ f) (hq0 : q ≠ 0) (hf0 : f ≠ 0)
    (ha : ∀ k, c kn.parent = some k → alongOf k.sort ≠ ax) (hc : ∀ m, c' m = if m = f then some ((kn.setParent q).sized ax new) else if m = n then some ((kn.setParent q).sized ax old) else if m = q then some ⟨sortOf ax, kn.parent, kn.width, kn.height, pairOf ahead n f, (0, 1, 1, 0)⟩ else if m = kn.parent ∧ kn.parent ≠ 0 then (c m).map fun k => (k.setKids (k.kids.map fun x => if x = n then q else x)) else c m) :
    ∃ T', Grown c' T T' n f q kn ax old new ahead ∧ T'.num = if kn.parent = 0 then q else T.num := by
  refine byc fun hG => ?_
  have hnT : n ∈ T.nums := (leaves_sub T).subset hm
  have hfn : n ≠ f := fun e => hf (e ▸ hnT)
  have hqn : n ≠ q := fun e => hq (e ▸ hnT)
  have hrs : sortOf ax = rowSort (rowOf ax) := by rcases hax with rfl | rfl <;> rfl
  have hsort : ∀ v, (((kn.setParent q) : Core).sized ax v).sort = 0 ∧ (((kn.setParent q) : Core).sized ax v).parent = q ∧ (((kn.setParent q) : Core).sized ax v).kids = [] := fun v => by
    unfold Core.sized
    split <;> exact ⟨hs, rfl, hk⟩
  have hself : ∀ k : Core, k.sort = 0 → k.parent = q → k.kids = [] → k = ⟨0, q, k.width, k.height, [], k.sh⟩ := fun k a b d => by cases k; dsimp only at *; subst a b d; rfl
  have hwid : ∀ v, (((kn.setParent q) : Core).sized ax v).width = (kn.sized ax v).width ∧ (((kn.setParent q) : Core).sized ax v).height = (kn.sized ax v).height ∧ (((kn.setParent q) : Core).sized ax v).sh = (kn.sized ax v).sh := fun v => by
    unfold Core.sized
    split <;> exact ⟨rfl, rfl, rfl⟩
  have hpair : ∀ x ∈ pairOf ahead n f, x = n ∨ x = f := fun x hx => by cases ahead <;> simp [pairOf] at hx <;> rcases hx with h | h <;> simp [h]
  have hnode : ShC c' kn.parent (.node q kn.width kn.height (rowOf ax) (pairT ahead n f (kn.sized ax old) (kn.sized ax new))) := by
    refine ⟨⟨(0, 1, 1, 0), ?_⟩, by cases ahead <;> simp [pairT], fun k hk => by rw [pairT_mem hk]; exact Ne.symm (rowSort_pos _), pairT_sh ?_ ?_⟩
    · rw [hc q, if_neg hqf, if_neg (Ne.symm hqn), if_pos rfl, hrs, pairT_num]
    · rw [hc n, if_neg hfn, if_pos rfl, hself _ (hsort old).1 (hsort old).2.1 (hsort old).2.2, (hwid old).1, (hwid old).2.1, (hwid old).2.2]
    · rw [hc f, if_pos rfl, hself _ (hsort new).1 (hsort new).2.1 (hsort new).2.2, (hwid new).1, (hwid new).2.1, (hwid new).2.2]
  obtain ⟨A, B, l, t, g1, g2, g3⟩ := ents_mid hn sh nd hm
  have hnn : WT.numsL [.node q kn.width kn.height (rowOf ax) (pairT ahead n f (kn.sized ax old) (kn.sized ax new))] = q :: pairOf ahead n f := by
    simp [WT.numsL, WT.nums, pairT_nums]
  have hxnd : (q :: pairOf ahead n f).Nodup := by
    rw [List.nodup_cons]
    refine ⟨fun h => ?_, by cases ahead <;> simp [pairOf, hfn, Ne.symm hfn]⟩
    rcases hpair q h with h | h
    · exact hqn h.symm
    · exact hqf h
  cases hlf : isLf n T with
  | true =>
    cases T with
    | node => cases hlf
    | leaf m w h s =>
      have hmn : m = n := by simpa [isLf] using hlf
      subst hmn
      have h1 : c m = some ⟨0, 0, w, h, [], s⟩ := sh
      rw [hn] at h1
      have hp : kn.parent = 0 := by rw [Option.some.inj h1]
      rw [hp] at hnode
      refine hG ⟨_, ⟨hnode, ?_, fun x hx => ?_, ?_, A, B, l, t, g1, g2, g3, ?_⟩, by rw [if_pos hp]; rfl⟩
      · have := hnn
        simp only [WT.numsL, List.append_nil] at this
        rw [this]; exact hxnd
      · have := hnn
        simp only [WT.numsL, List.append_nil] at this
        rw [this] at hx
        rcases List.mem_cons.mp hx with h | h
        · exact .inr (.inr h)
        · rcases hpair x h with h | h
          · exact .inl (by rw [h]; exact hnT)
          · exact .inr (.inl h)
      · have : (pairOf ahead m f).length = 2 := by cases ahead <;> rfl
        rw [size_nums, WT.nums, pairT_nums, List.length_cons, this]
        simp [WT.size]
      · rw [ents] at g1
        show entsL (rowOf ax) 0 0 _ = _
        have hA : A = [] := by
          cases A with
          | nil => rfl
          | cons a r => have := congrArg List.length g1; simp at this
        subst hA
        have hB : B = [] := by
          cases B with
          | nil => rfl
          | cons a r => have := congrArg List.length g1; simp at this
        subst hB
        have := (List.cons.inj g1).1
        simp only [Prod.mk.injEq] at this
        obtain ⟨_, hl, ht, _⟩ := this
        rw [← hl, ← ht]; simp
  | false =>
    obtain ⟨row, ks, w, h, s, pp, e1, e2, e3, e4, e5, e6, e7⟩ := shC_par hn hs sh hm hlf
    have hp0 : kn.parent ≠ 0 := h0 _ e6
    have hpn : kn.parent ≠ n := fun e => by
      rw [e, hn] at e1
      rw [Option.some.inj e1] at hs
      exact rowSort_pos row hs
    have C : Chg c c' n kn.parent kn [.node q kn.width kn.height (rowOf ax) (pairT ahead n f (kn.sized ax old) (kn.sized ax new))] T.nums := {
      hn := hn
      hs := hs
      hp := rfl
      h1 := fun m hm h1 h2 => by rw [hc m, if_neg (fun e : m = f => hf (e ▸ hm)), if_neg h1, if_neg (fun e : m = q => hq (e ▸ hm)), if_neg (fun e => h2 e.1)]
      h2 := fun _ => by
        rw [hc kn.parent, if_neg (fun e : kn.parent = f => hf (e ▸ e6)), if_neg hpn, if_neg (fun e : kn.parent = q => hq (e ▸ e6)), if_pos ⟨rfl, hp0⟩, e1]
        simp only [Option.map_some]
        congr 2
        have : ∀ l : List Int, l.map (fun x => if x = n then q else x) = l.flatMap fun x => if x = n then [q] else [x] := fun l => by
          induction l with
          | nil => rfl
          | cons a r ih => rw [List.map_cons, List.flatMap_cons, ih]; split <;> rfl
        exact this _
      h3 := ⟨hnode, trivial⟩
      h4 := fun k hk x hx => by
        rw [List.mem_singleton.mp hx]
        intro e
        have hx := ha k hk
        rw [← e] at hx
        refine hx ?_
        show alongOf (rowSort (rowOf ax)) = ax
        rcases hax with rfl | rfl <;> rfl
      h5 := by simp
      h0 := h0 }
    have hid : (T.nums.map fun x => x).Nodup := by rw [id_key]; exact nd
    obtain ⟨A', e', B', k1, k2, k3, k4⟩ := mid_of (key := fun x : Int => x) hid (by rw [id_key]; exact hnT)
    have k2' : e' = n := k2
    subst k2'
    have hnums : (ins e' [.node q kn.width kn.height (rowOf ax) (pairT ahead e' f (kn.sized ax old) (kn.sized ax new))] T).nums = A' ++ (q :: pairOf ahead e' f) ++ B' := by
      rw [ins_nums hn hs sh hlf, k1, flat_mid (key := fun x => x) (g := fun _ => WT.numsL [.node q kn.width kn.height (rowOf ax) (pairT ahead e' f (kn.sized ax old) (kn.sized ax new))]) rfl k3 k4, hnn]
    refine hG ⟨_, ⟨ins_sh C (fun _ h => h) sh hlf, ?_, fun m hm => ?_, ?_, A, B, l, t, g1, g2, g3, ?_⟩, by rw [if_neg hp0]; exact ins_num _ _ _⟩
    · rw [hnums]
      refine nodup_mid (by rw [← k1]; exact nd) hxnd fun x hx => ?_
      rcases List.mem_cons.mp hx with h | h
      · exact .inr (by rw [← k1, h]; exact hq)
      · rcases hpair x h with h | h
        · exact .inl h
        · exact .inr (by rw [← k1, h]; exact hf)
    · rw [hnums, List.mem_append, List.mem_append] at hm
      rcases hm with (h | h) | h
      · exact .inl (by rw [k1]; exact List.mem_append_left _ h)
      · rcases List.mem_cons.mp h with h | h
        · exact .inr (.inr h)
        · rcases hpair m h with h | h
          · exact .inl (by rw [h]; exact hnT)
          · exact .inr (.inl h)
      · exact .inl (by rw [k1]; exact List.mem_append_right _ (.tail _ h))
    · rw [size_nums, size_nums, hnums, k1]
      have : (pairOf ahead e' f).length = 2 := by cases ahead <;> rfl
      simp only [List.length_append, List.length_cons, this]; exact om124
    · rw [ents_ins hn hs rfl e1 rfl (prow := row) (by cases row <;> simp [exts, WT.wid, WT.hei]) sh hlf, g1]
      have := flat_mid (key := fun e : Ent => e.1) (e := (e', l, t, kn.width, kn.height, kn.sh)) (g := fun e : Ent => entsL row e.2.1 e.2.2.1 [.node q kn.width kn.height (rowOf ax) (pairT ahead e' f (kn.sized ax old) (kn.sized ax new))]) rfl g2 g3
      rw [this]
      simp [entsL, ents]
end
end Mine
end
section
set_option maxRecDepth 10000
open PySem PySem.W PySem.Calls PyProof.Rows
namespace Mine
section
variable {μ μ0 μ1 μ' : Mem} {ro ro0 ro' : Nat → Option Role} {S S' : Store} {n : Int} {r : WinR} {ρ : Loc}
theorem len_at {e : EM} {k : Nat} {xs : List V} (he : e ρ μ = some (.obj k, μ)) (hg : μ.get k = some (.list xs)) (hl : xs.length ≤ 1000) : eCall (lCons e lNil) mLen ρ μ = some (.int xs.length, μ) := by
  refine call_at (l_cons he l_nil) ?_
  simp only [mLen, hg, hl, reduceIte]
theorem h_lifted0 (R : RT μ ro S) (hn : S.ws n = some r) (hl : r.kids.length ≤ 900) (h1 : r.kids.length ≠ 1) : m_lifted [.obj S.t, .int n] μ = some (.none, μ) := by
  generalize hρ : bindv [("tree" : Str), ("number" : Str)] [.obj S.t, .int n] = ρ0
  have a1 : ρ0 "tree" = some (.obj S.t) := lk hρ (by kernel_rfl)
  have a2 : ρ0 "number" = some (.int n) := lk hρ (by kernel_rfl)
  have e1 := h_at (et := eName "tree") (en := eName "number") R hn (name_of a1) (name_of a2)
  have b1 : put ρ0 "here" (.obj r.o) "here" = some (.obj r.o) := by kernel_rfl
  have gk := R.kd _ _ hn
  have e2 := t_nei (j := 1) (len_at (h_fld (x := "children") R hn (name_of b1) (fun fs wf => wf.children)) gk (by rw [List.length_map]; exact om101 hl))
  rw [List.length_map, show ((r.kids.length : Int) != 1) = true by simp; exact om125 h1] at e2
  exact run_retH hρ rfl ((seq_next (st_name e1)).trans (seq_ret ((if_t e2).trans (seq_ret rfl))))
theorem h_lifted1 {q p : Int} {rq rn : WinR} (R : RT μ ro S) (hq : S.ws q = some rq) (hk : rq.kids = [n]) (hn : S.ws n = some rn) (hqn : q ≠ n) (hp : rq.parent = p)
    (hpar : p = 0 ∨ (p ≠ 0 ∧ p ≠ n ∧ p ≠ q ∧ ∃ rp A B, S.ws p = some rp ∧ rp.kids = A ++ q :: B ∧ q ∉ A ∧ q ∉ B ∧ rp.kids.length ≤ 140 ∧ rn.sort ≠ rp.sort ∧ ∀ k ∈ A ++ B, k ≠ n ∧ k ≠ q ∧ k ≠ p ∧ ∃ w, S.ws k = some w ∧ w.sort ≠ rp.sort ∧ w.parent = p)) :
    ∃ μ' ro' S', m_lifted [.obj S.t, .int q] μ = some (.none, μ') ∧ RT μ' ro' S' ∧ Step μ ro μ' ro' ∧ S'.t = S.t ∧ S'.last = S.last ∧ S'.root = (if p = 0 then n else S.root) ∧
      ∀ m, cs S' m = if m = q then none else if m = n then some (rn.core.setParent p) else if m = p ∧ p ≠ 0 then (cs S m).map fun k => (k.setKids (k.kids.map fun x => if x = q then n else x)) else cs S m := by
  refine byc fun hG => ?_
  generalize hρ : bindv [("tree" : Str), ("number" : Str)] [.obj S.t, .int q] = ρ0
  have a1 : ρ0 "tree" = some (.obj S.t) := lk hρ (by kernel_rfl)
  have a2 : ρ0 "number" = some (.int q) := lk hρ (by kernel_rfl)
  have e1 := h_at (et := eName "tree") (en := eName "number") R hq (name_of a1) (name_of a2)
  generalize hρ1 : put ρ0 "here" (.obj rq.o) = ρ1
  have b1 : ρ1 "here" = some (.obj rq.o) := lk hρ1 (by kernel_rfl)
  have gk := R.kd _ _ hq
  have e2 := t_nei (j := 1) (len_at (h_fld (x := "children") R hq (name_of b1) (fun fs wf => wf.children)) gk (by rw [List.length_map, hk]; simp))
  rw [List.length_map, hk, show ((([n] : List Int).length : Int) != 1) = false by simp] at e2
  have gk' := gk
  rw [hk] at gk'
  have e3 := sub_list (ei := eInt 0) (h_fld (x := "children") R hq (name_of (μ := μ) b1) (fun fs wf => wf.children)) rfl gk' (by decide) (v := .int n) rfl
  generalize hρ2 : put ρ1 "left" (.int n) = ρ2
  have c1 : ρ2 "here" = some (.obj rq.o) := lk2 hρ2 (by kernel_rfl) b1
  have c2 : ρ2 "tree" = some (.obj S.t) := lk2 hρ2 (by kernel_rfl) (lk2 hρ1 (by kernel_rfl) a1)
  have c3 : ρ2 "number" = some (.int q) := lk2 hρ2 (by kernel_rfl) (lk2 hρ1 (by kernel_rfl) a2)
  have c4 : ρ2 "left" = some (.int n) := lk hρ2 (by kernel_rfl)
  -- the child takes its parent's place
  have step : ∃ μ3 S3, m_replace_child [.obj S.t, .int q, .int n] μ = some (.none, μ3) ∧ RT μ3 ro S3 ∧ Step μ ro μ3 ro ∧ S3.t = S.t ∧ S3.last = S.last ∧ S3.root = (if p = 0 then n else S.root) ∧ S3.ws q = some rq ∧ S3.ws n = some (rn.setParent p) ∧
      (∀ m, m ≠ q → m ≠ n → m ≠ p → S3.ws m = S.ws m) ∧ (p ≠ 0 → ∃ rp A B, S.ws p = some rp ∧ rp.kids = A ++ q :: B ∧ q ∉ A ∧ q ∉ B ∧ S3.ws p = some (rp.setKids (A ++ n :: B))) ∧ (p = 0 → p ≠ n → p ≠ q → S3.ws p = S.ws p) := by
    rcases hpar with h0 | ⟨h0, hpn, hpq, rp, A, B, hrp, hkp, hA, hB, hl, _, _⟩
    · obtain ⟨μ3, g1, g2, g3⟩ := h_replace0 R hq (hp.trans h0) hn
      exact ⟨μ3, _, g1, g2, g3, rfl, rfl, by rw [if_pos h0], by show (S.upd n _).ws q = _; rw [upd_ne _ _ hqn]; exact hq, by rw [h0]; exact upd_self _ _ _, fun m h1 h2 h3 => upd_ne _ _ h2, fun h => absurd h0 h, fun _ h1 _ => upd_ne _ _ h1⟩
    · obtain ⟨μ3, g1, g2, g3⟩ := h_replace1 R hq hp h0 hn hpn hrp hkp hA (by exact om126 hl)
      exact ⟨μ3, _, g1, g2, g3, rfl, rfl, by rw [if_neg h0]; rfl, by rw [upd_ne _ _ (Ne.symm hpq), upd_ne _ _ hqn]; exact hq, by rw [upd_ne _ _ (Ne.symm hpn), upd_self], fun m h1 h2 h3 => by rw [upd_ne _ _ h3, upd_ne _ _ h2], fun _ => ⟨rp, A, B, hrp, hkp, hA, hB, upd_self _ _ _⟩, fun h => absurd h h0⟩
  obtain ⟨μ3, S3, g1, R3, s3, k1, k2, k3, k4, k5, k6, k7, k8⟩ := step
  have e4 := call_at (l_cons (name_of (μ := μ) c2) (l_cons (name_of c3) (l_cons (name_of c4) l_nil))) g1
  -- its children are none
  have e5 : eList lNil ρ2 μ3 = some (.obj μ3.n, μ3.new (.list (([] : List Int).map .int))) := by simp [eName, eInt, eNone, eBool, bind2_some, bind2, eAttr, eIf, tCmp, eCmp, tNot, tAnd, tOr, tVal, cv_eq, cv_ne, cv_lt, cv_le, cv_gt, cv_is, isN_none, isN_int, isN_obj, eBin, iBin, eMeth, lCons, lNil, eCall, eSub, eBM, eList, eTup, eDict0, mLen, mList, mDict, mGet, mIndex, mAppend, mExtend, mPop, mDPop, mInsert, mRemove, isList, isDict, bindv_cons, bindv_nil, put_at, ofString_inj, Option.map_some, List.length_cons, List.length_nil]
  have M4 := Made.start R3 (.list (([] : List Int).map .int))
  obtain ⟨fs4, hg4, wf4⟩ := M4.R.wn _ _ k4
  have st4 := s3.trans M4.st
  obtain ⟨ro5, R5, s5⟩ := M4.R.adopt (μ0 := μ) (ro0 := ro) st4 k4 M4.r (Nat.le_trans s3.le M4.l.1) M4.l.2 M4.g hg4
  have e6 := at_set (mo := eName "here") (x := "children") (v := .obj μ3.n) (name_of (μ := μ3.new (.list (([] : List Int).map .int))) c1) hg4 wf4.len
  generalize hM5 : (μ3.new (.list (([] : List Int).map .int))).set rq.o (.inst 93 (fput "children" (.obj μ3.n) fs4)) = μ5 at *
  -- it goes
  obtain ⟨μ6, g6, R6, s6⟩ := h_dpop (et := eName "tree") (e1 := eName "number") R5 (upd_self _ _ _) ((name_of c2).trans (by rw [← k1]; rfl)) (name_of c3)
  have hS6n : ((S3.upd q (rq.setCK μ3.n ([]))).drop q).ws n = some (rn.setParent p) := by
    show (if n = q then none else (S3.upd q _).ws n) = _
    rw [if_neg (Ne.symm hqn), upd_ne _ _ (Ne.symm hqn)]; exact k5
  have ht6 : ((S3.upd q (rq.setCK μ3.n ([]))).drop q).t = S.t := k1
  have hoth : ∀ m, m ≠ q → ((S3.upd q (rq.setCK μ3.n ([]))).drop q).ws m = S3.ws m := fun m h => by
    show (if m = q then none else (S3.upd q _).ws m) = _
    rw [if_neg h, upd_ne _ _ h]
  have hself : ((S3.upd q (rq.setCK μ3.n ([]))).drop q).ws q = none := by
    show (if q = q then none else _) = _
    rw [if_pos rfl]
  have hl6 : ((S3.upd q (rq.setCK μ3.n ([]))).drop q).last = S.last := k2
  have hr6 : ((S3.upd q (rq.setCK μ3.n ([]))).drop q).root = (if p = 0 then n else S.root) := k3
  generalize (S3.upd q (rq.setCK μ3.n ([]))).drop q = S6 at *
  have e7 := h_fld (x := "parent") R6 hS6n (h_at (et := eName "tree") (en := eName "left") R6 hS6n ((name_of c2).trans (by rw [ht6])) (name_of c4)) (fun fs wf => wf.parent)
  have e8 := t_nei (j := 0) e7
  have hfin : ∀ m, cs S6 m = if m = q then none else if m = n then some (rn.core.setParent p) else if m = p ∧ p ≠ 0 then (cs S m).map fun k => (k.setKids (k.kids.map fun x => if x = q then n else x)) else cs S m := fun m => by
    by_cases h1 : m = q
    · rw [if_pos h1, h1]; unfold cs; rw [hself]; rfl
    · rw [if_neg h1]
      by_cases h2 : m = n
      · rw [if_pos h2, h2, cs_of hS6n]; rfl
      · rw [if_neg h2]
        by_cases h3 : m = p
        · by_cases h0 : p = 0
          · rw [if_neg (fun q => q.2 h0)]
            unfold cs
            rw [hoth m h1, h3, k8 h0 (by rw [← h3]; exact h2) (by rw [← h3]; exact h1)]
          · rw [if_pos ⟨h3, h0⟩]
            obtain ⟨rp, A, B, x1, x2, x3, x4, x5⟩ := k7 h0
            rw [h3, cs_of x1, cs_of (by rw [hoth p (by rw [← h3]; exact h1)]; exact x5)]
            have : rp.core.kids.map (fun x => if x = q then n else x) = A ++ n :: B := by
              show rp.kids.map _ = _
              rw [x2]; exact map_mid x3 x4
            simp only [Option.map_some]
            rw [this]; rfl
        · rw [if_neg (fun q => h3 q.1)]
          unfold cs
          rw [hoth m h1, k6 m h1 h2 h3]
  have st6 := s5.trans s6
  by_cases h0 : p = 0
  · have e8' : tCmp .NotEq (eAttr (eSub (eAttr (eName "tree") 164 "windows") (eName "left")) 93 "parent") (eInt 0) ρ2 μ6 = some (false, μ6) := by rw [e8, h0]; rfl
    refine hG ⟨μ6, ro5, S6, ?_, R6, st6, ht6, hl6, hr6, hfin⟩
    exact run_nextH hρ rfl ((seq_next (st_nm e1 hρ1)).trans ((seq_next ((if_f e2).trans rfl)).trans ((seq_next (st_nm e3 hρ2)).trans ((seq_next (st_expr e4)).trans ((seq_next (st_assign e5 e6)).trans ((seq_next (st_expr g6)).trans ((seq_next ((if_f e8').trans rfl)).trans rfl)))))))
  · rcases hpar with h | ⟨_, hpn, hpq, rp, A, B, hrp, hkp, hA, hB, hl, hsr, hks⟩
    · exact absurd h h0
    obtain ⟨rp', A', B', x1, x2, x3, x4, x5⟩ := k7 h0
    rw [hrp] at x1
    cases x1
    have hAB : A' ++ n :: B' = A ++ n :: B := by
      rw [← map_mid x3 x4 (y := n), ← x2, hkp, map_mid hA hB]
    rw [hAB] at x5
    have hp6 : S6.ws p = some (rp.setKids (A ++ n :: B)) := by rw [hoth p hpq]; exact x5
    have e8' : tCmp .NotEq (eAttr (eSub (eAttr (eName "tree") 164 "windows") (eName "left")) 93 "parent") (eInt 0) ρ2 μ6 = some (true, μ6) := by
      rw [e8]; simp [h0, WinR.setParent]
    obtain ⟨μ7, ro7, c7, f7, R7, s7⟩ := h_joined (r := (rp.setKids (A ++ n :: B))) R6 hp6 (by
      show (A ++ n :: B).length ≤ 150
      have : rp.kids.length = (A ++ n :: B).length := by rw [hkp]; simp
      exact om127 this hl) (fun k hk => by
      have hk' : k = n ∨ k ∈ A ++ B := by
        have hk2 : k ∈ A ++ n :: B := hk
        rcases List.mem_append.mp hk2 with h | h
        · exact .inr (List.mem_append_left _ h)
        · rcases List.mem_cons.mp h with h | h
          · exact .inl h
          · exact .inr (List.mem_append_right _ h)
      rcases hk' with rfl | hk'
      · exact ⟨_, hS6n, hsr, rfl⟩
      · obtain ⟨y1, y2, y3, w, w1, w2, w3⟩ := hks k hk'
        exact ⟨w, by rw [hoth k y2, k6 k y2 y1 y3]; exact w1, w2, w3⟩)
    have e9 := call_at (l_cons (name_of (μ := μ6) c2) (l_cons e7 l_nil)) (by rw [← ht6]; exact f7)
    refine hG ⟨μ7, ro7, S6.upd p (rp.setCK c7 (A ++ n :: B)), ?_, R7, st6.trans s7, ht6, hl6, hr6, fun m => ?_⟩
    · exact run_nextH hρ rfl ((seq_next (st_nm e1 hρ1)).trans ((seq_next ((if_f e2).trans rfl)).trans ((seq_next (st_nm e3 hρ2)).trans ((seq_next (st_expr e4)).trans ((seq_next (st_assign e5 e6)).trans ((seq_next (st_expr g6)).trans ((seq_next ((if_t e8').trans ((seq_next (st_expr e9)).trans rfl))).trans rfl)))))))
    · rw [cs_upd, ← hfin m]
      split
      · rename_i h
        rw [h, cs_of hp6]; rfl
      · rfl
end
end Mine
end
section
set_option maxRecDepth 10000
open PySem PySem.W PySem.Calls PyProof.Rows
namespace Mine
structure Inv (μ : Mem) (ro : Nat → Option Role) (S : Store) (T : WT) : Prop where
  R : RT μ ro S
  sh : ShC (cs S) 0 T
  at_ : At S.ws 0 0 T
  root : S.root = T.num
  nd : T.nums.Nodup
  rng : ∀ m ∈ T.nums, 0 < m ∧ m ≤ S.last
  sz : T.size ≤ 130
  z : cs S 0 = none
  l1 : 1 ≤ S.last
theorem nums_sub : ∀ ks : List WT, (ks.map WT.num).Sublist (WT.numsL ks)
  | [] => .refl _
  | k :: r => by
    rw [List.map_cons, WT.numsL]
    have h1 : [k.num].Sublist k.nums := by
      cases k
      · exact .refl _
      · rw [WT.nums]; exact .cons₂ _ (List.nil_sublist _)
    exact h1.append (nums_sub r)
structure Par (c : CF) (T : WT) (n : Int) (kn kp : Core) (A B : List Int) : Prop where
  p0 : kn.parent ≠ 0
  pT : kn.parent ∈ T.nums
  pn : kn.parent ≠ n
  cp : c kn.parent = some kp
  ps : kp.sort ≠ 0
  ks : kp.kids = A ++ n :: B
  nA : n ∉ A
  nB : n ∉ B
  ne : A ++ B ≠ []
  len : kp.kids.length ≤ T.size
  oth : ∀ k ∈ A ++ B, k ≠ n ∧ k ≠ kn.parent ∧ k ∈ T.nums ∧ ∃ w, c k = some w ∧ w.sort ≠ kp.sort ∧ w.parent = kn.parent
theorem par_data {c : CF} {T : WT} {n : Int} {kn : Core} (sh : ShC c 0 T) (nd : T.nums.Nodup) (h0 : ∀ m ∈ T.nums, m ≠ 0) (hm : n ∈ T.leaves) (hn : c n = some kn) : kn.sort = 0 ∧ kn.kids = [] ∧ ((kn.parent = 0 ∧ T.num = n) ∨ ∃ kp A B, Par c T n kn kp A B) := by
  obtain ⟨k, h1, hs, hk⟩ := shC_leaf sh hm
  rw [hn] at h1
  cases h1
  refine ⟨hs, hk, ?_⟩
  cases hl : isLf n T with
  | true =>
    obtain ⟨k, h1, _, h3, _⟩ := shC_at sh
    rw [isLf_num hl, hn] at h1
    cases h1
    exact .inl ⟨h3, isLf_num hl⟩
  | false =>
    right
    obtain ⟨row, ks, w, h, s, pp, e1, e2, e3, e4, ⟨k, hk1, hk2⟩, e6, e7, e8⟩ := shC_par hn hs sh hm hl
    have nd2 := nd.sublist e8
    rw [List.nodup_cons] at nd2
    have nd3 := nd2.2.sublist (nums_sub ks)
    have hmem : n ∈ ks.map WT.num := by rw [← isLf_num hk2]; exact List.mem_map_of_mem hk1
    have nd4 : ((ks.map WT.num).map fun x => x).Nodup := by rw [id_key]; exact nd3
    obtain ⟨A, e, B, g1, g2, g3, g4⟩ := mid_of (key := fun x : Int => x) nd4 (by rw [id_key]; exact hmem)
    have g2' : e = n := g2
    subst g2'
    refine ⟨_, A, B, ⟨h0 _ e6, e6, fun q => ?_, e1, rowSort_pos row, g1, fun q => g3 _ q rfl, fun q => g4 _ q rfl, fun q => ?_, ?_, fun k hk => ?_⟩⟩
    · rw [q, hn] at e1
      rw [Option.some.inj e1] at hs
      exact rowSort_pos row hs
    · have := congrArg List.length g1
      rw [List.length_map, List.length_append, List.length_cons] at this
      have h2 := congrArg List.length q
      rw [List.length_append, List.length_nil] at h2
      exact om128 e4 this h2
    · show (ks.map WT.num).length ≤ _
      rw [size_nums]
      have h2 := (nums_sub ks).length_le
      have h3 := e8.length_le
      rw [List.length_cons] at h3
      exact om129 h3 h2
    · have hk' : k ∈ ks.map WT.num := by
        rw [g1]
        rcases List.mem_append.mp hk with h | h
        · exact List.mem_append_left _ h
        · exact List.mem_append_right _ (.tail _ h)
      refine ⟨?_, fun q => nd2.1 (by rw [← q]; exact (nums_sub ks).subset hk'), e7 _ ((nums_sub ks).subset hk'), ?_⟩
      · rcases List.mem_append.mp hk with h | h
        · exact g3 _ h
        · exact g4 _ h
      · obtain ⟨x, hx, rfl⟩ := List.mem_map.mp hk'
        obtain ⟨w, w1, w2, w3, _⟩ := shC_at (shCL_mem e2 hx)
        exact ⟨w, w1, by rw [w2]; exact e3 x hx, w3⟩
structure SplitA (S S' : Store) (T : WT) (n f q : Int) (kn : Core) (ax old new : Int) (ahead : Bool) (kq : Core) (X Y : List Int) : Prop where
  hq : q = kn.parent
  hf : f = S.last + 1
  root : S'.root = S.root
  last : S'.last = S.last + 1
  P : Par (cs S) T n kn kq X Y
  along : alongOf kq.sort = ax
  c : ∀ m, cs S' m = if m = f then some (kn.sized ax new) else if m = n then some (kn.sized ax old) else if m = q then some (kq.setKids (X ++ pairOf ahead n f ++ Y)) else cs S m
structure SplitB (S S' : Store) (T : WT) (n f q : Int) (kn : Core) (ax old new : Int) (ahead : Bool) : Prop where
  hq : q = S.last + 1
  hf : f = S.last + 2
  root : S'.root = if kn.parent = 0 then q else S.root
  last : S'.last = S.last + 2
  P : (kn.parent = 0 ∧ T.num = n) ∨ ∃ kp A B, Par (cs S) T n kn kp A B
  along : ∀ k, cs S kn.parent = some k → alongOf k.sort ≠ ax
  c : ∀ m, cs S' m = if m = f then some ((kn.setParent q).sized ax new) else if m = n then some ((kn.setParent q).sized ax old) else if m = q then some ⟨sortOf ax, kn.parent, kn.width, kn.height, pairOf ahead n f, (0, 1, 1, 0)⟩ else if m = kn.parent ∧ kn.parent ≠ 0 then (cs S m).map fun k => (k.setKids (k.kids.map fun x => if x = n then q else x)) else cs S m
section
variable {μ μ0 μ1 μ' : Mem} {ro ro0 ro' : Nat → Option Role} {S S' : Store} {n : Int} {r : WinR} {ρ : Loc} {T : WT}
theorem Inv.sh' (I : Inv μ ro S T) : Sh S.ws 0 T := shC_iff.mpr I.sh
theorem split_end {f : Int} {rf : WinR} (R : RT μ ro S) (sh : ShC (cs S) 0 T) (nd : T.nums.Nodup) (root : S.root = T.num) (sz : T.size ≤ 150) (a1 : ρ "tree" = some (.obj S.t)) (a2 : ρ "found" = some (.obj rf.o)) (hf : S.ws f = some rf) :
    ∃ μ' ws', (sSeq (sExpr (eCall (lCons (eName "tree") lNil) m_set_places))
  (sSeq (sRet (eAttr (eName "found") 93 "number"))
  sNil)) ρ μ = some (.ret (.int f), ρ, μ') ∧ RT μ' ro { S with ws := ws' } ∧ Step μ ro μ' ro ∧ Pos S.ws ws' ∧ At ws' 0 0 T := by
  obtain ⟨μ', ws', h1, R1, s1, P, A⟩ := h_set_places R (shC_iff.mpr sh) sz nd root
  obtain ⟨l, t, hf'⟩ := P.2 _ _ hf
  have e1 := call_at (l_cons (name_of (μ := μ) a1) l_nil) h1
  have e2 := h_fld (x := "number") R1 hf' (name_of (μ := μ') a2) (fun fs wf => wf.number)
  exact ⟨μ', ws', (seq_next (st_expr e1)).trans (seq_ret (st_ret e2)), R1, s1, P, A⟩
theorem h_split (I : Inv μ ro S T) (hm : n ∈ T.leaves) {kn : Core} (hn : cs S n = some kn) {ax : Int} (hax : ax = 0 ∨ ax = 1) (sz : Option Int) (ahead : Bool) (h9 : S.last + 2 ≤ 900) (hsz : T.size ≤ 128)
    {old new : Int} (ho : old = kn.sz ax - newOf (kn.sz ax) sz) (hnw : new = newOf (kn.sz ax) sz) (hok : ¬ (old < leastOf ax ∨ new < leastOf ax)) :
    ∃ μ' ro' S' T' f q, m_split [.obj S.t, .int n, vsz sz, .int ax, .bool ahead] μ = some (.int f, μ') ∧ Inv μ' ro' S' T' ∧ Step μ ro μ' ro' ∧ S'.t = S.t ∧ T'.size ≤ T.size + 2 ∧ S'.last ≤ S.last + 2 ∧ Grown (cs S') T T' n f q kn ax old new ahead ∧
      ((∃ kq X Y, SplitA S S' T n f q kn ax old new ahead kq X Y) ∨ SplitB S S' T n f q kn ax old new ahead) := by
  refine byc fun hG => ?_
  obtain ⟨r, hr, hcore⟩ := cs_some hn
  have h0 : ∀ m ∈ T.nums, m ≠ 0 := fun m h e => by have := (I.rng m h).1; exact om130 this e
  obtain ⟨hs, hk, hP⟩ := par_data I.sh I.nd h0 hm hn
  have hrs : r.sort = 0 := by rw [← hs, ← hcore]; rfl
  have hrk : r.kids = [] := by rw [← hk, ← hcore]; rfl
  have hrp : r.parent = kn.parent := by rw [← hcore]; rfl
  have hnT : n ∈ T.nums := (leaves_sub T).subset hm
  have hnl := (I.rng n hnT).2
  have hl1 := I.l1
  have hon : old + new = kn.sz ax := by exact om131 ho hnw
  obtain ⟨μ1, ρ1, f1, R1, s1⟩ := h_split_parts I.R hr hrs hrk ax sz
  have ho2 : kn.sz ax - new = old := by exact om132 ho hnw
  rw [hcore, ← hnw, ho2, if_neg hok] at f1
  have f1' : m_split_parts [.obj S.t, .int n, vsz sz, .int ax] μ = some (.tup [.int old, .int new], μ1) := run_ret rfl f1
  generalize hρ : bindv [("tree" : Str), ("number" : Str), ("size" : Str), ("axis" : Str), ("is_ahead" : Str)] [.obj S.t, .int n, vsz sz, .int ax, .bool ahead] = ρ0
  have a1 : ρ0 "tree" = some (.obj S.t) := lk hρ (by kernel_rfl)
  have a2 : ρ0 "number" = some (.int n) := lk hρ (by kernel_rfl)
  have a3 : ρ0 "size" = some (vsz sz) := lk hρ (by kernel_rfl)
  have a4 : ρ0 "axis" = some (.int ax) := lk hρ (by kernel_rfl)
  have a5 : ρ0 "is_ahead" = some (.bool ahead) := lk hρ (by kernel_rfl)
  have e1 := call_at (l_cons (name_of (μ := μ) a1) (l_cons (name_of a2) (l_cons (name_of a3) (l_cons (name_of a4) l_nil)))) f1'
  generalize hρ1 : put (put ρ0 "old" (.int old)) "new" (.int new) = ρ2
  have b1 : ρ2 "tree" = some (.obj S.t) := lk2 hρ1 (by kernel_rfl) a1
  have b2 : ρ2 "number" = some (.int n) := lk2 hρ1 (by kernel_rfl) a2
  have b4 : ρ2 "axis" = some (.int ax) := lk2 hρ1 (by kernel_rfl) a4
  have b5 : ρ2 "is_ahead" = some (.bool ahead) := lk2 hρ1 (by kernel_rfl) a5
  have b6 : ρ2 "old" = some (.int old) := lk hρ1 (by kernel_rfl)
  have b7 : ρ2 "new" = some (.int new) := lk hρ1 (by kernel_rfl)
  have e2 : sAssign (eCall (lCons (eName "tree") (lCons (eName "number") (lCons (eName "size") (lCons (eName "axis") lNil)))) m_split_parts) (aTup (asCons (aName "old") (asCons (aName "new") asNil))) ρ0 μ = some (.next, ρ2, μ1) := by
    rw [← hρ1]
    exact st_assign e1 (tup_at.trans (name_at.trans (name_at.trans nil_at)))
  -- what the steps past the parent give
  have mid : ∀ (q : Int) (S1 : Store) (ro1 : Nat → Option Role) (μ2 : Mem) (r1 rq : WinR) (X Y : List Int), RT μ2 ro1 S1 → Step μ ro μ2 ro1 → S1.t = S.t → m_combined [.obj S.t, .int n, .int ax] μ1 = some (.int q, μ2) → S1.ws n = some r1 → r1.core = (kn.setParent q) → S1.ws q = some rq → rq.sort ≠ 0 → q ≠ n → rq.kids = X ++ n :: Y → n ∉ X → n ∉ Y → rq.kids.length ≤ 140 →
      (∀ k ∈ X ++ Y, k ≠ n ∧ k ≠ q ∧ ∃ w, cs S1 k = some w ∧ w.sort ≠ rq.sort ∧ w.parent = q) → S1.last + 1 ≤ 900 → n ≤ S1.last → q ≤ S1.last → S.last ≤ S1.last → cs S1 0 = none → 0 < q →
      ∃ S2 : Store, S2.t = S.t ∧ S2.last = S1.last + 1 ∧ S2.root = S1.root ∧ (∀ m, cs S2 m = if m = S1.last + 1 then some (((kn.setParent q) : Core).sized ax new) else if m = n then some (((kn.setParent q) : Core).sized ax old) else if m = q then some (rq.core.setKids (X ++ pairOf ahead n (S1.last + 1) ++ Y)) else cs S1 m) ∧
        ∀ T', ShC (cs S2) 0 T' → T'.nums.Nodup → S1.root = T'.num → (∀ m ∈ T'.nums, m ∈ T.nums ∨ m = S1.last + 1 ∨ m = q) → T'.size ≤ T.size + 2 →
          ∃ μ' ro' ws', m_split [.obj S.t, .int n, vsz sz, .int ax, .bool ahead] μ = some (.int (S1.last + 1), μ') ∧ Inv μ' ro' { S2 with ws := ws' } T' ∧ Step μ ro μ' ro' ∧ Pos S2.ws ws' := by
    intro q S1 ro1 μ2 r1 rq X Y R2 st2 t1 fc hn1 hc1 hq1 hqs hqn hkids hX hY hlen hoth hl9 hnl1 hql hle hz hq0
    refine byc fun hG2 => ?_
    have g2 : r1.sort = 0 := by have := congrArg Core.sort hc1; exact this.trans hs
    have g3 : r1.kids = [] := by have := congrArg Core.kids hc1; exact this.trans hk
    have g4 : r1.parent = q := congrArg Core.parent hc1
    have e3 := call_at (l_cons (name_of (μ := μ1) b1) (l_cons (name_of b2) (l_cons (name_of b4) l_nil))) fc
    generalize hρ3 : put ρ2 "parent" (.int q) = ρ3
    have c1 : ρ3 "tree" = some (.obj S1.t) := by rw [t1, ← hρ3]; simp [eName, eInt, eNone, eBool, bind2_some, bind2, eAttr, eIf, tCmp, eCmp, tNot, tAnd, tOr, tVal, cv_eq, cv_ne, cv_lt, cv_le, cv_gt, cv_is, isN_none, isN_int, isN_obj, eBin, iBin, eMeth, lCons, lNil, eCall, eSub, eBM, eList, eTup, eDict0, mLen, mList, mDict, mGet, mIndex, mAppend, mExtend, mPop, mDPop, mInsert, mRemove, isList, isDict, bindv_cons, bindv_nil, put_at, ofString_inj, Option.map_some, List.length_cons, List.length_nil, b1]
    have c2 : ρ3 "number" = some (.int n) := lk2 hρ3 (by kernel_rfl) b2
    have c3 : ρ3 "axis" = some (.int ax) := lk2 hρ3 (by kernel_rfl) b4
    have c4 : ρ3 "is_ahead" = some (.bool ahead) := lk2 hρ3 (by kernel_rfl) b5
    have c5 : ρ3 "old" = some (.int old) := lk2 hρ3 (by kernel_rfl) b6
    have c6 : ρ3 "new" = some (.int new) := lk2 hρ3 (by kernel_rfl) b7
    have c7 : ρ3 "parent" = some (.int q) := lk hρ3 (by kernel_rfl)
    obtain ⟨ρ', μ3, ro3, S2, rf, hmid, d1, d2, R3, s3, k1, k2, k3, k4, k5⟩ := split_mid (old := old) (new := new) R2 hn1 g2 g3 hq1 hqs g4 hqn hkids hX hlen
      (fun k hk => by
        obtain ⟨x1, x2, w, w1, w2, w3⟩ := hoth k hk
        obtain ⟨rw', v1, v2⟩ := cs_some w1
        exact ⟨x1, rw', v1, by have := congrArg Core.sort v2; rw [← this] at w2; exact w2, by have := congrArg Core.parent v2; rw [← this] at w3; exact w3⟩)
      hl9 hnl1 hql (fun k hk => (hoth k hk).2.1) ax hax ahead c1 c2 c3 c4 c5 c6 c7
    rw [hc1] at k5
    refine hG2 ⟨S2, k2.trans t1, k3, k4, k5, fun T' sh nd root sub hsz' => ?_⟩
    clear hG2 hG
    obtain ⟨μ4, ws', h4, R4, s4, P4, A4⟩ := split_end (ρ := ρ') R3 sh nd (k4.trans root) (by exact om133 hsz hsz') (by rw [k2]; exact d1) d2 k1
    refine ⟨μ4, ro3, ws', ?_, ⟨R4, ?_, A4, k4.trans root, nd, fun m hm => ?_, by exact om134 hsz hsz', ?_, ?_⟩, (st2.trans s3).trans s4, P4⟩
    · refine run_ret (b := b_split) (ρ1 := ρ') rfl ?_
      rw [hρ]
      refine (seq_next e2).trans ((seq_next (st_name e3)).trans ?_)
      rw [hρ3]
      exact hmid.trans h4
    · have : cs { S2 with ws := ws' } = cs S2 := funext (cs_pos P4)
      rw [this]; exact sh
    · show 0 < m ∧ m ≤ S2.last
      rw [k3]
      rcases sub m hm with h | h | h
      · have := I.rng m h; exact om135 this.1 this.2 hle
      · exact om136 hq0 hql h
      · exact om137 hq0 hql h
    · rw [cs_pos P4, k5 0, if_neg (by exact om138 hq0 hql), if_neg (fun e => h0 n hnT e.symm), if_neg (by exact om139 hq0)]; exact hz
    · show 1 ≤ S2.last
      rw [k3]; exact om140 hq0 hql
  by_cases hA : ∃ kp A B, Par (cs S) T n kn kp A B ∧ alongOf kp.sort = ax
  · obtain ⟨kp, A, B, P, ha⟩ := hA
    obtain ⟨rp, hrp1, hrpc⟩ := cs_some P.cp
    have hrps : rp.sort = kp.sort := congrArg Core.sort hrpc
    have hrpk : rp.kids = kp.kids := congrArg Core.kids hrpc
    have fc := h_combinedA R1 hr hrp P.p0 hrp1 ax (by rw [hrps]; exact ha)
    have hpl := I.rng _ P.pT
    obtain ⟨S2, k1, k2, k3, k4, k5⟩ := mid kn.parent S ro μ1 r rp A B R1 s1 rfl fc hr hcore hrp1 (by rw [hrps]; exact P.ps) P.pn (hrpk.trans P.ks) P.nA P.nB (by rw [hrpk]; have := P.len; exact om141 hsz this)
      (fun k hk => by
        obtain ⟨x1, x2, _, w, w1, w2, w3⟩ := P.oth k hk
        exact ⟨x1, x2, w, w1, by rw [hrps]; exact w2, w3⟩) (by exact om142 h9) hnl hpl.2 (Int.le_refl _) I.z hpl.1
    have hc : ∀ m, cs S2 m = if m = S.last + 1 then some (kn.sized ax new) else if m = n then some (kn.sized ax old) else if m = kn.parent then some (kp.setKids (A ++ pairOf ahead n (S.last + 1) ++ B)) else cs S m := fun m => by
      rw [k4 m, hrpc]; rfl
    obtain ⟨T', G, hnum⟩ := grownA I.sh I.nd hm hn hs hk hax hon h0 (fun h => by have := (I.rng _ h).2; exact om143 this) rfl P.p0 P.cp ha P.ks P.nA P.nB hc
    obtain ⟨μ', ro', ws', g1, g2, g3, g4⟩ := k5 T' G.sh G.nd (by rw [hnum]; exact I.root) G.sub G.sz
    have he : cs { S2 with ws := ws' } = cs S2 := funext (cs_pos g4)
    refine hG ⟨μ', ro', { S2 with ws := ws' }, T', S.last + 1, kn.parent, g1, g2, g3, k1, G.sz, ?_, by rw [he]; exact G, .inl ⟨kp, A, B, rfl, rfl, k3, k2, P, ha, fun m => by rw [he]; exact hc m⟩⟩
    show S2.last ≤ _
    exact om144 k2
  · have hal : ∀ k, cs S kn.parent = some k → alongOf k.sort ≠ ax := fun k hk' e => by
      rcases hP with ⟨h, _⟩ | ⟨kp, A, B, P⟩
      · rw [h, I.z] at hk'; cases hk'
      · rw [P.cp] at hk'
        cases hk'
        exact hA ⟨_, A, B, P, e⟩
    have hpl : kn.parent ≤ S.last := by
      rcases hP with ⟨h, _⟩ | ⟨kp, A, B, P⟩
      · rw [h]; exact om145 hl1
      · exact (I.rng _ P.pT).2
    obtain ⟨μ2, ro1, S1, fc, R2, s2, t1, l1, r1', c1⟩ := h_combinedB R1 hr (by exact om142 h9) hnl (by rw [hrp]; exact hpl) ax (by
      rcases hP with ⟨h, _⟩ | ⟨kp, A, B, P⟩
      · exact .inl (hrp.trans h)
      · obtain ⟨rp, hrp1, hrpc⟩ := cs_some P.cp
        have hrps : rp.sort = kp.sort := congrArg Core.sort hrpc
        have hrpk : rp.kids = kp.kids := congrArg Core.kids hrpc
        refine .inr ⟨by rw [hrp]; exact P.p0, rp, A, B, by rw [hrp]; exact hrp1, by rw [hrps]; exact hal _ P.cp, hrpk.trans P.ks, P.nA, P.nB, by rw [hrpk]; have := P.len; exact om146 hsz this, by rw [hrp]; exact P.pn⟩)
    rw [hrp] at r1' c1
    have hrw : r.width = kn.width := by rw [← hcore]; rfl
    have hrh : r.height = kn.height := by rw [← hcore]; rfl
    rw [hcore, hrw, hrh] at c1
    have cn : cs S1 n = some (kn.setParent (S.last + 1)) := by rw [c1, if_neg (by exact om113 hnl), if_pos rfl]
    have cq : cs S1 (S.last + 1) = some ⟨sortOf ax, kn.parent, kn.width, kn.height, [n], (0, 1, 1, 0)⟩ := by rw [c1, if_pos rfl]
    obtain ⟨rn, hrn, hrnc⟩ := cs_some cn
    obtain ⟨rq, hrq, hrqc⟩ := cs_some cq
    have hrqs : rq.sort = sortOf ax := congrArg Core.sort hrqc
    have hrqk : rq.kids = [n] := congrArg Core.kids hrqc
    have hz1 : cs S1 0 = none := by
      rw [c1, if_neg (by exact om147 hl1), if_neg (fun e => h0 n hnT e.symm)]
      split
      · rename_i h; exact absurd h.1.symm h.2
      · exact I.z
    obtain ⟨S2, k1, k2, k3, k4, k5⟩ := mid (S.last + 1) S1 ro1 μ2 rn rq [] [] R2 (s1.trans s2) t1 fc hrn hrnc hrq (by rw [hrqs]; unfold sortOf; split <;> decide) (by exact om148 hnl) hrqk (fun h => nomatch h) (fun h => nomatch h) (by rw [hrqk]; simp) (fun k hk => nomatch hk) (by exact om149 h9 l1) (by exact om150 l1 hnl) (by exact om151 l1) (by exact om152 l1) hz1 (by exact om153 hl1)
    have hfl : S1.last + 1 = S.last + 2 := by exact om154 l1
    rw [hfl] at k4 k5
    have hc : ∀ m, cs S2 m = if m = S.last + 2 then some ((kn.setParent (S.last + 1)).sized ax new) else if m = n then some ((kn.setParent (S.last + 1)).sized ax old) else if m = S.last + 1 then some ⟨sortOf ax, kn.parent, kn.width, kn.height, pairOf ahead n (S.last + 2), (0, 1, 1, 0)⟩ else if m = kn.parent ∧ kn.parent ≠ 0 then (cs S m).map fun k => (k.setKids (k.kids.map fun x => if x = n then S.last + 1 else x)) else cs S m := fun m => by
      rw [k4 m, hrqc]
      by_cases h1 : m = S.last + 2
      · rw [if_pos h1, if_pos h1]
      · rw [if_neg h1, if_neg h1]
        by_cases h2 : m = n
        · rw [if_pos h2, if_pos h2]
        · rw [if_neg h2, if_neg h2]
          by_cases h3 : m = S.last + 1
          · rw [if_pos h3, if_pos h3]; simp [Core.setKids]
          · rw [if_neg h3, if_neg h3, c1, if_neg h3, if_neg h2]
    obtain ⟨T', G, hnum⟩ := grownB I.sh I.nd hm hn hs hk hax hon h0 I.z (fun h => by have := (I.rng _ h).2; exact om155 this) (fun h => by have := (I.rng _ h).2; exact om143 this) (by exact om156) (by exact om157 hl1) (by exact om158 hl1) hal hc
    obtain ⟨μ', ro', ws', g1, g2, g3, g4⟩ := k5 T' G.sh G.nd (by rw [hnum, r1']; split <;> first | rfl | exact I.root) G.sub G.sz
    have he : cs { S2 with ws := ws' } = cs S2 := funext (cs_pos g4)
    refine hG ⟨μ', ro', { S2 with ws := ws' }, T', S.last + 2, S.last + 1, g1, g2, g3, k1, G.sz, ?_, by rw [he]; exact G, .inr ⟨rfl, rfl, k3.trans r1', k2.trans hfl, hP, hal, fun m => by rw [he]; exact hc m⟩⟩
    show S2.last ≤ _
    exact om159 k2 l1
end
end Mine
end
section
set_option maxRecDepth 10000
open PySem PySem.W PySem.Calls PyProof.Rows
namespace Mine
theorem erase_mid {α : Type} : ∀ (A : List α) (x : α) (B : List α), (A ++ x :: B).eraseIdx A.length = A ++ B
  | [], _, _ => rfl
  | a :: r, x, B => by rw [List.cons_append, List.length_cons, List.eraseIdx_cons_succ, erase_mid r x B]; rfl
theorem sized_sized {k : Core} {ax a b : Int} (hab : a + b = k.sz ax) : (k.sized ax a).sized ax ((k.sized ax a).sz ax + (k.sized ax b).sz ax) = k := by
  unfold Core.sized Core.sz at *
  by_cases h : ax = 0
  · simp only [h, reduceIte] at *; rw [hab]
  · simp only [h, reduceIte] at *; rw [hab]
section
variable {μ μ0 μ1 μ' : Mem} {ro ro0 ro' : Nat → Option Role} {S S' : Store} {n : Int} {r : WinR} {ρ : Loc} {T : WT}
theorem remove_at {eo e1 : EM} {k : Nat} {A B : List Int} {x : Int} (ho : eo ρ μ = some (.obj k, μ)) (hg : μ.get k = some (.list ((A ++ x :: B).map .int))) (hl : (A ++ x :: B).length ≤ 1000) (h1 : e1 ρ μ = some (.int x, μ)) (hA : x ∉ A) :
    eBM eo isList (lCons e1 lNil) mRemove ρ μ = some (.none, μ.set k (.list ((A ++ B).map .int))) := by
  have hc : ((A ++ x :: B).map V.int).length ≤ 1000 := by rw [List.length_map]; exact hl
  simp only [eBM, ho, bind2_some, isList_of hg, reduceIte, lNil, lCons, h1, mRemove, hg, if_pos hc, intsOf_map, findIdx_mid hA, Option.map_some]
  have : ((A ++ x :: B).map V.int).eraseIdx A.length = (A ++ B).map V.int := by
    have h2 := erase_mid (A.map V.int) (V.int x) (B.map V.int)
    rw [List.length_map] at h2
    simp only [List.map_append, List.map_cons]
    exact h2
  rw [this]
noncomputable abbrev delTail : SM := (sSeq (sExpr (eCall (lCons (eName "tree") (lCons (eAttr (eName "parent") 93 "number") lNil)) m_lifted))
  (sSeq (sExpr (eCall (lCons (eName "tree") lNil) m_set_places))
  (sSeq (sIf (tVal (eName "is_gone")) sBad sNil)
  sNil)))
theorem del_mid {f q ax : Int} {rf rq rn : WinR} {A B : List Int} (R : RT μ ro S) (hf : S.ws f = some rf) (hfp : rf.parent = q) (hfs : rf.sort = 0) (hfk : rf.kids = []) (hf1 : f ≠ 1) (hq : S.ws q = some rq) (hq0 : q ≠ 0) (ha : alongOf rq.sort = ax) (hk : rq.kids = A ++ f :: B) (hA : f ∉ A) (hl : rq.kids.length ≤ 140)
    (hn : S.ws n = some rn) (hns : rn.sort = 0) (hqn : q ≠ n) (hqf : q ≠ f) (hnf : n ≠ f) (hoth : (∃ A', A = A' ++ [n]) ∨ (A = [] ∧ ∃ B', B = n :: B')) :
    ∃ ρ' μ' S', b_delete_window (bindv [("tree" : Str), ("number" : Str)] [.obj S.t, .int f]) μ = delTail ρ' μ' ∧ ρ' "tree" = some (.obj S.t) ∧ ρ' "parent" = some (.obj rq.o) ∧ ρ' "is_gone" = some (.bool false) ∧ RT μ' ro S' ∧ Step μ ro μ' ro ∧ S'.t = S.t ∧ S'.last = S.last ∧ S'.root = S.root ∧
      S'.ws q = some (rq.setKids (A ++ B)) ∧ ∀ m, cs S' m = if m = n then some (rn.core.sized ax (rn.core.sz ax + rf.core.sz ax)) else if m = f then none else if m = q then some (rq.core.setKids (A ++ B)) else cs S m := by
  refine byc fun hG => ?_
  generalize hρ : bindv [("tree" : Str), ("number" : Str)] [.obj S.t, .int f] = ρ0
  have a1 : ρ0 "tree" = some (.obj S.t) := lk hρ (by kernel_rfl)
  have a2 : ρ0 "number" = some (.int f) := lk hρ (by kernel_rfl)
  have e1 := h_tmeth (x := "window") R (name_of a1) (fun fs tf => tf.m2) (l_cons (name_of a2) l_nil) (h_window R hf)
  generalize hρ1 : put ρ0 "here" (.obj rf.o) = ρ1
  have b1 : ρ1 "here" = some (.obj rf.o) := lk hρ1 (by kernel_rfl)
  have b2 : ρ1 "tree" = some (.obj S.t) := lk2 hρ1 (by kernel_rfl) a1
  have b3 : ρ1 "number" = some (.int f) := lk2 hρ1 (by kernel_rfl) a2
  have e2 := h_fld (x := "parent") R hf (name_of b1) (fun fs wf => wf.parent)
  rw [hfp] at e2
  have e3 := t_eqi (j := 0) e2
  rw [show (q == 0) = false from beq_eq_false_iff_ne.mpr hq0] at e3
  have e4 := h_at (et := eName "tree") R hq (name_of b2) e2
  generalize hρ2 : put ρ1 "parent" (.obj rq.o) = ρ2
  have c1 : ρ2 "here" = some (.obj rf.o) := lk2 hρ2 (by kernel_rfl) b1
  have c2 : ρ2 "tree" = some (.obj S.t) := lk2 hρ2 (by kernel_rfl) b2
  have c3 : ρ2 "number" = some (.int f) := lk2 hρ2 (by kernel_rfl) b3
  have c4 : ρ2 "parent" = some (.obj rq.o) := lk hρ2 (by kernel_rfl)
  have gk := R.kd _ _ hq
  have e5 := call_at (l_cons (h_fld (x := "sort") R hq (name_of (μ := μ) c4) (fun fs wf => wf.sort)) l_nil) (h_along rq.sort)
  rw [show (if rq.sort = 2 then (0 : Int) else 1) = ax from ha] at e5
  have e6 := index_at (h_fld (x := "children") R hq (name_of (μ := μ) c4) (fun fs wf => wf.children)) gk (by exact om119 hl) (name_of c3) (by rw [hk]; exact findIdx_mid hA)
  have e7 : eTup (lCons (eCall (lCons (eAttr (eName "parent") 93 "sort") lNil) m_along) (lCons (eBM (eAttr (eName "parent") 93 "children") isList (lCons (eName "number") lNil) mIndex) lNil)) ρ2 μ = some (.tup [.int ax, .int A.length], μ) := by
    simp only [eTup, l_cons e5 (l_cons e6 l_nil), bind2_some]
    rfl
  generalize hρ3 : put (put ρ2 "at" (.int A.length)) "axis" (.int ax) = ρ3
  have d1 : ρ3 "here" = some (.obj rf.o) := lk2 hρ3 (by kernel_rfl) c1
  have d2 : ρ3 "tree" = some (.obj S.t) := lk2 hρ3 (by kernel_rfl) c2
  have d3 : ρ3 "number" = some (.int f) := lk2 hρ3 (by kernel_rfl) c3
  have d4 : ρ3 "parent" = some (.obj rq.o) := lk2 hρ3 (by kernel_rfl) c4
  have d5 : ρ3 "at" = some (.int A.length) := lk hρ3 (by kernel_rfl)
  have d6 : ρ3 "axis" = some (.int ax) := lk hρ3 (by kernel_rfl)
  have e8 : sAssign (eTup (lCons (eCall (lCons (eAttr (eName "parent") 93 "sort") lNil) m_along) (lCons (eBM (eAttr (eName "parent") 93 "children") isList (lCons (eName "number") lNil) mIndex) lNil))) (aSwap "axis" "at") ρ2 μ = some (.next, ρ3, μ) := by
    rw [← hρ3]
    exact st_assign e7 rfl
  have hlA : (A ++ f :: B).length ≤ 140 := by rw [← hk]; exact hl
  have e9 : eIf (tCmp .Gt (eName "at") (eInt 0)) (eSub (eAttr (eName "parent") 93 "children") (eBin .Sub (eName "at") (eInt 1))) (eSub (eAttr (eName "parent") 93 "children") (eInt 1)) ρ3 μ = some (.int n, μ) := by
    have t1 : tCmp .Gt (eName "at") (eInt 0) ρ3 μ = some (decide ((A.length : Int) > 0), μ) := by
      simp only [tCmp, name_of d5, eInt, bind2_some, cv_eq, cv_ne, cv_lt, cv_le, cv_gt, cv_is, isN_none, isN_int, isN_obj, Option.map_some]
    have ch := h_fld (x := "children") R hq (name_of (μ := μ) d4) (fun fs wf => wf.children)
    have gk' := gk
    rw [hk] at gk'
    simp only [eIf, t1, bind2_some]
    rcases hoth with ⟨A', rfl⟩ | ⟨rfl, B', rfl⟩
    · rw [show decide (((A' ++ [n]).length : Int) > 0) = true by simp, if_pos rfl]
      have hi : eBin .Sub (eName "at") (eInt 1) ρ3 μ = some (.int A'.length, μ) := bin_at (name_of d5) rfl (by simp [iBin])
      refine sub_list ch hi gk' (by simp at hlA; exact om160 hlA) ?_
      rw [Int.toNat_natCast]; simp
    · rw [show decide (((([] : List Int).length : Nat) : Int) > 0) = false by simp, if_neg (by simp)]
      exact sub_list ch rfl gk' (by decide) rfl
  generalize hρ4 : put ρ3 "other" (.int n) = ρ4
  have f1 : ρ4 "here" = some (.obj rf.o) := lk2 hρ4 (by kernel_rfl) d1
  have f2 : ρ4 "tree" = some (.obj S.t) := lk2 hρ4 (by kernel_rfl) d2
  have f3 : ρ4 "number" = some (.int f) := lk2 hρ4 (by kernel_rfl) d3
  have f4 : ρ4 "parent" = some (.obj rq.o) := lk2 hρ4 (by kernel_rfl) d4
  have f5 : ρ4 "other" = some (.int n) := lk hρ4 (by kernel_rfl)
  have f6 : ρ4 "axis" = some (.int ax) := lk2 hρ4 (by kernel_rfl) d6
  have e10 := h_meth (x := "size") R hn (h_at (et := eName "tree") (en := eName "other") R hn (name_of f2) (name_of f5)) (fun fs wf => wf.m1) (l_cons (name_of f6) l_nil) (h_size R hn ax)
  have e11 := h_meth (x := "size") R hf (name_of f1) (fun fs wf => wf.m1) (l_cons (name_of f6) l_nil) (h_size R hf ax)
  rw [show (if ax = 0 then rn.width else rn.height) = rn.core.sz ax from rfl] at e10
  rw [show (if ax = 0 then rf.width else rf.height) = rf.core.sz ax from rfl] at e11
  have e12 := bin_at (op := .Add) e10 e11 rfl
  generalize rn.core.sz ax + rf.core.sz ax = size at *
  generalize hρ5 : put ρ4 "size" (.int size) = ρ5
  have g2 : ρ5 "tree" = some (.obj S.t) := lk2 hρ5 (by kernel_rfl) f2
  have g3 : ρ5 "number" = some (.int f) := lk2 hρ5 (by kernel_rfl) f3
  have hT : Sh S.ws q (.leaf f rf.width rf.height (rf.buf, rf.st, rf.pt, rf.hs)) := ⟨rf, hf, hfs, hfp, rfl, rfl, hfk, rfl⟩
  obtain ⟨kl, μ1, h1, M1⟩ := h_leaves_under R hT (by simp [WT.size])
  have e13 : eCmp .In (eAttr (eName "tree") 164 "selected") (eCall (lCons (eName "tree") (lCons (eName "number") lNil)) m_leaves_under) ρ5 μ = some (.bool false, μ1) := by
    have l1 := h_tfld (x := "selected") R (name_of (μ := μ) g2) (fun fs tf => tf.selected)
    have l2 := call_at (l_cons (name_of (μ := μ) g2) (l_cons (name_of g3) l_nil)) h1
    have gl := M1.g
    have gl' : μ1.get kl = some (.list ([f].map .int)) := gl
    simp only [eCmp, l1, l2, bind2_some, cv_in gl' (intsOf_map _), Option.map_some]
    simp [hf1]
  generalize hρ6 : put ρ5 "is_gone" (.bool false) = ρ6
  have i2 : ρ6 "tree" = some (.obj S.t) := lk2 hρ6 (by kernel_rfl) g2
  have i3 : ρ6 "number" = some (.int f) := lk2 hρ6 (by kernel_rfl) g3
  have i4 : ρ6 "parent" = some (.obj rq.o) := lk2 hρ6 (by kernel_rfl) (lk2 hρ5 (by kernel_rfl) f4)
  have i5 : ρ6 "other" = some (.int n) := lk2 hρ6 (by kernel_rfl) (lk2 hρ5 (by kernel_rfl) f5)
  have i6 : ρ6 "axis" = some (.int ax) := lk2 hρ6 (by kernel_rfl) (lk2 hρ5 (by kernel_rfl) f6)
  have i7 : ρ6 "size" = some (.int size) := lk2 hρ6 (by kernel_rfl) (lk hρ5 (by kernel_rfl))
  have i8 : ρ6 "is_gone" = some (.bool false) := lk hρ6 (by kernel_rfl)
  have gk1 := M1.R.kd _ _ hq
  rw [hk] at gk1
  have e14 := remove_at (h_fld (x := "children") M1.R hq (name_of (μ := μ1) i4) (fun fs wf => wf.children)) gk1 (by exact om119 hlA) (name_of i3) hA
  obtain ⟨R2, s2⟩ := M1.R.kids hq (A ++ B)
  generalize μ1.set rq.c (.list ((A ++ B).map .int)) = μ2 at *
  have hf2 : (S.upd q (rq.setKids (A ++ B))).ws f = some rf := by rw [upd_ne _ _ (Ne.symm hqf)]; exact hf
  obtain ⟨μ3, h3, R3, s3⟩ := h_forget R2 hf2 hfk
  have e15 := call_at (l_cons (name_of (μ := μ2) i2) (l_cons (name_of i3) l_nil)) h3
  have hn3 : ((S.upd q (rq.setKids (A ++ B))).drop f).ws n = some rn := by
    show (if n = f then none else (S.upd q _).ws n) = _
    rw [if_neg hnf, upd_ne _ _ (Ne.symm hqn)]; exact hn
  obtain ⟨μ4, h4, R4, s4⟩ := h_set_tree_size R3 hn3 hns ax size
  have e16 := call_at (l_cons (name_of (μ := μ3) i2) (l_cons (name_of i5) (l_cons (name_of i6) (l_cons (name_of i7) l_nil)))) h4
  refine hG ⟨ρ6, μ4, _, ?_, i2, i4, i8, R4, ((M1.st.trans s2).trans s3).trans s4, rfl, rfl, rfl, ?_, fun m => ?_⟩
  · rw [hρ]
    exact (seq_next (st_nm e1 hρ1)).trans ((seq_next ((if_f e3).trans rfl)).trans ((seq_next (st_nm e4 hρ2)).trans ((seq_next e8).trans ((seq_next (st_nm e9 hρ4)).trans ((seq_next (st_nm e12 hρ5)).trans ((seq_next (st_nm e13 hρ6)).trans ((seq_next (st_expr e14)).trans ((seq_next (st_expr e15)).trans (seq_next (st_expr e16))))))))))
  · rw [upd_ne _ _ hqn]
    show (if q = f then none else (S.upd q _).ws q) = _
    rw [if_neg hqf, upd_self]
  · rw [cs_upd, cs_drop, cs_upd, core_sized]
    rfl
end
end Mine
end
section
set_option maxRecDepth 10000
open PySem PySem.W PySem.Calls PyProof.Rows
namespace Mine
section
variable {μ μ0 μ1 μ' : Mem} {ro ro0 ro' : Nat → Option Role} {S S' : Store} {n : Int} {r : WinR} {ρ : Loc} {T : WT}
theorem del_end (R : RT μ ro S) (sh : ShC (cs S) 0 T) (nd : T.nums.Nodup) (root : S.root = T.num) (sz : T.size ≤ 150) (a1 : ρ "tree" = some (.obj S.t)) (a2 : ρ "is_gone" = some (.bool false)) :
    ∃ μ' ws', (sSeq (sExpr (eCall (lCons (eName "tree") lNil) m_set_places))
  (sSeq (sIf (tVal (eName "is_gone")) sBad sNil)
  sNil)) ρ μ = some (.next, ρ, μ') ∧ RT μ' ro { S with ws := ws' } ∧ Step μ ro μ' ro ∧ Pos S.ws ws' ∧ At ws' 0 0 T := by
  obtain ⟨μ', ws', h1, R1, s1, P, A⟩ := h_set_places R (shC_iff.mpr sh) sz nd root
  have e1 := call_at (l_cons (name_of (μ := μ) a1) l_nil) h1
  have e2 : tVal (eName "is_gone") ρ μ' = some (false, μ') := by simp only [tVal, name_of a2, bind2_some]
  exact ⟨μ', ws', (seq_next (st_expr e1)).trans ((seq_next ((if_f e2).trans rfl)).trans rfl), R1, s1, P, A⟩
theorem cs_none {m : Int} (R : RT μ ro S) (h : S.last < m) : cs S m = none := by
  unfold cs
  rw [R.fr m h]; rfl
theorem map_back {A B : List Int} {x y : Int} (hA : x ∉ A) (hB : x ∉ B) (hA' : y ∉ A) (hB' : y ∉ B) : ((A ++ x :: B).map (fun z => if z = x then y else z)).map (fun z => if z = y then x else z) = A ++ x :: B := by
  rw [map_mid hA hB, map_mid hA' hB']
theorem pair_cut {X Y : List Int} {n f : Int} {ahead : Bool} (hnf : n ≠ f) (hX : f ∉ X) (hcond : ahead = false ∨ (X ++ pairOf ahead n f ++ Y).head? = some f) :
    ∃ A B, X ++ pairOf ahead n f ++ Y = A ++ f :: B ∧ f ∉ A ∧ A ++ B = X ++ n :: Y ∧ ((∃ A', A = A' ++ [n]) ∨ (A = [] ∧ ∃ B', B = n :: B')) := by
  cases ahead with
  | false =>
    refine ⟨X ++ [n], Y, by simp [pairOf], fun h => ?_, by simp, .inl ⟨X, rfl⟩⟩
    rcases List.mem_append.mp h with h | h
    · exact hX h
    · exact hnf (List.mem_singleton.mp h).symm
  | true =>
    rcases hcond with h | h
    · cases h
    · cases X with
      | nil => exact ⟨[], n :: Y, by simp [pairOf], (fun h => nomatch h), rfl, .inr ⟨rfl, Y, rfl⟩⟩
      | cons x r =>
        simp at h
        exact absurd (by rw [h]; exact .head _) hX
theorem h_delete {μa : Mem} {roa : Nat → Option Role} {T' : WT} {f q ax old new : Int} {kn : Core} {ahead : Bool} (I : Inv μa roa S T) (I' : Inv μ ro S' T') (hm : n ∈ T.leaves) (hn : cs S n = some kn) (hax : ax = 0 ∨ ax = 1) (hon : old + new = kn.sz ax)
    (hsp : (∃ kq X Y, SplitA S S' T n f q kn ax old new ahead kq X Y) ∨ SplitB S S' T n f q kn ax old new ahead) (hcond : ahead = false ∨ ∃ k, cs S' q = some k ∧ k.kids.head? = some f) :
    ∃ μ' ro' S'', m_delete_window [.obj S'.t, .int f] μ = some (.none, μ') ∧ Inv μ' ro' S'' T ∧ Step μ ro μ' ro' ∧ S''.t = S'.t ∧ S''.last = S'.last ∧ cs S'' = cs S := by
  refine byc fun hG => ?_
  have h0 : ∀ m ∈ T.nums, m ≠ 0 := fun m h e => by have := (I.rng m h).1; exact om130 this e
  obtain ⟨hs, hk, hP⟩ := par_data I.sh I.nd h0 hm hn
  have hnT : n ∈ T.nums := (leaves_sub T).subset hm
  have hnl := I.rng n hnT
  have hl1 := I.l1
  have hsz := I.sz
  have hsort : ∀ (k : Core) (a v : Int), (k.sized a v).sort = k.sort ∧ (k.sized a v).parent = k.parent ∧ (k.sized a v).kids = k.kids := fun k a v => by unfold Core.sized; split <;> exact ⟨rfl, rfl, rfl⟩
  have run : ∀ {ρ' μ1 μ2}, b_delete_window (bindv [("tree" : Str), ("number" : Str)] [.obj S'.t, .int f]) μ = delTail ρ' μ1 → delTail ρ' μ1 = some (.next, ρ', μ2) → m_delete_window [.obj S'.t, .int f] μ = some (.none, μ2) := fun h1 h2 => run_next (b := b_delete_window) rfl (h1.trans h2)
  rcases hsp with ⟨kq, X, Y, D⟩ | D
  · have P := D.P
    have hqT := P.pT
    rw [← D.hq] at hqT
    have hql := I.rng q hqT
    have hfl : S.last < f := by rw [D.hf]; exact om55
    have hqn : q ≠ n := by rw [D.hq]; exact P.pn
    have hfX : ∀ k ∈ X ++ Y, k ≠ f := fun k hk e => by
      have := (I.rng k (P.oth k hk).2.2.1).2
      exact om161 hfl e this
    have cf : cs S' f = some (kn.sized ax new) := by rw [D.c, if_pos rfl]
    have cn : cs S' n = some (kn.sized ax old) := by rw [D.c, if_neg (by exact om162 hfl hnl.2), if_pos rfl]
    have cq : cs S' q = some (kq.setKids (X ++ pairOf ahead n f ++ Y)) := by rw [D.c, if_neg (by exact om162 hfl hql.2), if_neg hqn, if_pos rfl]
    obtain ⟨rf, hrf, hrfc⟩ := cs_some cf
    obtain ⟨rn, hrn, hrnc⟩ := cs_some cn
    obtain ⟨rq, hrq, hrqc⟩ := cs_some cq
    have hrqk : rq.kids = X ++ pairOf ahead n f ++ Y := congrArg Core.kids hrqc
    have hrqs : rq.sort = kq.sort := congrArg Core.sort hrqc
    obtain ⟨A, B, x1, x2, x3, x4⟩ := pair_cut (X := X) (Y := Y) (n := n) (f := f) (ahead := ahead) (by exact om162 hfl hnl.2) (fun h => hfX f (List.mem_append_left _ h) rfl) (by
      rcases hcond with h | ⟨k, h1, h2⟩
      · exact .inl h
      · rw [cq] at h1
        cases h1
        exact .inr h2)
    have hlen : rq.kids.length ≤ 140 := by
      have h1 := P.len
      rw [P.ks] at h1
      rw [hrqk]
      have : (pairOf ahead n f).length = 2 := by cases ahead <;> rfl
      rw [List.length_append, List.length_append, this]
      rw [List.length_append, List.length_cons] at h1
      exact om163 h1 hsz
    obtain ⟨ρ1, μ1, S1, g1, g2, g3, g4, R1, s1, k1, k2, k3, k4, k5⟩ := del_mid I'.R hrf (q := q) (ax := ax) (by have := congrArg Core.parent hrfc; exact this.trans ((hsort _ _ _).2.1.trans D.hq.symm)) (by have := congrArg Core.sort hrfc; exact this.trans ((hsort _ _ _).1.trans hs)) (by have := congrArg Core.kids hrfc; exact this.trans ((hsort _ _ _).2.2.trans hk)) (by exact om164 hl1 hfl) hrq (by exact om6 hql.1) (by rw [hrqs]; exact D.along) (hrqk.trans x1) x2 hlen hrn (by have := congrArg Core.sort hrnc; exact this.trans ((hsort _ _ _).1.trans hs)) hqn (by exact om162 hfl hql.2) (by exact om162 hfl hnl.2) x4
    have hcs : cs S1 = cs S := by
      funext m
      rw [k5 m, hrnc, hrfc, hrqc, sized_sized hon, x3]
      by_cases h1 : m = n
      · rw [if_pos h1, h1, hn]
      · rw [if_neg h1]
        by_cases h2 : m = f
        · rw [if_pos h2, h2, cs_none I.R hfl]
        · rw [if_neg h2]
          by_cases h3 : m = q
          · rw [if_pos h3, h3, D.hq, P.cp, ← P.ks]; rfl
          · rw [if_neg h3, D.c, if_neg h2, if_neg h1, if_neg h3]
    have hnum := h_fld (x := "number") R1 k4 (name_of (μ := μ1) g3) (fun fs wf => wf.number)
    have hlen2 : (A ++ B).length ≠ 1 := by
      rw [x3, List.length_append, List.length_cons]
      have := P.ne
      intro e
      apply this
      rw [List.append_eq_nil_iff]
      exact ⟨List.length_eq_zero_iff.mp (by exact om165 e), List.length_eq_zero_iff.mp (by exact om166 e)⟩
    have hlen3 : (A ++ B).length ≤ 900 := by
      have h1 := congrArg List.length x1
      rw [← hrqk] at h1
      rw [List.length_append, List.length_cons] at h1
      rw [List.length_append]
      exact om167 h1 hlen
    have hl := h_lifted0 R1 k4 hlen3 hlen2
    have e1 := call_at (l_cons (name_of (μ := μ1) g2) (l_cons hnum l_nil)) (by rw [← k1]; exact hl)
    obtain ⟨μ2, ws', h2, R2, s2, P2, A2⟩ := del_end (ρ := ρ1) (T := T) R1 (by rw [hcs]; exact I.sh) I.nd (by rw [k3, D.root]; exact I.root) (by exact om168 hsz) (by rw [k1]; exact g2) g4
    have he : cs { S1 with ws := ws' } = cs S := (funext (cs_pos P2)).trans hcs
    have hlast := D.last
    refine hG ⟨μ2, ro, { S1 with ws := ws' }, run g1 ((seq_next (st_expr e1)).trans h2), ⟨R2, by rw [he]; exact I.sh, A2, ?_, I.nd, fun m hm => ?_, I.sz, by rw [he]; exact I.z, ?_⟩, s1.trans s2, k1, k2, he⟩
    · show S1.root = _
      rw [k3, D.root]; exact I.root
    · show 0 < m ∧ m ≤ S1.last
      have := I.rng m hm
      rw [k2, hlast]
      exact om169 this.1 this.2
    · show 1 ≤ S1.last
      rw [k2, hlast]; exact om170 hl1
  · have hqe := D.hq
    have hfe := D.hf
    have cf : cs S' f = some (((kn.setParent q) : Core).sized ax new) := by rw [D.c, if_pos rfl]
    have cn : cs S' n = some (((kn.setParent q) : Core).sized ax old) := by rw [D.c, if_neg (by exact om171 hfe hnl.2), if_pos rfl]
    have cq : cs S' q = some ⟨sortOf ax, kn.parent, kn.width, kn.height, pairOf ahead n f, (0, 1, 1, 0)⟩ := by rw [D.c, if_neg (by exact om172 hqe hfe), if_neg (by exact om173 hqe hnl.2), if_pos rfl]
    obtain ⟨rf, hrf, hrfc⟩ := cs_some cf
    obtain ⟨rn, hrn, hrnc⟩ := cs_some cn
    obtain ⟨rq, hrq, hrqc⟩ := cs_some cq
    have hrqk : rq.kids = pairOf ahead n f := congrArg Core.kids hrqc
    have hrqs : rq.sort = sortOf ax := congrArg Core.sort hrqc
    have hrqp : rq.parent = kn.parent := congrArg Core.parent hrqc
    obtain ⟨A, B, x1, x2, x3, x4⟩ := pair_cut (X := []) (Y := []) (n := n) (f := f) (ahead := ahead) (by exact om171 hfe hnl.2) (fun h => nomatch h) (by
      rcases hcond with h | ⟨k, h1, h2⟩
      · exact .inl h
      · rw [cq] at h1
        cases h1
        exact .inr (by simpa using h2))
    rw [List.nil_append, List.append_nil] at x1
    rw [List.nil_append] at x3
    have hlen : rq.kids.length ≤ 140 := by
      rw [hrqk]
      have : (pairOf ahead n f).length = 2 := by cases ahead <;> rfl
      exact om174 this
    have hon' : old + new = ((kn.setParent q) : Core).sz ax := hon
    have hrns : rn.sort = 0 := by have := congrArg Core.sort hrnc; exact this.trans ((hsort _ _ _).1.trans hs)
    obtain ⟨ρ1, μ1, S1, g1, g2, g3, g4, R1, s1, k1, k2, k3, k4, k5⟩ := del_mid I'.R hrf (q := q) (ax := ax) (by have := congrArg Core.parent hrfc; exact this.trans (hsort _ _ _).2.1) (by have := congrArg Core.sort hrfc; exact this.trans ((hsort _ _ _).1.trans hs)) (by have := congrArg Core.kids hrfc; exact this.trans ((hsort _ _ _).2.2.trans hk)) (by exact om175 hl1 hfe) hrq (by exact om176 hl1 hqe) (by rw [hrqs]; rcases hax with rfl | rfl <;> rfl) (hrqk.trans x1) x2 hlen hrn hrns (by exact om173 hqe hnl.2) (by exact om172 hqe hfe) (by exact om171 hfe hnl.2) x4
    rw [x3] at k4 k5
    have hcs1 : ∀ m, cs S1 m = if m = n then some (kn.setParent q) else if m = f then none else if m = q then some (rq.core.setKids ([n])) else cs S' m := fun m => by
      rw [k5 m, hrnc, hrfc, sized_sized hon']
    have c1n : cs S1 n = some (kn.setParent q) := by rw [hcs1, if_pos rfl]
    obtain ⟨rn1, hrn1, hrn1c⟩ := cs_some c1n
    have hrn1s : rn1.sort = 0 := (congrArg Core.sort hrn1c).trans hs
    have hnum := h_fld (x := "number") R1 k4 (name_of (μ := μ1) g3) (fun fs wf => wf.number)
    have hqs : ∀ k ∈ T.nums, k ≠ q := fun k hk e => by have := (I.rng k hk).2; exact om177 hqe e this
    obtain ⟨μ2, ro2, S2, l1, R2, s2, t1, t2, t3, t4⟩ := h_lifted1 (p := kn.parent) R1 k4 rfl hrn1 (by exact om173 hqe hnl.2) hrqp (by
      rcases hP with ⟨h, _⟩ | ⟨kp, A, B, P⟩
      · exact .inl h
      · have hpl := I.rng _ P.pT
        have cp' : cs S1 kn.parent = some (kp.setKids (A ++ q :: B)) := by
          rw [hcs1, if_neg P.pn, if_neg (by exact om171 hfe hpl.2), if_neg (by exact om178 hqe hpl.2), D.c, if_neg (by exact om171 hfe hpl.2), if_neg P.pn, if_neg (by exact om178 hqe hpl.2), if_pos ⟨rfl, P.p0⟩, P.cp]
          simp only [Option.map_some]
          rw [P.ks, map_mid P.nA P.nB]
        obtain ⟨rp, hrp, hrpc⟩ := cs_some cp'
        have hrps : rp.sort = kp.sort := congrArg Core.sort hrpc
        have hrpk : rp.kids = A ++ q :: B := congrArg Core.kids hrpc
        refine .inr ⟨P.p0, P.pn, by exact om178 hqe hpl.2, rp, A, B, hrp, hrpk, fun h => hqs q (P.oth q (List.mem_append_left _ h)).2.2.1 rfl, fun h => hqs q (P.oth q (List.mem_append_right _ h)).2.2.1 rfl, ?_, by rw [hrn1s, hrps]; exact Ne.symm P.ps, fun k hk => ?_⟩
        · have h1 := P.len
          rw [P.ks, List.length_append, List.length_cons] at h1
          rw [hrpk, List.length_append, List.length_cons]
          exact om179 h1 hsz
        · obtain ⟨y1, y2, y3, w, w1, w2, w3⟩ := P.oth k hk
          have hkl := I.rng k y3
          have ck : cs S1 k = some w := by
            rw [hcs1, if_neg y1, if_neg (by exact om171 hfe hkl.2), if_neg (by exact om178 hqe hkl.2), D.c, if_neg (by exact om171 hfe hkl.2), if_neg y1, if_neg (by exact om178 hqe hkl.2), if_neg (fun q => y2 q.1)]
            exact w1
          obtain ⟨rw', v1, v2⟩ := cs_some ck
          exact ⟨y1, by exact om178 hqe hkl.2, y2, rw', v1, by rw [hrps]; have := congrArg Core.sort v2; rw [← this] at w2; exact w2, (congrArg Core.parent v2).trans w3⟩)
    have hcs : cs S2 = cs S := by
      funext m
      rw [t4 m, hrn1c]
      by_cases h1 : m = q
      · rw [if_pos h1, h1, cs_none I.R (by exact om180 hqe)]
      · rw [if_neg h1]
        by_cases h2 : m = n
        · rw [if_pos h2, h2, hn]; rfl
        · rw [if_neg h2, hcs1, if_neg h2, if_neg h1, D.c, if_neg h2, if_neg h1]
          by_cases h4 : m = f
          · have hfp : ¬ (m = kn.parent ∧ kn.parent ≠ 0) := fun h => by
              rcases hP with ⟨h', _⟩ | ⟨kp, A, B, P⟩
              · exact h.2 h'
              · have := I.rng _ P.pT
                exact om181 hfe h4 h.1 this.2
            rw [if_neg hfp, if_pos h4, h4, cs_none I.R (by exact om182 hfe)]
          · rw [if_neg h4, if_neg h4]
            by_cases h3 : m = kn.parent ∧ kn.parent ≠ 0
            · rw [if_pos h3, if_pos h3]
              rcases hP with ⟨h', _⟩ | ⟨kp, A, B, P⟩
              · exact absurd h' h3.2
              · rw [h3.1, P.cp]
                simp only [Option.map_some]
                show some ((kp.setKids _).setKids (((kp.kids.map fun x => if x = n then q else x)).map fun x => if x = q then n else x)) = _
                rw [P.ks, map_back P.nA P.nB (fun h => hqs q (P.oth q (List.mem_append_left _ h)).2.2.1 rfl) (fun h => hqs q (P.oth q (List.mem_append_right _ h)).2.2.1 rfl), ← P.ks]; rfl
            · rw [if_neg h3, if_neg h3]
    have hroot : S2.root = T.num := by
      rw [t3, k3, D.root]
      rcases hP with ⟨h', h''⟩ | ⟨kp, A, B, P⟩
      · rw [if_pos h']; exact h''.symm
      · rw [if_neg P.p0, if_neg P.p0]; exact I.root
    have e1 := call_at (l_cons (name_of (μ := μ1) g2) (l_cons hnum l_nil)) (by rw [← k1]; exact l1)
    obtain ⟨μ3, ws', h2, R3, s3, P3, A3⟩ := del_end (ρ := ρ1) (T := T) R2 (by rw [hcs]; exact I.sh) I.nd hroot (by exact om168 hsz) (by rw [t1, k1]; exact g2) g4
    have he : cs { S2 with ws := ws' } = cs S := (funext (cs_pos P3)).trans hcs
    have hlast := D.last
    refine hG ⟨μ3, ro2, { S2 with ws := ws' }, run g1 ((seq_next (st_expr e1)).trans h2), ⟨R3, by rw [he]; exact I.sh, A3, hroot, I.nd, fun m hm => ?_, I.sz, by rw [he]; exact I.z, ?_⟩, (s1.trans s2).trans s3, t1.trans k1, t2.trans k2, he⟩
    · show 0 < m ∧ m ≤ S2.last
      have := I.rng m hm
      rw [t2, k2, hlast]
      exact om183 this.1 this.2
    · show 1 ≤ S2.last
      rw [t2, k2, hlast]; exact om184 hl1
end
end Mine
end
section
set_option maxRecDepth 10000
open PySem PySem.W PySem.Calls PyProof.Rows
namespace Mine
noncomputable def entV (e : Ent) : Int × V := (e.1, .tup [.int e.2.1, .int e.2.2.1, .int e.2.2.2.1, .int e.2.2.2.2.1, .tup [.int e.2.2.2.2.2.1, .int e.2.2.2.2.2.2.1, .int e.2.2.2.2.2.2.2.1, .int e.2.2.2.2.2.2.2.2]])
noncomputable def places (T : WT) : List (Int × V) := (ents 0 0 T).map entV
theorem entV_fst (l : List Ent) : (l.map entV).map (·.1) = l.map (·.1) := by rw [List.map_map]; rfl
theorem places_keys (T : WT) : (places T).map (·.1) = T.leaves := by unfold places; rw [entV_fst, ents_fst]
theorem entV_ok (e : Ent) : V.ok (entV e).2 = true := rfl
theorem places_nd {T : WT} (nd : T.nums.Nodup) : ((places T).map (·.1)).Nodup := by rw [places_keys]; exact nd.sublist (leaves_sub T)
theorem places_len (T : WT) : (places T).length ≤ T.size := by
  have h1 : (places T).length = T.leaves.length := by rw [← places_keys, List.length_map]
  rw [h1, size_nums]
  exact (leaves_sub T).length_le
noncomputable def EntR (ws : WS) (e : Ent) : Prop := ∃ r, ws e.1 = some r ∧ r.left = e.2.1 ∧ r.top = e.2.2.1 ∧ r.width = e.2.2.2.1 ∧ r.height = e.2.2.2.2.1 ∧ (r.buf, r.st, r.pt, r.hs) = e.2.2.2.2.2
mutual
theorem ent_rec {ws : WS} : ∀ {p l t : Int} {T : WT}, Sh ws p T → At ws l t T → ∀ e ∈ ents l t T, EntR ws e
  | p, l, t, .leaf n w h c, ⟨r, h1, _, _, h4, h5, _, h7⟩, ⟨r', g1, g2, g3⟩, e, he => by
    rw [ents, List.mem_singleton] at he
    subst he
    rw [h1] at g1
    cases g1
    exact ⟨r, h1, g2, g3, h4, h5, h7⟩
  | p, l, t, .node n w h row ks, ⟨_, _, _, h4⟩, g, e, he => entL_rec h4 g e he
theorem entL_rec {ws : WS} : ∀ {p l t : Int} {row : Bool} {ks : List WT}, ShL ws p ks → AtL ws row l t ks → ∀ e ∈ entsL row l t ks, EntR ws e
  | _, _, _, _, [], _, _, e, he => nomatch he
  | _, _, _, _, _ :: _, ⟨h1, h2⟩, ⟨g1, g2⟩, e, he => by
    rw [entsL] at he
    rcases List.mem_append.mp he with he | he
    · exact ent_rec h1 g1 e he
    · exact entL_rec h2 g2 e he
end
theorem dstore_new {es : List (Int × V)} {i : Int} {v : V} (h : i ∉ es.map (·.1)) : dstore es i v = es ++ [(i, v)] := by
  unfold dstore
  rw [if_neg]
  intro q
  rw [List.any_eq_true] at q
  obtain ⟨x, hx, e⟩ := q
  exact h (by rw [← of_decide_eq_true e]; exact List.mem_map_of_mem hx)
section
variable {μ μ0 μ1 μ' : Mem} {ro ro0 ro' : Nat → Option Role} {S S' : Store} {n : Int} {r : WinR} {ρ : Loc} {T : WT}
theorem Inv.step (I : Inv μ ro S T) (R : RT μ' ro S) : Inv μ' ro S T := ⟨R, I.sh, I.at_, I.root, I.nd, I.rng, I.sz, I.z, I.l1⟩
theorem h_places (I : Inv μ ro S T) : ∃ k μ', m_law_places [.obj S.t] μ = some (.obj k, μ') ∧ Made μ ro S k (.dict (places T)) μ' := by
  refine byc fun hG => ?_
  have hsz := I.sz
  have M0 := Made.start I.R (.dict [])
  have e1 : eDict0 (bindv [("tree" : Str)] [.obj S.t]) μ = some (.obj μ.n, μ.new (.dict [])) := by simp [eName, eInt, eNone, eBool, bind2_some, bind2, eAttr, eIf, tCmp, eCmp, tNot, tAnd, tOr, tVal, cv_eq, cv_ne, cv_lt, cv_le, cv_gt, cv_is, isN_none, isN_int, isN_obj, eBin, iBin, eMeth, lCons, lNil, eCall, eSub, eBM, eList, eTup, eDict0, mLen, mList, mDict, mGet, mIndex, mAppend, mExtend, mPop, mDPop, mInsert, mRemove, isList, isDict, bindv_cons, bindv_nil, put_at, ofString_inj, Option.map_some, List.length_cons, List.length_nil]
  generalize hρ : put (bindv [("tree" : Str)] [.obj S.t]) "found" (.obj μ.n) = ρ1
  have a1 : ρ1 "tree" = some (.obj S.t) := lk hρ (by kernel_rfl)
  have a2 : ρ1 "found" = some (.obj μ.n) := lk hρ (by kernel_rfl)
  obtain ⟨kl, μ1, h1, M1⟩ := h_leaves M0.R (I.sh') (by exact om168 hsz) I.root
  obtain ⟨g1, r1, l1⟩ := M1.st.keep M0.l.2 M0.r M0.g
  have e2 := call_at (l_cons (name_of (μ := μ.new (.dict [])) a1) l_nil) h1
  have hne : kl ≠ μ.n := by have := M1.l.1; have := M0.l.2; omega
  have hlen : T.leaves.length ≤ 130 := by have := places_len T; rw [← places_keys, List.length_map]; exact om185 hsz this
  have hle : (ents 0 0 T).length = T.leaves.length := by rw [← ents_fst (l := 0) (t := 0) (T := T), List.length_map]
  have hlen2 : (T.leaves.map V.int).length = 0 + T.leaves.length := by simp
  have ndl : T.leaves.Nodup := I.nd.sublist (leaves_sub T)
  obtain ⟨ρ2, μ2, h2, ⟨c1, c2, R2, st2, gl2, gd2, ll2⟩⟩ := for_loop (a := aName "number") (b := sSeq (sAssign (eSub (eAttr (eName "tree") 164 "windows") (eName "number")) (aName "shown_window"))
  (sSeq (sAssign (eTup (lCons (eAttr (eName "shown_window") 93 "left") (lCons (eAttr (eName "shown_window") 93 "top") (lCons (eAttr (eName "shown_window") 93 "width") (lCons (eAttr (eName "shown_window") 93 "height") (lCons (eMeth (eName "shown_window") 93 "shown" lNil m_wi_shown) lNil)))))) (aSub (eName "found") (eName "number")))
  sNil)) (k := kl) (xs := T.leaves.map V.int)
    (fun i ρ m => ρ "tree" = some (.obj S.t) ∧ ρ "found" = some (.obj μ.n) ∧ RT m ro S ∧ Step μ ro m ro ∧ m.get kl = some (.list (T.leaves.map .int)) ∧ m.get μ.n = some (.dict (((ents 0 0 T).take i).map entV)) ∧ kl < m.n)
    (fun i ρ m h => h.2.2.2.2.1) (fun i v ρ m h hi => by
      obtain ⟨c1, c2, R, st, gl, gd, ll⟩ := h
      rw [List.getElem?_map] at hi
      obtain ⟨x, hx, rfl⟩ := Option.map_eq_some_iff.mp hi
      rw [← ents_fst (l := 0) (t := 0) (T := T), List.getElem?_map] at hx
      obtain ⟨e, he, rfl⟩ := Option.map_eq_some_iff.mp hx
      have hi2 : i < (ents 0 0 T).length := (List.getElem?_eq_some_iff.mp he).1
      obtain ⟨r, hr, x1, x2, x3, x4, x5⟩ := ent_rec I.sh' I.at_ e (List.mem_of_getElem? he)
      have d1 : put ρ "number" (.int e.1) "tree" = some (.obj S.t) := pl (by kernel_rfl) c1
      have d2 : put ρ "number" (.int e.1) "number" = some (.int e.1) := by kernel_rfl
      have f1 := h_at (et := eName "tree") (en := eName "number") R hr (name_of d1) (name_of d2)
      have d3 : put (put ρ "number" (.int e.1)) "shown_window" (.obj r.o) "shown_window" = some (.obj r.o) := by kernel_rfl
      have d4 : put (put ρ "number" (.int e.1)) "shown_window" (.obj r.o) "found" = some (.obj μ.n) := pl (by kernel_rfl) c2
      have d5 : put (put ρ "number" (.int e.1)) "shown_window" (.obj r.o) "number" = some (.int e.1) := by kernel_rfl
      have y1 := h_fld (x := "left") R hr (name_of d3) (fun fs wf => wf.left)
      have y2 := h_fld (x := "top") R hr (name_of d3) (fun fs wf => wf.top)
      have y3 := h_fld (x := "width") R hr (name_of d3) (fun fs wf => wf.width)
      have y4 := h_fld (x := "height") R hr (name_of d3) (fun fs wf => wf.height)
      have y5 := h_meth (x := "shown") R hr (name_of d3) (fun fs wf => wf.m4) l_nil (h_shown R hr)
      have hv : (V.tup [.int r.left, .int r.top, .int r.width, .int r.height, r.shown]) = (entV e).2 := by
        unfold WinR.shown entV
        have z1 := congrArg (·.1) x5
        have z2 := congrArg (·.2.1) x5
        have z3 := congrArg (·.2.2.1) x5
        have z4 := congrArg (·.2.2.2) x5
        dsimp only at z1 z2 z3 z4
        rw [x1, x2, x3, x4, z1, z2, z3, z4]
      have y6 : eTup (lCons (eAttr (eName "shown_window") 93 "left") (lCons (eAttr (eName "shown_window") 93 "top") (lCons (eAttr (eName "shown_window") 93 "width") (lCons (eAttr (eName "shown_window") 93 "height") (lCons (eMeth (eName "shown_window") 93 "shown" lNil m_wi_shown) lNil))))) (put (put ρ "number" (.int e.1)) "shown_window" (.obj r.o)) m = some ((entV e).2, m) := by
        rw [← hv]
        simp only [eTup, l_cons y1 (l_cons y2 (l_cons y3 (l_cons y4 (l_cons y5 l_nil)))), bind2_some]
        rfl
      have htk : ((ents 0 0 T).take i).map (·.1) = T.leaves.take i := by rw [List.map_take, ents_fst]
      have hnot : e.1 ∉ (((ents 0 0 T).take i).map entV).map (·.1) := by
        rw [entV_fst, htk]
        intro q
        have hx2 : T.leaves[i]? = some e.1 := by rw [← ents_fst (l := 0) (t := 0) (T := T), List.getElem?_map, he]; rfl
        obtain ⟨j, hj, hj2⟩ := List.mem_take_iff_getElem.mp q
        have h3 : T.leaves[j]? = some e.1 := by rw [List.getElem?_eq_getElem (by exact om186 hj), hj2]
        have h4 : j = i := (List.getElem?_inj (by exact om186 hj) ndl).mp (h3.trans hx2.symm)
        exact om187 hj h4
      have y7 : aSub (eName "found") (eName "number") (entV e).2 (put (put ρ "number" (.int e.1)) "shown_window" (.obj r.o)) m = some (put (put ρ "number" (.int e.1)) "shown_window" (.obj r.o), m.set μ.n (.dict (((ents 0 0 T).take (i + 1)).map entV))) := by
        unfold aSub
        rw [name_of d4]; dsimp only
        rw [name_of d5]; dsimp only
        unfold setItemM
        rw [gd]; dsimp only
        rw [if_pos (by rw [List.length_map, List.length_take]; exact om188 hle hlen), dstore_new hnot, List.take_add_one, he]
        simp [entV]
      refine ⟨_, _, _, _, rfl, (seq_next (st_name f1)).trans ((seq_next (st_assign y6 y7)).trans rfl), by simp [eName, eInt, eNone, eBool, bind2_some, bind2, eAttr, eIf, tCmp, eCmp, tNot, tAnd, tOr, tVal, cv_eq, cv_ne, cv_lt, cv_le, cv_gt, cv_is, isN_none, isN_int, isN_obj, eBin, iBin, eMeth, lCons, lNil, eCall, eSub, eBM, eList, eTup, eDict0, mLen, mList, mDict, mGet, mIndex, mAppend, mExtend, mPop, mDPop, mInsert, mRemove, isList, isDict, bindv_cons, bindv_nil, put_at, ofString_inj, Option.map_some, List.length_cons, List.length_nil, c1], by simp [eName, eInt, eNone, eBool, bind2_some, bind2, eAttr, eIf, tCmp, eCmp, tNot, tAnd, tOr, tVal, cv_eq, cv_ne, cv_lt, cv_le, cv_gt, cv_is, isN_none, isN_int, isN_obj, eBin, iBin, eMeth, lCons, lNil, eCall, eSub, eBM, eList, eTup, eDict0, mLen, mList, mDict, mGet, mIndex, mAppend, mExtend, mPop, mDPop, mInsert, mRemove, isList, isDict, bindv_cons, bindv_nil, put_at, ofString_inj, Option.map_some, List.length_cons, List.length_nil, c2], R.temp M0.r _, temp_step (Nat.le_refl _) _ st, by rw [get_set, if_neg hne]; exact gl, by rw [get_set, if_pos rfl], ll⟩)
    T.leaves.length 200 0 ρ1 μ1 hlen2 (by exact om189 hlen) ⟨a1, a2, M1.R, M0.st.trans M1.st, M1.g, by simpa using g1, M1.l.2⟩
  rw [List.length_map, ← hle, List.take_length] at gd2
  refine hG ⟨μ.n, μ2, run_ret rfl ((seq_next (st_nm e1 hρ)).trans ((seq_next ((forin_at e2).trans h2)).trans (seq_ret (st_ret (name_of c2))))), ⟨R2, st2, gd2, ⟨Nat.le_refl _, ?_⟩, M0.r⟩⟩
  have := M1.l.1
  have := M0.l.2
  omega
theorem h_xsplit (R : RT μ ro S) {kn : Core} (hn : cs S n = some kn) (hs : kn.sort = 0) (hk : kn.kids = []) {ax : Int} (sz : Option Int) (ahead : Bool) {old new : Int} (ho : old = kn.sz ax - newOf (kn.sz ax) sz) (hnw : new = newOf (kn.sz ax) sz) (hbad : old < leastOf ax ∨ new < leastOf ax) :
    ∃ μ', x_split [.obj S.t, .int n, vsz sz, .int ax, .bool ahead] μ = some μ' ∧ RT μ' ro S ∧ Step μ ro μ' ro := by
  obtain ⟨r, hr, hcore⟩ := cs_some hn
  have hrs : r.sort = 0 := (congrArg Core.sort hcore).trans hs
  have hrk : r.kids = [] := (congrArg Core.kids hcore).trans hk
  obtain ⟨μ1, ρ1, f1, R1, s1⟩ := h_split_parts R hr hrs hrk ax sz
  have ho2 : kn.sz ax - new = old := by exact om132 ho hnw
  rw [hcore, ← hnw, ho2, if_pos hbad] at f1
  have f1' : x_split_parts [.obj S.t, .int n, vsz sz, .int ax] μ = some μ1 := run_exc (b := b_split_parts) rfl f1
  refine ⟨μ1, run_exc (b := bx_split) (ρ1 := bindv [("tree" : Str), ("number" : Str), ("size" : Str), ("axis" : Str), ("is_ahead" : Str)] [.obj S.t, .int n, vsz sz, .int ax, .bool ahead]) rfl ?_, R1, s1⟩
  generalize hρ : bindv [("tree" : Str), ("number" : Str), ("size" : Str), ("axis" : Str), ("is_ahead" : Str)] [.obj S.t, .int n, vsz sz, .int ax, .bool ahead] = ρ0
  have a1 : ρ0 "tree" = some (.obj S.t) := lk hρ (by kernel_rfl)
  have a2 : ρ0 "number" = some (.int n) := lk hρ (by kernel_rfl)
  have a3 : ρ0 "size" = some (vsz sz) := lk hρ (by kernel_rfl)
  have a4 : ρ0 "axis" = some (.int ax) := lk hρ (by kernel_rfl)
  unfold bx_split sAssignX xCall
  rw [l_cons (name_of (μ := μ) a1) (l_cons (name_of a2) (l_cons (name_of a3) (l_cons (name_of a4) l_nil)))]
  dsimp only
  rw [f1']; rfl
theorem h_xdel (R : RT μ ro S) (hn : S.ws n = some r) (hp : r.parent = 0) : x_delete_window [.obj S.t, .int n] μ = some μ := by
  generalize hρ : bindv [("tree" : Str), ("number" : Str)] [.obj S.t, .int n] = ρ0
  have a1 : ρ0 "tree" = some (.obj S.t) := lk hρ (by kernel_rfl)
  have a2 : ρ0 "number" = some (.int n) := lk hρ (by kernel_rfl)
  have e1 := h_tmeth (x := "window") R (name_of a1) (fun fs tf => tf.m2) (l_cons (name_of a2) l_nil) (h_window R hn)
  have b1 : put ρ0 "here" (.obj r.o) "here" = some (.obj r.o) := by kernel_rfl
  have e2 := t_eqi (j := 0) (h_fld (x := "parent") R hn (name_of b1) (fun fs wf => wf.parent))
  rw [hp] at e2
  subst hρ
  exact run_exc (b := b_delete_window) rfl ((seq_next (st_name e1)).trans (seq_exc ((if_t e2).trans (seq_exc rfl))))
theorem h_halved (e : Int) (sz : Option Int) : m_law_halved [.int e, vsz sz] μ = some (.tup [.int (e - newOf e sz), .int (newOf e sz)], μ) := by
  generalize hρ : bindv [("entire" : Str), ("part" : Str)] [.int e, vsz sz] = ρ0
  have a1 : ρ0 "entire" = some (.int e) := lk hρ (by kernel_rfl)
  have a2 : ρ0 "part" = some (vsz sz) := lk hρ (by kernel_rfl)
  refine run_ret (b := b_law_halved) (ρ1 := ρ0) rfl ?_
  rw [hρ]
  cases sz with
  | none =>
    have e1 : eBin .FloorDiv (eName "entire") (eInt 2) ρ0 μ = some (.int (e / 2), μ) := bin_at (name_of a1) rfl (by simp [iBin])
    have e2 := bin_at (op := .Sub) (name_of (μ := μ) a1) e1 rfl
    refine seq_ret ((if_t (by simp only [tCmp, name_of a2, eNone, bind2_some, vsz, cv_eq, cv_ne, cv_lt, cv_le, cv_gt, cv_is, isN_none, isN_int, isN_obj, Option.map_some])).trans (seq_ret (st_ret ?_)))
    simp only [eTup, l_cons e2 (l_cons e1 l_nil), bind2_some, newOf]
    rfl
  | some s =>
    refine (seq_next ((if_f (by simp only [tCmp, name_of a2, eNone, bind2_some, vsz, cv_eq, cv_ne, cv_lt, cv_le, cv_gt, cv_is, isN_none, isN_int, isN_obj, Option.map_some])).trans rfl)).trans (seq_ret (st_ret ?_))
    have a2' : ρ0 "part" = some (.int s) := a2
    have t1 : tCmp .Gt (eName "part") (eInt 0) ρ0 μ = some (decide (s > 0), μ) := by
      simp only [tCmp, name_of a2', eInt, bind2_some, cv_eq, cv_ne, cv_lt, cv_le, cv_gt, cv_is, isN_none, isN_int, isN_obj, Option.map_some]
    have e1 := bin_at (op := .Sub) (name_of (μ := μ) a1) (name_of a2') rfl
    have e2 := bin_at (op := .Add) (name_of (μ := μ) a1) (name_of a2') rfl
    have e3 : eBin .Sub (eInt 0) (eName "part") ρ0 μ = some (.int (0 - s), μ) := bin_at rfl (name_of a2') rfl
    simp only [eIf, t1, bind2_some, newOf]
    by_cases h : s > 0
    · rw [decide_eq_true h, if_pos rfl, if_pos h]
      simp only [eTup, l_cons (name_of (μ := μ) a2') (l_cons e1 l_nil), bind2_some]
      rw [show e - (e - s) = s by exact om190]
      rfl
    · rw [decide_eq_false h, if_neg (by simp), if_neg h]
      simp only [eTup, l_cons e2 (l_cons e3 l_nil), bind2_some]
      rw [show e - (0 - s) = e + s by exact om191]
      rfl
end
end Mine
end
section
set_option maxRecDepth 10000
open PySem PySem.W PySem.Calls PyProof.Rows
namespace Mine
structure Dk (xs : List Int) (c : Int) (μ : Mem) (ro : Nat → Option Role) : Prop where
  g0 : μ.get 0 = some (.list (xs.map .int))
  g1 : μ.get 1 = some (.list [.obj 0, .int c])
  r0 : ro 0 = none
  r1 : ro 1 = none
  n2 : 2 ≤ μ.n
  c0 : 0 ≤ c
  len : xs.length ≤ 63
section
variable {μ μ0 μ1 μ' : Mem} {ro ro0 ro' : Nat → Option Role} {S S' : Store} {n : Int} {r : WinR} {ρ : Loc} {T : WT} {xs : List Int} {c : Int}
theorem Dk.step (d : Dk xs c μ ro) (s : Step μ ro μ' ro') : Dk xs c μ' ro' :=
  ⟨(s.keep (by have := d.n2; exact om192 this) d.r0 d.g0).1, (s.keep (by have := d.n2; exact om193 this) d.r1 d.g1).1, (s.keep (by have := d.n2; exact om192 this) d.r0 d.g0).2.1, (s.keep (by have := d.n2; exact om193 this) d.r1 d.g1).2.1, Nat.le_trans d.n2 s.le, d.c0, d.len⟩
theorem draw_raw {many : Int} (g0 : μ.get 0 = some (.list (xs.map .int))) (g1 : μ.get 1 = some (.list [.obj 0, .int c])) (c0 : 0 ≤ c) (hc : c ≤ 900) (hl : xs.length ≤ 63) (hm : 0 < many) :
    ∃ v, m_law_draw [.obj 1, .int many] μ = some (.int v, μ.set 1 (.list [.obj 0, .int (c + 1)])) ∧ 0 ≤ v ∧ v < many := by
  generalize hρ : bindv [("deck" : Str), ("many" : Str)] [.obj 1, .int many] = ρ0
  have a1 : ρ0 "deck" = some (.obj 1) := lk hρ (by kernel_rfl)
  have a2 : ρ0 "many" = some (.int many) := lk hρ (by kernel_rfl)
  have e1 : eSub (eName "deck") (eInt 1) ρ0 μ = some (.int c, μ) := sub_list (name_of a1) rfl g1 (by decide) rfl
  have e2 : eBin .Add (eSub (eName "deck") (eInt 1)) (eInt 1) ρ0 μ = some (.int (c + 1), μ) := bin_at e1 rfl rfl
  have e3 : aSub (eName "deck") (eInt 1) (.int (c + 1)) ρ0 μ = some (ρ0, μ.set 1 (.list [.obj 0, .int (c + 1)])) := by
    unfold aSub
    rw [name_of a1]; dsimp only [eInt]
    unfold setItemM
    rw [g1]; dsimp only
    rw [if_pos (by simp)]
    rfl
  generalize hM : μ.set 1 (.list [.obj 0, .int (c + 1)]) = M at *
  have k1 : M.get 1 = some (.list [.obj 0, .int (c + 1)]) := by rw [← hM, get_set, if_pos rfl]
  have k0 : M.get 0 = some (.list (xs.map .int)) := by rw [← hM, get_set, if_neg (by decide)]; exact g0
  have f1 : eSub (eName "deck") (eInt 1) ρ0 M = some (.int (c + 1), M) := sub_list (name_of a1) rfl k1 (by decide) rfl
  have f0 : eSub (eName "deck") (eInt 0) ρ0 M = some (.obj 0, M) := sub_list (name_of a1) rfl k1 (by decide) rfl
  have f2 := len_at f0 k0 (by rw [List.length_map]; exact om194 hl)
  rw [List.length_map] at f2
  have t1 : tCmp .LtE (eSub (eName "deck") (eInt 1)) (eCall (lCons (eSub (eName "deck") (eInt 0)) lNil) mLen) ρ0 M = some (decide (c + 1 ≤ (xs.length : Int)), M) := by
    simp only [tCmp, f1, f2, bind2_some, cv_eq, cv_ne, cv_lt, cv_le, cv_gt, cv_is, isN_none, isN_int, isN_obj, Option.map_some]
  have hmod : ∀ {e : EM} {x : Int}, e ρ0 M = some (.int x, M) → eBin .Mod e (eName "many") ρ0 M = some (.int (x % many), M) := fun h => bin_at h (name_of a2) (by simp only [iBin, if_pos hm])
  by_cases h : c + 1 ≤ (xs.length : Int)
  · rw [decide_eq_true h] at t1
    have e4 : eBin .Sub (eSub (eName "deck") (eInt 1)) (eInt 1) ρ0 M = some (.int c, M) := bin_at f1 rfl (by show some (c + 1 - 1) = _; congr 1; exact om195)
    obtain ⟨v, hv⟩ : ∃ v, xs[c.toNat]? = some v := ⟨_, List.getElem?_eq_getElem (by exact om196 c0 h)⟩
    have e5 := sub_list f0 e4 k0 (by exact om197 c0 hc) (v := .int v) (by rw [List.getElem?_map, hv]; rfl)
    refine ⟨v % many, ?_, Int.emod_nonneg _ (by exact om6 hm), Int.emod_lt_of_pos _ hm⟩
    exact run_retH (b := b_law_draw) hρ rfl ((seq_next (st_assign e2 e3)).trans (seq_ret ((if_t t1).trans (seq_ret (st_ret (hmod e5))))))
  · rw [decide_eq_false h] at t1
    have hlc : c + 1 < 2 ^ 31 := by exact om198 hc
    have hq : (c + 1) * (c + 1) ≤ 901 * 901 := Int.mul_le_mul (by exact om199 hc) (by exact om199 hc) (by exact om59 c0) (by decide)
    have hq0 : 0 ≤ (c + 1) * (c + 1) := Int.mul_nonneg (by exact om59 c0) (by exact om59 c0)
    have m1 := bin_at (op := .Mult) f1 f1 (c := (c + 1) * (c + 1)) (by simp only [iBin]; rw [if_pos (by exact om200 c0 hc)])
    generalize (c + 1) * (c + 1) = sq at *
    have m2 := bin_at (op := .Mult) (e2 := eInt 37) m1 rfl (c := sq * 37) (by simp only [iBin]; rw [if_pos (by exact om201 hq0 hq)])
    have m3 := bin_at (op := .Mult) (e1 := eInt 23) (ρ := ρ0) (μ := M) (a := 23) rfl f1 (c := 23 * (c + 1)) (by simp only [iBin]; rw [if_pos (by exact om202 c0 hc)])
    have m4 := bin_at (op := .Mult) (e1 := eInt 7) (ρ := ρ0) (μ := M) (a := 7) rfl f2 (c := 7 * (xs.length : Int)) (by simp only [iBin]; rw [if_pos (by exact om203 hl)])
    have m5 := bin_at (op := .Add) (bin_at (op := .Add) m2 m3 rfl) m4 rfl
    have m6 := bin_at (op := .FloorDiv) (e2 := eInt 5) m5 rfl (c := (sq * 37 + 23 * (c + 1) + 7 * (xs.length : Int)) / 5) (by simp [iBin])
    refine ⟨(sq * 37 + 23 * (c + 1) + 7 * (xs.length : Int)) / 5 % many, ?_, Int.emod_nonneg _ (by exact om6 hm), Int.emod_lt_of_pos _ hm⟩
    exact run_retH (b := b_law_draw) hρ rfl ((seq_next (st_assign e2 e3)).trans ((seq_next ((if_f t1).trans rfl)).trans (seq_ret (st_ret (hmod m6)))))
theorem Dk.draw {many : Int} (d : Dk xs c μ ro) (R : RT μ ro S) (hc : c ≤ 900) (hm : 0 < many) : ∃ v μ', m_law_draw [.obj 1, .int many] μ = some (.int v, μ') ∧ 0 ≤ v ∧ v < many ∧ RT μ' ro S ∧ Dk xs (c + 1) μ' ro ∧ μ'.n = μ.n ∧ ∀ j, j ≠ 1 → μ'.get j = μ.get j := by
  obtain ⟨v, h1, h2, h3⟩ := draw_raw d.g0 d.g1 d.c0 hc d.len hm
  refine ⟨v, _, h1, h2, h3, R.temp d.r1 _, ⟨by rw [get_set, if_neg (by decide)]; exact d.g0, by rw [get_set, if_pos rfl], d.r0, d.r1, d.n2, by have := d.c0; exact om59 this, d.len⟩, rfl, fun j hj => by rw [get_set, if_neg hj]⟩
theorem same_o {r' : WinR} (R : RT μ ro S) (st : Step μ ro μ' ro') (R' : RT μ' ro' S') (h : S.ws n = some r) (h' : S'.ws n = some r') : r'.o = r.o := by
  have h1 := (R.rw n r h).1
  have h2 := R.lt _ _ h1
  exact (R'.uq r.o n (by rw [st.ro _ h2]; exact h1)).2 r' h'
end
end Mine
end
section
set_option maxRecDepth 10000
open PySem PySem.W PySem.Calls PyProof.Rows
namespace Mine
section
variable {μ μ0 μ1 μ' : Mem} {ρ : Loc}
theorem at_fld {eo : EM} {C : Addr} {x : Str} {k : Nat} {fs : List (Str × V)} {v : V} (ho : eo ρ μ = some (.obj k, μ)) (hg : μ.get k = some (.inst C fs)) (hf : fget fs x = some v) : eAttr eo C x ρ μ = some (v, μ) := by
  simp only [eAttr, ho, bind2_some, hg, reduceIte, hf, Option.map_some]
theorem at_meth {eo : EM} {C : Addr} {ms : LM} {m : FM} {x : Str} {k : Nat} {fs : List (Str × V)} {vs : List V} {v : V} (ho : eo ρ μ = some (.obj k, μ)) (hg : μ.get k = some (.inst C fs)) (hx : fget fs x = none) (hm : ms ρ μ = some (vs, μ)) (h : m (.obj k :: vs) μ = some (v, μ')) : eMeth eo C x ms m ρ μ = some (v, μ') := by
  simp only [eMeth, ho, bind2_some, hg, hx, and_self, reduceIte, hm, h]
theorem fresh_raw {t wd : Nat} {fs : List (Str × V)} (a : μ.get t = some (.inst 164 fs)) (hl : fs.length ≤ 20) (f1 : fget fs "last" = some (.int 0)) (f2 : fget fs "windows" = some (.obj wd)) (hne : t ≠ wd) (lt1 : t < μ.n) (lt2 : wd < μ.n) (d : μ.get wd = some (.dict [])) :
    ∃ M, m_wt_fresh [.obj t, .int 0, .int 0] μ = some (.obj μ.n, M) ∧ M.n = μ.n + 4 ∧ M.get t = some (.inst 164 (fput "last" (.int 1) fs)) ∧ M.get wd = some (.dict [(1, .obj μ.n)]) ∧
      (∃ fw, M.get μ.n = some (.inst 93 fw) ∧ WF 1 ⟨μ.n, μ.n + 1, μ.n + 1 + 1, 0, 0, 0, 0, 0, 0, 0, 1, 1, 0, []⟩ fw ∧ (fget fw "use_time").isSome = true) ∧ M.get (μ.n + 1) = some (.list []) ∧ M.get (μ.n + 1 + 1) = some (.list []) ∧ ∀ j, j < μ.n → j ≠ t → j ≠ wd → M.get j = μ.get j := by
  refine byc fun hG => ?_
  generalize hM1 : μ.set t (.inst 164 (fput "last" (.int 1) fs)) = M1
  have g1 : M1.get t = some (.inst 164 (fput "last" (.int 1) fs)) := by rw [← hM1, get_set, if_pos rfl]
  have n1 : M1.n = μ.n := by rw [← hM1]; rfl
  have k1 : ∀ j, j ≠ t → M1.get j = μ.get j := fun j h => by rw [← hM1, get_set, if_neg h]
  have fl : fget (fput "last" (.int 1) fs) "last" = some (.int 1) := by rw [fget_fput, if_pos rfl]
  have fw' : fget (fput "last" (.int 1) fs) "windows" = some (.obj wd) := by rw [fget_fput, if_neg (by simp [ofString_inj])]; exact f2
  obtain ⟨M3, hw, n3, ⟨fw, g3, wf, hu⟩, g4, g5, k3⟩ := h_winit (M1.new (.inst 93 [])) M1.n (by rw [get_new, if_pos rfl]) (by rw [n_new]; exact om62) 1 0 0
  rw [n_new] at n3 g4 g5 k3 wf
  have k3' : ∀ j, j < μ.n → M3.get j = M1.get j := fun j h => by
    rw [k3 j (by exact om63 h n1) (by exact om64 h n1), get_new, if_neg (by exact om63 h n1)]
  generalize hρ : bindv [("self" : Str), ("sort" : Str), ("parent" : Str)] [.obj t, .int 0, .int 0] = ρ
  have hs : ∀ m, eName "self" ρ m = some (.obj t, m) := fun m => nm (lk hρ (by kernel_rfl))
  have gw3 : M3.get wd = some (.dict []) := by rw [k3' _ lt2, k1 _ (Ne.symm hne)]; exact d
  have gt3 : M3.get t = some (.inst 164 (fput "last" (.int 1) fs)) := by rw [k3' _ lt1]; exact g1
  have key : b_wt_fresh ρ μ = some (.ret (.obj M1.n), put ρ "found" (.obj M1.n), M3.set wd (.dict [(1, .obj M1.n)])) := by
    have e1 : eBin .Add (eAttr (eName "self") 164 "last") (eInt 1) ρ μ = some (.int 1, μ) := by
      simp only [eBin, eAttr, hs, bind2_some, a, reduceIte, f1, Option.map_some, eInt, iBin]
      rfl
    have e2 : lCons (eAttr (eName "self") 164 "last") (lCons (eName "sort") (lCons (eName "parent") lNil)) ρ M1 = some ([.int 1, .int 0, .int 0], M1) := by
      rw [← hρ]; simp [eName, eInt, eNone, eBool, bind2_some, bind2, eAttr, eIf, tCmp, eCmp, tNot, tAnd, tOr, tVal, cv_eq, cv_ne, cv_lt, cv_le, cv_gt, cv_is, isN_none, isN_int, isN_obj, eBin, iBin, eMeth, lCons, lNil, eCall, eSub, eBM, eList, eTup, eDict0, mLen, mList, mDict, mGet, mIndex, mAppend, mExtend, mPop, mDPop, mInsert, mRemove, isList, isDict, bindv_cons, bindv_nil, put_at, ofString_inj, Option.map_some, List.length_cons, List.length_nil, g1, fl]
    have e3 : eCall (lCons (eAttr (eName "self") 164 "last") (lCons (eName "sort") (lCons (eName "parent") lNil))) (mNew 93 m_wi_init) ρ M1 = some (.obj M1.n, M3) := by
      unfold eCall
      rw [e2, bind2_some]
      unfold mNew
      rw [hw]
    have e4 : eAttr (eName "self") 164 "windows" (put ρ "found" (.obj M1.n)) M3 = some (.obj wd, M3) := by
      rw [← hρ]; simp [eName, eInt, eNone, eBool, bind2_some, bind2, eAttr, eIf, tCmp, eCmp, tNot, tAnd, tOr, tVal, cv_eq, cv_ne, cv_lt, cv_le, cv_gt, cv_is, isN_none, isN_int, isN_obj, eBin, iBin, eMeth, lCons, lNil, eCall, eSub, eBM, eList, eTup, eDict0, mLen, mList, mDict, mGet, mIndex, mAppend, mExtend, mPop, mDPop, mInsert, mRemove, isList, isDict, bindv_cons, bindv_nil, put_at, ofString_inj, Option.map_some, List.length_cons, List.length_nil, gt3, fw']
    have e5 : eAttr (eName "self") 164 "last" (put ρ "found" (.obj M1.n)) M3 = some (.int 1, M3) := by
      rw [← hρ]; simp [eName, eInt, eNone, eBool, bind2_some, bind2, eAttr, eIf, tCmp, eCmp, tNot, tAnd, tOr, tVal, cv_eq, cv_ne, cv_lt, cv_le, cv_gt, cv_is, isN_none, isN_int, isN_obj, eBin, iBin, eMeth, lCons, lNil, eCall, eSub, eBM, eList, eTup, eDict0, mLen, mList, mDict, mGet, mIndex, mAppend, mExtend, mPop, mDPop, mInsert, mRemove, isList, isDict, bindv_cons, bindv_nil, put_at, ofString_inj, Option.map_some, List.length_cons, List.length_nil, gt3, fl]
    have e6 : aSub (eAttr (eName "self") 164 "windows") (eAttr (eName "self") 164 "last") (.obj M1.n) (put ρ "found" (.obj M1.n)) M3 = some (put ρ "found" (.obj M1.n), M3.set wd (.dict [(1, .obj M1.n)])) := by
      unfold aSub
      rw [e4]; dsimp only
      rw [e5]; dsimp only
      unfold setItemM
      rw [gw3]; dsimp only
      rw [if_pos (by simp)]
      rfl
    have e7 : ∀ m, eName "found" (put ρ "found" (.obj M1.n)) m = some (.obj M1.n, m) := fun m => by simp [eName, eInt, eNone, eBool, bind2_some, bind2, eAttr, eIf, tCmp, eCmp, tNot, tAnd, tOr, tVal, cv_eq, cv_ne, cv_lt, cv_le, cv_gt, cv_is, isN_none, isN_int, isN_obj, eBin, iBin, eMeth, lCons, lNil, eCall, eSub, eBM, eList, eTup, eDict0, mLen, mList, mDict, mGet, mIndex, mAppend, mExtend, mPop, mDPop, mInsert, mRemove, isList, isDict, bindv_cons, bindv_nil, put_at, ofString_inj, Option.map_some, List.length_cons, List.length_nil]
    unfold b_wt_fresh
    rw [seq_next (st_set e1 (hs _) a hl), hM1, seq_next (st_name e3), seq_next (st_assign (e7 _) e6)]
    exact seq_ret (st_ret (e7 _))
  refine hG ⟨M3.set wd (.dict [(1, .obj M1.n)]), ?_, ?_, ?_, ?_, ⟨fw, ?_, ?_, hu⟩, ?_, ?_, fun j h1 h2 h3 => ?_⟩
  · rw [← n1]
    exact run_ret rfl (by rw [hρ]; exact key)
  · rw [n_set, n3]; exact om204 n1
  · rw [get_set, if_neg hne]; exact gt3
  · rw [get_set, if_pos rfl, n1]
  · rw [get_set, if_neg (by exact om94 lt2), ← n1]; exact g3
  · rw [← n1]; exact wf
  · rw [get_set, if_neg (by exact om205 lt2), ← n1]; exact g4
  · rw [get_set, if_neg (by exact om206 lt2), ← n1]; exact g5
  · rw [get_set, if_neg h3, k3' j h1, k1 j h2]
theorem rt_start {M : Mem} {k : Nat} {fs fw : List (Str × V)} {W H : Int} (hn : k + 5 ≤ M.n) (g0 : M.get k = some (.inst 164 fs)) (tf : TF ⟨k, k + 1, 1, 1, fun m => if m = 1 then some ⟨k + 2, k + 3, k + 4, 0, 0, 0, 0, W, H, 7, 1, 1, 0, []⟩ else none⟩ fs)
    (g1 : M.get (k + 1) = some (.dict [(1, .obj (k + 2))])) (g2 : M.get (k + 2) = some (.inst 93 fw)) (wf : WF 1 ⟨k + 2, k + 3, k + 4, 0, 0, 0, 0, W, H, 7, 1, 1, 0, []⟩ fw) (g3 : M.get (k + 3) = some (.list [])) (g4 : M.get (k + 4) = some (.list [])) :
    RT M (fun j => if j = k then some .tree else if j = k + 1 then some .dict else if j = k + 2 then some (.win 1) else if j = k + 3 then some (.kids 1) else if j = k + 4 then some .earl else none) ⟨k, k + 1, 1, 1, fun m => if m = 1 then some ⟨k + 2, k + 3, k + 4, 0, 0, 0, 0, W, H, 7, 1, 1, 0, []⟩ else none⟩ := by
  have only : ∀ {n : Int} {r : WinR}, (if n = 1 then some (⟨k + 2, k + 3, k + 4, 0, 0, 0, 0, W, H, 7, 1, 1, 0, []⟩ : WinR) else none) = some r → n = 1 ∧ r = ⟨k + 2, k + 3, k + 4, 0, 0, 0, 0, W, H, 7, 1, 1, 0, []⟩ := fun {n r} e => by
    split at e
    · rename_i h; cases e; exact ⟨h, rfl⟩
    · cases e
  refine ⟨⟨fs, g0, tf⟩, ⟨_, g1, by simp, fun n => ?_⟩, fun n r e => ?_, fun n r e => ?_, fun n r e => ?_, ?_, ?_, fun n r e => ?_, fun j R e => ?_, fun n h => ?_, by simp, by simp, fun j n e => ?_⟩
  · show _ = Option.map _ (if n = 1 then _ else _)
    by_cases h : n = 1
    · subst h; simp
    · rw [if_neg h, List.find?_cons_of_neg (by simp; exact om207 h)]; rfl
  · obtain ⟨rfl, rfl⟩ := only e
    exact ⟨fw, g2, wf⟩
  · obtain ⟨rfl, rfl⟩ := only e
    exact g3
  · obtain ⟨rfl, rfl⟩ := only e
    exact g4
  · simp
  · simp
  · obtain ⟨rfl, rfl⟩ := only e
    simp
  · split at e
    · omega
    · split at e
      · omega
      · split at e
        · omega
        · split at e
          · omega
          · split at e
            · omega
            · cases e
  · have h' : (1 : Int) < n := h
    show (if n = 1 then _ else none) = none
    rw [if_neg (by exact om208 h')]
  · split at e
    · cases e
    · split at e
      · cases e
      · split at e
        · rename_i hj
          cases e
          refine ⟨Int.le_refl _, fun r hr => ?_⟩
          obtain ⟨_, rfl⟩ := only (n := 1) hr
          exact hj.symm
        · split at e
          · cases e
          · split at e
            · cases e
            · cases e
theorem h_init (μ : Mem) (W H : Int) : ∃ μ' ro S, mNew 164 m_wt_init [.int W, .int H, .int 7, .int 3, .int 2] μ = some (.obj S.t, μ') ∧ Inv μ' ro S (.leaf 1 W H (7, 1, 1, 0)) ∧ S.last = 1 ∧ (∀ j, j < μ.n → μ'.get j = μ.get j ∧ ro j = none) ∧ μ.n ≤ μ'.n := by
  generalize hk : μ.n = k
  refine byc fun hG => ?_
  generalize hρ : bindv [("self" : Str), ("width" : Str), ("height" : Str), ("buffer" : Str), ("least_width" : Str), ("least_height" : Str)] [.obj k, .int W, .int H, .int 7, .int 3, .int 2] = ρ
  have hs : ρ "self" = some (.obj k) := lk hρ (by kernel_rfl)
  have a1 : ρ "width" = some (.int W) := lk hρ (by kernel_rfl)
  have a2 : ρ "height" = some (.int H) := lk hρ (by kernel_rfl)
  have a3 : ρ "buffer" = some (.int 7) := lk hρ (by kernel_rfl)
  have a4 : ρ "least_width" = some (.int 3) := lk hρ (by kernel_rfl)
  have a5 : ρ "least_height" = some (.int 2) := lk hρ (by kernel_rfl)
  have Z : ∀ {ρ : Loc} {m : Mem} {fs : List (Str × V)} {x : Str} {v : V} {e : EM} {rest : SM}, ρ "self" = some (.obj k) → m.get k = some (.inst 164 fs) → fs.length ≤ 20 → e ρ m = some (v, m) →
      ∃ m', sSeq (sAssign e (aAttr (eName "self") 164 x)) rest ρ m = rest ρ m' ∧ m'.get k = some (.inst 164 (fput x v fs)) ∧ (∀ j, j ≠ k → m'.get j = m.get j) ∧ m'.n = m.n := fun {ρ m fs x v e rest} hs hg hl he =>
    ⟨_, seq_next (st_set he (name_of hs) hg hl), by rw [get_set, if_pos rfl], fun j hj => by rw [get_set, if_neg hj], rfl⟩
  -- the dictionary
  have p0 : (μ.new (.inst 164 [])).get k = some (.inst 164 []) := by rw [get_new, hk, if_pos rfl]
  have o0 : ∀ j, j < k → (μ.new (.inst 164 [])).get j = μ.get j := fun j hj => by rw [get_new, hk, if_neg (by exact om47 hj)]
  have n0 : (μ.new (.inst 164 [])).n = k + 1 := by rw [n_new, hk]
  generalize hm0 : μ.new (.inst 164 []) = m0 at *
  have e1 : eDict0 ρ m0 = some (.obj (k + 1), m0.new (.dict [])) := by rw [← n0]; rfl
  have p1 : (m0.new (.dict [])).get k = some (.inst 164 []) := by rw [get_new, n0, if_neg (by exact om70)]; exact p0
  have o1 : ∀ j, j < k → (m0.new (.dict [])).get j = μ.get j := fun j hj => by rw [get_new, n0, if_neg (by exact om52 hj)]; exact o0 j hj
  have w1 : (m0.new (.dict [])).get (k + 1) = some (.dict []) := by rw [get_new, n0, if_pos rfl]
  have n1 : (m0.new (.dict [])).n = k + 2 := by rw [n_new, n0]
  generalize hm1 : m0.new (.dict []) = m1 at *
  have s1 := st_assign e1 (at_set (mo := eName "self") (x := "windows") (name_of (μ := m1) hs) p1 (by simp))
  have p2 : (m1.set k (.inst 164 (fput "windows" (.obj (k + 1)) []))).get k = some (.inst 164 [(("windows" : Str), .obj (k + 1))]) := by rw [get_set, if_pos rfl]; rfl
  have o2 : ∀ j, j ≠ k → (m1.set k (.inst 164 (fput "windows" (.obj (k + 1)) []))).get j = m1.get j := fun j hj => by rw [get_set, if_neg hj]
  have n2 : (m1.set k (.inst 164 (fput "windows" (.obj (k + 1)) []))).n = k + 2 := by rw [n_set, n1]
  generalize m1.set k (.inst 164 (fput "windows" (.obj (k + 1)) [])) = m2 at *
  -- plain fields
  obtain ⟨m3, t3, p3, o3, n3⟩ := Z (x := "last") (v := .int 0) (e := eInt 0) (rest := (sSeq (sAssign (eInt 0) (aAttr (eName "self") 164 "clock"))
  (sSeq (sAssign (eName "least_width") (aAttr (eName "self") 164 "least_width"))
  (sSeq (sAssign (eName "least_height") (aAttr (eName "self") 164 "least_height"))
  (sSeq (sAssign (eMeth (eName "self") 164 "fresh" (lCons (eInt 0) (lCons (eInt 0) lNil)) m_wt_fresh) (aName "first"))
  (sSeq (sAssign (eName "width") (aAttr (eName "first") 93 "width"))
  (sSeq (sAssign (eName "height") (aAttr (eName "first") 93 "height"))
  (sSeq (sAssign (eName "buffer") (aAttr (eName "first") 93 "buffer"))
  (sSeq (sAssign (eAttr (eName "first") 93 "number") (aAttr (eName "self") 164 "root"))
  (sSeq (sAssign (eAttr (eName "first") 93 "number") (aAttr (eName "self") 164 "selected"))
  (sSeq (sExpr (eMeth (eName "self") 164 "touch" (lCons (eAttr (eName "first") 93 "number") lNil) m_wt_touch))
  sNil))))))))))) hs p2 (by simp) rfl
  obtain ⟨m4, t4, p4, o4, n4⟩ := Z (x := "clock") (v := .int 0) (e := eInt 0) (rest := (sSeq (sAssign (eName "least_width") (aAttr (eName "self") 164 "least_width"))
  (sSeq (sAssign (eName "least_height") (aAttr (eName "self") 164 "least_height"))
  (sSeq (sAssign (eMeth (eName "self") 164 "fresh" (lCons (eInt 0) (lCons (eInt 0) lNil)) m_wt_fresh) (aName "first"))
  (sSeq (sAssign (eName "width") (aAttr (eName "first") 93 "width"))
  (sSeq (sAssign (eName "height") (aAttr (eName "first") 93 "height"))
  (sSeq (sAssign (eName "buffer") (aAttr (eName "first") 93 "buffer"))
  (sSeq (sAssign (eAttr (eName "first") 93 "number") (aAttr (eName "self") 164 "root"))
  (sSeq (sAssign (eAttr (eName "first") 93 "number") (aAttr (eName "self") 164 "selected"))
  (sSeq (sExpr (eMeth (eName "self") 164 "touch" (lCons (eAttr (eName "first") 93 "number") lNil) m_wt_touch))
  sNil)))))))))) hs p3 (Nat.le_of_ble_eq_true (by kernel_rfl)) rfl
  obtain ⟨m5, t5, p5, o5, n5⟩ := Z (x := "least_width") (v := .int 3) (e := eName "least_width") (rest := (sSeq (sAssign (eName "least_height") (aAttr (eName "self") 164 "least_height"))
  (sSeq (sAssign (eMeth (eName "self") 164 "fresh" (lCons (eInt 0) (lCons (eInt 0) lNil)) m_wt_fresh) (aName "first"))
  (sSeq (sAssign (eName "width") (aAttr (eName "first") 93 "width"))
  (sSeq (sAssign (eName "height") (aAttr (eName "first") 93 "height"))
  (sSeq (sAssign (eName "buffer") (aAttr (eName "first") 93 "buffer"))
  (sSeq (sAssign (eAttr (eName "first") 93 "number") (aAttr (eName "self") 164 "root"))
  (sSeq (sAssign (eAttr (eName "first") 93 "number") (aAttr (eName "self") 164 "selected"))
  (sSeq (sExpr (eMeth (eName "self") 164 "touch" (lCons (eAttr (eName "first") 93 "number") lNil) m_wt_touch))
  sNil))))))))) hs p4 (Nat.le_of_ble_eq_true (by kernel_rfl)) (name_of a4)
  obtain ⟨m6, t6, p6, o6, n6⟩ := Z (x := "least_height") (v := .int 2) (e := eName "least_height") (rest := (sSeq (sAssign (eMeth (eName "self") 164 "fresh" (lCons (eInt 0) (lCons (eInt 0) lNil)) m_wt_fresh) (aName "first"))
  (sSeq (sAssign (eName "width") (aAttr (eName "first") 93 "width"))
  (sSeq (sAssign (eName "height") (aAttr (eName "first") 93 "height"))
  (sSeq (sAssign (eName "buffer") (aAttr (eName "first") 93 "buffer"))
  (sSeq (sAssign (eAttr (eName "first") 93 "number") (aAttr (eName "self") 164 "root"))
  (sSeq (sAssign (eAttr (eName "first") 93 "number") (aAttr (eName "self") 164 "selected"))
  (sSeq (sExpr (eMeth (eName "self") 164 "touch" (lCons (eAttr (eName "first") 93 "number") lNil) m_wt_touch))
  sNil)))))))) hs p5 (Nat.le_of_ble_eq_true (by kernel_rfl)) (name_of a5)
  have q6 : m6.get k = some (.inst 164 [(("windows" : Str), .obj (k + 1)), (("last" : Str), .int 0), (("clock" : Str), .int 0), (("least_width" : Str), .int 3), (("least_height" : Str), .int 2)]) := by
    exact p6.trans (by kernel_rfl)
  have r6 : ∀ j, j ≠ k → m6.get j = m1.get j := fun j hj => by rw [o6 j hj, o5 j hj, o4 j hj, o3 j hj, o2 j hj]
  have l6 : m6.n = k + 2 := by rw [n6, n5, n4, n3, n2]
  -- the first window
  obtain ⟨m7, f7, n7, g7, w7, ⟨fw, x7, wf7, u7⟩, y7, z7, o7⟩ := fresh_raw (t := k) (wd := k + 1) q6 (by simp) (by kernel_rfl) (by kernel_rfl) (by exact om70) (by exact om209 n2 n3 n4 n5 n6) (by exact om210 n2 n3 n4 n5 n6) (by rw [r6 _ (by exact om211)]; exact w1)
  rw [l6] at f7 n7 w7 x7 wf7 y7 z7 o7
  have e7 : eMeth (eName "self") 164 "fresh" (lCons (eInt 0) (lCons (eInt 0) lNil)) m_wt_fresh ρ m6 = some (.obj (k + 2), m7) := by
    have hl : lCons (eInt 0) (lCons (eInt 0) lNil) ρ m6 = some ([.int 0, .int 0], m6) := rfl
    exact at_meth (name_of hs) q6 (by kernel_rfl) hl f7
  have g7' : m7.get k = some (.inst 164 [(("windows" : Str), .obj (k + 1)), (("last" : Str), .int 1), (("clock" : Str), .int 0), (("least_width" : Str), .int 3), (("least_height" : Str), .int 2)]) := by
    exact g7.trans (by kernel_rfl)
  generalize hρ2 : put ρ "first" (.obj (k + 2)) = ρ2
  have b0 : ρ2 "self" = some (.obj k) := lk2 hρ2 (by kernel_rfl) hs
  have b1 : ρ2 "width" = some (.int W) := lk2 hρ2 (by kernel_rfl) a1
  have b2 : ρ2 "height" = some (.int H) := lk2 hρ2 (by kernel_rfl) a2
  have b3 : ρ2 "buffer" = some (.int 7) := lk2 hρ2 (by kernel_rfl) a3
  have b4 : ρ2 "first" = some (.obj (k + 2)) := lk hρ2 (by kernel_rfl)
  have v1 := wf7.put_width W
  have v2 := v1.put_height H
  have v3 := v2.put_buffer 7
  have u3 : (fget (fput "buffer" (.int 7) (fput "height" (.int H) (fput "width" (.int W) fw))) "use_time").isSome = true := by
    rw [fget_fput, if_neg (by simp [ofString_inj]), fget_fput, if_neg (by simp [ofString_inj]), fget_fput, if_neg (by simp [ofString_inj])]; exact u7
  have s8 := st_set (x := "width") (name_of (μ := m7) b1) (name_of b4) x7 wf7.len
  have s9 := st_set (x := "height") (name_of (μ := m7.set (k + 2) (.inst 93 (fput "width" (.int W) fw))) b2) (name_of b4) (by rw [get_set, if_pos rfl]) v1.len
  have s10 := st_set (x := "buffer") (name_of (μ := (m7.set (k + 2) (.inst 93 (fput "width" (.int W) fw))).set (k + 2) (.inst 93 (fput "height" (.int H) (fput "width" (.int W) fw)))) b3) (name_of b4) (by rw [get_set, if_pos rfl]) v2.len
  generalize hm10 : ((m7.set (k + 2) (.inst 93 (fput "width" (.int W) fw))).set (k + 2) (.inst 93 (fput "height" (.int H) (fput "width" (.int W) fw)))).set (k + 2) (.inst 93 (fput "buffer" (.int 7) (fput "height" (.int H) (fput "width" (.int W) fw)))) = m10 at *
  generalize fput "buffer" (.int 7) (fput "height" (.int H) (fput "width" (.int W) fw)) = fw10 at *
  have x10 : m10.get (k + 2) = some (.inst 93 fw10) := by rw [← hm10, get_set, if_pos rfl]
  have o10 : ∀ j, j ≠ k + 2 → m10.get j = m7.get j := fun j hj => by rw [← hm10, get_set, if_neg hj, get_set, if_neg hj, get_set, if_neg hj]
  have n10 : m10.n = k + 2 + 4 := by rw [← hm10]; exact n7
  have num : ∀ {m : Mem}, m.get (k + 2) = some (.inst 93 fw10) → eAttr (eName "first") 93 "number" ρ2 m = some (.int 1, m) := fun {m} h => by
    simp only [eAttr, name_of b4, bind2_some, h, reduceIte, v3.number, Option.map_some]
  have g10 : m10.get k = some (.inst 164 [(("windows" : Str), .obj (k + 1)), (("last" : Str), .int 1), (("clock" : Str), .int 0), (("least_width" : Str), .int 3), (("least_height" : Str), .int 2)]) := by rw [o10 _ (by exact om212)]; exact g7'
  obtain ⟨m11, t11, p11, o11, n11⟩ := Z (x := "root") (v := .int 1) (e := eAttr (eName "first") 93 "number") (rest := (sSeq (sAssign (eAttr (eName "first") 93 "number") (aAttr (eName "self") 164 "selected"))
  (sSeq (sExpr (eMeth (eName "self") 164 "touch" (lCons (eAttr (eName "first") 93 "number") lNil) m_wt_touch))
  sNil))) b0 g10 (by simp) (num x10)
  obtain ⟨m12, t12, p12, o12, n12⟩ := Z (x := "selected") (v := .int 1) (e := eAttr (eName "first") 93 "number") (rest := (sSeq (sExpr (eMeth (eName "self") 164 "touch" (lCons (eAttr (eName "first") 93 "number") lNil) m_wt_touch))
  sNil)) b0 p11 (Nat.le_of_ble_eq_true (by kernel_rfl)) (num (by rw [o11 _ (by exact om213)]; exact x10))
  have g12 : m12.get k = some (.inst 164 [(("windows" : Str), .obj (k + 1)), (("last" : Str), .int 1), (("clock" : Str), .int 0), (("least_width" : Str), .int 3), (("least_height" : Str), .int 2), (("root" : Str), .int 1), (("selected" : Str), .int 1)]) := by
    exact p12.trans (by kernel_rfl)
  have x12 : m12.get (k + 2) = some (.inst 93 fw10) := by rw [o12 _ (by exact om213), o11 _ (by exact om213)]; exact x10
  have w12 : m12.get (k + 1) = some (.dict [(1, .obj (k + 2))]) := by rw [o12 _ (by exact om211), o11 _ (by exact om211), o10 _ (by exact om214)]; exact w7
  -- the touch
  have touch : ∃ m14, m_wt_touch [.obj k, .int 1] m12 = some (.none, m14) ∧ m14.get k = some (.inst 164 [(("windows" : Str), .obj (k + 1)), (("last" : Str), .int 1), (("clock" : Str), .int 1), (("least_width" : Str), .int 3), (("least_height" : Str), .int 2), (("root" : Str), .int 1), (("selected" : Str), .int 1)]) ∧ m14.get (k + 2) = some (.inst 93 (fput "use_time" (.int 1) fw10)) ∧ (∀ j, j ≠ k → j ≠ k + 2 → m14.get j = m12.get j) ∧ m14.n = m12.n := by
    generalize hτ : bindv [("self" : Str), ("number" : Str)] [.obj k, .int 1] = τ
    have d0 : τ "self" = some (.obj k) := by rw [← hτ]; simp [eName, eInt, eNone, eBool, bind2_some, bind2, eAttr, eIf, tCmp, eCmp, tNot, tAnd, tOr, tVal, cv_eq, cv_ne, cv_lt, cv_le, cv_gt, cv_is, isN_none, isN_int, isN_obj, eBin, iBin, eMeth, lCons, lNil, eCall, eSub, eBM, eList, eTup, eDict0, mLen, mList, mDict, mGet, mIndex, mAppend, mExtend, mPop, mDPop, mInsert, mRemove, isList, isDict, bindv_cons, bindv_nil, put_at, ofString_inj, Option.map_some, List.length_cons, List.length_nil]
    have d1 : τ "number" = some (.int 1) := by rw [← hτ]; simp [eName, eInt, eNone, eBool, bind2_some, bind2, eAttr, eIf, tCmp, eCmp, tNot, tAnd, tOr, tVal, cv_eq, cv_ne, cv_lt, cv_le, cv_gt, cv_is, isN_none, isN_int, isN_obj, eBin, iBin, eMeth, lCons, lNil, eCall, eSub, eBM, eList, eTup, eDict0, mLen, mList, mDict, mGet, mIndex, mAppend, mExtend, mPop, mDPop, mInsert, mRemove, isList, isDict, bindv_cons, bindv_nil, put_at, ofString_inj, Option.map_some, List.length_cons, List.length_nil]
    have h1 : eBin .Add (eAttr (eName "self") 164 "clock") (eInt 1) τ m12 = some (.int 1, m12) := by
      refine bin_at (a := 0) ?_ rfl rfl
      exact at_fld (name_of d0) g12 (by kernel_rfl)
    obtain ⟨m13, t13, p13, o13, n13⟩ := Z (x := "clock") (v := .int 1) (e := eBin .Add (eAttr (eName "self") 164 "clock") (eInt 1)) (rest := (sSeq (sAssign (eAttr (eName "self") 164 "clock") (aAttr (eSub (eAttr (eName "self") 164 "windows") (eName "number")) 93 "use_time"))
  sNil)) d0 g12 (by simp) h1
    have g13 : m13.get k = some (.inst 164 [(("windows" : Str), .obj (k + 1)), (("last" : Str), .int 1), (("clock" : Str), .int 1), (("least_width" : Str), .int 3), (("least_height" : Str), .int 2), (("root" : Str), .int 1), (("selected" : Str), .int 1)]) := by
      exact p13.trans (by kernel_rfl)
    have x13 : m13.get (k + 2) = some (.inst 93 fw10) := by rw [o13 _ (by exact om213)]; exact x12
    have w13 : m13.get (k + 1) = some (.dict [(1, .obj (k + 2))]) := by rw [o13 _ (by exact om211)]; exact w12
    have h2 : eAttr (eName "self") 164 "clock" τ m13 = some (.int 1, m13) := by
      exact at_fld (name_of d0) g13 (by kernel_rfl)
    have h3 : eAttr (eName "self") 164 "windows" τ m13 = some (.obj (k + 1), m13) := by
      exact at_fld (name_of d0) g13 (by kernel_rfl)
    have h4 : eSub (eAttr (eName "self") 164 "windows") (eName "number") τ m13 = some (.obj (k + 2), m13) := sub_dict h3 (name_of d1) w13 (by simp)
    have h5 := st_set (x := "use_time") h2 h4 x13 v3.len
    refine ⟨_, run_next (b := b_wt_touch) (ρ1 := τ) rfl (by rw [hτ]; exact t13.trans ((seq_next h5).trans rfl)), ?_, by rw [get_set, if_pos rfl], fun j h6 h7 => by rw [get_set, if_neg h7]; exact o13 j h6, by rw [n_set]; exact n13⟩
    rw [get_set, if_neg (by exact om212)]; exact g13
  obtain ⟨m14, t14, g14, x14, o14, n14⟩ := touch
  have e14 : eMeth (eName "self") 164 "touch" (lCons (eAttr (eName "first") 93 "number") lNil) m_wt_touch ρ2 m12 = some (.none, m14) := by
    have hl := l_cons (num x12) (l_nil (ρ := ρ2) (μ := m12))
    exact at_meth (name_of b0) g12 (by kernel_rfl) hl t14
  have wf14 := v3.put_other (.int 1) u3
  have run : m_wt_init [.obj k, .int W, .int H, .int 7, .int 3, .int 2] m0 = some (.none, m14) := by
    refine run_next (b := b_wt_init) (ρ1 := ρ2) rfl ?_
    rw [hρ]
    refine (seq_next s1).trans (t3.trans (t4.trans (t5.trans (t6.trans ((seq_next (st_name e7)).trans ?_)))))
    rw [hρ2]
    exact (seq_next s8).trans ((seq_next s9).trans ((seq_next s10).trans (t11.trans (t12.trans ((seq_next (st_expr e14)).trans rfl)))))
  have tf : TF ⟨k, k + 1, 1, 1, fun m => if m = 1 then some ⟨k + 2, k + 3, k + 4, 0, 0, 0, 0, W, H, 7, 1, 1, 0, []⟩ else none⟩ [(("windows" : Str), .obj (k + 1)), (("last" : Str), .int 1), (("clock" : Str), .int 1), (("least_width" : Str), .int 3), (("least_height" : Str), .int 2), (("root" : Str), .int 1), (("selected" : Str), .int 1)] := by
    exact ⟨Nat.le_of_ble_eq_true (by kernel_rfl), by kernel_rfl, by kernel_rfl, by kernel_rfl, by kernel_rfl, by kernel_rfl, by kernel_rfl, by kernel_rfl, by kernel_rfl, by kernel_rfl⟩
  have hn14 : m14.n = k + 6 := by rw [n14, n12, n11, n10]
  have R := rt_start (M := m14) (k := k) (W := W) (H := H) (by exact om215 n10 n11 n12 n14) g14 tf (by rw [o14 _ (by exact om211) (by exact om214)]; exact w12) x14 wf14 (by rw [o14 _ (by exact om216) (by exact om217), o12 _ (by exact om216), o11 _ (by exact om216), o10 _ (by exact om217)]; exact y7) (by rw [o14 _ (by exact om218) (by exact om219), o12 _ (by exact om218), o11 _ (by exact om218), o10 _ (by exact om219)]; exact z7)
  refine hG ⟨m14, _, ⟨k, k + 1, 1, 1, fun m => if m = 1 then some ⟨k + 2, k + 3, k + 4, 0, 0, 0, 0, W, H, 7, 1, 1, 0, []⟩ else none⟩, ?_, ⟨R, ?_, ?_, rfl, by simp [WT.nums], fun m hm => ?_, by simp [WT.size], ?_, by simp⟩, rfl, fun j hj => ⟨?_, ?_⟩, by exact om220 n10 n11 n12 n14⟩
  · unfold mNew
    rw [hm0, hk, run]
  · show cs _ 1 = _
    simp [cs, WinR.core]
  · exact ⟨_, by simp; rfl, rfl, rfl⟩
  · rw [WT.nums, List.mem_singleton] at hm
    subst hm
    simp
  · simp [cs]
  · rw [o14 _ (by exact om47 hj) (by exact om221 hj), o12 _ (by exact om47 hj), o11 _ (by exact om47 hj), o10 _ (by exact om221 hj), o7 _ (by exact om222 hj) (by exact om47 hj) (by exact om52 hj), r6 _ (by exact om47 hj), o1 _ hj]
  · rw [if_neg (by exact om47 hj), if_neg (by exact om52 hj), if_neg (by exact om221 hj), if_neg (by exact om223 hj), if_neg (by exact om224 hj)]
end
end Mine
end
section
set_option maxRecDepth 10000
open PySem PySem.W PySem.Calls PyProof.Rows
namespace Mine
noncomputable abbrev Shown := Int × Int × Int × Int
mutual
noncomputable def resh (n : Int) (s : Shown) : WT → WT
  | .leaf m w h c => .leaf m w h (if m = n then s else c)
  | .node m w h row ks => .node m w h row (reshL n s ks)
noncomputable def reshL (n : Int) (s : Shown) : List WT → List WT
  | [] => []
  | k :: r => resh n s k :: reshL n s r
end
section
variable {n : Int} {s : Shown}
theorem resh_num (T : WT) : (resh n s T).num = T.num := by cases T <;> rfl
theorem resh_sort (T : WT) : (resh n s T).sort = T.sort := by cases T <;> rfl
theorem resh_wid (T : WT) : (resh n s T).wid = T.wid := by cases T <;> rfl
theorem resh_hei (T : WT) : (resh n s T).hei = T.hei := by cases T <;> rfl
theorem reshL_map : ∀ ks : List WT, reshL n s ks = ks.map (resh n s)
  | [] => rfl
  | k :: r => by rw [reshL, reshL_map r]; rfl
mutual
theorem resh_nums : ∀ T : WT, (resh n s T).nums = T.nums
  | .leaf .. => rfl
  | .node _ _ _ _ ks => by rw [resh, WT.nums, WT.nums, reshL_nums ks]
theorem reshL_nums : ∀ ks : List WT, WT.numsL (reshL n s ks) = WT.numsL ks
  | [] => rfl
  | k :: r => by rw [reshL, WT.numsL, WT.numsL, resh_nums k, reshL_nums r]
end
mutual
theorem resh_leaves : ∀ T : WT, (resh n s T).leaves = T.leaves
  | .leaf .. => rfl
  | .node _ _ _ _ ks => by rw [resh, WT.leaves, WT.leaves, reshL_leaves ks]
theorem reshL_leaves : ∀ ks : List WT, WT.leavesL (reshL n s ks) = WT.leavesL ks
  | [] => rfl
  | k :: r => by rw [reshL, WT.leavesL, WT.leavesL, resh_leaves k, reshL_leaves r]
end
theorem resh_size (T : WT) : (resh n s T).size = T.size := by rw [size_nums, size_nums, resh_nums]
mutual
theorem resh_sh {c c' : CF} {kn : Core} (hn : c n = some kn) (hs : kn.sort = 0) (hc : ∀ m, c' m = if m = n then some (kn.setSh s) else c m) : ∀ {p : Int} {T : WT}, ShC c p T → ShC c' p (resh n s T)
  | p, .leaf m w h x, h1 => by
    have h1' : c m = some ⟨0, p, w, h, [], x⟩ := h1
    show c' m = some ⟨0, p, w, h, [], if m = n then s else x⟩
    rw [hc]
    by_cases hm : m = n
    · rw [if_pos hm, if_pos hm]
      rw [hm, hn] at h1'
      rw [Option.some.inj h1']; rfl
    · rw [if_neg hm, if_neg hm]; exact h1
  | p, .node m w h row ks, ⟨⟨x, h1⟩, h2, h3, h4⟩ => by
    have hm : m ≠ n := fun e => by
      rw [e, hn] at h1
      rw [Option.some.inj h1] at hs
      exact rowSort_pos row hs
    refine ⟨⟨x, ?_⟩, by rw [reshL_map, List.length_map]; exact h2, fun k hk => ?_, reshL_sh hn hs hc h4⟩
    · rw [hc, if_neg hm, h1, reshL_map, List.map_map]
      have : (WT.num ∘ resh n s) = WT.num := by funext k; exact resh_num k
      rw [this]
    · rw [reshL_map] at hk
      obtain ⟨k', hk', rfl⟩ := List.mem_map.mp hk
      rw [resh_sort]; exact h3 k' hk'
theorem reshL_sh {c c' : CF} {kn : Core} (hn : c n = some kn) (hs : kn.sort = 0) (hc : ∀ m, c' m = if m = n then some (kn.setSh s) else c m) : ∀ {p : Int} {ks : List WT}, ShCL c p ks → ShCL c' p (reshL n s ks)
  | _, [], _ => trivial
  | _, _ :: _, ⟨h1, h2⟩ => ⟨resh_sh hn hs hc h1, reshL_sh hn hs hc h2⟩
end
mutual
theorem resh_at {ws ws' : WS} (hw : ∀ m r, ws m = some r → ∃ r', ws' m = some r' ∧ r'.left = r.left ∧ r'.top = r.top) : ∀ {l t : Int} {T : WT}, At ws l t T → At ws' l t (resh n s T)
  | l, t, .leaf m w h c, ⟨r, h1, h2, h3⟩ => by
    obtain ⟨r', g1, g2, g3⟩ := hw _ _ h1
    exact ⟨r', g1, g2.trans h2, g3.trans h3⟩
  | l, t, .node m w h row ks, g => reshL_at (l := l) (t := t) (row := row) (ks := ks) hw g
theorem reshL_at {ws ws' : WS} (hw : ∀ m r, ws m = some r → ∃ r', ws' m = some r' ∧ r'.left = r.left ∧ r'.top = r.top) : ∀ {l t : Int} {row : Bool} {ks : List WT}, AtL ws row l t ks → AtL ws' row l t (reshL n s ks)
  | _, _, _, [], _ => trivial
  | l, t, row, k :: r, ⟨h1, h2⟩ => by
    refine ⟨resh_at hw h1, ?_⟩
    rw [resh_wid, resh_hei]
    exact reshL_at hw h2
end
end
section
variable {μ μ0 μ1 μ' : Mem} {ro ro0 ro' : Nat → Option Role} {S S' : Store} {n : Int} {r : WinR} {ρ : Loc} {T : WT}
theorem Inv.show (I : Inv μ ro S T) (hm : n ∈ T.leaves) (hn : S.ws n = some r) {a b c d : Int} (R : RT μ' ro (S.upd n (r.setShown a b c d))) :
    Inv μ' ro (S.upd n (r.setShown a b c d)) (resh n (a, b, c, d) T) ∧ cs (S.upd n (r.setShown a b c d)) n = some (r.core.setSh ((a, b, c, d))) := by
  obtain ⟨k, h1, hs, hk⟩ := shC_leaf I.sh hm
  rw [cs_of hn] at h1
  cases h1
  have hnT : n ∈ T.nums := (leaves_sub T).subset hm
  have hc : ∀ m, cs (S.upd n (r.setShown a b c d)) m = if m = n then some (r.core.setSh ((a, b, c, d))) else cs S m := fun m => by rw [cs_upd]; rfl
  refine ⟨⟨R, resh_sh (cs_of hn) hs hc I.sh, resh_at (fun m q hq => ?_) I.at_, ?_, by rw [resh_nums]; exact I.nd, by rw [resh_nums]; exact I.rng, by rw [resh_size]; exact I.sz, ?_, I.l1⟩, by rw [hc, if_pos rfl]⟩
  · by_cases h : m = n
    · subst h
      rw [hn] at hq
      cases hq
      exact ⟨_, upd_self _ _ _, rfl, rfl⟩
    · exact ⟨q, by rw [upd_ne _ _ h]; exact hq, rfl, rfl⟩
  · rw [resh_num]; exact I.root
  · rw [hc, if_neg (fun e => by have := (I.rng n hnT).1; exact om225 this e)]; exact I.z
structure Held (k : Nat) (o : AO) (μ : Mem) (ro : Nat → Option Role) : Prop where
  lt : k < μ.n
  r : ro k = none
  g : μ.get k = some o
theorem Held.step {k : Nat} {o : AO} (h : Held k o μ ro) (s : Step μ ro μ' ro') : Held k o μ' ro' := ⟨(s.keep h.lt h.r h.g).2.2, (s.keep h.lt h.r h.g).2.1, (s.keep h.lt h.r h.g).1⟩
theorem Made.held {k : Nat} {o : AO} (h : Made μ0 ro S k o μ) : Held k o μ ro := ⟨h.l.2, h.r, h.g⟩
theorem l_cons2 {e : EM} {es : LM} {v : V} {vs : List V} {μ2 : Mem} (h : e ρ μ = some (v, μ1)) (hs : es ρ μ1 = some (vs, μ2)) : lCons e es ρ μ = some (v :: vs, μ2) := by
  simp only [lCons, h, hs, bind2_some]
theorem sub_list2 {eo ei : EM} {k : Nat} {l : List V} {i : Int} {v : V} {μ2 : Mem} (ho : eo ρ μ = some (.obj k, μ1)) (hi : ei ρ μ1 = some (.int i, μ2)) (hg : μ2.get k = some (.list l)) (h : 0 ≤ i ∧ i < 1000) (hv : l[i.toNat]? = some v) : eSub eo ei ρ μ = some (v, μ2) := by
  simp only [eSub, ho, bind2_some, hi, hg, if_pos h, hv, Option.map_some]
theorem tup_of {es : LM} {vs : List V} (h : es ρ μ = some (vs, μ1)) (hl : vs.length ≤ 1000) : eTup es ρ μ = some (.tup vs, μ1) := by
  simp only [eTup, h, bind2_some, hl, reduceIte]
theorem list_of {es : LM} {vs : List V} (h : es ρ μ = some (vs, μ1)) (hl : vs.length ≤ 1000) : eList es ρ μ = some (.obj μ1.n, μ1.new (.list vs)) := by
  simp only [eList, h, bind2_some, hl, reduceIte]
theorem sub_tup {eo ei : EM} {l : List V} {i : Int} {v : V} {μ2 : Mem} (ho : eo ρ μ = some (.tup l, μ1)) (hi : ei ρ μ1 = some (.int i, μ2)) (h : 0 ≤ i ∧ i < 1000 ∧ l.length ≤ 1000) (hv : l[i.toNat]? = some v) : eSub eo ei ρ μ = some (v, μ2) := by
  simp only [eSub, ho, bind2_some, hi, if_pos h, hv, Option.map_some]
theorem t_dict {e1 e2 : EM} {k1 k2 : Nat} {es : List (Int × V)} {μ2 : Mem} (h1 : e1 ρ μ = some (.obj k1, μ1)) (h2 : e2 ρ μ1 = some (.obj k2, μ2)) (g1 : μ2.get k1 = some (.dict es)) (g2 : μ2.get k2 = some (.dict es)) (nd : (es.map (·.1)).Nodup) (ok : ∀ e ∈ es, e.2.ok = true) : tCmp .NotEq e1 e2 ρ μ = some (false, μ2) := by
  simp only [tCmp, h1, h2, bind2_some, cv_dict g1 g2 ⟨nd, ok⟩, Option.map_some]
theorem t_tupne {e1 e2 : EM} {l : List V} {μ2 : Mem} (h1 : e1 ρ μ = some (.tup l, μ1)) (h2 : e2 ρ μ1 = some (.tup l, μ2)) (ok : (V.tup l).ok = true) : tCmp .NotEq e1 e2 ρ μ = some (false, μ2) := by
  simp only [tCmp, h1, h2, bind2_some, cv_tup ok, Option.map_some]
theorem t_listne {e1 e2 : EM} {k1 k2 : Nat} {l : List V} {μ2 : Mem} (h1 : e1 ρ μ = some (.obj k1, μ1)) (h2 : e2 ρ μ1 = some (.obj k2, μ2)) (g1 : μ2.get k1 = some (.list l)) (g2 : μ2.get k2 = some (.list l)) (ok : l.all V.ok = true) : tCmp .NotEq e1 e2 ρ μ = some (false, μ2) := by
  simp only [tCmp, h1, h2, bind2_some, cv_list g1 g2 (by rw [ok]; rfl), Option.map_some]
  simp
theorem t_intne {e1 e2 : EM} {i : Int} {μ2 : Mem} (h1 : e1 ρ μ = some (.int i, μ1)) (h2 : e2 ρ μ1 = some (.int i, μ2)) : tCmp .NotEq e1 e2 ρ μ = some (false, μ2) := by
  simp only [tCmp, h1, h2, bind2_some, cv_eq, cv_ne, cv_lt, cv_le, cv_gt, cv_is, isN_none, isN_int, isN_obj, Option.map_some]
  simp
theorem t_orff {t1 t2 : TM} {μ2 : Mem} (h1 : t1 ρ μ = some (false, μ1)) (h2 : t2 ρ μ1 = some (false, μ2)) : tOr t1 t2 ρ μ = some (false, μ2) := by
  simp only [tOr, h1, bind2_some, h2]
  simp
end
end Mine
end
section
set_option maxRecDepth 10000
open PySem PySem.W PySem.Calls PyProof.Rows
namespace Mine
section
variable {μ μ0 μ1 μ' : Mem} {ro ro0 ro' : Nat → Option Role} {S S' : Store} {n : Int} {r : WinR} {ρ : Loc} {T : WT} {xs : List Int} {c : Int}
theorem bin_at2 {e1 e2 : EM} {op : Operator} {a b c : Int} {μ2 : Mem} (h1 : e1 ρ μ = some (.int a, μ1)) (h2 : e2 ρ μ1 = some (.int b, μ2)) (h : iBin op a b = some c) : eBin op e1 e2 ρ μ = some (.int c, μ2) := by
  simp only [eBin, h1, h2, bind2_some, h, Option.map_some]
theorem leaves_ne : ∀ {p : Int} {c : CF} {T : WT}, ShC c p T → T.leaves ≠ []
  | p, c, .leaf .., _ => by simp [WT.leaves]
  | p, c, .node m w h row ks, ⟨_, h2, _, h4⟩ => by
    cases ks with
    | nil => simp at h2
    | cons k r =>
      rw [WT.leaves, WT.leavesL]
      intro e
      exact leaves_ne h4.1 (List.append_eq_nil_iff.mp e).1
structure LapA (μ : Mem) (ro : Nat → Option Role) (S : Store) (T : WT) (xs : List Int) (c : Int) (ρ : Loc) (n : Int) (r : WinR) (ax : Int) (sz : Option Int) (ahead : Bool) (kd : Nat) : Prop where
  I : Inv μ ro S T
  D : Dk xs c μ ro
  hm : n ∈ T.leaves
  hn : S.ws n = some r
  hax : ax = 0 ∨ ax = 1
  K : Held kd (.dict (places T)) μ ro
  a1 : ρ "deck" = some (.obj 1)
  a2 : ρ "tree" = some (.obj S.t)
  a3 : ρ "number" = some (.int n)
  a4 : ρ "axis" = some (.int ax)
  a5 : ρ "part" = some (vsz sz)
  a6 : ρ "is_ahead" = some (.bool ahead)
  a7 : ρ "shown_window" = some (.obj r.o)
  a8 : ρ "ahead" = some (.obj kd)
  a9 : ρ "least" = some (.int (leastOf ax))
  b1 : ρ "old" = some (.int (r.core.sz ax - newOf (r.core.sz ax) sz))
  b2 : ρ "new" = some (.int (newOf (r.core.sz ax) sz))
theorem lap_a {i : Int} (I : Inv μ ro S T) (D : Dk xs c μ ro) (hc : c ≤ 800) (a1 : ρ "deck" = some (.obj 1)) (a2 : ρ "tree" = some (.obj S.t)) (a3 : ρ "lap" = some (.int i)) :
    ∃ ρ' μ' S' T' n r ax sz ahead kd, LapA μ' ro S' T' xs (c + 4) ρ' n r ax sz ahead kd ∧ S'.t = S.t ∧ S'.last = S.last ∧ T'.size = T.size ∧ ∀ m : SM,
      (sSeq (sAssign (eCall (lCons (eName "tree") lNil) m_leaves) (aName "found"))
  (sSeq (sAssign (eTup (lCons (eSub (eName "found") (eCall (lCons (eName "deck") (lCons (eCall (lCons (eName "found") lNil) mLen) lNil)) m_law_draw)) (lCons (eSub (eList (lCons (eInt 1) (lCons (eInt 0) lNil))) (eCall (lCons (eName "deck") (lCons (eInt 2) lNil)) m_law_draw)) lNil))) (aTup (asCons (aName "number") (asCons (aName "axis") asNil))))
  (sSeq (sAssign (eTup (lCons (eBin .Sub (eCall (lCons (eName "deck") (lCons (eInt 33) lNil)) m_law_draw) (eInt 16)) (lCons (eCmp .Eq (eCall (lCons (eName "deck") (lCons (eInt 2) lNil)) m_law_draw) (eInt 1)) lNil))) (aTup (asCons (aName "part") (asCons (aName "is_ahead") asNil))))
  (sSeq (sAssign (eIf (tCmp .Gt (eName "part") (eInt 8)) eNone (eName "part")) (aName "part"))
  (sSeq (sAssign (eTup (lCons (eSub (eAttr (eName "tree") 164 "windows") (eName "number")) (lCons (eCall (lCons (eName "tree") lNil) m_law_places) (lCons (eSub (eList (lCons (eInt 3) (lCons (eInt 2) lNil))) (eName "axis")) lNil)))) (aTup (asCons (aName "shown_window") (asCons (aName "ahead") (asCons (aName "least") asNil)))))
  (sSeq (sExpr (eMeth (eName "shown_window") 93 "show" (lCons (eTup (lCons (eBin .Add (eInt 5) (eName "lap")) (lCons (eInt 1) (lCons (eBin .Add (eInt 3) (eName "lap")) (lCons (eInt 0) lNil))))) lNil) m_wi_show))
  (sSeq (sAssign (eCall (lCons (eName "tree") lNil) m_law_places) (aName "ahead"))
  (sSeq (sAssign (eCall (lCons (eMeth (eName "shown_window") 93 "size" (lCons (eName "axis") lNil) m_wi_size) (lCons (eName "part") lNil)) m_law_halved) (aTup (asCons (aName "old") (asCons (aName "new") asNil))))
  m)))))))) ρ μ = m ρ' μ' := by
  refine byc fun hG => ?_
  have hsz := I.sz
  have hd0 := D.c0
  have hn2 := D.n2
  -- the leaves
  obtain ⟨kl, μ1, h1, M1⟩ := h_leaves I.R I.sh' (by exact om168 hsz) I.root
  have e1 := call_at (l_cons (name_of (μ := μ) a2) l_nil) h1
  have hkl : kl ≠ 1 := by have := M1.l.1; exact om226 hn2 this
  generalize hρ1 : put ρ "found" (.obj kl) = ρ1
  have b1 : ρ1 "deck" = some (.obj 1) := lk2 hρ1 (by kernel_rfl) a1
  have b2 : ρ1 "found" = some (.obj kl) := lk hρ1 (by kernel_rfl)
  have D1 := D.step M1.st
  have hlen : T.leaves.length ≤ 130 := by have := places_len T; rw [← places_keys, List.length_map]; exact om185 hsz this
  have hpos : 0 < T.leaves.length := List.length_pos_iff.mpr (leaves_ne I.sh)
  have e2 := len_at (name_of (μ := μ1) b2) M1.g (by rw [List.length_map]; exact om227 hlen)
  rw [List.length_map] at e2
  obtain ⟨v1, μ2, h2, v1a, v1b, R2, D2, n2, g2⟩ := D1.draw M1.R (by exact om228 hc) (many := (T.leaves.length : Int)) (by exact om229 hpos)
  obtain ⟨n, hv⟩ : ∃ n, T.leaves[v1.toNat]? = some n := ⟨_, List.getElem?_eq_getElem (by exact om230 v1a v1b)⟩
  have hnl : n ∈ T.leaves := List.mem_of_getElem? hv
  have e3 := sub_list2 (name_of (μ := μ1) b2) (call_at (l_cons (name_of b1) (l_cons e2 l_nil)) h2) (by rw [g2 _ hkl]; exact M1.g) (by exact om231 v1a v1b hlen) (v := .int n) (by rw [List.getElem?_map, hv]; rfl)
  have M3 := Made.start R2 (.list [.int 1, .int 0])
  have e4 : eList (lCons (eInt 1) (lCons (eInt 0) lNil)) ρ1 μ2 = some (.obj μ2.n, μ2.new (.list [.int 1, .int 0])) := rfl
  obtain ⟨v2, μ4, h4, v2a, v2b, R4, D4, n4, g4⟩ := (D2.step M3.st).draw M3.R (by exact om232 hc) (many := 2) (by decide)
  have hk3 : μ2.n ≠ 1 := by have := D2.n2; exact om233 this
  have hax : 1 - v2 = 0 ∨ 1 - v2 = 1 := by exact om234 v2a v2b
  have e5 := sub_list2 (eo := eList (lCons (eInt 1) (lCons (eInt 0) lNil))) (v := .int (1 - v2)) e4 (call_at (l_cons (name_of b1) (l_cons (e := eInt 2) rfl l_nil)) h4) (by rw [g4 _ hk3]; exact M3.g) (by exact om235 v2a v2b) (by
    have : v2 = 0 ∨ v2 = 1 := by exact om236 v2a v2b
    rcases this with rfl | rfl <;> rfl)
  have e6 := tup_of (l_cons2 e3 (l_cons2 e5 l_nil)) (by simp)
  generalize hax' : 1 - v2 = ax at *
  generalize hρ2 : put (put ρ1 "number" (.int n)) "axis" (.int ax) = ρ2
  have c1 : ρ2 "deck" = some (.obj 1) := lk2 hρ2 (by kernel_rfl) b1
  have s2 : sAssign (eTup (lCons (eSub (eName "found") (eCall (lCons (eName "deck") (lCons (eCall (lCons (eName "found") lNil) mLen) lNil)) m_law_draw)) (lCons (eSub (eList (lCons (eInt 1) (lCons (eInt 0) lNil))) (eCall (lCons (eName "deck") (lCons (eInt 2) lNil)) m_law_draw)) lNil))) (aTup (asCons (aName "number") (asCons (aName "axis") asNil))) ρ1 μ1 = some (.next, ρ2, μ4) := by
    rw [← hρ2]
    exact st_assign e6 (tup_at.trans (name_at.trans (name_at.trans nil_at)))
  -- the part and the side
  obtain ⟨v3, μ5, h5, v3a, v3b, R5, D5, n5, g5⟩ := D4.draw R4 (by exact om237 hc) (many := 33) (by decide)
  obtain ⟨v4, μ6, h6, v4a, v4b, R6, D6, n6, g6⟩ := D5.draw R5 (by exact om238 hc) (many := 2) (by decide)
  have e7 := bin_at2 (op := .Sub) (e2 := eInt 16) (call_at (l_cons (name_of (μ := μ4) c1) (l_cons (e := eInt 33) rfl l_nil)) h5) rfl rfl
  have e8 : eCmp .Eq (eCall (lCons (eName "deck") (lCons (eInt 2) lNil)) m_law_draw) (eInt 1) ρ2 μ5 = some (.bool (v4 == 1), μ6) := by
    have := call_at (l_cons (name_of (μ := μ5) c1) (l_cons (e := eInt 2) rfl l_nil)) h6
    simp only [eCmp, this, bind2_some, eInt, cv_eq, cv_ne, cv_lt, cv_le, cv_gt, cv_is, isN_none, isN_int, isN_obj, Option.map_some]
  have e9 := tup_of (l_cons2 e7 (l_cons2 e8 l_nil)) (by simp)
  generalize (v4 == 1) = ahead at *
  generalize hp : v3 - 16 = p at *
  generalize hρ3 : put (put ρ2 "part" (.int p)) "is_ahead" (.bool ahead) = ρ3
  have s3 : sAssign (eTup (lCons (eBin .Sub (eCall (lCons (eName "deck") (lCons (eInt 33) lNil)) m_law_draw) (eInt 16)) (lCons (eCmp .Eq (eCall (lCons (eName "deck") (lCons (eInt 2) lNil)) m_law_draw) (eInt 1)) lNil))) (aTup (asCons (aName "part") (asCons (aName "is_ahead") asNil))) ρ2 μ4 = some (.next, ρ3, μ6) := by
    rw [← hρ3]
    exact st_assign e9 (tup_at.trans (name_at.trans (name_at.trans nil_at)))
  have d1 : ρ3 "part" = some (.int p) := lk hρ3 (by kernel_rfl)
  obtain ⟨sz, e10⟩ : ∃ sz, eIf (tCmp .Gt (eName "part") (eInt 8)) eNone (eName "part") ρ3 μ6 = some (vsz sz, μ6) := by
    have t1 : tCmp .Gt (eName "part") (eInt 8) ρ3 μ6 = some (decide (p > 8), μ6) := by
      simp only [tCmp, name_of d1, eInt, bind2_some, cv_eq, cv_ne, cv_lt, cv_le, cv_gt, cv_is, isN_none, isN_int, isN_obj, Option.map_some]
    by_cases h : p > 8
    · exact ⟨none, by simp only [eIf, t1, bind2_some, decide_eq_true h, reduceIte]; rfl⟩
    · refine ⟨some p, ?_⟩
      simp only [eIf, t1, bind2_some, decide_eq_false h]
      exact name_of d1
  generalize hρ4 : put ρ3 "part" (vsz sz) = ρ4
  have f1 : ρ4 "deck" = some (.obj 1) := lk2 hρ4 (by kernel_rfl) (lk2 hρ3 (by kernel_rfl) c1)
  have f2 : ρ4 "tree" = some (.obj S.t) := lk2 hρ4 (by kernel_rfl) (lk2 hρ3 (by kernel_rfl) (lk2 hρ2 (by kernel_rfl) (lk2 hρ1 (by kernel_rfl) a2)))
  have f3 : ρ4 "number" = some (.int n) := lk2 hρ4 (by kernel_rfl) (lk2 hρ3 (by kernel_rfl) (lk hρ2 (by kernel_rfl)))
  have f4 : ρ4 "axis" = some (.int ax) := lk2 hρ4 (by kernel_rfl) (lk2 hρ3 (by kernel_rfl) (lk hρ2 (by kernel_rfl)))
  have f5 : ρ4 "part" = some (vsz sz) := lk hρ4 (by kernel_rfl)
  have f6 : ρ4 "is_ahead" = some (.bool ahead) := lk2 hρ4 (by kernel_rfl) (lk hρ3 (by kernel_rfl))
  have f7 : ρ4 "lap" = some (.int i) := lk2 hρ4 (by kernel_rfl) (lk2 hρ3 (by kernel_rfl) (lk2 hρ2 (by kernel_rfl) (lk2 hρ1 (by kernel_rfl) a3)))
  -- the window that is split
  have I6 := I.step R6
  obtain ⟨k0, hk0, hs0, hkk0⟩ := shC_leaf I.sh hnl
  obtain ⟨r, hr, hrc⟩ := cs_some hk0
  have e11 := h_at (et := eName "tree") (en := eName "number") R6 hr (name_of f2) (name_of f3)
  obtain ⟨kp, μ7, h7, M7⟩ := h_places I6
  have e12 := call_at (l_cons (name_of (μ := μ6) f2) l_nil) h7
  have M8 := Made.start M7.R (.list [.int 3, .int 2])
  have e13 : eSub (eList (lCons (eInt 3) (lCons (eInt 2) lNil))) (eName "axis") ρ4 μ7 = some (.int (leastOf ax), μ7.new (.list [.int 3, .int 2])) := by
    refine sub_list2 (eo := eList (lCons (eInt 3) (lCons (eInt 2) lNil))) rfl (name_of f4) M8.g (by exact om239 v2a hax' v2b) ?_
    rcases hax with rfl | rfl <;> rfl
  have e14 := tup_of (l_cons2 e11 (l_cons2 e12 (l_cons2 e13 l_nil))) (by simp)
  generalize μ7.new (.list [.int 3, .int 2]) = μ8 at *
  generalize hρ5 : put (put (put ρ4 "shown_window" (.obj r.o)) "ahead" (.obj kp)) "least" (.int (leastOf ax)) = ρ5
  have s5 : sAssign (eTup (lCons (eSub (eAttr (eName "tree") 164 "windows") (eName "number")) (lCons (eCall (lCons (eName "tree") lNil) m_law_places) (lCons (eSub (eList (lCons (eInt 3) (lCons (eInt 2) lNil))) (eName "axis")) lNil)))) (aTup (asCons (aName "shown_window") (asCons (aName "ahead") (asCons (aName "least") asNil)))) ρ4 μ6 = some (.next, ρ5, μ8) := by
    rw [← hρ5]
    exact st_assign e14 (tup_at.trans (name_at.trans (name_at.trans (name_at.trans nil_at))))
  have g1 : ρ5 "shown_window" = some (.obj r.o) := lk hρ5 (by kernel_rfl)
  have g2' : ρ5 "lap" = some (.int i) := lk2 hρ5 (by kernel_rfl) f7
  have g3 : ρ5 "tree" = some (.obj S.t) := lk2 hρ5 (by kernel_rfl) f2
  -- it shows something of its own
  obtain ⟨μ9, h9, R9, s9⟩ := h_show M8.R hr (5 + i) 1 (3 + i) 0
  have e15 : eTup (lCons (eBin .Add (eInt 5) (eName "lap")) (lCons (eInt 1) (lCons (eBin .Add (eInt 3) (eName "lap")) (lCons (eInt 0) lNil)))) ρ5 μ8 = some (.tup [.int (5 + i), .int 1, .int (3 + i), .int 0], μ8) :=
    tup_of (l_cons (bin_at rfl (name_of g2') rfl) (l_cons (e := eInt 1) rfl (l_cons (bin_at rfl (name_of g2') rfl) (l_cons (e := eInt 0) rfl l_nil)))) (by simp)
  have e16 := h_meth (x := "show") M8.R hr (name_of g1) (fun fs wf => wf.m5) (l_cons e15 l_nil) h9
  obtain ⟨I9, hcs9⟩ := I.show hnl hr R9
  have hr9 := upd_self S n (r.setShown (5 + i) 1 (3 + i) 0)
  have ht9 : (S.upd n (r.setShown (5 + i) 1 (3 + i) 0)).t = S.t := rfl
  have hl9 : (S.upd n (r.setShown (5 + i) 1 (3 + i) 0)).last = S.last := rfl
  have ho9 : ((r.setShown (5 + i) 1 (3 + i) 0) : WinR).o = r.o := rfl
  generalize hrs : ((r.setShown (5 + i) 1 (3 + i) 0) : WinR) = r9 at *
  generalize S.upd n r9 = S9 at *
  have hT9 : (resh n (5 + i, 1, 3 + i, 0) T).size = T.size := resh_size T
  have hm9 : n ∈ (resh n (5 + i, 1, 3 + i, 0) T).leaves := by rw [resh_leaves]; exact hnl
  generalize resh n (5 + i, 1, 3 + i, 0) T = T9 at *
  -- the places ahead
  obtain ⟨kd, μ10, h10, M10⟩ := h_places I9
  have e17 := call_at (l_cons (name_of (μ := μ9) g3) l_nil) (by rw [← ht9]; exact h10)
  generalize hρ6 : put ρ5 "ahead" (.obj kd) = ρ6
  have i1 : ρ6 "shown_window" = some (.obj r9.o) := by rw [← hρ6, ho9]; simp [eName, eInt, eNone, eBool, bind2_some, bind2, eAttr, eIf, tCmp, eCmp, tNot, tAnd, tOr, tVal, cv_eq, cv_ne, cv_lt, cv_le, cv_gt, cv_is, isN_none, isN_int, isN_obj, eBin, iBin, eMeth, lCons, lNil, eCall, eSub, eBM, eList, eTup, eDict0, mLen, mList, mDict, mGet, mIndex, mAppend, mExtend, mPop, mDPop, mInsert, mRemove, isList, isDict, bindv_cons, bindv_nil, put_at, ofString_inj, Option.map_some, List.length_cons, List.length_nil, g1]
  have i2 : ρ6 "axis" = some (.int ax) := lk2 hρ6 (by kernel_rfl) (lk2 hρ5 (by kernel_rfl) f4)
  have i3 : ρ6 "part" = some (vsz sz) := lk2 hρ6 (by kernel_rfl) (lk2 hρ5 (by kernel_rfl) f5)
  have e18 := h_meth (x := "size") M10.R hr9 (name_of i1) (fun fs wf => wf.m1) (l_cons (name_of i2) l_nil) (h_size M10.R hr9 ax)
  rw [show (if ax = 0 then r9.width else r9.height) = r9.core.sz ax from rfl] at e18
  have e19 := call_at (l_cons e18 (l_cons (name_of i3) l_nil)) (h_halved (r9.core.sz ax) sz)
  generalize hρ7 : put (put ρ6 "old" (.int (r9.core.sz ax - newOf (r9.core.sz ax) sz))) "new" (.int (newOf (r9.core.sz ax) sz)) = ρ7
  have s8 : sAssign (eCall (lCons (eMeth (eName "shown_window") 93 "size" (lCons (eName "axis") lNil) m_wi_size) (lCons (eName "part") lNil)) m_law_halved) (aTup (asCons (aName "old") (asCons (aName "new") asNil))) ρ6 μ10 = some (.next, ρ7, μ10) := by
    rw [← hρ7]
    exact st_assign e19 (tup_at.trans (name_at.trans (name_at.trans nil_at)))
  have hcc : c + 1 + 1 + 1 + 1 = c + 4 := by exact om240
  have D10 : Dk xs (c + 4) μ10 ro := by
    rw [← hcc]
    exact (((D6.step M7.st).step M8.st).step s9).step M10.st
  refine hG ⟨ρ7, μ10, S9, T9, n, r9, ax, sz, ahead, kd, ⟨I9.step M10.R, D10, hm9, hr9, hax, M10.held, ?_, ?_, ?_, ?_, ?_, ?_, ?_, ?_, ?_, ?_, ?_⟩, ht9, hl9, hT9, fun m => ?_⟩
  · exact lk2 hρ7 (by kernel_rfl) (lk2 hρ6 (by kernel_rfl) (lk2 hρ5 (by kernel_rfl) f1))
  · rw [← hρ7, ← hρ6, ht9]; simp [eName, eInt, eNone, eBool, bind2_some, bind2, eAttr, eIf, tCmp, eCmp, tNot, tAnd, tOr, tVal, cv_eq, cv_ne, cv_lt, cv_le, cv_gt, cv_is, isN_none, isN_int, isN_obj, eBin, iBin, eMeth, lCons, lNil, eCall, eSub, eBM, eList, eTup, eDict0, mLen, mList, mDict, mGet, mIndex, mAppend, mExtend, mPop, mDPop, mInsert, mRemove, isList, isDict, bindv_cons, bindv_nil, put_at, ofString_inj, Option.map_some, List.length_cons, List.length_nil, g3]
  · exact lk2 hρ7 (by kernel_rfl) (lk2 hρ6 (by kernel_rfl) (lk2 hρ5 (by kernel_rfl) f3))
  · exact lk2 hρ7 (by kernel_rfl) i2
  · exact lk2 hρ7 (by kernel_rfl) i3
  · exact lk2 hρ7 (by kernel_rfl) (lk2 hρ6 (by kernel_rfl) (lk2 hρ5 (by kernel_rfl) f6))
  · exact lk2 hρ7 (by kernel_rfl) i1
  · exact lk2 hρ7 (by kernel_rfl) (lk hρ6 (by kernel_rfl))
  · exact lk2 hρ7 (by kernel_rfl) (lk2 hρ6 (by kernel_rfl) (lk hρ5 (by kernel_rfl)))
  · exact lk hρ7 (by kernel_rfl)
  · exact lk hρ7 (by kernel_rfl)
  · exact (seq_next (st_nm e1 hρ1)).trans ((seq_next s2).trans ((seq_next s3).trans ((seq_next (st_nm e10 hρ4)).trans ((seq_next s5).trans ((seq_next (st_expr e16)).trans ((seq_next (st_nm e17 hρ6)).trans (seq_next s8)))))))
end
end Mine
end
section
set_option maxRecDepth 10000
open PySem PySem.W PySem.Calls PyProof.Rows
namespace Mine
theorem lam1_free : (lamScope1.names.lookup ("tree" : Str) = some .free ∧ lamScope1.names.lookup ("number" : Str) = some .free) ∧ (lamScope1.names.lookup ("part" : Str) = some .free ∧ lamScope1.names.lookup ("axis" : Str) = some .free) ∧ lamScope1.names.lookup ("is_ahead" : Str) = some .free := ⟨⟨by kernel_rfl, by kernel_rfl⟩, ⟨by kernel_rfl, by kernel_rfl⟩, by kernel_rfl⟩
theorem lam2_free : lamScope2.names.lookup ("tree" : Str) = some .free := by kernel_rfl
theorem restr_at {sc : Scope} {ρ : Loc} {x : Str} {v : V} (h : sc.names.lookup x = some .free) (hv : ρ x = some v) : restr sc ρ x = some v := by
  unfold restr
  rw [if_pos h]; exact hv
section
variable {μ μ0 μ1 μ' : Mem} {ro ro0 ro' : Nat → Option Role} {S S' : Store} {n : Int} {r : WinR} {ρ : Loc} {T : WT} {xs : List Int} {c : Int} {ax : Int} {sz : Option Int} {ahead : Bool} {kd : Nat}
theorem t_not {t : TM} {b : Bool} (h : t ρ μ = some (b, μ1)) : tNot t ρ μ = some (!b, μ1) := by simp only [tNot, h, bind2_some]
noncomputable abbrev badTest : TM := (tOr (tCmp .Lt (eName "old") (eName "least")) (tCmp .Lt (eName "new") (eName "least")))
theorem bad_at (L : LapA μ ro S T xs c ρ n r ax sz ahead kd) : badTest ρ μ = some (decide (r.core.sz ax - newOf (r.core.sz ax) sz < leastOf ax) || decide (newOf (r.core.sz ax) sz < leastOf ax), μ) := t_or (t_lt (name_of L.b1) (name_of L.a9)) (t_lt (name_of L.b2) (name_of L.a9))
noncomputable abbrev lapBad : SM := (sIf badTest (sSeq (sIf (tOr (tNot (tRef (lamScope1) (xCall (lCons (eName "tree") (lCons (eName "number") (lCons (eName "part") (lCons (eName "axis") (lCons (eName "is_ahead") lNil))))) x_split))) (tCmp .NotEq (eCall (lCons (eName "tree") lNil) m_law_places) (eName "ahead"))) (sSeq (sRet (eBool false))
  sNil) sNil)
  (sSeq sCont
  sNil)) sNil)
theorem lap_ok (L : LapA μ ro S T xs c ρ n r ax sz ahead kd) (h : ¬ (r.core.sz ax - newOf (r.core.sz ax) sz < leastOf ax ∨ newOf (r.core.sz ax) sz < leastOf ax)) : lapBad ρ μ = some (.next, ρ, μ) := by
  have e := bad_at L
  rw [not_or] at h
  rw [decide_eq_false h.1, decide_eq_false h.2] at e
  exact (sif_false e).trans rfl
theorem lap_b (L : LapA μ ro S T xs c ρ n r ax sz ahead kd) (h : r.core.sz ax - newOf (r.core.sz ax) sz < leastOf ax ∨ newOf (r.core.sz ax) sz < leastOf ax) : ∃ μ', lapBad ρ μ = some (.cont, ρ, μ') ∧ Inv μ' ro S T ∧ Dk xs c μ' ro := by
  refine byc fun hG => ?_
  have e := bad_at L
  rw [show (decide (r.core.sz ax - newOf (r.core.sz ax) sz < leastOf ax) || decide (newOf (r.core.sz ax) sz < leastOf ax)) = true by rcases h with h | h <;> simp [h]] at e
  obtain ⟨k, hk, hs, hkk⟩ := shC_leaf L.I.sh L.hm
  rw [cs_of L.hn] at hk
  cases hk
  obtain ⟨μ1, x1, R1, s1⟩ := h_xsplit L.I.R (cs_of L.hn) hs hkk sz ahead rfl rfl h
  have e1 : xCall (lCons (eName "tree") (lCons (eName "number") (lCons (eName "part") (lCons (eName "axis") (lCons (eName "is_ahead") lNil))))) x_split (restr lamScope1 ρ) μ = some μ1 := by
    unfold xCall
    rw [l_cons (name_of (restr_at lam1_free.1.1 L.a2)) (l_cons (name_of (restr_at lam1_free.1.2 L.a3)) (l_cons (name_of (restr_at lam1_free.2.1.1 L.a5)) (l_cons (name_of (restr_at lam1_free.2.1.2 L.a4)) (l_cons (name_of (restr_at lam1_free.2.2 L.a6)) l_nil))))]
    exact x1
  have e2 : tRef lamScope1 (xCall (lCons (eName "tree") (lCons (eName "number") (lCons (eName "part") (lCons (eName "axis") (lCons (eName "is_ahead") lNil))))) x_split) ρ μ = some (true, μ1) := by
    unfold tRef
    rw [e1]; rfl
  have I1 := L.I.step R1
  obtain ⟨k2, μ2, p2, M2⟩ := h_places I1
  have K2 := (L.K.step s1).step M2.st
  have e3 := t_dict (call_at (l_cons (name_of (μ := μ1) L.a2) l_nil) p2) (name_of L.a8) M2.g K2.g (places_nd L.I.nd) (fun e he => by
    unfold places at he
    obtain ⟨x, _, rfl⟩ := List.mem_map.mp he
    rfl)
  have e4 := t_orff (t_not e2) e3
  exact hG ⟨μ2, (sif_true e).trans ((seq_next ((sif_false e4).trans rfl)).trans (seq_cont rfl)), I1.step M2.R, (L.D.step s1).step M2.st⟩
end
end Mine
end
section
set_option maxRecDepth 10000
open PySem PySem.W PySem.Calls PyProof.Rows
namespace Mine
theorem sz_sized (k : Core) (ax v : Int) : (k.sized ax v).sz ax = v := by
  unfold Core.sized Core.sz
  split <;> rfl
theorem sz_across {k : Core} {ax v : Int} (h : ax = 0 ∨ ax = 1) : (k.sized ax v).sz (1 - ax) = k.sz (1 - ax) := by
  rcases h with rfl | rfl <;> simp [Core.sized, Core.sz]
theorem sh_sized (k : Core) (ax v : Int) : (k.sized ax v).sh = k.sh := by
  unfold Core.sized
  split <;> rfl
noncomputable def WinR.plc (r : WinR) (ax : Int) : Int := if ax = 0 then r.left else r.top
theorem pair_ents {ahead : Bool} {n f : Int} {kn kf : Core} {row : Bool} {l t : Int} : entsL row l t (pairT ahead n f kn kf) =
    if ahead then [(f, l, t, kf.width, kf.height, kf.sh), (n, if row then l + kf.width else l, if row then t else t + kf.height, kn.width, kn.height, kn.sh)]
    else [(n, l, t, kn.width, kn.height, kn.sh), (f, if row then l + kn.width else l, if row then t else t + kn.height, kf.width, kf.height, kf.sh)] := by
  cases ahead <;> simp [entsL, pairT, leafOf, ents, WT.wid, WT.hei]
theorem shown_eq {a b : WinR} (h : a.core.sh = b.core.sh) : a.shown = b.shown := by
  have h' : (a.buf, a.st, a.pt, a.hs) = (b.buf, b.st, b.pt, b.hs) := h
  simp only [Prod.mk.injEq] at h'
  unfold WinR.shown
  rw [h'.1, h'.2.1, h'.2.2.1, h'.2.2.2]
theorem find_key : ∀ {l : List Ent} {e : Ent}, (l.map (·.1)).Nodup → e ∈ l → ((l.map entV).find? fun x => decide (x.1 = e.1)).map (·.2) = some (entV e).2
  | [], e, _, h => nomatch h
  | x :: r, e, nd, h => by
    rw [List.map_cons, List.nodup_cons] at nd
    rw [List.map_cons]
    by_cases hx : x.1 = e.1
    · rw [List.find?_cons_of_pos (by simp [entV, hx])]
      rcases List.mem_cons.mp h with rfl | h
      · rfl
      · exact absurd (by rw [hx]; exact List.mem_map_of_mem h) nd.1
    · rw [List.find?_cons_of_neg (by simp [entV, hx])]
      rcases List.mem_cons.mp h with rfl | h
      · exact absurd rfl hx
      · exact find_key nd.2 h
theorem filter_key {l : List Ent} {m : Int} (h : ∀ e ∈ l, e.1 ≠ m) : (l.map entV).filter (fun e => decide (e.1 ≠ m)) = l.map entV := by
  rw [List.filter_eq_self]
  intro x hx
  obtain ⟨e, he, rfl⟩ := List.mem_map.mp hx
  simp [entV, h e he]
section
variable {μ μ0 μ1 μ' : Mem} {ro ro0 ro' : Nat → Option Role} {S S' : Store} {n : Int} {r : WinR} {ρ : Loc} {T : WT} {xs : List Int} {c : Int} {ax : Int} {sz : Option Int} {ahead : Bool} {kd : Nat}
theorem places_find {m : Int} (I : Inv μ ro S T) (hm : m ∈ T.leaves) (hr : S.ws m = some r) : ((places T).find? fun e => decide (e.1 = m)).map (·.2) = some (.tup [.int r.left, .int r.top, .int r.width, .int r.height, r.shown]) := by
  have hm' : m ∈ (ents 0 0 T).map (·.1) := by rw [ents_fst]; exact hm
  obtain ⟨e, he, rfl⟩ := List.mem_map.mp hm'
  have nd : ((ents 0 0 T).map (·.1)).Nodup := by rw [ents_fst]; exact I.nd.sublist (leaves_sub T)
  rw [places, find_key nd he]
  obtain ⟨r', h1, x1, x2, x3, x4, x5⟩ := ent_rec I.sh' I.at_ e he
  rw [hr] at h1
  cases h1
  congr 1
  unfold WinR.shown entV
  have z1 := congrArg (·.1) x5
  have z2 := congrArg (·.2.1) x5
  have z3 := congrArg (·.2.2.1) x5
  have z4 := congrArg (·.2.2.2) x5
  dsimp only at z1 z2 z3 z4
  rw [x1, x2, x3, x4, z1, z2, z3, z4]
theorem split_facts {T' : WT} {f q old new : Int} {kn : Core} (I : Inv μ ro S T) (I' : Inv μ' ro' S' T') (hnT : n ∈ T.nums) (hsp : (∃ kq X Y, SplitA S S' T n f q kn ax old new ahead kq X Y) ∨ SplitB S S' T n f q kn ax old new ahead) :
    S.last < f ∧ cs S' f = some ((kn.setParent q).sized ax new) ∧ cs S' n = some ((kn.setParent q).sized ax old) ∧ ∃ kq x l, cs S' q = some kq ∧ kq.kids = x :: l := by
  refine byc fun hG => ?_
  have hnl := I.rng n hnT
  have hp : ∀ A B, ∃ x l, A ++ pairOf ahead n f ++ B = x :: l := fun A B => by
    cases A with
    | nil => cases ahead <;> exact ⟨_, _, rfl⟩
    | cons a A => exact ⟨_, _, rfl⟩
  rcases hsp with ⟨kq, X, Y, D⟩ | D
  · have hf := D.hf
    have hqT := D.P.pT
    rw [← D.hq] at hqT
    have hql := I.rng q hqT
    have hkn : ((kn.setParent q) : Core) = kn := by rw [D.hq]; rfl
    obtain ⟨x, l, hxl⟩ := hp X Y
    refine hG ⟨by exact om180 hf, by rw [D.c, if_pos rfl, hkn], by rw [D.c, if_neg (by exact om178 hf hnl.2), if_pos rfl, hkn], _, x, l, by rw [D.c, if_neg (by exact om178 hf hql.2), if_neg (by rw [D.hq]; exact D.P.pn), if_pos rfl], hxl⟩
  · have hf := D.hf
    have hq := D.hq
    obtain ⟨x, l, hxl⟩ := hp [] []
    rw [List.nil_append, List.append_nil] at hxl
    exact hG ⟨by exact om182 hf, by rw [D.c, if_pos rfl], by rw [D.c, if_neg (by exact om171 hf hnl.2), if_pos rfl], _, x, l, by rw [D.c, if_neg (by exact om172 hq hf), if_neg (by exact om173 hq hnl.2), if_pos rfl], hxl⟩
theorem pair_pos {T' : WT} {f old new : Int} {kn : Core} {rn rf : WinR} {A B : List Ent} {l t : Int} (I : Inv μ ro S T') (hn : S.ws n = some rn) (hf : S.ws f = some rf) (hax : ax = 0 ∨ ax = 1)
    (he : ents 0 0 T' = A ++ entsL (rowOf ax) l t (pairT ahead n f (kn.sized ax old) (kn.sized ax new)) ++ B) (h1 : rn.core.sz ax = old) (h2 : rf.core.sz ax = new) :
    (if ahead then rf else rn).plc ax = (if ax = 0 then l else t) ∧ (if ahead then rn else rf).plc ax = (if ax = 0 then l else t) + (if ahead then rf else rn).core.sz ax := by
  rw [pair_ents] at he
  have hrec : ∀ {e : Ent} {r : WinR}, e ∈ ents 0 0 T' → S.ws e.1 = some r → r.left = e.2.1 ∧ r.top = e.2.2.1 := fun {e r} hm hr => by
    obtain ⟨r', g1, x1, x2, _⟩ := ent_rec I.sh' I.at_ e hm
    rw [hr] at g1
    cases g1
    exact ⟨x1, x2⟩
  cases ahead with
  | false =>
    simp only [Bool.false_eq_true, reduceIte] at he ⊢
    have e1 := hrec (e := (n, l, t, (kn.sized ax old).width, (kn.sized ax old).height, (kn.sized ax old).sh)) (by rw [he]; simp) hn
    have e2 := hrec (r := rf) (e := (f, if rowOf ax then l + (kn.sized ax old).width else l, if rowOf ax then t else t + (kn.sized ax old).height, (kn.sized ax new).width, (kn.sized ax new).height, (kn.sized ax new).sh)) (by rw [he]; simp) hf
    dsimp only at e1 e2
    rcases hax with rfl | rfl
    · simp [rowOf, Core.sized] at e2
      simp only [WinR.plc, reduceIte]
      refine ⟨e1.1, ?_⟩
      rw [e2.1, h1]
    · simp [rowOf, Core.sized] at e2
      simp only [WinR.plc]
      refine ⟨e1.2, ?_⟩
      simp only [show ¬ ((1 : Int) = 0) by decide, reduceIte]
      rw [e2.2, h1]
  | true =>
    simp only [reduceIte] at he ⊢
    have e1 := hrec (e := (f, l, t, (kn.sized ax new).width, (kn.sized ax new).height, (kn.sized ax new).sh)) (by rw [he]; simp) hf
    have e2 := hrec (r := rn) (e := (n, if rowOf ax then l + (kn.sized ax new).width else l, if rowOf ax then t else t + (kn.sized ax new).height, (kn.sized ax old).width, (kn.sized ax old).height, (kn.sized ax old).sh)) (by rw [he]; simp) hn
    dsimp only at e1 e2
    rcases hax with rfl | rfl
    · simp [rowOf, Core.sized] at e2
      simp only [WinR.plc, reduceIte]
      refine ⟨e1.1, ?_⟩
      rw [e2.1, h2]
    · simp [rowOf, Core.sized] at e2
      simp only [WinR.plc]
      refine ⟨e1.2, ?_⟩
      simp only [show ¬ ((1 : Int) = 0) by decide, reduceIte]
      rw [e2.2, h2]
theorem pair_rest {T' : WT} {f : Int} {kn kf : Core} {A B : List Ent} {l t : Int} {row : Bool} {e : Ent} (he : ents 0 0 T = A ++ e :: B) (hen : e.1 = n) (hA : ∀ a ∈ A, a.1 ≠ n) (hB : ∀ a ∈ B, a.1 ≠ n) (he' : ents 0 0 T' = A ++ entsL row l t (pairT ahead n f kn kf) ++ B) (hf : f ∉ T.leaves) (hfn : n ≠ f) :
    ((places T').filter fun e => decide (e.1 ≠ f)).filter (fun e => decide (e.1 ≠ n)) = (places T).filter fun e => decide (e.1 ≠ n) := by
  have hfA : ∀ a ∈ A, a.1 ≠ f := fun a ha q => hf (by rw [← ents_fst (l := 0) (t := 0), he, ← q]; exact List.mem_map_of_mem (List.mem_append_left _ ha))
  have hfB : ∀ a ∈ B, a.1 ≠ f := fun a ha q => hf (by rw [← ents_fst (l := 0) (t := 0), he, ← q]; exact List.mem_map_of_mem (List.mem_append_right _ (.tail _ ha)))
  unfold places
  rw [he, he', List.map_append, List.map_append, List.map_append, List.map_cons, List.filter_append, List.filter_append, List.filter_append, List.filter_append, List.filter_append, List.filter_cons, filter_key hfA, filter_key hfB, filter_key hA, filter_key hB]
  have h1 : decide ((entV e).1 ≠ n) = false := by simp [entV, hen]
  rw [h1, pair_ents]
  have h2 : ((List.map entV (if ahead = true then [(f, l, t, kf.width, kf.height, kf.sh), (n, if row then l + kf.width else l, if row then t else t + kf.height, kn.width, kn.height, kn.sh)]
    else [(n, l, t, kn.width, kn.height, kn.sh), (f, if row then l + kn.width else l, if row then t else t + kn.height, kf.width, kf.height, kf.sh)])).filter (fun e => decide (e.1 ≠ f))).filter (fun e => decide (e.1 ≠ n)) = [] := by
    cases ahead <;> simp [entV, hfn]
  rw [h2]
  simp
end
end Mine
end
section
set_option maxRecDepth 10000
open PySem PySem.W PySem.Calls PyProof.Rows
namespace Mine
structure LapC (μ : Mem) (ro : Nat → Option Role) (S' : Store) (T' : WT) (S : Store) (T : WT) (xs : List Int) (c : Int) (ρ : Loc) (n f q : Int) (kn : Core) (rn rf : WinR) (ax : Int) (sz : Option Int) (ahead : Bool) (kd : Nat) (old new : Int) : Prop where
  I : Inv μ ro S' T'
  D : Dk xs c μ ro
  hn : S'.ws n = some rn
  hf : S'.ws f = some rf
  K : Held kd (.dict (places T)) μ ro
  lf : S.last < f
  cf : rf.core = (kn.setParent q).sized ax new
  cn : rn.core = (kn.setParent q).sized ax old
  st : S'.t = S.t
  sl : S'.last ≤ S.last + 2
  sz' : T'.size ≤ T.size + 2
  G : Grown (cs S') T T' n f q kn ax old new ahead
  P : (∃ kq X Y, SplitA S S' T n f q kn ax old new ahead kq X Y) ∨ SplitB S S' T n f q kn ax old new ahead
  a1 : ρ "deck" = some (.obj 1)
  a2 : ρ "tree" = some (.obj S'.t)
  a3 : ρ "number" = some (.int n)
  a4 : ρ "axis" = some (.int ax)
  a5 : ρ "part" = some (vsz sz)
  a6 : ρ "is_ahead" = some (.bool ahead)
  a7 : ρ "shown_window" = some (.obj rn.o)
  a8 : ρ "ahead" = some (.obj kd)
  b3 : ρ "newest_one" = some (.int f)
  b4 : ρ "fresh" = some (.obj rf.o)
section
variable {μ μ0 μ1 μ' : Mem} {ro ro0 ro' : Nat → Option Role} {S S' : Store} {n : Int} {r : WinR} {ρ : Loc} {T : WT} {xs : List Int} {c : Int} {ax : Int} {sz : Option Int} {ahead : Bool} {kd : Nat}
theorem LapC.keep {T' : WT} {f q : Int} {kn : Core} {rn rf : WinR} {old new : Int} (C : LapC μ ro S' T' S T xs c ρ n f q kn rn rf ax sz ahead kd old new) (R : RT μ' ro S') (st : Step μ ro μ' ro) : LapC μ' ro S' T' S T xs c ρ n f q kn rn rf ax sz ahead kd old new :=
  { C with I := C.I.step R, D := C.D.step st, K := C.K.step st }
theorem LapC.temp {T' : WT} {f q : Int} {kn : Core} {rn rf : WinR} {old new : Int} (C : LapC μ ro S' T' S T xs c ρ n f q kn rn rf ax sz ahead kd old new) {k : Nat} (hr : ro k = none) (h2 : 2 ≤ k) (hk : k ≠ kd) (o : AO) : LapC (μ.set k o) ro S' T' S T xs c ρ n f q kn rn rf ax sz ahead kd old new :=
  { C with I := C.I.step (C.I.R.temp hr o), D := ⟨by rw [get_set, if_neg (by exact om241 h2)]; exact C.D.g0, by rw [get_set, if_neg (by exact om242 h2)]; exact C.D.g1, C.D.r0, C.D.r1, C.D.n2, C.D.c0, C.D.len⟩, K := ⟨C.K.lt, C.K.r, by rw [get_set, if_neg (Ne.symm hk)]; exact C.K.g⟩ }
theorem LapC.loc {T' : WT} {f q : Int} {kn : Core} {rn rf : WinR} {old new : Int} {ρ' : Loc} (C : LapC μ ro S' T' S T xs c ρ n f q kn rn rf ax sz ahead kd old new) (h : ∀ x ∈ [("deck" : Str), ("tree" : Str), ("number" : Str), ("axis" : Str), ("part" : Str), ("is_ahead" : Str), ("shown_window" : Str), ("ahead" : Str), ("newest_one" : Str), ("fresh" : Str)], ρ' x = ρ x) : LapC μ ro S' T' S T xs c ρ' n f q kn rn rf ax sz ahead kd old new :=
  { C with a1 := (h _ (by simp)).trans C.a1, a2 := (h _ (by simp)).trans C.a2, a3 := (h _ (by simp)).trans C.a3, a4 := (h _ (by simp)).trans C.a4, a5 := (h _ (by simp)).trans C.a5, a6 := (h _ (by simp)).trans C.a6, a7 := (h _ (by simp)).trans C.a7, a8 := (h _ (by simp)).trans C.a8, b3 := (h _ (by simp)).trans C.b3, b4 := (h _ (by simp)).trans C.b4 }
theorem lap_c1 (L : LapA μ ro S T xs c ρ n r ax sz ahead kd) (hok : ¬ (r.core.sz ax - newOf (r.core.sz ax) sz < leastOf ax ∨ newOf (r.core.sz ax) sz < leastOf ax)) (h9 : S.last + 2 ≤ 900) (hsz : T.size ≤ 128) :
    ∃ ρ' μ' ro' S' T' f q rn rf, LapC μ' ro' S' T' S T xs c ρ' n f q r.core rn rf ax sz ahead kd (r.core.sz ax - newOf (r.core.sz ax) sz) (newOf (r.core.sz ax) sz) ∧ ∀ m : SM,
      (sSeq (sAssign (eCall (lCons (eName "tree") (lCons (eName "number") (lCons (eName "part") (lCons (eName "axis") (lCons (eName "is_ahead") lNil))))) m_split) (aName "newest_one"))
  (sSeq (sAssign (eSub (eAttr (eName "tree") 164 "windows") (eName "newest_one")) (aName "fresh"))
  (sSeq (sIf (tCmp .NotEq (eList (lCons (eMeth (eName "shown_window") 93 "size" (lCons (eName "axis") lNil) m_wi_size) (lCons (eMeth (eName "fresh") 93 "size" (lCons (eName "axis") lNil) m_wi_size) (lCons (eMeth (eName "fresh") 93 "size" (lCons (eBin .Sub (eInt 1) (eName "axis")) lNil) m_wi_size) lNil)))) (eList (lCons (eName "old") (lCons (eName "new") (lCons (eMeth (eName "shown_window") 93 "size" (lCons (eBin .Sub (eInt 1) (eName "axis")) lNil) m_wi_size) lNil))))) (sSeq (sRet (eBool false))
  sNil) sNil)
  m))) ρ μ = m ρ' μ' := by
  refine byc fun hG => ?_
  have hax := L.hax
  have hnT : n ∈ T.nums := (leaves_sub T).subset L.hm
  generalize ho : r.core.sz ax - newOf (r.core.sz ax) sz = old at *
  generalize hnw : newOf (r.core.sz ax) sz = new at *
  obtain ⟨μ1, ro1, S1, T1, f, q, h1, I1, s1, t1, z1, l1, G, P⟩ := h_split L.I L.hm (cs_of L.hn) hax sz ahead h9 hsz (by rw [hnw]; exact ho.symm) hnw.symm hok
  obtain ⟨lf, cf, cn, _⟩ := split_facts L.I I1 hnT P
  obtain ⟨rf, hrf, hrfc⟩ := cs_some cf
  obtain ⟨rn, hrn, hrnc⟩ := cs_some cn
  have hro := same_o L.I.R s1 I1.R L.hn hrn
  have e1 := call_at (l_cons (name_of (μ := μ) L.a2) (l_cons (name_of L.a3) (l_cons (name_of L.a5) (l_cons (name_of L.a4) (l_cons (name_of L.a6) l_nil))))) h1
  generalize hρ1 : put ρ "newest_one" (.int f) = ρ1
  have b1 : ρ1 "tree" = some (.obj S1.t) := by rw [← hρ1, t1]; simp [eName, eInt, eNone, eBool, bind2_some, bind2, eAttr, eIf, tCmp, eCmp, tNot, tAnd, tOr, tVal, cv_eq, cv_ne, cv_lt, cv_le, cv_gt, cv_is, isN_none, isN_int, isN_obj, eBin, iBin, eMeth, lCons, lNil, eCall, eSub, eBM, eList, eTup, eDict0, mLen, mList, mDict, mGet, mIndex, mAppend, mExtend, mPop, mDPop, mInsert, mRemove, isList, isDict, bindv_cons, bindv_nil, put_at, ofString_inj, Option.map_some, List.length_cons, List.length_nil, L.a2]
  have b2 : ρ1 "newest_one" = some (.int f) := lk hρ1 (by kernel_rfl)
  have e2 := h_at (et := eName "tree") (en := eName "newest_one") I1.R hrf (name_of b1) (name_of b2)
  generalize hρ2 : put ρ1 "fresh" (.obj rf.o) = ρ2
  have c1 : ρ2 "shown_window" = some (.obj rn.o) := by rw [← hρ2, ← hρ1, hro]; simp [eName, eInt, eNone, eBool, bind2_some, bind2, eAttr, eIf, tCmp, eCmp, tNot, tAnd, tOr, tVal, cv_eq, cv_ne, cv_lt, cv_le, cv_gt, cv_is, isN_none, isN_int, isN_obj, eBin, iBin, eMeth, lCons, lNil, eCall, eSub, eBM, eList, eTup, eDict0, mLen, mList, mDict, mGet, mIndex, mAppend, mExtend, mPop, mDPop, mInsert, mRemove, isList, isDict, bindv_cons, bindv_nil, put_at, ofString_inj, Option.map_some, List.length_cons, List.length_nil, L.a7]
  have c2 : ρ2 "fresh" = some (.obj rf.o) := lk hρ2 (by kernel_rfl)
  have c3 : ρ2 "axis" = some (.int ax) := lk2 hρ2 (by kernel_rfl) (lk2 hρ1 (by kernel_rfl) L.a4)
  have c4 : ρ2 "old" = some (.int old) := by rw [← hρ2, ← hρ1]; simp [eName, eInt, eNone, eBool, bind2_some, bind2, eAttr, eIf, tCmp, eCmp, tNot, tAnd, tOr, tVal, cv_eq, cv_ne, cv_lt, cv_le, cv_gt, cv_is, isN_none, isN_int, isN_obj, eBin, iBin, eMeth, lCons, lNil, eCall, eSub, eBM, eList, eTup, eDict0, mLen, mList, mDict, mGet, mIndex, mAppend, mExtend, mPop, mDPop, mInsert, mRemove, isList, isDict, bindv_cons, bindv_nil, put_at, ofString_inj, Option.map_some, List.length_cons, List.length_nil, L.b1, hnw, ho]
  have c5 : ρ2 "new" = some (.int new) := by rw [← hρ2, ← hρ1]; simp [eName, eInt, eNone, eBool, bind2_some, bind2, eAttr, eIf, tCmp, eCmp, tNot, tAnd, tOr, tVal, cv_eq, cv_ne, cv_lt, cv_le, cv_gt, cv_is, isN_none, isN_int, isN_obj, eBin, iBin, eMeth, lCons, lNil, eCall, eSub, eBM, eList, eTup, eDict0, mLen, mList, mDict, mGet, mIndex, mAppend, mExtend, mPop, mDPop, mInsert, mRemove, isList, isDict, bindv_cons, bindv_nil, put_at, ofString_inj, Option.map_some, List.length_cons, List.length_nil, L.b2, hnw]
  have size : ∀ {m : Mem} {x : Str} {k : Int} {w : WinR} {e : EM} {a : Int}, RT m ro1 S1 → S1.ws k = some w → ρ2 x = some (.obj w.o) → e ρ2 m = some (.int a, m) → eMeth (eName x) 93 "size" (lCons e lNil) m_wi_size ρ2 m = some (.int (w.core.sz a), m) := fun R hw hx he =>
    h_meth (x := "size") R hw (name_of hx) (fun fs wf => wf.m1) (l_cons he l_nil) (h_size R hw _)
  have hac : ∀ {m : Mem}, eBin .Sub (eInt 1) (eName "axis") ρ2 m = some (.int (1 - ax), m) := fun {m} => bin_at rfl (name_of c3) rfl
  have e3 := list_of (l_cons (size I1.R hrn c1 (name_of c3)) (l_cons (size I1.R hrf c2 (name_of c3)) (l_cons (size I1.R hrf c2 hac) l_nil))) (by simp)
  have v1 : rn.core.sz ax = old := by rw [hrnc, sz_sized]
  have v2 : rf.core.sz ax = new := by rw [hrfc, sz_sized]
  have v3 : rf.core.sz (1 - ax) = rn.core.sz (1 - ax) := by rw [hrfc, hrnc, sz_across hax, sz_across hax]
  rw [v1, v2, v3] at e3
  have M2 := Made.start I1.R (.list [.int old, .int new, .int (rn.core.sz (1 - ax))])
  have e4 := list_of (l_cons (name_of c4) (l_cons (name_of c5) (l_cons (size M2.R hrn c1 hac) l_nil))) (by simp)
  have M3 := Made.start M2.R (.list [.int old, .int new, .int (rn.core.sz (1 - ax))])
  have K3 := M2.held.step M3.st
  have e5 := t_listne e3 e4 K3.g M3.g rfl
  generalize (μ1.new (.list [.int old, .int new, .int (rn.core.sz (1 - ax))])).new (.list [.int old, .int new, .int (rn.core.sz (1 - ax))]) = μ3 at *
  have s3 := (s1.trans M2.st).trans M3.st
  refine hG ⟨ρ2, μ3, ro1, S1, T1, f, q, rn, rf, { I := I1.step M3.R, D := L.D.step s3, hn := hrn, hf := hrf, K := L.K.step s3, lf := lf, cf := hrfc, cn := hrnc, st := t1, sl := l1, sz' := z1, G := G, P := P, a1 := ?_, a2 := ?_, a3 := ?_, a4 := c3, a5 := ?_, a6 := ?_, a7 := c1, a8 := ?_, b3 := ?_, b4 := c2 }, fun m => ?_⟩
  · exact lk2 hρ2 (by kernel_rfl) (lk2 hρ1 (by kernel_rfl) L.a1)
  · exact lk2 hρ2 (by kernel_rfl) b1
  · exact lk2 hρ2 (by kernel_rfl) (lk2 hρ1 (by kernel_rfl) L.a3)
  · exact lk2 hρ2 (by kernel_rfl) (lk2 hρ1 (by kernel_rfl) L.a5)
  · exact lk2 hρ2 (by kernel_rfl) (lk2 hρ1 (by kernel_rfl) L.a6)
  · exact lk2 hρ2 (by kernel_rfl) (lk2 hρ1 (by kernel_rfl) L.a8)
  · exact lk2 hρ2 (by kernel_rfl) b2
  · exact (seq_next (st_nm e1 hρ1)).trans ((seq_next (st_nm e2 hρ2)).trans (seq_next ((sif_false e5).trans rfl)))
theorem dpop_any {eo e1 : EM} {k : Nat} {es : List (Int × V)} {v : V} {m : Int} (ho : eo ρ μ = some (.obj k, μ)) (hg : μ.get k = some (.dict es)) (he : e1 ρ μ = some (.int m, μ)) (hl : es.length ≤ 1000) (hf : (es.find? fun e => decide (e.1 = m)).map (·.2) = some v) :
    eBM eo isDict (lCons e1 lNil) mDPop ρ μ = some (v, μ.set k (.dict (es.filter fun e => decide (e.1 ≠ m)))) := by
  simp only [eBM, ho, bind2_some, isDict_of hg, reduceIte, lNil, lCons, he, mDPop, hg, hl, hf]
theorem lap_c2 {T' : WT} {f q old new : Int} {kn : Core} {rn rf : WinR} {r : WinR} {μa : Mem} {roa : Nat → Option Role} (C : LapC μ ro S' T' S T xs c ρ n f q kn rn rf ax sz ahead kd old new) (I : Inv μa roa S T) (hm : n ∈ T.leaves) (hn : S.ws n = some r) (hkn : r.core = kn) (hax : ax = 0 ∨ ax = 1) :
    ∃ ρ' μ', LapC μ' ro S' T' S T xs c ρ' n f q kn rn rf ax sz ahead kd old new ∧ ∀ m : SM,
      (sSeq (sAssign (eIf (tVal (eName "is_ahead")) (eTup (lCons (eName "fresh") (lCons (eName "shown_window") lNil))) (eTup (lCons (eName "shown_window") (lCons (eName "fresh") lNil)))) (aTup (asCons (aName "first") (asCons (aName "second") asNil))))
  (sSeq (sIf (tOr (tCmp .NotEq (eMeth (eName "first") 93 "place" (lCons (eName "axis") lNil) m_wi_place) (eSub (eSub (eName "ahead") (eName "number")) (eName "axis"))) (tCmp .NotEq (eMeth (eName "second") 93 "place" (lCons (eName "axis") lNil) m_wi_place) (eBin .Add (eMeth (eName "first") 93 "place" (lCons (eName "axis") lNil) m_wi_place) (eMeth (eName "first") 93 "size" (lCons (eName "axis") lNil) m_wi_size)))) (sSeq (sRet (eBool false))
  sNil) sNil)
  (sSeq (sAssign (eCall (lCons (eCall (lCons (eName "tree") lNil) m_law_places) lNil) mDict) (aName "others"))
  (sSeq (sIf (tOr (tCmp .NotEq (eSub (eBM (eName "others") isDict (lCons (eName "newest_one") lNil) mDPop) (eInt 4)) (eMeth (eName "shown_window") 93 "shown" lNil m_wi_shown)) (tCmp .NotEq (eSub (eBM (eName "others") isDict (lCons (eName "number") lNil) mDPop) (eInt 4)) (eMeth (eName "shown_window") 93 "shown" lNil m_wi_shown))) (sSeq (sRet (eBool false))
  sNil) sNil)
  (sSeq (sIf (tCmp .NotEq (eName "others") eSift) (sSeq (sRet (eBool false))
  sNil) sNil)
  m))))) ρ μ = m ρ' μ' := by
  refine byc fun hG => ?_
  obtain ⟨A, B, l, t, g1, g2, g3, g4⟩ := C.G.en
  have hnl : n ∈ T'.leaves := by
    rw [← ents_fst (l := 0) (t := 0), g4, pair_ents]
    cases ahead <;> simp
  have hfl : f ∈ T'.leaves := by
    rw [← ents_fst (l := 0) (t := 0), g4, pair_ents]
    cases ahead <;> simp
  have hnT := I.rng n ((leaves_sub T).subset hm)
  have hfT : f ∉ T.leaves := fun h => by have := (I.rng f ((leaves_sub T).subset h)).2; have := C.lf; omega
  have hnf : n ≠ f := fun e => hfT (e ▸ hm)
  have v1 : rn.core.sz ax = old := by rw [C.cn, sz_sized]
  have v2 : rf.core.sz ax = new := by rw [C.cf, sz_sized]
  have hshown : rf.shown = rn.shown := shown_eq (by rw [C.cf, C.cn, sh_sized, sh_sized])
  -- first and second
  obtain ⟨x1, hx1, hx1'⟩ : ∃ w, (if ahead then rf else rn) = w ∧ ∃ k, S'.ws k = some w := ⟨_, rfl, by
    cases ahead
    · exact ⟨n, C.hn⟩
    · exact ⟨f, C.hf⟩⟩
  obtain ⟨x2, hx2, hx2'⟩ : ∃ w, (if ahead then rn else rf) = w ∧ ∃ k, S'.ws k = some w := ⟨_, rfl, by
    cases ahead
    · exact ⟨f, C.hf⟩
    · exact ⟨n, C.hn⟩⟩
  obtain ⟨p1, p2⟩ := pair_pos C.I C.hn C.hf hax g4 v1 v2
  rw [hx1] at p1 p2
  rw [hx2] at p2
  have e1 : eIf (tVal (eName "is_ahead")) (eTup (lCons (eName "fresh") (lCons (eName "shown_window") lNil))) (eTup (lCons (eName "shown_window") (lCons (eName "fresh") lNil))) ρ μ = some (.tup [.obj x1.o, .obj x2.o], μ) := by
    have t1 : tVal (eName "is_ahead") ρ μ = some (ahead, μ) := by simp only [tVal, name_of C.a6, bind2_some]
    simp only [eIf, t1, bind2_some]
    rw [← hx1, ← hx2]
    cases ahead
    · exact tup_of (l_cons (name_of C.a7) (l_cons (name_of C.b4) l_nil)) (by simp)
    · exact tup_of (l_cons (name_of C.b4) (l_cons (name_of C.a7) l_nil)) (by simp)
  generalize hρ1 : put (put ρ "first" (.obj x1.o)) "second" (.obj x2.o) = ρ1
  have s1 : sAssign (eIf (tVal (eName "is_ahead")) (eTup (lCons (eName "fresh") (lCons (eName "shown_window") lNil))) (eTup (lCons (eName "shown_window") (lCons (eName "fresh") lNil)))) (aTup (asCons (aName "first") (asCons (aName "second") asNil))) ρ μ = some (.next, ρ1, μ) := by
    rw [← hρ1]
    exact st_assign e1 (tup_at.trans (name_at.trans (name_at.trans nil_at)))
  have C1 : LapC μ ro S' T' S T xs c ρ1 n f q kn rn rf ax sz ahead kd old new := C.loc fun x hx => by
    rw [← hρ1]
    simp only [List.mem_cons, List.not_mem_nil, or_false] at hx
    rcases hx with rfl | rfl | rfl | rfl | rfl | rfl | rfl | rfl | rfl | rfl <;> simp [put_at, ofString_inj]
  have y1 : ρ1 "first" = some (.obj x1.o) := lk hρ1 (by kernel_rfl)
  have y2 : ρ1 "second" = some (.obj x2.o) := lk hρ1 (by kernel_rfl)
  clear hρ1 C
  obtain ⟨k1, hk1⟩ := hx1'
  obtain ⟨k2, hk2⟩ := hx2'
  have e2 := h_meth (x := "place") C1.I.R hk1 (name_of y1) (fun fs wf => wf.m3) (l_cons (name_of C1.a4) l_nil) (h_place C1.I.R hk1 ax)
  have e3 := h_meth (x := "place") C1.I.R hk2 (name_of y2) (fun fs wf => wf.m3) (l_cons (name_of C1.a4) l_nil) (h_place C1.I.R hk2 ax)
  have e4 := h_meth (x := "size") C1.I.R hk1 (name_of y1) (fun fs wf => wf.m1) (l_cons (name_of C1.a4) l_nil) (h_size C1.I.R hk1 ax)
  rw [show (if ax = 0 then x1.left else x1.top) = x1.plc ax from rfl, p1] at e2
  rw [show (if ax = 0 then x2.left else x2.top) = x2.plc ax from rfl, p2] at e3
  rw [show (if ax = 0 then x1.width else x1.height) = x1.core.sz ax from rfl] at e4
  have hrl : r.left = l ∧ r.top = t := by
    obtain ⟨r', z1, z2, z3, _⟩ := ent_rec I.sh' I.at_ (n, l, t, kn.width, kn.height, kn.sh) (by rw [g1]; simp)
    have z1' : S.ws n = some r' := z1
    rw [hn] at z1'
    cases z1'
    exact ⟨z2, z3⟩
  have e5 := sub_dict (name_of (μ := μ) C1.a8) (name_of C1.a3) C1.K.g (places_find I hm hn)
  have e6 : eSub (eSub (eName "ahead") (eName "number")) (eName "axis") ρ1 μ = some (.int (if ax = 0 then l else t), μ) := by
    refine sub_tup e5 (name_of C1.a4) (by simp; exact om243 hax) ?_
    rw [hrl.1, hrl.2]
    rcases hax with rfl | rfl <;> rfl
  have e7 := t_orff (t_intne e2 e6) (t_intne e3 (bin_at2 (op := .Add) e2 e4 rfl))
  -- the others
  obtain ⟨ko, μ2, h2, M2⟩ := h_places C1.I
  have hlen : (places T').length ≤ 1000 := by have := places_len T'; have := C1.I.sz; omega
  have e8 : eCall (lCons (eCall (lCons (eName "tree") lNil) m_law_places) lNil) mDict ρ1 μ = some (.obj μ2.n, μ2.new (.dict (places T'))) := by
    have q1 := l_cons2 (call_at (l_cons (name_of (μ := μ) C1.a2) l_nil) h2) (l_nil (ρ := ρ1) (μ := μ2))
    simp only [eCall, q1, bind2_some, mDict, M2.g, hlen, reduceIte]
  have M3 := Made.start M2.R (.dict (places T'))
  have C3 := (C1.keep M2.R M2.st).keep M3.R M3.st
  generalize hρ2 : put ρ1 "others" (.obj μ2.n) = ρ2
  have s3 := st_name (x := "others") e8
  rw [hρ2] at s3
  have C4 : LapC (μ2.new (.dict (places T'))) ro S' T' S T xs c ρ2 n f q kn rn rf ax sz ahead kd old new := C3.loc fun x hx => by
    rw [← hρ2]
    simp only [List.mem_cons, List.not_mem_nil, or_false] at hx
    rcases hx with rfl | rfl | rfl | rfl | rfl | rfl | rfl | rfl | rfl | rfl <;> simp [put_at, ofString_inj]
  have y3 : ρ2 "others" = some (.obj μ2.n) := lk hρ2 (by kernel_rfl)
  have hne : μ2.n ≠ kd := by have h1 := ((C1.keep M2.R M2.st).K).lt; exact om94 h1
  clear C3
  generalize hko : μ2.n = ko' at *
  generalize μ2.new (.dict (places T')) = μ3 at *
  have h2k : 2 ≤ ko' := by
    have h1 := C1.D.n2
    have h2 := M2.st.le
    exact om244 h1 h2 hko
  have e9 := dpop_any (name_of (μ := μ3) y3) M3.g (name_of C4.b3) hlen (places_find C4.I hfl C4.hf)
  have M5 := M3.set (.dict ((places T').filter fun e => decide (e.1 ≠ f)))
  have C5 := C4.temp M3.r h2k hne (.dict ((places T').filter fun e => decide (e.1 ≠ f)))
  generalize μ3.set ko' (.dict ((places T').filter fun e => decide (e.1 ≠ f))) = μ5 at *
  have e10 := sub_tup (ei := eInt 4) (v := rf.shown) e9 rfl (by simp) rfl
  rw [hshown] at e10
  have sh : ∀ {m : Mem}, RT m ro S' → eMeth (eName "shown_window") 93 "shown" lNil m_wi_shown ρ2 m = some (rn.shown, m) := fun R => h_meth (x := "shown") R C5.hn (name_of C5.a7) (fun fs wf => wf.m4) l_nil (h_shown R C5.hn)
  have e11 := t_tupne (l := [.int rn.buf, .int rn.st, .int rn.pt, .int rn.hs]) e10 (sh C5.I.R) rfl
  have hfind : (((places T').filter fun e => decide (e.1 ≠ f)).find? fun e => decide (e.1 = n)).map (·.2) = some (.tup [.int rn.left, .int rn.top, .int rn.width, .int rn.height, rn.shown]) := by
    rw [filter_at, if_neg hnf]
    exact places_find C5.I hnl C5.hn
  have hlen2 : ((places T').filter fun e => decide (e.1 ≠ f)).length ≤ 1000 := Nat.le_trans (List.length_filter_le _ _) hlen
  have e12 := dpop_any (name_of (μ := μ5) y3) M5.g (name_of C5.a3) hlen2 hfind
  have M6 := M5.set (.dict (((places T').filter fun e => decide (e.1 ≠ f)).filter fun e => decide (e.1 ≠ n)))
  have C6 := C5.temp M3.r h2k hne (.dict (((places T').filter fun e => decide (e.1 ≠ f)).filter fun e => decide (e.1 ≠ n)))
  rw [pair_rest g1 rfl g2 g3 g4 hfT hnf] at e12 M6 C6
  generalize μ5.set ko' (.dict ((places T).filter fun e => decide (e.1 ≠ n))) = μ6 at *
  have e13 := sub_tup (ei := eInt 4) (v := rn.shown) e12 rfl (by simp) rfl
  have e14 := t_tupne (l := [.int rn.buf, .int rn.st, .int rn.pt, .int rn.hs]) e13 (sh C6.I.R) rfl
  have e15 := t_orff e11 e14
  -- what is sifted
  have hlT : (places T).length ≤ 1000 := by have := places_len T; have := I.sz; omega
  have e16 : eSift ρ2 μ6 = some (.obj μ6.n, μ6.new (.dict ((places T).filter fun e => decide (e.1 ≠ n)))) := by
    unfold eSift
    rw [C6.a8, C6.a3]
    dsimp only
    rw [C6.K.g]
    dsimp only
    rw [if_pos ⟨hlT, places_nd I.nd⟩]
  have M7 := Made.start C6.I.R (.dict ((places T).filter fun e => decide (e.1 ≠ n)))
  have C7 := C6.keep M7.R M7.st
  have K7 := (M6.held).step M7.st
  have e17 := t_dict (name_of (μ := μ6) y3) e16 K7.g M7.g ((places_nd I.nd).sublist (List.filter_sublist.map _)) (fun e he => by
    have he' := (List.mem_filter.mp he).1
    unfold places at he'
    obtain ⟨x, _, rfl⟩ := List.mem_map.mp he'
    rfl)
  exact hG ⟨ρ2, _, C7, fun m => (seq_next s1).trans ((seq_next ((sif_false e7).trans rfl)).trans ((seq_next s3).trans ((seq_next ((sif_false e15).trans rfl)).trans (seq_next ((sif_false e17).trans rfl)))))⟩
end
end Mine
end
section
set_option maxRecDepth 10000
open PySem PySem.W PySem.Calls PyProof.Rows
namespace Mine
section
variable {μ μ0 μ1 μ' : Mem} {ro ro0 ro' : Nat → Option Role} {S S' : Store} {n : Int} {r : WinR} {ρ : Loc} {T : WT} {xs : List Int} {c : Int} {ax : Int} {sz : Option Int} {ahead : Bool} {kd : Nat}
theorem par_sized (k : Core) (ax v : Int) : (k.sized ax v).parent = k.parent := by
  unfold Core.sized
  split <;> rfl
noncomputable abbrev lapLast : SM := (sIf (tOr (tNot (tVal (eName "is_ahead"))) (tCmp .Eq (eSub (eAttr (eSub (eAttr (eName "tree") 164 "windows") (eAttr (eName "fresh") 93 "parent")) 93 "children") (eInt 0)) (eName "newest_one"))) (sSeq (sExpr (eCall (lCons (eName "tree") (lCons (eName "newest_one") lNil)) m_delete_window))
  (sSeq (sIf (tCmp .NotEq (eCall (lCons (eName "tree") lNil) m_law_places) (eName "ahead")) (sSeq (sRet (eBool false))
  sNil) sNil)
  (sSeq (sIf (tCmp .Eq (eCall (lCons (eName "deck") (lCons (eInt 2) lNil)) m_law_draw) (eInt 0)) (sSeq (sExpr (eCall (lCons (eName "tree") (lCons (eName "number") (lCons (eName "part") (lCons (eName "axis") (lCons (eName "is_ahead") lNil))))) m_split))
  sNil) sNil)
  sNil))) sNil)
theorem lap_c3 {T' : WT} {f q old new : Int} {kn : Core} {rn rf : WinR} {μa : Mem} {roa : Nat → Option Role} (C : LapC μ ro S' T' S T xs c ρ n f q kn rn rf ax sz ahead kd old new) (I : Inv μa roa S T) (hm : n ∈ T.leaves) (hn : cs S n = some kn) (hax : ax = 0 ∨ ax = 1) (ho : old = kn.sz ax - newOf (kn.sz ax) sz) (hnw : new = newOf (kn.sz ax) sz) (hok : ¬ (old < leastOf ax ∨ new < leastOf ax))
    (h9 : S.last + 4 ≤ 900) (hsz : T.size ≤ 128) (hc : c ≤ 890) :
    ∃ μ' ro' S'' T'' c', lapLast ρ μ = some (.next, ρ, μ') ∧ Inv μ' ro' S'' T'' ∧ Dk xs c' μ' ro' ∧ c' ≤ c + 1 ∧ S''.t = S'.t ∧ S''.last ≤ S.last + 4 ∧ T''.size ≤ T.size + 2 := by
  refine byc fun hG => ?_
  obtain ⟨lf, cf, cn, kq, x, l, cq, hkq⟩ := split_facts I C.I ((leaves_sub T).subset hm) C.P
  obtain ⟨rq, hrq, hrqc⟩ := cs_some cq
  have hrqk : rq.kids = x :: l := (congrArg Core.kids hrqc).trans hkq
  have hon : old + new = kn.sz ax := by exact om131 ho hnw
  have hrfp : rf.parent = q := by
    have := congrArg Core.parent C.cf
    exact this.trans (par_sized _ _ _)
  have t1 : tNot (tVal (eName "is_ahead")) ρ μ = some (!ahead, μ) := t_not (by simp only [tVal, name_of C.a6, bind2_some])
  have e1 := h_fld (x := "parent") C.I.R C.hf (name_of (μ := μ) C.b4) (fun fs wf => wf.parent)
  rw [hrfp] at e1
  have e2 := h_at (et := eName "tree") C.I.R hrq (name_of C.a2) e1
  have e3 := h_fld (x := "children") C.I.R hrq e2 (fun fs wf => wf.children)
  have gk := C.I.R.kd _ _ hrq
  rw [hrqk] at gk
  have e4 := sub_list (ei := eInt 0) (v := .int x) e3 rfl gk (by decide) rfl
  have t2 : tCmp .Eq (eSub (eAttr (eSub (eAttr (eName "tree") 164 "windows") (eAttr (eName "fresh") 93 "parent")) 93 "children") (eInt 0)) (eName "newest_one") ρ μ = some (x == f, μ) := by
    simp only [tCmp, e4, name_of C.b3, bind2_some, cv_eq, cv_ne, cv_lt, cv_le, cv_gt, cv_is, isN_none, isN_int, isN_obj, Option.map_some]
  have t3 := t_or t1 t2
  by_cases hcond : ahead = false ∨ x = f
  · rw [show (!ahead || x == f) = true by rcases hcond with h | h <;> simp [h]] at t3
    obtain ⟨μ1, ro1, S1, d1, I1, s1, k1, k2, k3⟩ := h_delete I C.I hm hn hax hon C.P (by
      rcases hcond with h | h
      · exact .inl h
      · exact .inr ⟨kq, cq, by rw [hkq, h]; rfl⟩)
    have e5 := call_at (l_cons (name_of (μ := μ) C.a2) (l_cons (name_of C.b3) l_nil)) d1
    obtain ⟨k, μ2, p2, M2⟩ := h_places I1
    have K2 := (C.K.step s1).step M2.st
    have a2 : ρ "tree" = some (.obj S1.t) := by rw [k1]; exact C.a2
    have e6 := t_dict (call_at (l_cons (name_of (μ := μ1) a2) l_nil) p2) (name_of C.a8) M2.g K2.g (places_nd I1.nd) (fun e he => by
      unfold places at he
      obtain ⟨x, _, rfl⟩ := List.mem_map.mp he
      rfl)
    have D2 := (C.D.step s1).step M2.st
    obtain ⟨v, μ3, d3, v0, v1, R3, D3, n3, g3⟩ := D2.draw M2.R (by exact om245 hc) (many := 2) (by decide)
    have e7 : tCmp .Eq (eCall (lCons (eName "deck") (lCons (eInt 2) lNil)) m_law_draw) (eInt 0) ρ μ2 = some (v == 0, μ3) := by
      have := call_at (l_cons (name_of (μ := μ2) C.a1) (l_cons (e := eInt 2) rfl l_nil)) d3
      simp only [tCmp, this, bind2_some, eInt, cv_eq, cv_ne, cv_lt, cv_le, cv_gt, cv_is, isN_none, isN_int, isN_obj, Option.map_some]
    have I3 := I1.step R3
    have hsl := C.sl
    cases hv : (v == 0) with
    | false =>
      rw [hv] at e7
      refine hG ⟨μ3, ro1, S1, T, c + 1, (sif_true t3).trans ((seq_next (st_expr e5)).trans ((seq_next ((sif_false e6).trans rfl)).trans ((seq_next ((sif_false e7).trans rfl)).trans rfl))), I3, D3, Int.le_refl _, k1, by exact om246 k2 hsl, by exact om247⟩
    | true =>
      rw [hv] at e7
      obtain ⟨μ4, ro4, S4, T4, f4, q4, h4, I4, s4, t4, z4, l4, _, _⟩ := h_split I3 hm (by rw [k3]; exact hn) hax sz ahead (by exact om248 h9 k2 hsl) hsz ho hnw hok
      have e8 := call_at (l_cons (name_of (μ := μ3) a2) (l_cons (name_of C.a3) (l_cons (name_of C.a5) (l_cons (name_of C.a4) (l_cons (name_of C.a6) l_nil))))) h4
      exact hG ⟨μ4, ro4, S4, T4, c + 1, (sif_true t3).trans ((seq_next (st_expr e5)).trans ((seq_next ((sif_false e6).trans rfl)).trans ((seq_next ((sif_true e7).trans ((seq_next (st_expr e8)).trans rfl))).trans rfl))), I4, D3.step s4, Int.le_refl _, t4.trans k1, by exact om249 k2 hsl l4, z4⟩
  · rw [not_or] at hcond
    rw [show (!ahead || x == f) = false by simp [hcond]] at t3
    have hsl := C.sl
    exact hG ⟨μ, ro, S', T', c, (sif_false t3).trans rfl, C.I, C.D, by exact om250, rfl, by exact om251 hsl, C.sz'⟩
theorem lap_step {i : Int} (I : Inv μ ro S T) (D : Dk xs c μ ro) (hc : c ≤ 800) (h9 : S.last + 4 ≤ 900) (hsz : T.size ≤ 128) (a1 : ρ "deck" = some (.obj 1)) (a2 : ρ "tree" = some (.obj S.t)) (a3 : ρ "lap" = some (.int i)) :
    ∃ o ρ' μ' ro' S' T' c', lapBody ρ μ = some (o, ρ', μ') ∧ (o = .next ∨ o = .cont) ∧ Inv μ' ro' S' T' ∧ Dk xs c' μ' ro' ∧ c' ≤ c + 5 ∧ S'.last ≤ S.last + 4 ∧ T'.size ≤ T.size + 2 ∧ ρ' "deck" = some (.obj 1) ∧ ρ' "tree" = some (.obj S'.t) := by
  refine byc fun hG => ?_
  obtain ⟨ρ1, μ1, S1, T1, n, r, ax, sz, ahead, kd, L, t1, l1, z1, e1⟩ := lap_a I D hc a1 a2 a3
  by_cases hbad : r.core.sz ax - newOf (r.core.sz ax) sz < leastOf ax ∨ newOf (r.core.sz ax) sz < leastOf ax
  · obtain ⟨μ2, e2, I2, D2⟩ := lap_b L hbad
    exact hG ⟨.cont, ρ1, μ2, ro, S1, T1, c + 4, (e1 _).trans (seq_cont e2), .inr rfl, I2, D2, by exact om252, by exact om253 l1, by exact om254 z1, L.a1, L.a2⟩
  · have e2 := lap_ok L hbad
    obtain ⟨ρ3, μ3, ro3, S3, T3, f, q, rn, rf, C3, e3⟩ := lap_c1 L hbad (by exact om255 h9 l1) (by exact om256 z1 hsz)
    obtain ⟨ρ4, μ4, C4, e4⟩ := lap_c2 C3 L.I L.hm L.hn rfl L.hax
    obtain ⟨μ5, ro5, S5, T5, c5, e5, I5, D5, k1, k2, k3, k4⟩ := lap_c3 C4 L.I L.hm (cs_of L.hn) L.hax rfl rfl hbad (by exact om257 h9 l1) (by exact om256 z1 hsz) (by exact om258 hc)
    refine hG ⟨.next, ρ4, μ5, ro5, S5, T5, c5, (e1 _).trans ((seq_next e2).trans ((e3 _).trans ((e4 _).trans ((seq_next e5).trans rfl)))), .inl rfl, I5, D5, by exact om259 k1, by exact om260 l1 k3, by exact om261 z1 k4, C4.a1, ?_⟩
    rw [k2]; exact C4.a2
theorem laps : ∀ (m f : Nat) (i : Int) (ρ : Loc) (μ : Mem) (ro : Nat → Option Role) (S : Store) (T : WT) (c : Int), m < f → Inv μ ro S T → Dk xs c μ ro → c + 5 * m ≤ 800 → S.last + 4 * m ≤ 896 → T.size + 2 * m ≤ 128 → ρ "deck" = some (.obj 1) → ρ "tree" = some (.obj S.t) →
    ∃ ρ' μ', sRange (aName "lap") lapBody f i m ρ μ = some (.next, ρ', μ') := by
  intro m
  induction m with
  | zero =>
    intro f i ρ μ ro S T c hf I D h1 h2 h3 a1 a2
    obtain ⟨f, rfl⟩ : ∃ g, f = g + 1 := ⟨f - 1, by exact om95 hf⟩
    exact ⟨ρ, μ, by unfold sRange; rw [if_pos (by simp)]⟩
  | succ m ih =>
    intro f i ρ μ ro S T c hf I D h1 h2 h3 a1 a2
    obtain ⟨f, rfl⟩ : ∃ g, f = g + 1 := ⟨f - 1, by exact om97 hf⟩
    obtain ⟨o, ρ1, μ1, ro1, S1, T1, c1, e1, ho, I1, D1, k1, k2, k3, b1, b2⟩ := lap_step (i := i) (ρ := put ρ "lap" (.int i)) I D (by exact om262 h1) (by exact om263 h2) (by exact om264 h3) (by simp [eName, eInt, eNone, eBool, bind2_some, bind2, eAttr, eIf, tCmp, eCmp, tNot, tAnd, tOr, tVal, cv_eq, cv_ne, cv_lt, cv_le, cv_gt, cv_is, isN_none, isN_int, isN_obj, eBin, iBin, eMeth, lCons, lNil, eCall, eSub, eBM, eList, eTup, eDict0, mLen, mList, mDict, mGet, mIndex, mAppend, mExtend, mPop, mDPop, mInsert, mRemove, isList, isDict, bindv_cons, bindv_nil, put_at, ofString_inj, Option.map_some, List.length_cons, List.length_nil, a1]) (by simp [eName, eInt, eNone, eBool, bind2_some, bind2, eAttr, eIf, tCmp, eCmp, tNot, tAnd, tOr, tVal, cv_eq, cv_ne, cv_lt, cv_le, cv_gt, cv_is, isN_none, isN_int, isN_obj, eBin, iBin, eMeth, lCons, lNil, eCall, eSub, eBM, eList, eTup, eDict0, mLen, mList, mDict, mGet, mIndex, mAppend, mExtend, mPop, mDPop, mInsert, mRemove, isList, isDict, bindv_cons, bindv_nil, put_at, ofString_inj, Option.map_some, List.length_cons, List.length_nil, a2]) (by simp [eName, eInt, eNone, eBool, bind2_some, bind2, eAttr, eIf, tCmp, eCmp, tNot, tAnd, tOr, tVal, cv_eq, cv_ne, cv_lt, cv_le, cv_gt, cv_is, isN_none, isN_int, isN_obj, eBin, iBin, eMeth, lCons, lNil, eCall, eSub, eBM, eList, eTup, eDict0, mLen, mList, mDict, mGet, mIndex, mAppend, mExtend, mPop, mDPop, mInsert, mRemove, isList, isDict, bindv_cons, bindv_nil, put_at, ofString_inj, Option.map_some, List.length_cons, List.length_nil])
    obtain ⟨ρ2, μ2, e2⟩ := ih f (i + 1) ρ1 μ1 ro1 S1 T1 c1 (by exact om100 hf) I1 D1 (by exact om265 h1 k1) (by exact om266 h2 k2) (by exact om267 h3 k3) b1 b2
    refine ⟨ρ2, μ2, ?_⟩
    unfold sRange
    rw [if_neg (by exact om268)]
    show (match lapBody (put ρ "lap" (.int i)) μ with
      | some (.next, ρ2, μ2) => sRange (aName "lap") lapBody f (i + 1) (((m + 1 : Nat) : Int) - 1) ρ2 μ2
      | some (.cont, ρ2, μ2) => sRange (aName "lap") lapBody f (i + 1) (((m + 1 : Nat) : Int) - 1) ρ2 μ2
      | some (.ret v, ρ2, μ2) => some (.ret v, ρ2, μ2)
      | _ => none) = _
    rw [e1, show (((m + 1 : Nat) : Int) - 1) = (m : Int) by exact om269]
    rcases ho with rfl | rfl <;> exact e2
end
end Mine
end
section
set_option maxRecDepth 10000
open PySem PySem.W PySem.Calls PyProof.Rows
namespace Mine
section
variable {μ μ1 μ2 : Mem} {ρ : Loc}
theorem call_at2 {ms : LM} {m : FM} {vs : List V} {v : V} (h : ms ρ μ = some (vs, μ1)) (hm : m vs μ1 = some (v, μ2)) : eCall ms m ρ μ = some (v, μ2) := by
  simp only [eCall, h, bind2_some, hm]
end
theorem lawM_true (ns : List Int) : ∃ ρ' μ', lawRest loc0 (mem0 ns) = some (.ret (.bool true), ρ', μ') := by
  have g0 : (mem0 ns).get 0 = some (.list (((ns.take 63).map absI).map .int)) := by
    show some (AO.list ((ns.take 63).map fun i => V.int (absI i))) = _
    rw [List.map_map]; rfl
  have g1 : (mem0 ns).get 1 = some (.list [.obj 0, .int 0]) := rfl
  have n0 : (mem0 ns).n = 2 := rfl
  have hl : ((ns.take 63).map absI).length ≤ 63 := by rw [List.length_map, List.length_take]; exact om270
  generalize (ns.take 63).map absI = xs at *
  generalize mem0 ns = μ0 at *
  have a1 : loc0 "deck" = some (.obj 1) := by unfold loc0; simp [put_at]
  generalize loc0 = ρ0 at *
  obtain ⟨v1, d1, v1a, v1b⟩ := draw_raw (many := 40) g0 g1 (by decide) (by decide) hl (by decide)
  have g0' : (μ0.set 1 (.list [.obj 0, .int (0 + 1)])).get 0 = some (.list (xs.map .int)) := by rw [get_set, if_neg (by decide)]; exact g0
  have g1' : (μ0.set 1 (.list [.obj 0, .int (0 + 1)])).get 1 = some (.list [.obj 0, .int (0 + 1)]) := by rw [get_set, if_pos rfl]
  have n1 : (μ0.set 1 (.list [.obj 0, .int (0 + 1)])).n = 2 := n0
  generalize μ0.set 1 (.list [.obj 0, .int (0 + 1)]) = μ1 at *
  obtain ⟨v2, d2, v2a, v2b⟩ := draw_raw (many := 30) g0' g1' (by decide) (by decide) hl (by decide)
  have g0'' : (μ1.set 1 (.list [.obj 0, .int (0 + 1 + 1)])).get 0 = some (.list (xs.map .int)) := by rw [get_set, if_neg (by decide)]; exact g0'
  have g1'' : (μ1.set 1 (.list [.obj 0, .int (0 + 1 + 1)])).get 1 = some (.list [.obj 0, .int (0 + 1 + 1)]) := by rw [get_set, if_pos rfl]
  have n2 : (μ1.set 1 (.list [.obj 0, .int (0 + 1 + 1)])).n = 2 := n1
  generalize μ1.set 1 (.list [.obj 0, .int (0 + 1 + 1)]) = μ2 at *
  have e1 := bin_at2 (op := .Add) (e1 := eInt 9) rfl (call_at (l_cons (name_of (μ := μ0) a1) (l_cons (e := eInt 40) rfl l_nil)) d1) rfl
  have e2 := bin_at2 (op := .Add) (e1 := eInt 6) rfl (call_at (l_cons (name_of (μ := μ1) a1) (l_cons (e := eInt 30) rfl l_nil)) d2) rfl
  obtain ⟨μ3, ro, S, h3, I, hlast, keep, hn3⟩ := h_init μ2 (9 + v1) (6 + v2)
  have e3 := call_at2 (l_cons2 e1 (l_cons2 e2 (l_cons (e := eInt 7) rfl (l_cons (e := eInt 3) rfl (l_cons (e := eInt 2) rfl l_nil))))) h3
  have D : Dk xs (0 + 1 + 1) μ3 ro := ⟨by rw [(keep 0 (by exact om271 n2)).1]; exact g0'', by rw [(keep 1 (by exact om272 n2)).1]; exact g1'', (keep 0 (by exact om271 n2)).2, (keep 1 (by exact om272 n2)).2, by exact om273 n2 hn3, by decide, hl⟩
  generalize hρ1 : put ρ0 "tree" (.obj S.t) = ρ1
  have b1 : ρ1 "deck" = some (.obj 1) := lk2 hρ1 (by kernel_rfl) a1
  have b2 : ρ1 "tree" = some (.obj S.t) := lk hρ1 (by kernel_rfl)
  -- the only window stays
  have c1 : cs S 1 = some ⟨0, 0, 9 + v1, 6 + v2, [], (7, 1, 1, 0)⟩ := I.sh
  obtain ⟨r, hr, hrc⟩ := cs_some c1
  have hroot : S.root = 1 := I.root
  have e4 : xCall (lCons (eName "tree") (lCons (eAttr (eName "tree") 164 "root") lNil)) x_delete_window (restr lamScope2 ρ1) μ3 = some μ3 := by
    have q1 := restr_at lam2_free b2
    have q2 := h_tfld (x := "root") I.R (name_of (μ := μ3) q1) (fun fs tf => tf.root)
    rw [hroot] at q2
    unfold xCall
    rw [l_cons (name_of (μ := μ3) q1) (l_cons q2 l_nil)]
    exact h_xdel I.R hr (congrArg Core.parent hrc)
  have e5 : tNot (tRef (lamScope2) (xCall (lCons (eName "tree") (lCons (eAttr (eName "tree") 164 "root") lNil)) x_delete_window)) ρ1 μ3 = some (false, μ3) := by
    refine t_not (b := true) ?_
    unfold tRef
    rw [e4]; rfl
  -- the laps
  obtain ⟨v3, μ4, d4, v3a, v3b, R4, D4, n4, k4⟩ := D.draw I.R (by decide) (many := 4) (by decide)
  have e6 := bin_at2 (op := .Add) (e1 := eInt 2) rfl (call_at (l_cons (name_of (μ := μ3) b1) (l_cons (e := eInt 4) rfl l_nil)) d4) rfl
  obtain ⟨ρ5, μ5, e7⟩ := laps (2 + v3).toNat 100 0 ρ1 μ4 ro S (.leaf 1 (9 + v1) (6 + v2) (7, 1, 1, 0)) _ (by exact om274 v3b) (I.step R4) D4 (by exact om275 v3b) (by exact om276 v3b hlast) (by simp [WT.size]; exact om277 v3b) b1 b2
  rw [Int.toNat_of_nonneg (by exact om278 v3a)] at e7
  have e8 : sForRange (eBin .Add (eInt 2) (eCall (lCons (eName "deck") (lCons (eInt 4) lNil)) m_law_draw)) (aName "lap") lapBody 100 ρ1 μ3 = some (.next, ρ5, μ5) := by
    unfold sForRange
    rw [e6]
    dsimp only
    rw [if_pos (by exact om279 v3a v3b)]
    exact e7
  exact ⟨ρ5, μ5, (seq_next (st_nm e3 hρ1)).trans ((seq_next ((sif_false e5).trans rfl)).trans ((seq_next e8).trans (seq_ret (st_ret (e := eBool true) rfl))))⟩
end Mine
end
open PySem PySem.W PyProof.Rows
set_option maxRecDepth 100000
namespace Mine
theorem maps_in {l : List (Addr × Obj)} {f : Addr → Option Obj} (h : (l.map (·.1)).map f = l.map fun p => some p.2) : ∀ p ∈ l, f p.1 = some p.2 := by
  induction l with
  | nil => intro p hp; cases hp
  | cons x r ih =>
    rw [List.map_cons, List.map_cons, List.map_cons] at h
    have h1 := (List.cons.inj h).1
    have h2 := (List.cons.inj h).2
    intro p hp
    rcases List.mem_cons.mp hp with rfl | hp
    · exact h1
    · exact ih h2 p hp
theorem in_of {w : World} {s : Shared} (y : yf s = ya w) : (K w.params).In s.heap := fun a o e => by
  have h := congrArg Prod.fst y
  have h1 : kAddrs.map s.heap.get? = (K w.params).map fun p => some p.2 := h
  rw [kAddrs_eq w.params] at h1
  exact maps_in h1 (a, o) (mem_of_lookup e)
theorem tab_of {w : World} {s : Shared} (y : yf s = ya w) : TabsAt [(320, 318)] s.heap := fun p hp => by
  rw [List.mem_singleton.mp hp]
  exact ⟨codeHd_of_K (in_of y) (by kernel_rfl), congrArg Prod.snd y⟩
theorem TabsAt.keep {ts : List (Addr × Addr)} {h h' : Heap} (x : TabsAt ts h) (k : ∀ b o, h.get? b = some o → h'.get? b = some o) : TabsAt ts h' := fun p hp => ⟨(x p hp).1.keeps k, k _ _ (x p hp).2⟩
end Mine
namespace Mine
noncomputable def nrP (p : Program) : Bool := namesResolve p
theorem nrP_self : Mine.nrP = Mine.nrP := rfl
noncomputable def noP (a : Look) (b : List Stmt) : Bool := noRoadLSs a b
theorem noP_self : Mine.noP = Mine.noP := rfl
noncomputable def nmP (p : Program) (b : List Stmt) (f : Scope → Str → Bool) : Bool := namesMeet p b f
theorem nmP_self : Mine.nmP = Mine.nmP := rfl
end Mine
name_quick nrQ for Mine.nrP by Mine.nrP_self
name_quick noQ for Mine.noP by Mine.noP_self
name_quick nmQ for Mine.nmP by Mine.nmP_self
namespace Mine
theorem no_of {a : Look} {b : List Stmt} (h : PySem.W.Fast.noQ a b = true) : noRoadLSs a b = true := (congrFun (congrFun PySem.W.Fast.noQ_eq a) b).trans h
theorem nm_of {p : Program} {b : List Stmt} {f : Scope → Str → Bool} (h : PySem.W.Fast.nmQ p b f = true) : namesMeet p b f = true := (congrFun (congrFun (congrFun PySem.W.Fast.nmQ_eq p) b) f).trans h
theorem k1 : namesResolve PySem.Challenge.rw_np0055_01.row.prog = true := (congrFun PySem.W.Fast.nrQ_eq _).trans (by kernel_rfl)
set_option maxHeartbeats 0 in
theorem looks_ok : looksOpen PySem.Challenge.rw_np0055_01.row.prog = true := by
  unfold looksOpen
  refine look_both (look_both (look_both (look_both (look_both ?_ ?_) k1) ?_) (no_of ?_)) (nm_of ?_)
  · kernel_rfl
  · kernel_rfl
  · kernel_rfl
  · kernel_rfl
  · as_aux_lemma => kernel_rfl
set_option maxHeartbeats 0 in
theorem said_ok : PySem.Challenge.rw_np0055_01.wellSaid = true := by
  unfold OpenLaw.wellSaid OpenRow.wellSaid OpenRow.partSaid
  repeat' first | with_reducible exact looks_ok | with_reducible refine look_both ?_ ?_
  all_goals first | with_reducible refine no_of ?_ | with_reducible refine nm_of ?_ | skip
  all_goals kernel_rfl
end Mine
set_option pp.deepTerms false in
set_option pp.deepTerms.threshold 4 in
set_option pp.proofs.threshold 2 in
set_option maxHeartbeats 0 in
theorem PySem.Challenge.cw_np0055_01_holds : PySem.Challenge.rw_np0055_01.Holds := by
  w_on
  refine holds_law Mine.said_ok fun said => ?_
  refine holds_openX (q := Mine.q) (loose := Mine.loose) (Xt := Mine.xt) (XP := XL Mine.q []) (Yf := Mine.yf) (Ya := Mine.ya) (N := 3990) Mine.left (fun s e => xl_of s (Bool.and_eq_true_iff.mp e).1) XL.keeps (by rfl) (by rfl) (by rfl) (fun s e => recFacts_of (Bool.and_eq_true_iff.mp e).2) (by rfl) (by first | assumption | decide +kernel) (by decide +kernel) ⟨rfl, rfl, rfl, rfl, rfl, by decide +kernel⟩ ?hw ?hc
  case hw => w_witness2
  case hc =>
    intro w s₀ s₁ mg mb G y fa o pm cd doc dV kV ho hd hcd hD hmg hg args vals as L hpre hlay hrd hwl hlo
    have X : (Mine.K w.params).In s₁.heap := fun a o e => L.keeps _ _ (Mine.in_of y a o e)
    have hT9 : TabsAt [(320, 318)] s₁.heap := Mine.TabsAt.keep (Mine.tab_of y) L.keeps
    clear y
    refine Ground.open G ?_
    intro T B D TE TW
    wrow_args hpre hlay hrd hwl hlo
    refine enter_call ?_
    w_top on
    kn_posts
    have he9 : cd = .ref 320 := law_code (x := "law") (c := 320) (P := 318) X T.g (by kernel_rfl) hmg ho hd
    subst he9
    w_call any ho hd hcd hD T F
    clear hd
    kn_ghosts F T
    rename_i hI _ _ _ _ _ _ _ _ _ _ _ _ _ _ _ X0 X' T' K' F' N' l0
    refine Mine.law_run (D := ⟨_, w, Mine.K w.params, _, _, _, mg, mb⟩) rfl K' X' T' F' rfl codeHd lifted (by assumption) (by exact Mine.om280 hI) X0 N' l0 hg (Mine.lawM_true _) ?_
    intro s' m' N2 F2 NW2 tb2 gens2 os2
    obtain ⟨ps, hps⟩ := tb2
    refine ⟨⟨.inl ⟨.bool true, ofPy (.bool true), [], rfl, fun cls => rfl, ?_, ?_, fun _ => ⟨List.nodup_nil, fun a h => nomatch h⟩⟩, F2.keep, os2, gens2⟩, ⟨⟨ps, (NW2 _ hps).1⟩, trivial⟩⟩
    · first | exact .bool _ | exact ReadsW.bool | skip
    · kernel_rfl
