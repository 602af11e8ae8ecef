import PyProof.Rows.All
import Wide.All
import OpenK.AllK
import Wide.FinOn
import Lean
import PySem.Challenge.RW_pc0050_01
open PySem PySem.W PyProof.Rows PySem.Calls
set_option Elab.async false
set_option maxRecDepth 100000
set_option maxHeartbeats 0
set_option linter.unusedVariables false
set_option linter.unusedSimpArgs false
namespace Mine
theorem om0 : ∀ {v0 : Nat}, ¬(↑(63 : Nat) : Int) < (↑v0 : Int) → v0 ≤ (63 : Nat) := by lia
theorem om1 : ∀ {v0 v1 : Nat}, v0 ≤ v1 → v0 ≤ v1 := by intros; assumption
theorem om2 : ∀ {v0 v1 : Nat}, v0 = v1 → v1 ≤ v0 := fun {v0 v1} a => Nat.le_of_eq (id (Eq.symm a))
theorem om3 : ∀ {v0 v1 : Nat}, v0 + (10 : Nat) * (v1 + (1 : Nat)) < (900 : Nat) → v0 < (1000 : Nat) := by grind
theorem om4 : ∀ {v0 v1 : Nat}, v0 + (10 : Nat) * (v1 + (1 : Nat)) < (900 : Nat) → v0 + (1 : Nat) + (10 : Nat) * v1 < (900 : Nat) := by lia
theorem om5 : ∀ {v0 v1 : Nat}, v0 + (100 : Nat) * (v1 + (1 : Nat)) < (9000 : Nat) → v0 + (3 : Nat) + (100 : Nat) * v1 < (9000 : Nat) := by lia
theorem om6 : ∀ {v0 v1 v2 : Nat}, v0 ≤ v1 → v2 + (10 : Nat) * v1 < (900 : Nat) → v2 + (10 : Nat) * v0 < (900 : Nat) := by grind
theorem om7 : ∀ {v0 v1 v2 : Nat}, v0 ≤ v1 → v2 + (100 : Nat) * v1 < (9000 : Nat) → v2 + (100 : Nat) * v0 < (9000 : Nat) := by grind
theorem om8 : ∀ {v0 : Nat} {v1 : Int}, v0 < (2 : Nat) ^ (62 : Nat) → v1 < (↑v0 : Int) → v1 < (2 : Int) ^ (63 : Nat) := by lia
theorem om9 : ∀ {v0 : Nat} {v1 : Int}, v0 < (2 : Nat) ^ (62 : Nat) → -(↑v0 : Int) ≤ v1 → -(2 : Int) ^ (63 : Nat) ≤ v1 := by grind
theorem om10 : ∀ {v0 v1 : Nat}, v0 < (2 : Nat) ^ (62 : Nat) → v1 = v0 → v1 < (2 : Nat) ^ (62 : Nat) := fun {v0 v1} a a_1 => lt_of_eq_of_lt a_1 a
theorem om11 : ∀ {v0 v1 : Nat}, v0 < (2 : Nat) ^ (62 : Nat) → v1 = v0 → (↑v1 : Int) < (9223372036854775808 : Int) := by lia
theorem om12 : ∀ {v0 v1 : Nat}, v0 ≤ v1 → v1 + (1 : Nat) - (v0 + (1 : Nat)) < v1 + (1 : Nat) - v0 := by grind
theorem om13 : ∀ {v0 v1 : Nat}, v0 ≤ v1 → ¬v0 < v1 → v0 = v1 := by lia
theorem om14 : ∀ {v0 v1 : Nat}, v0 ≤ v1 → v0 ≤ v1 + (1 : Nat) := fun {v0 v1} a => Nat.le_add_right_of_le a
theorem om15 : ∀ {v0 v1 v2 : Nat}, v0 ≤ v1 → v2 ≤ v0 → v2 ≤ v1 + (1 : Nat) := by lia
theorem om16 : ∀ {v0 v1 v2 : Nat}, v0 ≤ v1 → v1 + (2 : Nat) ≤ v2 → v0 ≤ v2 := by lia
theorem om17 : ∀ {v0 v1 v2 v3 : Nat}, v0 ≤ v1 → v2 ≤ v0 → v1 + (2 : Nat) ≤ v3 → v2 ≤ v3 := by lia
theorem om18 : ∀ {v0 v1 : Nat}, v0 + (2 : Nat) ≤ v1 → v0 + (1 : Addr) < v1 := by intros; assumption
theorem om19 : ∀ {v0 v1 v2 : Nat}, v0 ≤ v1 → v2 ≤ v0 → v2 ≤ v1 := fun {v0 v1 v2} a a_1 => Nat.le_trans a_1 a
theorem om20 : ∀ {v0 v1 : Nat}, v0 + (2 : Nat) ≤ v1 → v0 < v1 := fun {v0 v1} a => Nat.lt_of_succ_lt a
theorem om21 : ∀ {v0 : Nat}, (1 : Nat) + v0 = v0 + (1 : Nat) := fun {v0} => Nat.add_comm 1 v0
theorem om22 : ∀ {v0 v1 : Nat}, v0 + (100 : Nat) * v1 < (9000 : Nat) → v0 + (64 : Nat) < (9900 : Nat) := by grind
theorem om23 : ∀ {v0 v1 v2 v3 : Nat}, v0 + (100 : Nat) < v1 → v2 ≤ (64 : Nat) → v0 + (1 : Nat) + min v3 v2 < v1 := by grind
theorem om24 : ∀ {v0 v1 : Nat}, v0 + (100 : Nat) * v1 < (9000 : Nat) → v0 + (100 : Nat) < (9900 : Nat) := by grind
theorem om25 : ∀ {v0 v1 : Nat}, (↑v0 : Int) < (↑v1 : Int) → v0 < v1 := by intros; simp_all
theorem om26 : ∀ {v0 : Int} {v1 : Nat}, v0 < (0 : Int) → -(↑v1 : Int) ≤ v0 → (v0 + (↑v1 : Int)).toNat < v1 := by grind
theorem om27 : ∀ {v0 : Nat}, v0 + (1 : Nat) ≤ v0 + (1 : Nat) := by grind
theorem om28 : ∀ {v0 v1 : Nat}, v0 ≤ (1001 : Nat) → v1 ≤ v0 → v1 ≤ (16777216 : Nat) + (1 : Nat) := by lia
theorem om29 : ∀ {v0 v1 : Nat}, v0 < (64 : Nat) → v1 = v0 → v1 < (64 : Nat) := fun {v0 v1} a a_1 => lt_of_eq_of_lt a_1 a
theorem om30 : (0 : Int) ≤ (0 : Int) := Int.zero_le_ofNat 0
theorem om31 : ∀ {v0 : Nat}, (0 : Int) < (↑(v0 + (1 : Nat)) : Int) := fun {v0} => Int.ofNat_succ_pos v0
theorem om32 : (0 : Int) ≤ (1 : Int) := Int.one_nonneg
theorem om33 : ∀ {v0 : Nat}, (1 : Int) < (↑(v0 + (1 : Nat) + (1 : Nat)) : Int) := fun {v0} => (fun {a b} => Int.compare_eq_gt.mp) rfl
theorem om34 : (0 : Int) ≤ (2 : Int) := by intros; simp_all
theorem om35 : ∀ {v0 : Nat}, (2 : Int) < (↑(v0 + (1 : Nat) + (1 : Nat) + (1 : Nat)) : Int) := fun {v0} => (fun {a b} => Int.compare_eq_gt.mp) rfl
theorem om36 : (-1 : Int) < (0 : Int) := Int.sign_eq_neg_one_iff_neg.mp rfl
theorem om37 : ∀ {v0 : Nat}, (1 : Int) ≤ (↑v0 : Int) + (1 : Int) := by grind
theorem om38 : ∀ {v0 : Nat}, v0 = ((-1 : Int) + ((↑v0 : Int) + (1 : Int))).toNat := by grind
theorem om39 : ∀ {v0 : Nat}, v0 < (2 : Nat) ^ (60 : Nat) → v0 + (1 : Nat) < (4611686018427387904 : Nat) := fun h => Nat.lt_of_le_of_lt h (by decide)
theorem om40 : ∀ {v0 : Int} {v1 : Nat}, v0.toNat < v1 → v0 < (↑v1 : Int) := fun {v0} {v1} a => Int.lt_of_toNat_lt a
theorem om41 : ∀ {v0 v1 : Nat}, max (0 : Int) (min (↑v0 : Int) (↑v1 : Int)) = (↑(min v0 v1) : Int) := by lia
theorem om42 : ∀ {v0 : Nat}, ¬(↑v0 : Int) < (0 : Int) := fun {v0} => Int.not_ofNat_neg v0
theorem om43 : ∀ {v0 v1 : Nat}, min v0 v1 ≤ v1 := fun {v0 v1} => Nat.min_le_right v0 v1
theorem om44 : ∀ {v0 v1 : Nat}, ((↑v0 : Int) - (1 : Int) + -(↑v1 : Int)).toNat = v0 - (1 : Nat) - v1 := by lia
theorem om45 : ∀ {v0 : Nat}, v0 ≤ (4 : Nat) → v0 ≤ (7 : Nat) := fun h => Nat.le_trans h (by decide)
theorem om46 : ∀ {v0 : Nat}, v0 ≤ (4 : Nat) → v0 < (4096 : Nat) := fun h => Nat.lt_of_le_of_lt h (by decide)
theorem om47 : ∀ {v0 v1 : Nat}, v0 - v1 = (0 : Nat) → v1 ≤ v0 → v1 = v0 := by grind
theorem om48 : ∀ {v0 v1 : Nat}, v0 = v1 → v0 ≤ v1 := by grind
theorem om49 : ∀ {v0 v1 v2 : Nat}, v0 - v1 = v2 + (1 : Nat) → v1 < v0 := fun {v0 v1 v2} a => Nat.lt_of_sub_eq_succ a
theorem om50 : ∀ {v0 v1 v2 : Nat}, v0 - v1 = v2 + (1 : Nat) → v0 - (v1 + (1 : Nat)) = v2 := by intros; subst_vars; omega
theorem om51 : ∀ {v0 : Nat}, v0 - (0 : Nat) = v0 - (0 : Nat) := fun {v0} => Nat.sub_zero v0
theorem om52 : ∀ {v0 v1 : Nat}, v0 + (1 : Nat) = v1 → (0 : Nat) < v1 := by grind
theorem om53 : ∀ {v0 v1 : Nat}, v0 + (1 : Nat) = v1 → v0 = v1 - (1 : Nat) := fun {v0 v1} a => Nat.eq_sub_of_add_eq a
theorem om54 : ∀ {v0 v1 v2 : Nat}, v0 = v1 → v2 < v0 → v2 < v1 := fun {v0 v1 v2} a a_1 => Nat.lt_of_lt_of_eq a_1 a
theorem om55 : ∀ {v0 v1 : Nat}, v0 = v1 → ¬v0 < v1 := by intros; simp_all
theorem om56 : ∀ {v0 : Nat}, v0 ≤ (4 : Nat) → v0 ≤ (2 : Nat) ^ (24 : Nat) := fun h => Nat.le_trans h (by decide)
theorem om57 : ∀ {v0 v1 : Nat}, ¬v0 < v1 → v1 ≤ v0 := fun {v0 v1} a => Nat.le_of_not_lt a
theorem om58 : ∀ {v0 v1 v2 : Nat}, ¬v0 < v1 → v1 = v2 → v2 ≤ v0 := by intros; subst_vars; grind
theorem om59 : ∀ {v0 : Nat}, v0 ≤ (4 : Nat) → v0 < (64 : Nat) := fun h => Nat.lt_of_le_of_lt h (by decide)
theorem om60 : ∀ {v0 : Nat}, v0 < (64 : Nat) → v0 ≤ (16777216 : Nat) := by lia
theorem om61 : ∀ {v0 : Nat}, v0 < (64 : Nat) → v0 ≤ (16777216 : Nat) + (1 : Nat) := by lia
theorem om62 : ∀ {v0 v1 : Nat}, v0 = v1 → ¬v0 < (2 : Nat) → (2 : Nat) ≤ v1 := by intros; simp_all
theorem om63 : ∀ {v0 v1 v2 : Nat}, v0 = v1 → ¬v0 < (2 : Nat) → v2 = v1 → (0 : Nat) < v2 := by intros; subst_vars; omega
theorem om64 : ∀ {v0 v1 : Nat}, v0 = v1 → ¬v0 < (2 : Nat) → (0 : Nat) < v1 := by intros; subst_vars; grind
theorem om65 : ∀ {v0 : Nat}, (13 : Nat) ≤ (12 : Nat) + v0 + (1 : Nat) := by intros; simp_all
theorem om66 : ∀ {v0 v1 : Nat}, v0 < v1 + (1 : Nat) → (12 : Nat) + v0 ≤ v1 + (12 : Nat) := by lia
theorem om67 : ∀ {v0 : Nat}, v0 = (0 : Nat) → ¬v0 > (0 : Nat) := by intros; simp_all
theorem om68 : ∀ {v0 v1 : Nat}, v0 = v1 + (1 : Nat) → v0 > (0 : Nat) := by grind
theorem om69 : ∀ {v0 v1 : Nat}, v0 = v1 + (1 : Nat) → v0 - (1 : Nat) = v1 := by grind
theorem om70 : (0 : Nat) ≤ (10 : Nat) * (0 : Nat) := by grind
theorem om71 : ∀ {v0 v1 v2 v3 : Nat}, v0 ≤ (10 : Nat) * v1 → v2 - v3 ≤ (9 : Nat) → v0 + (v2 - v3 + (1 : Nat)) ≤ (10 : Nat) * (v1 + (1 : Nat)) := by grind
theorem om72 : ∀ {v0 v1 : Nat}, v0 < v1 → v1 ≤ v0 → False := by simp
theorem om73 : ∀ {v0 v1 v2 : Nat}, v0 ≤ v1 + (12 : Nat) → v2 ≤ (10 : Nat) * v0 → v2 < (10 : Nat) * (v1 + (15 : Nat)) := by grind
theorem om74 : ∀ {v0 : Nat}, v0 ≠ (0 : Nat) → v0 = v0 - (1 : Nat) + (1 : Nat) := fun {v0} a => Eq.symm (Nat.succ_pred_eq_of_ne_zero a)
theorem om75 : ∀ {v0 : Nat}, (0 : Nat) < v0 + (1 : Nat) := by intros; subst_vars; grind
theorem om76 : ∀ {v0 v1 : Nat}, v0 + (1 : Nat) < v1 + (1 : Nat) → v0 < v1 := by intros; simp_all
theorem om77 : ∀ {v0 v1 : Nat}, v0 < v1 → v0 + (1 : Nat) < v1 + (1 : Nat) := fun {v0 v1} a => Nat.add_lt_add_right a 1
theorem om78 : ∀ {v0 v1 v2 : Nat}, v0 < v1 + (1 : Nat) → v2 < v0 → v0 - (v2 + (1 : Nat)) < v1 := by intros; subst_vars; omega
theorem om79 : ∀ {v0 v1 v2 : Nat}, v0 < (10 : Nat) * v1 → v0 - (v2 + (1 : Nat)) < (10 : Nat) * v1 := fun {v0 v1 v2} a => Nat.sub_lt_of_lt a
theorem om80 : ∀ {v0 v1 : Nat}, v0 < v1 → v0 + (1 : Nat) + (v1 - (v0 + (1 : Nat))) = v1 := fun {v0 v1} a => Nat.add_sub_of_le a
theorem om81 : ∀ {v0 v1 v2 : Nat}, v0 < v1 + (v2 + (1 : Nat)) → v0 < v1 + (1 : Nat) + v2 := by lia
theorem om82 : ∀ {v0 v1 : Nat}, v0 < v1 + (1 : Nat) → v0 = v1 + (1 : Nat) → False := by intros; simp_all
theorem om83 : ∀ {v0 v1 v2 : Nat}, v0 + (v1 + (1 : Nat)) < v2 + (1 : Nat) → v0 < v2 + (1 : Nat) := fun {v0 v1 v2} a => Nat.lt_of_add_right_lt a
theorem om84 : ∀ {v0 v1 : Nat}, v0 ≤ v1 + (12 : Nat) → v0 < (0 : Nat) + (v1 + (15 : Nat)) := by lia
theorem om85 : ∀ {v0 v1 v2 : Nat}, v0 + (v1 + (1 : Nat)) < v2 + (1 : Nat) → v0 + (1 : Nat) + v1 < v2 + (1 : Nat) := by lia
theorem om86 : ∀ {v0 v1 : Nat}, v0 + (v1 + (1 : Nat)) = v0 + (1 : Nat) + v1 := fun {v0 v1} => Eq.symm (Nat.succ_add_eq_add_succ v0 v1)
theorem om87 : ∀ {v0 v1 : Nat}, min v0 v1 + (1 : Nat) + (v1 - v0) = v1 + (1 : Nat) := by grind
theorem om88 : ∀ {v0 : Nat}, v0 ≤ (12 : Nat) → v0 ≤ (16777216 : Nat) := fun h => Nat.le_trans h (by decide)
theorem om89 : ¬(32 : Nat) > (16777216 : Nat) := Std.Rxo.size_eq_zero_iff_not_le.mp rfl
theorem om90 : ∀ {v0 v1 : Nat}, ¬(v0 = (5 : Nat) ∧ v1 = (7 : Nat)) → v1 = (7 : Nat) → v0 ≤ (5 : Nat) → v0 * (5 : Nat) < (21 : Nat) := by grind
theorem om91 : ∀ {v0 : Nat}, v0 ≤ (12 : Nat) → v0 * (5 : Nat) < (93 : Nat) := by grind
theorem om92 : ∀ {v0 v1 : Nat}, ¬(v0 = (5 : Nat) ∧ v1 = (7 : Nat)) → v1 = (7 : Nat) → v0 ≤ (5 : Nat) → v0 ≤ (4 : Nat) := by lia
theorem om93 : ∀ {v0 : Nat}, v0 < (12 : Nat) → v0 ≤ (11 : Nat) := fun {v0} a => Nat.le_of_lt_succ a
theorem om94 : ∀ {v0 : Nat}, v0 ≤ (4 : Nat) → v0 ≤ (4 : Nat) := by intros; assumption
theorem om95 : ∀ {v0 v1 v2 v3 : Nat}, v0 = v1 → v0 ≤ (12 : Nat) → v1 - v2 = v3 + (1 : Nat) → min v2 v0 < (12 : Nat) := by intros; subst_vars; omega
theorem om96 : ∀ {v0 : Nat}, v0 + (1 : Nat) + (1 : Nat) + (1 : Nat) ≤ v0 + (3 : Nat) := by grind
theorem om97 : ∀ {v0 v1 v2 : Nat}, v0 + (100 : Nat) * v1 < (9000 : Nat) → v2 ≤ v0 + (3 : Nat) → v2 < (9900 : Nat) := by grind
theorem om98 : ∀ {v0 : Nat}, v0 ≤ (12 : Nat) → (↑v0 : Int) < (2 : Int) ^ (63 : Nat) := by lia
theorem om99 : ∀ {v0 : Nat}, v0 < (1000 : Nat) → v0 < (4611686018427387904 : Nat) := fun h => Nat.le_trans h (by decide)
theorem om100 : ∀ {v0 : Nat}, v0 < (1000 : Nat) → v0 ≤ (16777216 : Nat) := by lia
theorem om101 : ∀ {v0 : Nat}, v0 + (1 : Nat) < (1000 : Nat) → v0 < (1152921504606846976 : Nat) := by lia
theorem om102 : ∀ {v0 : Nat}, v0 + (1 : Nat) < (1000 : Nat) → v0 + (1 : Nat) < (4611686018427387904 : Nat) := fun h => Nat.le_trans h (by decide)
theorem om103 : ∀ {v0 v1 v2 : Nat}, v0 = v1 → v1 = v0 + v2 → v2 = (0 : Nat) := by intros; simp_all
theorem om104 : ∀ {v0 : Nat}, v0 ≤ v0 + (1 : Nat) := fun {v0} => Nat.le_add_right v0 1
theorem om105 : ∀ {v0 : Nat}, v0 < (60 : Nat) → v0 < (64 : Nat) := fun h => Nat.le_trans h (by decide)
theorem om106 : ∀ {v0 v1 v2 v3 : Nat}, v0 < (60 : Nat) → v0 = v1 + v2 → v3 ≤ v1 → v3 < (1000 : Nat) := by intros; subst_vars; grind
theorem om107 : ∀ {v0 v1 : Nat}, v0 < (60 : Nat) → v1 ≤ v0 → v1 ≤ (16777216 : Nat) := by lia
theorem om108 : ∀ {v0 v1 v2 v3 : Nat}, v0 < (1000 : Nat) → v1 ≤ v2 → v0 = v2 + v3 → v1 ≤ (16777216 : Nat) := by intros; subst_vars; grind
theorem om109 : ∀ {v0 v1 : Nat}, v0 < (1000 : Nat) → v1 ≤ v0 → v1 ≤ (16777216 : Nat) := by lia
theorem om110 : ∀ {v0 v1 v2 : Nat}, v0 < (1000 : Nat) → v1 ≤ v0 → v2 ≤ v0 → v1 + v2 ≤ (16777216 : Nat) := by grind
theorem om111 : ∀ {v0 : Nat}, (0 : Int) ≤ (0 : Int) ∧ (0 : Int) ≤ (↑v0 : Int) := by intros; simp_all
theorem om112 : ∀ {v0 : Int} {v1 : Nat}, (0 : Int) ≤ v0 ∧ v0 ≤ (↑v1 : Int) → v0 > (0 : Int) → (v0 - (1 : Int)).toNat < v1 := by intros; subst_vars; omega
theorem om113 : ∀ {v0 : Int} {v1 : Nat}, (1 : Int) ≤ v0 ∧ v0 ≤ (↑v1 : Int) → (v0 - (1 : Int)).toNat < v1 := by intros; subst_vars; omega
theorem om114 : ∀ {v0 : Int}, v0 > (0 : Int) → (0 : Int) ≤ v0 - (1 : Int) := fun {v0} a => Int.sub_nonneg_of_le a
theorem om115 : ∀ {v0 : Nat}, v0 ≤ (3 : Nat) → v0 < (2 : Nat) ^ (62 : Nat) := fun h => Nat.lt_of_le_of_lt h (by decide)
theorem om116 : ∀ {v0 : Int} {v1 : Nat}, (1 : Int) ≤ v0 ∧ v0 ≤ (↑v1 : Int) → (0 : Int) ≤ v0 - (1 : Int) := by intros; simp_all
theorem om117 : ∀ {v0 v1 : Nat}, v0 + (1 : Nat) + v1 = v0 + (v1 + (1 : Nat)) := by grind
theorem om118 : ∀ {v0 v1 : Nat}, v0 + (v1 + (1 : Nat)) ≤ (4 : Nat) → v0 ≤ (4 : Nat) := fun {v0 v1} a => Nat.le_of_add_right_le a
theorem om119 : ∀ {v0 v1 : Nat}, v0 + (v1 + (1 : Nat)) ≤ (81 : Nat) → v0 ≤ (80 : Nat) := by grind
theorem om120 : ∀ {v0 v1 : Nat}, v0 + v1 ≤ (3 : Nat) → v0 ≤ (3 : Nat) := fun {v0 v1} a => Nat.le_of_add_right_le a
theorem om121 : ∀ {v0 v1 v2 : Nat}, v0 ≤ (80 : Nat) → v1 ≤ v0 * (3 : Nat) → v2 ≤ (3 : Nat) → v1 + v2 ≤ (16777216 : Nat) := by grind
theorem om122 : ∀ {v0 v1 : Nat}, v0 ≤ (4 : Nat) → v1 = v0 → v1 + ((0 : Nat) + (1 : Nat)) ≤ (16777216 : Nat) := by lia
theorem om123 : ∀ {v0 v1 v2 : Nat}, v0 = v1 + (v2 + (1 : Nat)) → v1 < v0 := by intros; simp_all
theorem om124 : ∀ {v0 : Nat}, v0 ≤ (4 : Nat) → v0 ≤ (16777216 : Nat) := fun h => Nat.le_trans h (by decide)
theorem om125 : ∀ {v0 v1 v2 : Nat}, v0 ≤ (4 : Nat) → v0 = v1 + (v2 + (1 : Nat)) → v1 ≤ (4 : Nat) := by intros; subst_vars; grind
theorem om126 : ∀ {v0 v1 : Nat}, v0 ≤ (4 : Nat) → v1 = v0 → v1 ≤ (4 : Nat) := fun {v0 v1} a a_1 => le_of_eq_of_le a_1 a
theorem om127 : ∀ {v0 : Nat}, v0 ≤ (4 : Nat) → v0 + (1 : Nat) ≤ (16777216 : Nat) := fun h => Nat.lt_of_le_of_lt h (by decide)
theorem om128 : -(2 : Int) ^ (62 : Nat) ≤ (0 : Int) := by intros; simp_all
theorem om129 : (0 : Int) < (2 : Int) ^ (62 : Nat) := Int.sign_eq_one_iff_pos.mp rfl
theorem om130 : ∀ {v0 : Nat}, -(2 : Int) ^ (62 : Nat) ≤ (↑v0 : Int) := by intros; simp_all
theorem om131 : ∀ {v0 : Nat}, v0 ≤ (3 : Nat) → (↑v0 : Int) < (2 : Int) ^ (62 : Nat) := by lia
theorem om132 : ∀ {v0 v1 v2 v3 : Nat}, v0 ≤ (3 : Nat) → v1 ≤ v2 → v0 = v2 + v3 → v1 ≤ (16777216 : Nat) := by intros; subst_vars; grind
theorem om133 : ∀ {v0 : Nat} {v1 : Prop} {v2 v3 v4 : Nat}, v0 ≤ (3 : Nat) ∧ v1 → v2 ≤ v3 → v0 = v3 + v4 → v2 ≤ (16777216 : Nat) := by intros; subst_vars; grind
theorem om134 : ∀ {v0 : Nat}, (0 : Int) ≤ (0 : Int) + (↑v0 : Int) * (1 : Int) := fun {v0} => Int.zero_le_ofNat (0 + v0 * 1)
theorem om135 : ∀ {v0 : Nat}, ((0 : Int) + (↑v0 : Int) * (1 : Int)).toNat = v0 := by intros; simp_all
theorem om136 : ∀ {v0 : Nat}, v0 ≤ (4 : Nat) → v0 < (2 : Nat) ^ (60 : Nat) := fun h => Nat.lt_of_le_of_lt h (by decide)
theorem om137 : ∀ {v0 : Nat}, v0 ≤ (4 : Nat) → v0 ≤ (16777215 : Nat) := fun h => Nat.le_trans h (by decide)
theorem om138 : ∀ {v0 : Nat}, v0 ≤ (60 : Nat) → v0 < (2 : Nat) ^ (62 : Nat) := fun h => Nat.lt_of_le_of_lt h (by decide)
theorem om139 : ∀ {v0 : Int} {v1 : Nat}, (0 : Int) ≤ v0 ∧ v0 < (10000 : Int) → v0 < (↑v1 : Int) → v0.toNat < v1 := by intros; simp_all
theorem om140 : ∀ {v0 : Int}, (0 : Int) < v0 → v0 ≠ (0 : Int) := fun {v0} a => Ne.symm (Int.ne_of_lt a)
theorem om141 : ∀ {v0 : Int}, (0 : Int) ≤ v0 → v0 ≤ (3 : Int) → v0 = (0 : Int) ∨ v0 = (1 : Int) ∨ v0 = (2 : Int) ∨ v0 = (3 : Int) := by intros; grind only
theorem om142 : ∀ {v0 : Nat} {v1 : Int}, v0 ≤ (3 : Nat) → (0 : Int) ≤ v1 ∧ v1 ≤ (↑v0 : Int) → v1 ≤ (3 : Int) := by lia
theorem om143 : ∀ {v0 v1 : Nat}, v0 ≤ (4 : Nat) → v1 ≤ v0 * (3 : Nat) → v1 ≤ (12 : Nat) := by grind
theorem om144 : ∀ {v0 v1 : Nat}, v0 + (v1 + (1 : Nat)) ≤ (4 : Nat) → v0 ≤ (3 : Nat) := by grind
theorem om145 : ∀ {v0 : Nat}, v0 ≤ (3 : Nat) → v0 ≤ (4 : Nat) := by grind
theorem om146 : ∀ {v0 v1 : Nat}, v0 ≤ (12 : Nat) → v1 ≤ (3 : Nat) → v0 + v1 ≤ (16777216 : Nat) := by grind
theorem om147 : ∀ {v0 v1 : Nat}, v0 + (100 : Nat) * (v1 + (1 : Nat)) < (9000 : Nat) → v0 + (1 : Nat) + (100 : Nat) * v1 < (9000 : Nat) := by lia
theorem om148 : ∀ {v0 v1 v2 : Nat}, v0 + (1 : Nat) ≤ v1 → v2 + (10 : Nat) * v1 < (900 : Nat) → v2 + (10 : Nat) * (v0 + (1 : Nat)) < (900 : Nat) := by grind
theorem om149 : ∀ {v0 v1 v2 : Nat}, v0 + (1 : Nat) ≤ v1 → v2 + (100 : Nat) * v1 < (9000 : Nat) → v2 + (100 : Nat) * (v0 + (1 : Nat)) < (9000 : Nat) := by grind
theorem om150 : ∀ {v0 v1 : Nat}, v0 ≤ v1 → v0 + (1 : Nat) ≤ v1 + (1 : Nat) := fun {v0 v1} a => Nat.add_le_add_right a 1
theorem om151 : ∀ {v0 : Nat}, v0 ≤ (10 : Nat) → v0 ≤ (16777216 : Nat) := fun h => Nat.le_trans h (by decide)
theorem om152 : ∀ {v0 : Nat}, v0 ≤ (10 : Nat) → v0 + (1 : Nat) < (4611686018427387904 : Nat) := by lia
theorem om153 : ∀ {v0 : Nat}, v0 ≤ (10 : Nat) → v0 < (2 : Nat) ^ (62 : Nat) := fun h => Nat.lt_of_le_of_lt h (by decide)
theorem om154 : ∀ {v0 : Nat}, v0 ≤ (1000 : Nat) → v0 ≤ (16777216 : Nat) := fun h => Nat.le_trans h (by decide)
theorem om155 : ∀ {v0 : Nat}, v0 ≤ (4 : Nat) → v0 < (2 : Nat) ^ (62 : Nat) := fun h => Nat.lt_of_le_of_lt h (by decide)
theorem om156 : ∀ {v0 v1 : Nat}, v0 < v1 → (1 : Int) ≤ (1 : Int) + (↑v0 : Int) * (1 : Int) ∧ (1 : Int) + (↑v0 : Int) * (1 : Int) ≤ (↑v1 : Int) := by lia
theorem om157 : ∀ {v0 : Int} {v1 : Nat}, (1 : Int) ≤ v0 → v0 ≤ (↑v1 : Int) → (v0 - (1 : Int)).toNat < v1 := by intros; subst_vars; omega
theorem om158 : ∀ {v0 : Int}, (1 : Int) ≤ v0 → (1 : Int) + (↑(v0 - (1 : Int)).toNat : Int) * (1 : Int) = v0 := by intros; grind only
theorem om159 : ∀ {v0 : Int}, (-1000 : Int) ≤ v0 ∧ v0 ≤ (1000 : Int) → -(2 : Int) ^ (62 : Nat) ≤ v0 := by lia
theorem om160 : ∀ {v0 : Int}, (-1000 : Int) ≤ v0 ∧ v0 ≤ (1000 : Int) → v0 < (2 : Int) ^ (62 : Nat) := by intros; subst_vars; omega
theorem om161 : ∀ {v0 : Int}, (1 : Int) ≤ v0 → v0 ≤ (3 : Int) → v0 = (1 : Int) ∨ v0 = (2 : Int) ∨ v0 = (3 : Int) := by intros; grind only
theorem om162 : ∀ {v0 v1 : Nat}, v0 + v1 * v0 = v1 * v0 + v0 := fun {v0 v1} => Nat.add_comm v0 (v1 * v0)
theorem om163 : ∀ {v0 : Int} {v1 : Nat}, v0 ≤ (↑v1 : Int) → v0.toNat < v1 + (1 : Nat) := by lia
theorem om164 : ∀ {v0 : Int}, (0 : Int) ≤ v0 → (↑v0.toNat : Int) = v0 := fun {v0} a => Int.toNat_of_nonneg a
theorem om165 : ∀ {v0 : Int}, (0 : Int) ≤ v0 → max v0 (0 : Int) = v0 := fun {v0} a => Int.max_eq_left a
theorem om166 : ∀ {v0 : Int} {v1 : Nat}, (0 : Int) ≤ v0 → v0 < (↑v1 : Int) → v0.toNat < v1 := by intros; simp_all
theorem om167 : ∀ {v0 : Int}, (1 : Int) ≤ v0 ∧ v0 ≤ (3 : Int) → (0 : Int) ≤ v0 := by lia
theorem om168 : ∀ {v0 : Nat} {v1 : Int}, v0 ≤ (3 : Nat) → v1 ≤ (↑v0 : Int) → v1 ≤ (3 : Int) := by lia
theorem om169 : ∀ {v0 : Int} {v1 : Nat}, (0 : Int) ≤ v0 ∧ v0 ≤ (↑v1 : Int) → v0 ≠ (0 : Int) → (1 : Int) ≤ v0 ∧ v0 ≤ (↑v1 : Int) := by lia
theorem om170 : ∀ {v0 v1 : Nat}, v0 + (v1 + (1 : Nat)) ≤ (4 : Nat) → (0 : Int) ≤ (↑(v0 + v1) : Int) ∧ (↑(v0 + v1) : Int) ≤ (3 : Int) := by lia
theorem om171 : ∀ {v0 v1 : Nat}, v0 + (v1 + (1 : Nat)) ≤ (4 : Nat) → v0 + v1 ≤ (4 : Nat) := fun {v0 v1} a => Nat.le_of_succ_le a
theorem om172 : ∀ {v0 : Nat} {v1 : Int}, v0 ≤ (3 : Nat) → (1 : Int) ≤ v1 ∧ v1 ≤ (↑v0 : Int) → (1 : Int) ≤ v1 ∧ v1 ≤ (3 : Int) := by lia
theorem om173 : ∀ {v0 : Nat} {v1 : Int}, v0 ≤ (3 : Nat) → (1 : Int) ≤ v1 ∧ v1 ≤ (↑v0 : Int) → v1 ≤ (3 : Int) := by lia
theorem om174 : ∀ {v0 v1 : Nat}, v0 = v1 → v1 ≤ (4 : Nat) → v0 < (2 : Nat) ^ (62 : Nat) := by intros; subst_vars; grind
theorem om175 : ∀ {v0 v1 : Nat}, v0 ≤ (4 : Nat) → v1 ≤ v0 → (-1000 : Int) ≤ (↑v1 : Int) ∧ (↑v1 : Int) ≤ (1000 : Int) := by lia
theorem om176 : ∀ {v0 : Nat}, v0 ≤ (4 : Nat) → (-1000 : Int) ≤ (↑v0 : Int) ∧ (↑v0 : Int) ≤ (1000 : Int) := by intros; exact ⟨by lia, by lia⟩
theorem om177 : ∀ {v0 v1 : Nat}, v0 - v1 = ((↑v0 : Int) - (↑v1 : Int)).toNat := fun {v0 v1} => Eq.symm (Int.toNat_sub v0 v1)
theorem om178 : ∀ {v0 v1 v2 : Nat}, v0 ≤ (4 : Nat) → v1 < v0 - v2 → v2 + v1 ≤ (4 : Nat) := by grind
theorem om179 : ∀ {v0 v1 v2 : Nat}, v0 ≤ (4 : Nat) → v1 < v0 - v2 → (0 : Int) ≤ (↑v2 : Int) + (↑v1 : Int) * (1 : Int) ∧ (↑v2 : Int) + (↑v1 : Int) * (1 : Int) ≤ (3 : Int) := by grind
theorem om180 : ∀ {v0 v1 v2 v3 : Nat} {v4 : Int}, v0 = v1 + (1 : Nat) → v2 < v1 - v3 → (↑v3 : Int) + (↑v2 : Int) * (1 : Int) = v4 → v4.toNat + (1 : Nat) < v0 := by intros; subst_vars; omega
theorem om181 : ∀ {v0 v1 : Nat} {v2 : Int}, (↑v0 : Int) + (↑v1 : Int) * (1 : Int) = v2 → v2.toNat = v0 + v1 := by intros; subst_vars; grind
theorem om182 : ∀ {v0 v1 : Nat} {v2 : Int}, (↑v0 : Int) + (↑v1 : Int) * (1 : Int) = v2 → (↑(v0 + v1) : Int) = v2 := by intros; simp_all
theorem om183 : ∀ {v0 v1 : Nat}, v0 + (v1 + (1 : Nat)) ≤ (9 : Nat) → v0 ≤ (8 : Nat) := by grind
theorem om184 : (-1000 : Int) ≤ (1 : Int) ∧ (1 : Int) ≤ (1000 : Int) := by intros; simp_all
theorem om185 : ∀ {v0 : Nat}, v0 ≤ (3 : Nat) → (-1000 : Int) ≤ (↑v0 : Int) + (1 : Int) ∧ (↑v0 : Int) + (1 : Int) ≤ (1000 : Int) := by lia
theorem om186 : ∀ {v0 : Nat}, v0 = ((↑v0 : Int) + (1 : Int) - (1 : Int)).toNat := by intros; simp_all
theorem om187 : ∀ {v0 v1 v2 : Nat}, v0 ≤ (3 : Nat) → v1 < v0 → v2 * v0 ≤ (8 : Nat) * (3 : Nat) → v2 * v0 + v1 ≤ (30 : Nat) := by lia
theorem om188 : ∀ {v0 v1 : Nat}, v0 ≤ (3 : Nat) → v1 < v0 → v1 ≤ (3 : Nat) := by lia
theorem om189 : ∀ {v0 v1 : Nat} {v2 : Int}, v0 < v1 → (1 : Int) + (↑v0 : Int) * (1 : Int) = v2 → (v2 - (1 : Int)).toNat < v1 := by intros; subst_vars; grind
theorem om190 : ∀ {v0 : Nat} {v1 : Int}, (1 : Int) + (↑v0 : Int) * (1 : Int) = v1 → (0 : Int) ≤ v1 - (1 : Int) := by intros; subst_vars; grind
theorem om191 : ∀ {v0 v1 : Nat} {v2 : Int}, (↑v0 : Int) + (↑v1 : Int) * (1 : Int) = v2 → (0 : Int) ≤ v2 + (1 : Int) := by intros; subst_vars; grind
theorem om192 : ∀ {v0 v1 : Nat} {v2 : Int}, (↑v0 : Int) + (↑v1 : Int) * (1 : Int) = v2 → (v2 + (1 : Int)).toNat = v2.toNat + (1 : Nat) := by grind
theorem om193 : ∀ {v0 v1 : Nat}, v0 = v1 + (1 : Nat) → v1 ≤ (4 : Nat) → v0 < (2 : Nat) ^ (62 : Nat) := by lia
theorem om194 : ∀ {v0 : Nat}, v0 ≤ (3 : Nat) → v0 + (1 : Nat) < (2 : Nat) ^ (62 : Nat) := by lia
theorem om195 : ∀ {v0 v1 : Nat}, v0 ≤ (30 : Nat) → v1 ≤ v0 → v1 ≤ (16777216 : Nat) := by lia
theorem om196 : ∀ {v0 v1 v2 : Nat} {v3 : Int}, v0 < v1 - v2 → (↑v2 : Int) + (↑v0 : Int) * (1 : Int) = v3 → v3 < (↑v1 : Int) := by intros; subst_vars; omega
theorem om197 : ∀ {v0 : Int} {v1 : Nat}, (1 : Int) ≤ v0 ∧ v0 ≤ (↑v1 : Int) → (0 : Int) ≤ v0 := by lia
theorem om198 : ∀ {v0 v1 : Nat}, v0 ≤ (4 : Nat) → (0 : Int) ≤ (↑(v0 - (1 : Nat) - v1) : Int) ∧ (↑(v0 - (1 : Nat) - v1) : Int) ≤ (3 : Int) := by intros; subst_vars; omega
theorem om199 : ∀ {v0 v1 : Nat}, v0 ≤ (4 : Nat) → v1 ≤ v0 → (-1000 : Int) ≤ (↑v1 : Int) - (1 : Int) ∧ (↑v1 : Int) - (1 : Int) ≤ (1000 : Int) := by lia
theorem om200 : (-1000 : Int) ≤ (-1 : Int) ∧ (-1 : Int) ≤ (1000 : Int) := by intros; simp_all
theorem om201 : ∀ {v0 : Nat}, v0 = ((↑v0 : Int) - (1 : Int) - (-1 : Int)).toNat := by intros; simp_all
theorem om202 : ∀ {v0 v1 : Nat}, v0 ≤ (4 : Nat) → v1 ≤ v0 → v1 ≤ (4 : Nat) := by grind
theorem om203 : ∀ {v0 v1 v2 : Nat}, v0 ≤ (4 : Nat) → v1 ≤ v0 → v2 < v1 → (0 : Int) ≤ (↑v1 : Int) - (1 : Int) + (↑v2 : Int) * (-1 : Int) ∧ (↑v1 : Int) - (1 : Int) + (↑v2 : Int) * (-1 : Int) ≤ (3 : Int) := by lia
theorem om204 : ∀ {v0 v1 v2 v3 : Nat} {v4 : Int}, v0 = v1 + (1 : Nat) → v2 ≤ v1 → (↑v2 : Int) - (1 : Int) + (↑v3 : Int) * (-1 : Int) = v4 → v4.toNat < v0 := by grind
theorem om205 : ∀ {v0 v1 : Nat} {v2 : Int}, (↑v0 : Int) - (1 : Int) + (↑v1 : Int) * (-1 : Int) = v2 → v2.toNat = v0 - (1 : Nat) - v1 := by grind
theorem om206 : ∀ {v0 v1 : Nat} {v2 : Int}, v0 < v1 → (↑v1 : Int) - (1 : Int) + (↑v0 : Int) * (-1 : Int) = v2 → (↑(v1 - (1 : Nat) - v0) : Int) = v2 := by grind
theorem om207 : ∀ {v0 v1 v2 : Nat}, v0 ≤ (3 : Nat) → v1 < v0 → v2 * v0 ≤ (3 : Nat) * (3 : Nat) → v2 * v0 + v1 ≤ (30 : Nat) := by lia
theorem om208 : ∀ {v0 v1 : Nat} {v2 : Int}, v0 < v1 → (↑v1 : Int) - (1 : Int) + (↑v0 : Int) * (-1 : Int) = v2 → (0 : Int) ≤ v2 := by intros; subst_vars; grind
theorem om209 : ∀ {v0 : Nat} {v1 : Int}, (1 : Int) + (↑v0 : Int) * (1 : Int) = v1 → (0 : Int) ≤ v1 := by intros; subst_vars; grind
theorem om210 : ∀ {v0 v1 v2 : Nat} {v3 : Int}, v0 ≤ v1 → (↑v0 : Int) - (1 : Int) + (↑v2 : Int) * (-1 : Int) = v3 → v3 < (↑v1 : Int) := by intros; subst_vars; grind
theorem om211 : ∀ {v0 : Nat}, v0 ≤ (12 : Nat) → v0 < (64 : Nat) := fun h => Nat.lt_of_le_of_lt h (by decide)
theorem om212 : ∀ {v0 v1 v2 v3 : Nat}, v0 ≤ (12 : Nat) → v1 ≤ v2 → v0 = v2 + v3 → v1 ≤ (16777216 : Nat) := by intros; subst_vars; grind
theorem om213 : ∀ {v0 : Int} {v1 : Nat}, (0 : Int) ≤ v0 ∧ v0 ≤ (3 : Int) → v0 < (↑v1 : Int) → v0.toNat < v1 := by intros; simp_all
theorem om214 : ∀ {v0 : Nat}, v0 ≤ (4 : Nat) → v0 ≤ (10 : Nat) := fun h => Nat.le_trans h (by decide)
theorem om215 : ∀ {v0 v1 : Nat}, v0 ≤ (12 : Nat) → v1 ≤ v0 → v1 ≤ (16777216 : Nat) := by lia
theorem om216 : ∀ {v0 v1 : Nat}, v0 < v1 → v0 < v1 + (1 : Nat) := fun {v0 v1} a => Nat.lt_add_right 1 a
theorem om217 : ∀ {v0 : Nat}, v0 < v0 + (1 : Nat) := fun {v0} => Nat.lt_add_one v0
theorem om218 : ∀ {v0 v1 : Nat}, v0 < v1 + (1 : Nat) → ¬v0 < v1 → v0 = v1 := fun {v0 v1} a a_1 => Nat.eq_of_lt_succ_of_not_lt a a_1
theorem om219 : ∀ {v0 v1 : Nat}, v0 ≤ (3 : Nat) → v1 ≤ v0 → v1 ≤ (9 : Nat) := by lia
theorem om220 : ∀ {v0 v1 : Nat}, v0 ≤ (4 : Nat) → v1 < v0 → v1 + (1 : Nat) + (v0 - (v1 + (1 : Nat))) ≤ (4 : Nat) := by intros; subst_vars; omega
theorem om221 : ∀ {v0 v1 : Nat}, v0 ≤ (4 : Nat) → v1 < v0 → v1 ≤ (4 : Nat) := by lia
theorem om222 : ∀ {v0 v1 v2 : Nat}, v0 < v1 - (v2 + (1 : Nat)) → (↑(v2 + (1 : Nat) + v0) : Int) < (↑v1 : Int) := by intros; subst_vars; omega
theorem om223 : ∀ {v0 v1 v2 : Nat}, v0 < v1 → (↑(v0 - (1 : Nat) - v2) : Int) < (↑v1 : Int) := by intros; subst_vars; omega
theorem om224 : ∀ {v0 v1 v2 : Nat}, v0 ≤ (3 : Nat) → v1 < v0 → v2 ≤ v1 → v2 ≤ (3 : Nat) := by lia
theorem om225 : ∀ {v0 : Nat}, (0 : Int) ≤ (↑v0 : Int) + (1 : Int) := fun {v0} => Int.zero_le_ofNat (v0 + 1)
theorem om226 : ∀ {v0 : Nat}, ((↑v0 : Int) + (1 : Int)).toNat = v0 + (1 : Nat) := fun {v0} => Int.toNat_natCast_add_one
theorem om227 : ∀ {v0 v1 v2 : Nat}, v0 = v1 + (1 : Nat) → v2 < v1 → v2 + (1 : Nat) < v0 := by intros; simp_all
theorem om228 : ∀ {v0 : Nat}, v0 ≤ (3 : Nat) → v0 ≤ (16777216 : Nat) := fun h => Nat.le_trans h (by decide)
theorem om229 : ∀ {v0 v1 : Nat}, v0 ≤ (3 : Nat) → v1 ≤ v0 → v1 ≤ (3 : Nat) := by grind
theorem om230 : ∀ {v0 v1 : Nat}, v0 < v1 → v0 + (1 : Nat) ≤ v1 := by intros; assumption
theorem om231 : ∀ {v0 v1 : Nat}, v0 < v1 → v0 ≤ v1 := fun {v0 v1} a => Nat.le_of_succ_le a
theorem om232 : ∀ {v0 v1 : Nat}, v0 = v1 → v1 ≤ (4 : Nat) → v0 ≤ (4 : Nat) := by grind
theorem om233 : ∀ {v0 v1 : Nat} {v2 : Int}, v0 = v1 → v2 < (↑v1 : Int) → v2 < (↑v0 : Int) := by intros; subst_vars; omega
theorem om234 : ∀ {v0 : Nat}, (↑v0 : Int) + (1 : Int) = (↑(v0 + (1 : Nat)) : Int) := fun {v0} => Int.ofNat_add_one_out v0
theorem om235 : ∀ {v0 v1 : Nat}, v0 = v1 + (1 : Nat) → (0 : Nat) < v0 := by grind
theorem om236 : ∀ {v0 v1 : Nat}, v0 < v1 → v0 < v1 := by intros; assumption
theorem om237 : ∀ {v0 v1 v2 : Nat}, v0 = v1 + (1 : Nat) → v2 < v1 → v2 < v0 := by lia
theorem om238 : ∀ {v0 v1 : Nat}, v0 = v1 + (1 : Nat) → v0 ≤ v1 + (1 : Nat) := by grind
theorem om239 : ∀ {v0 v1 : Nat}, v0 = v1 + (1 : Nat) → v1 < v0 := by intros; subst_vars; grind
theorem om240 : ∀ {v0 : Nat}, v0 + (1 : Nat) - (1 : Nat) - v0 = (0 : Nat) := fun {v0} => Nat.sub_self (v0 + 1 - 1)
theorem om241 : ∀ {v0 v1 : Nat}, v0 < v1 → v1 - (1 : Nat) - v0 < v1 := fun {v0 v1} a => Nat.sub_one_sub_lt_of_lt a
theorem om242 : ∀ {v0 v1 : Nat}, v0 < v1 → v1 + (1 : Nat) - (1 : Nat) - v0 = v1 - (1 : Nat) - v0 + (1 : Nat) := by intros; grind only
theorem om243 : ∀ {v0 v1 : Nat}, v0 + (1 : Nat) - (1 : Nat) - (v1 + (1 : Nat)) = v0 - (1 : Nat) - v1 := fun {v0 v1} => Nat.add_sub_sub_add_right v0 1 v1 1
theorem om244 : ∀ {v0 v1 : Nat}, v0 < v1 → v1 - (1 : Nat) - (v1 - (1 : Nat) - v0) = v0 := by intros; subst_vars; omega
theorem om245 : ∀ {v0 v1 : Nat}, v0 < v1 → (1 : Int) ≤ (↑v0 : Int) + (1 : Int) ∧ (↑v0 : Int) + (1 : Int) ≤ (↑v1 : Int) := by lia
theorem om246 : ∀ {v0 : Nat}, ((↑v0 : Int) + (1 : Int) - (1 : Int)).toNat = v0 := by intros; simp_all
theorem om247 : ∀ {v0 : Int}, (1 : Int) ≤ v0 → (↑(v0 - (1 : Int)).toNat : Int) + (1 : Int) = v0 := by intros; grind only
theorem om248 : ∀ {v0 : Int}, (1 : Int) ≤ v0 → v0 > (0 : Int) := by intros; assumption
theorem om249 : ¬(0 : Int) > (0 : Int) := Int.lt_irrefl 0
theorem om250 : ∀ {v0 v1 : Nat}, v0 - (v1 + (1 : Nat)) = v0 - (1 : Nat) - v1 := by grind
theorem om251 : ∀ {v0 v1 : Nat}, (↑(v0 + (1 : Nat) + v1) : Int) ≠ (↑v0 : Int) := by grind
theorem om252 : ∀ {v0 v1 v2 v3 : Nat}, v0 = v1 → v2 < v1 - (v3 + (1 : Nat)) → v3 + (1 : Nat) + v2 < v0 := by intros; subst_vars; omega
theorem om253 : ∀ {v0 v1 : Nat}, v0 + (1 : Nat) + v1 = (↑(v0 + (1 : Nat) + v1) : Int).toNat := fun {v0 v1} => Eq.symm (Int.toNat_natCast (v0 + 1 + v1))
theorem om254 : ∀ {v0 v1 : Nat}, v0 < v1 → (↑(v1 - (1 : Nat) - v0) : Int) ≠ (↑v1 : Int) := by intros; subst_vars; omega
theorem om255 : ∀ {v0 v1 : Nat}, v0 < v1 → v1 - v0 = v1 - (1 : Nat) - v0 + (1 : Nat) := by intros; grind only
theorem om256 : ∀ {v0 v1 v2 v3 : Nat}, v0 = v1 → v2 < v1 → v2 - (1 : Nat) - v3 < v0 := by intros; subst_vars; omega
theorem om257 : ∀ {v0 : Int} {v1 : Nat}, (1 : Int) ≤ v0 ∧ v0 ≤ (↑v1 : Int) → v0 ≠ (0 : Int) := by intros; subst_vars; omega
theorem om258 : ∀ {v0 v1 : Nat}, v0 - (1 : Nat) - v1 = (↑(v0 - (1 : Nat) - v1) : Int).toNat := by intros; simp_all
theorem om259 : ∀ {v0 v1 v2 : Nat}, v0 = v1 → v2 < v1 → v2 < v0 := by intros; subst_vars; omega
theorem om260 : ∀ {v0 v1 : Nat}, v0 < v1 + (1 : Nat) → v1 ≤ v0 → v0 = v1 := fun {v0 v1} a a_1 => Nat.eq_of_le_of_lt_succ a_1 a
theorem om261 : ∀ {v0 : Int} {v1 : Nat}, (1 : Int) ≤ v0 ∧ v0 ≤ (↑v1 : Int) → v0 = (0 : Int) → False := by omega
theorem om262 : ∀ {v0 v1 v2 : Nat}, v0 = v1 → v2 + (1 : Nat) ≤ v1 → v2 < v0 := by grind
theorem om263 : ∀ {v0 : Int} {v1 : Nat}, v0 ≠ (0 : Int) → (0 : Int) ≤ v0 ∧ v0 ≤ (↑v1 : Int) → (1 : Int) ≤ v0 ∧ v0 ≤ (↑v1 : Int) := by intros; exact ⟨by lia, by lia⟩
theorem om264 : ∀ {v0 v1 : Nat}, v0 + (1 : Nat) ≤ v1 → v0 ≤ v1 := by grind
theorem om265 : ∀ {v0 v1 v2 : Nat}, v0 < v1 → v0 - (v2 + (1 : Nat)) < v1 := fun {v0 v1 v2} a => Nat.sub_lt_of_lt a
theorem om266 : ∀ {v0 v1 : Nat}, v0 + (1 : Nat) ≤ v1 → v1 - (v0 + (1 : Nat)) + (1 : Nat) = v1 - v0 := by grind
theorem om267 : ∀ {v0 v1 v2 : Nat}, v0 < v1 → v0 - (v2 + (1 : Nat)) ≤ v1 := by intros; subst_vars; omega
theorem om268 : ∀ {v0 v1 : Nat}, v0 + (1 : Nat) ≤ v1 → v1 - (v0 + (1 : Nat)) ≠ v1 := by intros; subst_vars; omega
theorem om269 : ∀ {v0 v1 : Nat}, v0 + (1 : Nat) ≤ v1 → v0 < v1 := by intros; assumption
theorem om270 : ∀ {v0 v1 : Nat}, (↑(v0 - (v1 + (1 : Nat))) : Int) = (↑(v0 - (1 : Nat) - v1) : Int) := by grind
theorem om271 : ∀ {v0 v1 v2 : Nat}, v0 + (1 : Nat) + (v1 + (1 : Nat)) ≤ v2 → v0 + (1 : Nat) + v1 ≤ v2 := by grind
theorem om272 : ∀ {v0 v1 v2 : Nat}, v0 + (1 : Nat) + (v1 + (1 : Nat)) ≤ v2 → v0 + (1 : Nat) + v1 < v2 := by intros; assumption
theorem om273 : ∀ {v0 v1 : Nat}, v0 + (1 : Nat) + (v1 + (1 : Nat)) = v0 + (1 : Nat) + v1 + (1 : Nat) := by grind
theorem om274 : ∀ {v0 v1 : Nat}, v0 + (1 : Nat) + v1 ≠ v0 := by grind
theorem om275 : ∀ {v0 v1 v2 : Nat}, v0 + (1 : Nat) + (v1 + (1 : Nat)) ≤ v2 → v1 < v2 - (v0 + (1 : Nat)) := fun {v0 v1 v2} a => (fun {a b c} => Nat.lt_sub_iff_add_lt'.mpr) a
theorem om276 : ∀ {v0 v1 : Nat}, v0 < v1 → v0 + (1 : Nat) + (v1 - (v0 + (1 : Nat))) ≤ v1 := by intros; subst_vars; omega
theorem om277 : ∀ {v0 : Int}, (1 : Int) ≤ v0 ∧ v0 ≤ (3 : Int) → v0 = (1 : Int) ∨ v0 = (2 : Int) ∨ v0 = (3 : Int) := by intros; grind only
theorem om278 : ∀ {v0 v1 : Nat}, v0 < v1 → (↑v0 : Int) + (1 : Int) < (↑v1 : Int) + (1 : Int) := by intros; simp_all
theorem om279 : ∀ {v0 : Int}, (1 : Int) ≤ v0 → v0 ≤ (2 : Int) ^ (2 : Nat) - (1 : Int) → v0 = (1 : Int) ∨ v0 = (2 : Int) ∨ v0 = (3 : Int) := by intros; grind only
theorem om280 : ∀ {v0 : Int}, (1 : Int) ≤ v0 → v0 ≤ (2 : Int) ^ (3 : Nat) - (1 : Int) → v0 = (1 : Int) ∨ v0 = (2 : Int) ∨ v0 = (3 : Int) ∨ v0 = (4 : Int) ∨ v0 = (5 : Int) ∨ v0 = (6 : Int) ∨ v0 = (7 : Int) := by intros; grind only
theorem om281 : ∀ {v0 : Nat}, v0 < (3 : Nat) → v0 = (0 : Nat) ∨ v0 = (1 : Nat) ∨ v0 = (2 : Nat) := by intros; grind only
theorem om282 : ∀ {v0 v1 v2 : Nat}, v0 ≤ (3 : Nat) → v1 ≤ v0 → v2 ≤ v1 → v2 ≤ (16777216 : Nat) := by lia
theorem om283 : ∀ {v0 : Nat}, (0 : Int) + (↑v0 : Int) * (1 : Int) = (↑v0 : Int) := by intros; simp_all
theorem om284 : ∀ {v0 v1 : Nat}, v0 ≤ (3 : Nat) → v1 < v0 → v1 < (3 : Nat) := fun {v0 v1} a a_1 => Nat.lt_of_lt_of_le a_1 a
theorem om285 : ∀ {v0 : Nat}, (0 : Int) ≤ (↑v0 : Int) := fun {v0} => Int.natCast_nonneg v0
theorem om286 : ∀ {v0 v1 : Nat}, v0 ≤ (3 : Nat) → v1 < v0 → (↑v1 : Int) ≤ (1000000 : Int) := by lia
theorem om287 : ∀ {v0 v1 v2 : Nat}, v0 < v1 → v2 = v0 → v2 + (1 : Nat) ≤ v1 := fun {v0 v1 v2} a a_1 => le_of_eq_of_le (congrFun (congrArg HAdd.hAdd a_1) 1) a
theorem om288 : ∀ {v0 v1 v2 : Nat}, v0 ≤ (5 : Nat) → v0 = v1 + v2 → v1 ≤ (16777216 : Nat) := by intros; subst_vars; grind
theorem om289 : (-1000 : Int) ≤ (0 : Int) ∧ (0 : Int) ≤ (1000 : Int) := by intros; simp_all
theorem om290 : ∀ {v0 : Nat}, v0 + (1 : Nat) = ((↑v0 : Int) + (1 : Int) - (0 : Int)).toNat := fun {v0} => Nat.add_succ v0 0
theorem om291 : ∀ {v0 v1 v2 : Nat}, v0 ≤ (3 : Nat) → v0 + (1 : Nat) = v1 + v2 → v1 ≤ (16777216 : Nat) := by grind
theorem om292 : ∀ {v0 v1 : Int} {v2 : Nat}, v0 = v1 → (1 : Int) ≤ v1 ∧ v1 ≤ (↑v2 : Int) → (0 : Int) ≤ v0 ∧ v0 ≤ (↑v2 : Int) := by lia
theorem om293 : ∀ {v0 : Nat} {v1 : Int}, (0 : Int) + (↑v0 : Int) * (1 : Int) = v1 → v1 = (↑v0 : Int) := by intros; subst_vars; grind
theorem om294 : ∀ {v0 v1 : Nat} {v2 : Int}, v0 = v1 → (0 : Int) ≤ v2 ∧ v2 < (↑v1 : Int) → v2.toNat < v0 := by intros; simp_all
theorem om295 : ∀ {v0 v1 : Nat}, v0 ≤ (4 : Nat) → v1 = v0 → v1 < (2 : Nat) ^ (62 : Nat) := by intros; subst_vars; grind
theorem om296 : ∀ {v0 : Nat}, v0 ≤ (12 : Nat) → v0 < (2 : Nat) ^ (62 : Nat) := fun h => Nat.lt_of_le_of_lt h (by decide)
theorem om297 : ∀ {v0 : Nat}, v0 = ((↑v0 : Int) - (0 : Int)).toNat := fun {v0} => Nat.add_zero v0
theorem om298 : ∀ {v0 v1 v2 : Nat}, v0 ≤ (4 : Nat) → v0 = v1 + v2 → v1 ≤ (16777216 : Nat) := by intros; subst_vars; grind
theorem om299 : ∀ {v0 v1 v2 : Nat}, v0 < v1 → v0 = v2 → v2 < v1 := fun {v0 v1 v2} a a_1 => lt_of_eq_of_lt (id (Eq.symm a_1)) a
theorem om300 : ∀ {v0 v1 : Nat}, v0 < v1 → (↑v0 : Int) < (↑v1 : Int) := by grind
theorem om301 : ∀ {v0 : Nat}, v0 = (↑v0 : Int).toNat := by intros; simp_all
theorem om302 : ∀ {v0 v1 : Nat}, v0 ≤ (4 : Nat) → v1 = v0 + (1 : Nat) → v1 < (2 : Nat) ^ (62 : Nat) := by intros; subst_vars; grind
theorem om303 : ∀ {v0 v1 v2 v3 : Nat}, v0 ≤ (4 : Nat) → v1 ≤ v2 → v0 = v2 + v3 → v1 ≤ (16777216 : Nat) := by intros; subst_vars; grind
theorem om304 : ∀ {v0 : Nat}, v0 ≤ (3 : Nat) → v0 + (1 : Nat) ≤ (16777216 : Nat) := fun h => Nat.lt_of_le_of_lt h (by decide)
theorem om305 : ∀ {v0 : Nat}, v0 ≤ (4 : Nat) → (↑v0 : Int) < (2 : Int) ^ (62 : Nat) := by lia
theorem om306 : ∀ {v0 v1 : Nat}, v0 ≤ (4 : Nat) → v1 < v0 → (0 : Int) + (↑v1 : Int) * (1 : Int) ≤ (3 : Int) := by lia
theorem om307 : ∀ {v0 : Nat}, v0 ≤ (3 : Nat) → v0 < (60 : Nat) := fun h => Nat.lt_of_le_of_lt h (by decide)
theorem om308 : ∀ {v0 v1 : Nat}, v0 ≤ (4 : Nat) → v1 = v0 + (1 : Nat) → v1 ≤ (5 : Nat) := by intros; simp_all
theorem om309 : ∀ {v0 v1 v2 : Int}, v0 ≤ v1 → v1 < v2 → v0 ≤ v2 - (1 : Int) := by lia
theorem om310 : ∀ {v0 v1 v2 : Int}, v0 ≤ v1 → v0 < v2 → v0 ≤ min v1 (v2 - (1 : Int)) := by intros; subst_vars; omega
theorem om311 : ∀ {v0 v1 v2 : Int}, v0 ≠ v1 → v0 ≤ v2 → ¬v0 < v1 → v2 ≥ v1 + (1 : Int) := by lia
theorem om312 : ∀ {v0 v1 v2 : Int}, v0 ≠ v1 → v2 ≤ v0 → ¬v0 < v1 → max v2 (v1 + (1 : Int)) ≤ v0 := by lia
theorem om313 : ∀ {v0 v1 : Int}, v0 = v1 → ¬v0 < v1 := by intros; simp_all
theorem om314 : ∀ {v0 v1 : Nat}, v0 ≤ (3 : Nat) * v1 → v0 ≤ (3 : Nat) * (v1 * (2 : Nat)) := by grind
theorem om315 : ∀ {v0 v1 v2 : Nat}, v0 < v1 → v2 = v1 → v0 < v2 := by grind
theorem om316 : ∀ {v0 v1 v2 : Nat}, v0 ≤ (3 : Nat) * v1 → v2 ≤ (2 : Nat) * v0 → v2 ≤ (3 : Nat) * (v1 * (2 : Nat)) := by grind
theorem om317 : ∀ {v0 v1 : Nat}, v0 = v1 → (1 : Nat) ≤ v1 ∧ v1 ≤ (4 : Nat) → v0 < (2 : Nat) ^ (62 : Nat) := by lia
theorem om318 : ∀ {v0 : Int}, (0 : Int) ≤ v0 → (0 : Int) ≤ v0 := by intros; assumption
theorem om319 : ∀ {v0 : Nat} {v1 : Int}, v0 < (6 : Nat) → (0 : Int) ≤ v1 ∧ v1 ≤ (101 : Int) + (2 : Int) * (↑v0 : Int) → (0 : Int) ≤ v1 + (1 : Int) ∧ v1 + (1 : Int) < (10000 : Int) := by lia
theorem om320 : ∀ {v0 : Nat}, (0 : Nat) < v0 → (0 : Int) < (↑v0 : Int) := by grind
theorem om321 : ∀ {v0 : Nat} {v1 : Int}, (0 : Nat) < v0 → v1 < (↑v0 : Int) → v1.toNat < v0 := by intros; simp_all
theorem om322 : ∀ {v0 : Nat}, (↑v0 : Int) > (1 : Int) → (1 : Nat) < v0 := fun {v0} a => (fun {n m} => Int.ofNat_lt.mp) a
theorem om323 : ∀ {v0 : Nat}, v0 < (6 : Nat) → v0 ≤ (6 : Nat) := by grind
theorem om324 : ∀ {v0 v1 : Nat}, v0 ≤ (3 : Nat) * v1 → (3 : Nat) * v1 ≤ (3 : Nat) * (2 : Nat) ^ (6 : Nat) → v0 < (1000 : Nat) := by lia
theorem om325 : ∀ {v0 v1 : Nat}, (1 : Nat) ≤ v0 ∧ v0 ≤ (4 : Nat) → v1 = v0 → v1 ≤ (10 : Nat) := by lia
theorem om326 : ∀ {v0 v1 : Nat}, v0 < (6 : Nat) → v1 ≤ v0 → v1 ≤ (1000 : Nat) := by lia
theorem om327 : ∀ {v0 : Int} {v1 : Nat}, (0 : Int) ≤ v0 ∧ v0 ≤ (101 : Int) + (2 : Int) * (↑v1 : Int) → (0 : Int) ≤ v0 + (1 : Int) + (1 : Int) ∧ v0 + (1 : Int) + (1 : Int) ≤ (101 : Int) + (2 : Int) * (↑(v1 + (1 : Nat)) : Int) := by lia
theorem om328 : ∀ {v0 : Nat}, v0 < (6 : Nat) → v0 + (1 : Nat) ≤ (6 : Nat) := by intros; assumption
theorem om329 : ∀ {v0 v1 v2 : Nat}, v0 ≤ v1 → v2 ≤ v0 + (1 : Nat) → v2 ≤ v1 + (1 : Nat) := by lia
theorem om330 : ∀ {v0 : Nat} {v1 : Int}, v0 < (6 : Nat) → (0 : Int) ≤ v1 ∧ v1 ≤ (101 : Int) + (2 : Int) * (↑v0 : Int) → (0 : Int) ≤ v1 ∧ v1 < (10000 : Int) := by lia
theorem om331 : ∀ {v0 : Nat}, (1 : Nat) ≤ v0 ∧ v0 ≤ (4 : Nat) → (0 : Int) < (↑v0 : Int) := by grind
theorem om332 : ∀ {v0 : Int} {v1 : Nat}, v0 < (↑v1 : Int) → v0 < (↑v1 : Int) := by intros; assumption
theorem om333 : ∀ {v0 : Int}, (0 : Int) ≤ v0 ∧ v0 ≤ (100 : Int) → (0 : Int) ≤ v0 ∧ v0 < (10000 : Int) := by lia
theorem om334 : ∀ {v0 : Int}, (0 : Int) ≤ v0 → v0 < (6 : Int) → (-1000 : Int) ≤ v0 ∧ v0 ≤ (1000 : Int) := by lia
theorem om335 : ∀ {v0 : Int}, v0.toNat = (v0 - (0 : Int)).toNat := by intros; simp_all
theorem om336 : ∀ {v0 : Int}, (0 : Int) ≤ v0 ∧ v0 ≤ (100 : Int) → v0 + (1 : Int) ≤ (101 : Int) := by lia
theorem om337 : ∀ {v0 : Int} {v1 : Nat}, v0 < (6 : Int) → v1 < v0.toNat → v1 < (6 : Nat) := by lia
theorem om338 : ∀ {v0 v1 v2 v3 v4 : Nat}, v0 = v1 → (1 : Nat) ≤ v1 ∧ v1 ≤ (4 : Nat) → v2 = v3 → v0 = v3 + v4 → v2 ≤ (16777216 : Nat) := by intros; subst_vars; grind
theorem om339 : ∀ {v0 : Int} {v1 : Nat}, (0 : Int) ≤ v0 ∧ v0 ≤ (51 : Int) + (↑v1 : Int) → (0 : Int) ≤ v0 + (1 : Int) ∧ v0 + (1 : Int) ≤ (51 : Int) + (↑(v1 + (1 : Nat)) : Int) := by lia
theorem om340 : ∀ {v0 v1 v2 : Nat}, v0 = v1 → v1 < v2 → v2 ≤ (4 : Nat) → v0 + (1 : Nat) < (2 : Nat) ^ (62 : Nat) := by lia
theorem om341 : ∀ {v0 : Nat} {v1 : Prop} {v2 v3 : List Int} {v4 : Prop} {v5 v6 : List (Int × Int)} {v7 : Nat}, (v0 ≤ (3 : Nat) ∧ v1 ∧ v2 ≠ v3 ∧ v4) ∧ v5 ≠ v6 ∧ v7 ≤ (3 : Nat) → v0 < (60 : Nat) := by intros; subst_vars; omega
theorem om342 : ∀ {v0 v1 : Int}, v0 < v1 → v0 ≤ v1 := fun {v0 v1} a => Int.le_of_lt a
theorem om343 : ∀ {v0 v1 v2 : Nat}, v0 = v1 → v1 < v2 → v2 ≤ (4 : Nat) → v0 ≤ (10 : Nat) := by lia
theorem om344 : ∀ {v0 : Nat}, v0 = (2 : Nat) ∨ v0 = (3 : Nat) → v0 ≤ (3 : Nat) := by simp
theorem om345 : ∀ {v0 : Nat}, v0 = (2 : Nat) ∨ v0 = (3 : Nat) → (↑v0 : Int) ≤ (1000000 : Int) := by simp
theorem om346 : ∀ {v0 v1 : Nat} {v2 : Int}, v0 < v1 → v1 ≤ (4 : Nat) → (0 : Int) ≤ v2 ∧ v2 ≤ (51 : Int) + (↑v0 : Int) → (0 : Int) ≤ v2 ∧ v2 < (10000 : Int) := by lia
theorem om347 : ∀ {v0 : Int}, v0 = (4 : Int) ∨ v0 = (8 : Int) → (0 : Int) < v0 - (1 : Int) := by simp
theorem om348 : ∀ {v0 v1 : Int}, (0 : Int) ≤ v0 → v0 < v1 - (1 : Int) → (1 : Int) ≤ v1 - (1 : Int) - v0 ∧ v1 - (1 : Int) - v0 ≤ v1 - (1 : Int) := by lia
theorem om349 : ∀ {v0 : Nat}, v0 = (2 : Nat) ∨ v0 = (3 : Nat) → (-1000 : Int) ≤ (↑v0 : Int) ∧ (↑v0 : Int) ≤ (1000 : Int) := by simp
theorem om350 : ∀ {v0 v1 : Nat}, v0 < v1 → v1 ≤ (4 : Nat) → v0 ≤ (16777216 : Nat) := by lia
theorem om351 : ∀ {v0 : Int}, (0 : Int) ≤ v0 ∧ v0 ≤ (50 : Int) → (0 : Int) ≤ v0 ∧ v0 < (10000 : Int) := by lia
theorem om352 : ∀ {v0 : Int}, (0 : Int) ≤ v0 → (2 : Int) + v0 = (↑((2 : Int) + v0).toNat : Int) := by intros; grind only
theorem om353 : ∀ {v0 : Int}, (0 : Int) ≤ v0 → (1 : Nat) ≤ ((2 : Int) + v0).toNat := by lia
theorem om354 : ∀ {v0 : Int}, v0 < (3 : Int) → ((2 : Int) + v0).toNat ≤ (4 : Nat) := by lia
theorem om355 : ∀ {v0 : Int} {v1 : Nat}, v0 < (3 : Int) → (2 : Int) + v0 = (↑v1 : Int) → (-1000 : Int) ≤ (↑v1 : Int) ∧ (↑v1 : Int) ≤ (1000 : Int) := by grind
theorem om356 : ∀ {v0 : Int}, (0 : Int) ≤ v0 ∧ v0 ≤ (50 : Int) → (0 : Int) ≤ v0 + (1 : Int) := by lia
theorem om357 : ∀ {v0 : Int}, (0 : Int) ≤ v0 ∧ v0 ≤ (50 : Int) → v0 + (1 : Int) ≤ (51 : Int) + (↑(0 : Nat) : Int) := by lia
theorem om358 : ∀ {v0 : Int} {v1 : Nat} {v2 : Int}, v0 < (3 : Int) → (2 : Int) + v0 = (↑v1 : Int) → (0 : Int) ≤ v2 ∧ v2 ≤ (51 : Int) + (↑v1 : Int) → (0 : Int) ≤ v2 ∧ v2 ≤ (100 : Int) := by intros; exact ⟨by lia, by lia⟩
theorem om359 : ∀ {v0 : Int}, (0 : Int) ≤ v0 → v0 < (2 : Int) → ((2 : Int) + v0).toNat = (2 : Nat) ∨ ((2 : Int) + v0).toNat = (3 : Nat) := by lia
theorem om360 : (0 : Int) ≤ (0 : Int) + (1 : Int) + (1 : Int) := Int.zero_le_ofNat (0 + 1 + 1)
theorem om361 : ∀ {v0 v1 v2 : Nat}, v0 ≤ (3 : Nat) → v1 ≤ v0 → v2 = v1 → v2 ≤ (16777216 : Nat) := by lia
theorem om362 : ∀ {v0 : Nat}, v0 ≤ (3 : Nat) → (-1000 : Int) ≤ (↑v0 : Int) ∧ (↑v0 : Int) ≤ (1000 : Int) := by intros; exact ⟨by lia, by lia⟩
theorem om363 : ∀ {v0 : Nat}, (0 : Int) < (↑v0 : Int) + (1 : Int) := fun {v0} => Int.succ_ofNat_pos v0
theorem om364 : ∀ {v0 v1 : Int} {v2 : Nat}, (0 : Int) ≤ v0 ∧ v0 ≤ v1 + (↑v2 : Int) → (0 : Int) ≤ v0 + (1 : Int) := by lia
theorem om365 : ∀ {v0 v1 : Int} {v2 : Nat}, (0 : Int) ≤ v0 ∧ v0 ≤ v1 + (↑v2 : Int) → v0 + (1 : Int) ≤ v1 + (↑(v2 + (1 : Nat)) : Int) := by lia
theorem om366 : ∀ {v0 : Int} {v1 : Nat}, (0 : Int) ≤ v0 → v0 < (↑v1 : Int) + (1 : Int) → (0 : Int) ≤ v0 ∧ v0 ≤ (↑v1 : Int) := by lia
theorem om367 : ∀ {v0 v1 : Int} {v2 : Nat}, (0 : Int) ≤ v0 ∧ v0 ≤ v1 + (↑v2 : Int) → (0 : Int) ≤ v0 := by intros; simp only [*]
theorem om368 : ∀ {v0 : Nat} {v1 : Int} {v2 : Nat} {v3 : Int}, v0 ≤ (3 : Nat) → (0 : Int) ≤ v1 ∧ v1 ≤ (2 : Int) + (3 : Int) * (↑v2 : Int) → (0 : Int) ≤ v3 ∧ v3 ≤ v1 + (↑v0 : Int) → v3 ≤ (2 : Int) + (3 : Int) * (↑(v2 + (1 : Nat)) : Int) := by intros; grind only
theorem om369 : ∀ {v0 : Nat}, v0 ≤ (63 : Nat) → v0 ≤ (16777216 : Nat) := fun h => Nat.le_trans h (by decide)
theorem om370 : ∀ {v0 : Nat}, min (60 : Nat) v0 ≤ (60 : Nat) := fun {v0} => Nat.min_le_left 60 v0
theorem om371 : ∀ {v0 : Nat}, v0 ≤ (60 : Nat) → v0 ≤ (16777216 : Nat) := fun h => Nat.le_trans h (by decide)
theorem om372 : (0 : Int) ≤ (0 : Int) ∧ (0 : Int) < (10000 : Int) := by intros; simp_all
theorem om373 : (0 : Int) ≤ (0 : Int) + (1 : Int) ∧ (0 : Int) + (1 : Int) < (10000 : Int) := by intros; simp_all
theorem om374 : ∀ {v0 : Int} {v1 : Nat}, v0 < (2 : Int) → (2 : Int) + v0 = (↑v1 : Int) → (-1000 : Int) ≤ (↑v1 : Int) ∧ (↑v1 : Int) ≤ (1000 : Int) := by intros; exact ⟨by lia, by lia⟩
theorem om375 : ∀ {v0 : Int} {v1 : Nat}, v0 < (2 : Int) → (2 : Int) + v0 = (↑v1 : Int) → v1 ≤ (3 : Nat) := by grind
theorem om376 : ∀ {v0 : Int} {v1 : Nat} {v2 : Int}, v0 < (2 : Int) → (2 : Int) + v0 = (↑v1 : Int) → (0 : Int) ≤ v2 ∧ v2 ≤ (2 : Int) + (3 : Int) * (↑v1 : Int) → (0 : Int) ≤ v2 ∧ v2 < (10000 : Int) := by lia
theorem om377 : ∀ {v0 : Int} {v1 : Nat}, (0 : Int) ≤ v0 → (2 : Int) + v0 = (↑v1 : Int) → (0 : Int) < (↑v1 : Int) := by intros; subst_vars; omega
theorem om378 : ∀ {v0 : Int} {v1 : Nat}, (0 : Int) ≤ v0 → v0 < (↑v1 : Int) → (1 : Int) ≤ (1 : Int) + v0 ∧ (1 : Int) + v0 ≤ (↑v1 : Int) := by lia
theorem om379 : ∀ {v0 : Int} {v1 : Nat} {v2 : Int}, v0 < (2 : Int) → (2 : Int) + v0 = (↑v1 : Int) → (0 : Int) ≤ v2 ∧ v2 ≤ (2 : Int) + (3 : Int) * (↑v1 : Int) → (0 : Int) ≤ v2 + (1 : Int) ∧ v2 + (1 : Int) < (10000 : Int) := by lia
theorem om380 : ∀ {v0 : Int} {v1 : Nat}, v0 < (2 : Int) → (2 : Int) + v0 = (↑v1 : Int) → (↑v1 : Int) ≤ (1000000 : Int) := by grind
theorem om381 : ∀ {v0 : Int} {v1 : Nat} {v2 : Int}, v0 < (2 : Int) → (2 : Int) + v0 = (↑v1 : Int) → (0 : Int) ≤ v2 ∧ v2 ≤ (2 : Int) + (3 : Int) * (↑v1 : Int) → (0 : Int) ≤ v2 + (1 : Int) + (1 : Int) ∧ v2 + (1 : Int) + (1 : Int) ≤ (50 : Int) := by lia
section
noncomputable abbrev pw : Program := PySem.Challenge.pw_pc0050_01
noncomputable abbrev rw0 : OpenLaw := PySem.Challenge.rw_pc0050_01
noncomputable def stt (i : Nat) : Stmt := (pw.main.body[i]?).getD (.Pass ⟨0, 0, 0, 0⟩)
noncomputable abbrev inside (l : List Stmt) : List Stmt := match l with
  | .ClassDef _ _ _ body _ _ _ _ _ _ _ :: _ => body
  | .If _ _ o _ :: _ => o
  | .For _ _ b _ _ :: _ => b
  | _ => []
noncomputable def mth (i j : Nat) : Stmt := ((inside [stt i])[j]?).getD (.Pass ⟨0, 0, 0, 0⟩)
noncomputable def vS (x : String) (t : Nat) : Value := .str (Str.ofString x) t
noncomputable def en (P : Params) (x : String) (t : Nat) (v : Value) : DictEntry := ⟨PyData.keyHash P (Str.ofString x), .str (Str.ofString x) t, v⟩
noncomputable def fD (st : Stmt) (qual : String) (pm : Value) (cd : Addr) (cl : List (Str × Addr)) (ct : Value) : FuncData := match st with
  | .FunctionDef n a b _ _ _ sc _ _ _ => { name := n, qualname := Str.ofString qual, params := a, body := .stmts b, scope := sc, globals := mainGlobals, closure := cl, defaults := .none, kwdefaults := .none, doc := .none, pyModule := pm, annotations := none, code := .ref cd, closureTuple := ct, builtins := builtinsNs }
  | _ => default
noncomputable def fO (st : Stmt) (qual : String) (pm : Value) (cd : Addr) (cl : List (Str × Addr)) (ct : Value) : Obj := ⟨.type "function", none, .func (fD st qual pm cd cl ct), #[]⟩
noncomputable def ob2 (P : Params) : Obj := ⟨.none, none, .dict ([] : List DictEntry).toArray 0, #[]⟩
noncomputable def ob3 (P : Params) : Obj := ⟨(.type "dict"), none, .dict ([en P "__name__" 165 (vS "law_pc0050_01" 717), en P "__doc__" 166 .none, en P "__package__" 167 .none, en P "__loader__" 168 (.builtin "__main__.__loader__#opaque"), en P "__spec__" 169 .none, en P "__annotations__" 170 (.ref 6), en P "__builtins__" 171 (.ref 4), en P "__file__" 173 (vS "/claim/cut.py" 172), en P "__cached__" 174 .none, en P "_wall" 193 (.ref 21), en P "put_behind" 204 (.ref 28), en P "from_values" 213 (.ref 35), en P "least" 220 (.ref 42), en P "greatest" 227 (.ref 49), en P "next_from" 237 (.ref 56), en P "has" 245 (.ref 63), en P "has_domains" 246 (.ref 63), en P "up_to" 252 (.ref 68), en P "from_on" 258 (.ref 73), en P "without" 266 (.ref 80), en P "meet" 279 (.ref 87), en P "negation" 289 (.ref 94), en P "struck" 299 (.ref 101), en P "said_of" 308 (.ref 108), en P "Store" 500 (.ref 258), en P "Propagator" 555 (.ref 300), en P "Regular" 716 (.ref 405), en P "_law_number" 728 (.ref 414), en P "_law_gone" 737 (.ref 421), en P "_law_ahead" 743 (.ref 426), en P "_law_behind" 749 (.ref 431), en P "_law_words" 755 (.ref 436), en P "_law_goes_through" 767 (.ref 443), en P "law" 773 (.ref 448)] : List DictEntry).toArray 34, #[]⟩
noncomputable def ob27 (P : Params) : Obj := ⟨.type "code", none, .fields #[(vS "put_behind" 196), (vS "put_behind" 197), (vS "/claim/cut.py" 198), (.int 5 0), (.int 3 0), (.int 0 0), (.int 0 0), (.int 3 0), (.ref 22), (.bool true), (.int 181 0), (.ref 23), .none, (.ref 24), (.ref 25), (.ref 26), (.int 202 0), (.int 5 0), (vS "/claim/cut.py" 203)], #[]⟩
noncomputable def ob28 (P : Params) : Obj := fO (stt 2) "put_behind" (vS "fdsolve.domains" 194) 27 [] .none
noncomputable def ob34 (P : Params) : Obj := ⟨.type "code", none, .fields #[(vS "from_values" 205), (vS "from_values" 206), (vS "/claim/cut.py" 207), (.int 11 0), (.int 1 0), (.int 0 0), (.int 0 0), (.int 3 0), (.ref 29), (.bool true), (.int 181 0), (.ref 30), .none, (.ref 31), (.ref 32), (.ref 33), (.int 211 0), (.int 11 0), (vS "/claim/cut.py" 212)], #[]⟩
noncomputable def ob35 (P : Params) : Obj := fO (stt 3) "from_values" (vS "fdsolve.domains" 194) 34 [] .none
noncomputable def ob55 (P : Params) : Obj := ⟨.type "code", none, .fields #[(vS "next_from" 228), (vS "next_from" 229), (vS "/claim/cut.py" 230), (.int 20 0), (.int 2 0), (.int 0 0), (.int 0 0), (.int 3 0), (.ref 50), (.bool true), (.int 181 0), (.ref 51), .none, (.ref 52), (.ref 53), (.ref 54), (.int 235 0), (.int 20 0), (vS "/claim/cut.py" 236)], #[]⟩
noncomputable def ob56 (P : Params) : Obj := fO (stt 6) "next_from" (vS "fdsolve.domains" 194) 55 [] .none
noncomputable def ob62 (P : Params) : Obj := ⟨.type "code", none, .fields #[(vS "has" 238), (vS "has" 239), (vS "/claim/cut.py" 240), (.int 25 0), (.int 2 0), (.int 0 0), (.int 0 0), (.int 3 0), (.ref 57), (.bool true), (.int 181 0), (.ref 58), .none, (.ref 59), (.ref 60), (.ref 61), (.int 243 0), (.int 25 0), (vS "/claim/cut.py" 244)], #[]⟩
noncomputable def ob63 (P : Params) : Obj := fO (stt 7) "has" (vS "fdsolve.domains" 194) 62 [] .none
noncomputable def ob67 (P : Params) : Obj := ⟨.type "code", none, .fields #[(vS "up_to" 247), (vS "up_to" 248), (vS "/claim/cut.py" 249), (.int 28 0), (.int 2 0), (.int 0 0), (.int 0 0), (.int 3 0), (.ref 64), (.bool true), (.int 181 0), (.ref 65), .none, .none, .none, (.ref 66), (.int 250 0), (.int 28 0), (vS "/claim/cut.py" 251)], #[]⟩
noncomputable def ob68 (P : Params) : Obj := fO (stt 9) "up_to" (vS "fdsolve.domains" 194) 67 [] .none
noncomputable def ob72 (P : Params) : Obj := ⟨.type "code", none, .fields #[(vS "from_on" 253), (vS "from_on" 254), (vS "/claim/cut.py" 255), (.int 30 0), (.int 2 0), (.int 0 0), (.int 0 0), (.int 3 0), (.ref 69), (.bool true), (.int 181 0), (.ref 70), .none, .none, .none, (.ref 71), (.int 256 0), (.int 30 0), (vS "/claim/cut.py" 257)], #[]⟩
noncomputable def ob73 (P : Params) : Obj := fO (stt 10) "from_on" (vS "fdsolve.domains" 194) 72 [] .none
noncomputable def ob79 (P : Params) : Obj := ⟨.type "code", none, .fields #[(vS "without" 259), (vS "without" 260), (vS "/claim/cut.py" 261), (.int 32 0), (.int 2 0), (.int 0 0), (.int 0 0), (.int 3 0), (.ref 74), (.bool true), (.int 181 0), (.ref 75), .none, (.ref 76), (.ref 77), (.ref 78), (.int 264 0), (.int 32 0), (vS "/claim/cut.py" 265)], #[]⟩
noncomputable def ob80 (P : Params) : Obj := fO (stt 11) "without" (vS "fdsolve.domains" 194) 79 [] .none
noncomputable def ob86 (P : Params) : Obj := ⟨.type "code", none, .fields #[(vS "meet" 267), (vS "meet" 268), (vS "/claim/cut.py" 269), (.int 34 0), (.int 2 0), (.int 0 0), (.int 0 0), (.int 3 0), (.ref 81), (.bool true), (.int 181 0), (.ref 82), .none, (.ref 83), (.ref 84), (.ref 85), (.int 277 0), (.int 34 0), (vS "/claim/cut.py" 278)], #[]⟩
noncomputable def ob87 (P : Params) : Obj := fO (stt 12) "meet" (vS "fdsolve.domains" 194) 86 [] .none
noncomputable def ob93 (P : Params) : Obj := ⟨.type "code", none, .fields #[(vS "negation" 280), (vS "negation" 281), (vS "/claim/cut.py" 282), (.int 45 0), (.int 1 0), (.int 0 0), (.int 0 0), (.int 3 0), (.ref 88), (.bool true), (.int 181 0), (.ref 89), .none, (.ref 90), (.ref 91), (.ref 92), (.int 287 0), (.int 45 0), (vS "/claim/cut.py" 288)], #[]⟩
noncomputable def ob94 (P : Params) : Obj := fO (stt 13) "negation" (vS "fdsolve.domains" 194) 93 [] .none
noncomputable def ob100 (P : Params) : Obj := ⟨.type "code", none, .fields #[(vS "struck" 290), (vS "struck" 291), (vS "/claim/cut.py" 292), (.int 52 0), (.int 2 0), (.int 0 0), (.int 0 0), (.int 3 0), (.ref 95), (.bool true), (.int 181 0), (.ref 96), .none, (.ref 97), (.ref 98), (.ref 99), (.int 297 0), (.int 52 0), (vS "/claim/cut.py" 298)], #[]⟩
noncomputable def ob101 (P : Params) : Obj := fO (stt 14) "struck" (vS "fdsolve.domains" 194) 100 [] .none
noncomputable def ob121 (P : Params) : Obj := ⟨.type "code", none, .fields #[(vS "__init__" 323), (vS "Store.__init__" 324), (vS "/claim/cut.py" 325), (.int 67 0), (.int 1 0), (.int 0 0), (.int 0 0), (.int 3 0), (.ref 116), (.bool true), (.int 181 0), (.ref 117), .none, (.ref 118), (.ref 119), (.ref 120), (.int 327 0), (.int 67 0), (vS "/claim/cut.py" 328)], #[]⟩
noncomputable def ob122 (P : Params) : Obj := fO (mth 17 0) "Store.__init__" (vS "fdsolve.store" 309) 121 [] .none
noncomputable def ob128 (P : Params) : Obj := ⟨.type "code", none, .fields #[(vS "new_var" 330), (vS "Store.new_var" 331), (vS "/claim/cut.py" 332), (.int 77 0), (.int 2 0), (.int 0 0), (.int 0 0), (.int 3 0), (.ref 123), (.bool true), (.int 181 0), (.ref 124), .none, (.ref 125), (.ref 126), (.ref 127), (.int 335 0), (.int 77 0), (vS "/claim/cut.py" 336)], #[]⟩
noncomputable def ob129 (P : Params) : Obj := fO (mth 17 1) "Store.new_var" (vS "fdsolve.store" 309) 128 [] .none
noncomputable def ob149 (P : Params) : Obj := ⟨.type "code", none, .fields #[(vS "initial" 353), (vS "Store.initial" 354), (vS "/claim/cut.py" 355), (.int 90 0), (.int 2 0), (.int 0 0), (.int 0 0), (.int 3 0), (.ref 144), (.bool true), (.int 181 0), (.ref 145), .none, (.ref 146), (.ref 147), (.ref 148), (.int 358 0), (.int 90 0), (vS "/claim/cut.py" 359)], #[]⟩
noncomputable def ob150 (P : Params) : Obj := fO (mth 17 4) "Store.initial" (vS "fdsolve.store" 309) 149 [] .none
noncomputable def ob205 (P : Params) : Obj := ⟨.type "code", none, .fields #[(vS "enter" 418), (vS "Store.enter" 419), (vS "/claim/cut.py" 420), (.int 114 0), (.int 4 0), (.int 0 0), (.int 0 0), (.int 3 0), (.ref 200), (.bool true), (.int 181 0), (.ref 201), .none, (.ref 202), (.ref 203), (.ref 204), (.int 428 0), (.int 114 0), (vS "/claim/cut.py" 429)], #[]⟩
noncomputable def ob206 (P : Params) : Obj := fO (mth 17 12) "Store.enter" (vS "fdsolve.store" 309) 205 [] .none
noncomputable def ob219 (P : Params) : Obj := ⟨.type "code", none, .fields #[(vS "decide" 440), (vS "Store.decide" 441), (vS "/claim/cut.py" 442), (.int 130 0), (.int 2 0), (.int 0 0), (.int 0 0), (.int 3 0), (.ref 214), (.bool true), (.int 181 0), (.ref 215), .none, (.ref 216), (.ref 217), (.ref 218), (.int 445 0), (.int 130 0), (vS "/claim/cut.py" 446)], #[]⟩
noncomputable def ob220 (P : Params) : Obj := fO (mth 17 14) "Store.decide" (vS "fdsolve.store" 309) 219 [] .none
noncomputable def ob257 (P : Params) : Obj := ⟨(.type "dict"), none, .dict ([en P "__module__" 318 (vS "fdsolve.store" 309), en P "__firstlineno__" 322 (.int 65 321), en P "__init__" 329 (.ref 122), en P "new_var" 337 (.ref 129), en P "size" 344 (.ref 136), en P "dom" 352 (.ref 143), en P "initial" 360 (.ref 150), en P "low" 368 (.ref 157), en P "high" 376 (.ref 164), en P "has" 385 (.ref 171), en P "is_fixed" 393 (.ref 178), en P "value" 401 (.ref 185), en P "width" 409 (.ref 192), en P "holds" 417 (.ref 199), en P "enter" 430 (.ref 206), en P "strike" 439 (.ref 213), en P "decide" 447 (.ref 220), en P "fail" 455 (.ref 227), en P "push" 462 (.ref 234), en P "pop" 470 (.ref 241), en P "depth" 477 (.ref 248), en P "changed" 484 (.ref 255), en P "__static_attributes__" 493 (.ref 256), en P "__dict__" 495 (.ref 259), en P "__weakref__" 497 (.ref 260), en P "__doc__" 498 .none] : List DictEntry).toArray 4, #[]⟩
noncomputable def ob258 (P : Params) : Obj := ⟨.type "type", none, .cls { name := "Store", bases := [(.type "object")], mro := [(.ref 258), (.type "object")], ns := 257, qualname := "Store", subclasses := [] }, #[none, none, (some (vS "Store" 311)), (some (vS "Store" 319)), (some (.builtin "object.__new__")), (some (.bool true))]⟩
noncomputable def ob275 (P : Params) : Obj := ⟨.type "code", none, .fields #[(vS "__init__" 513), (vS "Propagator.__init__" 514), (vS "/claim/cut.py" 515), (.int 151 0), (.int 3 0), (.int 0 0), (.int 0 0), (.int 3 0), (.ref 270), (.bool true), (.int 181 0), (.ref 271), .none, (.ref 272), (.ref 273), (.ref 274), (.int 519 0), (.int 151 0), (vS "/claim/cut.py" 520)], #[]⟩
noncomputable def ob276 (P : Params) : Obj := fO (mth 18 0) "Propagator.__init__" (vS "fdsolve.store" 309) 275 [] .none
noncomputable def ob299 (P : Params) : Obj := ⟨(.type "dict"), none, .dict ([en P "__module__" 508 (vS "fdsolve.store" 309), en P "__firstlineno__" 512 (.int 149 511), en P "__init__" 521 (.ref 276), en P "propagate" 529 (.ref 283), en P "check" 537 (.ref 290), en P "told" 544 (.ref 297), en P "__static_attributes__" 548 (.ref 298), en P "__dict__" 550 (.ref 301), en P "__weakref__" 552 (.ref 302), en P "__doc__" 553 .none] : List DictEntry).toArray 4, #[]⟩
noncomputable def ob300 (P : Params) : Obj := ⟨.type "type", none, .cls { name := "Propagator", bases := [(.type "object")], mro := [(.ref 300), (.type "object")], ns := 299, qualname := "Propagator", subclasses := [(.ref 405)] }, #[none, none, (some (vS "Propagator" 501)), (some (vS "Propagator" 509)), (some (.builtin "object.__new__")), (some (.bool true))]⟩
noncomputable def ob308 (P : Params) : Obj := ⟨.type "cell", none, .cell (some (.ref 405)), #[]⟩
noncomputable def ob319 (P : Params) : Obj := ⟨.type "code", none, .fields #[(vS "__init__" 570), (vS "Regular.__init__" 571), (vS "/claim/cut.py" 572), (.int 167 0), (.int 7 0), (.int 0 0), (.int 0 0), (.int 3 0), (.ref 314), (.bool true), (.int 181 0), (.ref 315), .none, (.ref 316), (.ref 317), (.ref 318), (.int 581 0), (.int 167 0), (vS "/claim/cut.py" 582)], #[]⟩
noncomputable def ob320 (P : Params) : Obj := fO (mth 20 0) "Regular.__init__" (vS "fdsolve.regular" 556) 319 [(Str.ofString "__class__", 308)] (.ref 313)
noncomputable def ob354 (P : Params) : Obj := ⟨.type "code", none, .fields #[(vS "note_dead" 615), (vS "Regular.note_dead" 616), (vS "/claim/cut.py" 617), (.int 188 0), (.int 6 0), (.int 0 0), (.int 0 0), (.int 3 0), (.ref 349), (.bool true), (.int 181 0), (.ref 350), .none, (.ref 351), (.ref 352), (.ref 353), (.int 629 0), (.int 188 0), (vS "/claim/cut.py" 630)], #[]⟩
noncomputable def ob355 (P : Params) : Obj := fO (mth 20 5) "Regular.note_dead" (vS "fdsolve.regular" 556) 354 [] .none
noncomputable def ob361 (P : Params) : Obj := ⟨.type "code", none, .fields #[(vS "note_unreached" 632), (vS "Regular.note_unreached" 633), (vS "/claim/cut.py" 634), (.int 200 0), (.int 5 0), (.int 0 0), (.int 0 0), (.int 3 0), (.ref 356), (.bool true), (.int 181 0), (.ref 357), .none, (.ref 358), (.ref 359), (.ref 360), (.int 644 0), (.int 200 0), (vS "/claim/cut.py" 645)], #[]⟩
noncomputable def ob362 (P : Params) : Obj := fO (mth 20 6) "Regular.note_unreached" (vS "fdsolve.regular" 556) 361 [] .none
noncomputable def ob366 (P : Params) : Obj := ⟨.type "code", none, .fields #[(vS "reasons_of" 647), (vS "Regular.reasons_of" 648), (vS "/claim/cut.py" 649), (.int 212 0), (.int 3 0), (.int 0 0), (.int 0 0), (.int 3 0), (.ref 363), (.bool true), (.int 181 0), (.ref 364), .none, .none, .none, (.ref 365), (.int 650 0), (.int 212 0), (vS "/claim/cut.py" 651)], #[]⟩
noncomputable def ob367 (P : Params) : Obj := fO (mth 20 7) "Regular.reasons_of" (vS "fdsolve.regular" 556) 366 [] .none
noncomputable def ob373 (P : Params) : Obj := ⟨.type "code", none, .fields #[(vS "why_not" 653), (vS "Regular.why_not" 654), (vS "/claim/cut.py" 655), (.int 215 0), (.int 7 0), (.int 0 0), (.int 0 0), (.int 3 0), (.ref 368), (.bool true), (.int 181 0), (.ref 369), .none, (.ref 370), (.ref 371), (.ref 372), (.int 668 0), (.int 215 0), (vS "/claim/cut.py" 669)], #[]⟩
noncomputable def ob374 (P : Params) : Obj := fO (mth 20 8) "Regular.why_not" (vS "fdsolve.regular" 556) 373 [] .none
noncomputable def ob404 (P : Params) : Obj := ⟨(.type "dict"), none, .dict ([en P "__module__" 565 (vS "fdsolve.regular" 556), en P "__firstlineno__" 569 (.int 165 568), en P "__init__" 583 (.ref 320), en P "told" 590 (.ref 327), en P "check" 598 (.ref 334), en P "reached_of" 606 (.ref 341), en P "alive_of" 614 (.ref 348), en P "note_dead" 631 (.ref 355), en P "note_unreached" 646 (.ref 362), en P "reasons_of" 652 (.ref 367), en P "why_not" 670 (.ref 374), en P "has_support" 681 (.ref 381), en P "keep_letters" 689 (.ref 388), en P "strike_round" 697 (.ref 395), en P "propagate" 705 (.ref 402), en P "__static_attributes__" 712 (.ref 403), en P "__doc__" 714 .none] : List DictEntry).toArray 3, #[]⟩
noncomputable def ob405 (P : Params) : Obj := ⟨.type "type", none, .cls { name := "Regular", bases := [(.ref 300)], mro := [(.ref 405), (.ref 300), (.type "object")], ns := 404, qualname := "Regular", subclasses := [] }, #[(some (.ref 305)), none, (some (vS "Regular" 558)), (some (vS "Regular" 566)), (some (.builtin "object.__new__")), (some (.bool true))]⟩
noncomputable def ob413 (P : Params) : Obj := ⟨.type "code", none, .fields #[(vS "_law_number" 719), (vS "_law_number" 720), (vS "/claim/cut.py" 721), (.int 239 0), (.int 2 0), (.int 0 0), (.int 0 0), (.int 3 0), (.ref 408), (.bool true), (.int 181 0), (.ref 409), .none, (.ref 410), (.ref 411), (.ref 412), (.int 726 0), (.int 239 0), (vS "/claim/cut.py" 727)], #[]⟩
noncomputable def ob414 (P : Params) : Obj := fO (stt 22) "_law_number" (vS "law_pc0050_01" 717) 413 [] .none
noncomputable def ob420 (P : Params) : Obj := ⟨.type "code", none, .fields #[(vS "_law_gone" 729), (vS "_law_gone" 730), (vS "/claim/cut.py" 731), (.int 244 0), (.int 3 0), (.int 0 0), (.int 0 0), (.int 3 0), (.ref 415), (.bool true), (.int 181 0), (.ref 416), .none, (.ref 417), (.ref 418), (.ref 419), (.int 735 0), (.int 244 0), (vS "/claim/cut.py" 736)], #[]⟩
noncomputable def ob421 (P : Params) : Obj := fO (stt 23) "_law_gone" (vS "law_pc0050_01" 717) 420 [] .none
noncomputable def ob425 (P : Params) : Obj := ⟨.type "code", none, .fields #[(vS "_law_ahead" 738), (vS "_law_ahead" 739), (vS "/claim/cut.py" 740), (.int 246 0), (.int 3 0), (.int 0 0), (.int 0 0), (.int 3 0), (.ref 422), (.bool true), (.int 181 0), (.ref 423), .none, .none, .none, (.ref 424), (.int 741 0), (.int 246 0), (vS "/claim/cut.py" 742)], #[]⟩
noncomputable def ob426 (P : Params) : Obj := fO (stt 24) "_law_ahead" (vS "law_pc0050_01" 717) 425 [] .none
noncomputable def ob430 (P : Params) : Obj := ⟨.type "code", none, .fields #[(vS "_law_behind" 744), (vS "_law_behind" 745), (vS "/claim/cut.py" 746), (.int 251 0), (.int 3 0), (.int 0 0), (.int 0 0), (.int 3 0), (.ref 427), (.bool true), (.int 181 0), (.ref 428), .none, .none, .none, (.ref 429), (.int 747 0), (.int 251 0), (vS "/claim/cut.py" 748)], #[]⟩
noncomputable def ob431 (P : Params) : Obj := fO (stt 25) "_law_behind" (vS "law_pc0050_01" 717) 430 [] .none
noncomputable def ob435 (P : Params) : Obj := ⟨.type "code", none, .fields #[(vS "_law_words" 750), (vS "_law_words" 751), (vS "/claim/cut.py" 752), (.int 256 0), (.int 1 0), (.int 0 0), (.int 0 0), (.int 3 0), (.ref 432), (.bool true), (.int 181 0), (.ref 433), .none, .none, .none, (.ref 434), (.int 753 0), (.int 256 0), (vS "/claim/cut.py" 754)], #[]⟩
noncomputable def ob436 (P : Params) : Obj := fO (stt 26) "_law_words" (vS "law_pc0050_01" 717) 435 [] .none
noncomputable def ob442 (P : Params) : Obj := ⟨.type "code", none, .fields #[(vS "_law_goes_through" 756), (vS "_law_goes_through" 757), (vS "/claim/cut.py" 758), (.int 261 0), (.int 4 0), (.int 0 0), (.int 0 0), (.int 3 0), (.ref 437), (.bool true), (.int 181 0), (.ref 438), .none, (.ref 439), (.ref 440), (.ref 441), (.int 765 0), (.int 261 0), (vS "/claim/cut.py" 766)], #[]⟩
noncomputable def ob443 (P : Params) : Obj := fO (stt 27) "_law_goes_through" (vS "law_pc0050_01" 717) 442 [] .none
noncomputable def ob447 (P : Params) : Obj := ⟨.type "code", none, .fields #[(vS "law" 768), (vS "law" 769), (vS "/claim/cut.py" 770), (.int 266 0), (.int 1 0), (.int 0 0), (.int 0 0), (.int 3 0), (.ref 444), (.bool true), (.int 181 0), (.ref 445), .none, .none, .none, (.ref 446), (.int 771 0), (.int 266 0), (vS "/claim/cut.py" 772)], #[]⟩
noncomputable def ob448 (P : Params) : Obj := fO (stt 28) "law" (vS "law_pc0050_01" 717) 447 [] .none
noncomputable def KK (P : Params) : Frag := [(2, ob2 P), (3, ob3 P), (27, ob27 P), (28, ob28 P), (34, ob34 P), (35, ob35 P), (55, ob55 P), (56, ob56 P), (62, ob62 P), (63, ob63 P), (67, ob67 P), (68, ob68 P), (72, ob72 P), (73, ob73 P), (79, ob79 P), (80, ob80 P), (86, ob86 P), (87, ob87 P), (93, ob93 P), (94, ob94 P), (100, ob100 P), (101, ob101 P), (121, ob121 P), (122, ob122 P), (128, ob128 P), (129, ob129 P), (149, ob149 P), (150, ob150 P), (205, ob205 P), (206, ob206 P), (219, ob219 P), (220, ob220 P), (257, ob257 P), (258, ob258 P), (275, ob275 P), (276, ob276 P), (299, ob299 P), (300, ob300 P), (308, ob308 P), (319, ob319 P), (320, ob320 P), (354, ob354 P), (355, ob355 P), (361, ob361 P), (362, ob362 P), (366, ob366 P), (367, ob367 P), (373, ob373 P), (374, ob374 P), (404, ob404 P), (405, ob405 P), (413, ob413 P), (414, ob414 P), (420, ob420 P), (421, ob421 P), (425, ob425 P), (426, ob426 P), (430, ob430 P), (431, ob431 P), (435, ob435 P), (436, ob436 P), (442, ob442 P), (443, ob443 P), (447, ob447 P), (448, ob448 P)]
noncomputable def KA : List Addr := [2, 3, 27, 28, 34, 35, 55, 56, 62, 63, 67, 68, 72, 73, 79, 80, 86, 87, 93, 94, 100, 101, 121, 122, 128, 129, 149, 150, 205, 206, 219, 220, 257, 258, 275, 276, 299, 300, 308, 319, 320, 354, 355, 361, 362, 366, 367, 373, 374, 404, 405, 413, 414, 420, 421, 425, 426, 430, 431, 435, 436, 442, 443, 447, 448]
noncomputable def hook : Hook := kHook KK KA fun _ => by kernel_rfl
noncomputable def keep : List Nat := [0, 2, 3, 4, 5, 6, 7, 8, 9, 10, 11, 12, 13, 14, 15, 17, 18, 20, 22, 23, 24, 25, 26, 27, 28]
noncomputable def vw : Program := view pw keep
noncomputable def loose0 : List Str := [Str.ofString "has_domains"]
theorem fence (s : Shared) : fenceModules? pw s = some s := by kernel_rfl
theorem opn : opening pw = plainProg pw.main.scope.names := by kernel_rfl
noncomputable def xt : Shared → Bool := fun s => xlAt vw [] s && recOk (RowW.records rw0.row.toRowW) s
theorem topRuns (w : World) (os : OsState) : ((topFrom treeTable pw w 5200 ⟨boot_heap w.params, Array.mk [], boot_drawn, boot_toks, os⟩).map
      (fun s => (openSeen vw loose0 (importedModules pw.main.body) xt true s, Hook.obs hook s))) = some (openGood vw loose0, Hook.val hook w) := by
  unfold topFrom
  rw [PySem.W.Fast.te14082659384304107361, PySem.W.Fast.te14364793385576792824, PySem.W.Fast.te4187177175401517315]
  kernel_rfl
theorem left : LeftO pw vw loose0 xt (Hook.obs hook) (Hook.val hook) 5200 := fun w => by
  obtain ⟨⟨h, gs, d, k, os⟩, e, e'⟩ := Option.map_eq_some_iff.mp (boot_open (p := pw) (N := 5200) opn rfl fence w)
  obtain ⟨rfl, rfl, rfl, rfl⟩ : h = boot_heap w.params ∧ gs = Array.mk [] ∧ d = boot_drawn ∧ k = boot_toks := by simpa using e'
  unfold openEnds
  rw [e, Option.bind_some]
  exact topRuns w os
theorem said : rw0.wellSaid = true := by kernel_rfl
end
section
structure World0 (w : World) (h : Heap) : Prop where
  K : (KK w.params).In h
  nolimit : h.NoLimit
  globals : ∃ mg, h.Ns mainGlobals mg ∧ ∀ (n : Str) v, nsIn (KK w.params) mainGlobals n = some (some v) → mg n = some v
  none : ∀ mg, h.Ns mainGlobals mg → ∀ n : Str, nsIn (KK w.params) mainGlobals n = some none → mg n = none
  builtins : ∃ mb, h.Ns builtinsNs mb ∧ ∀ x : Str, x ≠ "__name__" → mb x = bootBuiltins x
theorem World0.keeps {w : World} {h h' : Heap} (W : World0 w h) (k : ∀ b o, h.get? b = some o → h'.get? b = some o) : World0 w h' :=
  ⟨W.K.keeps k, W.nolimit.keeps k, let ⟨mg, a, b⟩ := W.globals; ⟨mg, a.keeps k, b⟩, fun mg N n e => mg_none_of (W.K.keeps k) N e, let ⟨mb, a, b⟩ := W.builtins; ⟨mb, a.keeps k, b⟩⟩
theorem head (walk : ∀ (w : World) (s : Shared) (l : Addr) (vs : List Value) (ns : List Int), World0 w s.heap → s.gens = #[] → s.heap.IsList l vs.toArray → IntsAre vs ns → ns.length ≤ 63 →
      (∀ n ∈ ns, Builtin.Int.intBits n ≤ 2 ^ 20) →
      wpAny (model pw w) callerA (call (.ref 448) [.ref l]) (fun v s' => v = .bool true ∧ (∃ h tk, s' = { s with heap := h, toks := tk }) ∧ ∀ b o, s.heap.get? b = some o → s'.heap.get? b = some o) (fun _ _ => False) s) :
    PySem.Challenge.rw_pc0050_01.Holds := by
  refine holds_law said fun said' => ?_
  refine holds_open (q := vw) (loose := loose0) (Xt := xt) (XP := XL vw []) (Yf := Hook.obs hook) (Ya := Hook.val hook) (YP := Hook.says hook) (N := 5200) left (Hook.of hook) (Hook.keeps hook)
    (fun s e => xl_of s (Bool.and_eq_true_iff.mp e).1) XL.keeps (by rfl) (by rfl) (by rfl) (fun s e => recFacts_of (Bool.and_eq_true_iff.mp e).2) (by rfl) said' (by decide +kernel) ⟨rfl, rfl, rfl, rfl, rfl, by decide +kernel⟩ ?hw ?hc
  case hw => w_witness2
  case hc =>
    intro w s₀ s₁ mg mb G Y fa o pm cd doc dV kV ho hd hcd hD hmg hg args vals as hpre hlay hrd hwl hlo
    have KX : (KK w.params).In s₁.heap := kIn_of Y
    refine Ground.open G ?_
    intro T B D TE TW
    have e448 : mg "law" = some (.ref 448) := mg_of KX T.g (by rfl)
    obtain rfl : fa = 448 := by
      have := e448.symm.trans hmg
      exact (Value.ref.inj (Option.some.inj this)).symm
    have W0 : World0 w s₁.heap := ⟨KX, T.nolimit, ⟨mg, T.g, fun n v e => mg_of KX T.g e⟩, fun mg' N n e => mg_none_of KX N e, ⟨mb, T.b, T.builtins⟩⟩
    clear hd hD hcd ho hmg
    wrow_args hpre hlay hrd hwl hlo
    rename IntsAre _ _ => hI
    rename Heap.IsList _ _ _ => hL
    rename PyData.layable0 _ = true => hY
    rename (¬ _ < _) => hc
    refine wpAny_mono (walk w s₁ _ _ _ W0 hg hL hI (by have := hc; exact om0 hc) (fun n hn => PyData.bits_item_of_ints hY hn)) (fun v s' q => ?_) (fun _ _ f => f.elim)
    obtain ⟨rfl, ⟨h', tk, rfl⟩, hk⟩ := q
    refine GoodW.toG ⟨.inl ⟨_, .bool true, [], rfl, fun cls => rfl, .bool true, postW_of (by wrow_shape) (by wtm_val) (by str_meet; first | done | w_fin), unshared_nil⟩, hk, rfl, hg⟩
end
section
noncomputable abbrev Lit := Int ⊕ Str
noncomputable def Lit.is : Lit → Value → Bool
  | .inl i, v => Value.isInt i v
  | .inr x, v => Value.isStrOf x v
section
variable {w : World} {A : Around} {E : Value → Shared → Prop} {s : Shared}
theorem truthOf_false {Q : Bool → Shared → Prop} (h : Q false s) : wpAny (model pw w) A (truthOfDropped (.bool false)) Q E s := wpAny_truthy_bool h
theorem eqBool_int_str {a : Int} {b : Str} {t u : Tok} {Q : Bool → Shared → Prop} (h : Q false s) : wpAny (model pw w) A (eqBool (.int a t) (.str b u)) Q E s := by
  unfold eqBool
  refine wpAny_holding ?_
  have e : (Value.int a t == Value.str b u) = false := by rw [beq_eq_false_iff_ne]; exact nofun
  rw [if_neg (by rw [e]; exact Bool.false_ne_true)]
  refine wpAny_bind (EqMixed.eq_int_str (prog := pw) (Q := fun v s => wpAny (model pw w) A (truthOfDropped v) Q E s) (truthOf_false h))
theorem eqBool_str_int {a : Int} {b : Str} {t u : Tok} {Q : Bool → Shared → Prop} (h : Q false s) : wpAny (model pw w) A (eqBool (.str b u) (.int a t)) Q E s := by
  unfold eqBool
  refine wpAny_holding ?_
  have e : (Value.str b u == Value.int a t) = false := by rw [beq_eq_false_iff_ne]; exact nofun
  rw [if_neg (by rw [e]; exact Bool.false_ne_true)]
  refine wpAny_bind (EqMixed.eq_str_int (prog := pw) (Q := fun v s => wpAny (model pw w) A (truthOfDropped v) Q E s) (truthOf_false h))
end
noncomputable def litKind (w : World) : KeyKind pw w Lit where
  is := Lit.is
  hash := fun k => match k with | .inl i => hashInt i | .inr x => hashStr w x
  inj := fun v a b ha hb => by
    cases a with
    | inl i => cases b with
      | inl j => exact congrArg _ (Value.isInt_inj v i j ha hb)
      | inr y =>
        obtain ⟨t, e1⟩ := Value.isInt_shape (k := i) (v := v) ha
        obtain ⟨u, e2⟩ := Value.isStrOf_shape (x := y) (v := v) hb
        rw [e1] at e2; cases e2
    | inr x => cases b with
      | inl j =>
        obtain ⟨t, e1⟩ := Value.isInt_shape (k := j) (v := v) hb
        obtain ⟨u, e2⟩ := Value.isStrOf_shape (x := x) (v := v) ha
        rw [e1] at e2; cases e2
      | inr y => exact congrArg _ (Value.isStrOf_inj v x y ha hb)
  byValue := fun k v h => by
    cases k with
    | inl i => exact (intKind pw w).byValue i v h
    | inr x => exact (strKind pw w).byValue x v h
  pyHash := fun {A E s k v Q} hv h => by
    cases k with
    | inl i => exact (intKind pw w).pyHash hv h
    | inr x => exact (strKind pw w).pyHash hv h
  eqBool := fun {A E s a b u v Q} hu hv h => by
    cases a with
    | inl i => cases b with
      | inl j =>
        refine (intKind pw w).eqBool hu hv ?_
        have e : decide ((Sum.inl i : Lit) = Sum.inl j) = decide (i = j) := by simp
        rw [← e]; exact h
      | inr y =>
        obtain ⟨t, rfl⟩ := Value.isInt_shape hu
        obtain ⟨t', rfl⟩ := Value.isStrOf_shape hv
        exact eqBool_int_str (by simpa using h)
    | inr x => cases b with
      | inl j =>
        obtain ⟨t, rfl⟩ := Value.isStrOf_shape hu
        obtain ⟨t', rfl⟩ := Value.isInt_shape hv
        exact eqBool_str_int (by simpa using h)
      | inr y =>
        refine (strKind pw w).eqBool hu hv ?_
        have e : decide ((Sum.inr x : Lit) = Sum.inr y) = decide (x = y) := by simp
        rw [← e]; exact h
  «strs» := fun k x t v h => by
    cases k with
    | inl i => exact (intKind pw w).«strs» i x t v h
    | inr y => exact (strKind pw w).«strs» y x t v h
end
section
noncomputable abbrev PM := Addr → Option Obj
inductive SV where
  | none | bool (b : Bool) | int (i : Int) | str (s : Str)
  | tup (l : List SV) | lst (l : List SV) | rng (a b c : Int)
  | ref (a : Addr) | val (v : Value) | junk | obj (o : Obj)
mutual
noncomputable def RepV (g : PM) : SV → Value → Prop
  | .none, v => v = .none
  | .bool b, v => v = .bool b
  | .int i, v => ∃ t, v = .int i t
  | .str x, v => ∃ t, v = .str x t
  | .tup l, v => ∃ a o vs n, v = .ref a ∧ g a = some o ∧ o.cls = .type "tuple" ∧ o.data = .seq (List.toArray vs) n ∧ RepVs g l vs
  | .lst l, v => ∃ a o vs n, v = .ref a ∧ g a = some o ∧ o.cls = .type "list" ∧ o.data = .seq (List.toArray vs) n ∧ RepVs g l vs
  | .rng a b c, v => ∃ r t₁ t₂ t₃, v = .ref r ∧ g r = some { cls := .type "range", dict := none, data := .fields #[.int a t₁, .int b t₂, .int c t₃], slots := #[] }
  | .ref a, v => v = .ref a
  | .val w, v => v = w
  | .junk, _ => True
  | .obj o, v => ∃ a, v = .ref a ∧ g a = some o
noncomputable def RepVs (g : PM) : List SV → List Value → Prop
  | [], vs => vs = []
  | x :: r, vs => ∃ v vr, vs = v :: vr ∧ RepV g x v ∧ RepVs g r vr
end
noncomputable def PM.le (g g' : PM) : Prop := ∀ a o, g a = some o → g' a = some o
theorem PM.le.refl (g : PM) : g.le g := fun _ _ e => e
theorem PM.le.trans {a b c : PM} (x : a.le b) (y : b.le c) : a.le c := fun p o e => y p o (x p o e)
mutual
theorem RepV.mono {g g' : PM} (h : g.le g') : ∀ {sv : SV} {v : Value}, RepV g sv v → RepV g' sv v
  | .none, v, e => e
  | .bool _, v, e => e
  | .int _, v, e => e
  | .str _, v, e => e
  | .tup l, v, ⟨a, o, vs, n, h1, h2, h3, h4, h5⟩ => ⟨a, o, vs, n, h1, h _ _ h2, h3, h4, RepVs.mono h h5⟩
  | .lst l, v, ⟨a, o, vs, n, h1, h2, h3, h4, h5⟩ => ⟨a, o, vs, n, h1, h _ _ h2, h3, h4, RepVs.mono h h5⟩
  | .rng .., v, ⟨r, t1, t2, t3, h1, h2⟩ => ⟨r, t1, t2, t3, h1, h _ _ h2⟩
  | .ref _, v, e => e
  | .val _, v, e => e
  | .junk, v, e => e
  | .obj _, v, ⟨a, h1, h2⟩ => ⟨a, h1, h _ _ h2⟩
theorem RepVs.mono {g g' : PM} (h : g.le g') : ∀ {l : List SV} {vs : List Value}, RepVs g l vs → RepVs g' l vs
  | [], vs, e => e
  | x :: r, vs, ⟨v, vr, e, h1, h2⟩ => ⟨v, vr, e, RepV.mono h h1, RepVs.mono h h2⟩
end
theorem RepVs.length {g : PM} : ∀ {l : List SV} {vs : List Value}, RepVs g l vs → vs.length = l.length
  | [], vs, e => by cases e; rfl
  | x :: r, vs, ⟨v, vr, e, h1, h2⟩ => by subst e; simp [RepVs.length h2]
theorem RepVs.get {g : PM} : ∀ {l : List SV} {vs : List Value}, RepVs g l vs → ∀ {i : Nat} {x : SV}, l[i]? = some x → ∃ v, vs[i]? = some v ∧ RepV g x v
  | [], vs, e, i, x, h => by simp at h
  | y :: r, vs, ⟨v, vr, e, h1, h2⟩, 0, x, h => by subst e; cases h; exact ⟨v, rfl, h1⟩
  | y :: r, vs, ⟨v, vr, e, h1, h2⟩, i + 1, x, h => by subst e; exact RepVs.get h2 (i := i) h
theorem RepVs.snoc {g : PM} : ∀ {l : List SV} {vs : List Value}, RepVs g l vs → ∀ {x : SV} {v : Value}, RepV g x v → RepVs g (l ++ [x]) (vs ++ [v])
  | [], vs, e, x, v, h => by cases e; exact ⟨v, [], rfl, h, rfl⟩
  | y :: r, vs, ⟨w, vr, e, h1, h2⟩, x, v, h => by subst e; exact ⟨w, vr ++ [v], rfl, h1, RepVs.snoc h2 h⟩
theorem RepVs.append {g : PM} : ∀ {l : List SV} {vs : List Value}, RepVs g l vs → ∀ {l' : List SV} {vs' : List Value}, RepVs g l' vs' → RepVs g (l ++ l') (vs ++ vs')
  | [], vs, e, l', vs', h => by cases e; exact h
  | y :: r, vs, ⟨w, vr, e, h1, h2⟩, l', vs', h => by subst e; exact ⟨w, vr ++ vs', rfl, h1, RepVs.append h2 h⟩
theorem RepVs.ofInts {g : PM} {vs : List Value} {ns : List Int} (h : IntsAre vs ns) : RepVs g (ns.map .int) vs := by
  induction h with
  | nil => exact rfl
  | cons _ _ _ ih => exact ⟨_, _, rfl, ⟨_, rfl⟩, ih⟩
inductive AObj where
  | list (l : List SV)
  | nest (as : List Addr) (ls : List (List SV))
  | sdict (kvs : List (Str × SV))
  | idict (ks : List Int)
  | tdict (ks : List (List Lit))
  | inst (C d : Addr) (fs : List (Str × SV))
noncomputable abbrev AHeap := List (Addr × AObj)
noncomputable def fpO (a : Addr) : AObj → List Addr
  | .list _ => [a]
  | .nest as _ => a :: as
  | .sdict _ => [a]
  | .idict _ => [a]
  | .tdict _ => [a]
  | .inst _ d _ => [a, d]
noncomputable def fpE (e : Addr × AObj) : List Addr := fpO e.1 e.2
noncomputable def fpH (H : AHeap) : List Addr := H.flatMap fpE
noncomputable def NsN (h : Heap) (a : Addr) (m : Str → Option Value) (k : Nat) : Prop := ∃ o es ep, h.get? a = some o ∧ o.data = .dict es ep ∧ StrKeys es ∧ (∀ name, nsFind es name = m name) ∧ es.size ≤ k
theorem NsN.ns {h : Heap} {a : Addr} {m : Str → Option Value} {k : Nat} (x : NsN h a m k) : h.Ns a m := let ⟨o, es, ep, a, b, c, d, _⟩ := x; ⟨o, es, ep, a, b, c, d⟩
theorem NsN.keep {h h' : Heap} {a : Addr} {m : Str → Option Value} {k : Nat} (x : NsN h a m k) (e : ∀ o, h.get? a = some o → h'.get? a = some o) : NsN h' a m k := let ⟨o, es, ep, a, b⟩ := x; ⟨o, es, ep, e o a, b⟩
theorem nsSet_N {M : Model} {A : Around} {E : Value → Shared → Prop} {s : Shared} {a : Addr} {m : Str → Option Value} {k : Nat} {name : Str} {v : Value} {Q : Unit → Shared → Prop} (hn : NsN s.heap a m k)
    (hQ : ∀ h', NsN h' a (fun x => if x = name then some v else m x) (if m name = none then k + 1 else k) → Heap.SameBut a s.heap h' → Q () { s with heap := h', toks := s.toks + 1 }) : wpAny M A (nsSet a name v) Q E s := fun Γ p _ => by
  obtain ⟨o, es, ep, ho, hd, hk, hm, hz⟩ := hn
  simp only [nsSet, strHash, Sem.wp_bind', Sem.wp_cmd_ask, Sem.wp_pure', Sem.wp_cmd_mkText]
  rw [Sem.wp_loadPart_of M Γ _ p { s with toks := s.toks + 1 } (o := o) _ ho]
  have hany : es.any (·.refKey) = false := by
    rw [Array.any_eq_false']; intro e he; obtain ⟨n, t, h⟩ := hk e he; simp [DictEntry.refKey, h]
  simp only [hd, aRefKeyMayBeTheName_eq, aRefKeyMayBeTheNameByArray, hany, Bool.and_false, Bool.false_eq_true, if_false, Sem.wp_cmd_updatePart]
  refine ⟨by rw [ho]; rfl, hQ _ ?_ (Heap.SameBut.update ..)⟩
  obtain ⟨c, d, dt, sl⟩ := o
  subst hd
  cases hi : es.findIdx? (·.key.isStr name) with
  | some i =>
    have hsome : m name ≠ none := by
      rw [← hm name]
      intro hnn
      unfold nsFind findBy at hnn
      have h1 : es.find? (fun e => e.key.isStr name) = none := by simpa using hnn
      have h2 : es.findIdx? (·.key.isStr name) = none := by rw [Array.findIdx?_eq_none_iff]; intro x hx; simpa using Array.find?_eq_none.mp h1 x hx
      rw [hi] at h2; cases h2
    rw [if_neg hsome]
    refine ⟨_, _, ep, Heap.get?_update_self _ ho (by simp only [Obj.putName_eq, Obj.putNameByArray, hi]; rfl), by simp only [Obj.putName_eq, Obj.putNameByArray, hi]; rfl, hk.modify _ _, fun x => ?_, by simpa using hz⟩
    show _ = if x = name then some v else m x
    rw [← hm]; exact findBy_modify (fun n v => v.isStr n) Value.isStr_inj es name x v i hi
  | none =>
    have hnone : m name = none := by
      rw [← hm name]
      unfold nsFind findBy
      have h2 : es.find? (fun e => e.key.isStr name) = none := by rw [Array.find?_eq_none]; intro x hx; simpa using (Array.findIdx?_eq_none_iff.mp hi) x hx
      simpa using h2
    rw [if_pos hnone]
    refine ⟨_, _, ep + 1, Heap.get?_update_self _ ho (by simp only [Obj.putName_eq, Obj.putNameByArray, hi]; rfl), by simp only [Obj.putName_eq, Obj.putNameByArray, hi]; rfl, hk.push _ _ _ _, fun x => ?_, by simp; exact om1 hz⟩
    show _ = if x = name then some v else m x
    rw [← hm]
    exact findBy_push (fun n v => v.isStr n) es name x _ _ v (fun y => by
      show (name == y) = decide (y = name)
      by_cases h : y = name
      · subst h; simp
      · have : ¬ name = y := fun e => h e.symm
        simp [h, this]) hi
noncomputable def LstAt (g : PM) (h : Heap) (a : Addr) (l : List SV) : Prop := ∃ vs, h.PlainList a (List.toArray vs) ∧ RepVs g l vs
noncomputable def RepKs (g : PM) : List (Str × SV) → List (Str × Value) → Prop
  | [], vs => vs = []
  | (k, x) :: r, vs => ∃ v vr, vs = (k, v) :: vr ∧ RepV g x v ∧ RepKs g r vr
noncomputable def IsLitTup (w : World) (g : PM) (ks : List Lit) (a : Addr) : Prop := ∃ o items n, g a = some o ∧ o.cls = .type "tuple" ∧ o.data = .seq items n ∧ ItemsAre (litKind w) ks items.toList
noncomputable def RepO (w : World) (g : PM) (h : Heap) (a : Addr) : AObj → Prop
  | .list l => LstAt g h a l
  | .nest as ls => h.IsList a (List.toArray (as.map Value.ref)) ∧ as.length = ls.length ∧ ∀ (i : Nat) (b : Addr) (l : List SV), as[i]? = some b → ls[i]? = some l → LstAt g h b l
  | .sdict kvs => ∃ vks, h.DictOf (strKind pw w) a vks ∧ RepKs g kvs vks
  | .idict ks => ∃ vks : List (Int × Value), h.DictOf (intKind pw w) a vks ∧ vks.map (·.1) = ks
  | .tdict ks => ∃ o es n xs, h.get? a = some o ∧ o.ExactDict ∧ o.data = .dict es n ∧ Array.toList es = List.map (entryOfKey (tupleKind (litKind w))) xs ∧ xs.map (·.1) = ks ∧ ks.Nodup ∧ ∀ x ∈ xs, IsLitTup w g x.1 x.2.1
  | .inst C d fs => ∃ m, h.get? a = some (instObj C d) ∧ NsN h d m fs.length ∧ (∀ p ∈ fs, ∃ v, m p.1 = some v ∧ RepV g p.2 v) ∧ ∀ x, x ∉ fs.map (·.1) → m x = none
structure St where
  vals : List SV
  heap : AHeap
structure Cx where
  w : World
  A : Around
  env : Env
  ns : List Str
  st : List Str
  gl : List (Str × Value)
  own : List (Str × Addr)
  lo : Nat
  pr : PM
  s₀ : Shared
  hb : Heap
  lv : Nat
  O : List Addr
noncomputable def Cx.Holds (c : Cx) (m cm : Str → Option Value) (x : Str) (v : Value) : Prop :=
  (c.env.kindOf x = some .local ∧ m x = some v) ∨
  (c.env.kindOf x = some .cell ∧ (∃ a, c.own.lookup x = some a ∧ c.env.cells.lookup x = some a) ∧ cm x = some v) ∨
  (c.env.kindOf x = some .cell ∧ ∃ a o, c.env.cells.lookup x = some a ∧ c.pr a = some o ∧ o.data = .cell (some v)) ∨
  (c.env.kindOf x = some .free ∧ (x == ("__classdict__" : Str)) = false ∧ ∃ a o, c.env.cells.lookup x = some a ∧ c.pr a = some o ∧ o.data = .cell (some v))
noncomputable def GlobIs (w : World) (x : Str) (v : Value) : Prop :=
  nsIn (KK w.params) mainGlobals x = some (some v) ∨ (nsIn (KK w.params) mainGlobals x = some none ∧ bootBuiltins x = some v ∧ x ≠ "__name__")
structure Roomy (lv : Nat) (A : Around) : Prop where
  hh : A.handled = none
  dp : A.depth + 10 * lv < 900
  un : A.units + 100 * lv < 9000
structure Cx.Ok (c : Cx) : Prop where
  kind : c.env.scope.kind = .function
  glob : c.env.globals = mainGlobals
  blt : c.env.builtins = builtinsNs
  W : World0 c.w c.hb
  base : ∀ b o, c.hb.get? b = some o → c.pr b = some o
  dbg : ∀ x ∈ c.ns, (x == ("__debug__" : Str)) = false
  stok : ∀ x ∈ c.st, c.env.kindOf x = some .local ∨ (c.env.kindOf x = some .cell ∧ ∃ a, c.own.lookup x = some a ∧ c.env.cells.lookup x = some a)
  glok : ∀ p ∈ c.gl, c.env.kindOf p.1 = some .globalImplicit ∧ (p.1 == ("__debug__" : Str)) = false ∧ GlobIs c.w p.1 p.2
  nd : c.ns.Nodup
  room : Roomy c.lv c.A
  locF : c.pr c.env.locals = none
  locG : c.lo ≤ c.env.locals
  ownF : ∀ x a, c.own.lookup x = some a → c.pr a = none ∧ c.lo ≤ a ∧ a ≠ c.env.locals
  ownA : c.own.Pairwise fun x y => x.2 ≠ y.2
  inter : interactive c.env = false
  clo : ∀ x a, c.env.cells.lookup x = some a → c.own.lookup x = some a ∨ ∃ o, c.pr a = some o
structure Rel (c : Cx) (g : PM) (σ : St) (s : Shared) : Prop where
  ok : c.Ok
  sh : ∃ h tk, s = { c.s₀ with heap := h, toks := tk }
  pr : ∀ a o, c.pr a = some o → s.heap.get? a = some o
  gh : ∀ a o, g a = some o → s.heap.get? a = some o
  nodup : (fpH σ.heap).Nodup
  fpG : ∀ a ∈ fpH σ.heap, g a = none
  fpP : ∀ a ∈ fpH σ.heap, c.pr a = none
  fpL : ∀ a ∈ fpH σ.heap, a ≠ c.env.locals
  fpLo : ∀ a ∈ fpH σ.heap, a ∈ c.O ∨ c.lo ≤ a
  fpC : ∀ a ∈ fpH σ.heap, ∀ x b, c.own.lookup x = some b → a ≠ b
  objs : ∀ e ∈ σ.heap, RepO c.w g s.heap e.1 e.2
  gL : g c.env.locals = none
  gC : ∀ x a, c.own.lookup x = some a → g a = none
  fr : ∃ m cm, s.heap.Ns c.env.locals m ∧ (∀ x a, c.own.lookup x = some a → s.heap.IsCell a (cm x)) ∧ ∀ p ∈ c.ns.zip σ.vals, p.2 = .junk ∨ ∃ v, c.Holds m cm p.1 v ∧ RepV g p.2 v
noncomputable def GX (lo : Nat) (P : PM) (g g' : PM) : Prop := g.le g' ∧ ∀ a, g a = none → g' a ≠ none → lo ≤ a ∧ P a = none
theorem GX.refl (lo : Nat) (P : PM) (g : PM) : GX lo P g g := ⟨.refl g, fun a h h' => absurd h h'⟩
theorem GX.weak {lo : Nat} {P P' g g' : PM} (h : P.le P') (x : GX lo P' g g') : GX lo P g g' := ⟨x.1, fun a e e' => ⟨(x.2 a e e').1, by
  cases q : P a with
  | none => rfl
  | some o => have := h a o q; rw [(x.2 a e e').2] at this; cases this⟩⟩
theorem GX.trans {lo : Nat} {P : PM} {a b c : PM} (x : GX lo P a b) (y : GX lo P b c) : GX lo P a c := ⟨x.1.trans y.1, fun p h h' => by
  by_cases q : b p = none
  · exact y.2 p q h'
  · exact x.2 p h q⟩
noncomputable def EvV (c : Cx) (xs : List SV) (t : List Value → Sem Value) (σ : St) (Q : SV → St → Prop) : Prop :=
  ∀ g s vs, Rel c g σ s → RepVs g xs vs → wpAny (model pw c.w) c.A (t vs) (fun v s' => ∃ g' σ' sv, GX c.lo c.pr g g' ∧ Rel c g' σ' s' ∧ RepV g' sv v ∧ Q sv σ') (fun _ _ => False) s
noncomputable def EvB (c : Cx) (xs : List SV) (t : List Value → Sem Bool) (σ : St) (Q : Bool → St → Prop) : Prop :=
  ∀ g s vs, Rel c g σ s → RepVs g xs vs → wpAny (model pw c.w) c.A (t vs) (fun b s' => ∃ g' σ', GX c.lo c.pr g g' ∧ Rel c g' σ' s' ∧ Q b σ') (fun _ _ => False) s
noncomputable def EvU (c : Cx) (xs : List SV) (t : List Value → Sem Unit) (σ : St) (Q : St → Prop) : Prop :=
  ∀ g s vs, Rel c g σ s → RepVs g xs vs → wpAny (model pw c.w) c.A (t vs) (fun _ s' => ∃ g' σ', GX c.lo c.pr g g' ∧ Rel c g' σ' s' ∧ Q σ') (fun _ _ => False) s
noncomputable def EvL (c : Cx) (xs : List SV) (t : List Value → Sem (List Value)) (σ : St) (Q : List SV → St → Prop) : Prop :=
  ∀ g s vs, Rel c g σ s → RepVs g xs vs → wpAny (model pw c.w) c.A (t vs) (fun ws s' => ∃ g' σ' svs, GX c.lo c.pr g g' ∧ Rel c g' σ' s' ∧ RepVs g' svs ws ∧ Q svs σ') (fun _ _ => False) s
inductive Fl where
  | next | brk | cont | ret (v : SV)
noncomputable def RepF (g : PM) : Fl → Flow → Prop
  | .next, f => f = .next
  | .brk, f => f = .brk
  | .cont, f => f = .cont
  | .ret x, f => ∃ v, f = .ret v ∧ RepV g x v
noncomputable def EvS (c : Cx) (t : Sem Flow) (σ : St) (Q : Fl → St → Prop) : Prop :=
  ∀ g s, Rel c g σ s → wpAny (model pw c.w) c.A t (fun f s' => ∃ g' σ' fl, GX c.lo c.pr g g' ∧ Rel c g' σ' s' ∧ RepF g' fl f ∧ Q fl σ') (fun _ _ => False) s
noncomputable abbrev EE (c : Cx) (e : Expr) := EvV c [] (fun _ => eval e c.env)
noncomputable abbrev ET (c : Cx) (e : Expr) := EvB c [] (fun _ => isTrue e c.env (eval e c.env))
noncomputable abbrev SS (c : Cx) (st : Stmt) := EvS c (exec st c.env)
noncomputable abbrev SB (c : Cx) (b : List Stmt) := EvS c (execs b c.env)
noncomputable def Needs (c : Cx) (g : PM) (σ : St) (a : Addr) : Prop := (∃ o, c.pr a = some o) ∨ (∃ o, g a = some o) ∨ a ∈ fpH σ.heap ∨ a = c.env.locals ∨ ∃ x, c.own.lookup x = some a
theorem LstAt.keep {g : PM} {h h' : Heap} {a : Addr} {l : List SV} (x : LstAt g h a l) (k : ∀ o, h.get? a = some o → h'.get? a = some o) : LstAt g h' a l :=
  let ⟨vs, p, q⟩ := x; ⟨vs, p.at k, q⟩
theorem LstAt.mono {g g' : PM} {h : Heap} {a : Addr} {l : List SV} (x : LstAt g h a l) (k : g.le g') : LstAt g' h a l := let ⟨vs, p, q⟩ := x; ⟨vs, p, q.mono k⟩
theorem RepKs.mono {g g' : PM} (k : g.le g') : ∀ {l : List (Str × SV)} {vs : List (Str × Value)}, RepKs g l vs → RepKs g' l vs
  | [], _, e => e
  | (_, _) :: _, _, ⟨v, vr, h, a, r⟩ => ⟨v, vr, h, a.mono k, r.mono k⟩
theorem IsLitTup.mono {w : World} {g g' : PM} (k : g.le g') {ks : List Lit} {a : Addr} : IsLitTup w g ks a → IsLitTup w g' ks a := fun ⟨o, vs, n, h, r⟩ => ⟨o, vs, n, k _ _ h, r⟩
theorem RepO.mono {w : World} {g g' : PM} {h : Heap} {a : Addr} (k : g.le g') : ∀ {o : AObj}, RepO w g h a o → RepO w g' h a o
  | .list _, x => LstAt.mono x k
  | .nest .., ⟨x, y, z⟩ => ⟨x, y, fun i b l p q => (z i b l p q).mono k⟩
  | .sdict _, ⟨vks, p, q⟩ => ⟨vks, p, q.mono k⟩
  | .idict _, x => x
  | .tdict _, ⟨o, es, n, xs, p, q, r, u, v, nd, f⟩ => ⟨o, es, n, xs, p, q, r, u, v, nd, fun x hx => (f x hx).mono k⟩
  | .inst .., ⟨m, p, p', q, z⟩ => ⟨m, p, p', fun x hx => let ⟨v, e, r⟩ := q x hx; ⟨v, e, r.mono k⟩, z⟩
theorem DictOf_at {K : Type} [DecidableEq K] {prog : Program} {w : World} {knd : KeyKind prog w K} {h h' : Heap} {a : Addr} {kvs : List (K × Value)} (x : h.DictOf knd a kvs) (k : ∀ o, h.get? a = some o → h'.get? a = some o) : h'.DictOf knd a kvs :=
  let ⟨o, es, ep, ho, r⟩ := x; ⟨o, es, ep, k o ho, r⟩
theorem RepO.keep {w : World} {g : PM} {h h' : Heap} {a : Addr} : ∀ {o : AObj}, RepO w g h a o → (∀ b ∈ fpO a o, ∀ o, h.get? b = some o → h'.get? b = some o) → RepO w g h' a o
  | .list _, x, k => LstAt.keep x (k a (by simp [fpO]))
  | .nest as ls, ⟨x, y, z⟩, k => ⟨let ⟨o, ho, r⟩ := x; ⟨o, k a (by simp [fpO]) o ho, r⟩, y, fun i b l p q => (z i b l p q).keep (k b (by simp only [fpO, List.mem_cons]; exact .inr (List.mem_of_getElem? p)))⟩
  | .sdict _, ⟨vks, p, q⟩, k => ⟨vks, DictOf_at p (k a (by simp [fpO])), q⟩
  | .idict _, ⟨vks, p, q⟩, k => ⟨vks, DictOf_at p (k a (by simp [fpO])), q⟩
  | .tdict _, ⟨o, es, n, xs, p, r⟩, k => ⟨o, es, n, xs, k a (by simp [fpO]) _ p, r⟩
  | .inst _ d _, ⟨m, p, p', r⟩, k => ⟨m, k a (by simp [fpO]) _ p, NsN.keep p' (k d (by simp [fpO])), r⟩
theorem RepO.lt {w : World} {g : PM} {h : Heap} {a : Addr} : ∀ {o : AObj}, RepO w g h a o → ∀ {b : Addr}, b ∈ fpO a o → b < h.objs.size
  | .list _, ⟨vs, ⟨_, ho⟩, _⟩, b, hb => by simp only [fpO, List.mem_singleton] at hb; exact hb ▸ Heap.lt_size ho
  | .nest as ls, ⟨⟨o, ho, _⟩, hl, z⟩, b, hb => by
    simp only [fpO, List.mem_cons] at hb
    rcases hb with rfl | hb
    · exact Heap.lt_size ho
    · obtain ⟨i, hi, rfl⟩ := List.getElem_of_mem hb
      have hi' : i < ls.length := hl ▸ hi
      obtain ⟨vs, ⟨_, ho⟩, _⟩ := z i as[i] ls[i] (by simp [hi]) (by simp [hi'])
      exact Heap.lt_size ho
  | .sdict _, ⟨_, ⟨o, _, _, ho, _⟩, _⟩, b, hb => by simp only [fpO, List.mem_singleton] at hb; exact hb ▸ Heap.lt_size ho
  | .idict _, ⟨_, ⟨o, _, _, ho, _⟩, _⟩, b, hb => by simp only [fpO, List.mem_singleton] at hb; exact hb ▸ Heap.lt_size ho
  | .tdict _, ⟨o, _, _, _, ho, _⟩, b, hb => by simp only [fpO, List.mem_singleton] at hb; exact hb ▸ Heap.lt_size ho
  | .inst _ d _, ⟨m, ho, hd, _⟩, b, hb => by
    simp only [fpO, List.mem_cons, List.not_mem_nil, or_false] at hb
    rcases hb with rfl | rfl
    · exact Heap.lt_size ho
    · exact hd.ns.lt
theorem mem_fpH {H : AHeap} {e : Addr × AObj} (he : e ∈ H) {b : Addr} (hb : b ∈ fpO e.1 e.2) : b ∈ fpH H := List.mem_flatMap.mpr ⟨e, he, hb⟩
theorem Rel.heap {c : Cx} {g : PM} {σ : St} {s : Shared} (R : Rel c g σ s) {h' : Heap} {tk : Nat} (k : ∀ a, Needs c g σ a → ∀ o, s.heap.get? a = some o → h'.get? a = some o) :
    Rel c g σ { s with heap := h', toks := tk } where
  ok := R.ok
  sh := by obtain ⟨h, t, rfl⟩ := R.sh; exact ⟨h', tk, rfl⟩
  pr := fun a o e => k a (.inl ⟨o, e⟩) o (R.pr a o e)
  gh := fun a o e => k a (.inr (.inl ⟨o, e⟩)) o (R.gh a o e)
  nodup := R.nodup
  fpG := R.fpG
  fpP := R.fpP
  fpL := R.fpL
  fpLo := R.fpLo
  fpC := R.fpC
  objs := fun e he => (R.objs e he).keep fun b hb o ho => k b (.inr (.inr (.inl (mem_fpH he hb)))) o ho
  gL := R.gL
  gC := R.gC
  fr := by
    obtain ⟨m, cm, n, cl, vs⟩ := R.fr
    refine ⟨m, cm, ?_, fun x a hm => ?_, vs⟩
    · obtain ⟨o, es, ep, ho, r⟩ := n
      exact ⟨o, es, ep, k _ (.inr (.inr (.inr (.inl rfl)))) o ho, r⟩
    · obtain ⟨o, ho, r⟩ := cl x a hm
      exact ⟨o, k _ (.inr (.inr (.inr (.inr ⟨x, hm⟩)))) o ho, r⟩
theorem Rel.ext {c : Cx} {g : PM} {σ : St} {s : Shared} (R : Rel c g σ s) {h' : Heap} {tk : Nat} (k : ∀ a o, s.heap.get? a = some o → h'.get? a = some o) : Rel c g σ { s with heap := h', toks := tk } :=
  R.heap fun a _ o e => k a o e
theorem Rel.tok {c : Cx} {g : PM} {σ : St} {s : Shared} (R : Rel c g σ s) (tk : Nat) : Rel c g σ { s with toks := tk } := R.ext (h' := s.heap) fun _ _ e => e
theorem Rel.needs_lt {c : Cx} {g : PM} {σ : St} {s : Shared} (R : Rel c g σ s) {a : Addr} (n : Needs c g σ a) : a < s.heap.objs.size := by
  rcases n with ⟨o, e⟩ | ⟨o, e⟩ | e | e | ⟨x, e⟩
  · exact Heap.lt_size (R.pr a o e)
  · exact Heap.lt_size (R.gh a o e)
  · obtain ⟨p, hp, hb⟩ := List.mem_flatMap.mp e
    exact (R.objs p hp).lt hb
  · obtain ⟨m, cm, n, _⟩ := R.fr; exact e ▸ n.lt
  · obtain ⟨m, cm, n, cl, _⟩ := R.fr; exact (cl x a e).lt
theorem Rel.lo {c : Cx} {g : PM} {σ : St} {s : Shared} (R : Rel c g σ s) : c.lo ≤ s.heap.objs.size := by
  obtain ⟨m, cm, n, _⟩ := R.fr
  exact Nat.le_trans R.ok.locG (Nat.le_of_lt n.lt)
theorem Rel.frozen2 {c : Cx} {g : PM} {σ : St} {s : Shared} (R : Rel c g σ s) {a : Addr} {o : Obj} (ha : c.lo ≤ a) (hn : ¬ Needs c g σ a) (ho : s.heap.get? a = some o) :
    ∃ g', GX c.lo c.pr g g' ∧ Rel c g' σ s ∧ g' a = some o ∧ ∀ b, b ≠ a → g' b = g b := by
  have gn : g a = none := by
    cases e : g a with
    | none => rfl
    | some o' => exact absurd (.inr (.inl ⟨o', e⟩)) hn
  refine ⟨fun b => if b = a then some o else g b, ⟨fun b o' e => ?_, fun b h h' => ?_⟩, ?_, by simp, fun b hb => by simp only [if_neg hb]⟩
  · by_cases q : b = a
    · subst q; rw [gn] at e; cases e
    · simp only [if_neg q]; exact e
  · by_cases q : b = a
    · refine q ▸ ⟨ha, ?_⟩
      cases e : c.pr a with
      | none => rfl
      | some o' => exact absurd (.inl ⟨o', e⟩) hn
    · simp only [if_neg q] at h'; exact absurd h h'
  · have le : g.le fun b => if b = a then some o else g b := fun b o' e => by
      by_cases q : b = a
      · subst q; rw [gn] at e; cases e
      · simp only [if_neg q]; exact e
    obtain ⟨m, cm, n, cl, vs⟩ := R.fr
    exact { ok := R.ok, sh := R.sh, pr := R.pr, nodup := R.nodup, fpP := R.fpP, fpL := R.fpL, fpLo := R.fpLo, fpC := R.fpC
            gh := fun b o' e => by
              by_cases q : b = a
              · subst q; simp only [if_true] at e; cases e; exact ho
              · simp only [if_neg q] at e; exact R.gh b o' e
            fpG := fun b hb => by
              have : b ≠ a := fun e => hn (.inr (.inr (.inl (e ▸ hb))))
              simp only [if_neg this]; exact R.fpG b hb
            objs := fun e he => (R.objs e he).mono le
            gL := by
              have : c.env.locals ≠ a := fun e => hn (.inr (.inr (.inr (.inl e.symm))))
              simp only [if_neg this]; exact R.gL
            gC := fun x b hb => by
              have : b ≠ a := fun e => hn (.inr (.inr (.inr (.inr ⟨x, e ▸ hb⟩))))
              simp only [if_neg this]; exact R.gC x b hb
            fr := ⟨m, cm, n, cl, fun p hp => (vs p hp).imp id fun ⟨v, hv, r⟩ => ⟨v, hv, r.mono le⟩⟩ }
theorem Rel.frozen {c : Cx} {g : PM} {σ : St} {s : Shared} (R : Rel c g σ s) {a : Addr} {o : Obj} (ha : c.lo ≤ a) (hn : ¬ Needs c g σ a) (ho : s.heap.get? a = some o) :
    ∃ g', GX c.lo c.pr g g' ∧ Rel c g' σ s ∧ g' a = some o := by
  obtain ⟨g', x, y, z, _⟩ := R.frozen2 ha hn ho
  exact ⟨g', x, y, z⟩
theorem Rel.fresh {c : Cx} {g : PM} {σ : St} {s : Shared} (R : Rel c g σ s) : ¬ Needs c g σ s.heap.objs.size := fun n => Nat.lt_irrefl _ (R.needs_lt n)
theorem Rel.push {c : Cx} {g : PM} {σ : St} {s : Shared} (R : Rel c g σ s) {o : Obj} (hf : o.isFreed = false) :
    ∃ g', GX c.lo c.pr g g' ∧ Rel c g' σ { s with heap := s.heap.push o } ∧ g' s.heap.objs.size = some o := by
  have R' : Rel c g σ { s with heap := s.heap.push o } := R.ext (tk := s.toks) fun a o' e => Heap.get?_push_of_some _ e
  exact R'.frozen R.lo R.fresh (Heap.get?_push_size _ hf)
theorem Rel.adopt {c : Cx} {g : PM} {σ : St} {s : Shared} (R : Rel c g σ s) {a : Addr} {ob : AObj} (hn : ∀ b ∈ fpO a ob, ¬ Needs c g σ b) (hlo : ∀ b ∈ fpO a ob, c.lo ≤ b) (nd : (fpO a ob).Nodup) (hr : RepO c.w g s.heap a ob) :
    Rel c g { σ with heap := (a, ob) :: σ.heap } s where
  ok := R.ok
  sh := R.sh
  pr := R.pr
  gh := R.gh
  nodup := by
    show (fpO a ob ++ fpH σ.heap).Nodup
    refine List.nodup_append.mpr ⟨nd, R.nodup, fun x hx y hy e => hn x hx (.inr (.inr (.inl (e ▸ hy))))⟩
  fpG := fun b hb => by
    rcases List.mem_append.mp (show b ∈ fpO a ob ++ fpH σ.heap from hb) with h | h
    · cases e : g b with
      | none => rfl
      | some o => exact absurd (.inr (.inl ⟨o, e⟩)) (hn b h)
    · exact R.fpG b h
  fpP := fun b hb => by
    rcases List.mem_append.mp (show b ∈ fpO a ob ++ fpH σ.heap from hb) with h | h
    · cases e : c.pr b with
      | none => rfl
      | some o => exact absurd (.inl ⟨o, e⟩) (hn b h)
    · exact R.fpP b h
  fpL := fun b hb => by
    rcases List.mem_append.mp (show b ∈ fpO a ob ++ fpH σ.heap from hb) with h | h
    · exact fun e => hn b h (.inr (.inr (.inr (.inl e))))
    · exact R.fpL b h
  fpLo := fun b hb => by
    rcases List.mem_append.mp (show b ∈ fpO a ob ++ fpH σ.heap from hb) with h | h
    · exact .inr (hlo b h)
    · exact R.fpLo b h
  fpC := fun b hb x d hd => by
    rcases List.mem_append.mp (show b ∈ fpO a ob ++ fpH σ.heap from hb) with h | h
    · exact fun e => hn b h (.inr (.inr (.inr (.inr ⟨x, e ▸ hd⟩))))
    · exact R.fpC b h x d hd
  objs := fun e he => by
    rcases List.mem_cons.mp he with rfl | he
    · exact hr
    · exact R.objs e he
  gL := R.gL
  gC := R.gC
  fr := R.fr
end
section
section
variable {c : Cx} {σ : St}
theorem Rel.world {g : PM} {s : Shared} (R : Rel c g σ s) : World0 c.w s.heap := R.ok.W.keeps fun b o e => R.pr b o (R.ok.base b o e)
theorem EvV.mono {xs : List SV} {t : List Value → Sem Value} {Q Q' : SV → St → Prop} (h : EvV c xs t σ Q) (k : ∀ v σ', Q v σ' → Q' v σ') : EvV c xs t σ Q' := fun g s vs R r =>
  wpAny_mono (h g s vs R r) (fun v s' ⟨g', σ', sv, a, b, d, e⟩ => ⟨g', σ', sv, a, b, d, k _ _ e⟩) fun _ _ f => f
theorem EvB.mono {xs : List SV} {t : List Value → Sem Bool} {Q Q' : Bool → St → Prop} (h : EvB c xs t σ Q) (k : ∀ v σ', Q v σ' → Q' v σ') : EvB c xs t σ Q' := fun g s vs R r =>
  wpAny_mono (h g s vs R r) (fun v s' ⟨g', σ', a, b, e⟩ => ⟨g', σ', a, b, k _ _ e⟩) fun _ _ f => f
theorem EvS.mono {t : Sem Flow} {Q Q' : Fl → St → Prop} (h : EvS c t σ Q) (k : ∀ v σ', Q v σ' → Q' v σ') : EvS c t σ Q' := fun g s R =>
  wpAny_mono (h g s R) (fun v s' ⟨g', σ', fl, a, b, d, e⟩ => ⟨g', σ', fl, a, b, d, k _ _ e⟩) fun _ _ f => f
theorem done1 {g : PM} {s : Shared} {v : Value} {sv : SV} {Q : SV → St → Prop} (R : Rel c g σ s) (r : RepV g sv v) (q : Q sv σ) :
    ∃ g' σ' sv, GX c.lo c.pr g g' ∧ Rel c g' σ' s ∧ RepV g' sv v ∧ Q sv σ' := ⟨g, σ, sv, .refl _ _ _, R, r, q⟩
theorem stage {g : PM} {s : Shared} {t : Sem Value} {xs : List SV} {vs : List Value} {Q : SV → St → Prop} {P : Value → Shared → Prop} (R : Rel c g σ s) (rs : RepVs g xs vs) (h : EvV c [] (fun _ => t) σ Q)
    (k : ∀ g' σ' s' sv v, GX c.lo c.pr g g' → Rel c g' σ' s' → RepVs g' (sv :: xs) (v :: vs) → Q sv σ' → P v s') : wpAny (model pw c.w) c.A t P (fun _ _ => False) s :=
  wpAny_mono (h g s [] R rfl) (fun v s' ⟨g', σ', sv, gx, R', r, q⟩ => k g' σ' s' sv v gx R' ⟨v, vs, rfl, r, rs.mono gx.1⟩ q) fun _ _ f => f
theorem stageL {g : PM} {s : Shared} {t : Sem (List Value)} {xs : List SV} {vs : List Value} {Q : List SV → St → Prop} {P : List Value → Shared → Prop} (R : Rel c g σ s) (rs : RepVs g xs vs) (h : EvL c [] (fun _ => t) σ Q)
    (k : ∀ g' σ' s' svs ws, GX c.lo c.pr g g' → Rel c g' σ' s' → RepVs g' svs ws → RepVs g' xs vs → Q svs σ' → P ws s') : wpAny (model pw c.w) c.A t P (fun _ _ => False) s :=
  wpAny_mono (h g s [] R rfl) (fun v s' ⟨g', σ', sv, gx, R', r, q⟩ => k g' σ' s' sv v gx R' r (rs.mono gx.1) q) fun _ _ f => f
theorem stageB {g : PM} {s : Shared} {t : Sem Bool} {xs : List SV} {vs : List Value} {Q : Bool → St → Prop} {P : Bool → Shared → Prop} (R : Rel c g σ s) (rs : RepVs g xs vs) (h : EvB c [] (fun _ => t) σ Q)
    (k : ∀ g' σ' s' b, GX c.lo c.pr g g' → Rel c g' σ' s' → RepVs g' xs vs → Q b σ' → P b s') : wpAny (model pw c.w) c.A t P (fun _ _ => False) s :=
  wpAny_mono (h g s [] R rfl) (fun v s' ⟨g', σ', gx, R', q⟩ => k g' σ' s' v gx R' (rs.mono gx.1) q) fun _ _ f => f
theorem lift {xs : List SV} {t : List Value → Sem Value} {g₀ g : PM} {s : Shared} {vs : List Value} {Q : SV → St → Prop} (gx : GX c.lo c.pr g₀ g) (h : EvV c xs t σ Q) (R : Rel c g σ s) (rs : RepVs g xs vs) :
    wpAny (model pw c.w) c.A (t vs) (fun v s' => ∃ g' σ' sv, GX c.lo c.pr g₀ g' ∧ Rel c g' σ' s' ∧ RepV g' sv v ∧ Q sv σ') (fun _ _ => False) s :=
  wpAny_mono (h g s vs R rs) (fun v s' ⟨g', σ', sv, a, b, d, e⟩ => ⟨g', σ', sv, gx.trans a, b, d, e⟩) fun _ _ f => f
theorem liftB {xs : List SV} {t : List Value → Sem Bool} {g₀ g : PM} {s : Shared} {vs : List Value} {Q : Bool → St → Prop} (gx : GX c.lo c.pr g₀ g) (h : EvB c xs t σ Q) (R : Rel c g σ s) (rs : RepVs g xs vs) :
    wpAny (model pw c.w) c.A (t vs) (fun b s' => ∃ g' σ', GX c.lo c.pr g₀ g' ∧ Rel c g' σ' s' ∧ Q b σ') (fun _ _ => False) s :=
  wpAny_mono (h g s vs R rs) (fun v s' ⟨g', σ', a, b, e⟩ => ⟨g', σ', gx.trans a, b, e⟩) fun _ _ f => f
theorem liftS {t : Sem Flow} {g₀ g : PM} {s : Shared} {Q : Fl → St → Prop} (gx : GX c.lo c.pr g₀ g) (h : EvS c t σ Q) (R : Rel c g σ s) :
    wpAny (model pw c.w) c.A t (fun f s' => ∃ g' σ' fl, GX c.lo c.pr g₀ g' ∧ Rel c g' σ' s' ∧ RepF g' fl f ∧ Q fl σ') (fun _ _ => False) s :=
  wpAny_mono (h g s R) (fun v s' ⟨g', σ', fl, a, b, d, e⟩ => ⟨g', σ', fl, gx.trans a, b, d, e⟩) fun _ _ f => f
theorem liftU {xs : List SV} {t : List Value → Sem Unit} {g₀ g : PM} {s : Shared} {vs : List Value} {Q : St → Prop} (gx : GX c.lo c.pr g₀ g) (h : EvU c xs t σ Q) (R : Rel c g σ s) (rs : RepVs g xs vs) :
    wpAny (model pw c.w) c.A (t vs) (fun _ s' => ∃ g' σ', GX c.lo c.pr g₀ g' ∧ Rel c g' σ' s' ∧ Q σ') (fun _ _ => False) s :=
  wpAny_mono (h g s vs R rs) (fun v s' ⟨g', σ', a, b, e⟩ => ⟨g', σ', gx.trans a, b, e⟩) fun _ _ f => f
theorem get_here {x : Str} {ns : List Str} {v : SV} {vs : List SV} : (x, v) ∈ (x :: ns).zip (v :: vs) := List.mem_cons_self
theorem get_next {x y : Str} {ns : List Str} {v u : SV} {vs : List SV} (h : (x, v) ∈ ns.zip vs) : (x, v) ∈ (y :: ns).zip (u :: vs) := List.mem_cons_of_mem _ h
inductive Put : List Str → List SV → Str → SV → List SV → Prop where
  | here {x : Str} {ns : List Str} {u v : SV} {vs : List SV} : Put (x :: ns) (u :: vs) x v (v :: vs)
  | next {x y : Str} {ns : List Str} {u v : SV} {vs vs' : List SV} : Put ns vs x v vs' → Put (y :: ns) (u :: vs) x v (u :: vs')
theorem Put.mem {ns : List Str} {vs vs' : List SV} {x : Str} {v : SV} (h : Put ns vs x v vs') : x ∈ ns := by
  induction h with
  | here => exact List.mem_cons_self
  | next _ ih => exact List.mem_cons_of_mem _ ih
theorem Put.of {ns : List Str} {vs vs' : List SV} {x : Str} {v : SV} (h : Put ns vs x v vs') : ns.Nodup → ∀ p ∈ ns.zip vs', p = (x, v) ∨ (p ∈ ns.zip vs ∧ p.1 ≠ x) := by
  induction h with
  | here =>
    intro nd p hp
    rcases List.mem_cons.mp hp with e | hp
    · exact .inl e
    · exact .inr ⟨List.mem_cons_of_mem _ hp, fun e => (List.nodup_cons.mp nd).1 (e ▸ (List.of_mem_zip hp).1)⟩
  | next h ih =>
    intro nd p hp
    rcases List.mem_cons.mp hp with e | hp
    · subst e; refine .inr ⟨List.mem_cons_self, fun e => (List.nodup_cons.mp nd).1 ?_⟩
      dsimp only at e; subst e; exact h.mem
    · rcases ih (List.nodup_cons.mp nd).2 p hp with e | ⟨h1, h2⟩
      · exact .inl e
      · exact .inr ⟨List.mem_cons_of_mem _ h1, h2⟩
theorem ld_name {g : PM} {s : Shared} {x : Str} {sv : SV} {P : Value → Shared → Prop} (R : Rel c g σ s) (hx : (x, sv) ∈ c.ns.zip σ.vals) (hj : sv ≠ .junk) (h : ∀ v, RepV g sv v → P v s) :
    wpAny (model pw c.w) c.A (loadName c.env x) P (fun _ _ => False) s := by
  obtain ⟨m, cm, n, cl, vs⟩ := R.fr
  rcases vs _ hx with e | ⟨v, hv, r⟩
  · exact absurd e hj
  · rcases hv with ⟨k, e⟩ | ⟨k, ⟨a, l1, l2⟩, e⟩ | ⟨k, a, o, l, p, e⟩ | ⟨k, kd, a, o, l, p, e⟩
    · exact wpAny_loadName_local R.ok.kind k n e (h v r)
    · exact wpAny_loadName_cell R.ok.kind k l2 (e ▸ cl x a l1) (h v r)
    · exact wpAny_loadName_cell R.ok.kind k l ⟨o, R.pr a o p, e⟩ (h v r)
    · exact wpAny_loadName_free R.ok.kind k l ⟨o, R.pr a o p, e⟩ (h v r) kd
theorem E_name {x : Str} {p : Pos} {sv : SV} {Q : SV → St → Prop} (hx : (x, sv) ∈ c.ns.zip σ.vals) (hj : sv ≠ .junk) (q : Q sv σ) : EE c (.Name x p) σ Q := fun g s vs R _ =>
  wpAny_Name (ld_name R hx hj fun v r => done1 R r q) (R.ok.dbg x (List.of_mem_zip hx).1)
theorem E_glob {x : Str} {p : Pos} {v : Value} {Q : SV → St → Prop} (hx : (x, v) ∈ c.gl) (q : Q (.val v) σ) : EE c (.Name x p) σ Q := fun g s vs R _ => by
  obtain ⟨k, d, gi⟩ := R.ok.glok _ hx
  refine Name_function_global R.ok.kind k ?_ d
  have W := R.world
  obtain ⟨mg, ng, gs⟩ := W.globals
  rcases gi with e | ⟨e, eb, en⟩
  · exact loadGlobal_global (R.ok.glob ▸ ng) (gs x v e) (done1 (sv := .val v) R rfl q)
  · obtain ⟨mb, nb, bs⟩ := W.builtins
    exact loadGlobal_builtin (R.ok.glob ▸ ng) (W.none mg ng x e) (R.ok.blt ▸ nb) ((bs x en).trans eb) (done1 (sv := .val v) R rfl q)
theorem st_name {g : PM} {s : Shared} {x : Str} {sv : SV} {v : Value} {vals' : List SV} {P : Unit → Shared → Prop} (R : Rel c g σ s) (r : RepV g sv v) (hp : Put c.ns σ.vals x sv vals') (hs : x ∈ c.st)
    (h : ∀ s', Rel c g { σ with vals := vals' } s' → P () s') : wpAny (model pw c.w) c.A (storeName c.env x v) P (fun _ _ => False) s := by
  obtain ⟨h0, tk0, rfl⟩ := R.sh
  obtain ⟨m, cm, n, cl, vs⟩ := R.fr
  have rest : ∀ p ∈ c.ns.zip vals', p = (x, sv) ∨ (p ∈ c.ns.zip σ.vals ∧ p.1 ≠ x) := hp.of R.ok.nd
  rcases R.ok.stok x hs with k | ⟨k, a, l1, l2⟩
  · refine wpAny_storeName_local k n (fun h' hn hs' => h _ ?_) (by rw [R.ok.kind]; rfl)
    have hb : ∀ b o, b ≠ c.env.locals → h0.get? b = some o → h'.get? b = some o := fun b o hb e => (hs'.2 b hb).trans e
    exact {
      ok := R.ok, sh := ⟨h', _, rfl⟩, nodup := R.nodup, fpG := R.fpG, fpP := R.fpP, fpL := R.fpL, fpLo := R.fpLo, fpC := R.fpC, gL := R.gL, gC := R.gC
      pr := fun a o e => hb a o (fun q => by rw [q, R.ok.locF] at e; cases e) (R.pr a o e)
      gh := fun a o e => hb a o (fun q => by rw [q, R.gL] at e; cases e) (R.gh a o e)
      objs := fun e he => (R.objs e he).keep fun b hb' o ho => hb b o (R.fpL b (mem_fpH he hb')) ho
      fr := by
        refine ⟨_, cm, hn, fun y b hm => ?_, fun p hp => ?_⟩
        · obtain ⟨o, ho, r⟩ := cl y b hm
          exact ⟨o, hb b o (R.ok.ownF y b hm).2.2 ho, r⟩
        · rcases rest p hp with e | ⟨h1, h2⟩
          · subst e; exact .inr ⟨v, .inl ⟨k, by simp⟩, r⟩
          · refine (vs p h1).imp id fun ⟨u, hu, ru⟩ => ⟨u, ?_, ru⟩
            rcases hu with ⟨k1, k2⟩ | hu
            · exact .inl ⟨k1, by simp only [if_neg h2]; exact k2⟩
            · exact .inr hu }
  · refine wpAny_storeName_cell R.ok.kind k l2 (cl x a l1) fun h' hc hs' => h _ ?_
    have hF := R.ok.ownF x a l1
    have hb : ∀ b o, b ≠ a → h0.get? b = some o → h'.get? b = some o := fun b o hb e => (hs'.2 b hb).trans e
    exact {
      ok := R.ok, sh := ⟨h', tk0, rfl⟩, nodup := R.nodup, fpG := R.fpG, fpP := R.fpP, fpL := R.fpL, fpLo := R.fpLo, fpC := R.fpC, gL := R.gL, gC := R.gC
      pr := fun b o e => hb b o (fun q => by rw [q, hF.1] at e; cases e) (R.pr b o e)
      gh := fun b o e => hb b o (fun q => by rw [q, R.gC x a l1] at e; cases e) (R.gh b o e)
      objs := fun e he => (R.objs e he).keep fun b hb' o ho => hb b o (R.fpC b (mem_fpH he hb') x a l1) ho
      fr := by
        refine ⟨m, fun y => if y = x then some v else cm y, ?_, fun y b hm' => ?_, fun p hp => ?_⟩
        · obtain ⟨o, es, ep, ho, r⟩ := n
          exact ⟨o, es, ep, hb _ o (Ne.symm hF.2.2) ho, r⟩
        · by_cases q : y = x
          · subst q
            rw [l1] at hm'; cases hm'
            simpa using hc
          · have : b ≠ a := fun e => q (name_of_addr R.ok.ownA (mem_of_lookup (e ▸ hm')) (mem_of_lookup l1))
            obtain ⟨o, ho, r⟩ := cl y b hm'
            exact ⟨o, hb b o this ho, by simpa [q] using r⟩
        · rcases rest p hp with e | ⟨h1, h2⟩
          · subst e; exact .inr ⟨v, .inr (.inl ⟨k, ⟨a, l1, l2⟩, by simp⟩), r⟩
          · refine (vs p h1).imp id fun ⟨u, hu, ru⟩ => ⟨u, ?_, ru⟩
            rcases hu with hu | ⟨k1, k2, k3⟩ | hu
            · exact .inl hu
            · exact .inr (.inl ⟨k1, k2, by simp only [if_neg h2]; exact k3⟩)
            · exact .inr (.inr hu) }
end
end
section
section
variable {c : Cx} {σ : St} {Q : SV → St → Prop}
noncomputable abbrev O1 (c : Cx) (f : Value → Sem Value) (a : SV) := EvV c [a] (fun vs => f (vs.getD 0 .none))
noncomputable abbrev O2 (c : Cx) (f : Value → Value → Sem Value) (a b : SV) := EvV c [b, a] (fun vs => f (vs.getD 1 .none) (vs.getD 0 .none))
theorem rep1 {g : PM} {a : SV} {vs : List Value} (h : RepVs g [a] vs) : ∃ v, vs = [v] ∧ RepV g a v := by
  obtain ⟨v, vr, e, h1, h2⟩ := h; cases h2; exact ⟨v, e, h1⟩
theorem rep2 {g : PM} {a b : SV} {vs : List Value} (h : RepVs g [a, b] vs) : ∃ u v, vs = [u, v] ∧ RepV g a u ∧ RepV g b v := by
  obtain ⟨v, vr, e, h1, h2⟩ := h; obtain ⟨u, e2, h3⟩ := rep1 h2; subst e2; exact ⟨v, u, e, h1, h3⟩
theorem E_int {i : Int} {k : Nat} {p : Pos} (q : Q (.int i) σ) : EE c (.Constant (.int i) k p) σ Q := fun g s vs R _ => wpAny_Constant_int (done1 (sv := .int _) (R.tok _) ⟨_, rfl⟩ q)
theorem E_str {x : Str} {k : Nat} {p : Pos} (q : Q (.str x) σ) : EE c (.Constant (.str x) k p) σ Q := fun g s vs R _ => Constant_str (done1 (sv := .str _) (R.tok _) ⟨_, rfl⟩ q)
theorem E_bool {b : Bool} {k : Nat} {p : Pos} (q : Q (.bool b) σ) : EE c (.Constant (.bool b) k p) σ Q := fun g s vs R _ => wpAny_Constant_bool (done1 (sv := .bool b) R rfl q)
theorem E_none {k : Nat} {p : Pos} (q : Q .none σ) : EE c (.Constant .none k p) σ Q := fun g s vs R _ => wpAny_Constant_none (done1 (sv := .none) R rfl q)
theorem E_bin {l r : Expr} {op : Operator} {p : Pos} (h : EE c l σ fun a σ₁ => EE c r σ₁ fun b σ₂ => O2 c (binaryOp op) a b σ₂ Q) : EE c (.BinOp l op r p) σ Q := fun g s vs R _ =>
  wpAny_BinOp (stage R (xs := []) (vs := []) rfl h fun g₁ σ₁ s₁ a va x₁ R₁ r₁ q₁ => stage R₁ r₁ q₁ fun g₂ σ₂ s₂ b vb x₂ R₂ r₂ q₂ => lift (x₁.trans x₂) q₂ R₂ r₂)
theorem E_cmp {l r : Expr} {op : CmpOp} {p : Pos} (h : EE c l σ fun a σ₁ => EE c r σ₁ fun b σ₂ => O2 c (compareOp op) a b σ₂ Q) (hm : behindInMarks op r = false := by rfl) : EE c (.Compare l [op] [r] p) σ Q := fun g s vs R _ =>
  wpAny_Compare1 (stage R (xs := []) (vs := []) rfl h fun g₁ σ₁ s₁ a va x₁ R₁ r₁ q₁ => stage R₁ r₁ q₁ fun g₂ σ₂ s₂ b vb x₂ R₂ r₂ q₂ => lift (x₁.trans x₂) q₂ R₂ r₂) hm
theorem E_una {x : Expr} {op : UnaryOp} {p : Pos} (h : EE c x σ fun a σ₁ => O1 c (unaryOp op) a σ₁ Q) : EE c (.UnaryOp op x p) σ Q := fun g s vs R _ =>
  wpAny_UnaryOp (stage R (xs := []) (vs := []) rfl h fun g₁ σ₁ s₁ a va x₁ R₁ r₁ q₁ => lift x₁ q₁ R₁ r₁)
theorem E_ifx {t b o : Expr} {p : Pos} (h : ET c t σ fun v σ₁ => (v = true → EE c b σ₁ Q) ∧ (v = false → EE c o σ₁ Q)) : EE c (.IfExp t b o p) σ Q := fun g s vs R _ =>
  wpAny_IfExp (stageB R (xs := []) (vs := []) rfl h fun g₁ σ₁ s₁ b x₁ R₁ r₁ q₁ => by
    cases b with
    | true => exact lift x₁ (q₁.1 rfl) R₁ r₁
    | false => exact lift x₁ (q₁.2 rfl) R₁ r₁)
theorem E_sub {value slice : Expr} {p : Pos} (h : EE c value σ fun a σ₁ => EE c slice σ₁ fun b σ₂ => O2 c (subscriptTail value slice) a b σ₂ Q) : EE c (.Subscript value slice p) σ Q := fun g s vs R _ =>
  Subscript_ (stage R (xs := []) (vs := []) rfl h fun g₁ σ₁ s₁ a va x₁ R₁ r₁ q₁ => stage R₁ r₁ q₁ fun g₂ σ₂ s₂ b vb x₂ R₂ r₂ q₂ => lift (x₁.trans x₂) q₂ R₂ r₂)
theorem E_and2 {x y : Expr} {p : Pos} (h : EE c x σ fun a σ₁ => ∃ b, a = .bool b ∧ (b = true → EE c y σ₁ Q) ∧ (b = false → Q (.bool false) σ₁)) : EE c (.BoolOp .And [x, y] p) σ Q := fun g s vs R _ =>
  wpAny_And2 (stage R (xs := []) (vs := []) rfl h fun g₁ σ₁ s₁ a va x₁ R₁ r₁ q₁ => by
    obtain ⟨b, rfl, h1, h2⟩ := q₁
    obtain ⟨v, e, r⟩ := rep1 r₁
    cases e
    cases r
    refine wpAny_truthy_bool ?_
    cases b with
    | true => exact lift (vs := []) x₁ (h1 rfl) R₁ rfl
    | false => exact ⟨g₁, σ₁, .bool false, x₁, R₁, rfl, h2 rfl⟩)
theorem O_add {i j : Int} (q : Q (.int (i + j)) σ) : O2 c (binaryOp .Add) (.int i) (.int j) σ Q := fun g s vs R r => by
  obtain ⟨u, v, rfl, ⟨t, rfl⟩, ⟨t', rfl⟩⟩ := rep2 r; exact P.add_int (done1 (sv := .int _) (R.tok _) ⟨_, rfl⟩ q)
theorem O_subi {i j : Int} (q : Q (.int (i - j)) σ) : O2 c (binaryOp .Sub) (.int i) (.int j) σ Q := fun g s vs R r => by
  obtain ⟨u, v, rfl, ⟨t, rfl⟩, ⟨t', rfl⟩⟩ := rep2 r; exact P.sub_int (done1 (sv := .int _) (R.tok _) ⟨_, rfl⟩ q)
theorem O_mul {i j : Int} (hm : IntMulOk i j) (q : Q (.int (i * j)) σ) : O2 c (binaryOp .Mult) (.int i) (.int j) σ Q := fun g s vs R r => by
  obtain ⟨u, v, rfl, ⟨t, rfl⟩, ⟨t', rfl⟩⟩ := rep2 r; exact P.mul_int (done1 (sv := .int _) (R.tok _) ⟨_, rfl⟩ q) hm
theorem O_eqi {i j : Int} (q : Q (.bool (i == j)) σ) : O2 c (compareOp .Eq) (.int i) (.int j) σ Q := fun g s vs R r => by
  obtain ⟨u, v, rfl, ⟨t, rfl⟩, ⟨t', rfl⟩⟩ := rep2 r; exact P.eq_int (done1 (sv := .bool _) R rfl q)
theorem O_nei {i j : Int} (q : Q (.bool (i != j)) σ) : O2 c (compareOp .NotEq) (.int i) (.int j) σ Q := fun g s vs R r => by
  obtain ⟨u, v, rfl, ⟨t, rfl⟩, ⟨t', rfl⟩⟩ := rep2 r; exact P.ne_int (done1 (sv := .bool _) R rfl q)
theorem O_lti {i j : Int} (q : Q (.bool (decide (i < j))) σ) : O2 c (compareOp .Lt) (.int i) (.int j) σ Q := fun g s vs R r => by
  obtain ⟨u, v, rfl, ⟨t, rfl⟩, ⟨t', rfl⟩⟩ := rep2 r; exact P.lt_int (done1 (sv := .bool _) R rfl q)
theorem O_lei {i j : Int} (q : Q (.bool (decide (i ≤ j))) σ) : O2 c (compareOp .LtE) (.int i) (.int j) σ Q := fun g s vs R r => by
  obtain ⟨u, v, rfl, ⟨t, rfl⟩, ⟨t', rfl⟩⟩ := rep2 r; exact P.le_int (done1 (sv := .bool _) R rfl q)
theorem O_gti {i j : Int} (q : Q (.bool (decide (i > j))) σ) : O2 c (compareOp .Gt) (.int i) (.int j) σ Q := fun g s vs R r => by
  obtain ⟨u, v, rfl, ⟨t, rfl⟩, ⟨t', rfl⟩⟩ := rep2 r; exact P.gt_int (done1 (sv := .bool _) R rfl q)
theorem O_gei {i j : Int} (q : Q (.bool (decide (i ≥ j))) σ) : O2 c (compareOp .GtE) (.int i) (.int j) σ Q := fun g s vs R r => by
  obtain ⟨u, v, rfl, ⟨t, rfl⟩, ⟨t', rfl⟩⟩ := rep2 r; exact P.ge_int (done1 (sv := .bool _) R rfl q)
theorem O_negi {i : Int} (q : Q (.int (-i)) σ) : O1 c (unaryOp .USub) (.int i) σ Q := fun g s vs R r => by
  obtain ⟨v, rfl, ⟨t, rfl⟩⟩ := rep1 r; exact P.neg_int (done1 (sv := .int _) (R.tok _) ⟨_, rfl⟩ q)
variable {B : Bool → St → Prop}
theorem T_cmp {l r : Expr} {op : CmpOp} {p : Pos} (h : EE c l σ fun a σ₁ => EE c r σ₁ fun b σ₂ => O2 c (compareOp op) a b σ₂ fun v σ₃ => ∃ b, v = .bool b ∧ B b σ₃) (hm : behindInMarks op r = false := by rfl) :
    ET c (.Compare l [op] [r] p) σ B := fun g s vs R _ =>
  wpAny_isTrue_Compare1 (stage R (xs := []) (vs := []) rfl h fun g₁ σ₁ s₁ a va x₁ R₁ r₁ q₁ => stage R₁ r₁ q₁ fun g₂ σ₂ s₂ b vb x₂ R₂ r₂ q₂ =>
    wpAny_mono (q₂ g₂ s₂ _ R₂ r₂) (fun v s' ⟨g', σ', sv, x₃, R', r, b, e, q⟩ => by
      subst e; cases r
      exact wpAny_truthy_bool ⟨g', σ', (x₁.trans x₂).trans x₃, R', q⟩) fun _ _ f => f) hm
theorem T_val {e : Expr} (h : EE c e σ fun v σ₁ => ∃ b, v = .bool b ∧ B b σ₁) (he : isTrue e c.env (eval e c.env) = (do let v ← eval e c.env; standAt e.pos; holding [v] (truthy v)) := by rfl) : ET c e σ B := fun g s vs R _ =>
  wpAny_isTrue_value (stage R (xs := []) (vs := []) rfl h fun g₁ σ₁ s₁ a va x₁ R₁ r₁ q₁ => by
    obtain ⟨b, rfl, q⟩ := q₁
    obtain ⟨v, e, r⟩ := rep1 r₁
    cases e; cases r
    exact wpAny_truthy_bool ⟨g₁, σ₁, x₁, R₁, q⟩) he
theorem T_not {x : Expr} {p : Pos} (h : ET c x σ fun b σ₁ => B (!b) σ₁) : ET c (.UnaryOp .Not x p) σ B := fun g s vs R _ =>
  wpAny_isTrue_Not (stageB R (xs := []) (vs := []) rfl h fun g₁ σ₁ s₁ b x₁ R₁ _ q₁ => ⟨g₁, σ₁, x₁, R₁, q₁⟩)
noncomputable abbrev TA (c : Cx) (op : BoolOp) (es : List Expr) := EvB c [] (fun _ => allTrue op es c.env)
theorem T_and {es : List Expr} {p : Pos} (h : TA c .And es σ B) : ET c (.BoolOp .And es p) σ B := fun g s vs R r => wpAny_isTrue_BoolOp (h g s vs R r)
theorem T_or {es : List Expr} {p : Pos} (h : TA c .Or es σ B) : ET c (.BoolOp .Or es p) σ B := fun g s vs R r => wpAny_isTrue_BoolOp (h g s vs R r)
theorem T_and_nil (q : B true σ) : TA c .And [] σ B := fun g s vs R _ => wpAny_allTrue_And_nil ⟨g, σ, .refl _ _ _, R, q⟩
theorem T_or_nil (q : B false σ) : TA c .Or [] σ B := fun g s vs R _ => wpAny_allTrue_Or_nil ⟨g, σ, .refl _ _ _, R, q⟩
theorem T_and_cons {x : Expr} {es : List Expr} (h : ET c x σ fun b σ₁ => (b = true → TA c .And es σ₁ B) ∧ (b = false → B false σ₁)) : TA c .And (x :: es) σ B := fun g s vs R _ =>
  wpAny_allTrue_And_cons (stageB R (xs := []) (vs := []) rfl h fun g₁ σ₁ s₁ b x₁ R₁ r₁ q₁ => by
    cases b with
    | true => exact liftB x₁ (q₁.1 rfl) R₁ r₁
    | false => exact ⟨g₁, σ₁, x₁, R₁, q₁.2 rfl⟩)
theorem T_or_cons {x : Expr} {es : List Expr} (h : ET c x σ fun b σ₁ => (b = true → B true σ₁) ∧ (b = false → TA c .Or es σ₁ B)) : TA c .Or (x :: es) σ B := fun g s vs R _ =>
  wpAny_allTrue_Or_cons (stageB R (xs := []) (vs := []) rfl h fun g₁ σ₁ s₁ b x₁ R₁ r₁ q₁ => by
    cases b with
    | true => exact ⟨g₁, σ₁, x₁, R₁, q₁.1 rfl⟩
    | false => exact liftB x₁ (q₁.2 rfl) R₁ r₁)
variable {F : Fl → St → Prop}
theorem S_nil (q : F .next σ) : SB c [] σ F := fun g s R => wpAny_execs_nil ⟨g, σ, .next, .refl _ _ _, R, rfl, q⟩
theorem S_cons {st : Stmt} {rest : List Stmt} (h : SS c st σ fun f σ₁ => match f with | .next => SB c rest σ₁ F | f => F f σ₁) : SB c (st :: rest) σ F := fun g s R =>
  wpAny_execs_cons (wpAny_mono (h g s R) (fun f s' ⟨g', σ', fl, x, R', r, q⟩ => by
    cases fl with
    | next => cases r; exact liftS x q R'
    | brk => cases r; exact ⟨g', σ', .brk, x, R', rfl, q⟩
    | cont => cases r; exact ⟨g', σ', .cont, x, R', rfl, q⟩
    | ret v => obtain ⟨w, rfl, r⟩ := r; exact ⟨g', σ', .ret v, x, R', ⟨w, rfl, r⟩, q⟩) fun _ _ f => f)
theorem S_ret {e : Expr} {p : Pos} (h : EE c e σ fun v σ₁ => F (.ret v) σ₁) : SS c (.Return (some e) p) σ F := fun g s R =>
  wpAny_Return_some (wpAny_mono (h g s [] R rfl) (fun v s' ⟨g', σ', sv, x, R', r, q⟩ => ⟨g', σ', .ret sv, x, R', ⟨v, rfl, r⟩, q⟩) fun _ _ f => f)
theorem S_cont {p : Pos} (q : F .cont σ) : SS c (.Continue p) σ F := fun g s R => wpAny_Continue ⟨g, σ, .cont, .refl _ _ _, R, rfl, q⟩
theorem S_pass {p : Pos} (q : F .next σ) : SS c (.Pass p) σ F := fun g s R => wpAny_Pass ⟨g, σ, .next, .refl _ _ _, R, rfl, q⟩
theorem S_if {t : Expr} {b o : List Stmt} {p : Pos} (h : ET c t σ fun v σ₁ => (v = true → SB c b σ₁ F) ∧ (v = false → SB c o σ₁ F)) : SS c (.If t b o p) σ F := fun g s R =>
  wpAny_If (stageB R (xs := []) (vs := []) rfl h fun g₁ σ₁ s₁ b x₁ R₁ r₁ q₁ => by
    cases b with
    | true => exact liftS x₁ (q₁.1 rfl) R₁
    | false => exact liftS x₁ (q₁.2 rfl) R₁)
theorem S_expr {e : Expr} {p : Pos} (h : EE c e σ fun _ σ₁ => F .next σ₁) (hs : swapsWith e none p.line c.env = pure false := by rfl) : SS c (.Expr e p) σ F := fun g s R =>
  wpAny_Expr_any (wpAny_mono (h g s [] R rfl) (fun v s' ⟨g', σ', sv, x, R', r, q⟩ => ⟨g', σ', .next, x, R', rfl, q⟩) fun _ _ f => f) R.ok.inter hs
theorem S_asgn {x : Str} {p' p : Pos} {e : Expr} (hx : x ∈ c.st) (h : EE c e σ fun v σ₁ => ∃ vals', Put c.ns σ₁.vals x v vals' ∧ F .next { σ₁ with vals := vals' })
    (hs : swapsWith e (some (.Name x p')) p.line c.env = pure false := by rfl) : SS c (.Assign [.Name x p'] e p) σ F := fun g s R =>
  wpAny_Assign_Name (wpAny_mono (h g s [] R rfl) (fun v s' ⟨g', σ', sv, x₁, R', r, vals', hp, q⟩ => st_name R' r hp hx fun s'' R'' => ⟨g', _, .next, x₁, R'', rfl, q⟩) fun _ _ f => f) hs
noncomputable abbrev ES (c : Cx) (pos : Pos) (es : List Expr) := EvL c [] (fun _ => spliced (backTo pos (starEach es c.env)))
variable {L : List SV → St → Prop} {pos : Pos}
theorem A_nil (q : L [] σ) : ES c pos [] σ L := fun g s vs R _ => spliced_nil ⟨g, σ, [], .refl _ _ _, R, rfl, q⟩
theorem A_cons {e : Expr} {es : List Expr} (h : EE c e σ fun v σ₁ => ES c pos es σ₁ fun vs σ₂ => L (v :: vs) σ₂) (he : starEach (e :: es) c.env = (false, eval e c.env) :: starEach es c.env := by rfl) : ES c pos (e :: es) σ L := fun g s vs R _ => by
  show wpAny _ _ (spliced (backTo pos (starEach (e :: es) c.env))) _ _ _
  rw [he]
  refine spliced_cons (stage R (xs := []) (vs := []) rfl h fun g₁ σ₁ s₁ a va x₁ R₁ r₁ q₁ => ?_)
  exact stageL R₁ r₁ q₁ fun g₂ σ₂ s₂ svs ws x₂ R₂ rs r₂ q₂ => by
    obtain ⟨v, e', r⟩ := rep1 r₂
    cases e'
    exact ⟨g₂, σ₂, a :: svs, x₁.trans x₂, R₂, ⟨va, ws, rfl, r, rs⟩, q₂⟩
noncomputable abbrev CallV (c : Cx) (f : Value) (xs : List SV) := EvV c xs (fun vs => call f vs)
theorem evalArgs_sp {M : Model} {A : Around} {E : Value → Shared → Prop} {s : Shared} {f : Value} {args : List (Bool × Sem Value)} {Q : Args → Shared → Prop} (hp : args.any (·.1) = false)
    (h : wpAny M A (spliced args) (fun vs s' => Q ⟨vs, []⟩ s') E s) : wpAny M A (evalArgs f true args []) Q E s := by
  cases args with
  | nil => exact evalArgs_kw_nil rfl h
  | cons a r =>
    obtain ⟨b, t⟩ := a
    have hb : b = false := by
      simp only [List.any_cons, Bool.or_eq_false_iff] at hp; exact hp.1
    subst hb
    exact evalArgs_plain h
end
end
section
structure HeapOk (w : World) (g : PM) (H : AHeap) (h : Heap) : Prop where
  nodup : (fpH H).Nodup
  fpG : ∀ a ∈ fpH H, g a = none
  objs : ∀ e ∈ H, RepO w g h e.1 e.2
noncomputable def Spec (w : World) (lv : Nat) (f : Value) (xs : List SV) (H : AHeap) (Q : SV → AHeap → Prop) : Prop :=
  ∀ (A : Around) (hb : Heap) (g : PM) (s : Shared) (vs : List Value), Roomy lv A → World0 w hb → (∀ b o, hb.get? b = some o → s.heap.get? b = some o) → (∀ a o, g a = some o → s.heap.get? a = some o) →
    HeapOk w g H s.heap → (∀ a ∈ fpH H, hb.get? a = none) → RepVs g xs vs →
    wpAny (model pw w) A (call f vs) (fun v s' => ∃ g' H' sv, GX s.heap.objs.size (fun _ => none) g g' ∧ (∀ a o, g' a = some o → s'.heap.get? a = some o) ∧ HeapOk w g' H' s'.heap ∧
      (∀ a ∈ fpH H', a ∈ fpH H ∨ s.heap.objs.size ≤ a) ∧ (∀ a o, a ∉ fpH H → s.heap.get? a = some o → s'.heap.get? a = some o) ∧
      (∃ h tk, s' = { s with heap := h, toks := tk }) ∧ RepV g' sv v ∧ Q sv H') (fun _ _ => False) s
open Classical in
noncomputable abbrev frameCx (fd : FuncData) (a : Addr) (ns : List Str) (gl : List (Str × Value)) (w : World) (A : Around) (s : Shared) (hb : Heap) (H : AHeap) (lv : Nat) : Cx where
  w := w
  A := A.deeper (callEnvC fd s.heap.objs.size a)
  env := callEnvC fd s.heap.objs.size a
  ns := ns
  st := ns
  gl := gl
  own := (callEnvC fd s.heap.objs.size a).cells
  lo := s.heap.objs.size
  pr := fun b => if b ∈ fpH H then none else s.heap.get? b
  s₀ := s
  hb := hb
  lv := lv
  O := fpH H
structure FdOk (w : World) (a : Addr) (fd : FuncData) (params : List Str) (ns : List Str) (gl : List (Str × Value)) : Prop where
  obj : ∃ oc od sl, (KK w.params).lookup a = some ⟨oc, od, .func fd, sl⟩
  code : codeIn (KK w.params) fd.code fd.qualname = true
  body : ∃ b, fd.body = .stmts b
  bind : ∀ vs : List Value, vs.length = params.length → bindArgs fd ⟨vs, []⟩ = pure (params.zip vs)
  clo : fd.closure = []
  glob : fd.globals = mainGlobals
  blt : fd.builtins = builtinsNs
  kind : fd.scope.kind = .function
  co : fd.scope.isCoroutine = false
  gen : fd.scope.isGenerator = false
  inter : (fd.scope.more.any fun (n, _) => n == ("interactive" : Str)) = false
  names : (ns.all fun x => (fd.scope.names.lookup x == some .local || fd.scope.names.lookup x == some .cell) && !(x == ("__debug__" : Str))) = true
  pars : params <+: ns
  nd : ns.Nodup
  globs : (gl.all fun p => fd.scope.names.lookup p.1 == some .globalImplicit && !(p.1 == ("__debug__" : Str))) = true
  globIs : ∀ p ∈ gl, GlobIs w p.1 p.2
noncomputable def vals₀ (xs : List SV) (ns : List Str) : List SV := xs ++ List.replicate (ns.length - xs.length) .junk
theorem zip_prefix {params ns : List Str} (hp : params <+: ns) {xs : List SV} (hl : xs.length = params.length) (k : Nat) : ∀ p ∈ ns.zip (xs ++ List.replicate k SV.junk), p.2 = .junk ∨ p ∈ params.zip xs := by
  obtain ⟨r, rfl⟩ := hp
  intro p hpm
  rw [List.zip_append hl.symm] at hpm
  rcases List.mem_append.mp hpm with h | h
  · exact .inr h
  · exact .inl (List.eq_of_mem_replicate (List.of_mem_zip h).2)
theorem bindL_lookup {kindOf : Str → Option NameKind} : ∀ (ps : List (Str × Value)) (m : Str → Option Value) (x : Str) (v : Value), (ps.map (·.1)).Nodup → kindOf x = some .local → ((x, v) ∈ ps ∨ (m x = some v ∧ x ∉ ps.map (·.1))) → bindL kindOf ps m x = some v
  | [], m, x, v, _, _, h => by rcases h with h | h; cases h; exact h.1
  | (n, u) :: r, m, x, v, nd, k, h => by
    unfold bindL
    have nd' := List.nodup_cons.mp nd
    refine bindL_lookup r _ x v nd'.2 k ?_
    rcases h with h | ⟨h1, h2⟩
    · rcases List.mem_cons.mp h with e | h
      · cases e; exact .inr ⟨by simp [k], nd'.1⟩
      · exact .inl h
    · have : x ≠ n := fun e => h2 (by simp [e])
      refine .inr ⟨?_, fun q => h2 (List.mem_cons_of_mem _ q)⟩
      split
      · simp only [if_neg this]; exact h1
      · exact h1
theorem bindC_lookup {kindOf : Str → Option NameKind} : ∀ (ps : List (Str × Value)) (m : Str → Option Value) (x : Str) (v : Value), (ps.map (·.1)).Nodup → kindOf x ≠ some .local → ((x, v) ∈ ps ∨ (m x = some v ∧ x ∉ ps.map (·.1))) → bindC kindOf ps m x = some v
  | [], m, x, v, _, _, h => by rcases h with h | h; cases h; exact h.1
  | (n, u) :: r, m, x, v, nd, k, h => by
    unfold bindC
    have nd' := List.nodup_cons.mp nd
    refine bindC_lookup r _ x v nd'.2 k ?_
    rcases h with h | ⟨h1, h2⟩
    · rcases List.mem_cons.mp h with e | h
      · cases e; exact .inr ⟨by simp [k], nd'.1⟩
      · exact .inl h
    · have : x ≠ n := fun e => h2 (by simp [e])
      refine .inr ⟨?_, fun q => h2 (List.mem_cons_of_mem _ q)⟩
      split
      · exact h1
      · simp only [if_neg this]; exact h1
theorem RepVs.zip {g : PM} : ∀ {xs : List SV} {vs : List Value}, RepVs g xs vs → ∀ {ps : List Str}, ∀ p ∈ ps.zip xs, ∃ v, (p.1, v) ∈ ps.zip vs ∧ RepV g p.2 v
  | [], vs, e, ps, p, h => by cases ps <;> cases h
  | x :: r, vs, ⟨v, vr, e, h1, h2⟩, [], p, h => by cases h
  | x :: r, vs, ⟨v, vr, e, h1, h2⟩, n :: ps, p, h => by
    subst e
    rcases List.mem_cons.mp h with e | h
    · subst e; exact ⟨v, List.mem_cons_self, h1⟩
    · obtain ⟨u, a, b⟩ := RepVs.zip (ps := ps) h2 p h
      exact ⟨u, List.mem_cons_of_mem _ a, b⟩
theorem spec_of {w : World} {lv : Nat} {a : Addr} {fd : FuncData} {params ns : List Str} {gl : List (Str × Value)} {xs : List SV} {H : AHeap} {Q : SV → AHeap → Prop} {body : List Stmt}
    (ok : FdOk w a fd params ns gl) (hb' : fd.body = .stmts body) (hl : xs.length = params.length)
    (walk : ∀ A s hb, SB (frameCx fd a ns gl w A s hb H lv) body ⟨vals₀ xs ns, H⟩ fun fl σ => (∃ v, fl = .ret v ∧ Q v σ.heap) ∨ (fl = .next ∧ Q .none σ.heap)) :
    Spec w (lv + 1) (.ref a) xs H Q := by
  intro A hb g s vs rm W keepB hg HO fpB rep
  have hvl : vs.length = params.length := rep.length.trans hl
  obtain ⟨oc, od, sl, hobj⟩ := ok.obj
  have W' := W.keeps keepB
  have pnd : params.Nodup := ok.nd.sublist ok.pars.sublist
  have pnd' : ((params.zip vs).map (·.1)).Nodup := by rw [List.map_fst_zip (by exact om2 hvl)]; exact pnd
  have nm : ∀ x ∈ ns, (fd.scope.names.lookup x = some .local ∨ fd.scope.names.lookup x = some .cell) ∧ (x == ("__debug__" : Str)) = false := fun x hx => by
    have := List.all_eq_true.mp ok.names x hx
    simp only [Bool.and_eq_true, Bool.or_eq_true, beq_iff_eq, Bool.not_eq_true'] at this
    exact this
  have cellOf : ∀ x, fd.scope.names.lookup x = some .cell → ((cellsFrom (s.heap.objs.size + 1) fd.scope.names []).lookup x).isSome = true := fun x hx => cellsFrom_some _ _ _ (.inl hx)
  refine wpAny_call (codeAny_call_cells (by have := rm.dp; show A.depth < 1000; exact om3 this) (W'.K _ _ hobj) rfl W'.nolimit (codeRec_of W'.K ok.code) hb' (ok.bind vs hvl) ok.clo
    (fun x hx => ?_) (fun s₁ ic => ?_) ok.co ok.gen ok.kind)
  · have hxp : x.1 ∈ params := (List.of_mem_zip hx).1
    rcases (nm x.1 (ok.pars.subset hxp)).1 with h | h
    · exact .inl h
    · exact .inr ⟨h, cellOf _ h⟩
  · obtain ⟨h₁, tk₁, e₁⟩ := ic.toInCall.same
    subst e₁
    have keep := ic.toInCall.keep
    have szle : s.heap.objs.size ≤ h₁.objs.size := Nat.le_of_lt (Nat.lt_of_le_of_lt (Nat.le_refl _) (by have := ic.toInCall.ns.lt; exact Nat.lt_of_le_of_lt ic.toInCall.fresh this))
    have fpS : ∀ b ∈ fpH H, b < s.heap.objs.size := fun b hb => by
      obtain ⟨p, hp, hb⟩ := List.mem_flatMap.mp hb
      exact (HO.objs p hp).lt hb
    have hL : (callEnvC fd s.heap.objs.size a).locals = s.heap.objs.size := rfl
    have above : ∀ n d, (callEnvC fd s.heap.objs.size a).cells.lookup n = some d → s.heap.objs.size < d := fun n d h => ic.above n d (mem_of_lookup h)
    have sNone : ∀ b, s.heap.objs.size ≤ b → s.heap.get? b = none := fun b hb => by
      cases e : s.heap.get? b with
      | none => rfl
      | some o => exact absurd (Heap.lt_size e) (Nat.not_lt.mpr hb)
    have gNone : ∀ b, s.heap.objs.size ≤ b → g b = none := fun b hb => by
      cases e : g b with
      | none => rfl
      | some o => have := hg b o e; rw [sNone b hb] at this; cases this
    have prNone : ∀ b, s.heap.objs.size ≤ b → (frameCx fd a ns gl w A s hb H lv).pr b = none := fun b hb => by
      show (if b ∈ fpH H then none else s.heap.get? b) = none
      split
      · rfl
      · exact sNone b hb
    have R : Rel (frameCx fd a ns gl w A s hb H lv) g ⟨vals₀ xs ns, H⟩ { s with heap := h₁, toks := tk₁ } := {
      ok := {
        kind := ok.kind, glob := ok.glob, blt := ok.blt, W := W
        base := fun b o e => by
          show (if b ∈ fpH H then none else s.heap.get? b) = some o
          rw [if_neg (fun hm => by rw [fpB b hm] at e; cases e)]
          exact keepB b o e
        dbg := fun x hx => (nm x hx).2
        stok := fun x hx => by
          rcases (nm x hx).1 with h | h
          · exact .inl h
          · obtain ⟨d, hd⟩ := Option.isSome_iff_exists.mp (cellOf x h)
            exact .inr ⟨h, d, hd, hd⟩
        glok := fun p hp => by
          have := List.all_eq_true.mp ok.globs p hp
          simp only [Bool.and_eq_true, beq_iff_eq, Bool.not_eq_true'] at this
          exact ⟨this.1, this.2, ok.globIs p hp⟩
        nd := ok.nd
        room := ⟨rm.hh, by have := rm.dp; show A.depth + 1 + 10 * lv < 900; exact om4 this, by have := rm.un; show A.units + 3 + 100 * lv < 9000; exact om5 this⟩
        locF := prNone _ (Nat.le_refl _)
        locG := Nat.le_refl _
        ownF := fun x d h => ⟨prNone d (Nat.le_of_lt (above x d h)), Nat.le_of_lt (above x d h), Nat.ne_of_gt (above x d h)⟩
        ownA := ic.apart
        clo := fun x d h => .inl h
        inter := by show (fd.scope.kind == .module && _) = false; rw [ok.kind]; rfl }
      sh := ⟨h₁, tk₁, rfl⟩
      pr := fun b o e => by
        have e' : (if b ∈ fpH H then none else s.heap.get? b) = some o := e
        split at e'
        · cases e'
        · exact keep b o e'
      gh := fun b o e => keep b o (hg b o e)
      nodup := HO.nodup
      fpG := HO.fpG
      fpP := fun b hb => by show (if b ∈ fpH H then none else s.heap.get? b) = none; rw [if_pos hb]
      fpL := fun b hb => Nat.ne_of_lt (fpS b hb)
      fpLo := fun b hb => .inl hb
      fpC := fun b hb x d h => Nat.ne_of_lt (Nat.lt_trans (fpS b hb) (above x d h))
      objs := fun e he => (HO.objs e he).keep fun b _ o ho => keep b o ho
      gL := gNone _ (Nat.le_refl _)
      gC := fun x d h => gNone d (Nat.le_of_lt (above x d h))
      fr := by
        refine ⟨_, _, ic.toInCall.ns, fun x d h => ic.cell x d h, fun p hp => ?_⟩
        rcases zip_prefix ok.pars hl _ p hp with h | h
        · exact .inl h
        · obtain ⟨v, hv, r⟩ := RepVs.zip rep (ps := params) p h
          refine .inr ⟨v, ?_, r⟩
          rcases (nm p.1 (ok.pars.subset (List.of_mem_zip h).1)).1 with k | k
          · exact .inl ⟨k, bindL_lookup _ _ _ _ pnd' k (.inl hv)⟩
          · obtain ⟨d, hd⟩ := Option.isSome_iff_exists.mp (cellOf p.1 k)
            exact .inr (.inl ⟨k, ⟨d, hd, hd⟩, bindC_lookup _ _ _ _ pnd' (by show fd.scope.names.lookup p.1 ≠ _; rw [k]; decide) (.inl hv)⟩) }
    refine wpAny_mono (walk A s hb g _ R) (fun f s' ⟨g', σ', fl, gx, R', rf, q⟩ => ?_) fun _ _ f => f.elim
    have post : ∀ v sv, RepV g' sv v → Q sv σ'.heap → ∃ g' H' sv, GX s.heap.objs.size (fun _ => none) g g' ∧ (∀ a o, g' a = some o → s'.heap.get? a = some o) ∧ HeapOk w g' H' s'.heap ∧
      (∀ a ∈ fpH H', a ∈ fpH H ∨ s.heap.objs.size ≤ a) ∧ (∀ a o, a ∉ fpH H → s.heap.get? a = some o → s'.heap.get? a = some o) ∧
      (∃ h tk, s' = { s with heap := h, toks := tk }) ∧ RepV g' sv v ∧ Q sv H' := fun v sv r q => by
      refine ⟨g', σ'.heap, sv, GX.weak (fun _ _ e => nomatch e) gx, R'.gh, ⟨R'.nodup, R'.fpG, R'.objs⟩, fun b hb => ?_, fun b o hn e => ?_, R'.sh, r, q⟩
      · exact R'.fpLo b hb
      · refine R'.pr b o ?_
        show (if b ∈ fpH H then none else s.heap.get? b) = some o
        rw [if_neg hn]; exact e
    rcases q with ⟨v, rfl, q⟩ | ⟨rfl, q⟩
    · obtain ⟨u, rfl, r⟩ := rf
      exact post u v r q
    · cases rf
      exact post _ _ (show RepV g' .none _ from rfl) q
end
section
theorem fpH_append (H R : AHeap) : fpH (H ++ R) = fpH H ++ fpH R := List.flatMap_append
theorem mem_fpH_perm {H H' : AHeap} (p : H.Perm H') {a : Addr} : a ∈ fpH H ↔ a ∈ fpH H' := by
  unfold fpH
  simp only [List.mem_flatMap]
  exact ⟨fun ⟨e, h1, h2⟩ => ⟨e, p.mem_iff.mp h1, h2⟩, fun ⟨e, h1, h2⟩ => ⟨e, p.mem_iff.mpr h1, h2⟩⟩
theorem fpH_perm {H H' : AHeap} (p : H.Perm H') : (fpH H).Perm (fpH H') := List.Perm.flatMap_right fpE p
inductive Take : AHeap → Addr × AObj → AHeap → Prop where
  | here {e : Addr × AObj} {H : AHeap} : Take (e :: H) e H
  | next {e y : Addr × AObj} {H R : AHeap} : Take H e R → Take (y :: H) e (y :: R)
theorem Take.perm {H R : AHeap} {e : Addr × AObj} (t : Take H e R) : H.Perm (e :: R) := by
  induction t with
  | here => exact .refl _
  | next _ ih => exact (List.Perm.cons _ ih).trans (List.Perm.swap _ _ _)
inductive Split : AHeap → AHeap → AHeap → Prop where
  | nil {H : AHeap} : Split H [] H
  | cons {H H' Hs R : AHeap} {e : Addr × AObj} : Take H e H' → Split H' Hs R → Split H (e :: Hs) R
theorem Split.perm {H Hs R : AHeap} (t : Split H Hs R) : H.Perm (Hs ++ R) := by
  induction t with
  | nil => exact .refl _
  | cons t _ ih => exact t.perm.trans (List.Perm.cons _ ih)
section
variable {c : Cx} {σ : St} {Q : SV → St → Prop}
theorem call_spec {f : Value} {xs : List SV} {Hs R : AHeap} {lv : Nat} {P : SV → AHeap → Prop} (sp : Spec c.w lv f xs Hs P) (hlv : lv ≤ c.lv) (split : Split σ.heap Hs R)
    (q : ∀ sv H', P sv H' → Q sv { σ with heap := H' ++ R }) : CallV c f xs σ Q := fun g s vs Rl rep => by
  have pm := split.perm
  have nd : (fpH Hs ++ fpH R).Nodup := by rw [← fpH_append]; exact (fpH_perm pm).nodup_iff.mp Rl.nodup
  obtain ⟨ndS, ndR, dis⟩ := List.nodup_append.mp nd
  have inS : ∀ a, a ∈ fpH Hs → a ∈ fpH σ.heap := fun a h => (mem_fpH_perm pm).mpr (by rw [fpH_append]; exact List.mem_append_left _ h)
  have inR : ∀ a, a ∈ fpH R → a ∈ fpH σ.heap := fun a h => (mem_fpH_perm pm).mpr (by rw [fpH_append]; exact List.mem_append_right _ h)
  have ok := Rl.ok
  have lt : ∀ a, Needs c g σ a → a < s.heap.objs.size := fun a n => Rl.needs_lt n
  have hbS : ∀ a ∈ fpH Hs, c.hb.get? a = none := fun a h => by
    cases e : c.hb.get? a with
    | none => rfl
    | some o => have := ok.base a o e; rw [Rl.fpP a (inS a h)] at this; cases this
  refine wpAny_mono (sp c.A c.hb g s vs ⟨ok.room.hh, by have := ok.room.dp; exact om6 hlv this, by have := ok.room.un; exact om7 hlv this⟩ ok.W (fun b o e => Rl.pr b o (ok.base b o e)) Rl.gh
    ⟨ndS, fun a h => Rl.fpG a (inS a h), fun e he => Rl.objs e (pm.mem_iff.mpr (List.mem_append_left _ he))⟩ hbS rep) (fun v s' ⟨g', H', sv, gx, gh, HO, fpN, keep, sh, rv, hp⟩ => ?_) fun _ _ f => f
  obtain ⟨h₁, tk₁, rfl⟩ := sh
  have locLt := lt _ (show Needs c g σ c.env.locals from .inr (.inr (.inr (.inl rfl))))
  have ownLt : ∀ x a, c.own.lookup x = some a → a < s.heap.objs.size := fun x a h => lt a (.inr (.inr (.inr (.inr ⟨x, h⟩))))
  have RLt : ∀ a ∈ fpH R, a < s.heap.objs.size := fun a h => lt a (.inr (.inr (.inl (inR a h))))
  have gN : ∀ a, a < s.heap.objs.size → g a = none → g' a = none := fun a hlt hn => by
    cases e : g' a with
    | none => rfl
    | some o => exact absurd (gx.2 a hn (by rw [e]; exact nofun)).1 (Nat.not_le.mpr hlt)
  have prN : ∀ a, s.heap.objs.size ≤ a → c.pr a = none := fun a h => by
    cases e : c.pr a with
    | none => rfl
    | some o => exact absurd (Heap.lt_size (Rl.pr a o e)) (Nat.not_lt.mpr h)
  refine ⟨g', _, sv, ⟨gx.1, fun a h h' => ⟨Nat.le_trans Rl.lo (gx.2 a h h').1, prN a (gx.2 a h h').1⟩⟩, ?_, rv, q sv H' hp⟩
  obtain ⟨m, cm, n, cl, vars⟩ := Rl.fr
  exact {
    ok := ok
    sh := by obtain ⟨h, t, rfl⟩ := Rl.sh; exact ⟨h₁, tk₁, rfl⟩
    pr := fun a o e => keep a o (fun h => by rw [Rl.fpP a (inS a h)] at e; cases e) (Rl.pr a o e)
    gh := gh
    nodup := by
      show (fpH (H' ++ R)).Nodup
      rw [fpH_append]
      refine List.nodup_append.mpr ⟨HO.nodup, ndR, fun a ha b hb e => ?_⟩
      subst e
      rcases fpN a ha with h | h
      · exact dis a h a hb rfl
      · exact absurd (RLt a hb) (Nat.not_lt.mpr h)
    fpG := fun a h => by
      rcases List.mem_append.mp (show a ∈ fpH H' ++ fpH R by rw [← fpH_append]; exact h) with h | h
      · exact HO.fpG a h
      · exact gN a (RLt a h) (Rl.fpG a (inR a h))
    fpP := fun a h => by
      rcases List.mem_append.mp (show a ∈ fpH H' ++ fpH R by rw [← fpH_append]; exact h) with h | h
      · rcases fpN a h with h | h
        · exact Rl.fpP a (inS a h)
        · exact prN a h
      · exact Rl.fpP a (inR a h)
    fpL := fun a h => by
      rcases List.mem_append.mp (show a ∈ fpH H' ++ fpH R by rw [← fpH_append]; exact h) with h | h
      · rcases fpN a h with h | h
        · exact Rl.fpL a (inS a h)
        · exact Nat.ne_of_gt (Nat.lt_of_lt_of_le locLt h)
      · exact Rl.fpL a (inR a h)
    fpLo := fun a h => by
      rcases List.mem_append.mp (show a ∈ fpH H' ++ fpH R by rw [← fpH_append]; exact h) with h | h
      · rcases fpN a h with h | h
        · exact Rl.fpLo a (inS a h)
        · exact .inr (Nat.le_trans Rl.lo h)
      · exact Rl.fpLo a (inR a h)
    fpC := fun a h x b hb => by
      rcases List.mem_append.mp (show a ∈ fpH H' ++ fpH R by rw [← fpH_append]; exact h) with h | h
      · rcases fpN a h with h | h
        · exact Rl.fpC a (inS a h) x b hb
        · exact Nat.ne_of_gt (Nat.lt_of_lt_of_le (ownLt x b hb) h)
      · exact Rl.fpC a (inR a h) x b hb
    objs := fun e he => by
      rcases List.mem_append.mp he with he | he
      · exact HO.objs e he
      · refine ((Rl.objs e (pm.mem_iff.mpr (List.mem_append_right _ he))).mono gx.1).keep fun b hb o ho => keep b o (fun h => ?_) ho
        exact dis b h b (mem_fpH he hb) rfl
    gL := gN _ locLt Rl.gL
    gC := fun x a h => gN a (ownLt x a h) (Rl.gC x a h)
    fr := by
      refine ⟨m, cm, ?_, fun x a h => ?_, fun p hp => (vars p hp).imp id fun ⟨u, hu, r⟩ => ⟨u, hu, r.mono gx.1⟩⟩
      · obtain ⟨o, es, ep, ho, r⟩ := n
        exact ⟨o, es, ep, keep _ o (fun h => Rl.fpL _ (inS _ h) rfl) ho, r⟩
      · obtain ⟨o, ho, r⟩ := cl x a h
        exact ⟨o, keep a o (fun h' => Rl.fpC _ (inS _ h') x a h rfl) ho, r⟩ }
theorem E_callF {x : Str} {p pos : Pos} {args : List Expr} {a : Addr} {fd : FuncData} (hx : (x, .ref a) ∈ c.gl) (hK : ∀ w : World, ∃ oc od sl, (KK w.params).lookup a = some ⟨oc, od, .func fd, sl⟩)
    (h : ES c pos args σ fun vs σ₁ => CallV c (.ref a) vs σ₁ Q) (hpl : (backTo pos (starEach args c.env)).any (·.1) = false := by rfl) : EE c (.Call (.Name x p) args [] pos) σ Q := fun g s vs R _ => by
  refine wpAny_Call_ofName (stage R (xs := []) (vs := []) rfl (E_glob hx (Q := fun v σ' => v = .val (.ref a) ∧ σ' = σ) ⟨rfl, rfl⟩) fun g₁ σ₁ s₁ a' va x₁ R₁ r₁ q₁ => ?_)
  obtain ⟨rfl, rfl⟩ := q₁
  obtain ⟨v, e, r⟩ := rep1 r₁
  cases e
  have r' : va = .ref a := r
  subst r'
  obtain ⟨oc, od, sl, hk⟩ := hK c.w
  refine callWith_function (o := ⟨oc, od, .func fd, sl⟩) (fd := fd) (evalArgs_sp hpl ?_)
  refine stageL R₁ (xs := []) (vs := []) rfl h fun g₂ σ₂ s₂ svs ws x₂ R₂ rs r₂ q₂ => ⟨⟨R₂.world.K _ _ hk, rfl⟩, ?_⟩
  exact lift (x₁.trans x₂) q₂ R₂ rs
theorem E_callB {x : Str} {p pos : Pos} {args : List Expr} {id : String} (hx : (x, .builtin id) ∈ c.gl) (h : ES c pos args σ fun vs σ₁ => CallV c (.builtin id) vs σ₁ Q)
    (hpl : (backTo pos (starEach args c.env)).any (·.1) = false := by rfl) : EE c (.Call (.Name x p) args [] pos) σ Q := fun g s vs R _ => by
  refine wpAny_Call_ofName (stage R (xs := []) (vs := []) rfl (E_glob hx (Q := fun v σ' => v = .val (.builtin id) ∧ σ' = σ) ⟨rfl, rfl⟩) fun g₁ σ₁ s₁ a' va x₁ R₁ r₁ q₁ => ?_)
  obtain ⟨rfl, rfl⟩ := q₁
  obtain ⟨v, e, r⟩ := rep1 r₁
  cases e
  have r' : va = .builtin id := r
  subst r'
  refine callWith_builtin hpl (evalArgs_sp hpl ?_)
  exact stageL R₁ (xs := []) (vs := []) rfl h fun g₂ σ₂ s₂ svs ws x₂ R₂ rs r₂ q₂ => lift (x₁.trans x₂) q₂ R₂ rs
theorem E_callT {x : Str} {p pos : Pos} {args : List Expr} {T : String} (hx : (x, .type T) ∈ c.gl) (h : ES c pos args σ fun vs σ₁ => CallV c (.type T) vs σ₁ Q)
    (hpl : (backTo pos (starEach args c.env)).any (·.1) = false := by rfl) : EE c (.Call (.Name x p) args [] pos) σ Q := fun g s vs R _ => by
  refine wpAny_Call_ofName (stage R (xs := []) (vs := []) rfl (E_glob hx (Q := fun v σ' => v = .val (.type T) ∧ σ' = σ) ⟨rfl, rfl⟩) fun g₁ σ₁ s₁ a' va x₁ R₁ r₁ q₁ => ?_)
  obtain ⟨rfl, rfl⟩ := q₁
  obtain ⟨v, e, r⟩ := rep1 r₁
  cases e
  have r' : va = .type T := r
  subst r'
  refine PyProof.Rows.callWith_type hpl (evalArgs_sp hpl ?_)
  exact stageL R₁ (xs := []) (vs := []) rfl h fun g₂ σ₂ s₂ svs ws x₂ R₂ rs r₂ q₂ => lift (x₁.trans x₂) q₂ R₂ rs
end
end
section
noncomputable def InH (H : AHeap) (a : Addr) (l : List SV) : Prop := (a, AObj.list l) ∈ H ∨ ∃ k as ls, ∃ i : Nat, (k, AObj.nest as ls) ∈ H ∧ as[i]? = some a ∧ ls[i]? = some l
theorem InH.here {H : AHeap} {a : Addr} {l : List SV} (h : (a, AObj.list l) ∈ H) : InH H a l := .inl h
section
variable {c : Cx} {σ : St} {Q : SV → St → Prop}
theorem InH.at {g : PM} {s : Shared} {a : Addr} {l : List SV} (h : InH σ.heap a l) (R : Rel c g σ s) : ∃ vs, s.heap.IsList a (List.toArray vs) ∧ RepVs g l vs := by
  rcases h with h | ⟨k, as, ls, i, h, h1, h2⟩
  · obtain ⟨vs, p, q⟩ := R.objs _ h; exact ⟨vs, p.isList, q⟩
  · obtain ⟨vs, p, q⟩ := (R.objs _ h).2.2 i a l h1 h2; exact ⟨vs, p.isList, q⟩
theorem tup_at {g : PM} {s : Shared} {l : List SV} {v : Value} (R : Rel c g σ s) (r : RepV g (.tup l) v) : ∃ a vs, v = .ref a ∧ IsTup s.heap a vs.toArray ∧ RepVs g l vs ∧ g a ≠ none := by
  obtain ⟨a, o, vs, n, rfl, ha, hc, hd, rs⟩ := r
  exact ⟨a, vs, rfl, ⟨o, R.gh a o ha, hc, n, hd⟩, rs, by rw [ha]; exact nofun⟩
theorem lst_at {g : PM} {s : Shared} {l : List SV} {v : Value} (R : Rel c g σ s) (r : RepV g (.lst l) v) : ∃ a vs, v = .ref a ∧ s.heap.IsList a vs.toArray ∧ RepVs g l vs ∧ g a ≠ none := by
  obtain ⟨a, o, vs, n, rfl, ha, hc, hd, rs⟩ := r
  exact ⟨a, vs, rfl, ⟨o, R.gh a o ha, hc, n, hd⟩, rs, by rw [ha]; exact nofun⟩
noncomputable def Idx (k : Int) (n : Nat) (j : Nat) : Prop := (0 ≤ k ∧ k < n ∧ j = k.toNat) ∨ (k < 0 ∧ -(n : Int) ≤ k ∧ j = (k + n).toNat)
theorem Idx.seq {k : Int} {n j : Nat} (h : Idx k n j) : seqIndex? k n = some j := by
  rcases h with ⟨a, b, rfl⟩ | ⟨a, b, rfl⟩
  · exact seqIndex_of a b
  · exact seqIndex_neg a b
theorem O_item_tup {v sl : Expr} {l : List SV} {k : Int} {j : Nat} {x : SV} (hj : Idx k l.length j) (hx : l[j]? = some x) (hn : l.length < 2 ^ 62) (q : Q x σ)
    (hs : ∀ o i, subscripted sl false o i = operate [o, i] (getItem o i) := by intro _ _; rfl) : O2 c (subscriptTail v sl) (.tup l) (.int k) σ Q := fun g s vs R r => by
  obtain ⟨u, w, rfl, ⟨t, rfl⟩, rt⟩ := rep2 r
  obtain ⟨a, vs, rfl, ht, rs, _⟩ := tup_at R rt
  have hlen := rs.length
  obtain ⟨y, hy, ry⟩ := rs.get hx
  exact item_tupleT ht (by rcases hj with h | h <;> omega) (by rcases hj with h | h <;> omega) (by rw [hlen]; exact hj.seq) hy (done1 R ry q) (hs _ _)
theorem getItem_list_idx {w : World} {A : Around} {E : Value → Shared → Prop} {s : Shared} {a : Addr} {vs : List Value} {k : Int} {t : Tok} {j : Nat} {y : Value} {P : Value → Shared → Prop} (hl : s.heap.IsList a vs.toArray)
    (hj : Idx k vs.length j) (hn : vs.length < 2 ^ 62) (hy : vs[j]? = some y) (h : P y s) : wpAny (model pw w) A (getItem (.ref a) (.int k t)) P E s := by
  rcases hj with ⟨h0, h1, rfl⟩ | ⟨h0, h1, rfl⟩
  · exact wpAny_getItem_list hl h0 (by exact om8 hn h1) (by simpa using hy) h
  · exact wpAny_getItem_list_neg hl h0 (by simpa using h1) (by exact om9 hn h1) (by simpa using hy) h
theorem O_item_lst {v sl : Expr} {l : List SV} {k : Int} {j : Nat} {x : SV} (hj : Idx k l.length j) (hx : l[j]? = some x) (hn : l.length < 2 ^ 62) (q : Q x σ)
    (hs : ∀ o i, subscripted sl false o i = operate [o, i] (getItem o i) := by intro _ _; rfl) : O2 c (subscriptTail v sl) (.lst l) (.int k) σ Q := fun g s vs R r => by
  obtain ⟨u, w, rfl, ⟨t, rfl⟩, rt⟩ := rep2 r
  obtain ⟨a, vs, rfl, ht, rs, _⟩ := lst_at R rt
  have hlen := rs.length
  obtain ⟨y, hy, ry⟩ := rs.get hx
  exact tail_any ht.typeIs slot_list_getitem.lookup (getItem_list_idx ht (hlen ▸ hj) (by exact om10 hn hlen) hy (done1 R ry q)) (hs _ _)
theorem O_item_own {v sl : Expr} {a : Addr} {l : List SV} {k : Int} {j : Nat} {x : SV} (hl : InH σ.heap a l) (hj : Idx k l.length j) (hx : l[j]? = some x) (hn : l.length < 2 ^ 62) (q : Q x σ)
    (hs : ∀ o i, subscripted sl false o i = operate [o, i] (getItem o i) := by intro _ _; rfl) : O2 c (subscriptTail v sl) (.ref a) (.int k) σ Q := fun g s vs R r => by
  obtain ⟨u, w, rfl, ⟨t, rfl⟩, rt⟩ := rep2 r
  have rt' : w = .ref a := rt
  subst rt'
  obtain ⟨vs, ht, rs⟩ := hl.at R
  have hlen := rs.length
  obtain ⟨y, hy, ry⟩ := rs.get hx
  exact tail_any ht.typeIs slot_list_getitem.lookup (getItem_list_idx ht (hlen ▸ hj) (by exact om10 hn hlen) hy (done1 R ry q)) (hs _ _)
theorem O_item_nest {v sl : Expr} {a b : Addr} {as : List Addr} {ls : List (List SV)} {k : Int} {j : Nat} (hl : (a, AObj.nest as ls) ∈ σ.heap) (hj : Idx k as.length j) (hx : as[j]? = some b) (hn : as.length < 2 ^ 62) (q : Q (.ref b) σ)
    (hs : ∀ o i, subscripted sl false o i = operate [o, i] (getItem o i) := by intro _ _; rfl) : O2 c (subscriptTail v sl) (.ref a) (.int k) σ Q := fun g s vs R r => by
  obtain ⟨u, w, rfl, ⟨t, rfl⟩, rt⟩ := rep2 r
  have rt' : w = .ref a := rt
  subst rt'
  have ht := (R.objs _ hl).1
  exact tail_any ht.typeIs slot_list_getitem.lookup (getItem_list_idx ht (by simpa using hj) (by simpa using hn) (y := .ref b) (by simp [hx]) (done1 (sv := .ref b) R rfl q)) (hs _ _)
theorem RepKs.at {g : PM} : ∀ {kvs : List (Str × SV)} {vks : List (Str × Value)}, RepKs g kvs vks → ∀ {x : Str} {y : SV}, (kvs.find? fun p => p.1 = x).map (·.2) = some y → ∃ v, valueAt vks x = some v ∧ RepV g y v
  | [], _, e, x, y, h => by cases h
  | (k, z) :: r, _, ⟨v, vr, e, h1, h2⟩, x, y, h => by
    subst e
    unfold valueAt
    rw [List.find?_cons] at h ⊢
    by_cases hk : k = x
    · simp only [hk, decide_true, Option.map_some, Option.some.injEq] at h ⊢
      exact ⟨v, rfl, h ▸ h1⟩
    · simp only [hk, decide_false] at h ⊢
      exact RepKs.at h2 h
theorem O_item_sdict {v sl : Expr} {a : Addr} {kvs : List (Str × SV)} {x : Str} {y : SV} (hl : (a, AObj.sdict kvs) ∈ σ.heap) (hx : (kvs.find? fun p => p.1 = x).map (·.2) = some y) (q : Q y σ)
    (hs : ∀ o i, subscripted sl false o i = operate [o, i] (getItem o i) := by intro _ _; rfl) : O2 c (subscriptTail v sl) (.ref a) (.str x) σ Q := fun g s vs R r => by
  obtain ⟨u, w, rfl, ⟨t, rfl⟩, rt⟩ := rep2 r
  have rt' : w = .ref a := rt
  subst rt'
  obtain ⟨vks, hd, rk⟩ := R.objs _ hl
  obtain ⟨y', hy, ry⟩ := rk.at hx
  exact tail_any hd.typeIs slot_dict_getitem.lookup (wpAny_getItem_of (strKind_is pw c.w x t) hd.mapOf hy (done1 (R.tok _) ry q)) (hs _ _)
theorem C_len_tup {l : List SV} (hn : l.length < 2 ^ 62) (q : Q (.int l.length) σ) : CallV c (.builtin "len") [.tup l] σ Q := fun g s vs R r => by
  obtain ⟨v, rfl, rv⟩ := rep1 r
  obtain ⟨a, vs, rfl, ht, rs, _⟩ := tup_at R rv
  have hlen := rs.length
  exact len_tuple ht (by simp; exact om11 hn hlen) (by simp only [List.size_toArray, hlen]; exact done1 (sv := .int _) (R.tok _) ⟨_, rfl⟩ q)
theorem C_len_lst {l : List SV} (hn : l.length < 2 ^ 62) (q : Q (.int l.length) σ) : CallV c (.builtin "len") [.lst l] σ Q := fun g s vs R r => by
  obtain ⟨v, rfl, rv⟩ := rep1 r
  obtain ⟨a, vs, rfl, ht, rs, _⟩ := lst_at R rv
  have hlen := rs.length
  exact call_len_list ht (by simp; exact om11 hn hlen) (by simp only [List.size_toArray, hlen]; exact done1 (sv := .int _) (R.tok _) ⟨_, rfl⟩ q)
theorem C_len_own {a : Addr} {l : List SV} (hl : InH σ.heap a l) (hn : l.length < 2 ^ 62) (q : Q (.int l.length) σ) : CallV c (.builtin "len") [.ref a] σ Q := fun g s vs R r => by
  obtain ⟨v, rfl, rv⟩ := rep1 r
  have rv' : v = .ref a := rv
  subst rv'
  obtain ⟨vs, ht, rs⟩ := hl.at R
  have hlen := rs.length
  exact call_len_list ht (by simp; exact om11 hn hlen) (by simp only [List.size_toArray, hlen]; exact done1 (sv := .int _) (R.tok _) ⟨_, rfl⟩ q)
theorem C_len_nest {a : Addr} {as : List Addr} {ls : List (List SV)} (hl : (a, AObj.nest as ls) ∈ σ.heap) (hn : ls.length < 2 ^ 62) (q : Q (.int ls.length) σ) : CallV c (.builtin "len") [.ref a] σ Q := fun g s vs R r => by
  obtain ⟨v, rfl, rv⟩ := rep1 r
  have rv' : v = .ref a := rv
  subst rv'
  obtain ⟨ht, hlen, _⟩ := R.objs _ hl
  exact call_len_list ht (by simp; exact om11 hn hlen) (by simp only [List.size_toArray, List.length_map, hlen]; exact done1 (sv := .int _) (R.tok _) ⟨_, rfl⟩ q)
theorem C_max {i j : Int} (q : Q (.int (max i j)) σ) : CallV c (.builtin "max") [.int i, .int j] σ Q := fun g s vs R r => by
  obtain ⟨u, v, e, ⟨t, e1⟩, ⟨t', e2⟩⟩ := rep2 r
  subst e; subst e1; subst e2
  refine max_two_ints R.ok.room.hh fun h' tk hk => ?_
  refine done1 (sv := .int (max i j)) (R.ext hk) ?_ q
  split
  · exact ⟨t', by rw [show max i j = j by omega]⟩
  · exact ⟨t, by rw [show max i j = i by omega]⟩
theorem C_min {i j : Int} (q : Q (.int (min i j)) σ) : CallV c (.builtin "min") [.int i, .int j] σ Q := fun g s vs R r => by
  obtain ⟨u, v, e, ⟨t, e1⟩, ⟨t', e2⟩⟩ := rep2 r
  subst e; subst e1; subst e2
  refine min_two_ints R.ok.room.hh fun h' tk hk => ?_
  refine done1 (sv := .int (min i j)) (R.ext hk) ?_ q
  split
  · exact ⟨t', by rw [show min i j = j by omega]⟩
  · exact ⟨t, by rw [show min i j = i by omega]⟩
theorem O_modi {i j : Int} (hj : j ≠ 0) (q : Q (.int (i.fmod j)) σ) : O2 c (binaryOp .Mod) (.int i) (.int j) σ Q := fun g s vs R r => by
  obtain ⟨u, v, rfl, ⟨t, rfl⟩, ⟨t', rfl⟩⟩ := rep2 r
  exact PyProof.Rows.mod_int' hj (done1 (sv := .int _) (R.tok _) ⟨_, rfl⟩ q)
theorem O_divi {i j : Int} (hj : j ≠ 0) (hi : j.natAbs < 1073741824) (q : Q (.int (i.fdiv j)) σ) : O2 c (binaryOp .FloorDiv) (.int i) (.int j) σ Q := fun g s vs R r => by
  obtain ⟨u, v, rfl, ⟨t, rfl⟩, ⟨t', rfl⟩⟩ := rep2 r
  exact PyProof.Rows.floordiv_int hj (done1 (sv := .int _) (R.tok _) ⟨_, rfl⟩ q) (Or.inl (PyProof.noPylong_small hi))
end
end
section
noncomputable abbrev Cx.pin (c : Cx) (P : PM) : Cx := { c with pr := P }
open Classical in
noncomputable def Pall (c : Cx) (σ : St) (s : Shared) : PM := fun b => if b ∈ fpH σ.heap ∨ b = c.env.locals ∨ (∃ x, c.own.lookup x = some b) then none else s.heap.get? b
theorem Cx.Holds.up {c : Cx} {P : PM} (h : c.pr.le P) {m cm : Str → Option Value} {x : Str} {v : Value} (k : c.Holds m cm x v) : (c.pin P).Holds m cm x v := by
  rcases k with k | k | ⟨k, a, o, l, p, e⟩ | ⟨k, kd, a, o, l, p, e⟩
  · exact .inl k
  · exact .inr (.inl k)
  · exact .inr (.inr (.inl ⟨k, a, o, l, h a o p, e⟩))
  · exact .inr (.inr (.inr ⟨k, kd, a, o, l, h a o p, e⟩))
theorem Cx.Holds.down {c : Cx} {P : PM} (ok : c.Ok) (okP : (c.pin P).Ok) (h : c.pr.le P) {m cm : Str → Option Value} {x : Str} {v : Value} (k : (c.pin P).Holds m cm x v) : c.Holds m cm x v := by
  have key : ∀ a o, c.env.cells.lookup x = some a → P a = some o → c.pr a = some o := fun a o l p => by
    rcases ok.clo x a l with q | ⟨o', q⟩
    · have : P a = none := (okP.ownF x a q).1
      rw [p] at this; cases this
    · have : P a = some o' := h a o' q
      rw [p] at this; rw [q]; exact this.symm
  rcases k with k | k | ⟨k, a, o, l, p, e⟩ | ⟨k, kd, a, o, l, p, e⟩
  · exact .inl k
  · exact .inr (.inl k)
  · exact .inr (.inr (.inl ⟨k, a, o, l, key a o l p, e⟩))
  · exact .inr (.inr (.inr ⟨k, kd, a, o, l, key a o l p, e⟩))
section
variable {c : Cx} {σ : St} {g : PM} {s : Shared}
theorem Pall.le (R : Rel c g σ s) : c.pr.le (Pall c σ s) := fun b o e => by
  unfold Pall
  rw [if_neg]
  · exact R.pr b o e
  · rintro (h | h | ⟨x, h⟩)
    · rw [R.fpP b h] at e; cases e
    · rw [h, R.ok.locF] at e; cases e
    · rw [(R.ok.ownF x b h).1] at e; cases e
theorem Pall.at (R : Rel c g σ s) {b : Addr} {o : Obj} (hn : b ∉ fpH σ.heap) (hl : b ≠ c.env.locals) (ho : ∀ x, c.own.lookup x ≠ some b) (e : s.heap.get? b = some o) : Pall c σ s b = some o := by
  unfold Pall
  rw [if_neg]
  · exact e
  · rintro (h | h | ⟨x, h⟩)
    · exact hn h
    · exact hl h
    · exact ho x h
theorem Cx.Ok.pin {P : PM} (ok : c.Ok) (le : c.pr.le P) (hl : P c.env.locals = none) (ho : ∀ x a, c.own.lookup x = some a → P a = none) : (c.pin P).Ok where
  kind := ok.kind
  glob := ok.glob
  blt := ok.blt
  W := ok.W
  base := fun b o e => le b o (ok.base b o e)
  dbg := ok.dbg
  stok := ok.stok
  glok := ok.glok
  nd := ok.nd
  room := ok.room
  locF := hl
  locG := ok.locG
  ownF := fun x a h => ⟨ho x a h, (ok.ownF x a h).2⟩
  ownA := ok.ownA
  inter := ok.inter
  clo := fun x a h => (ok.clo x a h).imp id fun ⟨o, e⟩ => ⟨o, le a o e⟩
theorem Rel.pinned (R : Rel c g σ s) : Rel (c.pin (Pall c σ s)) g σ s where
  ok := R.ok.pin (Pall.le R) (by unfold Pall; rw [if_pos (.inr (.inl rfl))]) fun x a h => by unfold Pall; rw [if_pos (.inr (.inr ⟨x, h⟩))]
  sh := R.sh
  pr := fun a o e => by
    have e' : Pall c σ s a = some o := e
    unfold Pall at e'
    split at e'
    · cases e'
    · exact e'
  gh := R.gh
  nodup := R.nodup
  fpG := R.fpG
  fpP := fun a h => by show Pall c σ s a = none; unfold Pall; rw [if_pos (.inl h)]
  fpL := R.fpL
  fpLo := R.fpLo
  fpC := R.fpC
  objs := R.objs
  gL := R.gL
  gC := R.gC
  fr := by
    obtain ⟨m, cm, n, cl, vs⟩ := R.fr
    exact ⟨m, cm, n, cl, fun p hp => (vs p hp).imp id fun ⟨v, hv, r⟩ => ⟨v, hv.up (Pall.le R), r⟩⟩
theorem Rel.unpin {P : PM} {σ₀ : St} {g₀ : PM} {s₀ : Shared} (R₀ : Rel c g₀ σ₀ s₀) (le : c.pr.le P) (R : Rel (c.pin P) g σ s) : Rel c g σ s where
  ok := R₀.ok
  sh := R.sh
  pr := fun a o e => R.pr a o (le a o e)
  gh := R.gh
  nodup := R.nodup
  fpG := R.fpG
  fpP := fun a h => by
    have := R.fpP a h
    cases e : c.pr a with
    | none => rfl
    | some o => have q : P a = none := this; rw [le a o e] at q; cases q
  fpL := R.fpL
  fpLo := R.fpLo
  fpC := R.fpC
  objs := R.objs
  gL := R.gL
  gC := R.gC
  fr := by
    obtain ⟨m, cm, n, cl, vs⟩ := R.fr
    exact ⟨m, cm, n, cl, fun p hp => (vs p hp).imp id fun ⟨v, hv, r⟩ => ⟨v, hv.down R₀.ok R.ok le, r⟩⟩
theorem Rel.off {σ' : St} {g' : PM} {s' : Shared} (R : Rel c g σ s) {b : Addr} {o : Obj} (hn : ¬ Needs c g σ b) (e : s.heap.get? b = some o) (gx : GX c.lo (Pall c σ s) g g') (R' : Rel (c.pin (Pall c σ s)) g' σ' s') :
    ¬ Needs c g' σ' b ∧ s'.heap.get? b = some o := by
  have hP : Pall c σ s b = some o := Pall.at R (fun h => hn (.inr (.inr (.inl h)))) (fun h => hn (.inr (.inr (.inr (.inl h))))) (fun x h => hn (.inr (.inr (.inr (.inr ⟨x, h⟩))))) e
  refine ⟨fun n => ?_, R'.pr b o hP⟩
  rcases n with ⟨o', h⟩ | ⟨o', h⟩ | h | h | ⟨x, h⟩
  · exact hn (.inl ⟨o', h⟩)
  · have gn : g b = none := by
      cases q : g b with
      | none => rfl
      | some o'' => exact absurd (.inr (.inl ⟨o'', q⟩)) hn
    have := (gx.2 b gn (by rw [h]; exact nofun)).2
    rw [hP] at this; cases this
  · have := R'.fpP b h
    have q : Pall c σ s b = none := this
    rw [hP] at q; cases q
  · exact hn (.inr (.inr (.inr (.inl h))))
  · exact hn (.inr (.inr (.inr (.inr ⟨x, h⟩))))
structure It (w : World) (A : Around) (target : Expr) (g : PM) (xs : List SV) (I : Addr) (St : Nat → Heap → Prop) : Prop where
  frame : ∀ i h h', St i h → (∀ b, b = I ∨ g b ≠ none → ∀ o, h.get? b = some o → h'.get? b = some o) → St i h'
  item : ∀ i (s : Shared) (Q : Option Value → Shared → Prop) (E : Value → Shared → Prop), i < xs.length → St i s.heap →
    (∀ v h' tk, (∃ x, xs[i]? = some x ∧ RepV g x v) → St (i + 1) h' → (∀ b o, b ≠ I → s.heap.get? b = some o → h'.get? b = some o) → Q (some v) { s with heap := h', toks := tk }) → wpAny (model pw w) A (pyNext (.ref I)) Q E s
  done : ∀ (s : Shared) (Q : Option Value → Shared → Prop) (E : Value → Shared → Prop), St xs.length s.heap →
    (∀ h' tk, (∀ b o, b ≠ I → s.heap.get? b = some o → h'.get? b = some o) → Q none { s with heap := h', toks := tk }) → wpAny (model pw w) A (pyNext (.ref I)) Q E s
  self : ∀ i (s : Shared) (Q : Value → Shared → Prop) (E : Value → Shared → Prop), St i s.heap → Q (.ref I) s → wpAny (model pw w) A (pyIter (.ref I)) Q E s
  go : ∀ i v (s : Shared) (Q : Unit → Shared → Prop) (E : Value → Shared → Prop), St i s.heap → Q () s → wpAny (model pw w) A (letOwnedTupleGo target (.ref I) v) Q E s
  live : ∀ i h, St i h → ∃ o, h.get? I = some o
inductive Iters (target : Expr) : SV → List SV → Prop
  | lst (l : List SV) : Iters target (.lst l) l
  | tup (l : List SV) : Iters target (.tup l) l
  | rng (a b c : Int) (n : Nat) : (∃ x p, target = .Name x p) → Builtin.Range.small a b c = true → Builtin.Range.rangeSize a b c = (n : Int) → Iters target (.rng a b c) ((List.range n).map fun i : Nat => SV.int (a + i * c))
theorem It.ofWalks {w : World} {A : Around} {target : Expr} {xs : List SV} {I : Addr} {fp : List Addr} {n : Nat} {P : Nat → Value → Prop} {St : Nat → Heap → Prop} (W : Walks pw w A I fp [I] n P St) (hn : n = xs.length)
    (hfp : ∀ b ∈ fp, b = I ∨ g b ≠ none) (hP : ∀ i v, i < n → P i v → ∃ x, xs[i]? = some x ∧ RepV g x v) (live : ∀ i h, St i h → ∃ o, h.get? I = some o)
    (go : ∀ i v (s : Shared) (Q : Unit → Shared → Prop) (E : Value → Shared → Prop), St i s.heap → Q () s → wpAny (model pw w) A (letOwnedTupleGo target (.ref I) v) Q E s) : It w A target g xs I St where
  frame := fun i h h' st k => W.frame i h h' st fun b hb o e => k b (hfp b hb) o e
  item := fun i s Q E hi st hQ => W.item i s Q E (hn ▸ hi) st fun v h' tk hp st' hk => hQ v h' tk (hP i v (hn ▸ hi) hp) st' fun b o hb e => hk b o (by simpa using hb) e
  done := fun s Q E st hQ => W.done s Q E (hn ▸ st) fun h' tk hk => hQ h' tk fun b o hb e => hk b o (by simpa using hb) e
  self := W.self
  go := go
  live := live
theorem iterate {target : Expr} {sv : SV} {xs : List SV} {v : Value} {P : Value → Shared → Prop} {E : Value → Shared → Prop} (R : Rel c g σ s) (r : RepV g sv v) (it : Iters target sv xs)
    (h : ∀ I St s', It c.w c.A target g xs I St → St 0 s'.heap → Rel c g σ s' → ¬ Needs c g σ I → c.lo ≤ I → s.heap.objs.size = I → (∀ a o, s.heap.get? a = some o → s'.heap.get? a = some o) → P (.ref I) s') : wpAny (model pw c.w) c.A (pyIter v) P E s := by
  have hh := R.ok.room.hh
  have up : ∀ o' : Obj, ∀ b o, s.heap.get? b = some o → (s.heap.push o').get? b = some o := fun o' b o e => Heap.get?_push_of_some _ e
  have Rp : ∀ o' : Obj, Rel c g σ { s with heap := s.heap.push o' } := fun o' => R.ext (tk := s.toks) (up o')
  cases it with
  | lst =>
    obtain ⟨a, vs, rfl, hl, rs, hg⟩ := lst_at R r
    have hlen := rs.length
    have hlt : a < s.heap.objs.size := by obtain ⟨o, e, _⟩ := hl; exact Heap.lt_size e
    refine wpAny_pyIter_list hl (h _ _ _ (It.ofWalks (Walks.list hh s.heap.objs.size a (Nat.ne_of_lt hlt) vs.toArray) (by simp [hlen]) (fun b hb => ?_) (fun i v hi hp => ?_) (fun i h st => ?_) fun i v s Q E st q => letGo_listiter st.1 q) ?_ (Rp _) R.fresh R.lo rfl (up _))
    · rcases List.mem_cons.mp hb with rfl | hb
      · exact .inl rfl
      · exact .inr (by rw [List.mem_singleton.mp hb]; exact hg)
    · have hp' : vs[i]? = some v := by simpa using hp
      have hi' : i < xs.length := by simpa [hlen] using hi
      obtain ⟨u, hu, ru⟩ := rs.get (List.getElem?_eq_getElem hi')
      rw [hp'] at hu; cases hu
      exact ⟨_, List.getElem?_eq_getElem hi', ru⟩
    · obtain ⟨o, e, _⟩ := st.1; exact ⟨o, e⟩
    · exact ⟨⟨_, Heap.get?_push_size _ rfl, rfl, rfl⟩, hl.push _⟩
  | tup =>
    obtain ⟨a, vs, rfl, hl, rs, hg⟩ := tup_at R r
    have hlen := rs.length
    have hlt : a < s.heap.objs.size := by obtain ⟨o, e, _⟩ := hl; exact Heap.lt_size e
    refine wpAny_pyIter_tuple hl (h _ _ _ (It.ofWalks (Walks.tuple hh s.heap.objs.size a (Nat.ne_of_lt hlt) vs.toArray) (by simp [hlen]) (fun b hb => ?_) (fun i v hi hp => ?_) (fun i h st => ?_) fun i v s Q E st q => letGo_tupleiter st.1 q) ?_ (Rp _) R.fresh R.lo rfl (up _))
    · rcases List.mem_cons.mp hb with rfl | hb
      · exact .inl rfl
      · exact .inr (by rw [List.mem_singleton.mp hb]; exact hg)
    · have hp' : vs[i]? = some v := by simpa using hp
      have hi' : i < xs.length := by simpa [hlen] using hi
      obtain ⟨u, hu, ru⟩ := rs.get (List.getElem?_eq_getElem hi')
      rw [hp'] at hu; cases hu
      exact ⟨_, List.getElem?_eq_getElem hi', ru⟩
    · obtain ⟨o, e, _⟩ := st.1; exact ⟨o, e⟩
    · exact ⟨⟨_, Heap.get?_push_size _ rfl, rfl, rfl⟩, IsTup.keeps hl (up _)⟩
  | rng a b k n ht hsm hsz =>
    obtain ⟨ra, t₁, t₂, t₃, rfl, ha⟩ := r
    obtain ⟨x, p, rfl⟩ := ht
    refine wpAny_pyIter_range (R.gh _ _ ha) hsm (h _ _ _ (It.ofWalks (Walks.range hh s.heap.objs.size a k n).bound (by simp) (fun b hb => .inl (List.mem_singleton.mp hb)) (fun i v hi hp => ?_) (fun i h st => ⟨_, st⟩) fun i v s Q E st q => wpAny_pure q) ?_ (Rp _) R.fresh R.lo rfl (up _))
    · obtain ⟨_, t, rfl⟩ := hp
      exact ⟨.int (a + i * k), by simp [hi], ⟨t, rfl⟩⟩
    · show IsRangeIter _ _ _ _ _
      rw [hsz]; simpa using Heap.get?_push_size _ rfl
noncomputable abbrev AT (c : Cx) (target : Expr) (x : SV) (σ : St) (Q : St → Prop) := EvU c [x] (fun vs => assign target c.env (vs.getD 0 .none)) σ Q
theorem It.grow {w : World} {A : Around} {target : Expr} {g g' : PM} {xs : List SV} {I : Addr} {St : Nat → Heap → Prop} (gx : g.le g') (it : It w A target g xs I St) : It w A target g' xs I St where
  frame := fun i h h' st k => it.frame i h h' st fun b hb o e => k b (hb.imp id fun n => by
    cases q : g b with
    | none => exact absurd q n
    | some o' => rw [gx b o' q]; exact nofun) o e
  item := fun i s Q E hi st hQ => it.item i s Q E hi st fun v h' tk ⟨x, hx, r⟩ => hQ v h' tk ⟨x, hx, r.mono gx⟩
  done := it.done
  self := it.self
  go := it.go
  live := it.live
theorem S_for {target iter : Expr} {body : List Stmt} {pos : Pos} {F : Fl → St → Prop}
    (h : EE c iter σ fun sv σ₁ => ∃ xs, Iters target sv xs ∧ ∃ J : List SV → St → Prop, J [] σ₁ ∧
      (∀ P pre x post σ₂, xs = pre ++ x :: post → J pre σ₂ → AT (c.pin P) target x σ₂ fun σ₃ => SB (c.pin P) body σ₃ fun fl σ₄ => match fl with | .next | .cont => J (pre ++ [x]) σ₄ | .brk => F .next σ₄ | .ret v => F (.ret v) σ₄) ∧
      (∀ σ₂, J xs σ₂ → F .next σ₂)) (hs : ∀ x, foldedSetIterable iter c.env x = pure x := by intro _; rfl) : SS c (.For target iter body [] pos) σ F := fun g s R =>
  wpAny_For (stage R (xs := []) (vs := []) rfl h fun g₁ σ₁ s₁ sv v x₁ R₁ r₁ q₁ => by
    obtain ⟨u, e, r⟩ := rep1 r₁
    cases e
    obtain ⟨xs, its, J, hJ, step, fin⟩ := q₁
    refine iterate R₁ r its fun I St s₂ it hst R₂ hI hIlo _ _ => ?_
    refine codeAny_forLoop_any (fun k s' => ∃ g' σ' i, i ≤ xs.length ∧ k = xs.length + 1 - i ∧ GX c.lo c.pr g₁ g' ∧ Rel c g' σ' s' ∧ ¬ Needs c g' σ' I ∧ St i s'.heap ∧ J (xs.take i) σ') ?_ (xs.length + 1)
      ⟨g₁, σ₁, 0, Nat.zero_le _, rfl, .refl _ _ _, R₂, hI, hst, hJ⟩
    rintro k s' ⟨g', σ', i, hi, rfl, gx, R', hI', hst', hJ'⟩
    have keepR : ∀ (h' : Heap) tk, (∀ b o, b ≠ I → s'.heap.get? b = some o → h'.get? b = some o) → Rel c g' σ' { s' with heap := h', toks := tk } := fun h' tk hk =>
      R'.heap fun a na o e => hk a o (fun q => hI' (q ▸ na)) e
    by_cases hlt : i < xs.length
    · refine (it.grow gx.1).item i _ _ _ hlt hst' fun v h' tk ⟨x, hx, rx⟩ st₁ hk => ?_
      refine (it.grow gx.1).go _ _ _ _ _ st₁ ?_
      have R₃ := keepR h' tk hk
      obtain ⟨oI, hoI⟩ := it.live _ _ st₁
      have hsplit : xs = xs.take i ++ x :: xs.drop (i + 1) := by
        obtain ⟨h1, h2⟩ := List.getElem?_eq_some_iff.mp hx
        rw [← h2, ← List.drop_eq_getElem_cons h1]
        exact (List.take_append_drop i xs).symm
      have htk : xs.take (i + 1) = xs.take i ++ [x] := by rw [List.take_add_one, hx]; rfl
      refine wpAny_mono (step (Pall c σ' { s' with heap := h', toks := tk }) (xs.take i) x (xs.drop (i + 1)) σ' hsplit hJ' g' _ [v] R₃.pinned ⟨v, [], rfl, rx, rfl⟩) (fun _ s₄ ⟨g₄, σ₄, x₄, R₄, q₄⟩ => ?_) fun _ _ f => f.elim
      refine wpAny_mono (q₄ g₄ s₄ R₄) (fun f s₅ ⟨g₅, σ₅, fl, x₅, R₅, rf, q₅⟩ => ?_) fun _ _ f => f.elim
      have gx' := x₄.trans x₅
      have R₅' : Rel c g₅ σ₅ s₅ := R₃.unpin (Pall.le R₃) R₅
      have off := R₃.off hI' hoI gx' R₅
      have gxx := gx.trans (gx'.weak (Pall.le R₃))
      have st₅ : St (i + 1) s₅.heap := it.frame _ _ _ st₁ fun b hb o e => by
        rcases hb with rfl | hb
        · rw [hoI] at e; cases e; exact off.2
        · cases q : g₁ b with
          | none => exact absurd q hb
          | some o' =>
            have q' := gx.1 b o' q
            have e' := R₃.gh b o' q'
            have e2 : h'.get? b = some o := e
            have e3 : h'.get? b = some o' := e'
            obtain rfl : o' = o := by rw [e3] at e2; exact Option.some.inj e2
            exact R₅.gh b o' (gx'.1 b o' q')
      cases fl with
      | next => cases rf; exact ⟨_, by exact om12 hi, g₅, σ₅, i + 1, hlt, rfl, gxx, R₅', off.1, st₅, htk ▸ q₅⟩
      | cont => cases rf; exact ⟨_, by exact om12 hi, g₅, σ₅, i + 1, hlt, rfl, gxx, R₅', off.1, st₅, htk ▸ q₅⟩
      | brk => cases rf; exact ⟨g₅, σ₅, .next, x₁.trans gxx, R₅', rfl, q₅⟩
      | ret w => obtain ⟨u, rfl, ru⟩ := rf; exact ⟨g₅, σ₅, .ret w, x₁.trans gxx, R₅', ⟨u, rfl, ru⟩, q₅⟩
    · have hin : i = xs.length := by exact om13 hi hlt
      subst hin
      rw [List.take_length] at hJ'
      refine it.done _ _ _ hst' fun h' tk hk => wpAny_execs_nil ⟨g', σ', .next, x₁.trans gx, keepR h' tk hk, rfl, fin σ' hJ'⟩) hs
end
end
section
noncomputable def lastTurn (elt target : Expr) (ip : Pos) (ifs : List Expr) (e : Expr) (d : Nat) (it acc : Value) (env : Env) : Sem Fin := do
  standAt ip
  match ← pyNext it with
  | none => pure (.done .next)
  | some v =>
    letOwnedTupleGo target it v
    assign target env v
    let mut ok := true
    for c in ifs do
      if ok then ok ← isTrue c env (eval c env)
    if ok then
      (do let _ ← call (.builtin "list.append") [acc, ← eval elt env])
    again (.compLoop e d it acc env)
noncomputable def midTurn (target : Expr) (ip : Pos) (iter2 : Expr) (e : Expr) (d : Nat) (it acc : Value) (env : Env) : Sem Fin := do
  standAt ip
  match ← pyNext it with
  | none => pure (.done .next)
  | some v =>
    letOwnedTupleGo target it v
    assign target env v
    let x ← eval iter2 env
    standAt iter2.pos
    let x ← foldedSetIterable iter2 env x
    let _ ← runOwn (.compStart e (d + 1) (← holding [x] (pyIter x)) acc env) env
    again (.compLoop e d it acc env)
theorem turn_one (elt target iter : Expr) (ifs : List Expr) (scope : Scope) (pos : Pos) (it acc : Value) (env : Env) :
    compTurn (.ListComp elt [⟨target, iter, ifs, 0⟩] scope pos) 0 it acc env = lastTurn elt target iter.pos ifs (.ListComp elt [⟨target, iter, ifs, 0⟩] scope pos) 0 it acc env := by rfl
theorem turn_two (elt target iter : Expr) (ifs : List Expr) (g : Comprehension) (scope : Scope) (pos : Pos) (it acc : Value) (env : Env) :
    compTurn (.ListComp elt [g, ⟨target, iter, ifs, 0⟩] scope pos) 1 it acc env = lastTurn elt target iter.pos ifs (.ListComp elt [g, ⟨target, iter, ifs, 0⟩] scope pos) 1 it acc env := by rfl
theorem turn_mid (elt target iter t2 i2 : Expr) (ifs : List Expr) (scope : Scope) (pos : Pos) (it acc : Value) (env : Env) :
    compTurn (.ListComp elt [⟨target, iter, [], 0⟩, ⟨t2, i2, ifs, 0⟩] scope pos) 0 it acc env = midTurn target iter.pos i2 (.ListComp elt [⟨target, iter, [], 0⟩, ⟨t2, i2, ifs, 0⟩] scope pos) 0 it acc env := by rfl
section
variable {prog : Program} {w : World} {A : Around} {R : Result → Shared → Prop} {s : Shared}
theorem start_any {elt : Expr} {gens : List Comprehension} {scope : Scope} {pos : Pos} {d : Nat} {target iter : Expr} {ifs : List Expr} {it acc : Value} {env : Env} (hg : gens[d]? = some ⟨target, iter, ifs, 0⟩)
    (h0 : codeAny (model prog w) A (.compLoop (.ListComp elt gens scope pos) d it acc env) R s)
    (h : wpAny (model prog w) A (pyIter it) (fun it' s' => codeAny (model prog w) A (.compLoop (.ListComp elt gens scope pos) d it' acc env) R s')
      (notedBy (model prog w) A env fun x s' => R (.error x) s') s) :
    codeAny (model prog w) A (.compStart (.ListComp elt gens scope pos) d it acc env) R s := by
  refine codeAny_of_tree ?_
  show wpAny _ _ ((compStart (.ListComp elt gens scope pos) d it acc env).onRaise (fun x => do noteFrame x env; standAt theWindowsPlace)) _ _ s
  refine wpAny_notedAt ?_
  unfold compStart
  have hc : (clausesOf (.ListComp elt gens scope pos))[d]? = some ⟨target, iter, ifs, 0⟩ := hg
  rw [hc]
  show wpAny _ _ (ask >>= _) _ _ s
  refine wpAny_bind (wpAny_askSetting (wpAny_ite ?_))
  split
  · first
      | exact wpAny_bind (wpAny_pure (wpAny_pure (And.intro rfl h0)))
      | exact wpAny_pure (And.intro rfl h0)
  · first
      | exact wpAny_bind (wpAny_rule (wpAny_bind (wpAny_standAt (wpAny_bind (wpAny_mono h (fun it' s' h' => wpAny_pure (And.intro rfl h')) fun _ _ x => x)))))
      | (refine wpAny_bind (wpAny_rule ?_); show wpAny _ _ (standAt iter.pos >>= _) _ _ s; exact wpAny_bind (wpAny_standAt (wpAny_bind (wpAny_mono h (fun it' s' h' => wpAny_pure (And.intro rfl h')) fun _ _ x => x))))
end
section
variable {c : Cx} {σ : St} {g : PM} {s : Shared}
noncomputable abbrev TT (c : Cx) (ifs : List Expr) := EvB c [] (fun _ => forIn ifs true fun e r => if r = true then do let ok ← isTrue e c.env (eval e c.env); pure (ForInStep.yield ok) else pure (ForInStep.yield r))
theorem TT_nil {B : Bool → St → Prop} (q : B true σ) : TT c [] σ B := fun g s vs R _ => wpAny_tests_nil ⟨g, σ, .refl _ _ _, R, q⟩
theorem TT_one {e : Expr} {B : Bool → St → Prop} (h : ET c e σ B) : TT c [e] σ B := fun g s vs R r => wpAny_tests_one (h g s vs R r)
theorem Needs.more {a : Addr} {D : Addr} {ob : AObj} (n : Needs c g σ a) : Needs c g { σ with heap := (D, ob) :: σ.heap } a := by
  rcases n with h | h | h | h | h
  · exact .inl h
  · exact .inr (.inl h)
  · exact .inr (.inr (.inl (by show a ∈ fpO D ob ++ fpH σ.heap; exact List.mem_append_right _ h)))
  · exact .inr (.inr (.inr (.inl h)))
  · exact .inr (.inr (.inr (.inr h)))
theorem Rel.drop {D : Addr} {ob : AObj} (R : Rel c g { σ with heap := (D, ob) :: σ.heap } s) : Rel c g σ s ∧ (∀ b ∈ fpO D ob, ¬ Needs c g σ b) ∧ RepO c.w g s.heap D ob := by
  have nd : (fpO D ob ++ fpH σ.heap).Nodup := R.nodup
  obtain ⟨n1, n2, dis⟩ := List.nodup_append.mp nd
  have inn : ∀ a, a ∈ fpO D ob → a ∈ fpH ((D, ob) :: σ.heap) := fun a h => List.mem_append_left _ h
  have inr : ∀ a, a ∈ fpH σ.heap → a ∈ fpH ((D, ob) :: σ.heap) := fun a h => (List.mem_append_right (fpO D ob) h : a ∈ fpO D ob ++ fpH σ.heap)
  refine ⟨{ ok := R.ok, sh := R.sh, pr := R.pr, gh := R.gh, nodup := n2, fpG := fun a h => R.fpG a (inr a h), fpP := fun a h => R.fpP a (inr a h), fpL := fun a h => R.fpL a (inr a h), fpLo := fun a h => R.fpLo a (inr a h)
            fpC := fun a h => R.fpC a (inr a h), objs := fun e he => R.objs e (List.mem_cons_of_mem _ he), gL := R.gL, gC := R.gC, fr := R.fr }, fun b hb n => ?_, R.objs _ List.mem_cons_self⟩
  rcases n with ⟨o, h⟩ | ⟨o, h⟩ | h | h | ⟨x, h⟩
  · rw [R.fpP b (inn b hb)] at h; cases h
  · rw [R.fpG b (inn b hb)] at h; cases h
  · exact dis b hb b h rfl
  · exact R.fpL b (inn b hb) h
  · exact R.fpC b (inn b hb) x b h rfl
theorem append_own {D : Addr} {acc : List SV} {y : SV} {v : Value} {P : Value → Shared → Prop} {E : Value → Shared → Prop} (R : Rel c g { σ with heap := (D, .list acc) :: σ.heap } s) (r : RepV g y v) (hsz : acc.length ≤ sizeLine)
    (h : ∀ s', Rel c g { σ with heap := (D, .list (acc ++ [y])) :: σ.heap } s' → (∀ b o, b ≠ D → s.heap.get? b = some o → s'.heap.get? b = some o) → P .none s') : wpAny (model pw c.w) c.A (call (.builtin "list.append") [.ref D, v]) P E s := by
  obtain ⟨R', hn, hr⟩ := R.drop
  have hD : ¬ Needs c g σ D := hn D (by simp [fpO])
  obtain ⟨vs, hl, rs⟩ := hr
  refine wpAny_list_append_plain hl (fun h' hl' hs' => ?_) (by simpa [rs.length] using hsz)
  have kb : ∀ b o, b ≠ D → s.heap.get? b = some o → h'.get? b = some o := fun b o hb e => (hs'.2 b hb).trans e
  refine h _ ?_ kb
  have R₂ : Rel c g σ { s with heap := h', toks := s.toks } := R'.heap fun a na o e => kb a o (fun q => hD (q ▸ na)) e
  have hO : D ∈ c.O ∨ c.lo ≤ D := R.fpLo D (by show D ∈ fpO D (.list acc) ++ _; simp [fpO])
  have hr₂ : LstAt g h' D (acc ++ [y]) := ⟨vs ++ [v], by simpa using hl', rs.snoc r⟩
  exact { ok := R₂.ok, sh := R₂.sh, pr := R₂.pr, gh := R₂.gh, nodup := R.nodup, fpG := R.fpG, fpP := R.fpP, fpL := R.fpL, fpLo := R.fpLo, fpC := R.fpC, gL := R.gL, gC := R.gC, fr := R₂.fr
          objs := fun e he => by
            rcases List.mem_cons.mp he with rfl | he
            · exact hr₂
            · exact R₂.objs e he }
theorem Rel.reattach {D : Addr} {ob : AObj} {g' : PM} {σ' : St} {s' : Shared} (R : Rel c g { σ with heap := (D, ob) :: σ.heap } s) (gx : GX c.lo (Pall c σ s) g g') (R₂ : Rel (c.pin (Pall c σ s)) g' σ' s') :
    GX c.lo c.pr g g' ∧ Rel c g' { σ' with heap := (D, ob) :: σ'.heap } s' ∧ ∀ b o, ¬ Needs c g { σ with heap := (D, ob) :: σ.heap } b → s.heap.get? b = some o → ¬ Needs c g' { σ' with heap := (D, ob) :: σ'.heap } b ∧ s'.heap.get? b = some o := by
  obtain ⟨R', hn, hr⟩ := R.drop
  have R₃ : Rel c g' σ' s' := R'.unpin (Pall.le R') R₂
  have off := fun b o (hb : ¬ Needs c g σ b) e => R'.off (b := b) (o := o) hb e gx R₂
  have keep : ∀ b ∈ fpO D ob, ∀ o, s.heap.get? b = some o → s'.heap.get? b = some o := fun b hb o e => (off b o (hn b hb) e).2
  have live : ∀ b ∈ fpO D ob, ∃ o, s.heap.get? b = some o := fun b hb => by
    have := hr.lt hb
    cases ob with
    | list l => simp only [fpO, List.mem_singleton] at hb; subst hb; obtain ⟨vs, ⟨_, e⟩, _⟩ := hr; exact ⟨_, e⟩
    | nest as ls =>
      simp only [fpO, List.mem_cons] at hb
      obtain ⟨⟨o, e, _⟩, hl, z⟩ := hr
      rcases hb with rfl | hb
      · exact ⟨o, e⟩
      · obtain ⟨i, hi, rfl⟩ := List.getElem_of_mem hb
        have hi' : i < ls.length := hl ▸ hi
        obtain ⟨vs, ⟨_, e⟩, _⟩ := z i as[i] ls[i] (by simp [hi]) (by simp [hi'])
        exact ⟨_, e⟩
    | sdict k => simp only [fpO, List.mem_singleton] at hb; subst hb; obtain ⟨_, ⟨o, _, _, e, _⟩, _⟩ := hr; exact ⟨o, e⟩
    | idict k => simp only [fpO, List.mem_singleton] at hb; subst hb; obtain ⟨_, ⟨o, _, _, e, _⟩, _⟩ := hr; exact ⟨o, e⟩
    | tdict k => simp only [fpO, List.mem_singleton] at hb; subst hb; obtain ⟨o, _, _, _, e, _⟩ := hr; exact ⟨o, e⟩
    | inst C d fs =>
      simp only [fpO, List.mem_cons, List.not_mem_nil, or_false] at hb
      obtain ⟨m, e, ⟨od, _, _, e', _, _⟩, _⟩ := hr
      rcases hb with rfl | rfl
      · exact ⟨_, e⟩
      · exact ⟨_, e'⟩
  have hn' : ∀ b ∈ fpO D ob, ¬ Needs c g' σ' b := fun b hb => by
    obtain ⟨o, e⟩ := live b hb
    exact (off b o (hn b hb) e).1
  have R₄ : Rel c g' { σ' with heap := (D, ob) :: σ'.heap } s' := {
    ok := R₃.ok, sh := R₃.sh, pr := R₃.pr, gh := R₃.gh, gL := R₃.gL, gC := R₃.gC, fr := R₃.fr
    nodup := by
      show (fpO D ob ++ fpH σ'.heap).Nodup
      have nd : (fpO D ob ++ fpH σ.heap).Nodup := R.nodup
      exact List.nodup_append.mpr ⟨(List.nodup_append.mp nd).1, R₃.nodup, fun x hx y hy e => hn' x hx (.inr (.inr (.inl (e ▸ hy))))⟩
    fpG := fun b hb => by
      rcases List.mem_append.mp (show b ∈ fpO D ob ++ fpH σ'.heap from hb) with h | h
      · cases e : g' b with
        | none => rfl
        | some o => exact absurd (.inr (.inl ⟨o, e⟩)) (hn' b h)
      · exact R₃.fpG b h
    fpP := fun b hb => by
      rcases List.mem_append.mp (show b ∈ fpO D ob ++ fpH σ'.heap from hb) with h | h
      · exact R.fpP b (List.mem_append_left _ h)
      · exact R₃.fpP b h
    fpL := fun b hb => by
      rcases List.mem_append.mp (show b ∈ fpO D ob ++ fpH σ'.heap from hb) with h | h
      · exact R.fpL b (List.mem_append_left _ h)
      · exact R₃.fpL b h
    fpLo := fun b hb => by
      rcases List.mem_append.mp (show b ∈ fpO D ob ++ fpH σ'.heap from hb) with h | h
      · exact R.fpLo b (List.mem_append_left _ h)
      · exact R₃.fpLo b h
    fpC := fun b hb => by
      rcases List.mem_append.mp (show b ∈ fpO D ob ++ fpH σ'.heap from hb) with h | h
      · exact R.fpC b (List.mem_append_left _ h)
      · exact R₃.fpC b h
    objs := fun e he => by
      rcases List.mem_cons.mp he with rfl | he
      · exact (hr.mono gx.1).keep keep
      · exact R₃.objs e he }
  refine ⟨gx.weak (Pall.le R'), R₄, fun b o hb e => ?_⟩
  have hb' : ¬ Needs c g σ b := fun n => hb n.more
  have q := off b o hb' e
  refine ⟨fun n => ?_, q.2⟩
  rcases n with h | h | h | h | h
  · exact q.1 (.inl h)
  · exact q.1 (.inr (.inl h))
  · rcases List.mem_append.mp (show b ∈ fpO D ob ++ fpH σ'.heap from h) with h | h
    · exact hb (.inr (.inr (.inl (List.mem_append_left _ h))))
    · exact q.1 (.inr (.inr (.inl h)))
  · exact q.1 (.inr (.inr (.inr (.inl h))))
  · exact q.1 (.inr (.inr (.inr (.inr h))))
end
end
section
section
variable {c : Cx} {σ : St} {g : PM} {s : Shared}
theorem iter_kept {target : Expr} {xs : List SV} {I : Addr} {St : Nat → Heap → Prop} {i : Nat} {g₁ : PM} {h h' : Heap} (it : It c.w c.A target g₁ xs I St) (st : St i h) (hI : ∀ o, h.get? I = some o → h'.get? I = some o)
    (hg : ∀ b o, g₁ b = some o → h.get? b = some o ∧ h'.get? b = some o) : St i h' := it.frame _ _ _ st fun b hb o e => by
  rcases hb with rfl | hb
  · exact hI o e
  · cases q : g₁ b with
    | none => exact absurd q hb
    | some o' => obtain ⟨e1, e2⟩ := hg b o' q; rw [e1] at e; cases e; exact e2
theorem comp_last {elt target iter : Expr} {ifs : List Expr} {gens : List Comprehension} {scope : Scope} {pos : Pos} {d : Nat} {D I : Addr} {xs : List SV} {St : Nat → Heap → Prop} {RR : Result → Shared → Prop} {acc₀ : List SV}
    (hg : gens[d]? = some ⟨target, iter, ifs, 0⟩) (ht : ∀ it acc env, compTurn (.ListComp elt gens scope pos) d it acc env = lastTurn elt target iter.pos ifs (.ListComp elt gens scope pos) d it acc env)
    (R : Rel c g { σ with heap := (D, .list acc₀) :: σ.heap } s) (it : It c.w c.A target g xs I St) (st : St 0 s.heap) (hI : ¬ Needs c g { σ with heap := (D, .list acc₀) :: σ.heap } I)
    (J : List SV → List SV → Mine.St → Prop) (hJ : J [] acc₀ σ) (hacc : ∀ pre acc σ, J pre acc σ → acc.length ≤ sizeLine)
    (step : ∀ P pre x post acc σ₂, xs = pre ++ x :: post → J pre acc σ₂ → AT (c.pin P) target x σ₂ fun σ₃ => TT (c.pin P) ifs σ₃ fun b σ₄ =>
      (b = true → EE (c.pin P) elt σ₄ fun y σ₅ => J (pre ++ [x]) (acc ++ [y]) σ₅) ∧ (b = false → J (pre ++ [x]) acc σ₄))
    (fin : ∀ g' σ' acc' s', GX c.lo c.pr g g' → Rel c g' { σ' with heap := (D, .list acc') :: σ'.heap } s' → J xs acc' σ' →
      (∀ b o, b ≠ I → ¬ Needs c g { σ with heap := (D, .list acc₀) :: σ.heap } b → s.heap.get? b = some o → ¬ Needs c g' { σ' with heap := (D, .list acc') :: σ'.heap } b ∧ s'.heap.get? b = some o) → RR (.ok .next) s') :
    codeAny (model pw c.w) c.A (.compStart (.ListComp elt gens scope pos) d (.ref I) (.ref D) c.env) RR s := by
  have loop : codeAny (model pw c.w) c.A (.compLoop (.ListComp elt gens scope pos) d (.ref I) (.ref D) c.env) RR s := by
    refine codeAny_loop rfl (fun k s' => ∃ g' σ' acc' i, i ≤ xs.length ∧ k = xs.length + 1 - i ∧ GX c.lo c.pr g g' ∧ Rel c g' { σ' with heap := (D, .list acc') :: σ'.heap } s' ∧ ¬ Needs c g' { σ' with heap := (D, .list acc') :: σ'.heap } I ∧
        St i s'.heap ∧ J (xs.take i) acc' σ' ∧ (∀ b o, b ≠ I → ¬ Needs c g { σ with heap := (D, .list acc₀) :: σ.heap } b → s.heap.get? b = some o → ¬ Needs c g' { σ' with heap := (D, .list acc') :: σ'.heap } b ∧ s'.heap.get? b = some o)) ?_ (xs.length + 1)
      ⟨g, σ, acc₀, 0, Nat.zero_le _, rfl, .refl _ _ _, R, hI, st, hJ, fun b o _ hn e => ⟨hn, e⟩⟩
    rintro k s' ⟨g', σ', acc', i, hi, rfl, gx, R', hI', hst', hJ', offs⟩
    show wpAny _ c.A ((compTurn (.ListComp elt gens scope pos) d (.ref I) (.ref D) c.env).onRaise (fun x => do noteFrame x c.env; theTreesLotGoes x)) _ _ s'
    refine wpAny_noted ?_
    rw [ht]
    unfold lastTurn
    have keepR : ∀ (h' : Heap) tk, (∀ b o, b ≠ I → s'.heap.get? b = some o → h'.get? b = some o) → Rel c g' { σ' with heap := (D, .list acc') :: σ'.heap } { s' with heap := h', toks := tk } := fun h' tk hk =>
      R'.heap fun a na o e => hk a o (fun q => hI' (q ▸ na)) e
    by_cases hlt : i < xs.length
    · refine wpAny_bind (wpAny_standAt (wpAny_bind ((it.grow gx.1).item i _ _ _ hlt hst' fun v h' tk ⟨x, hx, rx⟩ st₁ hk => ?_)))
      refine wpAny_bind ((it.grow gx.1).go _ _ _ _ _ st₁ ?_)
      have R₃ := keepR h' tk hk
      obtain ⟨oI, hoI⟩ := it.live _ _ st₁
      have hsplit : xs = xs.take i ++ x :: xs.drop (i + 1) := by
        obtain ⟨h1, h2⟩ := List.getElem?_eq_some_iff.mp hx
        rw [← h2, ← List.drop_eq_getElem_cons h1]
        exact (List.take_append_drop i xs).symm
      have htk : xs.take (i + 1) = xs.take i ++ [x] := by rw [List.take_add_one, hx]; rfl
      refine wpAny_bind (wpAny_mono (step (Pall c σ' { s' with heap := h', toks := tk }) (xs.take i) x (xs.drop (i + 1)) acc' σ' hsplit hJ' g' _ [v] R₃.drop.1.pinned ⟨v, [], rfl, rx, rfl⟩) (fun _ s₄ ⟨g₄, σ₄, x₄, R₄, q₄⟩ => ?_) fun _ _ f => f.elim)
      refine wpAny_bind (wpAny_mono (q₄ g₄ s₄ [] R₄ rfl) (fun b s₅ ⟨g₅, σ₅, x₅, R₅, q₅⟩ => ?_) fun _ _ f => f.elim)
      have stI : ∀ (hh : Heap) g₃, g'.le g₃ → (∀ o, h'.get? I = some o → hh.get? I = some o) → (∀ a o, g₃ a = some o → hh.get? a = some o) → St (i + 1) hh := fun hh g₃ le e1 e2 =>
        iter_kept it st₁ e1 fun b o q => ⟨R₃.gh b o (gx.1 b o q), e2 b o (le b o (gx.1 b o q))⟩
      cases b with
      | true =>
        refine wpAny_bind (wpAny_bind (wpAny_mono (q₅.1 rfl g₅ s₅ [] R₅ rfl) (fun u s₆ ⟨g₆, σ₆, y, x₆, R₆, ru, q₆⟩ => ?_) fun _ _ f => f.elim))
        obtain ⟨gx₆, R₆', off⟩ := R₃.reattach ((x₄.trans x₅).trans x₆) R₆
        have offI := off I oI hI' hoI
        refine wpAny_bind (append_own R₆' ru (hacc _ _ _ hJ') fun s₇ R₇ k₇ => wpAny_pure (wpAny_pure ⟨rfl, _, by exact om12 hi, g₆, σ₆, acc' ++ [y], i + 1, hlt, rfl, gx.trans gx₆, R₇, ?_, ?_, htk ▸ q₆, fun b o hb hn e => ?_⟩))
        · exact fun n => offI.1 n
        · have hID : I ≠ D := fun q => offI.1 (.inr (.inr (.inl (by rw [q]; show D ∈ fpO D (.list acc') ++ _; simp [fpO]))))
          refine stI _ g₆ gx₆.1 (fun o e => ?_) R₇.gh
          rw [hoI] at e; cases e
          exact k₇ I oI hID offI.2
        · have o1 := offs b o hb hn e
          have o2 := off b o o1.1 (hk b o hb o1.2)
          have hbD : b ≠ D := fun q => o2.1 (.inr (.inr (.inl (by rw [q]; show D ∈ fpO D (.list acc') ++ _; simp [fpO]))))
          exact ⟨fun n => o2.1 n, k₇ b o hbD o2.2⟩
      | false =>
        obtain ⟨gx₆, R₆', off⟩ := R₃.reattach (x₄.trans x₅) R₅
        have offI := off I oI hI' hoI
        refine wpAny_pure ⟨rfl, _, by exact om12 hi, g₅, σ₅, acc', i + 1, hlt, rfl, gx.trans gx₆, R₆', offI.1, ?_, htk ▸ q₅.2 rfl, fun b o hb hn e => ?_⟩
        · refine stI _ g₅ gx₆.1 (fun o e => ?_) R₆'.gh
          rw [hoI] at e; cases e
          exact offI.2
        · have o1 := offs b o hb hn e
          exact off b o o1.1 (hk b o hb o1.2)
    · have hin : i = xs.length := by exact om13 hi hlt
      subst hin
      rw [List.take_length] at hJ'
      refine wpAny_bind (wpAny_standAt (wpAny_bind (it.done _ _ _ hst' fun h' tk hk => wpAny_pure ?_)))
      exact fin g' σ' acc' _ gx (keepR h' tk hk) hJ' fun b o hb hn e => ⟨(offs b o hb hn e).1, hk b o hb (offs b o hb hn e).2⟩
  exact start_any hg loop (it.self _ _ _ _ st loop)
noncomputable def EvR (c : Cx) (elt : Expr) (gens : List Comprehension) (scope : Scope) (pos : Pos) (d : Nat) (sv : SV) (acc : List SV) (σ : Mine.St) (Q : List SV → Mine.St → Prop) : Prop :=
  ∀ D g s v, Rel c g { σ with heap := (D, .list acc) :: σ.heap } s → RepV g sv v →
    wpAny (model pw c.w) c.A (pyIter v) (fun it s₁ => wpAny (model pw c.w) c.A (runOwn (.compStart (.ListComp elt gens scope pos) d it (.ref D) c.env) c.env)
      (fun _ s' => ∃ g' σ' acc', GX c.lo c.pr g g' ∧ Rel c g' { σ' with heap := (D, .list acc') :: σ'.heap } s' ∧ Q acc' σ') (fun _ _ => False) s₁) (fun _ _ => False) s
theorem R_last {elt target iter : Expr} {ifs : List Expr} {gens : List Comprehension} {scope : Scope} {pos : Pos} {d : Nat} {sv : SV} {xs : List SV} {acc₀ : List SV} {Q : List SV → Mine.St → Prop}
    (hg : gens[d]? = some ⟨target, iter, ifs, 0⟩) (ht : ∀ it acc env, compTurn (.ListComp elt gens scope pos) d it acc env = lastTurn elt target iter.pos ifs (.ListComp elt gens scope pos) d it acc env)
    (its : Iters target sv xs) (J : List SV → List SV → Mine.St → Prop) (hJ : J [] acc₀ σ) (hacc : ∀ pre acc σ, J pre acc σ → acc.length ≤ sizeLine)
    (step : ∀ P pre x post acc σ₂, xs = pre ++ x :: post → J pre acc σ₂ → AT (c.pin P) target x σ₂ fun σ₃ => TT (c.pin P) ifs σ₃ fun b σ₄ =>
      (b = true → EE (c.pin P) elt σ₄ fun y σ₅ => J (pre ++ [x]) (acc ++ [y]) σ₅) ∧ (b = false → J (pre ++ [x]) acc σ₄))
    (fin : ∀ acc σ', J xs acc σ' → Q acc σ') : EvR c elt gens scope pos d sv acc₀ σ Q := fun D g s v R r =>
  iterate R r its fun I St s₂ it hst R₂ hI hIlo _ _ => wpAny_runOwn (comp_last hg ht R₂ it hst hI J hJ hacc step fun g' σ' acc' s' gx R' q _ => ⟨g', σ', acc', gx, R', fin _ _ q⟩)
theorem comp_mid {elt target iter iter2 : Expr} {gens : List Comprehension} {scope : Scope} {pos : Pos} {d : Nat} {D I : Addr} {xs : List SV} {St : Nat → Heap → Prop} {RR : Result → Shared → Prop} {acc₀ : List SV}
    (hg : gens[d]? = some ⟨target, iter, [], 0⟩) (ht : ∀ it acc env, compTurn (.ListComp elt gens scope pos) d it acc env = midTurn target iter.pos iter2 (.ListComp elt gens scope pos) d it acc env)
    (hs : ∀ x, foldedSetIterable iter2 c.env x = pure x)
    (R : Rel c g { σ with heap := (D, .list acc₀) :: σ.heap } s) (it : It c.w c.A target g xs I St) (st : St 0 s.heap) (hI : ¬ Needs c g { σ with heap := (D, .list acc₀) :: σ.heap } I)
    (J : List SV → List SV → Mine.St → Prop) (hJ : J [] acc₀ σ)
    (step : ∀ P pre x post acc σ₂, xs = pre ++ x :: post → J pre acc σ₂ → AT (c.pin P) target x σ₂ fun σ₃ => EE (c.pin P) iter2 σ₃ fun sv2 σ₄ => ∀ P2, EvR (c.pin P2) elt gens scope pos (d + 1) sv2 acc σ₄ fun acc' σ₅ => J (pre ++ [x]) acc' σ₅)
    (fin : ∀ g' σ' acc' s', GX c.lo c.pr g g' → Rel c g' { σ' with heap := (D, .list acc') :: σ'.heap } s' → J xs acc' σ' → RR (.ok .next) s') :
    codeAny (model pw c.w) c.A (.compStart (.ListComp elt gens scope pos) d (.ref I) (.ref D) c.env) RR s := by
  have loop : codeAny (model pw c.w) c.A (.compLoop (.ListComp elt gens scope pos) d (.ref I) (.ref D) c.env) RR s := by
    refine codeAny_loop rfl (fun k s' => ∃ g' σ' acc' i, i ≤ xs.length ∧ k = xs.length + 1 - i ∧ GX c.lo c.pr g g' ∧ Rel c g' { σ' with heap := (D, .list acc') :: σ'.heap } s' ∧ ¬ Needs c g' { σ' with heap := (D, .list acc') :: σ'.heap } I ∧
        St i s'.heap ∧ J (xs.take i) acc' σ') ?_ (xs.length + 1)
      ⟨g, σ, acc₀, 0, Nat.zero_le _, rfl, .refl _ _ _, R, hI, st, hJ⟩
    rintro k s' ⟨g', σ', acc', i, hi, rfl, gx, R', hI', hst', hJ'⟩
    show wpAny _ c.A ((compTurn (.ListComp elt gens scope pos) d (.ref I) (.ref D) c.env).onRaise (fun x => do noteFrame x c.env; theTreesLotGoes x)) _ _ s'
    refine wpAny_noted ?_
    rw [ht]
    unfold midTurn
    have keepR : ∀ (h' : Heap) tk, (∀ b o, b ≠ I → s'.heap.get? b = some o → h'.get? b = some o) → Rel c g' { σ' with heap := (D, .list acc') :: σ'.heap } { s' with heap := h', toks := tk } := fun h' tk hk =>
      R'.heap fun a na o e => hk a o (fun q => hI' (q ▸ na)) e
    by_cases hlt : i < xs.length
    · refine wpAny_bind (wpAny_standAt (wpAny_bind ((it.grow gx.1).item i _ _ _ hlt hst' fun v h' tk ⟨x, hx, rx⟩ st₁ hk => ?_)))
      refine wpAny_bind ((it.grow gx.1).go _ _ _ _ _ st₁ ?_)
      have R₃ := keepR h' tk hk
      obtain ⟨oI, hoI⟩ := it.live _ _ st₁
      have hsplit : xs = xs.take i ++ x :: xs.drop (i + 1) := by
        obtain ⟨h1, h2⟩ := List.getElem?_eq_some_iff.mp hx
        rw [← h2, ← List.drop_eq_getElem_cons h1]
        exact (List.take_append_drop i xs).symm
      have htk : xs.take (i + 1) = xs.take i ++ [x] := by rw [List.take_add_one, hx]; rfl
      refine wpAny_bind (wpAny_mono (step (Pall c σ' { s' with heap := h', toks := tk }) (xs.take i) x (xs.drop (i + 1)) acc' σ' hsplit hJ' g' _ [v] R₃.drop.1.pinned ⟨v, [], rfl, rx, rfl⟩) (fun _ s₄ ⟨g₄, σ₄, x₄, R₄, q₄⟩ => ?_) fun _ _ f => f.elim)
      refine wpAny_bind (wpAny_mono (q₄ g₄ s₄ [] R₄ rfl) (fun v2 s₅ ⟨g₅, σ₅, sv2, x₅, R₅, r5, q₅⟩ => ?_) fun _ _ f => f.elim)
      obtain ⟨gx₅, R₅', off₅⟩ := R₃.reattach (x₄.trans x₅) R₅
      have offI := off₅ I oI hI' hoI
      refine wpAny_bind (wpAny_standAt (wpAny_bind (wpAny_of_eq (hs _) ?_)))
      have run := q₅ (Pall c { σ₅ with heap := (D, .list acc') :: σ₅.heap } s₅) D g₅ s₅ v2 R₅'.pinned r5
      refine wpAny_bind (wpAny_holding (wpAny_mono run (fun itv s₆ h₆ => ?_) fun _ _ f => f.elim))
      refine wpAny_bind (wpAny_mono h₆ (fun _ s₇ ⟨g₇, σ₇, acc₇, gx₇, R₇, q₇⟩ => ?_) fun _ _ f => f.elim)
      have R₇' := R₅'.unpin (Pall.le R₅') R₇
      have off₇ := R₅'.off offI.1 offI.2 gx₇ R₇
      have gxx := gx₅.trans (gx₇.weak (Pall.le R₅'))
      refine wpAny_pure ⟨rfl, _, by exact om12 hi, g₇, σ₇, acc₇, i + 1, hlt, rfl, gx.trans gxx, R₇', off₇.1, ?_, htk ▸ q₇⟩
      refine iter_kept it st₁ (fun o e => ?_) fun b o q => ⟨R₃.gh b o (gx.1 b o q), R₇.gh b o (gxx.1 b o (gx.1 b o q))⟩
      rw [hoI] at e; cases e
      exact off₇.2
    · have hin : i = xs.length := by exact om13 hi hlt
      subst hin
      rw [List.take_length] at hJ'
      refine wpAny_bind (wpAny_standAt (wpAny_bind (it.done _ _ _ hst' fun h' tk hk => wpAny_pure ?_)))
      exact fin g' σ' acc' _ gx (keepR h' tk hk) hJ'
  exact start_any hg loop (it.self _ _ _ _ st loop)
end
end
section
noncomputable def clOf (env : Env) : List (Str × NameKind) → List (Str × Addr) → List (Str × Addr)
  | [], acc => acc
  | (n, k) :: r, acc => if k == .free then clOf env r ((n, (env.cells.lookup n).getD 0) :: acc) else clOf env r acc
theorem clOf_mem {env : Env} : ∀ (names : List (Str × NameKind)) (acc : List (Str × Addr)), (∀ p ∈ acc, env.cells.lookup p.1 = some p.2) → (∀ p ∈ names, p.2 = .free → (env.cells.lookup p.1).isSome) →
    ∀ p ∈ clOf env names acc, env.cells.lookup p.1 = some p.2
  | [], acc, ha, _, p, hp => ha p hp
  | (n, k) :: r, acc, ha, hn, p, hp => by
    unfold clOf at hp
    have hr := fun q hq => hn q (List.mem_cons_of_mem _ hq)
    split at hp
    · rename_i hk
      refine clOf_mem r _ (fun q hq => ?_) hr p hp
      rcases List.mem_cons.mp hq with rfl | hq
      · obtain ⟨a, ha⟩ := Option.isSome_iff_exists.mp (hn (n, k) List.mem_cons_self (by simpa using hk))
        simp [ha]
      · exact ha q hq
    · exact clOf_mem r acc ha hr p hp
theorem clOf_keys {env : Env} : ∀ (names : List (Str × NameKind)) (acc : List (Str × Addr)) (x : Str), ((x, NameKind.free) ∈ names ∨ x ∈ acc.map (·.1)) → x ∈ (clOf env names acc).map (·.1)
  | [], acc, x, h => by rcases h with h | h; cases h; exact h
  | (n, k) :: r, acc, x, h => by
    unfold clOf
    split
    · refine clOf_keys r _ x ?_
      rcases h with h | h
      · rcases List.mem_cons.mp h with e | h
        · cases e; exact .inr (by simp)
        · exact .inl h
      · exact .inr (List.mem_cons_of_mem _ h)
    · rename_i hk
      refine clOf_keys r _ x ?_
      rcases h with h | h
      · rcases List.mem_cons.mp h with e | h
        · cases e; exact absurd (show (NameKind.free == NameKind.free) = true from rfl) hk
        · exact .inl h
      · exact .inr h
theorem lookup_of_key {α : Type} : ∀ {l : List (Str × α)} {x : Str}, x ∈ l.map (·.1) → ∃ a, l.lookup x = some a
  | (n, a) :: r, x, h => by
    rw [List.lookup_cons]
    cases hx : x == n with
    | true => exact ⟨a, rfl⟩
    | false =>
      rcases List.mem_cons.mp h with e | h
      · rw [e] at hx; simp at hx
      · exact lookup_of_key h
theorem closure_eq {scope : Scope} {env : Env} (hn : ∀ p ∈ scope.names, p.2 = .free → (env.cells.lookup p.1).isSome) : closureFor scope env = pure (clOf env scope.names []) := by
  have key : ∀ (names : List (Str × NameKind)) (acc : List (Str × Addr)), (∀ p ∈ names, p.2 = .free → (env.cells.lookup p.1).isSome) →
      (forIn names acc fun (x : Str × NameKind) r => (if x.2 == .free then do let a ← cellOf env x.1; pure (ForInStep.yield ((x.1, a) :: r)) else pure (ForInStep.yield r) : Sem (ForInStep (List (Str × Addr))))) = pure (clOf env names acc) := by
    intro names
    induction names with
    | nil => intro acc _; rfl
    | cons p r ih =>
      intro acc hn
      obtain ⟨n, k⟩ := p
      have hr := fun q hq => hn q (List.mem_cons_of_mem _ hq)
      rw [List.forIn_cons]
      unfold clOf
      by_cases hk : (k == NameKind.free) = true
      · obtain ⟨a, ha⟩ := Option.isSome_iff_exists.mp (hn (n, k) List.mem_cons_self (by simpa using hk))
        have ha' : env.cells.lookup n = some a := ha
        simp only [hk, if_true]
        unfold cellOf
        rw [ha']
        exact ih _ hr
      · simp only [hk]
        exact ih _ hr
  exact congrArg (fun (m : Sem (List (Str × Addr))) => m >>= fun s => pure s) (key scope.names [] hn)
theorem cellsFrom_append : ∀ (names : List (Str × NameKind)) (n : Nat) (acc : List (Str × Addr)), cellsFrom n names acc = cellsFrom n names [] ++ acc
  | [], n, acc => rfl
  | (x, k) :: r, n, acc => by
    unfold cellsFrom
    split
    · rw [cellsFrom_append r (n + 1) ((x, n) :: acc), cellsFrom_append r (n + 1) [(x, n)]]; simp
    · exact cellsFrom_append r n acc
theorem cellsFrom_keys : ∀ (names : List (Str × NameKind)) (n : Nat) (x : Str) (a : Addr), (cellsFrom n names []).lookup x = some a → (x, NameKind.cell) ∈ names
  | [], n, x, a, h => by cases h
  | (y, k) :: r, n, x, a, h => by
    unfold cellsFrom at h
    split at h
    · rename_i hk
      rw [cellsFrom_append] at h
      have hm := mem_of_lookup h
      rcases List.mem_append.mp hm with q | q
      · have : ∃ a', (cellsFrom (n + 1) r []).lookup x = some a' := lookup_of_key (List.mem_map.mpr ⟨(x, a), q, rfl⟩)
        obtain ⟨a', h'⟩ := this
        exact List.mem_cons_of_mem _ (cellsFrom_keys r _ x a' h')
      · have := List.mem_singleton.mp q
        cases this
        have hk' : k = .cell := by simpa using hk
        rw [hk']; exact List.mem_cons_self
    · exact List.mem_cons_of_mem _ (cellsFrom_keys r _ x a h)
theorem lookup_app {α : Type} : ∀ (l l' : List (Str × α)) (x : Str), (l ++ l').lookup x = (l.lookup x).or (l'.lookup x)
  | [], l', x => by simp
  | (n, a) :: r, l', x => by
    rw [List.cons_append, List.lookup_cons, List.lookup_cons]
    cases hx : x == n with
    | true => rfl
    | false => exact lookup_app r l' x
theorem lookup_relabel {env : Env} : ∀ {names : List (Str × NameKind)} {x : Str} {k : NameKind}, names.lookup x = some k →
    (names.map fun (n, k) => if (k == NameKind.free && env.scope.kind == .function && env.kindOf n == some .cell) then (n, NameKind.cell) else (n, k)).lookup x =
      some (if (k == NameKind.free && env.scope.kind == .function && env.kindOf x == some .cell) then NameKind.cell else k)
  | [], _, _, h => by simp at h
  | (n, k) :: r, x, k', h => by
    have ih := @lookup_relabel env r x k'
    show List.lookup x ((if (k == NameKind.free && env.scope.kind == .function && env.kindOf n == some .cell) = true then (n, NameKind.cell) else (n, k)) :: _) = _
    cases hx : x == n with
    | true =>
      simp only [List.lookup_cons, hx] at h
      cases h
      obtain rfl := beq_iff_eq.mp hx
      split <;> simp [List.lookup_cons, *]
    | false =>
      simp only [List.lookup_cons, hx] at h
      by_cases hc : (k == NameKind.free && env.scope.kind == .function && env.kindOf n == some .cell) = true
      · rw [if_pos hc]; simp only [List.lookup_cons, hx]; exact ih h
      · rw [if_neg hc]; simp only [List.lookup_cons, hx]; exact ih h
noncomputable def compOk (env : Env) (scope : Scope) (tn fn gn : List Str) : Bool :=
  scope.kind == .function &&
  scope.names.all (fun p => (p.2 != .local || scope.names.lookup p.1 == some .local) && (p.2 != .free || (env.cells.lookup p.1).isSome)) &&
  tn.all (fun x => (scope.names.lookup x == some .local || scope.names.lookup x == some .cell) && !(x == ("__debug__" : Str))) &&
  fn.all (fun x => scope.names.lookup x == some .free && !(x == ("__debug__" : Str)) && !(x == ("__classdict__" : Str)) && scope.names.contains (x, .free) && !(scope.names.contains (x, .cell)) && env.kindOf x != some .local) &&
  gn.all (fun x => scope.names.lookup x == some .globalImplicit && !(x == ("__debug__" : Str)))
theorem wpAny_newCompEnv {M : Model} {A : Around} {E : Value → Shared → Prop} {s : Shared} {scope : Scope} {globals : Addr} {cl : List (Str × Addr)} {qual : Str} {env : Env} {Q : Env → Shared → Prop}
    (hQ : Q (newEnv scope s.heap.objs.size globals (cellsFrom (s.heap.objs.size + 1) scope.names cl) qual none .none (some env) builtinsNs) { s with heap := pushCells (s.heap.push { cls := .type "dict", data := .dict #[] }) scope.names }) :
    wpAny M A (newFunctionEnv scope globals cl [] qual none .none (some env)) Q E s := by
  simp only [newFunctionEnv, Option.isSome_some, if_true]
  refine wpAny_bind (wpAny_alloc ?_)
  refine wpAny_bind (wpAny_layCells _ (fun name kind cells => by cases hkc : kind == NameKind.cell <;> simp [hkc]) _ _ _ _ ?_)
  rw [show ({ s with heap := s.heap.push { cls := .type "dict", data := .dict #[] } } : Shared).heap.objs.size = s.heap.objs.size + 1 from Heap.size_push ..]
  refine wpAny_bind ?_
  rw [List.forIn_nil]
  exact wpAny_pure (wpAny_pure hQ)
inductive Gets : List Str → List SV → List Str → List SV → Prop
  | nil {ns : List Str} {vs : List SV} : Gets ns vs [] []
  | cons {ns : List Str} {vs : List SV} {x : Str} {v : SV} {fn : List Str} {fv : List SV} : (x, v) ∈ ns.zip vs → Gets ns vs fn fv → Gets ns vs (x :: fn) (v :: fv)
theorem Gets.length {ns : List Str} {vs : List SV} : ∀ {fn : List Str} {fv : List SV}, Gets ns vs fn fv → fn.length = fv.length
  | _, _, .nil => rfl
  | _, _, .cons _ t => by simp [t.length]
theorem Gets.mem {ns : List Str} {vs : List SV} : ∀ {fn : List Str} {fv : List SV}, Gets ns vs fn fv → ∀ p ∈ fn.zip fv, p ∈ ns.zip vs ∧ p.1 ∈ fn
  | _, _, .nil, p, h => by cases h
  | _, _, .cons m t, p, h => by
    rcases List.mem_cons.mp h with rfl | h
    · exact ⟨m, List.mem_cons_self⟩
    · exact ⟨(t.mem p h).1, List.mem_cons_of_mem _ (t.mem p h).2⟩
noncomputable abbrev compCx (c : Cx) (scope : Scope) (tn fn : List Str) (gl : List (Str × Value)) (C : Addr) (P : PM) : Cx :=
  { c with env := compEnvC scope (cellsFrom (C + 1) scope.names (clOf c.env scope.names [])) C c.env, ns := tn ++ fn, st := tn, gl := gl, own := cellsFrom (C + 1) scope.names [], pr := P }
open Classical in
noncomputable def P0 (σ : St) (s : Shared) : PM := fun b => if b ∈ fpH σ.heap then none else s.heap.get? b
end
section
section
variable {c : Cx} {σ : St} {g : PM} {s : Shared}
structure CompIn (c : Cx) (scope : Scope) (tn fn : List Str) (gl : List (Str × Value)) : Prop where
  ok : compOk c.env scope tn fn (gl.map (·.1)) = true
  sub : ∀ p ∈ gl, GlobIs c.w p.1 p.2
  nd : (tn ++ fn).Nodup
theorem CompIn.parts {scope : Scope} {tn fn : List Str} {gl : List (Str × Value)} (h : CompIn c scope tn fn gl) :
    scope.kind = .function ∧ (∀ p ∈ scope.names, (p.2 = .local → scope.names.lookup p.1 = some .local) ∧ (p.2 = .free → (c.env.cells.lookup p.1).isSome)) ∧
    (∀ x ∈ tn, (scope.names.lookup x = some .local ∨ scope.names.lookup x = some .cell) ∧ (x == ("__debug__" : Str)) = false) ∧
    (∀ x ∈ fn, scope.names.lookup x = some .free ∧ (x == ("__debug__" : Str)) = false ∧ (x == ("__classdict__" : Str)) = false ∧ (x, NameKind.free) ∈ scope.names ∧ (x, NameKind.cell) ∉ scope.names ∧ c.env.kindOf x ≠ some .local) ∧
    (∀ p ∈ gl, scope.names.lookup p.1 = some .globalImplicit ∧ (p.1 == ("__debug__" : Str)) = false) := by
  have := h.ok
  unfold compOk at this
  simp only [Bool.and_eq_true, List.all_eq_true, Bool.or_eq_true, bne_iff_ne, beq_iff_eq, Bool.not_eq_true', List.contains_iff_mem, ne_eq] at this
  obtain ⟨⟨⟨⟨h1, h2⟩, h3⟩, h4⟩, h5⟩ := this
  refine ⟨h1, fun p hp => ⟨fun e => ?_, fun e => ?_⟩, h3, fun x hx => ?_, fun p hp => h5 p.1 (List.mem_map_of_mem hp)⟩
  · rcases (h2 p hp).1 with q | q
    · exact absurd e q
    · exact q
  · rcases (h2 p hp).2 with q | q
    · exact absurd e q
    · exact q
  · obtain ⟨⟨⟨⟨⟨a, b⟩, d⟩, e⟩, f⟩, k⟩ := h4 x hx
    exact ⟨a, b, d, e, fun q => by rw [List.contains_iff_mem.mpr q] at f; exact Bool.noConfusion f, k⟩
theorem comp_enter {scope : Scope} {tn fn : List Str} {gl : List (Str × Value)} {fv : List SV} {s₂ : Shared} (ci : CompIn c scope tn fn gl) (R : Rel c g σ s) (gets : Gets c.ns σ.vals fn fv) (hk : ∀ a o, s.heap.get? a = some o → s₂.heap.get? a = some o)
    (hs : ∃ h tk, s₂ = { s with heap := h, toks := tk }) (hle : s.heap.objs.size ≤ s₂.heap.objs.size) :
    Rel (compCx c scope tn fn gl (s₂.heap.objs.size + 1) (P0 σ s)) g ⟨List.replicate tn.length .junk ++ fv, (s₂.heap.objs.size, .list []) :: σ.heap⟩
      { s₂ with heap := pushCells ((s₂.heap.push { cls := .type "list", dict := none, data := .seq ([] : List Value).toArray }).push { cls := .type "dict", data := .dict #[] }) scope.names } := by
  obtain ⟨hkind, hnm, htn, hfn, hgn⟩ := ci.parts
  have ok := R.ok
  generalize hH2 : s₂.heap.push { cls := .type "list", dict := none, data := .seq ([] : List Value).toArray } = H2
  have hC : H2.objs.size = s₂.heap.objs.size + 1 := by rw [← hH2, Heap.size_push]
  have cok := cellsFrom_ok scope.names (H2.push { cls := .type "dict", data := .dict #[] }) (s₂.heap.objs.size + 2) [] ⟨fun _ _ hm => (nomatch hm), List.Pairwise.nil⟩ (by rw [Heap.size_push, hC]; exact Nat.le_refl _)
  rw [Heap.size_push, hC] at cok
  have up : ∀ a o, s₂.heap.get? a = some o → (pushCells (H2.push { cls := .type "dict", data := .dict #[] }) scope.names).get? a = some o := fun a o e =>
    pushCells_keeps _ _ a o (Heap.get?_push_of_some _ (hH2 ▸ Heap.get?_push_of_some _ e))
  have p0 : ∀ a, s.heap.objs.size ≤ a → P0 σ s a = none := fun a ha => by
    unfold P0; split
    · rfl
    · cases e : s.heap.get? a with
      | none => rfl
      | some o => exact absurd (Heap.lt_size e) (Nat.not_lt.mpr ha)
  have p1 : ∀ a o, s.heap.get? a = some o → a ∉ fpH σ.heap → P0 σ s a = some o := fun a o e hn => by unfold P0; rw [if_neg hn]; exact e
  have need : ∀ a, Needs c g σ a → a < s.heap.objs.size := fun a n => R.needs_lt n
  have gN : ∀ a, s.heap.objs.size ≤ a → g a = none := fun a ha => by
    cases e : g a with
    | none => rfl
    | some o => exact absurd (need a (.inr (.inl ⟨o, e⟩))) (Nat.not_lt.mpr ha)
  have fpLt : ∀ a ∈ fpH σ.heap, a < s.heap.objs.size := fun a h => need a (.inr (.inr (.inl h)))
  have lo := R.lo
  have cLt : ∀ x a, (cellsFrom (s₂.heap.objs.size + 1 + 1) scope.names []).lookup x = some a → s₂.heap.objs.size + 2 ≤ a := fun x a h => (cok.empty x a (mem_of_lookup h)).2
  have cells : ∀ x, (compCx c scope tn fn gl (s₂.heap.objs.size + 1) (P0 σ s)).env.cells.lookup x = ((cellsFrom (s₂.heap.objs.size + 1 + 1) scope.names []).lookup x).or ((clOf c.env scope.names []).lookup x) := fun x => by
    show (cellsFrom _ _ _).lookup x = _
    rw [cellsFrom_append, lookup_app]
  have ownCells : ∀ x a, (cellsFrom (s₂.heap.objs.size + 1 + 1) scope.names []).lookup x = some a → (compCx c scope tn fn gl (s₂.heap.objs.size + 1) (P0 σ s)).env.cells.lookup x = some a := fun x a h => by rw [cells, h]; rfl
  obtain ⟨m, cm, n, cl, vs⟩ := R.fr
  have staticCell : ∀ x a, c.env.cells.lookup x = some a → ∃ o, P0 σ s a = some o := fun x a h => by
    rcases ok.clo x a h with q | ⟨o, q⟩
    · obtain ⟨o, ho, _⟩ := cl x a q
      exact ⟨o, p1 a o ho fun hm => R.fpC a hm x a q rfl⟩
    · exact ⟨o, p1 a o (R.pr a o q) fun hm => by rw [R.fpP a hm] at q; cases q⟩
  have clm := clOf_mem (env := c.env) scope.names [] (fun _ h => nomatch h) (fun p hp => (hnm p hp).2)
  exact {
    ok := {
      kind := hkind
      glob := ok.glob
      blt := ok.blt
      W := ok.W
      base := fun b o e => by
        have := ok.base b o e
        exact p1 b o (R.pr b o this) fun hm => by rw [R.fpP b hm] at this; cases this
      dbg := fun x hx => by
        rcases List.mem_append.mp hx with h | h
        · exact (htn x h).2
        · exact (hfn x h).2.1
      stok := fun x hx => by
        rcases (htn x hx).1 with h | h
        · refine .inl ((lookup_relabel h).trans ?_); rfl
        · obtain ⟨a, ha⟩ := Option.isSome_iff_exists.mp (cellsFrom_some scope.names (s₂.heap.objs.size + 1 + 1) [] (.inl h))
          exact .inr ⟨(lookup_relabel h).trans rfl, a, ha, ownCells x a ha⟩
      glok := fun p hp => by
        obtain ⟨h1, h2⟩ := hgn p hp
        exact ⟨(lookup_relabel h1).trans rfl, h2, ci.sub p hp⟩
      nd := ci.nd
      room := ok.room
      locF := p0 _ (by show _ ≤ s₂.heap.objs.size + 1; exact om14 hle)
      locG := by show c.lo ≤ s₂.heap.objs.size + 1; exact om15 hle lo
      ownF := fun x a h => by
        have := cLt x a h
        exact ⟨p0 a (by exact om16 hle this), by show c.lo ≤ a; exact om17 hle lo this, (Nat.ne_of_gt (by exact om18 this) : a ≠ s₂.heap.objs.size + 1)⟩
      ownA := cok.apart
      inter := by show ((relabel scope c.env).kind == .module && _) = false; rw [show (relabel scope c.env).kind = .function from hkind]; rfl
      clo := fun x a h => by
        rw [cells] at h
        cases q : (cellsFrom (s₂.heap.objs.size + 1 + 1) scope.names []).lookup x with
        | some b => rw [q] at h; exact .inl h
        | none =>
          rw [q] at h
          have h' : (clOf c.env scope.names []).lookup x = some a := h
          exact .inr (staticCell x a (clm _ (mem_of_lookup h'))) }
    sh := by
      obtain ⟨h, tk, e⟩ := hs
      obtain ⟨h0, tk0, e0⟩ := R.sh
      exact ⟨_, tk, by rw [e, e0]⟩
    pr := fun a o e => by
      have e' : P0 σ s a = some o := e
      unfold P0 at e'
      split at e'
      · cases e'
      · exact up a o (hk a o e')
    gh := fun a o e => up a o (hk a o (R.gh a o e))
    nodup := by
      show ([s₂.heap.objs.size] ++ fpH σ.heap).Nodup
      exact List.nodup_append.mpr ⟨by simp, R.nodup, fun x hx y hy e => by
        have := fpLt y hy
        rw [List.mem_singleton.mp hx] at e; exact absurd (e ▸ this : s₂.heap.objs.size < s.heap.objs.size) (Nat.not_lt.mpr hle)⟩
    fpG := fun a h => by
      rcases List.mem_append.mp (show a ∈ [s₂.heap.objs.size] ++ fpH σ.heap from h) with h | h
      · rw [List.mem_singleton.mp h]; exact gN _ hle
      · exact R.fpG a h
    fpP := fun a h => by
      rcases List.mem_append.mp (show a ∈ [s₂.heap.objs.size] ++ fpH σ.heap from h) with h | h
      · rw [List.mem_singleton.mp h]; exact p0 _ hle
      · show P0 σ s a = none; unfold P0; rw [if_pos h]
    fpL := fun a h => by
      rcases List.mem_append.mp (show a ∈ [s₂.heap.objs.size] ++ fpH σ.heap from h) with h | h
      · rw [List.mem_singleton.mp h]; exact (Nat.ne_of_lt (Nat.lt_succ_self _) : s₂.heap.objs.size ≠ s₂.heap.objs.size + 1)
      · exact (Nat.ne_of_lt (Nat.lt_of_lt_of_le (fpLt a h) (Nat.le_trans hle (Nat.le_succ _))) : a ≠ s₂.heap.objs.size + 1)
    fpLo := fun a h => by
      rcases List.mem_append.mp (show a ∈ [s₂.heap.objs.size] ++ fpH σ.heap from h) with h | h
      · rw [List.mem_singleton.mp h]; exact .inr (by show c.lo ≤ _; exact om19 hle lo)
      · exact R.fpLo a h
    fpC := fun a h x b hb => by
      have := cLt x b hb
      rcases List.mem_append.mp (show a ∈ [s₂.heap.objs.size] ++ fpH σ.heap from h) with h | h
      · rw [List.mem_singleton.mp h]; exact Nat.ne_of_lt (by exact om20 this)
      · exact Nat.ne_of_lt (Nat.lt_of_lt_of_le (fpLt a h) (Nat.le_trans hle (Nat.le_trans (Nat.le_add_right _ 2) this)))
    objs := fun e he => by
      rcases List.mem_cons.mp he with rfl | he
      · refine ⟨[], ⟨_, pushCells_keeps _ _ _ _ (Heap.get?_push_of_some _ (hH2 ▸ Heap.get?_push_size _ rfl))⟩, rfl⟩
      · exact (R.objs e he).keep fun b _ o ho => up b o (hk b o ho)
    gL := gN _ (by show _ ≤ s₂.heap.objs.size + 1; exact om14 hle)
    gC := fun x a h => gN a (by have := cLt x a h; exact om16 hle this)
    fr := by
      refine ⟨fun _ => none, fun _ => none, ?_, fun x a h => (cok.empty x a (mem_of_lookup h)).1, fun p hp => ?_⟩
      · have := (Heap.Ns.new H2 (.type "dict")).keeps (pushCells_keeps scope.names _)
        rw [hC] at this
        exact this
      · rw [List.zip_append (by simp)] at hp
        rcases List.mem_append.mp hp with h | h
        · exact .inl (List.eq_of_mem_replicate (List.of_mem_zip h).2)
        · obtain ⟨h1, h2⟩ := gets.mem p h
          refine (vs p h1).imp id fun ⟨v, hv, r⟩ => ⟨v, ?_, r⟩
          obtain ⟨f1, f2, f3, f4, f5, f6⟩ := hfn p.1 h2
          obtain ⟨a, ha⟩ := lookup_of_key (clOf_keys (env := c.env) scope.names [] p.1 (.inl f4))
          have hca : c.env.cells.lookup p.1 = some a := clm _ (mem_of_lookup ha)
          have hnone : (cellsFrom (s₂.heap.objs.size + 1 + 1) scope.names []).lookup p.1 = none := by
            cases q : (cellsFrom (s₂.heap.objs.size + 1 + 1) scope.names []).lookup p.1 with
            | none => rfl
            | some b => exact absurd (cellsFrom_keys _ _ _ _ q) f5
          have hcc : (compCx c scope tn fn gl (s₂.heap.objs.size + 1) (P0 σ s)).env.cells.lookup p.1 = some a := by rw [cells, hnone, ha]; rfl
          have val : ∃ o, P0 σ s a = some o ∧ o.data = .cell (some v) := by
            rcases hv with ⟨k, e⟩ | ⟨k, ⟨b, l1, l2⟩, e⟩ | ⟨k, b, o, l, q, e⟩ | ⟨k, kd, b, o, l, q, e⟩
            · exact absurd k f6
            · rw [hca] at l2; cases l2
              obtain ⟨o, ho, hd⟩ := cl _ _ l1
              exact ⟨o, p1 _ o ho fun hm => R.fpC _ hm _ _ l1 rfl, by rw [hd, e]⟩
            · rw [hca] at l; cases l
              exact ⟨o, p1 _ o (R.pr _ o q) fun hm => (by rw [R.fpP _ hm] at q; cases q), e⟩
            · rw [hca] at l; cases l
              exact ⟨o, p1 _ o (R.pr _ o q) fun hm => (by rw [R.fpP _ hm] at q; cases q), e⟩
          obtain ⟨o, ho, hd⟩ := val
          have kk := lookup_relabel (env := c.env) f1
          by_cases hc : (NameKind.free == NameKind.free && c.env.scope.kind == .function && c.env.kindOf p.1 == some .cell) = true
          · rw [if_pos hc] at kk
            exact .inr (.inr (.inl ⟨kk, a, o, hcc, ho, hd⟩))
          · rw [if_neg hc] at kk
            exact .inr (.inr (.inr ⟨kk, f3, a, o, hcc, ho, hd⟩)) }
end
end
section
section
variable {c : Cx} {σ : St} {g : PM} {s : Shared}
theorem comp_leave {scope : Scope} {tn fn : List Str} {gl : List (Str × Value)} {C D : Addr} {g' : PM} {vals' : List SV} {acc : List SV} {H : AHeap} {s' : Shared} (R : Rel c g σ s) (hC : s.heap.objs.size ≤ C) (hD : s.heap.objs.size ≤ D)
    (gx : GX c.lo (P0 σ s) g g') (R' : Rel (compCx c scope tn fn gl C (P0 σ s)) g' ⟨vals', (D, .list acc) :: H⟩ s') :
    ∃ g'', GX c.lo c.pr g g'' ∧ Rel c g'' ⟨σ.vals, H⟩ s' ∧ ¬ Needs c g'' ⟨σ.vals, H⟩ C ∧ RepV g'' (.lst acc) (.ref D) ∧ C ≠ D ∧ ∃ m, s'.heap.Ns C m := by
  have ok := R.ok
  obtain ⟨m, cm, n, cl, vs⟩ := R.fr
  have p1 : ∀ a o, s.heap.get? a = some o → a ∉ fpH σ.heap → P0 σ s a = some o := fun a o e hn => by unfold P0; rw [if_neg hn]; exact e
  have le : c.pr.le (P0 σ s) := fun a o e => p1 a o (R.pr a o e) fun hm => by rw [R.fpP a hm] at e; cases e
  have need : ∀ a, Needs c g σ a → a < s.heap.objs.size := fun a n => R.needs_lt n
  have locLt : c.env.locals < s.heap.objs.size := n.lt
  have locP : ∃ o, P0 σ s c.env.locals = some o := by
    obtain ⟨o, es, ep, ho, r⟩ := n
    exact ⟨o, p1 _ o ho fun hm => R.fpL _ hm rfl⟩
  have ownP : ∀ x a, c.own.lookup x = some a → ∃ o, P0 σ s a = some o := fun x a h => by
    obtain ⟨o, ho, _⟩ := cl x a h
    exact ⟨o, p1 _ o ho fun hm => R.fpC _ hm x a h rfl⟩
  have ownLt : ∀ x a, c.own.lookup x = some a → a < s.heap.objs.size := fun x a h => (cl x a h).lt
  obtain ⟨R₁, hn, hr⟩ := R'.drop (σ := ⟨vals', H⟩)
  have hDn := hn D (by simp [fpO])
  have keepP : ∀ a o, P0 σ s a = some o → s'.heap.get? a = some o := fun a o e => R₁.pr a o e
  have prOf : ∀ a, P0 σ s a = none → c.pr a = none := fun a e => by
    cases q : c.pr a with
    | none => rfl
    | some o => rw [le a o q] at e; cases e
  have R₂ : Rel c g' ⟨σ.vals, H⟩ s' := {
    ok := ok
    sh := R₁.sh
    pr := fun a o e => keepP a o (le a o e)
    gh := R₁.gh
    nodup := R₁.nodup
    fpG := R₁.fpG
    fpP := fun a h => prOf a (R₁.fpP a h)
    fpL := fun a h e => by
      obtain ⟨o, ho⟩ := locP
      have : P0 σ s a = none := R₁.fpP a h
      rw [e, ho] at this; cases this
    fpLo := R₁.fpLo
    fpC := fun a h x b hb e => by
      obtain ⟨o, ho⟩ := ownP x b hb
      have : P0 σ s a = none := R₁.fpP a h
      rw [e, ho] at this; cases this
    objs := R₁.objs
    gL := by
      cases q : g' c.env.locals with
      | none => rfl
      | some o' =>
        obtain ⟨o, ho⟩ := locP
        have := (gx.2 _ R.gL (by rw [q]; exact nofun)).2
        rw [ho] at this; cases this
    gC := fun x a h => by
      cases q : g' a with
      | none => rfl
      | some o' =>
        obtain ⟨o, ho⟩ := ownP x a h
        have := (gx.2 _ (R.gC x a h) (by rw [q]; exact nofun)).2
        rw [ho] at this; cases this
    fr := by
      refine ⟨m, cm, n.at' fun o e => keepP _ o (p1 _ o e fun hm => R.fpL _ hm rfl), fun x a h => ?_, fun p hp => (vs p hp).imp id fun ⟨v, hv, r⟩ => ⟨v, hv, r.mono gx.1⟩⟩
      obtain ⟨o, ho, hd⟩ := cl x a h
      exact ⟨o, keepP _ o (p1 _ o ho fun hm => R.fpC _ hm x a h rfl), hd⟩ }
  have prNone : ∀ a, s.heap.objs.size ≤ a → c.pr a = none := fun a ha => by
    cases q : c.pr a with
    | none => rfl
    | some o => exact absurd (Heap.lt_size (R.pr a o q)) (Nat.not_lt.mpr ha)
  have hD₂ : ¬ Needs c g' ⟨σ.vals, H⟩ D := fun n => by
    rcases n with ⟨o, h⟩ | ⟨o, h⟩ | h | h | ⟨x, h⟩
    · rw [prNone D hD] at h; cases h
    · exact hDn (.inr (.inl ⟨o, h⟩))
    · exact hDn (.inr (.inr (.inl h)))
    · exact absurd locLt (Nat.not_lt.mpr (h ▸ hD))
    · exact absurd (ownLt x D h) (Nat.not_lt.mpr hD)
  have hCD : C ≠ D := fun e => hDn (.inr (.inr (.inr (.inl e.symm))))
  obtain ⟨us, ⟨on, ho⟩, rs⟩ := hr
  have lo := R.lo
  obtain ⟨g'', gx₂, R₃, hg, hge⟩ := R₂.frozen2 (Nat.le_trans lo hD) hD₂ ho
  refine ⟨g'', (gx.weak le).trans gx₂, R₃, fun n => ?_, ⟨D, _, us, on, rfl, hg, rfl, rfl, rs.mono gx₂.1⟩, hCD, ?_⟩
  · rcases n with ⟨o, h⟩ | ⟨o', h⟩ | h | h | ⟨x, h⟩
    · rw [prNone C hC] at h; cases h
    · have gC' : g' C = none := R₁.gL
      rw [hge C hCD, gC'] at h; cases h
    · exact R₁.fpL C h rfl
    · exact absurd locLt (Nat.not_lt.mpr (h ▸ hC))
    · exact absurd (ownLt x C h) (Nat.not_lt.mpr hC)
  · obtain ⟨m', _, n', _⟩ := R₁.fr
    exact ⟨m', n'⟩
theorem cellsFrom_ge {lo : Nat} : ∀ (names : List (Str × NameKind)) (n : Nat) (acc : List (Str × Addr)), (∀ p ∈ acc, lo ≤ p.2) → lo ≤ n → ∀ p ∈ cellsFrom n names acc, lo ≤ p.2
  | [], n, acc, ha, _, p, hp => ha p hp
  | (y, k) :: r, n, acc, ha, hn, p, hp => by
    unfold cellsFrom at hp
    split at hp
    · refine cellsFrom_ge r (n + 1) _ (fun q hq => ?_) (Nat.le_succ_of_le hn) p hp
      rcases List.mem_cons.mp hq with rfl | hq
      · exact hn
      · exact ha q hq
    · exact cellsFrom_ge r n acc ha hn p hp
noncomputable def CompRun (c : Cx) (elt target iter : Expr) (ifs : List Expr) (gens : List Comprehension) (scope : Scope) (pos : Pos) (tn fn : List Str) (gl : List (Str × Value)) (fv : List SV) (H : AHeap) (xs : List SV) (Q : List SV → AHeap → Prop) : Prop :=
  ∀ (C : Addr) (P : PM), (∀ (D I : Addr) (T : Nat → Heap → Prop) (g : PM) (s : Shared) (RR : Result → Shared → Prop), Rel (compCx c scope tn fn gl C P) g ⟨List.replicate tn.length .junk ++ fv, (D, .list []) :: H⟩ s → It c.w c.A target g xs I T → T 0 s.heap → ¬ Needs (compCx c scope tn fn gl C P) g ⟨List.replicate tn.length .junk ++ fv, (D, .list []) :: H⟩ I →
    (∀ (g' : PM) (σ' : Mine.St) (acc : List SV) (s' : Shared), GX c.lo P g g' → Rel (compCx c scope tn fn gl C P) g' { σ' with heap := (D, .list acc) :: σ'.heap } s' → Q acc σ'.heap → RR (.ok .next) s') →
    codeAny (model pw c.w) c.A (.compStart (.ListComp elt (⟨target, iter, ifs, 0⟩ :: gens) scope pos) 0 (.ref I) (.ref D) (compCx c scope tn fn gl C P).env) RR s)
theorem comp_core {elt target iter : Expr} {ifs : List Expr} {gens : List Comprehension} {scope : Scope} {pos ipos : Pos} {tn fn : List Str} {gl : List (Str × Value)} {use : Option (Value → Sem Unit)} {QQ : Value → Shared → Prop}
    (hs : ∀ x, foldedSetIterable iter c.env x = pure x) (ci : CompIn c scope tn fn gl)
    (R : Rel c g σ s)
    (h : EE c iter σ fun sv σ₁ => ∃ xs fv, Iters target sv xs ∧ Gets c.ns σ₁.vals fn fv ∧ ∃ Q, CompRun c elt target iter ifs gens scope pos tn fn gl fv σ₁.heap xs Q ∧
      ∀ g' acc H s' C D, GX c.lo c.pr g g' → Rel c g' ⟨σ₁.vals, H⟩ s' → ¬ Needs c g' ⟨σ₁.vals, H⟩ C → RepV g' (.lst acc) (.ref D) → (∃ m, s'.heap.Ns C m) → Q acc H → compPost (model pw c.w) c.A (fun _ _ => False) use QQ (.ref D) C (.ok .next) s') :
    wpAny (model pw c.w) c.A (comprehension (.ListComp elt (⟨target, iter, ifs, 0⟩ :: gens) scope pos) scope c.env ipos (newList []) false (eval iter c.env) use) QQ (fun _ _ => False) s := by
  obtain ⟨hkind, hnm, htn, hfn, hgn⟩ := ci.parts
  refine wpAny_comprehension_free rfl hs (closure_eq fun p hp => (hnm p hp).2) hkind (fun x hx e => (hnm x hx).1 e) ?_
  refine stage R (xs := []) (vs := []) rfl h fun g₁ σ₁ s₁ sv v x₁ R₁ r₁ q₁ => ?_
  obtain ⟨u, e, r⟩ := rep1 r₁
  cases e
  obtain ⟨xs, fv, its, gets, Q, run, fin⟩ := q₁
  refine iterate R₁ r its fun I St s₂ it hst R₂ hI hIlo hsz up => ?_
  refine wpAny_newObj_type (wpAny_newCompEnv ?_)
  have hle : s₁.heap.objs.size ≤ s₂.heap.objs.size := by
    obtain ⟨oI, hoI⟩ := it.live _ _ hst
    have := Heap.lt_size hoI
    rw [← hsz] at this
    exact Nat.le_of_lt this
  have hIlt : I < s₂.heap.objs.size := by obtain ⟨oI, hoI⟩ := it.live _ _ hst; exact Heap.lt_size hoI
  have hsh : ∃ h tk, s₂ = { s₁ with heap := h, toks := tk } := by
    obtain ⟨h, t, e1⟩ := R₁.sh
    obtain ⟨h', t', e2⟩ := R₂.sh
    exact ⟨h', t', by rw [e1, e2]⟩
  have Rc := comp_enter ci R₁ gets up hsh hle
  have hsz2 : (s₂.heap.push { cls := .type "list", dict := none, data := .seq ([] : List Value).toArray }).objs.size = s₂.heap.objs.size + 1 := Heap.size_push ..
  have hup : ∀ a o, s₂.heap.get? a = some o → (pushCells ((s₂.heap.push { cls := .type "list", dict := none, data := .seq ([] : List Value).toArray }).push { cls := .type "dict", data := .dict #[] }) scope.names).get? a = some o := fun a o e =>
    pushCells_keeps _ _ a o (Heap.get?_push_of_some _ (Heap.get?_push_of_some _ e))
  have key := run (s₂.heap.objs.size + 1) (P0 σ₁ s₁) s₂.heap.objs.size I St g₁ _ (compPost (model pw c.w) c.A (fun _ _ => False) use QQ (.ref s₂.heap.objs.size) (s₂.heap.objs.size + 1)) Rc it
    (it.frame _ _ _ hst fun b hb o e => hup b o e) ?_ ?_
  · dsimp only
    rw [hsz2]
    exact key
  · rintro (⟨o, h⟩ | ⟨o, h⟩ | h | h | ⟨x, h⟩)
    · have h' : P0 σ₁ s₁ I = some o := h
      unfold P0 at h'
      split at h'
      · cases h'
      · exact absurd (Heap.lt_size h') (Nat.not_lt.mpr (Nat.le_of_eq hsz))
    · exact hI (.inr (.inl ⟨o, h⟩))
    · rcases List.mem_append.mp (show I ∈ [s₂.heap.objs.size] ++ fpH σ₁.heap from h) with h | h
      · exact Nat.lt_irrefl _ (List.mem_singleton.mp h ▸ hIlt)
      · exact hI (.inr (.inr (.inl h)))
    · exact absurd (show I = s₂.heap.objs.size + 1 from h) (Nat.ne_of_lt (Nat.lt_succ_of_lt hIlt))
    · exact absurd (cellsFrom_ge (lo := s₂.heap.objs.size + 1 + 1) scope.names _ [] (fun _ h => nomatch h) (Nat.le_refl _) _ (mem_of_lookup h)) (Nat.not_le.mpr (Nat.lt_trans hIlt (Nat.lt_trans (Nat.lt_succ_self _) (Nat.lt_succ_self _))))
  · intro g' σ' acc s' gx R' q
    obtain ⟨g'', gx₂, R₃, hn, rv, hCD, hm⟩ := comp_leave (vals' := σ'.vals) (H := σ'.heap) R₁ (Nat.le_trans hle (Nat.le_succ _)) hle gx R'
    exact fin g'' acc σ'.heap s' _ _ (x₁.trans gx₂) R₃ hn rv hm q
end
end
section
section
variable {c : Cx} {σ : St} {g : PM} {s : Shared}
noncomputable def Back (tn : List Str) (fv : List SV) (σ : St) : Prop := ∃ tv, tv.length = tn.length ∧ σ.vals = tv ++ fv
theorem Rel.forget {tn fn : List Str} {tv fv : List SV} {H : AHeap} (hns : c.ns = tn ++ fn) (hl : tv.length = tn.length) (R : Rel c g ⟨tv ++ fv, H⟩ s) : Rel c g ⟨List.replicate tn.length .junk ++ fv, H⟩ s where
  ok := R.ok
  sh := R.sh
  pr := R.pr
  gh := R.gh
  nodup := R.nodup
  fpG := R.fpG
  fpP := R.fpP
  fpL := R.fpL
  fpLo := R.fpLo
  fpC := R.fpC
  objs := R.objs
  gL := R.gL
  gC := R.gC
  fr := by
    obtain ⟨m, cm, n, cl, vs⟩ := R.fr
    refine ⟨m, cm, n, cl, fun p hp => ?_⟩
    rw [hns, List.zip_append (by simp)] at hp
    rcases List.mem_append.mp hp with h | h
    · exact .inl (List.eq_of_mem_replicate (List.of_mem_zip h).2)
    · refine vs p ?_
      rw [hns, List.zip_append hl.symm]
      exact List.mem_append_right _ h
section
variable {elt target iter t2 i2 : Expr} {ifs : List Expr} {scope : Scope} {pos : Pos} {tn fn : List Str} {gl : List (Str × Value)} {fv xs : List SV} {H₀ : AHeap} {Q : List SV → AHeap → Prop}
theorem run_one (J : List SV → List SV → AHeap → Prop) (h0 : J [] [] H₀) (hacc : ∀ pre acc H, J pre acc H → acc.length ≤ sizeLine)
    (step : ∀ C P pre x post acc H, xs = pre ++ x :: post → J pre acc H → AT (compCx c scope tn fn gl C P) target x ⟨List.replicate tn.length .junk ++ fv, H⟩ fun σ₃ => TT (compCx c scope tn fn gl C P) ifs σ₃ fun b σ₄ =>
      (b = true → EE (compCx c scope tn fn gl C P) elt σ₄ fun y σ₅ => Back tn fv σ₅ ∧ J (pre ++ [x]) (acc ++ [y]) σ₅.heap) ∧ (b = false → Back tn fv σ₄ ∧ J (pre ++ [x]) acc σ₄.heap))
    (fin : ∀ acc H, J xs acc H → Q acc H) : CompRun c elt target iter ifs [] scope pos tn fn gl fv H₀ xs Q := fun C P D I T g s RR R it st hI k =>
  comp_last (c := compCx c scope tn fn gl C P) (σ := ⟨List.replicate tn.length .junk ++ fv, H₀⟩) (acc₀ := []) (d := 0) (elt := elt) rfl (fun _ _ _ => turn_one ..) R it st hI (fun pre acc σ => Back tn fv σ ∧ J pre acc σ.heap) ⟨⟨_, List.length_replicate, rfl⟩, h0⟩ (fun pre acc σ h => hacc _ _ _ h.2)
    (fun P' pre x post acc σ₂ hx ⟨⟨tv, hl, hv⟩, hJ⟩ => by
      intro g s vs R r
      have e : σ₂ = ⟨tv ++ fv, σ₂.heap⟩ := by rw [← hv]
      rw [e] at R
      exact step C P' pre x post acc σ₂.heap hx hJ g s vs (R.forget rfl hl) r)
    fun g' σ' acc s' gx R' q _ => k g' σ' acc s' gx R' (fin _ _ q.2)
theorem run_two {t2n : Str} {tn' : List Str} (htn : tn = t2n :: tn') (J : List SV → List SV → AHeap → Prop) (h0 : J [] [] H₀) (hs : ∀ env x, foldedSetIterable i2 env x = pure x)
    (step : ∀ C P pre x post acc H, xs = pre ++ x :: post → J pre acc H → AT (compCx c scope tn fn gl C P) target x ⟨List.replicate tn.length .junk ++ fv, H⟩ fun σ₃ => EE (compCx c scope tn fn gl C P) i2 σ₃ fun sv2 σ₄ =>
      ∃ xs2 fv2, Iters t2 sv2 xs2 ∧ (∃ v, σ₄.vals = v :: fv2) ∧ fv2.length = (tn' ++ fn).length ∧ (∃ tv, tv.length = tn'.length ∧ fv2 = tv ++ fv) ∧ ∃ J2 : List SV → List SV → AHeap → Prop, J2 [] acc σ₄.heap ∧ (∀ pre acc H, J2 pre acc H → acc.length ≤ sizeLine) ∧
        (∀ P2 pre2 x2 post2 acc2 H2, xs2 = pre2 ++ x2 :: post2 → J2 pre2 acc2 H2 → AT (compCx c scope tn fn gl C P2) t2 x2 ⟨.junk :: fv2, H2⟩ fun σ₅ => TT (compCx c scope tn fn gl C P2) ifs σ₅ fun b σ₆ =>
          (b = true → EE (compCx c scope tn fn gl C P2) elt σ₆ fun y σ₇ => Back [t2n] fv2 σ₇ ∧ J2 (pre2 ++ [x2]) (acc2 ++ [y]) σ₇.heap) ∧ (b = false → Back [t2n] fv2 σ₆ ∧ J2 (pre2 ++ [x2]) acc2 σ₆.heap)) ∧
        (∀ acc2 H2, J2 xs2 acc2 H2 → J (pre ++ [x]) acc2 H2))
    (fin : ∀ acc H, J xs acc H → Q acc H) : CompRun c elt target iter [] [⟨t2, i2, ifs, 0⟩] scope pos tn fn gl fv H₀ xs Q := fun C P D I T g s RR R it st hI k =>
  comp_mid (c := compCx c scope tn fn gl C P) (σ := ⟨List.replicate tn.length .junk ++ fv, H₀⟩) (acc₀ := []) (d := 0) (elt := elt) (iter2 := i2) rfl (fun _ _ _ => turn_mid ..) (fun x => hs _ x) R it st hI (fun pre acc σ => Back tn fv σ ∧ J pre acc σ.heap) ⟨⟨_, List.length_replicate, rfl⟩, h0⟩
    (fun P' pre x post acc σ₂ hx ⟨⟨tv, hl, hv⟩, hJ⟩ => by
      intro g s vs R r
      have e : σ₂ = ⟨tv ++ fv, σ₂.heap⟩ := by rw [← hv]
      rw [e] at R
      refine wpAny_mono (step C P' pre x post acc σ₂.heap hx hJ g s vs (R.forget rfl hl) r) (fun _ s₃ ⟨g₃, σ₃, gx₃, R₃, q₃⟩ => ⟨g₃, σ₃, gx₃, R₃, ?_⟩) fun _ _ f => f
      refine EvV.mono q₃ fun sv2 σ₄ ⟨xs2, fv2, its, ⟨v, hv4⟩, hlen, ⟨tv2, htv2, hfv2⟩, J2, j0, jacc, st2, fin2⟩ P2 => ?_
      refine R_last (c := compCx c scope tn fn gl C P2) (d := 1) (elt := elt) rfl (fun _ _ _ => turn_two ..) its (fun pre acc σ => Back [t2n] fv2 σ ∧ J2 pre acc σ.heap) ⟨⟨[v], rfl, hv4⟩, j0⟩ (fun pre acc σ h => jacc _ _ _ h.2)
        (fun P3 pre2 x2 post2 acc2 σ₅ hx2 ⟨⟨tv3, hl3, hv3⟩, hJ2⟩ => ?_) fun acc2 σ₆ ⟨⟨tv4, hl4, hv4'⟩, hJ2⟩ => ⟨?_, fin2 _ _ hJ2⟩
      · intro g s vs R r
        have e : σ₅ = ⟨tv3 ++ fv2, σ₅.heap⟩ := by rw [← hv3]
        rw [e] at R
        exact st2 P3 pre2 x2 post2 acc2 σ₅.heap hx2 hJ2 g s vs (R.forget (tn := [t2n]) (fn := tn' ++ fn) (by show tn ++ fn = _; rw [htn]; rfl) hl3) r
      · refine ⟨tv4 ++ tv2, ?_, ?_⟩
        · rw [htn, List.length_append, hl4, htv2]; simp; exact om21
        · rw [hv4', hfv2]; simp)
    fun g' σ' acc s' gx R' q => k g' σ' acc s' gx R' (fin _ _ q.2)
end
theorem E_lc {elt target iter : Expr} {ifs : List Expr} {gens : List Comprehension} {scope : Scope} {pos : Pos} (tn fn : List Str) (gl : List (Str × Value)) {QQ : SV → St → Prop}
    (ci : CompIn c scope tn fn gl)
    (h : EE c iter σ fun sv σ₁ => ∃ xs fv, Iters target sv xs ∧ Gets c.ns σ₁.vals fn fv ∧ CompRun c elt target iter ifs gens scope pos tn fn gl fv σ₁.heap xs fun acc H => QQ (.lst acc) ⟨σ₁.vals, H⟩)
    (hs : ∀ x, foldedSetIterable iter c.env x = pure x := by intro _; rfl) : EE c (.ListComp elt (⟨target, iter, ifs, 0⟩ :: gens) scope pos) σ QQ := fun g s vs R _ => by
  show wpAny _ _ (eval (.ListComp elt (⟨target, iter, ifs, 0⟩ :: gens) scope pos) c.env) _ _ _
  rw [eval_ListComp]
  refine comp_core (use := none) hs ci R (EvV.mono h fun sv σ₁ ⟨xs, fv, its, gets, run⟩ => ⟨xs, fv, its, gets, _, run, fun g' acc H s' C D gx R' hn rv hm q => ?_⟩)
  obtain ⟨m, hm⟩ := hm
  refine ⟨m, hm, fun h' hs' => ⟨g', _, _, gx, ?_, rv, q⟩⟩
  exact R'.heap (tk := s'.toks) fun a na o e => (hs'.2 a (fun q => hn (q ▸ na))).trans e
theorem S_lc {x : Str} {p' p : Pos} {elt target iter : Expr} {ifs : List Expr} {gens : List Comprehension} {scope : Scope} {pos : Pos} (tn fn : List Str) (gl : List (Str × Value)) {F : Fl → St → Prop}
    (hsw : swapsWith (.ListComp elt (⟨target, iter, ifs, 0⟩ :: gens) scope pos) (some (.Name x p')) p.line c.env = pure true)
    (ci : CompIn c scope tn fn gl) (hx : x ∈ c.st)
    (h : EE c iter σ fun sv σ₁ => ∃ xs fv, Iters target sv xs ∧ Gets c.ns σ₁.vals fn fv ∧ CompRun c elt target iter ifs gens scope pos tn fn gl fv σ₁.heap xs fun acc H => ∃ vals', Put c.ns σ₁.vals x (.lst acc) vals' ∧ F .next ⟨vals', H⟩)
    (hs : ∀ x, foldedSetIterable iter c.env x = pure x := by intro _; rfl) (hsync : firstAsync (⟨target, iter, ifs, 0⟩ :: gens) = false := by rfl) : SS c (.Assign [.Name x p'] (.ListComp elt (⟨target, iter, ifs, 0⟩ :: gens) scope pos) p) σ F := fun g s R => by
  rw [exec_Assign_Name_used _ _ _ _ hsw]
  refine wpAny_bind (wpAny_standAt (wpAny_bind ?_))
  show wpAny _ _ (do let _ ← comprehension (.ListComp elt (⟨target, iter, ifs, 0⟩ :: gens) scope pos) scope c.env _ (newList []) false (eval iter c.env) (some (assign (.Name x p') c.env))) _ _ s
  refine wpAny_bind (wpAny_mono (comp_core (use := some (assign (.Name x p') c.env)) (QQ := fun _ s' => ∃ g' σ' fl, GX c.lo c.pr g g' ∧ Rel c g' σ' s' ∧ RepF g' fl .next ∧ F fl σ') hs ci R
    (EvV.mono h fun sv σ₁ ⟨xs, fv, its, gets, run⟩ => ⟨xs, fv, its, gets, _, run, fun g' acc H s' C D gx R' hn rv hm ⟨vals', hp, q⟩ => ?_⟩)) (fun _ s' hq => wpAny_pure (wpAny_pure hq)) fun _ _ f => f)
  obtain ⟨m, oC, es, ep, hoC, hrest⟩ := hm
  show wpAny _ _ (assign (.Name x p') c.env (.ref D)) _ _ _
  refine wpAny_assign_Name (st_name (c := c.pin (Pall c ⟨σ₁.vals, H⟩ s')) (σ := ⟨σ₁.vals, H⟩) R'.pinned rv hp hx fun s'' R'' => ?_)
  have off := R'.off hn hoC (.refl _ _ _) R''
  have R₃ := R'.unpin (Pall.le R') R''
  refine ⟨m, ⟨oC, es, ep, off.2, hrest⟩, fun h' hs' => ⟨g', ⟨vals', H⟩, .next, gx, ?_, rfl, q⟩⟩
  exact R₃.heap (tk := s''.toks) fun a na o e => (hs'.2 a (fun q => off.1 (q ▸ na))).trans e
end
end
section
inductive HUpd : AHeap → Addr → AObj → AObj → AHeap → Prop where
  | here {a : Addr} {ob ob' : AObj} {H : AHeap} : HUpd ((a, ob) :: H) a ob ob' ((a, ob') :: H)
  | next {a : Addr} {ob ob' : AObj} {y : Addr × AObj} {H H' : AHeap} : HUpd H a ob ob' H' → HUpd (y :: H) a ob ob' (y :: H')
theorem HUpd.split {H H' : AHeap} {a : Addr} {ob ob' : AObj} (u : HUpd H a ob ob' H') : ∃ pre post, H = pre ++ (a, ob) :: post ∧ H' = pre ++ (a, ob') :: post := by
  induction u with
  | here => exact ⟨[], _, rfl, rfl⟩
  | next _ ih => obtain ⟨p, q, e1, e2⟩ := ih; exact ⟨_ :: p, q, by rw [e1]; rfl, by rw [e2]; rfl⟩
theorem HUpd.fp {H H' : AHeap} {a : Addr} {ob ob' : AObj} (u : HUpd H a ob ob' H') (hf : fpO a ob' = fpO a ob) : fpH H' = fpH H := by
  obtain ⟨p, q, e1, e2⟩ := u.split
  rw [e1, e2]
  unfold fpH
  simp only [List.flatMap_append, List.flatMap_cons, fpE, hf]
theorem HUpd.mem {H H' : AHeap} {a : Addr} {ob ob' : AObj} (u : HUpd H a ob ob' H') : (a, ob) ∈ H := by
  obtain ⟨p, q, e1, _⟩ := u.split; rw [e1]; simp
section
variable {c : Cx} {σ : St} {g : PM} {s : Shared}
theorem Rel.mutate {a : Addr} {ob ob' : AObj} {H' : AHeap} {h' : Heap} {tk : Nat} (R : Rel c g σ s) (u : HUpd σ.heap a ob ob' H') (hf : fpO a ob' = fpO a ob)
    (hk : ∀ b o, b ∉ fpO a ob → s.heap.get? b = some o → h'.get? b = some o) (hr : RepO c.w g h' a ob') : Rel c g { σ with heap := H' } { s with heap := h', toks := tk } := by
  have hfp := u.fp hf
  obtain ⟨p, q, e1, e2⟩ := u.split
  have inn : ∀ b ∈ fpO a ob, b ∈ fpH σ.heap := fun b hb => mem_fpH (e := (a, ob)) u.mem hb
  have off : ∀ b, b ∉ fpH σ.heap → ∀ o, s.heap.get? b = some o → h'.get? b = some o := fun b hb o e => hk b o (fun h => hb (inn b h)) e
  have nd : (fpH p ++ (fpO a ob ++ fpH q)).Nodup := by
    have := R.nodup; rw [e1] at this; unfold fpH at this ⊢; simpa [fpE] using this
  obtain ⟨n1, n2, d1⟩ := List.nodup_append.mp nd
  obtain ⟨n3, n4, d2⟩ := List.nodup_append.mp n2
  obtain ⟨m, cm, n, cl, vs⟩ := R.fr
  exact {
    ok := R.ok
    sh := by obtain ⟨h, t, rfl⟩ := R.sh; exact ⟨h', tk, rfl⟩
    pr := fun b o e => off b (fun h => by rw [R.fpP b h] at e; cases e) o (R.pr b o e)
    gh := fun b o e => off b (fun h => by rw [R.fpG b h] at e; cases e) o (R.gh b o e)
    nodup := by show (fpH H').Nodup; rw [hfp]; exact R.nodup
    fpG := fun b h => R.fpG b (hfp ▸ h)
    fpP := fun b h => R.fpP b (hfp ▸ h)
    fpL := fun b h => R.fpL b (hfp ▸ h)
    fpLo := fun b h => R.fpLo b (hfp ▸ h)
    fpC := fun b h => R.fpC b (hfp ▸ h)
    gL := R.gL
    gC := R.gC
    objs := fun e he => by
      have he' : e ∈ p ++ (a, ob') :: q := e2 ▸ he
      rcases List.mem_append.mp he' with h | h
      · refine (R.objs e (by rw [e1]; exact List.mem_append_left _ h)).keep fun b hb o ho => hk b o (fun hm => ?_) ho
        exact d1 b (mem_fpH h hb) b (List.mem_append_left _ hm) rfl
      · rcases List.mem_cons.mp h with rfl | h
        · exact hr
        · refine (R.objs e (by rw [e1]; exact List.mem_append_right _ (List.mem_cons_of_mem _ h))).keep fun b hb o ho => hk b o (fun hm => ?_) ho
          exact d2 b hm b (mem_fpH h hb) rfl
    fr := by
      refine ⟨m, cm, n.at' fun o e => off _ (fun h => R.fpL _ h rfl) o e, fun x b h => ?_, vs⟩
      obtain ⟨o, ho, r⟩ := cl x b h
      exact ⟨o, off b (fun hm => R.fpC b hm x b h rfl) o ho, r⟩ }
theorem Rel.freeze {a : Addr} {l : List SV} {H : AHeap} (R : Rel c g σ s) (t : Take σ.heap (a, .list l) H) (hlo : c.lo ≤ a) :
    ∃ g', GX c.lo c.pr g g' ∧ Rel c g' { σ with heap := H } s ∧ RepV g' (.lst l) (.ref a) := by
  have pm := t.perm
  have R₁ : Rel c g { σ with heap := (a, .list l) :: H } s := {
    ok := R.ok, sh := R.sh, pr := R.pr, gh := R.gh, gL := R.gL, gC := R.gC, fr := R.fr
    nodup := (fpH_perm pm).nodup_iff.mp R.nodup
    fpG := fun b h => R.fpG b ((mem_fpH_perm pm).mpr h)
    fpP := fun b h => R.fpP b ((mem_fpH_perm pm).mpr h)
    fpL := fun b h => R.fpL b ((mem_fpH_perm pm).mpr h)
    fpLo := fun b h => R.fpLo b ((mem_fpH_perm pm).mpr h)
    fpC := fun b h => R.fpC b ((mem_fpH_perm pm).mpr h)
    objs := fun e he => R.objs e (pm.mem_iff.mpr he) }
  obtain ⟨R₂, hn, vs, ⟨n, ho⟩, rs⟩ := R₁.drop (σ := { σ with heap := H })
  obtain ⟨g', gx, R₃, hg⟩ := R₂.frozen hlo (hn a (by simp [fpO])) ho
  exact ⟨g', gx, R₃, a, _, vs, n, rfl, hg, rfl, rfl, rs.mono gx.1⟩
theorem EvV.frz {xs : List SV} {t : List Value → Sem Value} {Q : SV → St → Prop} (h : EvV c xs t σ fun sv σ₁ => ∃ a l H, sv = .ref a ∧ Take σ₁.heap (a, .list l) H ∧ c.lo ≤ a ∧ Q (.lst l) { σ₁ with heap := H }) : EvV c xs t σ Q := fun g s vs R r =>
  wpAny_mono (h g s vs R r) (fun v s' ⟨g₁, σ₁, sv, gx, R₁, r₁, a, l, H, e, t, hlo, q⟩ => by
    subst e
    obtain ⟨g', gx', R', rv⟩ := R₁.freeze t hlo
    have r₁' : v = .ref a := r₁
    subst r₁'
    exact ⟨g', _, .lst l, gx.trans gx', R', rv, q⟩) fun _ _ f => f
variable {Q : SV → St → Prop}
theorem E_list {elts : List Expr} {pos : Pos} (h : ES c pos elts σ fun svs σ₁ => svs.length ≤ sizeLine ∧ ∀ a, c.lo ≤ a → Q (.ref a) { σ₁ with heap := (a, .list svs) :: σ₁.heap }) : EE c (.List elts pos) σ Q := fun g s vs R _ => by
  show wpAny _ _ (eval (.List elts pos) c.env) _ _ _
  rw [arm_eval_List]
  refine wpAny_bind (wpAny_standAt (wpAny_bind (stageL R (xs := []) (vs := []) rfl h fun g₁ σ₁ s₁ svs ws gx R₁ rs _ q => ?_)))
  refine wpAny_newList ?_ (by rw [rs.length]; exact q.1)
  have R₂ : Rel c g₁ σ₁ { s₁ with heap := s₁.heap.push { cls := .type "list", data := .seq ws.toArray } } := R₁.ext (tk := s₁.toks) fun a o e => Heap.get?_push_of_some _ e
  have hD : ¬ Needs c g₁ σ₁ s₁.heap.objs.size := R₁.fresh
  refine ⟨g₁, _, .ref s₁.heap.objs.size, gx, R₂.adopt (a := s₁.heap.objs.size) (ob := .list svs) ?_ ?_ ?_ ?_, rfl, q.2 _ R₁.lo⟩
  · intro b hb; rw [List.mem_singleton.mp (show b ∈ [s₁.heap.objs.size] from hb)]; exact hD
  · intro b hb; rw [List.mem_singleton.mp (show b ∈ [s₁.heap.objs.size] from hb)]; exact R₁.lo
  · show [s₁.heap.objs.size].Nodup; simp
  · exact ⟨ws, ⟨0, Heap.get?_push_size _ rfl⟩, rs⟩
theorem E_listF {elts : List Expr} {pos : Pos} (h : ES c pos elts σ fun svs σ₁ => svs.length ≤ sizeLine ∧ Q (.lst svs) σ₁) : EE c (.List elts pos) σ Q := fun g s vs R _ => by
  show wpAny _ _ (eval (.List elts pos) c.env) _ _ _
  rw [arm_eval_List]
  refine wpAny_bind (wpAny_standAt (wpAny_bind (stageL R (xs := []) (vs := []) rfl h fun g₁ σ₁ s₁ svs ws gx R₁ rs _ q => ?_)))
  refine wpAny_newList ?_ (by rw [rs.length]; exact q.1)
  obtain ⟨g₂, gx₂, R₂, hg⟩ := R₁.push (o := { cls := .type "list", data := .seq ws.toArray }) rfl
  exact ⟨g₂, _, .lst svs, gx.trans gx₂, R₂, ⟨_, _, ws, _, rfl, hg, rfl, rfl, rs.mono gx₂.1⟩, q.2⟩
theorem E_tuple {elts : List Expr} {k : Nat} {pos : Pos} (h : ES c pos elts σ fun svs σ₁ => svs.length ≤ sizeLine ∧ Q (.tup svs) σ₁) : EE c (.Tuple elts k pos) σ Q := fun g s vs R _ => by
  show wpAny _ _ (eval (.Tuple elts k pos) c.env) _ _ _
  rw [arm_eval_Tuple]
  refine wpAny_bind (wpAny_standAt (wpAny_bind (stageL R (xs := []) (vs := []) rfl h fun g₁ σ₁ s₁ svs ws gx R₁ rs _ q => ?_)))
  refine wpAny_newTuple ?_ (by rw [rs.length]; exact q.1)
  obtain ⟨g₂, gx₂, R₂, hg⟩ := R₁.push (o := { cls := .type "tuple", data := .seq ws.toArray }) rfl
  exact ⟨g₂, _, .tup svs, gx.trans gx₂, R₂, ⟨_, _, ws, _, rfl, hg, rfl, rfl, rs.mono gx₂.1⟩, q.2⟩
end
end
section
section
variable {c : Cx} {σ : St} {g : PM} {s : Shared} {Q : SV → St → Prop} {F : Fl → St → Prop}
noncomputable def GM (c : Cx) (ov : SV) (name : Str) (f : Value) (σ : St) : Prop := ∀ g s v, Rel c g σ s → RepV g ov v → ∀ (pl : Sem Bool) (P : Value × List Value → Shared → Prop) (E : Value → Shared → Prop), P (f, [v]) s → wpAny (model pw c.w) c.A (getMethod v name pl) P E s
theorem E_methB {o : Expr} {name : Str} {apos pos : Pos} {args : List Expr} {pl : Sem Bool} (id : String) (h : EE c o σ fun ov σ₁ => GM c ov name (.builtin id) σ₁ ∧ ES c pos args σ₁ fun vs σ₂ => CallV c (.builtin id) (ov :: vs) σ₂ Q)
    (hpl : (backTo pos (starEach args c.env)).any (·.1) = false := by rfl)
    (he : eval (.Call (.Attribute o name apos) args [] pos) c.env = (do
      let ov ← eval o c.env
      standAt apos.atName
      let (f, first) ← holding [ov] (getMethod ov name pl)
      callWith pos f first (backTo pos (starEach args c.env)) []) := by rfl) : EE c (.Call (.Attribute o name apos) args [] pos) σ Q := fun g s vs R _ =>
  MethodCall_ (stage R (xs := []) (vs := []) rfl h fun g₁ σ₁ s₁ ov va x₁ R₁ r₁ q₁ => by
    obtain ⟨u, e, r⟩ := rep1 r₁
    cases e
    refine q₁.1 g₁ s₁ va R₁ r pl _ _ (callWith_builtin hpl (evalArgs_sp hpl ?_))
    refine stageL R₁ (xs := [ov]) (vs := [va]) ⟨va, [], rfl, r, rfl⟩ q₁.2 fun g₂ σ₂ s₂ svs ws x₂ R₂ rs r₂ q₂ => ?_
    obtain ⟨u, e, r'⟩ := rep1 r₂
    cases e
    exact lift (x₁.trans x₂) q₂ R₂ ⟨va, ws, rfl, r', rs⟩) he
theorem E_methF {o : Expr} {name : Str} {apos pos : Pos} {args : List Expr} {pl : Sem Bool} (a : Addr) (fd : FuncData) (hK : ∀ w : World, ∃ oc od sl, (KK w.params).lookup a = some ⟨oc, od, .func fd, sl⟩)
    (h : EE c o σ fun ov σ₁ => GM c ov name (.ref a) σ₁ ∧ ES c pos args σ₁ fun vs σ₂ => CallV c (.ref a) (ov :: vs) σ₂ Q)
    (hpl : (backTo pos (starEach args c.env)).any (·.1) = false := by rfl)
    (he : eval (.Call (.Attribute o name apos) args [] pos) c.env = (do
      let ov ← eval o c.env
      standAt apos.atName
      let (f, first) ← holding [ov] (getMethod ov name pl)
      callWith pos f first (backTo pos (starEach args c.env)) []) := by rfl) : EE c (.Call (.Attribute o name apos) args [] pos) σ Q := fun g s vs R _ =>
  MethodCall_ (stage R (xs := []) (vs := []) rfl h fun g₁ σ₁ s₁ ov va x₁ R₁ r₁ q₁ => by
    obtain ⟨u, e, r⟩ := rep1 r₁
    cases e
    obtain ⟨oc, od, sl, hk⟩ := hK c.w
    refine q₁.1 g₁ s₁ va R₁ r pl _ _ (callWith_function (o := ⟨oc, od, .func fd, sl⟩) (fd := fd) (evalArgs_sp hpl ?_))
    refine stageL R₁ (xs := [ov]) (vs := [va]) ⟨va, [], rfl, r, rfl⟩ q₁.2 fun g₂ σ₂ s₂ svs ws x₂ R₂ rs r₂ q₂ => ⟨⟨R₂.world.K _ _ hk, rfl⟩, ?_⟩
    obtain ⟨u, e, r'⟩ := rep1 r₂
    cases e
    exact lift (x₁.trans x₂) q₂ R₂ ⟨va, ws, rfl, r', rs⟩) he
theorem GM_list {a : Addr} {l : List SV} {name : Str} {id : String} (hm : (a, AObj.list l) ∈ σ.heap) (slot : Slot "list" name id) (hty : typeOf (.builtin id) = pure (.type "method_descriptor")) : GM c (.ref a) name (.builtin id) σ := fun g s v R r pl P E h => by
  have r' : v = .ref a := r
  subst r'
  obtain ⟨vs, ⟨n, ho⟩, rs⟩ := R.objs _ hm
  exact getMethod_builtin ⟨_, ho, rfl⟩ PySem.F.plainAttrs_list slot hty (fun b e => by cases e; exact ⟨_, ho, rfl⟩) h
theorem C_append {a : Addr} {l : List SV} {y : SV} {H' : AHeap} (u : HUpd σ.heap a (.list l) (.list (l ++ [y])) H') (hsz : l.length ≤ sizeLine) (q : Q .none { σ with heap := H' }) : CallV c (.builtin "list.append") [.ref a, y] σ Q := fun g s vs R r => by
  obtain ⟨v1, v2, rfl, r1, r2⟩ := rep2 r
  have r1' : v1 = .ref a := r1
  subst r1'
  obtain ⟨ws, hl, rs⟩ := R.objs _ u.mem
  refine wpAny_list_append_plain hl (fun h' hl' hs' => ?_) (by simpa [rs.length] using hsz)
  refine done1 (sv := .none) (R.mutate (h' := h') (tk := s.toks) u rfl (fun b o hb e => (hs'.2 b (fun q => hb (by rw [q]; simp [fpO]))).trans e) ⟨ws ++ [v2], by simpa using hl', rs.snoc r2⟩) rfl q
mutual
noncomputable def toD : SV → PyData
  | .none => .none
  | .bool b => .bool b
  | .int i => .int i
  | .str x => .str x
  | .tup l => .tuple (toDs l)
  | .lst l => .list (toDs l)
  | .rng .. => .dict []
  | .ref _ => .dict []
  | .val _ => .dict []
  | .junk => .dict []
  | .obj _ => .dict []
noncomputable def toDs : List SV → List PyData
  | [] => []
  | x :: r => toD x :: toDs r
end
mutual
theorem reads_of {g : PM} {h : Heap} (hg : ∀ a o, g a = some o → h.get? a = some o) : ∀ {sv : SV} {v : Value}, (toD sv).canLay0 = true → RepV g sv v → ∃ as, Reads h v (toD sv) as
  | .none, v, _, r => by cases r; exact ⟨_, .none⟩
  | .bool b, v, _, r => by cases r; exact ⟨_, .bool b⟩
  | .int i, v, _, r => by obtain ⟨t, rfl⟩ := r; exact ⟨_, .int i t⟩
  | .str x, v, _, r => by obtain ⟨t, rfl⟩ := r; exact ⟨_, .str x t⟩
  | .tup l, v, d, r => by
    obtain ⟨a, o, vs, n, rfl, ha, hc, hd, rs⟩ := r
    have d' : PyData.canLayAll0 (toDs l) = true := by simpa [toD, PyData.canLay0] using d
    obtain ⟨as, ra⟩ := readsAll_of hg d' rs
    exact ⟨_, by rw [toD]; exact .tuple (hg a o ha) hc hd (by simpa using ra)⟩
  | .lst l, v, d, r => by
    obtain ⟨a, o, vs, n, rfl, ha, hc, hd, rs⟩ := r
    have d' : PyData.canLayAll0 (toDs l) = true := by simpa [toD, PyData.canLay0] using d
    obtain ⟨as, ra⟩ := readsAll_of hg d' rs
    exact ⟨_, by rw [toD]; exact .list (hg a o ha) hc hd (by simpa using ra)⟩
  | .rng .., v, d, r => by simp [toD, PyData.canLay0] at d
  | .ref _, v, d, r => by simp [toD, PyData.canLay0] at d
  | .val _, v, d, r => by simp [toD, PyData.canLay0] at d
  | .junk, v, d, r => by simp [toD, PyData.canLay0] at d
  | .obj _, v, d, r => by simp [toD, PyData.canLay0] at d
theorem readsAll_of {g : PM} {h : Heap} (hg : ∀ a o, g a = some o → h.get? a = some o) : ∀ {l : List SV} {vs : List Value}, PyData.canLayAll0 (toDs l) = true → RepVs g l vs → ∃ as, ReadsAll h vs (toDs l) as
  | [], vs, _, r => by cases r; exact ⟨_, by rw [toDs]; exact .nil⟩
  | x :: l, vs, d, r => by
    obtain ⟨v, vr, rfl, r1, r2⟩ := r
    have d' : (toD x).canLay0 = true ∧ PyData.canLayAll0 (toDs l) = true := by simpa [toDs, PyData.canLayAll0] using d
    obtain ⟨as, ra⟩ := reads_of hg d'.1 r1
    obtain ⟨bs, rb⟩ := readsAll_of hg d'.2 r2
    exact ⟨_, by rw [toDs]; exact .cons ra rb⟩
end
theorem Rel.units (R : Rel c g σ s) : c.A.units + 64 < cLine := by have := R.ok.room.un; unfold cLine; exact om22 this
theorem O_eqd {a b : SV} (ha : SeqAt.shaped (toD a) = true) (hb : SeqAt.shaped (toD b) = true) (q : Q (.bool (PyData.eqv (toD a) (toD b))) σ) : O2 c (compareOp .Eq) a b σ Q := fun g s vs R r => by
  obtain ⟨u, v, rfl, r1, r2⟩ := rep2 r
  obtain ⟨as, ra⟩ := reads_of R.gh (SeqAt.canLay_of_shaped ha) r2
  obtain ⟨bs, rb⟩ := reads_of R.gh (SeqAt.canLay_of_shaped hb) r1
  exact SeqAt.compareEq_shaped ra rb ha hb R.units (done1 (sv := .bool _) R rfl q)
theorem O_ned {a b : SV} (ha : SeqAt.shaped (toD a) = true) (hb : SeqAt.shaped (toD b) = true) (q : Q (.bool (!PyData.eqv (toD a) (toD b))) σ) : O2 c (compareOp .NotEq) a b σ Q := fun g s vs R r => by
  obtain ⟨u, v, rfl, r1, r2⟩ := rep2 r
  obtain ⟨as, ra⟩ := reads_of R.gh (SeqAt.canLay_of_shaped ha) r2
  obtain ⟨bs, rb⟩ := reads_of R.gh (SeqAt.canLay_of_shaped hb) r1
  exact SeqAt.compareNe_shaped ra rb ha hb R.units (done1 (sv := .bool _) R rfl q)
theorem shaped_depth {xs : List PyData} {d : PyData} {u : Nat} (hd : SeqAt.shaped d = true) (hu : u + 100 < cLine) : u + 1 + min (PyData.depthAll xs) d.depth < cLine := by
  have h1 := SeqAt.depth_of_shaped hd
  have h2 : min (PyData.depthAll xs) d.depth ≤ d.depth := Nat.min_le_right _ _
  exact om23 hu h1
theorem Rel.units2 (R : Rel c g σ s) : c.A.units + 100 < cLine := by have := R.ok.room.un; unfold cLine; exact om24 this
theorem O_in_lst {x : SV} {l : List SV} (hx : SeqAt.shaped (toD x) = true) (hl : (toD (.lst l)).canLay0 = true) (q : Q (.bool ((toDs l).any fun y => PyData.eqv y (toD x))) σ) : O2 c (compareOp .In) x (.lst l) σ Q := fun g s vs R r => by
  obtain ⟨u, v, rfl, r1, r2⟩ := rep2 r
  obtain ⟨as, ra⟩ := reads_of R.gh (SeqAt.canLay_of_shaped hx) r2
  obtain ⟨bs, rb⟩ := reads_of R.gh hl r1
  rw [toD] at rb
  exact SeqAt.in_list_reads rb ra (by simpa [toD, PyData.canLay0] using hl) (SeqAt.canLay_of_shaped hx) (shaped_depth hx R.units2) (done1 (sv := .bool _) R rfl q)
theorem O_nin_lst {x : SV} {l : List SV} (hx : SeqAt.shaped (toD x) = true) (hl : (toD (.lst l)).canLay0 = true) (q : Q (.bool (!(toDs l).any fun y => PyData.eqv y (toD x))) σ) : O2 c (compareOp .NotIn) x (.lst l) σ Q := fun g s vs R r => by
  obtain ⟨u, v, rfl, r1, r2⟩ := rep2 r
  obtain ⟨as, ra⟩ := reads_of R.gh (SeqAt.canLay_of_shaped hx) r2
  obtain ⟨bs, rb⟩ := reads_of R.gh hl r1
  rw [toD] at rb
  exact SeqAt.notIn_list_reads rb ra (by simpa [toD, PyData.canLay0] using hl) (SeqAt.canLay_of_shaped hx) (shaped_depth hx R.units2) (done1 (sv := .bool _) R rfl q)
theorem O_nin_tup {x : SV} {l : List SV} (hx : SeqAt.shaped (toD x) = true) (hl : (toD (.tup l)).canLay0 = true) (q : Q (.bool (!(toDs l).any fun y => PyData.eqv y (toD x))) σ) : O2 c (compareOp .NotIn) x (.tup l) σ Q := fun g s vs R r => by
  obtain ⟨u, v, rfl, r1, r2⟩ := rep2 r
  obtain ⟨as, ra⟩ := reads_of R.gh (SeqAt.canLay_of_shaped hx) r2
  obtain ⟨bs, rb⟩ := reads_of R.gh hl r1
  rw [toD] at rb
  exact SeqAt.notIn_tuple_reads rb ra (by simpa [toD, PyData.canLay0] using hl) (SeqAt.canLay_of_shaped hx) (shaped_depth hx R.units2) (done1 (sv := .bool _) R rfl q)
noncomputable abbrev SI (c : Cx) (ov iv v : SV) (σ : St) (Q : St → Prop) := EvU c [iv, ov, v] (fun vs => setItem (vs.getD 1 .none) (vs.getD 0 .none) (vs.getD 2 .none)) σ Q
theorem S_asub {o i value : Expr} {pos' pos : Pos} (h : EE c value σ fun v σ₁ => EE c o σ₁ fun ov σ₂ => EE c i σ₂ fun iv σ₃ => SI c ov iv v σ₃ fun σ₄ => F .next σ₄)
    (hs : swapsWith value (some (.Subscript o i pos')) pos.line c.env = pure false := by rfl) : SS c (.Assign [.Subscript o i pos'] value pos) σ F := fun g s R =>
  wpAny_Assign_Subscript (stage R (xs := []) (vs := []) rfl h fun g₁ σ₁ s₁ v va x₁ R₁ r₁ q₁ => stage R₁ r₁ q₁ fun g₂ σ₂ s₂ ov vo x₂ R₂ r₂ q₂ => stage R₂ r₂ q₂ fun g₃ σ₃ s₃ iv vi x₃ R₃ r₃ q₃ =>
    wpAny_mono (q₃ g₃ s₃ _ R₃ r₃) (fun _ s₄ ⟨g₄, σ₄, x₄, R₄, q₄⟩ => ⟨g₄, σ₄, .next, ((x₁.trans x₂).trans x₃).trans x₄, R₄, rfl, q₄⟩) fun _ _ f => f) hs
theorem rep3 {g : PM} {a b d : SV} {vs : List Value} (h : RepVs g [a, b, d] vs) : ∃ u v w, vs = [u, v, w] ∧ RepV g a u ∧ RepV g b v ∧ RepV g d w := by
  obtain ⟨v, vr, e, h1, h2⟩ := h; obtain ⟨u, w, e2, h3, h4⟩ := rep2 h2; subst e2; exact ⟨v, u, w, e, h1, h3, h4⟩
theorem RepVs.set {g : PM} {y : SV} {v : Value} (r : RepV g y v) : ∀ {l : List SV} {vs : List Value} (j : Nat), RepVs g l vs → RepVs g (l.set j y) (vs.set j v)
  | [], vs, j, e => by cases e; exact rfl
  | x :: l, vs, 0, ⟨u, vr, e, h1, h2⟩ => by subst e; exact ⟨v, vr, rfl, r, h2⟩
  | x :: l, vs, j + 1, ⟨u, vr, e, h1, h2⟩ => by subst e; exact ⟨u, vr.set j v, rfl, h1, h2.set r j⟩
theorem setItem_idx {w : World} {A : Around} {E : Value → Shared → Prop} {s : Shared} {l : Addr} {items : Array Value} {k : Int} {t : Tok} {j : Nat} {v : Value} {P : Unit → Shared → Prop} (hl : s.heap.PlainList l items)
    (hj : Idx k items.size j) (hn : items.size < 2 ^ 62) (hQ : ∀ h', h'.PlainList l (items.setIfInBounds j v) → Heap.SameBut l s.heap h' → P () { s with heap := h' }) : wpAny (model pw w) A (setItem (.ref l) (.int k t) v) P E s := by
  obtain ⟨n, ho⟩ := hl
  have hT : s.TypeIs (.ref l) "list" := ⟨_, ho, rfl⟩
  unfold setItem
  try with_reducible refine wpAny_holding ?_
  first | refine wpAny_bind (wpAny_pure ?_) | skip
  refine wpAny_bind (wpAny_sequenceKey hT (by decide) ?_)
  refine wpAny_bind (wpAny_callSpecial?_slot (name := Str.ofString "__setitem__") hT slot_list_setitem (wpAny_call_entry slot_list_setitem hT entry_list_setitem ?_ (args_list_setitem _ _ _)))
  have fin : ∀ i : Nat, i = j → wpAny (model pw w) A.in1 (setSeqItemAt l i v) (fun _ s' => P () s') (fun e s' => E e s') s := fun i hi => by
    subst hi
    have hji : i < items.size := by rcases hj with h | h <;> omega
    refine wpAny_setSeqItemAt ho rfl (hQ _ ?_ (Heap.SameBut.update ..))
    exact ⟨_, (Heap.get?_update_self _ ho (by simp [Obj.mapSeq, Obj.isFreed])).trans rfl⟩
  rcases hj with ⟨h0, h1, rfl⟩ | ⟨h0, h1, rfl⟩
  · show wpAny _ _ (Builtin.List.listSubscript? (.int k t) >>= _) _ _ s
    refine wpAny_bind (wpAny_listSubscript_int (fitsIndex_of h0 (by exact om8 hn h1)) ?_)
    obtain ⟨i, rfl⟩ := Int.eq_ofNat_of_zero_le h0
    have hx' : items[i]? = some items[i] := Array.getElem?_eq_getElem (by exact om25 h1)
    show wpAny _ _ ((seqItemAt l i >>= fun r => pure (r.map (i, ·))) >>= _) _ _ s
    refine wpAny_bind (wpAny_bind (wpAny_seqItemAt ho rfl (wpAny_pure ?_)))
    rw [hx']
    show wpAny _ _ (setSeqItemAt l i v >>= _) _ _ s
    refine wpAny_bind (wpAny_mono (fin i rfl) (fun _ s' h' => ?_) fun _ _ e => e)
    first
      | exact wpAny_bind (wpAny_pure (wpAny_pure ⟨.none, rfl, wpAny_pure h'⟩))
      | exact wpAny_pure ⟨.none, rfl, wpAny_pure h'⟩
  · show wpAny _ _ (Builtin.List.listSubscript? (.int k t) >>= _) _ _ s
    refine wpAny_bind (wpAny_listSubscript_int (fitsIndex_neg h0 (by exact om9 hn h1)) ?_)
    have hidx := seqIndex_neg h0 h1
    have hlt : (k + items.size).toNat < items.size := by exact om26 h0 h1
    obtain ⟨i, rfl⟩ : ∃ i : Nat, k = Int.negSucc i := by
      cases k with
      | ofNat n => exact absurd h0 (Int.not_lt.mpr (Int.ofNat_nonneg n))
      | negSucc n => exact ⟨n, rfl⟩
    have hx : items[(Int.negSucc i + items.size).toNat]? = some items[(Int.negSucc i + items.size).toNat] := Array.getElem?_eq_getElem hlt
    show wpAny _ _ ((Builtin.List.listItems (.ref l) >>= fun xs => pure ((seqIndex? (Int.negSucc i) xs.size).bind fun i => xs[i]?.map (i, ·))) >>= _) _ _ s
    refine wpAny_bind (wpAny_bind ?_)
    show wpAny _ _ (seqItems? (.ref l) >>= _) _ _ s
    refine wpAny_bind (wpAny_seqItems ho rfl (wpAny_pure (wpAny_pure ?_)))
    rw [hidx]
    simp only [Option.bind_some, hx, Option.map_some]
    show wpAny _ _ (setSeqItemAt l _ v >>= _) _ _ s
    refine wpAny_bind (wpAny_mono (fin _ rfl) (fun _ s' h' => ?_) fun _ _ e => e)
    first
      | exact wpAny_bind (wpAny_pure (wpAny_pure ⟨.none, rfl, wpAny_pure h'⟩))
      | exact wpAny_pure ⟨.none, rfl, wpAny_pure h'⟩
end
end
section
noncomputable def litSV : Lit → SV
  | .inl i => .int i
  | .inr x => .str x
theorem lit_rep {g : PM} {k : Lit} {v : Value} (w : World) (r : RepV g (litSV k) v) : (litKind w).is k v = true := by
  cases k with
  | inl i => obtain ⟨t, rfl⟩ := r; exact intKind_is pw w i t
  | inr x => obtain ⟨t, rfl⟩ := r; exact strKind_is pw w x t
theorem lits_rep {g : PM} (w : World) : ∀ {ks : List Lit} {vs : List Value}, RepVs g (ks.map litSV) vs → ItemsAre (litKind w) ks vs
  | [], vs, e => by cases e; exact .nil
  | k :: ks, vs, ⟨v, vr, e, h1, h2⟩ => by subst e; exact .cons (lit_rep w h1) (lits_rep w h2)
theorem rep_lit {g : PM} {k : Lit} {v : Value} {w : World} (h : (litKind w).is k v = true) : RepV g (litSV k) v := by
  cases k with
  | inl i => exact Value.isInt_shape (k := i) (v := v) h
  | inr x => exact Value.isStrOf_shape (x := x) (v := v) h
theorem rep_lits {g : PM} {w : World} : ∀ {ks : List Lit} {vs : List Value}, ItemsAre (litKind w) ks vs → RepVs g (ks.map litSV) vs
  | [], vs, e => by cases e; exact rfl
  | k :: ks, vs, e => by cases e with | cons h1 h2 => exact ⟨_, _, rfl, rep_lit h1, rep_lits h2⟩
noncomputable def addKey (ks : List (List Lit)) (k : List Lit) : List (List Lit) := if ks.any (fun x => decide (x = k)) = true then ks else ks ++ [k]
theorem any_key {ks : List (List Lit)} {k : List Lit} : ks.any (fun x => decide (x = k)) = true ↔ k ∈ ks := by simp [List.any_eq_true]
theorem mem_addKey {ks : List (List Lit)} {k x : List Lit} : x ∈ addKey ks k ↔ x ∈ ks ∨ x = k := by
  unfold addKey
  split
  · rename_i h
    exact ⟨.inl, fun q => q.elim id fun e => e ▸ any_key.mp h⟩
  · simp
noncomputable def putS (kvs : List (Str × SV)) (k : Str) (v : SV) : List (Str × SV) := if kvs.any (fun kv => kv.1 = k) then kvs.map (fun kv => if kv.1 = k then (kv.1, v) else kv) else kvs ++ [(k, v)]
theorem RepKs.stored {g : PM} {kvs : List (Str × SV)} {vks : List (Str × Value)} (h : RepKs g kvs vks) {k : Str} {y : SV} {v : Value} (r : RepV g y v) : RepKs g (putS kvs k y) (stored vks k v) := by
  have keys : ∀ {kvs : List (Str × SV)} {vks : List (Str × Value)}, RepKs g kvs vks → (kvs.any fun kv => kv.1 = k) = (vks.any fun kv => kv.1 = k) := by
    intro kvs
    induction kvs with
    | nil => intro vks h; cases h; rfl
    | cons p kvs ih => intro vks h; obtain ⟨k', x⟩ := p; obtain ⟨u, vr, rfl, h1, h2⟩ := h; simp only [List.any_cons, ih h2]
  have maps : ∀ {kvs : List (Str × SV)} {vks : List (Str × Value)}, RepKs g kvs vks → RepKs g (kvs.map fun kv => if kv.1 = k then (kv.1, y) else kv) (vks.map fun kv => if kv.1 = k then (kv.1, v) else kv) := by
    intro kvs
    induction kvs with
    | nil => intro vks h; cases h; exact rfl
    | cons p kvs ih =>
      intro vks h; obtain ⟨k', x⟩ := p; obtain ⟨u, vr, rfl, h1, h2⟩ := h
      simp only [List.map_cons]
      by_cases hk : k' = k
      · simp only [hk, if_true]; exact ⟨_, _, rfl, r, ih h2⟩
      · simp only [if_neg hk]; exact ⟨_, _, rfl, h1, ih h2⟩
  have app : ∀ {kvs : List (Str × SV)} {vks : List (Str × Value)}, RepKs g kvs vks → RepKs g (kvs ++ [(k, y)]) (vks ++ [(k, v)]) := by
    intro kvs
    induction kvs with
    | nil => intro vks h; cases h; exact ⟨_, _, rfl, r, rfl⟩
    | cons p kvs ih => intro vks h; obtain ⟨k', x⟩ := p; obtain ⟨u, vr, rfl, h1, h2⟩ := h; exact ⟨_, _, rfl, h1, ih h2⟩
  unfold putS PySem.stored
  rw [keys h]
  split
  · exact maps h
  · exact app h
theorem RepKs.length {g : PM} : ∀ {kvs : List (Str × SV)} {vks : List (Str × Value)}, RepKs g kvs vks → vks.length = kvs.length
  | [], _, e => by cases e; rfl
  | (k, x) :: r, _, ⟨v, vr, e, h1, h2⟩ => by subst e; simp [RepKs.length h2]
section
variable {c : Cx} {σ : St} {g : PM} {s : Shared} {Q : SV → St → Prop} {F : Fl → St → Prop} {U : St → Prop}
theorem SI_list {a : Addr} {l : List SV} {k : Int} {j : Nat} {y : SV} {H' : AHeap} (u : HUpd σ.heap a (.list l) (.list (l.set j y)) H') (hj : Idx k l.length j) (hn : l.length < 2 ^ 62) (q : U { σ with heap := H' }) : SI c (.ref a) (.int k) y σ U := fun g s vs R r => by
  obtain ⟨v1, v2, v3, rfl, ⟨t, r1⟩, r2, r3⟩ := rep3 r
  subst r1
  have r2' : v2 = .ref a := r2
  subst r2'
  obtain ⟨ws, hl, rs⟩ := R.objs _ u.mem
  refine setItem_idx hl (by simpa [rs.length] using hj) (by simpa [rs.length] using hn) fun h' hl' hs' => ?_
  exact ⟨g, _, .refl _ _ _, R.mutate (h' := h') (tk := s.toks) u rfl (fun b o hb e => (hs'.2 b (fun q => hb (by rw [q]; simp [fpO]))).trans e) ⟨ws.set j v3, by simpa using hl', rs.set r3 j⟩, q⟩
theorem SI_sdict {a : Addr} {kvs : List (Str × SV)} {k : Str} {y : SV} {H' : AHeap} (u : HUpd σ.heap a (.sdict kvs) (.sdict (putS kvs k y)) H') (hn : kvs.length ≤ sizeLine) (q : U { σ with heap := H' }) : SI c (.ref a) (.str k) y σ U := fun g s vs R r => by
  obtain ⟨v1, v2, v3, rfl, ⟨t, r1⟩, r2, r3⟩ := rep3 r
  subst r1
  have r2' : v2 = .ref a := r2
  subst r2'
  obtain ⟨vks, hd, rk⟩ := R.objs _ u.mem
  refine wpAny_setItem_pairs (strKind_is pw c.w k t) hd (fun h' hd' hs' => ?_) (by rw [rk.length]; exact hn)
  exact ⟨g, _, .refl _ _ _, R.mutate (h' := h') (tk := s.toks + 1) u rfl (fun b o hb e => (hs'.2 b (fun q => hb (by rw [q]; simp [fpO]))).trans e) ⟨_, hd', rk.stored r3⟩, q⟩
theorem SI_idict {a : Addr} {ks : List Int} {k : Int} {y : SV} (hm : (a, AObj.idict ks) ∈ σ.heap) (hn : ks.length ≤ sizeLine) (q : ∀ ks' H', HUpd σ.heap a (.idict ks) (.idict ks') H' → ks'.length ≤ ks.length + 1 → U { σ with heap := H' }) : SI c (.ref a) (.int k) y σ U := fun g s vs R r => by
  obtain ⟨v1, v2, v3, rfl, ⟨t, r1⟩, r2, r3⟩ := rep3 r
  subst r1
  have r2' : v2 = .ref a := r2
  subst r2'
  obtain ⟨vks, hd, rk⟩ := R.objs _ hm
  have hlen : vks.length = ks.length := by rw [← rk]; simp
  have hu : ∀ ks', ∃ H', HUpd σ.heap a (.idict ks) (.idict ks') H' := fun ks' => by
    have : ∀ {H : AHeap}, (a, AObj.idict ks) ∈ H → ∃ H', HUpd H a (.idict ks) (.idict ks') H' := by
      intro H
      induction H with
      | nil => intro h; cases h
      | cons e H ih =>
        intro h
        rcases List.mem_cons.mp h with rfl | h
        · exact ⟨_, .here⟩
        · obtain ⟨H', h'⟩ := ih h; exact ⟨_, .next h'⟩
    exact this hm
  refine wpAny_setItem_pairs (intKind_is pw c.w k t) hd (fun h' hd' hs' => ?_) (by rw [hlen]; exact hn)
  obtain ⟨H', u⟩ := hu ((stored vks k v3).map (·.1))
  refine ⟨g, _, .refl _ _ _, R.mutate (h' := h') (tk := s.toks + 1) u rfl (fun b o hb e => (hs'.2 b (fun q => hb (by rw [q]; simp [fpO]))).trans e) ⟨_, hd', rfl⟩, q _ _ u ?_⟩
  unfold stored
  split <;> simp <;> omega
theorem SI_tdict {a : Addr} {ks : List (List Lit)} {k : List Lit} {H' : AHeap} {y : SV} (u : HUpd σ.heap a (.tdict ks) (.tdict (addKey ks k)) H') (hn : ks.length ≤ sizeLine) (q : U { σ with heap := H' }) : SI c (.ref a) (.tup (k.map litSV)) y σ U := fun g s vs R r => by
  obtain ⟨v1, v2, v3, rfl, r1, r2, r3⟩ := rep3 r
  have r2' : v2 = .ref a := r2
  subst r2'
  obtain ⟨o, es, n, xs, ho, hex, hd, he, hks, nd, his⟩ := R.objs _ u.mem
  obtain ⟨b, ob, ws, nb, rfl, hb, hbc, hbd, rs⟩ := r1
  have key : IsLitTup c.w g k b := ⟨ob, _, nb, hb, hbc, hbd, by simpa using lits_rep c.w rs⟩
  have toKey : ∀ {k' : List Lit} {b' : Addr}, IsLitTup c.w g k' b' → IsTupleKey (litKind c.w) s.heap k' b' := fun ⟨o, it, n, h1, h2⟩ => ⟨o, it, n, R.gh _ _ h1, h2⟩
  have hD : s.heap.DictOfH (tupleKind (litKind c.w)) a xs := ⟨o, es, n, ho, hex, hd, he, fun x hx => toKey (his x hx), by rw [hks]; exact nd⟩
  have hlen : xs.length = ks.length := by rw [← hks]; simp
  refine wpAny_setItem_heap (knd := tupleKind (litKind c.w)) (hsz := by rw [hlen]; exact hn) (by show c.A.in1.units < cLine; have := R.ok.room.un; have : c.A.in1.units ≤ c.A.units + 1 := (by show c.A.units + 1 ≤ _; exact om27); unfold cLine; omega) (toKey key) hD fun h' hD' hs' => ?_
  obtain ⟨o', es', n', ho', hex', hd', he', his', nd'⟩ := hD'
  have hst : (storedH xs k b v3).map (·.1) = addKey ks k ∧ ∀ x ∈ storedH xs k b v3, IsLitTup c.w g x.1 x.2.1 := by
    unfold addKey storedH
    cases hat : atKey xs k with
    | none =>
      have hnk : k ∉ ks := fun hm => by
        rw [← hks] at hm
        obtain ⟨x, hx, e⟩ := List.mem_map.mp hm
        unfold atKey at hat
        have : xs.find? (fun x => decide (x.1 = k)) = none := by simpa using hat
        have := List.find?_eq_none.mp this x hx
        simp [e] at this
      rw [if_neg (fun q => hnk (any_key.mp q))]
      simp only [Option.isSome_none, Bool.false_eq_true, if_false]
      refine ⟨by simp [hks], fun x hx => ?_⟩
      rcases List.mem_append.mp hx with h | h
      · exact his x h
      · rw [List.mem_singleton.mp h]; exact key
    | some p =>
      have hk : k ∈ ks := by
        unfold atKey at hat
        obtain ⟨x, hx, e⟩ := Option.map_eq_some_iff.mp hat
        rw [← hks]
        exact List.mem_map.mpr ⟨x, List.mem_of_find?_eq_some hx, by simpa using List.find?_some hx⟩
      rw [if_pos (any_key.mpr hk)]
      simp only [Option.isSome_some, if_true]
      refine ⟨by rw [keys_map_putAt, hks], fun x hx => ?_⟩
      obtain ⟨y, hy, e⟩ := List.mem_map.mp hx
      have := his y hy
      unfold putAt at e
      split at e <;> (subst e; exact this)
  refine ⟨g, _, .refl _ _ _, R.mutate (h' := h') (tk := s.toks + (k.length + 1)) u rfl (fun b o hb e => (hs'.2 b (fun q => hb (by rw [q]; simp [fpO]))).trans e) ⟨o', es', n', _, ho', hex', hd', he', hst.1, ?_, hst.2⟩, q⟩
  rw [← hst.1]; exact nd'
end
end
section
theorem lookIn_ns {h : Heap} {d : Addr} {m : Str → Option Value} (n : h.Ns d m) : ∃ od, h.get? d = some od ∧ ∀ name, lookIn name od = some (m name) := by
  obtain ⟨o, es, ep, ho, hd, sk, hf⟩ := n
  refine ⟨o, ho, fun name => ?_⟩
  unfold lookIn
  rw [hd]
  have : nsFind es name = m name := hf name
  rw [← this]
  unfold nsFind findBy
  dsimp only
  rw [← Array.find?_toList]
  have hnr : es.toList.any (·.refKey) = false := by
    rw [List.any_eq_false]
    intro e he
    obtain ⟨n, t, hk⟩ := sk e (by simpa using he)
    unfold DictEntry.refKey
    rw [hk]; simp
  cases hq : es.toList.find? (·.key.isStr name) with
  | some e => simp
  | none => simp [hnr]
structure ClsOk (K : Frag) (C : Addr) : Prop where
  ga : findIn K (.ref C) "__getattribute__" = some (some (.builtin "object.__getattribute__"))
  gt : findIn K (.ref C) "__getattr__" = some none
  sa : findIn K (.ref C) "__setattr__" = some (some (.builtin "object.__setattr__"))
  po : plainOver K C = true
  cd : ∃ cd, clsIn K C = some cd ∧ cd.hasDict = true
structure InstOk (C : Addr) : Prop where
  ok : ∀ w : World, ClsOk (KK w.params) C
section
variable {c : Cx} {σ : St} {g : PM} {s : Shared} {Q : SV → St → Prop} {F : Fl → St → Prop} {U : St → Prop}
theorem inst_at {a C d : Addr} {fs : List (Str × SV)} (R : Rel c g σ s) (hm : (a, AObj.inst C d fs) ∈ σ.heap) :
    ∃ m od, InstAt s.heap a (instObj C d) C (some od) ∧ (∀ name, lookIn name od = some (m name)) ∧ NsN s.heap d m fs.length ∧ (∀ p ∈ fs, ∃ v, m p.1 = some v ∧ RepV g p.2 v) ∧ (∀ x, x ∉ fs.map (·.1) → m x = none) := by
  obtain ⟨m, ho, hn, hf, hz⟩ := R.objs _ hm
  obtain ⟨od, hd, hl⟩ := lookIn_ns hn.ns
  exact ⟨m, od, ⟨ho, rfl, rfl, hd⟩, hl, hn, hf, hz⟩
theorem E_attr {o : Expr} {attr : Str} {pos : Pos} (C : Addr) (ic : InstOk C) (hno : ∀ w : World, findIn (KK w.params) (.ref C) attr = some none)
    (h : EE c o σ fun ov σ₁ => ∃ a d fs y, ov = .ref a ∧ (a, AObj.inst C d fs) ∈ σ₁.heap ∧ (attr, y) ∈ fs ∧ (∀ b, y ≠ .val b) ∧ y ≠ .junk ∧ Q y σ₁)
    (he : eval (.Attribute o attr pos) c.env = (do
      let ov ← eval o c.env
      standAt pos.atName
      let r ← holding [ov] (getAttr ov attr true)
      letTemporaryGo o ov r
      pure r) := by with_unfolding_all rfl) (ht : ∀ u r, letTemporaryGo o u r = pure () := by intro _ _; rfl) : EE c (.Attribute o attr pos) σ Q := fun g s vs R _ => by
  show wpAny _ _ (eval (.Attribute o attr pos) c.env) _ _ _
  rw [he]
  refine wpAny_bind (stage R (xs := []) (vs := []) rfl h fun g₁ σ₁ s₁ ov va x₁ R₁ r₁ q₁ => ?_)
  obtain ⟨u, e, r⟩ := rep1 r₁
  cases e
  obtain ⟨a, d, fs, y, rfl, hm, hy, hb, hj, q⟩ := q₁
  have r' : va = .ref a := r
  subst r'
  obtain ⟨m, od, I, hl, hn, hf, hz⟩ := inst_at R₁ hm
  obtain ⟨v, hv, rv⟩ := hf _ hy
  have X := R₁.world.K
  have ck := ic.ok c.w
  obtain ⟨cd, hcd, hdict⟩ := ck.cd
  have hfo : findObj (KK c.w.params) C (some od) attr = some (.value v) := by
    unfold findObj
    rw [hcd, hno c.w]
    have ho : PySem.W.ownOf cd (some od) attr = some (some v) := by unfold PySem.W.ownOf; rw [hdict, if_pos rfl]; dsimp only; rw [hl, hv]
    dsimp only [Option.bind_some]
    rw [ho]
    rfl
  have hh : handedIn v = true := by
    cases y with
    | none => have : v = .none := rv; subst this; rfl
    | bool b => have : v = .bool b := rv; subst this; rfl
    | int i => obtain ⟨t, rfl⟩ := rv; rfl
    | str x => obtain ⟨t, rfl⟩ := rv; rfl
    | tup l => obtain ⟨_, _, _, _, rfl, _⟩ := rv; rfl
    | lst l => obtain ⟨_, _, _, _, rfl, _⟩ := rv; rfl
    | rng _ _ _ => obtain ⟨_, _, _, _, rfl, _⟩ := rv; rfl
    | ref b => have : v = .ref b := rv; subst this; rfl
    | val b => exact absurd rfl (hb b)
    | junk => exact absurd rfl hj
    | obj _ => obtain ⟨_, rfl, _⟩ := rv; rfl
  refine wpAny_bind (wpAny_standAt (wpAny_bind (wpAny_holding (get_value X I ck.ga hfo hh ?_))))
  rw [ht]
  exact wpAny_bind (wpAny_pure (wpAny_pure ⟨g₁, σ₁, y, x₁, R₁.tok _, rv, q⟩))
theorem GM_own {a C d f : Addr} {fs : List (Str × SV)} {name : Str} (hm : (a, AObj.inst C d fs) ∈ σ.heap) (ic : InstOk C) (hf : ∀ w : World, findIn (KK w.params) (.ref C) name = some (some (.ref f)))
    (ht : ∀ w : World, typeIn (KK w.params) (.ref f) = some (.type "function")) (hn : name ∉ fs.map (·.1)) : GM c (.ref a) name (.ref f) σ := fun g s v R r pl P E h => by
  have r' : v = .ref a := r
  subst r'
  obtain ⟨m, od, I, hl, hns, hfs, hz⟩ := inst_at R hm
  have ck := ic.ok c.w
  exact method_fn R.world.K I ck.ga ck.gt (hf c.w) (ht c.w) (by show (lookIn name od).map _ = _; rw [hl, hz name hn]; rfl) h
theorem putS_keys {fs : List (Str × SV)} {k : Str} {y : SV} {x : Str} : x ∉ (putS fs k y).map (·.1) → x ∉ fs.map (·.1) ∧ x ≠ k := by
  unfold putS
  split
  · rename_i h
    intro hx
    have e : (fs.map fun kv => if kv.1 = k then (kv.1, y) else kv).map (·.1) = fs.map (·.1) := by
      rw [List.map_map]; exact List.map_congr_left fun p _ => by dsimp only [Function.comp]; split <;> rfl
    rw [e] at hx
    refine ⟨hx, fun q => hx ?_⟩
    obtain ⟨p, hp, e⟩ := List.any_eq_true.mp h
    exact List.mem_map.mpr ⟨p, hp, by rw [q]; simpa using e⟩
  · intro hx
    rw [List.map_append] at hx
    exact ⟨fun h => hx (List.mem_append_left _ h), fun q => hx (List.mem_append_right _ (by simp [q]))⟩
theorem putS_mem {fs : List (Str × SV)} {k : Str} {y : SV} {p : Str × SV} (h : p ∈ putS fs k y) : p = (k, y) ∨ (p ∈ fs ∧ p.1 ≠ k) := by
  unfold putS at h
  split at h
  · obtain ⟨q, hq, e⟩ := List.mem_map.mp h
    by_cases hk : q.1 = k
    · rw [if_pos hk] at e; subst e; subst hk; exact .inl rfl
    · rw [if_neg hk] at e; subst e; exact .inr ⟨hq, hk⟩
  · rename_i hn
    rcases List.mem_append.mp h with h | h
    · refine .inr ⟨h, fun e => hn ?_⟩
      exact List.any_eq_true.mpr ⟨p, h, by simpa using e⟩
    · exact .inl (List.mem_singleton.mp h)
theorem S_aattr {o value : Expr} {attr : Str} {pos' pos : Pos} (C : Addr) (ic : InstOk C) (hno : ∀ w : World, takerIn (KK w.params) C attr = some none)
    (h : EE c value σ fun y σ₁ => EE c o σ₁ fun ov σ₂ => ∃ a d fs H', ov = .ref a ∧ HUpd σ₂.heap a (.inst C d fs) (.inst C d (putS fs attr y)) H' ∧ fs.length ≤ 1000 ∧ F .next { σ₂ with heap := H' })
    (hs : swapsWith value (some (.Attribute o attr pos')) pos.line c.env = pure false := by rfl) : SS c (.Assign [.Attribute o attr pos'] value pos) σ F := fun g s R =>
  plainObj_wpAny_Assign_Attribute (stage R (xs := []) (vs := []) rfl h fun g₁ σ₁ s₁ y va x₁ R₁ r₁ q₁ => stage R₁ r₁ q₁ fun g₂ σ₂ s₂ ov vo x₂ R₂ r₂ q₂ => by
    obtain ⟨a, d, fs, H', rfl, u, hlen, q⟩ := q₂
    obtain ⟨v1, v2, e, ro, ry⟩ := rep2 r₂
    cases e
    have r' : vo = .ref a := ro
    subst r'
    obtain ⟨m, od, I, hl, hn, hf, hz⟩ := inst_at R₂ u.mem
    obtain ⟨m', ho, _⟩ := R₂.objs _ u.mem
    have X := R₂.world.K
    have ck := ic.ok c.w
    obtain ⟨cd, hcd, hdict⟩ := ck.cd
    refine set_plain X I ck.sa ?_
    refine osa_open (s := { s₂ with toks := s₂.toks + 1 }) X I ck.po (hno c.w) fun b => ?_
    refine wpAny_bind (wpAny_pure (wpAny_bind (wpAny_bind (wpAny_loadPart (o := instObj C d) ho (wpAny_bind (looks_clsIn (M := model pw c.w) X hcd _ _ _ _ (fun _ _ e => e) ?_))))))
    rw [hdict]
    refine wpAny_pure (a := some d) (wpAny_bind (wpAny_pure (wpAny_bind ?_)))
    refine nsSet_N (s := { s₂ with toks := s₂.toks + 1 }) hn fun h' hn' hs' => wpAny_bind ?_
    have hsz : (if m attr = none then fs.length + 1 else fs.length) ≤ (putS fs attr y).length := by
      unfold putS
      by_cases ha : attr ∈ fs.map (·.1)
      · obtain ⟨p, hp, e⟩ := List.mem_map.mp ha
        obtain ⟨v, hv, _⟩ := hf p hp
        rw [e] at hv
        rw [hv, if_neg (by exact nofun)]
        split <;> simp
      · have hany : (fs.any fun kv => kv.1 = attr) = false := by
          rw [List.any_eq_false]; intro p hp; simp; exact fun e => ha (List.mem_map.mpr ⟨p, hp, e⟩)
        rw [hz attr ha, hany]; simp
    have hle : (if m attr = none then fs.length + 1 else fs.length) ≤ 1001 := by split <;> omega
    obtain ⟨o', es', ep', ho', hd', hk', hm', hz'⟩ := hn'
    refine wpAny_lookBehind ho' (by rw [hd']; exact pastItsLine_dict (by rw [sizeLine_eq]; exact om28 hle hz')) (wpAny_pure ?_)
    have hne : a ≠ d := fun e => by
      obtain ⟨p, q, e1, e2⟩ := u.split
      have nd : (fpH p ++ ([a, d] ++ fpH q)).Nodup := by have := R₂.nodup; rw [e1] at this; unfold fpH at this ⊢; simpa [fpE, fpO] using this
      have := (List.nodup_append.mp (List.nodup_append.mp nd).2.1).1
      simp [e] at this
    have hk : ∀ b o, b ∉ fpO a (.inst C d fs) → s₂.heap.get? b = some o → h'.get? b = some o := fun b o hb e => (hs'.2 b (fun q => hb (by rw [q]; simp [fpO]))).trans e
    refine ⟨g₂, _, .next, x₁.trans x₂, R₂.mutate (h' := h') (tk := s₂.toks + 1 + 1) u rfl hk ?_, rfl, q⟩
    refine ⟨_, (hs'.2 a hne).trans ho, ⟨o', es', ep', ho', hd', hk', hm', Nat.le_trans hz' hsz⟩, fun p hp => ?_, fun x hx => ?_⟩
    · rcases putS_mem hp with rfl | ⟨hp, hne⟩
      · exact ⟨va, by simp, ry⟩
      · obtain ⟨v, hv, rv⟩ := hf p hp
        exact ⟨v, by simp [hne, hv], rv⟩
    · obtain ⟨h1, h2⟩ := putS_keys hx
      simp [h2, hz x h1]) hs
end
end
section
section
variable {c : Cx} {σ : St} {g : PM} {s : Shared} {Q : SV → St → Prop} {F : Fl → St → Prop} {U : St → Prop}
theorem AT_name {x : Str} {p : Pos} {y : SV} {vals' : List SV} (hp : Put c.ns σ.vals x y vals') (hx : x ∈ c.st) (q : U { σ with vals := vals' }) : AT c (.Name x p) y σ U := fun g s vs R r => by
  obtain ⟨v, rfl, rv⟩ := rep1 r
  exact wpAny_assign_Name (st_name R rv hp hx fun s' R' => ⟨g, _, .refl _ _ _, R', q⟩)
inductive Puts (ns st : List Str) : List SV → List Str → List SV → List SV → Prop
  | nil {vals : List SV} : Puts ns st vals [] [] vals
  | cons {vals vals₁ vals₂ : List SV} {x : Str} {y : SV} {xs : List Str} {ys : List SV} : Put ns vals x y vals₁ → x ∈ st → Puts ns st vals₁ xs ys vals₂ → Puts ns st vals (x :: xs) (y :: ys) vals₂
theorem puts_run {P : Unit → Shared → Prop} : ∀ {xs : List Str} {ys : List SV} {vs : List Value} {ts : List (Value → Sem Unit)} {σ : St} {s : Shared} {vals' : List SV}, Rel c g σ s → RepVs g ys vs → Puts c.ns c.st σ.vals xs ys vals' →
    (∀ (i : Nat) (x : Str), xs[i]? = some x → ∃ t : Value → Sem Unit, ts[i]? = some t ∧ ∀ (v : Value) (R : Unit → Shared → Prop) (s : Shared), wpAny (model pw c.w) c.A (storeName c.env x v) R (fun _ _ => False) s → wpAny (model pw c.w) c.A (t v) R (fun _ _ => False) s) → ts.length = xs.length →
    (∀ s', Rel c g { σ with vals := vals' } s' → P () s') → wpAny (model pw c.w) c.A (assignInOrder ts vs) P (fun _ _ => False) s
  | [], _, vs, ts, σ, s, vals', R, r, pt, hts, hl, h => by
    cases pt
    have : ts = [] := List.length_eq_zero_iff.mp hl
    subst this
    exact assignInOrder_nil (h s R)
  | x :: xs, _, vs, ts, σ, s, vals', R, r, pt, hts, hl, h => by
    cases pt with
    | cons p hx pt =>
      obtain ⟨v, vr, rfl, r1, r2⟩ := r
      cases ts with
      | nil => simp at hl
      | cons t ts =>
        obtain ⟨t', ht, hr⟩ := hts 0 x rfl
        cases ht
        refine assignInOrder_cons (hr _ _ _ (st_name R r1 p hx fun s' R' => ?_))
        exact puts_run R' r2 pt (fun i y hy => hts (i + 1) y (by simpa using hy)) (by simpa using hl) h
theorem assign_ok {x : Str} {p : Pos} {v : Value} {R : Unit → Shared → Prop} {s : Shared} (h : wpAny (model pw c.w) c.A (storeName c.env x v) R (fun _ _ => False) s) : wpAny (model pw c.w) c.A (assign (.Name x p) c.env v) R (fun _ _ => False) s := wpAny_assign_Name h
theorem AT_tup {elts : List Expr} {k : Nat} {p : Pos} {xs : List Str} {ys : List SV} {vals' : List SV} (hp : Puts c.ns c.st σ.vals xs ys vals') (hlen : xs.length = ys.length)
    (hn : (assignEach elts c.env).length = xs.length) (hstar : (assignEach elts c.env).findIdx? (·.1) = none)
    (hts : ∀ (i : Nat) (x : Str), xs[i]? = some x → ∃ p, ((assignEach elts c.env).map (·.2))[i]? = some (assign (.Name x p) c.env)) (q : U { σ with vals := vals' }) : AT c (.Tuple elts k p) (.tup ys) σ U := fun g s vs R r => by
  obtain ⟨v, rfl, rv⟩ := rep1 r
  obtain ⟨a, ws, rfl, ht, rs, _⟩ := tup_at R rv
  refine wpAny_assign_Tuple R.ok.room.hh ht (by rw [hn, hlen]; simp [rs.length]) hstar fun h' he => ?_
  have R' : Rel c g σ { s with heap := h' } := R.heap (tk := s.toks) fun b nb o e => he b o (Nat.ne_of_lt (R.needs_lt nb)) e
  refine puts_run (c := c) R' rs hp (fun i x hx => ?_) (by simpa using hn) fun s' R'' => ⟨g, _, .refl _ _ _, R'', q⟩
  obtain ⟨p, e⟩ := hts i x hx
  exact ⟨_, e, fun v R s h => assign_ok h⟩
theorem AT_tup2 {x1 x2 : Str} {p1 p2 p : Pos} {k : Nat} {y1 y2 : SV} {vals' : List SV} (hp : Puts c.ns c.st σ.vals [x1, x2] [y1, y2] vals') (q : U { σ with vals := vals' }) : AT c (.Tuple [.Name x1 p1, .Name x2 p2] k p) (.tup [y1, y2]) σ U :=
  AT_tup hp rfl rfl rfl (fun i x h => match i with
    | 0 => by cases h; exact ⟨p1, rfl⟩
    | 1 => by cases h; exact ⟨p2, rfl⟩) q
theorem AT_tup3 {x1 x2 x3 : Str} {p1 p2 p3 p : Pos} {k : Nat} {y1 y2 y3 : SV} {vals' : List SV} (hp : Puts c.ns c.st σ.vals [x1, x2, x3] [y1, y2, y3] vals') (q : U { σ with vals := vals' }) : AT c (.Tuple [.Name x1 p1, .Name x2 p2, .Name x3 p3] k p) (.tup [y1, y2, y3]) σ U :=
  AT_tup hp rfl rfl rfl (fun i x h => match i with
    | 0 => by cases h; exact ⟨p1, rfl⟩
    | 1 => by cases h; exact ⟨p2, rfl⟩
    | 2 => by cases h; exact ⟨p3, rfl⟩) q
theorem S_tup {elts : List Expr} {k : Nat} {tpos pos : Pos} {value : Expr} (h : EE c value σ fun y σ₁ => AT c (.Tuple elts k tpos) y σ₁ fun σ₂ => F .next σ₂)
    (hs : swapsWithSole [.Tuple elts k tpos] value pos.line c.env = pure false := by rfl) (hw : swappedStores [.Tuple elts k tpos] value c.env = pure none := by rfl) : SS c (.Assign [.Tuple elts k tpos] value pos) σ F := fun g s R =>
  Assign_Tuple (stage R (xs := []) (vs := []) rfl h fun g₁ σ₁ s₁ y va x₁ R₁ r₁ q₁ =>
    wpAny_mono (q₁ g₁ s₁ _ R₁ r₁) (fun _ s₂ ⟨g₂, σ₂, x₂, R₂, q₂⟩ => ⟨g₂, σ₂, .next, x₁.trans x₂, R₂, rfl, q₂⟩) fun _ _ f => f) hs hw
theorem S_tupsw {elts : List Expr} {k : Nat} {tpos pos : Pos} {value : Expr} (names : List Str) (hw : swappedStores [.Tuple elts k tpos] value c.env = pure (some names))
    (h : EE c value σ fun y σ₁ => ∃ ys vals', y = .tup ys ∧ ys.length = names.length ∧ Puts c.ns c.st σ₁.vals names.reverse ys.reverse vals' ∧ F .next { σ₁ with vals := vals' })
    (hs : swapsWithSole [.Tuple elts k tpos] value pos.line c.env = pure false := by rfl) : SS c (.Assign [.Tuple elts k tpos] value pos) σ F := fun g s R =>
  Assign_Tuple_swapped (stage R (xs := []) (vs := []) rfl h fun g₁ σ₁ s₁ y va x₁ R₁ r₁ q₁ => by
    obtain ⟨ys, vals', rfl, hlen, hp, q⟩ := q₁
    obtain ⟨u, e, r⟩ := rep1 r₁
    cases e
    obtain ⟨a, ws, rfl, ht, rs, _⟩ := tup_at R₁ r
    have hwl := rs.length
    have := wpAny_unpackItems_tuple (prog := pw) (w := c.w) (A := c.A) (E := fun _ _ => False) (Q := fun items s₂ => wpAny (model pw c.w) c.A (assignInOrder (names.reverse.map fun n => bindName c.env n) items.reverse) (fun _ s' => ∃ g' σ' fl, GX c.lo c.pr g g' ∧ Rel c g' σ' s' ∧ RepF g' fl .next ∧ F fl σ') (fun _ _ => False) s₂) R₁.ok.room.hh ht fun h' he => ?_
    · rw [show ws.toArray.size = names.length by simp [hwl, hlen]] at this
      exact this
    · have R' : Rel c g₁ σ₁ { s₁ with heap := h' } := R₁.heap (tk := s₁.toks) fun b nb o e => he b o (Nat.ne_of_lt (R₁.needs_lt nb)) e
      have rr : RepVs g₁ ys.reverse ws.toArray.toList.reverse := by
        have : ∀ {l : List SV} {vs : List Value}, RepVs g₁ l vs → RepVs g₁ l.reverse vs.reverse := by
          intro l
          induction l with
          | nil => intro vs h; cases h; exact rfl
          | cons x l ih => intro vs h; obtain ⟨v, vr, rfl, h1, h2⟩ := h; rw [List.reverse_cons, List.reverse_cons]; exact (ih h2).snoc h1
        simpa using this rs
      refine puts_run (c := c) R' rr hp (fun i x hx => ?_) (by simp) fun s' R'' => ⟨g₁, _, .next, x₁, R'', rfl, q⟩
      exact ⟨bindName c.env x, by rw [List.getElem?_map, hx]; rfl, fun v R s h => wpAny_bindName h⟩) hs hw
theorem ints_of {g : PM} : ∀ {ns : List Int} {ws : List Value}, RepVs g (ns.map .int) ws → IntsAre ws ns
  | [], ws, e => by cases e; exact .nil
  | n :: ns, ws, ⟨v, vr, e, ⟨t, e1⟩, h2⟩ => by subst e; subst e1; exact .cons n t (ints_of h2)
theorem C_range1 {n : Int} (q : Q (.rng 0 n 1) σ) : CallV c (.type "range") [.int n] σ Q := fun g s vs R r => by
  obtain ⟨v, rfl, ⟨t, rfl⟩⟩ := rep1 r
  refine call_range_1 ?_
  obtain ⟨g', gx, R', hg⟩ := R.push (o := { cls := .type "range", data := .fields #[.int 0 s.toks, .int n t, .int 1 (s.toks + 1)] }) rfl
  exact ⟨g', _, .rng 0 n 1, gx, R'.tok _, ⟨_, _, _, _, rfl, hg⟩, q⟩
theorem C_range2 {a b : Int} (q : Q (.rng a b 1) σ) : CallV c (.type "range") [.int a, .int b] σ Q := fun g s vs R r => by
  obtain ⟨u, v, rfl, ⟨t, rfl⟩, ⟨t', rfl⟩⟩ := rep2 r
  refine call_range_2 ?_
  obtain ⟨g', gx, R', hg⟩ := R.push (o := { cls := .type "range", data := .fields #[.int a t, .int b t', .int 1 s.toks] }) rfl
  exact ⟨g', _, .rng a b 1, gx, R'.tok _, ⟨_, _, _, _, rfl, hg⟩, q⟩
theorem C_range3 {a b k : Int} (hk : k ≠ 0) (hk2 : k.natAbs < 1073741824) (q : Q (.rng a b k) σ) : CallV c (.type "range") [.int a, .int b, .int k] σ Q := fun g s vs R r => by
  obtain ⟨u, v, w, rfl, ⟨t, rfl⟩, ⟨t', rfl⟩, ⟨t'', rfl⟩⟩ := rep3 r
  refine call_range_3 hk ?_ (Or.inl (PyProof.noPylong_small hk2))
  obtain ⟨g', gx, R', hg⟩ := R.push (o := { cls := .type "range", data := .fields #[.int a t, .int b t', .int k t''] }) rfl
  exact ⟨g', _, .rng a b k, gx, R', ⟨_, _, _, _, rfl, hg⟩, q⟩
theorem C_tuple_own {a : Addr} {l : List SV} (hm : InH σ.heap a l) (hsz : l.length ≤ sizeLine) (q : Q (.tup l) σ) : CallV c (.type "tuple") [.ref a] σ Q := fun g s vs R r => by
  obtain ⟨v, rfl, rv⟩ := rep1 r
  have rv' : v = .ref a := rv
  subst rv'
  obtain ⟨ws, hl, rs⟩ := hm.at R
  refine call_tuple_list hl (fun h' hk => ?_) (by simpa [rs.length] using hsz)
  have R₁ : Rel c g σ { s with heap := h' } := R.ext (tk := s.toks) hk
  obtain ⟨g', gx, R', hg⟩ := R₁.push (o := { cls := .type "tuple", data := .seq ws.toArray }) rfl
  exact ⟨g', _, .tup l, gx, R', ⟨_, _, ws, _, rfl, hg, rfl, rfl, rs.mono gx.1⟩, q⟩
theorem C_tuple_lst {l : List SV} (hsz : l.length ≤ sizeLine) (q : Q (.tup l) σ) : CallV c (.type "tuple") [.lst l] σ Q := fun g s vs R r => by
  obtain ⟨v, rfl, rv⟩ := rep1 r
  obtain ⟨a, ws, rfl, hl, rs, _⟩ := lst_at R rv
  refine call_tuple_list hl (fun h' hk => ?_) (by simpa [rs.length] using hsz)
  have R₁ : Rel c g σ { s with heap := h' } := R.ext (tk := s.toks) hk
  obtain ⟨g', gx, R', hg⟩ := R₁.push (o := { cls := .type "tuple", data := .seq ws.toArray }) rfl
  exact ⟨g', _, .tup l, gx, R', ⟨_, _, ws, _, rfl, hg, rfl, rfl, rs.mono gx.1⟩, q⟩
theorem C_tuple_tup {l : List SV} (q : Q (.tup l) σ) : CallV c (.type "tuple") [.tup l] σ Q := fun g s vs R r => by
  obtain ⟨v, rfl, rv⟩ := rep1 r
  obtain ⟨a, ws, rfl, hl, rs, _⟩ := tup_at R rv
  exact call_tuple_tup hl (done1 R rv q)
theorem C_list_lst {l : List SV} (hsz : l.length ≤ sizeLine) (q : ∀ a, c.lo ≤ a → Q (.ref a) { σ with heap := (a, .list l) :: σ.heap }) : CallV c (.type "list") [.lst l] σ Q := fun g s vs R r => by
  obtain ⟨v, rfl, rv⟩ := rep1 r
  obtain ⟨a, o, ws, n, rfl, ha, hc, hd, rs⟩ := rv
  refine call_list_seq a (.inl rfl) (R.gh a o ha) hc hd (fun h' c' hk hD => ?_) (by simpa [rs.length] using hsz)
  have R₁ : Rel c g σ { s with heap := h' } := R.ext (tk := s.toks) hk
  have hf : ¬ Needs c g σ s.heap.objs.size := R.fresh
  refine ⟨g, _, .ref s.heap.objs.size, .refl _ _ _, R₁.adopt (a := s.heap.objs.size) (ob := .list l) ?_ ?_ ?_ ?_, rfl, q _ R.lo⟩
  · intro b hb; rw [List.mem_singleton.mp (show b ∈ [s.heap.objs.size] from hb)]; exact hf
  · intro b hb; rw [List.mem_singleton.mp (show b ∈ [s.heap.objs.size] from hb)]; exact R.lo
  · show [s.heap.objs.size].Nodup; simp
  · exact ⟨ws, ⟨c', hD⟩, rs⟩
theorem C_list_rng {a b k : Int} {n : Nat} (hsm : Builtin.Range.small a b k = true) (hn : Builtin.Range.rangeSize a b k = n) (hlen : n ≤ 2 ^ 24) (q : Q (.lst ((List.range n).map fun i : Nat => SV.int (a + i * k))) σ) : CallV c (.type "list") [.rng a b k] σ Q := fun g s vs R r => by
  obtain ⟨v, rfl, rv⟩ := rep1 r
  obtain ⟨ra, t₁, t₂, t₃, rfl, ha⟩ := rv
  refine call_list_range R.ok.room.hh (R.gh _ _ ha) hsm hn hlen fun h' tk acc' c' hk hD hI => ?_
  have R₁ : Rel c g σ { s with heap := h', toks := tk } := R.ext hk
  have hf : ¬ Needs c g σ s.heap.objs.size := R.fresh
  obtain ⟨g', gx, R', hg⟩ := R₁.frozen (a := s.heap.objs.size) R.lo hf hD
  refine ⟨g', _, .lst _, gx, R', ⟨_, _, acc'.toList, c', rfl, hg, rfl, by simp, ?_⟩, q⟩
  have key : ∀ (m : Nat) (vs : List Value), vs.length = m → (∀ (j : Nat) v, vs[j]? = some v → ∃ t, v = .int (a + j * k) t) → RepVs g' ((List.range m).map fun i : Nat => SV.int (a + i * k)) vs := by
    intro m
    induction m with
    | zero => intro vs hl _; rw [List.length_eq_zero_iff.mp hl]; exact rfl
    | succ m ih =>
      intro vs hl h
      have hne : vs ≠ [] := fun e => by rw [e] at hl; simp at hl
      obtain ⟨ini, x, rfl⟩ : ∃ ini x, vs = ini ++ [x] := ⟨vs.dropLast, vs.getLast hne, (List.dropLast_concat_getLast hne).symm⟩
      rw [List.range_succ, List.map_append]
      have hl' : ini.length = m := by simpa using hl
      refine (ih ini hl' fun j v e => h j v ?_).snoc (show RepV g' (.int (a + m * k)) x from ?_)
      · rw [List.getElem?_append_left (by have := (List.getElem?_eq_some_iff.mp e).1; exact this)]; exact e
      · obtain ⟨t, e⟩ := h m x (by simp [hl'])
        exact ⟨t, e⟩
  exact key n acc'.toList (by rw [Array.length_toList]; exact hI.1) fun j v e => hI.2 j v (by rw [← Array.getElem?_toList]; exact e)
theorem C_sorted_lst {ns : List Int} (h64 : ns.length < 64) (q : ∀ ns' : List Int, ns'.Perm ns → ns'.Pairwise (· ≤ ·) → Q (.lst (ns'.map .int)) σ) : CallV c (.builtin "sorted") [.lst (ns.map .int)] σ Q := fun g s vs R r => by
  obtain ⟨v, rfl, rv⟩ := rep1 r
  obtain ⟨a, ws, rfl, hl, rs, _⟩ := lst_at R rv
  have hi : IntsAre ws ns := ints_of rs
  have hlen : ws.length = ns.length := by simpa using rs.length
  refine sorted_ints hl hi (by exact om29 h64 hlen) fun out ns' ho hp hs => ?_
  obtain ⟨e, he⟩ := sortedAll_at s.heap ws out
  have R₁ : Rel c g σ { s with heap := sortedAll s.heap ws out } := R.ext (tk := s.toks) fun _ _ => sortedAll_old
  have hf : ¬ Needs c g σ (s.heap.objs.size + 1) := fun n => Nat.lt_irrefl _ (Nat.lt_trans (R.needs_lt n) (Nat.lt_succ_self _))
  obtain ⟨g', gx, R', hg⟩ := R₁.frozen (a := s.heap.objs.size + 1) (Nat.le_succ_of_le R.lo) hf he
  exact ⟨g', _, .lst (ns'.map .int), gx, R', ⟨_, _, out.toList, e, rfl, hg, rfl, by simp [seqObj], RepVs.ofInts ho⟩, q ns' hp hs⟩
theorem O_pow {a n : Int} (hn : 0 ≤ n) (hn2 : n ≤ 1000000) (ha : a.natAbs < 2 ^ 64) (q : Q (.int (a ^ n.toNat)) σ) : O2 c (binaryOp .Pow) (.int a) (.int n) σ Q := fun g s vs R r => by
  obtain ⟨u, v, rfl, ⟨t, rfl⟩, ⟨t', rfl⟩⟩ := rep2 r
  exact pow_int_small hn hn2 ha (done1 (sv := .int _) (R.tok _) ⟨_, rfl⟩ q)
theorem O_addt {l l' : List SV} (hsz : l.length + l'.length ≤ sizeLine) (q : Q (.tup (l ++ l')) σ) : O2 c (binaryOp .Add) (.tup l) (.tup l') σ Q := fun g s vs R r => by
  obtain ⟨u, v, rfl, r1, r2⟩ := rep2 r
  obtain ⟨a, o, ws, n, rfl, ha, hc, hd, rs⟩ := r2
  obtain ⟨a', o', ws', n', rfl, ha', hc', hd', rs'⟩ := r1
  obtain ⟨cls, dd, data, sl⟩ := o
  obtain ⟨cls', dd', data', sl'⟩ := o'
  simp only at hc hd hc' hd'
  subst hc hd hc' hd'
  have h1 := R.gh _ _ ha
  have h2 := R.gh _ _ ha'
  by_cases e1 : ws.toArray.isEmpty = true
  · refine concat_meets ⟨_, h1, rfl⟩ ⟨_, h2, rfl⟩ noFill_tuple_add seq_tuple_add PySem.F.slot_tuple_add PySem.F.entry_tuple_add (PySem.F.args_tuple_add_2 _ _) (tuple_addW0 a a' ws.toArray ws'.toArray n n' dd dd' sl sl' e1) ⟨h1, h2, ?_⟩
    have hw : ws = [] := by simpa using e1
    have hl0 : l = [] := List.length_eq_zero_iff.mp (by rw [← rs.length, hw]; rfl)
    subst hl0
    exact done1 (sv := .tup l') R ⟨_, _, ws', _, rfl, ha', rfl, rfl, rs'⟩ q
  · by_cases e2 : ws'.toArray.isEmpty = true
    · refine concat_meets ⟨_, h1, rfl⟩ ⟨_, h2, rfl⟩ noFill_tuple_add seq_tuple_add PySem.F.slot_tuple_add PySem.F.entry_tuple_add (PySem.F.args_tuple_add_2 _ _) (tuple_addW1 a a' ws.toArray ws'.toArray n n' dd dd' sl sl' e1 e2) ⟨h1, h2, ?_⟩
      have hw : ws' = [] := by simpa using e2
      have hl0 : l' = [] := List.length_eq_zero_iff.mp (by rw [← rs'.length, hw]; rfl)
      subst hl0
      rw [List.append_nil] at q
      exact done1 (sv := .tup l) R ⟨_, _, ws, _, rfl, ha, rfl, rfl, rs⟩ q
    · refine concat_meets ⟨_, h1, rfl⟩ ⟨_, h2, rfl⟩ noFill_tuple_add seq_tuple_add PySem.F.slot_tuple_add PySem.F.entry_tuple_add (PySem.F.args_tuple_add_2 _ _) (tuple_addW2 a a' ws.toArray ws'.toArray n n' dd dd' sl sl' e1 e2 (by simpa [rs.length, rs'.length] using hsz)) ⟨h1, h2, ?_⟩
      obtain ⟨g', gx, R', hg⟩ := R.push (o := { cls := .type "tuple", data := .seq (ws.toArray ++ ws'.toArray) }) rfl
      exact ⟨g', _, .tup (l ++ l'), gx, R', ⟨_, _, ws ++ ws', _, rfl, hg, rfl, by simp; rfl, (rs.mono gx.1).append (rs'.mono gx.1)⟩, q⟩
end
end
section
section
variable {c : Cx} {σ : St} {g : PM} {s : Shared} {Q : SV → St → Prop} {F : Fl → St → Prop} {U : St → Prop}
theorem O_t0 {v sl : Expr} {x : SV} {r : List SV} (q : Q x σ) (hn : (x :: r).length < 2 ^ 62 := by decide) (hs : ∀ o i, subscripted sl false o i = operate [o, i] (getItem o i) := by intro _ _; rfl) : O2 c (subscriptTail v sl) (.tup (x :: r)) (.int 0) σ Q :=
  O_item_tup (j := 0) (.inl ⟨by exact om30, by simp only [List.length_cons]; exact om31, rfl⟩) rfl hn q hs
theorem O_t1 {v sl : Expr} {x y : SV} {r : List SV} (q : Q y σ) (hn : (x :: y :: r).length < 2 ^ 62 := by decide) (hs : ∀ o i, subscripted sl false o i = operate [o, i] (getItem o i) := by intro _ _; rfl) : O2 c (subscriptTail v sl) (.tup (x :: y :: r)) (.int 1) σ Q :=
  O_item_tup (j := 1) (.inl ⟨by exact om32, by simp only [List.length_cons]; exact om33, rfl⟩) rfl hn q hs
theorem O_t2 {v sl : Expr} {x y z : SV} {r : List SV} (q : Q z σ) (hn : (x :: y :: z :: r).length < 2 ^ 62 := by decide) (hs : ∀ o i, subscripted sl false o i = operate [o, i] (getItem o i) := by intro _ _; rfl) : O2 c (subscriptTail v sl) (.tup (x :: y :: z :: r)) (.int 2) σ Q :=
  O_item_tup (j := 2) (.inl ⟨by exact om34, by simp only [List.length_cons]; exact om35, rfl⟩) rfl hn q hs
theorem O_last {v sl : Expr} {a : Addr} {l : List SV} {x : SV} (hl : InH σ.heap a (l ++ [x])) (hn : l.length < 2 ^ 60) (q : Q x σ) (hs : ∀ o i, subscripted sl false o i = operate [o, i] (getItem o i) := by intro _ _; rfl) : O2 c (subscriptTail v sl) (.ref a) (.int (-1)) σ Q :=
  O_item_own hl (j := l.length) (.inr ⟨by exact om36, by simp; exact om37, by simp; exact om38⟩) (by simp) (by simp; exact om39 hn) q hs
theorem O_lat {v sl : Expr} {l : List SV} {k : Int} {x : SV} (h0 : 0 ≤ k) (hx : l[k.toNat]? = some x) (hn : l.length < 2 ^ 62) (q : Q x σ) (hs : ∀ o i, subscripted sl false o i = operate [o, i] (getItem o i) := by intro _ _; rfl) : O2 c (subscriptTail v sl) (.lst l) (.int k) σ Q :=
  O_item_lst (j := k.toNat) (.inl ⟨h0, by have := (List.getElem?_eq_some_iff.mp hx).1; exact om40 this, rfl⟩) hx hn q hs
theorem O_oat {v sl : Expr} {a : Addr} {l : List SV} {k : Int} {x : SV} (hl : InH σ.heap a l) (h0 : 0 ≤ k) (hx : l[k.toNat]? = some x) (hn : l.length < 2 ^ 62) (q : Q x σ) (hs : ∀ o i, subscripted sl false o i = operate [o, i] (getItem o i) := by intro _ _; rfl) : O2 c (subscriptTail v sl) (.ref a) (.int k) σ Q :=
  O_item_own hl (j := k.toNat) (.inl ⟨h0, by have := (List.getElem?_eq_some_iff.mp hx).1; exact om40 this, rfl⟩) hx hn q hs
theorem O_tat {v sl : Expr} {l : List SV} {k : Int} {x : SV} (h0 : 0 ≤ k) (hx : l[k.toNat]? = some x) (hn : l.length < 2 ^ 62) (q : Q x σ) (hs : ∀ o i, subscripted sl false o i = operate [o, i] (getItem o i) := by intro _ _; rfl) : O2 c (subscriptTail v sl) (.tup l) (.int k) σ Q :=
  O_item_tup (j := k.toNat) (.inl ⟨h0, by have := (List.getElem?_eq_some_iff.mp hx).1; exact om40 this, rfl⟩) hx hn q hs
theorem E_app {o e : Expr} {apos pos : Pos} {pl : Sem Bool} (h : EE c o σ fun ov σ₁ => ∃ a l, ov = .ref a ∧ (a, AObj.list l) ∈ σ₁.heap ∧ EE c e σ₁ fun y σ₂ => ∃ l' H', HUpd σ₂.heap a (.list l') (.list (l' ++ [y])) H' ∧ l'.length ≤ sizeLine ∧ Q .none { σ₂ with heap := H' })
    (hpl : (backTo pos (starEach [e] c.env)).any (·.1) = false := by rfl) (he1 : starEach [e] c.env = (false, eval e c.env) :: starEach [] c.env := by rfl)
    (he : eval (.Call (.Attribute o "append" apos) [e] [] pos) c.env = (do
      let ov ← eval o c.env
      standAt apos.atName
      let (f, first) ← holding [ov] (getMethod ov "append" pl)
      callWith pos f first (backTo pos (starEach [e] c.env)) []) := by rfl) : EE c (.Call (.Attribute o "append" apos) [e] [] pos) σ Q :=
  E_methB "list.append" (EvV.mono h fun ov σ₁ ⟨a, l, e1, hm, h2⟩ => by
    subst e1
    exact ⟨GM_list hm PySem.F.slot_list_append PySem.F.type_list_append, A_cons (EvV.mono h2 fun y σ₂ ⟨l', H', u, hsz, q⟩ => A_nil (C_append u hsz q)) he1⟩) hpl he
noncomputable def pickL (l : List SV) (lo hi st : Option Int) : List SV := (sliceRange (sliceBounds lo hi st l.length).1 (sliceBounds lo hi st l.length).2.1 (sliceBounds lo hi st l.length).2.2).filterMap (l[·]?)
theorem RepVs.places {g : PM} {l : List SV} {vs : List Value} (h : RepVs g l vs) : ∀ js : List Nat, RepVs g (js.filterMap (l[·]?)) (js.filterMap (vs[·]?))
  | [] => rfl
  | j :: js => by
    have ih := RepVs.places h js
    cases hn : l[j]? with
    | some n =>
      obtain ⟨v, hv, r⟩ := h.get hn
      simp only [List.filterMap_cons, hn, hv]
      exact ⟨v, _, rfl, r, ih⟩
    | none =>
      have hv : vs[j]? = none := by rw [List.getElem?_eq_none_iff] at hn ⊢; rw [h.length]; exact hn
      simp only [List.filterMap_cons, hn, hv]
      exact ih
theorem range_pick {l : List SV} : ∀ {n : Nat}, n ≤ l.length → (List.range n).filterMap (l[·]?) = l.take n
  | 0, _ => by simp
  | n + 1, h => by
    rw [List.range_succ, List.filterMap_append, range_pick (Nat.le_of_succ_le h), List.take_add_one]
    have : l[n]? = some l[n] := by simp
    simp [this]
theorem pickL_to {l : List SV} {k : Nat} : pickL l none (some k) none = l.take k := by
  unfold pickL sliceBounds sliceRange
  have e1 : (max 0 (min (k : Int) l.length)) = ((min k l.length : Nat) : Int) := by exact om41
  have e2 : ¬ ((k : Int) < 0) := by exact om42
  simp only [Option.getD_none, show (1 : Int) > 0 by decide, if_true, if_neg e2, e1]
  have e3 : (if (0 : Int) < ((min k l.length : Nat) : Int) then (((min k l.length : Nat) : Int) - 0 + 1 - 1) / 1 else 0).toNat = min k l.length := by split <;> omega
  rw [e3]
  have e4 : (List.range (min k l.length)).map (fun j : Nat => ((0 : Int) + 1 * (j : Int)).toNat) = List.range (min k l.length) := by
    conv => rhs; rw [← List.map_id (List.range (min k l.length))]
    exact List.map_congr_left fun j _ => by simp
  rw [e4]
  rw [range_pick (by exact om43)]
  rcases Nat.le_total k l.length with h | h
  · rw [Nat.min_eq_left h]
  · rw [Nat.min_eq_right h, List.take_length, List.take_of_length_le h]
theorem pickL_rev {l : List SV} : pickL l none none (some (-1)) = l.reverse := by
  unfold pickL sliceBounds sliceRange
  simp only [Option.getD_some, show ¬ ((-1 : Int) > 0) by decide, if_false]
  have e3 : (if ((l.length : Int) - 1) > -1 then (((l.length : Int) - 1) - (-1) - (-1) - 1) / (- (-1)) else 0).toNat = l.length := by
    rw [show (- (-1 : Int)) = 1 by decide, Int.ediv_one]; split <;> omega
  rw [e3]
  have e4 : (List.range l.length).map (fun j : Nat => (((l.length : Int) - 1) + (-1) * (j : Int)).toNat) = (List.range l.length).reverse := by
    apply List.ext_getElem
    · simp
    · intro i h1 h2
      simp at h1 h2 ⊢
      exact om44
  rw [e4, List.filterMap_reverse, range_pick (Nat.le_refl _), List.take_length]
noncomputable abbrev EP (c : Cx) (x : Option Expr) := EvV c [] (fun _ => evalPart x c.env)
theorem EP_none (q : Q .none σ) : EP c none σ Q := fun g s vs R _ => wpAny_pure (done1 (sv := .none) R rfl q)
theorem EP_some {e : Expr} (h : EE c e σ Q) : EP c (some e) σ Q := h
inductive PartIs : SV → Option Int → Prop
  | none : PartIs .none none
  | int (i : Int) : PartIs (.int i) (some i)
theorem PartIs.val {g : PM} {sv : SV} {o : Option Int} {v : Value} (p : PartIs sv o) (r : RepV g sv v) : IsPart v o := by
  cases p with
  | none => cases r; exact .none
  | int i => obtain ⟨t, rfl⟩ := r; exact .int i t
theorem slice_any {x : SV} {l : List SV} {lo hi st : Option Int} {lower upper : Option Expr} {step : Option Expr} {p1 : Pos} {va : Value} (R : Rel c g σ s) (r : RepV g x va) (h0 : st ≠ some 0) (hsz : l.length ≤ sizeLine)
    (h : EP c lower σ fun a σ₁ => PartIs a lo ∧ EP c upper σ₁ fun b σ₂ => PartIs b hi ∧ EP c step σ₂ fun d σ₃ => PartIs d st ∧ (x = .lst l ∨ ∃ a, x = .ref a ∧ InH σ₃.heap a l) ∧ Q (.lst (pickL l lo hi st)) σ₃) :
    wpAny (model pw c.w) c.A (eval (.Slice lower upper step p1) c.env) (fun i s₂ => s₂.TypeIs va "list" ∧ wpAny (model pw c.w) c.A (getItem va i) (fun v s' => ∃ g' σ' sv, GX c.lo c.pr g g' ∧ Rel c g' σ' s' ∧ RepV g' sv v ∧ Q sv σ') (fun _ _ => False) s₂) (fun _ _ => False) s := by
  refine wpAny_Slice (stage R (xs := [x]) (vs := [va]) ⟨va, [], rfl, r, rfl⟩ h fun g₁ σ₁ s₁ a vl x₁ R₁ r₁ q₁ => stage R₁ r₁ q₁.2 fun g₂ σ₂ s₂ b vu x₂ R₂ r₂ q₂ => stage R₂ r₂ q₂.2 fun g₃ σ₃ s₃ d vs x₃ R₃ r₃ q₃ => ?_)
  obtain ⟨ud, rest, e, rd, rr⟩ := r₃
  cases e
  obtain ⟨ub, rest, e, rb, rr⟩ := rr
  cases e
  obtain ⟨ua, rest, e, ra, rr⟩ := rr
  cases e
  obtain ⟨ux, rest, e, rx, rr⟩ := rr
  cases e
  have hl : ∃ ad ws, va = .ref ad ∧ s₃.heap.IsList ad (List.toArray ws) ∧ RepVs g₃ l ws := by
    rcases q₃.2.1 with e | ⟨ad, e, hm⟩
    · subst e
      obtain ⟨ad, ws, rfl, hl, rs, _⟩ := lst_at R₃ rx
      exact ⟨ad, ws, rfl, hl, rs⟩
    · subst e
      obtain ⟨ws, hl, rs⟩ := hm.at R₃
      exact ⟨ad, ws, rx, hl, rs⟩
  obtain ⟨ad, ws, rfl, hl, rs⟩ := hl
  have R₄ : Rel c g₃ σ₃ { s₃ with heap := s₃.heap.push { cls := .type "slice", data := .fields #[vl, vu, vs] } } := R₃.ext (tk := s₃.toks) fun b o e => Heap.get?_push_of_some _ e
  refine ⟨(hl.push _).typeIs (s := { s₃ with heap := s₃.heap.push { cls := .type "slice", data := .fields #[vl, vu, vs] } }), ?_⟩
  refine wpAny_getItem_list_slice (s := { s₃ with heap := s₃.heap.push { cls := .type "slice", data := .fields #[vl, vu, vs] } }) (hl.push _) (Heap.IsSliceOf.new ..) (q₁.1.val ra) (q₂.1.val rb) (q₃.1.val rd) h0 ?_ (by simpa [rs.length] using hsz)
  obtain ⟨g', gx, R', hg⟩ := R₄.push (o := { cls := .type "list", data := .seq (slicePick ws.toArray lo hi st) }) rfl
  refine ⟨g', _, .lst (pickL l lo hi st), ((x₁.trans x₂).trans x₃).trans gx, R', ⟨_, _, (slicePick ws.toArray lo hi st).toList, 0, rfl, hg, rfl, by simp, ?_⟩, q₃.2.2⟩
  have e : (slicePick ws.toArray lo hi st).toList = (sliceRange (sliceBounds lo hi st l.length).1 (sliceBounds lo hi st l.length).2.1 (sliceBounds lo hi st l.length).2.2).filterMap (ws[·]?) := by
    simp [slicePick, rs.length]
  rw [e]
  exact (rs.mono gx.1).places _
theorem E_slc_to {value : Expr} {k kd : Nat} {p0 p1 pos : Pos} (h : EE c value σ fun a σ₁ => ∃ l, (a = .lst l ∨ ∃ ad, a = .ref ad ∧ InH σ₁.heap ad l) ∧ l.length ≤ sizeLine ∧ Q (.lst (l.take k)) σ₁) (ht : ∀ o r, letTemporaryGo value o r = pure () := by intro _ _; rfl) :
    EE c (.Subscript value (.Slice none (some (.Constant (.int k) kd p0)) none p1) pos) σ Q := fun g s vs R _ => by
  refine wpAny_Subscript_Slice (T := "list") list_getitem_lookup (stage R (xs := []) (vs := []) rfl h fun g₁ σ₁ s₁ a va x₁ R₁ r₁ q₁ => ?_) ht
  obtain ⟨u, e, r⟩ := rep1 r₁
  cases e
  obtain ⟨l, hl, hsz, q⟩ := q₁
  refine wpAny_mono (slice_any (l := l) (lo := none) (hi := some (k : Int)) (st := none) R₁ r (by simp) hsz (EP_none ⟨.none, EP_some (E_int ⟨.int _, EP_none ⟨.none, hl, by rw [pickL_to]; exact q⟩⟩)⟩)) (fun i s₂ ⟨h1, h2⟩ => ⟨h1, wpAny_mono h2 (fun v s' ⟨g', σ', sv, a1, a2, a3, a4⟩ => ⟨g', σ', sv, x₁.trans a1, a2, a3, a4⟩) fun _ _ f => f⟩) fun _ _ f => f
theorem E_slc_rev {value : Expr} {kd : Nat} {p0 p1 p2 pos : Pos} (h : EE c value σ fun a σ₁ => ∃ l, (a = .lst l ∨ ∃ ad, a = .ref ad ∧ InH σ₁.heap ad l) ∧ l.length ≤ sizeLine ∧ Q (.lst l.reverse) σ₁) (ht : ∀ o r, letTemporaryGo value o r = pure () := by intro _ _; rfl) :
    EE c (.Subscript value (.Slice none none (some (.UnaryOp .USub (.Constant (.int 1) kd p0) p2)) p1) pos) σ Q := fun g s vs R _ => by
  refine wpAny_Subscript_Slice_step (T := "list") list_getitem_lookup (stage R (xs := []) (vs := []) rfl h fun g₁ σ₁ s₁ a va x₁ R₁ r₁ q₁ => ?_) ht
  obtain ⟨u, e, r⟩ := rep1 r₁
  cases e
  obtain ⟨l, hl, hsz, q⟩ := q₁
  refine wpAny_mono (slice_any (l := l) (lo := none) (hi := none) (st := some (-1)) R₁ r (by simp) hsz (EP_none ⟨.none, EP_none ⟨.none, EP_some (E_una (E_int (O_negi ⟨.int _, hl, by rw [pickL_rev]; exact q⟩)))⟩⟩)) (fun i s₂ ⟨h1, h2⟩ => ⟨h1, wpAny_mono h2 (fun v s' ⟨g', σ', sv, a1, a2, a3, a4⟩ => ⟨g', σ', sv, x₁.trans a1, a2, a3, a4⟩) fun _ _ f => f⟩) fun _ _ f => f
end
end
section
noncomputable def byT (w : World) : Bool := w.params.followText "set-order"
noncomputable def sets16 : List (List Int) := [[], [0], [1], [0, 1], [2], [0, 2], [1, 2], [0, 1, 2], [3], [0, 3], [1, 3], [0, 1, 3], [2, 3], [0, 2, 3], [1, 2, 3], [0, 1, 2, 3]]
noncomputable def tabOf (led : Bool) (xs : List Int) : SetTable := { mask := 7, place := (xs.map Int.toNat).toArray, dummies := #[], finger := 0, led := led, moves := 0, plain := true }
noncomputable def posOf (x : Int) (xs : List Int) : Nat := (xs.filter fun y => decide (y < x)).length
noncomputable def ins (x : Int) (xs : List Int) : List Int := if x ∈ xs then xs else xs.take (posOf x xs) ++ x :: xs.drop (posOf x xs)
theorem ins_mem (x y : Int) (xs : List Int) : y ∈ ins x xs ↔ y ∈ xs ∨ y = x := by
  unfold ins
  split
  · rename_i h
    exact ⟨.inl, fun q => q.elim id fun e => e ▸ h⟩
  · rw [List.mem_append, List.mem_cons]
    have : y ∈ xs ↔ y ∈ xs.take (posOf x xs) ∨ y ∈ xs.drop (posOf x xs) := by rw [← List.mem_append, List.take_append_drop]
    rw [this]
    constructor
    · rintro (h | h | h)
      · exact .inl (.inl h)
      · exact .inr h
      · exact .inl (.inr h)
    · rintro ((h | h) | h)
      · exact .inl h
      · exact .inr (.inr h)
      · exact .inr (.inl h)
theorem ins_16 : ∀ xs ∈ sets16, ∀ x ∈ [(0 : Int), 1, 2, 3], ins x xs ∈ sets16 := by decide +kernel
theorem put_16 : ∀ xs ∈ sets16, ∀ x ∈ [(0 : Int), 1, 2, 3], x ∉ xs → ∀ led : Bool, (tabOf led xs).freeSlot x = some (x.toNat, false) ∧ (tabOf led xs).put x.toNat = (tabOf led (ins x xs), posOf x xs) ∧ (tabOf led (ins x xs)).tooFull = false ∧ hashInt x = x := by decide +kernel
theorem size_16 : ∀ xs ∈ sets16, xs.length ≤ 4 ∧ xs.Nodup ∧ ∀ x ∈ xs, x ∈ [(0 : Int), 1, 2, 3] := by decide +kernel
structure Small (w : World) (xs : List Int) (es : Array (Int × Value)) (t : SetTable) : Prop where
  all : xs ∈ sets16
  es : ∃ ts : List Tok, ts.length = xs.length ∧ es.toList = (xs.zip ts).map fun p => (p.1, Value.int p.1 p.2)
  tab : t = tabOf (!byT w) xs
noncomputable def SetAt (w : World) (h : Heap) (a : Addr) (xs : List Int) : Prop := ∃ es ep t, h.get? a = some { cls := .type "set", dict := none, data := .set es ep t, slots := #[] } ∧ Small w xs es t
theorem Small.size {w : World} {xs : List Int} {es : Array (Int × Value)} {t : SetTable} (x : Small w xs es t) : es.size = xs.length := by
  obtain ⟨ts, h1, h2⟩ := x.es
  rw [← Array.length_toList, h2, List.length_map, List.length_zip, h1, Nat.min_self]
theorem Small.fits {w : World} {xs : List Int} {es : Array (Int × Value)} {t : SetTable} (x : Small w xs es t) : t.fits es.size = true := by
  rw [x.size, x.tab]
  have h := (size_16 xs x.all).1
  unfold tabOf SetTable.fits SetTable.fill
  simp; exact om45 h
theorem Small.elems {w : World} {xs : List Int} {es : Array (Int × Value)} {t : SetTable} (x : Small w xs es t) : ElemsOf (intKind pw w) es.toList := by
  obtain ⟨ts, h1, h2⟩ := x.es
  intro e he
  rw [h2] at he
  obtain ⟨p, hp, rfl⟩ := List.mem_map.mp he
  have hm := (size_16 xs x.all).2.2 p.1 (List.of_mem_zip hp).1
  refine ⟨⟨p.1, intKind_is pw w _ _, ?_⟩, rfl⟩
  show p.1 = hashInt p.1
  have : ∀ x ∈ [(0 : Int), 1, 2, 3], hashInt x = x := by decide +kernel
  exact (this _ hm).symm
theorem insertAt_toArray {α : Type} (l : List α) (p : Nat) (x : α) : SetTable.insertAt l.toArray p x = (l.take p ++ x :: l.drop p).toArray := by
  unfold SetTable.insertAt
  apply Array.toList_inj.mp
  simp
  exact List.take_of_length_le (by simp)
theorem zip_ins {xs : List Int} {ts : List Tok} (h : ts.length = xs.length) (p : Nat) (x : Int) (u : Tok) : (xs.take p ++ x :: xs.drop p).zip (ts.take p ++ u :: ts.drop p) = (xs.zip ts).take p ++ (x, u) :: (xs.zip ts).drop p := by
  rw [List.zip_append (by simp [h]), List.zip_cons_cons]
  simp only [List.zip, List.take_zipWith, List.drop_zipWith]
theorem Small.put {w : World} {xs : List Int} {es : Array (Int × Value)} {t : SetTable} (sm : Small w xs es t) {x : Int} (hx : x ∈ [(0 : Int), 1, 2, 3]) (hn : x ∉ xs) (u : Tok) :
    ∃ es', layNew t es (hashInt x) (.int x u) = (es', tabOf (!byT w) (ins x xs), false, false) ∧ Small w (ins x xs) es' (tabOf (!byT w) (ins x xs)) := by
  obtain ⟨ts, h1, h2⟩ := sm.es
  obtain ⟨p1, p2, p3, p4⟩ := put_16 xs sm.all x hx hn (!byT w)
  have hes : es = ((xs.zip ts).map fun p => (p.1, Value.int p.1 p.2)).toArray := by apply Array.toList_inj.mp; rw [h2]
  have hins : ins x xs = xs.take (posOf x xs) ++ x :: xs.drop (posOf x xs) := by unfold ins; rw [if_neg hn]
  have hsm : Small w (ins x xs) (SetTable.insertAt es (posOf x xs) (x, .int x u)) (tabOf (!byT w) (ins x xs)) := by
    refine ⟨ins_16 xs sm.all x hx, ⟨ts.take (posOf x xs) ++ u :: ts.drop (posOf x xs), ?_, ?_⟩, rfl⟩
    · rw [hins]; simp [h1]
    · rw [hes, insertAt_toArray, hins, zip_ins h1]
      simp [List.map_append, List.map_take, List.map_drop]
  refine ⟨SetTable.insertAt es (posOf x xs) (x, .int x u), ?_, hsm⟩
  have hf := hsm.fits
  unfold layNew
  rw [p4, sm.tab, p1]
  dsimp only
  rw [p2]
  dsimp only
  unfold SetTable.orStandIn
  rw [if_pos hf, hf]
  rfl
section
variable {w : World} {A : Around} {E : Value → Shared → Prop} {s : Shared}
theorem set_add {a : Addr} {xs : List Int} {x : Int} {u : Tok} {Q : Bool → Shared → Prop} (hS : SetAt w s.heap a xs) (hx : x ∈ [(0 : Int), 1, 2, 3])
    (h : ∀ h' b, Heap.SameBut a s.heap h' → SetAt w h' a (ins x xs) → Q b { s with heap := h' }) : wpAny (model pw w) A (setAddHashed a (.int x u) (hashInt x)) Q E s := by
  obtain ⟨es, ep, t, ho, sm⟩ := hS
  have hsz := (size_16 xs sm.all).1
  have hb : es.size < scanBound := by rw [sm.size]; unfold scanBound; exact om46 hsz
  unfold setAddHashed setAddHashedIn
  refine wpAny_holding (wpAny_bind (wpAny_setState_of ho rfl sm.fits ?_))
  dsimp only
  rw [byScan_of (knd := intKind pw w) rfl hb sm.elems]
  simp only [↓reduceIte]
  unfold setAddByScan
  refine wpAny_bind (wpAny_bind (wpAny_rule (wpAny_bind (wpAny_setScan_of (knd := intKind pw w) (k := x) (intKind_is pw w x u) ho rfl sm.fits sm.elems ?_))))
  cases hr : List.findIdx? (fun e => (intKind pw w).is x e.2) es.toList with
  | some j =>
    dsimp only
    have hmem : x ∈ xs := by
      obtain ⟨hj, hpj, _⟩ := List.findIdx?_eq_some_iff_getElem.mp hr
      obtain ⟨ts, h1, h2⟩ := sm.es
      have hm := List.getElem_mem hj
      generalize es.toList[j] = ent at hm hpj
      rw [h2] at hm
      obtain ⟨p, hp, e⟩ := List.mem_map.mp hm
      have : (intKind pw w).is x (Value.int p.1 p.2) = true := by
        have := hpj
        rw [← e] at this
        exact this
      have e2 := (intKind pw w).inj _ x p.1 this (intKind_is pw w _ _)
      rw [e2]; exact (List.of_mem_zip hp).1
    refine wpAny_pure (wpAny_pure ?_)
    have e : s = { s with heap := s.heap } := by cases s; rfl
    rw [e]
    exact h s.heap _ (Heap.SameBut.refl a s.heap) (by rw [ins, if_pos hmem]; exact ⟨es, ep, t, ho, sm⟩)
  | none =>
    dsimp only
    have hmem : x ∉ xs := fun hm => by
      obtain ⟨ts, h1, h2⟩ := sm.es
      obtain ⟨i, hi, e⟩ := List.getElem_of_mem hm
      have hz : (x, Value.int x (ts[i]'(h1 ▸ hi))) ∈ es.toList := by
        rw [h2]
        refine List.mem_map.mpr ⟨(x, ts[i]'(h1 ▸ hi)), ?_, rfl⟩
        have : (xs.zip ts)[i]? = some (x, ts[i]'(h1 ▸ hi)) := by simp [List.getElem?_zip_eq_some, hi, e, h1 ▸ hi]
        exact List.mem_of_getElem? this
      have := List.findIdx?_eq_none_iff.mp hr _ hz
      rw [intKind_is] at this; cases this
    obtain ⟨es', hl, sm'⟩ := sm.put hx hmem u
    obtain ⟨_, _, p3, _⟩ := put_16 xs sm.all x hx hmem (!byT w)
    have hb' : es'.size < scanBound := by rw [sm'.size]; have := (size_16 _ sm'.all).1; unfold scanBound; exact om46 this
    rw [hl]
    dsimp only
    refine wpAny_bind (wpAny_pure ?_)
    have hg : (s.heap.update a (Obj.putSet es' (tabOf (!byT w) (ins x xs)))).get? a = some { cls := .type "set", dict := none, data := .set es' (ep + 1) (tabOf (!byT w) (ins x xs)), slots := #[] } := by
      have := Heap.get?_update_self (Obj.putSet es' (tabOf (!byT w) (ins x xs))) ho (by rw [putSet_of _ _ rfl]; rfl)
      rw [putSet_of _ _ rfl] at this; exact this
    rw [if_pos (show (tabOf (!byT w) (ins x xs)).plain = true from rfl), hashByValue_scannable 8 (show (Value.int x u).scannable = true from rfl)]
    refine wpAny_bind (wpAny_pure ?_)
    refine wpAny_bind (wpAny_storeSet_of ho rfl ?_ (fits_of_scanBound hb'))
    simp only [show plainKind (Value.int x u) = true from rfl, if_true]
    rw [p3]
    refine wpAny_pure ?_
    exact wpAny_pure (h _ true (Heap.SameBut.update ..) ⟨es', ep + 1, _, hg, sm'⟩)
end
end
section
section
variable {w : World} {A : Around} {E : Value → Shared → Prop} {s : Shared}
noncomputable def freshSet (w : World) : Obj := { cls := .type "set", dict := none, data := .set #[] 0 (.fresh 0 0 (!byT w)), slots := #[] }
theorem code_set_new_x (a : Value) {Q₁ : Value → Shared → Prop} (h : Q₁ (.ref s.heap.objs.size) { s with heap := s.heap.push (freshSet w) }) :
    codeAny (model pw w) A (.call (.builtin "set.__new__") ⟨[.type "set", a], []⟩) (wants Q₁ E) s := by
  refine codeAny_of_tree ?_
  show wpAny _ A.in1 (do checkBuiltinCall "set.__new__" ⟨[.type "set", a], []⟩; again (.builtin "set.__new__" ⟨[.type "set", a], []⟩)) _ _ s
  refine wpAny_bind (wpAny_of_eq (PySem.F.newCall_set_1 a) (wpAny_pure ⟨plainId_quiet PySem.F.plain_set_new _, codeAny_builtin PySem.F.entry_set_new ?_⟩))
  rw [Around.under_plainId PySem.F.plain_set_new _]
  unfold Builtin.«set.__new__» Builtin.Frozenset.newClass
  have hsub := sub_set_self
  obtain ⟨hp, g, d, tk, os⟩ := s
  dsimp only
  wp_walk
  refine wpAny_askSetting (wpAny_pure ?_)
  dsimp only
  simp only [newObj]
  refine wpAny_bind (wpAny_alloc (wpAny_pure ?_))
  exact wpAny_pure h
end
noncomputable def insAll (ns : List Int) : List Int := ns.foldl (fun a x => ins x a) []
theorem insAll_snoc (ns : List Int) (x : Int) : insAll (ns ++ [x]) = ins x (insAll ns) := by unfold insAll; rw [List.foldl_append]; rfl
theorem mem_foldl_ins (x : Int) : ∀ (ns acc : List Int), x ∈ ns.foldl (fun a x => ins x a) acc ↔ x ∈ acc ∨ x ∈ ns
  | [], acc => by simp
  | y :: r, acc => by rw [List.foldl_cons, mem_foldl_ins x r, ins_mem, List.mem_cons, or_assoc]
theorem mem_insAll (x : Int) (ns : List Int) : x ∈ insAll ns ↔ x ∈ ns := by unfold insAll; rw [mem_foldl_ins]; simp
theorem foldl_16 : ∀ (ns acc : List Int), acc ∈ sets16 → (∀ x ∈ ns, x ∈ [(0 : Int), 1, 2, 3]) → ns.foldl (fun a x => ins x a) acc ∈ sets16
  | [], acc, h, _ => h
  | y :: r, acc, h, hn => foldl_16 r _ (ins_16 _ h _ (hn y (.head _))) fun x hx => hn x (.tail _ hx)
theorem insAll_16 {ns : List Int} (h : ∀ x ∈ ns, x ∈ [(0 : Int), 1, 2, 3]) : insAll ns ∈ sets16 := foldl_16 ns [] (by decide) h
section
variable {w : World} {A : Around} {R : Result → Shared → Prop} {I : Addr} {fp wr : List Addr} {G : Array GenState → Array GenState → Prop} {n : Nat} {P : Nat → Value → Prop} {St : Nat → Shared → Prop}
theorem SetAt.keep {h h' : Heap} {a : Addr} {xs : List Int} (x : SetAt w h a xs) (hk : ∀ o, h.get? a = some o → h'.get? a = some o) : SetAt w h' a xs :=
  let ⟨es, ep, t, ho, r⟩ := x; ⟨es, ep, t, hk _ ho, r⟩
theorem set_update_loop (W : WalksS pw w A.in1 I fp wr G n P St) (S : Addr) (hSf : S ∉ fp) (ns : List Int) (hns : ∀ x ∈ ns, x ∈ [(0 : Int), 1, 2, 3]) (hn : ns.length = n)
    (hval : ∀ i v, P i v → ∃ x t, ns[i]? = some x ∧ v = .int x t) :
    ∀ (k i : Nat) (s : Shared), n - i = k → i ≤ n → St i s → SetAt w s.heap S (insAll (ns.take i)) →
      (∀ s', Moved (S :: wr) G s s' → SetAt w s'.heap S (insAll ns) → R (.ok (.ret .none)) s') →
      codeAny (model pw w) A (.builtin "set.update.loop" ⟨[.ref S, .ref I], []⟩) R s := by
  have hSw : S ∉ wr := fun h => hSf (W.sub _ h)
  have hsub : ∀ b ∈ wr, b ∈ S :: wr := fun b hb => List.mem_cons_of_mem _ hb
  intro k
  induction k with
  | zero =>
    intro i s hk hi hst hS hR
    have hin : i = n := by exact om47 hk hi
    subst hin
    refine codeAny_builtin PyProof.Rows.F.entry_set_update_loop ?_
    rw [Around.under_plainId PyProof.Rows.F.plain_set_update_loop _]
    show wpAny _ A.in1 (pyNext (.ref I) >>= _) _ _ s
    refine wpAny_bind (W.done s _ _ hst fun s' hm => ?_)
    show wpAny _ A.in1 (ret Value.none) _ _ s'
    rw [List.take_of_length_le (by exact om48 hn)] at hS
    exact wpAny_pure (hR s' (hm.mono hsub) (hS.keep fun o e => hm.heap S _ hSw e))
  | succ k ih =>
    intro i s hk hi hst hS hR
    have hlt : i < n := by exact om49 hk
    refine codeAny_builtin PyProof.Rows.F.entry_set_update_loop ?_
    rw [Around.under_plainId PyProof.Rows.F.plain_set_update_loop _]
    show wpAny _ A.in1 (pyNext (.ref I) >>= _) _ _ s
    refine wpAny_bind (W.item i s _ _ hlt hst fun v s' hP hst' hm => ?_)
    obtain ⟨x, t, hx, rfl⟩ := hval i v hP
    have hmx : x ∈ [(0 : Int), 1, 2, 3] := hns x (List.mem_of_getElem? hx)
    have hS' : SetAt w s'.heap S (insAll (ns.take i)) := hS.keep fun o e => hm.heap S _ hSw e
    show wpAny _ A.in1 (holding [Value.int x t] (setAdd S (.int x t)) >>= _) _ _ s'
    refine wpAny_bind (wpAny_holding ?_)
    unfold setAdd
    refine wpAny_holding ?_
    refine wpAny_bind ((intKind pw w).pyHash (k := x) (intKind_is _ _ _ _) ?_)
    refine set_add (s := { s' with toks := s'.toks + 1 }) hS' hmx fun h' b hsb hS2 => ?_
    have e : ns.take (i + 1) = ns.take i ++ [x] := by rw [List.take_succ, hx]; rfl
    have hSi : SetAt w h' S (insAll (ns.take (i + 1))) := by rw [e, insAll_snoc]; exact hS2
    refine wpAny_pure ⟨plainId_quiet PyProof.Rows.F.plain_set_update_loop _, ih (i + 1) _ (by exact om50 hk) hlt (W.frame _ s' _ _ hst' (Nat.le_succ _) fun b hb o e => ?_) hSi fun s'' hm'' hS'' => ?_⟩
    · rw [hsb.2 b (fun h : b = S => hSf (by rw [← h]; exact hb))]; exact e
    · refine hR s'' (Moved.trans W.gtrans ((hm.mono hsub).then_heap (Nat.le_succ _) fun b o hb e => ?_) hm'') hS''
      rw [hsb.2 b (fun h : b = S => hb (by rw [h]; exact List.mem_cons_self))]; exact e
end
section
variable {w : World} {A : Around} {E : Value → Shared → Prop} {s : Shared}
theorem fresh_at {h : Heap} {a : Addr} (e : h.get? a = some (freshSet w)) : SetAt w h a [] :=
  ⟨_, _, _, e, ⟨by decide, ⟨[], rfl, rfl⟩, rfl⟩⟩
set_option maxHeartbeats 3200000 in
theorem call_set_small {l : Addr} {items : Array Value} {ns : List Int} {Q : Value → Shared → Prop}
    (hh : A.handled = none) (hl : s.heap.IsList l items) (hi : IntsAre items.toList ns) (hns : ∀ x ∈ ns, x ∈ [(0 : Int), 1, 2, 3])
    (h : ∀ (h' : Heap) (tk : Nat), s.heap.objs.size < h'.objs.size → SetAt w h' s.heap.objs.size (insAll ns) →
      (∀ b o, b < s.heap.objs.size → s.heap.get? b = some o → h'.get? b = some o) → Q (.ref s.heap.objs.size) { s with heap := h', toks := tk }) :
    wpAny (model pw w) A (call (.type "set") [.ref l]) Q E s := by
  obtain ⟨c, tl, hmro⟩ := PySem.F.called_set.mro
  have hmade := PySem.F.called_set.made
  have hsub := PySem.F.called_set.sub
  refine wpAny_call (codeAny_of_tree ?_)
  show wpAny _ _ (callAny (.type "set") _) _ _ _
  refine wpAny_pure ⟨Code.quiet_builtin _ (by decide +kernel), codeAny_builtin PySem.F.entry_type_call ?_⟩
  rw [Around.under_plain (weight_type_call_type "set" [.ref l] []) rfl]
  have h1 := PySem.F.called_set.notType
  have h2 := PySem.F.called_set.canCreate
  have hct := PySem.F.typeCall_set_1 (.ref l)
  repeat (any_goals (first | assumption | wp_step))
  refine codeAny_mono (code_set_new_x (.ref l) (E := E) (Q₁ := fun obj s₁ => obj = .ref s.heap.objs.size ∧ s₁ = { s with heap := s.heap.push (freshSet w) }) ⟨rfl, rfl⟩) fun r s₁ hr => ?_
  cases r with
  | error e => exact hr
  | ok fl =>
    cases fl with
    | ret obj =>
      obtain ⟨rfl, rfl⟩ := hr
      have hS : (s.heap.push (freshSet w)).get? s.heap.objs.size = some (freshSet w) := Heap.get?_push_size _ rfl
      have hT : Shared.TypeIs { s with heap := s.heap.push (freshSet w) } (.ref s.heap.objs.size) "set" := ⟨_, hS, rfl⟩
      have hli := PySem.F.called_set.init.lookup
      have hbi := PySem.F.called_set.init.bind (.ref s.heap.objs.size)
      repeat (any_goals (first | assumption | wp_step))
      refine codeAny_mono (codeAny_call_builtin (R := wants (fun r s₂ => r = .none ∧ ∃ h' tk, s₂ = { s with heap := h', toks := tk } ∧ s.heap.objs.size < h'.objs.size ∧
          SetAt w h' s.heap.objs.size (insAll ns) ∧
          (∀ b o, b < s.heap.objs.size → s.heap.get? b = some o → h'.get? b = some o)) E) PySem.F.called_set.init.plain PySem.F.entry_set_init (check_set_init_1 hT ?_)) fun r₂ s₂ hr₂ => ?_
      · obtain ⟨ol, hol, hcl, nl, hdl⟩ := hl
        obtain ⟨ocls, odict, odata, oslots⟩ := ol
        simp only at hcl hdl
        subst hcl; subst hdl
        have hol' : (s.heap.push (freshSet w)).get? l = some { cls := .type "list", dict := odict, data := .seq items nl, slots := oslots } := Heap.get?_push_of_some _ hol
        have hsls := PySem.F.sub_list_set
        have hslf := PySem.F.sub_list_frozenset
        have hne : (Value.type "list" == Value.type "dict") = false := by decide
        have hl1 : (s.heap.push (freshSet w)).IsList l items := ⟨_, hol', rfl, nl, rfl⟩
        unfold Builtin.«set.__init__» noKeywords Builtin.Frozenset.updateFrom
        generalize hPI : pyIter = PI
        unfold freshSet at *
        wp_walk
        subst hPI
        refine wpAny_pyIter_list hl1 ?_
        refine wpAny_bind (wpAny_runValue ?_)
        have hlS : l < s.heap.objs.size := Heap.lt_size hol
        have hh3 : A.in1.in1.in1.handled = none := by simp [hh]
        have hneI : l ≠ (s.heap.push (freshSet w)).objs.size := by
          rw [Heap.size_push]; exact Nat.ne_of_lt (Nat.lt_succ_of_lt hlS)
        have hSf : s.heap.objs.size ∉ [(s.heap.push (freshSet w)).objs.size, l] := by
          rw [Heap.size_push]; simp only [List.mem_cons, List.mem_singleton, List.not_mem_nil, or_false, not_or]
          exact ⟨Nat.ne_of_lt (Nat.lt_succ_self _), Nat.ne_of_gt hlS⟩
        have hlen : ns.length = items.size := by rw [← Array.length_toList]; exact (IntsAre.length hi).symm
        have hval : ∀ (i : Nat) (v : Value), items[i]? = some v → ∃ x t, ns[i]? = some x ∧ v = .int x t := fun i v hv => by
          obtain ⟨t, ht⟩ := IntsAre.int_at hi i v (by rw [Array.getElem?_toList]; exact hv)
          have hlt : i < ns.length := by rw [hlen]; exact (Array.getElem?_eq_some_iff.mp hv).1
          exact ⟨ns.getD i 0, t, by simp [List.getD_eq_getElem?_getD, hlt], ht⟩
        refine set_update_loop ((Walks.list hh3 _ l hneI items).toS) s.heap.objs.size
          hSf ns hns hlen hval (items.size - 0) 0 _ (by exact om51) (Nat.zero_le _)
          ⟨⟨_, Heap.get?_push_size _ rfl, rfl, rfl⟩, (hl1.push _)⟩ ?hS0 ?hR
        case hS0 => exact fresh_at (Heap.get?_push_of_some _ hS)
        case hR =>
          intro s' hm hS'
          obtain ⟨h', g', d', tk', os'⟩ := s'
          have eg : g' = s.gens := hm.gens
          have ed : d' = s.drawn := hm.drawn
          have eo : os' = s.os := hm.os
          subst eg; subst ed; subst eo
          show wpAny _ _ _ _ _ _
          refine wpAny_pure ?_
          show wpAny _ _ (ret Value.none) _ _ _
          obtain ⟨_, _, _, hb1, _⟩ := id hS'
          refine wpAny_pure ⟨rfl, h', tk', rfl, Heap.lt_size hb1, hS', fun b o hb e => ?_⟩
          have hb1 : b ≠ s.heap.objs.size := Nat.ne_of_lt hb
          have hb2 : b ≠ (s.heap.push (freshSet w)).objs.size := by
            rw [Heap.size_push]; exact Nat.ne_of_lt (Nat.lt_succ_of_lt hb)
          exact hm.heap b o (by simp only [List.mem_cons, List.mem_singleton, List.not_mem_nil, or_false, not_or]; exact ⟨hb1, hb2⟩) (Heap.get?_push_of_some _ (Heap.get?_push_of_some _ e))
      · cases r₂ with
        | error e => exact hr₂
        | ok fl₂ =>
          cases fl₂ with
          | ret r =>
            obtain ⟨rfl, h', tk, rfl, hlt, hS', hk'⟩ := hr₂
            repeat (any_goals (first | assumption | wp_step))
            exact h _ _ hlt hS' hk'
          | _ => exact hr₂.elim
    | _ => exact hr.elim
end
end
section
theorem owner_si : Manifest.owners.lookup (String.ofList ['r', 'o', 't', 'a', 'r', 'e', 't', 'i', '_', 't', 'e', 's'].reverse) = some Manifest.sig_set_iterator := by kernel_rfl
theorem slot_si_next : Slot "set_iterator" "__next__" "set_iterator.__next__" :=
  .of (owner := "set_iterator") (n := "__next__") (by rw [typeLookup_type, builtinLookup_eq_fast]; kernel_rfl) (by decide +kernel) (by decide +kernel) (by decide +kernel)
    (by first | exact .inl (by decide +kernel) | exact .inr (by decide +kernel)) (by rw [isSubtype_type]; kernel_rfl)
theorem slot_si_iter : Slot "set_iterator" "__iter__" "set_iterator.__iter__" :=
  .of (owner := "set_iterator") (n := "__iter__") (by rw [typeLookup_type, builtinLookup_eq_fast]; kernel_rfl) (by decide +kernel) (by decide +kernel) (by decide +kernel)
    (by first | exact .inl (by decide +kernel) | exact .inr (by decide +kernel)) (by rw [isSubtype_type]; kernel_rfl)
theorem entry_si_next : entryFor table "set_iterator.__next__" = some Builtin.«set_iterator.__next__» := entryFor_of_tree (by kernel_rfl)
theorem entry_si_iter : entryFor table "set_iterator.__iter__" = some Builtin.«dict_keyiterator.__iter__» := entryFor_alias (id' := "dict_keyiterator.__iter__") (by kernel_rfl) rfl (by decide +kernel) (by kernel_rfl)
theorem entry_s_iter : entryFor table "set.__iter__" = some Builtin.«frozenset.__iter__» := entryFor_alias (id' := "frozenset.__iter__") (by kernel_rfl) rfl (by decide +kernel) (by kernel_rfl)
theorem args_si_next (a : Value) : argsOk "set_iterator.__next__" ⟨[a], []⟩ := by
  unfold argsOk; rw [signature?_of (id := "set_iterator.__next__") (n := ['_', '_', 't', 'x', 'e', 'n', '_', '_']) (o := ['r', 'o', 't', 'a', 'r', 'e', 't', 'i', '_', 't', 'e', 's']) (by kernel_rfl) owner_si]; kernel_rfl
theorem args_si_iter (a : Value) : argsOk "set_iterator.__iter__" ⟨[a], []⟩ := by
  unfold argsOk; rw [signature?_of (id := "set_iterator.__iter__") (n := ['_', '_', 'r', 'e', 't', 'i', '_', '_']) (o := ['r', 'o', 't', 'a', 'r', 'e', 't', 'i', '_', 't', 'e', 's']) (by kernel_rfl) owner_si]; kernel_rfl
theorem pick_go {α : Type} (next : Nat → Nat) : ∀ (fuel k : Nat) (left : List α) (out : Array α), fuel = left.length → (pickOrder.go next fuel k left out).toList.Perm (out.toList ++ left)
  | 0, k, left, out, h => by
    have : left = [] := List.length_eq_zero_iff.mp h.symm
    subst this; show out.toList.Perm _; rw [List.append_nil]
  | fuel + 1, k, left, out, h => by
    have hlt : next k % left.length < left.length := Nat.mod_lt _ (by exact om52 h)
    show (match left[next k % left.length]? with | some x => pickOrder.go next fuel (k + 1) (left.eraseIdx (next k % left.length)) (out.push x) | none => out).toList.Perm _
    rw [List.getElem?_eq_getElem hlt]
    dsimp only
    refine (pick_go next fuel (k + 1) _ _ (by rw [List.length_eraseIdx, if_pos hlt]; exact om53 h)).trans ?_
    rw [Array.toList_push, List.append_assoc]
    refine List.Perm.append_left _ ?_
    generalize next k % left.length = j at hlt
    have e : left = left.take j ++ left[j] :: left.drop (j + 1) := by rw [← List.drop_eq_getElem_cons hlt, List.take_append_drop]
    rw [List.eraseIdx_eq_take_drop_succ]
    have q : (left[j] :: (left.take j ++ left.drop (j + 1))).Perm (left.take j ++ left[j] :: left.drop (j + 1)) := List.perm_middle.symm
    rw [← e] at q
    exact q
theorem pick_perm {α : Type} (next : Nat → Nat) (xs : Array α) : (pickOrder next xs).toList.Perm xs.toList := by
  have := pick_go next xs.size 0 xs.toList #[] (by simp)
  simpa [pickOrder] using this
noncomputable def setOrd (w : World) (a : Addr) (ep : Nat) (es : Array (Int × Value)) : Array (Int × Value) := if byT w then pickOrder (w.params.setOrder a ep) es else es
theorem setOrd_perm (w : World) (a : Addr) (ep : Nat) (es : Array (Int × Value)) : (setOrd w a ep es).toList.Perm es.toList := by
  unfold setOrd; split
  · exact pick_perm _ _
  · exact List.Perm.refl _
noncomputable def setObj (es : Array (Int × Value)) (ep : Nat) (t : SetTable) : Obj := { cls := .type "set", dict := none, data := .set es ep t, slots := #[] }
noncomputable def sitObj (slot i : Nat) (a : Addr) (n ep : Nat) : Obj := { cls := .type "set_iterator", dict := none, data := .fields #[rawInt slot, rawInt i, .ref a, rawInt n, rawInt ep], slots := #[] }
theorem below_16 : ∀ xs ∈ sets16, SetTable.below (xs.map Int.toNat).toArray 0 = 0 ∧ ∀ i ∈ List.range xs.length, SetTable.below (xs.map Int.toNat).toArray (((xs.map Int.toNat).toArray.getD i 0) + 1) = i + 1 := by decide +kernel
theorem setOrd_size (w : World) (a : Addr) (ep : Nat) (es : Array (Int × Value)) : (setOrd w a ep es).size = es.size := by
  have := (setOrd_perm w a ep es).length_eq
  simpa using this
section
variable {w : World} {A : Around} {E : Value → Shared → Prop} {s : Shared}
theorem set_walk {a : Addr} {ep : Nat} {xs : List Int} {es : Array (Int × Value)} {Q : Array (Int × Value) → Shared → Prop}
    (ha : s.heap.get? a = some (setObj es ep (tabOf (!byT w) xs))) (sm : Small w xs es (tabOf (!byT w) xs)) (h : Q (setOrd w a ep es) s) : wpAny (model pw w) A (setWalk a) Q E s := by
  unfold setWalk
  refine wpAny_bind (wpAny_setState_of ha rfl sm.fits ?_)
  unfold setsByText
  refine wpAny_bind (wpAny_bind (wpAny_askSetting (wpAny_pure ?_)))
  unfold setOrd at h
  cases hw : byT w with
  | true =>
    rw [hw, if_pos rfl] at h
    rw [if_pos (show (model pw w).w.params.followText "set-order" = true from hw)]
    refine wpAny_bind (wpAny_askSetting (wpAny_pure h))
  | false =>
    rw [hw, if_neg (by decide)] at h
    rw [if_neg (show ¬ (model pw w).w.params.followText "set-order" = true from fun h => absurd (h.symm.trans hw) (by decide))]
    refine wpAny_ite_split (fun h => absurd (show false = true from h) (by decide)) fun _ => ?_
    refine wpAny_bind ?_
    show wpAny _ _ (pure ()) _ _ _
    exact wpAny_pure (wpAny_pure h)
theorem set_next {a : Addr} {slot i ep : Nat} {xs : List Int} {es : Array (Int × Value)} {Q : Option (Value × Nat) → Shared → Prop}
    (ha : s.heap.get? a = some (setObj es ep (tabOf (!byT w) xs))) (sm : Small w xs es (tabOf (!byT w) xs)) (hi : i ≤ es.size) (hb : byT w = false → SetTable.below (xs.map Int.toNat).toArray slot = i)
    (hQ : i < es.size → ∀ slot' v, ((setOrd w a ep es)[i]?).map (·.2) = some v → (byT w = false → SetTable.below (xs.map Int.toNat).toArray slot' = i + 1) → Q (some (v, slot')) s)
    (hN : i = es.size → Q none s) : wpAny (model pw w) A (setNext a slot i ep) Q E s := by
  unfold setNext
  refine wpAny_bind (wpAny_setState_of ha rfl sm.fits ?_)
  unfold setsByText
  refine wpAny_bind (wpAny_bind (wpAny_askSetting (wpAny_pure ?_)))
  have hsz := setOrd_size w a ep es
  by_cases hw : byT w = true
  · rw [if_pos (show (model pw w).w.params.followText "set-order" = true from hw)]
    dsimp only
    rw [if_neg (by simp)]
    refine wpAny_bind (set_walk ha sm (wpAny_pure ?_))
    rcases Nat.lt_or_eq_of_le hi with h | h
    · obtain ⟨p, hp⟩ : ∃ p, (setOrd w a ep es)[i]? = some p := ⟨_, Array.getElem?_eq_getElem (by rw [hsz]; exact h)⟩
      rw [hp]
      exact hQ h slot p.2 (by rw [hp]; rfl) fun e => absurd (e.symm.trans hw) (by decide)
    · rw [Array.getElem?_eq_none (by rw [hsz, h]; exact Nat.le_refl _)]
      exact hN h
  · have hw' : byT w = false := by simpa using hw
    rw [if_neg (show ¬ (model pw w).w.params.followText "set-order" = true from hw)]
    dsimp only
    refine wpAny_ite_split (fun h => absurd (show false = true from h) (by decide)) fun _ => ?_
    rw [hw']
    refine wpAny_bind ?_
    show wpAny _ _ (pure ()) _ _ _
    refine wpAny_pure (wpAny_pure ?_)
    rw [show (tabOf (!false) xs).place = (xs.map Int.toNat).toArray from rfl, hb hw']
    have hxs : es.size = xs.length := sm.size
    rcases Nat.lt_or_eq_of_le hi with h | h
    · have e1 : es[i]? = some es[i] := Array.getElem?_eq_getElem h
      have hp : i < (xs.map Int.toNat).toArray.size := by simpa [← hxs] using h
      have e2 : (xs.map Int.toNat).toArray[i]? = some ((xs.map Int.toNat).toArray.getD i 0) := by
        simp [Array.getD_eq_getD_getElem?, Array.getElem?_eq_getElem hp]
      rw [e1, e2]
      exact hQ h _ es[i].2 (by rw [setOrd, hw', if_neg (by decide), e1]; rfl) fun _ => (below_16 xs sm.all).2 i (List.mem_range.mpr (by exact om54 hxs h))
    · rw [Array.getElem?_eq_none (by exact om2 h)]
      exact hN h
theorem next_set_item {I a : Addr} {slot i ep : Nat} {xs : List Int} {es : Array (Int × Value)} {Q : Option Value → Shared → Prop} (hI : s.heap.get? I = some (sitObj slot i a es.size ep))
    (ha : s.heap.get? a = some (setObj es ep (tabOf (!byT w) xs))) (sm : Small w xs es (tabOf (!byT w) xs)) (hi : i < es.size) (hb : byT w = false → SetTable.below (xs.map Int.toNat).toArray slot = i)
    (hQ : ∀ slot' v h', ((setOrd w a ep es)[i]?).map (·.2) = some v → h'.get? I = some (sitObj slot' (i + 1) a es.size ep) → (byT w = false → SetTable.below (xs.map Int.toNat).toArray slot' = i + 1) → Heap.SameBut I s.heap h' → Q (some v) { s with heap := h' }) :
    wpAny (model pw w) A (pyNext (.ref I)) Q E s := by
  have hT : s.TypeIs (.ref I) "set_iterator" := ⟨_, hI, rfl⟩
  unfold pyNext
  refine wpAny_bind (wpAny_attempt (wpAny_callSpecial?_slot (name := Str.ofString "__next__") hT slot_si_next
    (wpAny_call_entry slot_si_next hT entry_si_next ?_ (args_si_next _))))
  refine wpAny_bind (wpAny_pure ?_)
  refine wpAny_bind (wpAny_fieldsOf hI rfl ?_)
  dsimp only
  refine wpAny_bind ?_
  unfold setEntries
  refine wpAny_bind (wpAny_setState_of ha rfl sm.fits ?_)
  refine wpAny_pure ?_
  rw [if_neg (by simp)]
  show wpAny _ _ (setNext a (slot : Int).toNat (i : Int).toNat (ep : Int).toNat >>= _) _ _ _
  refine wpAny_bind ?_
  simp only [Int.toNat_natCast]
  refine set_next ha sm (Nat.le_of_lt hi) hb (fun _ slot' v hv hb' => ?_) fun e => absurd hi (by exact om55 e)
  dsimp only
  refine wpAny_bind (wpAny_setField hI rfl (by simp) ?_)
  have h1 : (s.heap.update I (Obj.mapFields (·.setIfInBounds 0 (rawInt (slot' : Int))))).get? I = some (sitObj slot' i a es.size ep) := by
    rw [Heap.get?_update_self _ hI rfl]; rfl
  refine wpAny_bind (wpAny_setField (s := { s with heap := s.heap.update I (Obj.mapFields (·.setIfInBounds 0 (rawInt (slot' : Int)))) }) h1 rfl (by simp) ?_)
  refine wpAny_pure ⟨v, rfl, wpAny_pure (hQ slot' v _ hv ?_ hb' ?_)⟩
  · rw [Heap.get?_update_self _ h1 rfl]; rfl
  · exact (Heap.SameBut.update ..).trans (Heap.SameBut.update ..)
theorem next_set_end {I a : Addr} {slot ep : Nat} {xs : List Int} {es : Array (Int × Value)} {Q : Option Value → Shared → Prop} (hh : A.handled = none) (hI : s.heap.get? I = some (sitObj slot es.size a es.size ep))
    (ha : s.heap.get? a = some (setObj es ep (tabOf (!byT w) xs))) (sm : Small w xs es (tabOf (!byT w) xs)) (hb : byT w = false → SetTable.below (xs.map Int.toNat).toArray slot = es.size)
    (hQ : ∀ h', Heap.ExtBut I s.heap h' → Q none { s with heap := h' }) :
    wpAny (model pw w) A (pyNext (.ref I)) Q E s := by
  have hT : s.TypeIs (.ref I) "set_iterator" := ⟨_, hI, rfl⟩
  unfold pyNext
  refine wpAny_bind (wpAny_attempt (wpAny_callSpecial?_slot (name := Str.ofString "__next__") hT slot_si_next
    (wpAny_call_entry slot_si_next hT entry_si_next ?_ (args_si_next _))))
  refine wpAny_bind (wpAny_pure ?_)
  refine wpAny_bind (wpAny_fieldsOf hI rfl ?_)
  dsimp only
  refine wpAny_bind ?_
  unfold setEntries
  refine wpAny_bind (wpAny_setState_of ha rfl sm.fits ?_)
  refine wpAny_pure ?_
  rw [if_neg (by simp)]
  show wpAny _ _ (setNext a (slot : Int).toNat (es.size : Int).toNat (ep : Int).toNat >>= _) _ _ _
  refine wpAny_bind ?_
  simp only [Int.toNat_natCast]
  refine set_next ha sm (Nat.le_refl _) hb (fun h => absurd h (Nat.lt_irrefl _)) fun _ => ?_
  dsimp only
  refine wpAny_bind (wpAny_setField hI rfl (by simp) ?_)
  show wpAny _ _ (newExc (.type "StopIteration") [] >>= _) _ _ _
  refine wpAny_bind ?_
  unfold newExc newTuple
  refine wpAny_bind (wpAny_newObj_type ?_ (by size_fits))
  refine wpAny_bind (m := firstArgMember _ _) (wpAny_of_eq (a := Value.none) (by first | rfl | (simp only [firstArgMember]; rfl)) ?_)
  refine wpAny_newObj_type ?_ (by size_fits)
  unfold raiseNew
  refine wpAny_bind (wpAny_handled ?_)
  rw [show A.in1.handled = none from hh]
  refine wpAny_bind (wpAny_pure (wpAny_throw ?_))
  refine wpAny_bind (wpAny_isInstance (T := "StopIteration") (b := true) ⟨_, Heap.get?_push_size _ rfl, rfl⟩ isSubtype_stop ?_)
  exact wpAny_pure (hQ _ (((Heap.SameBut.update ..).extBut.push _).push _))
end
end
section
section
variable {w : World} {A : Around} {E : Value → Shared → Prop} {s : Shared} {r : Addr}
theorem set_hint {Q : Bool → Shared → Prop} (hT : s.TypeIs (.ref r) "set") (h : Q false s) : wpAny (model pw w) A (Builtin.List.listLengthHint (.ref r)) Q E s := by
  unfold Builtin.List.listLengthHint
  refine wpAny_bind (wpAny_specialOf hT PySem.F.slot_set_len.lookup ?_)
  generalize hid : ("set.__len__" : String) = id0
  wp_delta
  rw [show splitId id0 = some ("set", "__len__") from by subst hid; decide +kernel]
  subst hid
  refine wpAny_bind (wpAny_isInstance (T := "set") (b := true) hT (by rw [isSubtype_type]; kernel_rfl) ?_)
  refine wpAny_ite_split (fun hab => absurd hab (by decide)) (fun _ => ?_)
  refine wpAny_ite_split (fun _ => ?_) (fun hab => absurd (by decide +kernel) hab)
  refine wpAny_bind (wpAny_typeOf hT ?_)
  exact wpAny_pure h
theorem set_len_of {a : Addr} {xs : List Int} {es : Array (Int × Value)} {ep : Nat} {Q : Nat → Shared → Prop}
    (ha : s.heap.get? a = some (setObj es ep (tabOf (!byT w) xs))) (sm : Small w xs es (tabOf (!byT w) xs)) (h : Q es.size s) : wpAny (model pw w) A (Builtin.Frozenset.sizeOf a) Q E s := by
  unfold Builtin.Frozenset.sizeOf setEntries
  exact wpAny_bind (wpAny_bind (wpAny_setState_of ha rfl sm.fits (wpAny_pure (wpAny_pure h))))
theorem set_iter {a : Addr} {xs : List Int} {es : Array (Int × Value)} {ep : Nat} {Q : Value → Shared → Prop}
    (ha : s.heap.get? a = some (setObj es ep (tabOf (!byT w) xs))) (sm : Small w xs es (tabOf (!byT w) xs))
    (h : Q (.ref s.heap.objs.size) { s with heap := s.heap.push (sitObj 0 0 a es.size ep) }) : wpAny (model pw w) A (pyIter (.ref a)) Q E s := by
  have hT : s.TypeIs (.ref a) "set" := ⟨_, ha, rfl⟩
  refine wpAny_pyIter_slot hT PySem.F.slot_set_iter (wpAny_call_entry PySem.F.slot_set_iter hT entry_s_iter ?_ (PySem.F.args_set_iter_1 _))
  unfold Builtin.«frozenset.__iter__»
  refine wpAny_bind ?_
  show wpAny _ _ (pure a) _ _ _
  refine wpAny_pure ?_
  refine wpAny_bind (set_len_of ha sm ?_)
  refine wpAny_bind ?_
  unfold setDrawn
  refine wpAny_bind (wpAny_setState_of ha rfl sm.fits ?_)
  unfold setsByText
  refine wpAny_bind (wpAny_bind (wpAny_askSetting (wpAny_pure ?_)))
  refine wpAny_pure ?_
  refine wpAny_ite_split (fun h => absurd (show (!(byT w) && false) = true from h) (by simp)) fun _ => ?_
  refine wpAny_bind (wpAny_pure ?_)
  unfold setEpoch
  refine wpAny_bind (wpAny_bind (wpAny_setState_of ha rfl sm.fits (wpAny_pure ?_)))
  refine wpAny_bind ?_
  unfold newFields
  refine wpAny_newObj_type ?_
  refine wpAny_pure ⟨_, rfl, "set_iterator", _, ⟨_, Heap.get?_push_size _ rfl, rfl⟩, slot_si_next.lookup, ?_⟩
  exact h
theorem set_iter_self {I a : Addr} {slot i n ep : Nat} {Q : Value → Shared → Prop} (hI : s.heap.get? I = some (sitObj slot i a n ep)) (h : Q (.ref I) s) : wpAny (model pw w) A (pyIter (.ref I)) Q E s := by
  have hT : s.TypeIs (.ref I) "set_iterator" := ⟨_, hI, rfl⟩
  refine wpAny_pyIter_slot hT slot_si_iter (wpAny_call_entry slot_si_iter hT entry_si_iter ?_ (args_si_iter _))
  show wpAny _ _ (ret (.ref I)) _ _ s
  exact wpAny_pure ⟨_, rfl, "set_iterator", _, hT, slot_si_next.lookup, h⟩
theorem set_src {a : Addr} {xs : List Int} {es : Array (Int × Value)} {ep : Nat} (sm : Small w xs es (tabOf (!byT w) xs)) :
    KdlSrc pw w "set" a a es.size (fun i v => ((setOrd w a ep es)[i]?).map (·.2) = some v) (fun h => h.get? a = some (setObj es ep (tabOf (!byT w) xs))) where
  type := fun _ hm => ⟨_, hm, rfl⟩
  there := fun _ hm => ⟨Heap.lt_size hm, Heap.lt_size hm⟩
  keep := fun _ _ hm hk => hk a (.inl rfl) _ hm
  notList := by decide
  notTuple := by decide
  hint := fun _ _ _ _ hm hq => set_hint ⟨_, hm, rfl⟩ hq
  iter := fun A s hh hm => ⟨sitObj 0 0 a es.size ep, fun i h => ∃ slot : Nat, h.get? s.heap.objs.size = some (sitObj slot i a es.size ep) ∧ h.get? a = some (setObj es ep (tabOf (!byT w) xs)) ∧ i ≤ es.size ∧ (byT w = false → SetTable.below (xs.map Int.toNat).toArray slot = i),
    (fun _ _ hq => set_iter hm sm hq), {
      sub := fun b hb => by simp at hb; simp [hb]
      frame := fun _ _ _ ⟨slot, h1, h2, h3⟩ hk => ⟨slot, hk _ (by simp) _ h1, hk _ (by simp) _ h2, h3⟩
      item := fun i s' Q E hi ⟨slot, h1, h2, h3, h4⟩ hQ => next_set_item h1 h2 sm hi h4 fun slot' v h' hv hI hb hs => hQ v h' s'.toks hv
        ⟨slot', hI, (hs.2 a (Nat.ne_of_lt (Heap.lt_size hm))).trans h2, hi, hb⟩ fun b o hb' e => (hs.2 b (fun q => hb' (by simp [q]))).trans e
      done := fun s' Q E ⟨slot, h1, h2, h3, h4⟩ hQ => next_set_end hh h1 h2 sm h4 fun h' he => hQ h' s'.toks fun b o hb e => he b o (fun q => hb (by simp [q])) e
      self := fun _ _ _ _ ⟨slot, h1, _⟩ hQ => set_iter_self h1 hQ },
    ⟨0, Heap.get?_push_size _ rfl, Heap.get?_push_of_some _ hm, Nat.zero_le _, fun _ => (below_16 xs sm.all).1⟩⟩
end
end
section
theorem perm_unique : ∀ {l l' : List Int}, l.Perm l' → l.Pairwise (· ≤ ·) → l'.Pairwise (· ≤ ·) → l = l' := fun p h h' => List.Perm.eq_of_pairwise (le := (· ≤ ·)) (fun a b _ _ h1 h2 => Int.le_antisymm h1 h2) h h' p
noncomputable def IsSet (w : World) (xs : List Int) (sv : SV) : Prop := ∃ es ep, sv = .obj (setObj es ep (tabOf (!byT w) xs)) ∧ Small w xs es (tabOf (!byT w) xs)
theorem SetAt.obj {w : World} {h : Heap} {a : Addr} {xs : List Int} (x : SetAt w h a xs) : ∃ es ep, h.get? a = some (setObj es ep (tabOf (!byT w) xs)) ∧ Small w xs es (tabOf (!byT w) xs) := by
  obtain ⟨es, ep, t, ho, sm⟩ := x
  have e := sm.tab
  subst e
  exact ⟨es, ep, ho, sm⟩
theorem sorted_16 : ∀ xs ∈ sets16, xs.Pairwise (· ≤ ·) := by decide +kernel
section
variable {c : Cx} {σ : St} {Q : SV → St → Prop}
theorem mk_set {g : PM} {s : Shared} {l : Addr} {vs : List Value} {ns : List Int} (R : Rel c g σ s) (hl : s.heap.IsList l vs.toArray) (hi : IntsAre vs ns) (hns : ∀ x ∈ ns, x ∈ [(0 : Int), 1, 2, 3])
    (q : ∀ sv, IsSet c.w (insAll ns) sv → Q sv σ) : wpAny (model pw c.w) c.A (call (.type "set") [.ref l]) (fun v s' => ∃ g' σ' sv, GX c.lo c.pr g g' ∧ Rel c g' σ' s' ∧ RepV g' sv v ∧ Q sv σ') (fun _ _ => False) s := by
  refine call_set_small (ns := ns) R.ok.room.hh hl (by simpa using hi) hns fun h' tk hlt hS hk => ?_
  obtain ⟨es, ep, ho, sm⟩ := hS.obj
  have R₁ : Rel c g σ { s with heap := h', toks := tk } := R.ext (tk := tk) fun a o e => hk a o (Heap.lt_size e) e
  obtain ⟨g', gx, R', hg⟩ := R₁.frozen (a := s.heap.objs.size) R.lo R.fresh ho
  exact ⟨g', σ, .obj (setObj es ep (tabOf (!byT c.w) (insAll ns))), gx, R', ⟨_, rfl, hg⟩, q _ ⟨es, ep, rfl, sm⟩⟩
theorem C_set_lst {ns : List Int} (hns : ∀ x ∈ ns, x ∈ [(0 : Int), 1, 2, 3]) (q : ∀ sv, IsSet c.w (insAll ns) sv → Q sv σ) : CallV c (.type "set") [.lst (ns.map .int)] σ Q := fun g s vs R r => by
  obtain ⟨v, rfl, rv⟩ := rep1 r
  obtain ⟨a, ws, rfl, hl, rs, _⟩ := lst_at R rv
  exact mk_set R hl (ints_of rs) hns q
theorem C_set_own {a : Addr} {ns : List Int} (hm : InH σ.heap a (ns.map .int)) (hns : ∀ x ∈ ns, x ∈ [(0 : Int), 1, 2, 3]) (q : ∀ sv, IsSet c.w (insAll ns) sv → Q sv σ) : CallV c (.type "set") [.ref a] σ Q := fun g s vs R r => by
  obtain ⟨v, rfl, rv⟩ := rep1 r
  have rv' : v = .ref a := rv
  subst rv'
  obtain ⟨ws, hl, rs⟩ := hm.at R
  exact mk_set R hl (ints_of rs) hns q
theorem ints_ord {es : Array (Int × Value)} {l : List (Int × Value)} {xs : List Int} {ts : List Tok} (h1 : ts.length = xs.length) (h2 : es.toList = (xs.zip ts).map fun p => (p.1, Value.int p.1 p.2)) (hp : l.Perm es.toList) :
    IntsAre (l.map (·.2)) (l.map (·.1)) ∧ (l.map (·.1)).Perm xs := by
  refine ⟨?_, ?_⟩
  · have : ∀ p ∈ l, ∃ t, p.2 = Value.int p.1 t := fun p hm => by
      have := hp.mem_iff.mp hm
      rw [h2] at this
      obtain ⟨q, _, rfl⟩ := List.mem_map.mp this
      exact ⟨q.2, rfl⟩
    clear hp h1 h2
    induction l with
    | nil => exact .nil
    | cons p r ih =>
      obtain ⟨t, ht⟩ := this p (.head _)
      rw [List.map_cons, List.map_cons, ht]
      exact .cons _ _ (ih fun q hq => this q (.tail _ hq))
  · have e : es.toList.map (·.1) = xs := by
      rw [h2, List.map_map]
      show (xs.zip ts).map Prod.fst = xs
      exact List.map_fst_zip (by exact om2 h1)
    have := hp.map (·.1)
    rwa [e] at this
theorem C_sorted_set {xs : List Int} {sv : SV} (hs : IsSet c.w xs sv) (q : Q (.lst (xs.map .int)) σ) : CallV c (.builtin "sorted") [sv] σ Q := fun g s vs R r => by
  obtain ⟨es, ep, rfl, sm⟩ := hs
  obtain ⟨v, rfl, a, rfl, ha⟩ := rep1 r
  have ho := R.gh _ _ ha
  obtain ⟨ts, h1, h2⟩ := sm.es
  have hsz : es.size ≤ 4 := by rw [sm.size]; exact (size_16 xs sm.all).1
  refine call_function_entry kind_sorted plain_sorted entry_sorted (args_sorted1 _) ?_
  unfold Builtin.«sorted»
  refine wpAny_bind (m := checkCount "sorted" 1 1 _) (wpAny_pure ?_)
  refine wpAny_bind (kdu_collect (A := c.A.in1) (set_src (ep := ep) sm) R.ok.room.hh ho (by unfold sizeLine; exact om56 hsz) fun h' tk acc hk hacc => ?_)
  have hl : acc.toList.length = es.size := by rw [Array.length_toList]; exact hacc.1
  have hacc2 : acc.toList = (setOrd c.w a ep es).toList.map (·.2) := by
    refine List.ext_getElem? fun i => ?_
    rw [List.getElem?_map, Array.getElem?_toList, Array.getElem?_toList]
    by_cases hi : i < acc.size
    · have := hacc.2 i acc[i] (Array.getElem?_eq_getElem hi)
      rw [this, Array.getElem?_eq_getElem hi]
    · rw [Array.getElem?_eq_none (by exact om57 hi), Array.getElem?_eq_none (by rw [setOrd_size]; have := hacc.1; exact om58 hi this)]
      rfl
  obtain ⟨i1, i2⟩ := ints_ord h1 h2 (setOrd_perm c.w a ep es)
  rw [← hacc2] at i1
  refine wpAny_bind (wpAny_newList ?_ (by rw [hl]; unfold sizeLine; exact om56 hsz))
  have hoL : (h'.push (seqObj "list" acc.toList.toArray 0)).get? h'.objs.size = some (seqObj "list" acc.toList.toArray 0) := Heap.get?_push_size _ rfl
  show wpAny _ _ _ _ _ { s with heap := h'.push (seqObj "list" acc.toList.toArray 0), toks := tk }
  refine wpAny_bind (wpAny_holding (wpAny_call_entry slot_list_sort ⟨_, hoL, rfl⟩ entry_list_sort (list_sort_tree hoL i1 (by rw [hl]; exact om59 hsz) fun out ns' a1 a2 a3 => ⟨_, rfl, ?_⟩) (args_list_sort _)))
  refine wpAny_pure ⟨_, rfl, ?_⟩
  have e : ns' = xs := perm_unique (a2.trans i2) a3 (sorted_16 xs sm.all)
  subst e
  obtain ⟨e, he⟩ := sortedHeap_at (out := out) hoL
  have R₀ : Rel c g σ { s with heap := h', toks := tk } := R.ext (tk := tk) hk
  have R₁ : Rel c g σ { s with heap := sortedHeap (h'.push (seqObj "list" acc.toList.toArray 0)) h'.objs.size acc.toList out, toks := tk } := R.ext (tk := tk) fun b o e => by
    have hb := Heap.lt_size (hk b o e)
    rw [sortedHeap_old (Nat.ne_of_lt hb) (by rw [size_push']; exact Nat.lt_succ_of_lt hb)]
    exact Heap.get?_push_of_some _ (hk b o e)
  obtain ⟨g', gx, R', hg⟩ := R₁.frozen (a := h'.objs.size) R₀.lo R₀.fresh he
  exact ⟨g', _, .lst (ns'.map .int), gx, R', ⟨_, _, out.toList, e, rfl, hg, rfl, by simp, RepVs.ofInts a1⟩, q⟩
end
end
section
theorem entry_s_sub : entryFor table "set.__sub__" = some Builtin.«frozenset.__sub__» := entryFor_alias (id' := "frozenset.__sub__") (by kernel_rfl) rfl (by decide +kernel) (by kernel_rfl)
theorem ext_16 : ∀ xs ∈ sets16, ∀ ys ∈ sets16, (∀ x ∈ [(0 : Int), 1, 2, 3], x ∈ xs ↔ x ∈ ys) → xs = ys := by decide +kernel
section
variable {w : World} {A : Around} {E : Value → Shared → Prop} {s : Shared}
theorem set_isAny {a : Addr} {Q : Bool → Shared → Prop} (hT : s.TypeIs (.ref a) "set") (h : Q true s) : wpAny (model pw w) A (Builtin.Frozenset.isAnySet (.ref a)) Q E s := by
  unfold Builtin.Frozenset.isAnySet
  refine wpAny_bind (wpAny_isInstance (T := "set") (b := true) hT (by rw [isSubtype_type]; kernel_rfl) ?_)
  exact wpAny_pure h
theorem set_walk_unseen {a : Addr} {o : List Addr} {f : Option Addr} {ep : Nat} {xs : List Int} {es : Array (Int × Value)} {Q : Array (Int × Value) → Shared → Prop}
    (ha : s.heap.get? a = some (setObj es ep (tabOf (!byT w) xs))) (sm : Small w xs es (tabOf (!byT w) xs)) (h : Q (setOrd w a ep es) s) : wpAny (model pw w) A (setWalkUnseen a o f) Q E s := by
  unfold setWalkUnseen
  refine wpAny_bind (wpAny_setState_of ha rfl sm.fits ?_)
  unfold setsByText
  refine wpAny_bind (wpAny_bind (wpAny_askSetting (wpAny_pure ?_)))
  refine wpAny_ite_split (fun _ => set_walk ha sm h) (fun hn => absurd ?_ hn)
  show (byT w || ((!byT w) && true) || _) = true
  cases byT w <;> rfl
theorem set_sub {a b : Addr} {e1 e2 : Nat} {xs : List Int} {es fs : Array (Int × Value)} {P : Fin → Shared → Prop}
    (ha : s.heap.get? a = some (setObj es e1 (tabOf (!byT w) xs))) (sa : Small w xs es (tabOf (!byT w) xs))
    (hb : s.heap.get? b = some (setObj fs e2 (tabOf (!byT w) [0]))) (sb : Small w [0] fs (tabOf (!byT w) [0]))
    (h : ∀ h', s.heap.objs.size < h'.objs.size → SetAt w h' s.heap.objs.size (xs.filter (· ≠ 0)) → (∀ d o, s.heap.get? d = some o → h'.get? d = some o) → P (.done (.ret (.ref s.heap.objs.size))) { s with heap := h' }) :
    wpAny (model pw w) A (Builtin.«frozenset.__sub__» ⟨[.ref a, .ref b], []⟩) P E s := by
  have hTa : s.TypeIs (.ref a) "set" := ⟨_, ha, rfl⟩
  have hTb : s.TypeIs (.ref b) "set" := ⟨_, hb, rfl⟩
  unfold Builtin.«frozenset.__sub__»
  generalize hid : ("__sub__" : String) = nm
  wp_delta
  subst hid
  refine wpAny_bind (m := Builtin.Frozenset.slot1 "__sub__" _) ?_
  show wpAny _ _ (pure (Value.ref a, [Value.ref b]) >>= _) _ _ _
  refine wpAny_bind (wpAny_pure (wpAny_pure ?_))
  show wpAny _ _ ((Builtin.Frozenset.isAnySet (.ref a) <&&> Builtin.Frozenset.isAnySet (.ref b)) >>= _) _ _ _
  refine wpAny_bind (wpAny_bind (set_isAny hTa (set_isAny hTb ?_)))
  refine wpAny_ite_split (fun h => absurd h (by decide)) fun _ => ?_
  refine wpAny_bind (m := Builtin.Frozenset.addrOf (.ref a)) (wpAny_pure ?_)
  generalize (toString "frozenset." ++ toString "__sub__") = idn
  refine wpAny_bind ?_
  unfold Builtin.Frozenset.difference
  refine wpAny_bind (set_isAny hTb ?_)
  refine wpAny_ite_split (fun h => absurd h (by decide)) fun _ => ?_
  refine wpAny_bind (m := Builtin.Frozenset.addrOf (.ref b)) (wpAny_pure ?_)
  dsimp only
  have hk1 : ∀ h : Heap, (∀ d o, s.heap.get? d = some o → h.get? d = some o) → h.get? a = some (setObj es e1 (tabOf (!byT w) xs)) := fun h k => k _ _ ha
  have hk2 : ∀ h : Heap, (∀ d o, s.heap.get? d = some o → h.get? d = some o) → h.get? b = some (setObj fs e2 (tabOf (!byT w) [0])) := fun h k => k _ _ hb
  refine wpAny_ite_split (fun h => absurd (show false = true from h) (by decide)) fun _ => ?_
  rw [if_pos rfl]
  refine wpAny_bind (set_len_of hb sb ?_)
  refine wpAny_bind (set_len_of ha sa ?_)
  have z1 : fs.size = 1 := sb.size
  have z2 : es.size ≤ 4 := by rw [sa.size]; exact (size_16 xs sa.all).1
  rw [if_neg (by omega)]
  refine wpAny_bind ?_
  unfold Builtin.Frozenset.baseOf
  refine wpAny_bind (wpAny_isInstance (T := "set") (b := true) hTa (by rw [isSubtype_type]; kernel_rfl) ?_)
  rw [if_pos rfl]
  refine wpAny_pure ?_
  refine wpAny_bind ?_
  unfold newSet setsByText
  refine wpAny_bind (wpAny_bind (wpAny_askSetting (wpAny_pure ?_)))
  dsimp only
  refine wpAny_newObj_type ?_
  refine wpAny_bind (m := Builtin.Frozenset.addrOf (.ref s.heap.objs.size)) (wpAny_pure ?_)
  show wpAny _ _ _ _ _ { s with heap := s.heap.push (freshSet w) }
  have hS0 : (s.heap.push (freshSet w)).get? s.heap.objs.size = some (freshSet w) := Heap.get?_push_size _ rfl
  have hk0 : ∀ d o, s.heap.get? d = some o → (s.heap.push (freshSet w)).get? d = some o := fun d o e => Heap.get?_push_of_some _ e
  refine wpAny_bind (wpAny_setEpoch_of (o := setObj es e1 (tabOf (!byT w) xs)) (hk0 _ _ ha) rfl sa.fits ?_)
  rw [if_pos rfl]
  obtain ⟨ts, h1, h2⟩ := sa.es
  have hperm := setOrd_perm w a e1 es
  have hone : ∀ p ∈ (setOrd w a e1 es).toList, ∃ t, p.2 = Value.int p.1 t ∧ p.1 ∈ xs := fun p hm => by
    have := hperm.mem_iff.mp hm
    rw [h2] at this
    obtain ⟨q, hq, rfl⟩ := List.mem_map.mp this
    exact ⟨q.2, rfl, (List.of_mem_zip hq).1⟩
  have hall : ∀ x, x ∈ (setOrd w a e1 es).toList.map (·.1) ↔ x ∈ xs := fun x => by
    have e : es.toList.map (·.1) = xs := by
      rw [h2, List.map_map]
      show (xs.zip ts).map Prod.fst = xs
      exact List.map_fst_zip (by exact om2 h1)
    rw [(hperm.map (·.1)).mem_iff, e]
  have main : wpAny (model pw w) A (forIn (setOrd w a e1 es) PUnit.unit fun x __s => (do
      holding [x.snd] (do
        let r ← setFind b x.snd x.fst
        let there ← pure r.isSome
        if (!there) = true then do
          let _ ← setAddHashed s.heap.objs.size x.snd x.fst
          pure ()
        else pure ())
      Builtin.Frozenset.unchanged idn a e1
      pure (ForInStep.yield PUnit.unit) : Sem (ForInStep PUnit)))
      (fun _ s' => ∃ h', s' = { s with heap := h' } ∧ s.heap.objs.size < h'.objs.size ∧ SetAt w h' s.heap.objs.size (xs.filter (· ≠ 0)) ∧ ∀ d o, s.heap.get? d = some o → h'.get? d = some o) E { s with heap := s.heap.push (freshSet w) } := by
    refine PySem.MeetsSeq2.wpAny_forIn_array _ (fun left _ s' => ∃ pre h', pre ++ left = (setOrd w a e1 es).toList ∧ s' = { s with heap := h' } ∧ SetAt w h' s.heap.objs.size (insAll ((pre.map (·.1)).filter (· ≠ 0))) ∧ ∀ d o, s.heap.get? d = some o → h'.get? d = some o) _
      (fun x rest u s' ⟨pre, h', hp, hs', hS, hk⟩ => ?_) (fun u s' ⟨pre, h', hp, hs', hS, hk⟩ => ?_) _ _ ⟨[], _, rfl, rfl, fresh_at hS0, hk0⟩
    · subst hs'
      obtain ⟨i, v⟩ := x
      obtain ⟨t, ev, hx⟩ := hone (i, v) (by rw [← hp]; simp)
      dsimp only at ev
      subst ev
      have h4 : i ∈ [(0 : Int), 1, 2, 3] := (size_16 xs sa.all).2.2 i hx
      have hh : hashInt i = i := by
        have : ∀ x ∈ [(0 : Int), 1, 2, 3], hashInt x = x := by decide +kernel
        exact this i h4
      have hap : (pre ++ [(i, Value.int i t)]) ++ rest = (setOrd w a e1 es).toList := by rw [← hp]; simp
      have tail : ∀ (h₂ : Heap) (Q' : ForInStep PUnit → Shared → Prop), (∀ d o, s.heap.get? d = some o → h₂.get? d = some o) → Q' (.yield ⟨⟩) { s with heap := h₂ } →
          wpAny (model pw w) A (do Builtin.Frozenset.unchanged idn a e1; pure (ForInStep.yield PUnit.unit)) Q' E { s with heap := h₂ } := fun h₂ Q' q2 q3 => by
        refine wpAny_bind ?_
        unfold Builtin.Frozenset.unchanged
        refine wpAny_bind (wpAny_setEpoch_of (s := { s with heap := h₂ }) (o := setObj es e1 (tabOf (!byT w) xs)) (q2 _ _ ha) rfl sa.fits ?_)
        rw [if_neg (by simp)]
        exact wpAny_pure (wpAny_pure q3)
      refine wpAny_bind (wpAny_holding ?_)
      have hSof : h'.SetOf (intKind pw w) b (fun k => decide (k = 0)) 1 := by
        refine ⟨_, fs, e2, _, hk _ _ hb, ⟨rfl, rfl, rfl⟩, rfl, sb.elems, fun k => ?_, by rw [sb.size]; decide, sb.fits, sb.size⟩
        obtain ⟨ts', k1, k2⟩ := sb.es
        rw [k2]
        match ts', k1 with
        | [t'], _ =>
          simp only [List.zip_cons_cons, List.zip_nil_right, List.map_cons, List.map_nil, List.mem_singleton, exists_eq_left, decide_eq_true_eq]
          rw [KeyKind.is_eq_decide (intKind_is pw w 0 t') k, decide_eq_true_eq]
      refine wpAny_bind ?_
      dsimp only
      rw [show setFind b (Value.int i t) i = setFind b (Value.int i t) ((intKind pw w).hash i) from by rw [show (intKind pw w).hash i = hashInt i from rfl, hh]]
      refine wpAny_setFind_of (s := { s with heap := h' }) (intKind_is pw w i t) rfl hSof fun r hr => ?_
      refine wpAny_bind (wpAny_pure ?_)
      rw [hr]
      by_cases hz : i = 0
      · rw [if_neg (by simp [hz])]
        exact wpAny_pure (tail h' _ hk ⟨_, h', hap, rfl, by simpa [hz] using hS, hk⟩)
      · rw [if_pos (by simp [hz])]
        refine wpAny_bind ?_
        rw [show setAddHashed s.heap.objs.size (Value.int i t) i = setAddHashed s.heap.objs.size (Value.int i t) (hashInt i) from by rw [hh]]
        refine set_add (s := { s with heap := h' }) hS h4 fun h₂ _ hsb hS2 => ?_
        have hk2 : ∀ d o, s.heap.get? d = some o → h₂.get? d = some o := fun d o e => (hsb.2 d (Nat.ne_of_lt (Heap.lt_size e))).trans (hk d o e)
        refine wpAny_pure (tail h₂ _ hk2 ⟨_, h₂, hap, rfl, ?_, hk2⟩)
        have e : ((pre ++ [(i, Value.int i t)]).map (·.1)).filter (· ≠ 0) = (pre.map (·.1)).filter (· ≠ 0) ++ [i] := by simp [hz]
        rw [e, insAll_snoc]
        exact hS2
    · subst hs'
      rw [List.append_nil] at hp
      subst hp
      obtain ⟨_, _, _, hg, _⟩ := id hS
      refine ⟨h', rfl, Heap.lt_size hg, ?_, hk⟩
      have hf : xs.filter (· ≠ 0) ∈ sets16 := (by decide +kernel : ∀ xs ∈ sets16, xs.filter (· ≠ 0) ∈ sets16) xs sa.all
      have e : insAll (((setOrd w a e1 es).toList.map (·.1)).filter (· ≠ 0)) = xs.filter (· ≠ 0) := by
        refine ext_16 _ (insAll_16 fun x hx => ?_) _ hf fun x _ => ?_
        · exact (size_16 xs sa.all).2.2 x ((hall x).mp (List.mem_filter.mp hx).1)
        · rw [mem_insAll, List.mem_filter, List.mem_filter, hall]
      rw [← e]; exact hS
  refine wpAny_bind (wpAny_holding (wpAny_bind (set_walk_unseen (s := { s with heap := s.heap.push (freshSet w) }) (hk0 _ _ ha) sa ?_)))
  refine wpAny_bind (wpAny_mono main (fun _ s' hm => ?_) fun _ _ e => e)
  obtain ⟨h', rfl, q1, q2, q3⟩ := hm
  exact wpAny_pure (wpAny_pure (wpAny_pure (h h' q1 q2 q3)))
end
end
section
section
variable {c : Cx} {σ : St} {Q : SV → St → Prop}
theorem O_sub_set {xs : List Int} {sv tv : SV} (hs : IsSet c.w xs sv) (ht : IsSet c.w [0] tv) (q : ∀ uv, IsSet c.w (xs.filter (· ≠ 0)) uv → Q uv σ) : O2 c (binaryOp .Sub) sv tv σ Q := fun g s vs R r => by
  obtain ⟨es, e1, rfl, sa⟩ := hs
  obtain ⟨fs, e2, rfl, sb⟩ := ht
  obtain ⟨u, v, rfl, ⟨b, rfl, hb⟩, ⟨a, rfl, ha⟩⟩ := rep2 r
  have ha' := R.gh _ _ ha
  have hb' := R.gh _ _ hb
  have hTa : s.TypeIs (.ref a) "set" := ⟨_, ha', rfl⟩
  have hTb : s.TypeIs (.ref b) "set" := ⟨_, hb', rfl⟩
  refine wpAny_binaryOp_same hTa hTb PySem.F.fills_set_sub PySem.F.slot_set_sub (wpAny_call_entry PySem.F.slot_set_sub hTa entry_s_sub ?_ (PySem.F.args_set_sub_2 _ _))
  refine set_sub ha' sa hb' sb fun h' hlt hS hk => ⟨_, rfl, nofun, ?_⟩
  obtain ⟨gs, ep, ho, sm⟩ := hS.obj
  have R₁ : Rel c g σ { s with heap := h' } := R.ext (tk := s.toks) hk
  obtain ⟨g', gx, R', hg⟩ := R₁.frozen (a := s.heap.objs.size) R.lo R.fresh ho
  exact ⟨g', σ, .obj (setObj gs ep (tabOf (!byT c.w) (xs.filter (· ≠ 0)))), gx, R', ⟨_, rfl, hg⟩, q _ ⟨gs, ep, rfl, sm⟩⟩
theorem C_set_lst' {l : List SV} {ns : List Int} (hl : l = ns.map .int) (hns : ∀ x ∈ ns, x ∈ [(0 : Int), 1, 2, 3]) (q : ∀ sv, IsSet c.w (insAll ns) sv → Q sv σ) : CallV c (.type "set") [.lst l] σ Q := by
  subst hl; exact C_set_lst hns q
end
end
section
inductive WFT (n : Nat) {α : Type} (R : α → Prop) : KasT α → Prop where
  | ret {a : α} : R a → WFT n R (.ret a)
  | ask {i j : Nat} {k : Bool → KasT α} : i < n → j < n → (∀ b, WFT n R (k b)) → WFT n R (.ask i j k)
theorem WFT.bind {n : Nat} {α β : Type} {R : α → Prop} {R' : β → Prop} {t : KasT α} {f : α → KasT β} (h : WFT n R t) (k : ∀ a, R a → WFT n R' (f a)) : WFT n R' (t.bind f) := by
  induction h with
  | ret r => exact k _ r
  | ask hi hj _ ih => exact .ask hi hj ih
theorem WFT.ite {n : Nat} {α : Type} {R : α → Prop} {p : Prop} [Decidable p] {t u : KasT α} (h : p → WFT n R t) (h' : ¬ p → WFT n R u) : WFT n R (if p then t else u) := by
  split
  · exact h ‹_›
  · exact h' ‹_›
theorem WFT.run {n : Nat} {α : Type} {R : α → Prop} {t : KasT α} (h : WFT n R t) {cmp : Nat → Nat → (Bool → Shared → Prop) → Shared → Prop} {s : Shared} (hc : ∀ i j, i < n → j < n → ∀ C : Bool → Shared → Prop, (∀ b, C b s) → cmp i j C s)
    {G : α → Shared → Prop} (hG : ∀ a, R a → G a s) : t.kasWp cmp G s := by
  induction h with
  | ret r => exact hG _ r
  | ask hi hj _ ih => exact hc _ _ hi hj _ ih
noncomputable def IsP (n : Nat) (p : Array Nat) : Prop := p.Perm (List.toArray (List.range n))
theorem IsP.lt {n : Nat} {p : Array Nat} (h : IsP n p) (hn : 0 < n) (i : Nat) : p.getD i 0 < n := by
  by_cases hi : i < p.size
  · have hm : p[i] ∈ List.toArray (List.range n) := h.mem_iff.mp (Array.getElem_mem hi)
    simp at hm
    simpa [Array.getD, hi] using hm
  · simpa [Array.getD, hi] using hn
theorem IsP.rev {n i j : Nat} {p : Array Nat} (h : IsP n p) : IsP n (kas_rev p i j) := (mirror_perm p i j _).trans h
theorem IsP.bub {n k d : Nat} {p : Array Nat} (h : IsP n p) : IsP n (bubble p k d) := (bubble_perm p k d).trans h
theorem wf_asc {n : Nat} {p : Array Nat} (h : IsP n p) (hn : 0 < n) : ∀ f m, WFT n (fun _ => True) (kas_asc p f m)
  | 0, m => .ret trivial
  | f + 1, m => .ask (h.lt hn _) (h.lt hn _) fun b => .ite (fun _ => .ret trivial) fun _ => wf_asc h hn f _
theorem wf_desc {n : Nat} (hn : 0 < n) : ∀ f (p : Array Nat) m q, IsP n p → WFT n (fun r => IsP n r.1) (kas_desc f p m q)
  | 0, p, m, q, h => .ret h
  | f + 1, p, m, q, h => .ask (h.lt hn _) (h.lt hn _) fun b => .ite (fun _ => .ite (fun _ => wf_desc hn f _ _ _ h.rev) fun _ => wf_desc hn f _ _ _ h)
    fun _ => .ask (h.lt hn _) (h.lt hn _) fun d => .ite (fun _ => .ret h) fun _ => wf_desc hn f _ _ _ h
theorem wf_tail3 {n m r : Nat} {p : Array Nat} (h : IsP n p) (hn : 0 < n) : WFT n (fun r => IsP n r.2) (kas_tail3 m r p) := (wf_asc h.rev hn _ _).bind fun _ _ => .ret h.rev
theorem wf_descPart {n m r : Nat} {p : Array Nat} (h : IsP n p) (hn : 0 < n) : WFT n (fun r => IsP n r.2) (kas_descPart m r p) :=
  (wf_desc hn _ _ _ _ h).bind fun _ hr => .ite (fun _ => wf_tail3 hr.rev hn) fun _ => wf_tail3 hr hn
theorem wf_count {n r : Nat} {p : Array Nat} (h : IsP n p) (hn : 0 < n) : WFT n (fun r => IsP n r.2) (kas_count r p) :=
  (wf_asc h hn _ _).bind fun _ _ => .ite (fun _ => .ret h) fun _ => .ite (fun _ => .ask (h.lt hn _) (h.lt hn _) fun _ => .ite (fun _ => .ret h) fun _ => wf_descPart h.rev hn) fun _ => wf_descPart h hn
theorem wf_place {n k : Nat} {p : Array Nat} (h : IsP n p) (hn : 0 < n) : ∀ f l r, WFT n (fun _ => True) (kas_place p k f l r)
  | 0, l, r => .ret trivial
  | f + 1, l, r => .ite (fun _ => .ret trivial) fun _ => .ask (h.lt hn _) (h.lt hn _) fun _ => .ite (fun _ => wf_place h hn f _ _) fun _ => wf_place h hn f _ _
theorem wf_bin {n : Nat} (hn : 0 < n) : ∀ f (p : Array Nat) k, IsP n p → WFT n (IsP n) (kas_bin f p k)
  | 0, p, k, h => .ret h
  | f + 1, p, k, h => (wf_place h hn _ _ _).bind fun _ _ => wf_bin hn f _ _ h.bub
theorem wf_sort {n : Nat} (hn : 0 < n) : WFT n (IsP n) (kas_sort n) :=
  (wf_count (Array.Perm.refl _) hn).bind fun _ hr => .ite (fun _ => wf_bin hn _ _ _ hr) fun _ => .ret hr
end
section
noncomputable def Trip (h : Heap) (v : Value) : Prop := ∃ (b : Addr) (o : Obj) (x y : Int) (t u t' : Tok) (n : Nat), v = .ref b ∧ h.get? b = some o ∧ o.cls = .type "tuple" ∧ o.data = .seq #[.int x t, .str "!=" u, .int y t'] n
theorem Trip.keep {h h' : Heap} {v : Value} (x : Trip h v) (k : ∀ b o, o.cls = .type "tuple" → h.get? b = some o → h'.get? b = some o) : Trip h' v := by
  obtain ⟨b, o, x, y, t, u, t', n, e, ho, hc, hd⟩ := x
  exact ⟨b, o, x, y, t, u, t', n, e, k b o hc ho, hc, hd⟩
section
variable {w : World} {A : Around} {E : Value → Shared → Prop} {s : Shared}
theorem oneLt_int' {a b : Int} {t u : Tok} {Q : Bool → Shared → Prop} (h : Q (decide (a < b)) s) : wpAny (model pw w) A (oneLt' false (.int a t) (.int b u)) Q E s :=
  kat_one _ _ (P.lt_int h)
theorem trip_lt {u v : Value} {C : Bool → Shared → Prop} (hu : Trip s.heap u) (hv : Trip s.heap v) (h : ∀ b, C b s) : wpAny (model pw w) A (keyLt' (tuples' true) u v) C E s := by
  obtain ⟨a, o, x, y, t1, t2, t3, n, rfl, ho, _, hd⟩ := hu
  obtain ⟨b, o', x', y', t1', t2', t3', n', rfl, ho', _, hd'⟩ := hv
  refine kat_lt ho hd ho' hd' ?_
  refine kat_cons (wpAny_eqBool_int ?_)
  refine kat_go (fun _ => kat_yes ?_) fun _ => kat_no (oneLt_int (h _))
  refine kat_cons (wpAny_eqBool_str ?_)
  refine kat_go (fun _ => kat_yes ?_) fun e => absurd e (by simp)
  refine kat_cons (wpAny_eqBool_int ?_)
  refine kat_go (fun _ => kat_yes (kat_nil (h _))) fun _ => kat_no (oneLt_int' (h _))
theorem trip_firsts {h : Heap} : ∀ {vs : List Value}, (∀ v ∈ vs, Trip h v) → ∃ fs, KatTups h vs fs ∧ fs.length = vs.length ∧ ∀ f ∈ fs, ∃ x t, f = Value.int x t
  | [], _ => ⟨[], trivial, rfl, fun _ hf => nomatch hf⟩
  | v :: vs, hv => by
    obtain ⟨fs, h1, h2, h3⟩ := trip_firsts fun w hw => hv w (.tail _ hw)
    obtain ⟨a, o, x, y, t1, t2, t3, n, rfl, ho, hc, hd⟩ := hv v (.head _)
    refine ⟨.int x t1 :: fs, .cons ho hc hd rfl h1, by simp [h2], fun f hf => ?_⟩
    rcases List.mem_cons.mp hf with rfl | hf
    · exact ⟨x, t1, rfl⟩
    · exact h3 f hf
theorem range_perm (vs : List Value) {p : Array Nat} (h : IsP vs.length p) : (p.toList.map fun i => vs.getD i Value.none).Perm vs := by
  have h1 : (p.toList.map fun i => vs.getD i Value.none).Perm ((List.range vs.length).map fun i => vs.getD i Value.none) := by
    have := (Array.perm_iff_toList_perm.mp h).map fun i => vs.getD i Value.none
    simpa using this
  have h2 : ((List.range vs.length).map fun i => vs.getD i Value.none) = vs := by
    refine List.ext_getElem? fun i => ?_
    rw [List.getElem?_map]
    by_cases hi : i < vs.length
    · simp [hi]
    · simp [hi]
  rw [h2] at h1
  exact h1
theorem sort_trips {a : Addr} {vs : List Value} {n : Nat} {P : PySem.Fin → Shared → Prop} (ho : s.heap.get? a = some (seqObj "list" vs.toArray n)) (h64 : vs.length < 64) (ht : ∀ v ∈ vs, Trip s.heap v)
    (h : ∀ out : List Value, out.Perm vs → P (.done (.ret .none)) { s with heap := sortedHeap s.heap a vs out.toArray }) :
    wpAny (model pw w) A (Builtin.«list.sort» ⟨[.ref a], []⟩) P E s := by
  rw [list_sort_plain]
  have ha : a < s.heap.objs.size := Heap.lt_size ho
  refine wpAny_bind (listItems_at ho rfl ?_)
  refine wpAny_bind (listUpdate_at ho rfl ?_ (by rw [List.size_toArray, sizeLine_eq]; exact om60 h64) (Nat.zero_le _))
  obtain ⟨e1, ho1⟩ : ∃ e1, (s.heap.update a (Obj.mapSeq fun _ => #[])).get? a = some (seqObj "list" #[] e1) := ⟨_, get?_update_seq ho (fun _ => #[])⟩
  refine wpAny_bind (seqEpoch_at ho1 rfl ?_)
  refine wpAny_bind (wpAny_newTuple ?_ (by show vs.length ≤ _; rw [sizeLine_eq]; exact om60 h64))
  refine wpAny_bind (wpAny_newList ?_ (Nat.zero_le _))
  refine wpAny_holding ?_
  have ho6 : (((s.heap.update a (Obj.mapSeq fun _ => #[])).push (seqObj "tuple" vs.toArray 0)).push (seqObj "list" #[] 0)).get? a = some (seqObj "list" #[] e1) := by
    rw [Heap.get?_push_ne _ _ _ (by rw [size_push', Heap.size_update]; exact Nat.ne_of_lt (Nat.lt_succ_of_lt ha)), Heap.get?_push_ne _ _ _ (by rw [Heap.size_update]; exact Nat.ne_of_lt ha)]
    exact ho1
  show wpAny (model pw w) A _ P E { s with heap := ((s.heap.update a (Obj.mapSeq fun _ => #[])).push (seqObj "tuple" vs.toArray 0)).push (seqObj "list" #[] 0) }
  dsimp only
  have hsz : vs.toArray.size = vs.length := by simp
  by_cases h2 : vs.toArray.size < 2
  · rw [if_pos h2, if_pos h2]
    refine wpAny_bind (wpAny_pure ?_)
    rw [StateT.run_pure]
    refine wpAny_bind (wpAny_pure ?_)
    dsimp only
    refine wpAny_bind (seqEpoch_at ho6 rfl ?_)
    refine wpAny_bind (listUpdate_at ho6 rfl ?_ (hsz2 := by rw [Array.size_map]; show (pairsOf vs).size ≤ _; rw [pairsOf_size, sizeLine_eq]; exact om61 h64))
    simp only [bne_self_eq_false, Bool.false_eq_true, if_false]
    have e : (arrOf (SortSt.mk' general' (vs.toArray.zip vs.toArray) #[] 7 none)).map (·.2) = vs.toArray := by
      show (vs.toArray.zip vs.toArray).map (·.2) = vs.toArray
      apply Array.toList_inj.mp
      simp
      exact List.map_snd_zip (Nat.le_refl _)
    have := h vs (List.Perm.refl _)
    rw [← e] at this
    exact wpAny_pure this
  · rw [if_neg h2, if_neg h2]
    have h2' : 2 ≤ vs.length := by exact om62 hsz h2
    have ht6 : ∀ v ∈ vs, Trip (((s.heap.update a (Obj.mapSeq fun _ => #[])).push (seqObj "tuple" vs.toArray 0)).push (seqObj "list" #[] 0)) v := fun v hv => (ht v hv).keep fun b o hc e => by
      have hne : b ≠ a := fun q => by
        rw [q, ho] at e
        cases e
        exact absurd hc (by simp [seqObj])
      exact Heap.get?_push_of_some _ (Heap.get?_push_of_some _ ((Heap.get?_update_other _ _ (Ne.symm hne)).trans e))
    obtain ⟨fs, hf1, hf2, hf3⟩ := trip_firsts ht6
    refine wpAny_bind (kat_kind (T := .type "int") hf1 (by exact om63 hsz h2 hf2) (fun v hv => ?_) rfl ?_)
    · obtain ⟨x, t, rfl⟩ := hf3 v hv
      exact Looks.of_pure rfl
    refine wpAny_bind (wpAny_mono (kat_run (κ := tuples' true) (ks := vs) (G := fun p s' => IsP vs.length p ∧ s' = { s with heap := ((s.heap.update a (Obj.mapSeq fun _ => #[])).push (seqObj "tuple" vs.toArray 0)).push (seqObj "list" #[] 0) })
      (Q := fun st' s' => ∃ p : Array Nat, arrOf st' = p.map (kas_item (vs.toArray.zip vs.toArray)) ∧ failedOf st' = none ∧ IsP vs.length p ∧ s' = { s with heap := ((s.heap.update a (Obj.mapSeq fun _ => #[])).push (seqObj "tuple" vs.toArray 0)).push (seqObj "list" #[] 0) })
      rfl h2' h64 (fun p st' s' _ a2 a3 a4 => ⟨p, a2, a3, a4⟩) ((wf_sort (by exact om64 hsz h2)).run (fun i j hi hj C hC => ?_) fun p hp => ⟨hp, rfl⟩)) ?_ fun _ _ e => e)
    · unfold kas_ask
      have gi : vs.getD i Value.none ∈ vs := by simp [hi]
      have gj : vs.getD j Value.none ∈ vs := by simp [hj]
      exact trip_lt (ht6 _ gi) (ht6 _ gj) hC
    · rintro ⟨⟨⟩, st'⟩ s' ⟨p, har, hf, hp, rfl⟩
      dsimp only
      have hout := kat_snds rfl har
      have hperm := range_perm vs hp
      rw [hout]
      refine wpAny_bind (seqEpoch_at ho6 rfl ?_)
      refine wpAny_bind (listUpdate_at ho6 rfl ?_ (hsz2 := by rw [List.size_toArray, hperm.length_eq, sizeLine_eq]; exact om61 h64))
      rw [hf]
      simp only [bne_self_eq_false, Bool.false_eq_true, if_false]
      exact wpAny_pure (h _ hperm)
end
end
section
noncomputable def KitAt (h : Heap) (it d : Addr) (i n ep : Nat) : Prop := h.IsKeyIter it d i n ep
noncomputable def RawD (h : Heap) (d : Addr) (es : Array DictEntry) (ep : Nat) : Prop := ∃ o, h.get? d = some o ∧ o.ExactDict ∧ o.data = .dict es ep
section
variable {w : World} {A : Around} {E : Value → Shared → Prop} {s : Shared}
theorem RawD.type {d : Addr} {es : Array DictEntry} {ep : Nat} (x : RawD s.heap d es ep) : s.TypeIs (.ref d) "dict" := let ⟨o, ho, hc, _⟩ := x; ⟨o, ho, hc.1⟩
theorem RawD.keep {h h' : Heap} {d : Addr} {es : Array DictEntry} {ep : Nat} (x : RawD h d es ep) (k : ∀ o, h.get? d = some o → h'.get? d = some o) : RawD h' d es ep := let ⟨o, ho, r⟩ := x; ⟨o, k o ho, r⟩
theorem raw_iter {d : Addr} {es : Array DictEntry} {ep : Nat} {Q : Value → Shared → Prop} (hd : (d == sysModules) = false) (hm : RawD s.heap d es ep)
    (hQ : Q (.ref s.heap.objs.size) { s with heap := s.heap.push { cls := .type "dict_keyiterator", data := .fields #[.ref d, .int 0 0, .int es.size 0, .int ep 0] } }) :
    wpAny (model pw w) A (pyIter (.ref d)) Q E s := by
  have hT := hm.type
  obtain ⟨o, ho, hc, hdat⟩ := id hm
  refine wpAny_pyIter_slot hT PySem.F.slot_dict_iter (wpAny_call_entry PySem.F.slot_dict_iter hT PySem.F.entry_dict_iter ?_ (PySem.F.args_dict_iter_1 _))
  unfold Builtin.«dict.__iter__»
  refine wpAny_bind ?_
  unfold Builtin.Dict.dictSlotNone
  refine wpAny_bind (wpAny_notOrdered_dict hT ?_)
  show wpAny _ _ (pure (Value.ref d)) _ _ s
  refine wpAny_pure ?_
  show wpAny _ _ (Builtin.Dict.showsAll d >>= _) _ _ s
  unfold Builtin.Dict.showsAll
  rw [if_neg (by rw [hd]; exact Bool.false_ne_true)]
  refine wpAny_bind (wpAny_pure ?_)
  refine wpAny_bind (wpAny_dictEntries ho hdat ?_)
  refine wpAny_bind (wpAny_dictEpoch ho hdat ?_)
  refine wpAny_bind (wpAny_newObj_type (wpAny_pure ⟨_, rfl, "dict_keyiterator", _, ⟨_, Heap.get?_push_size _ rfl, rfl⟩, PySem.F.slot_dict_keyiterator_next.lookup, ?_⟩))
  simpa [rawInt] using hQ
theorem raw_next {it d : Addr} {i ep : Nat} {es : Array DictEntry} {Q : Option Value → Shared → Prop} (hit : s.heap.IsKeyIter it d i es.size ep)
    (hm : RawD s.heap d es ep) (hx : i < es.size)
    (hQ : ∀ h', h'.IsKeyIter it d (i + 1) es.size ep → Heap.SameBut it s.heap h' → Q (some es[i].key) { s with heap := h' }) :
    wpAny (model pw w) A (pyNext (.ref it)) Q E s := by
  obtain ⟨o, ho, hc, hd⟩ := id hit
  obtain ⟨od, hod, hcd, hdd⟩ := id hm
  unfold pyNext
  refine wpAny_bind (wpAny_attempt (wpAny_callSpecial?_slot (name := Str.ofString "__next__") hit.typeIs PySem.F.slot_dict_keyiterator_next
    (wpAny_call_entry PySem.F.slot_dict_keyiterator_next hit.typeIs PySem.F.entry_dict_keyiterator_next ?_ (PySem.F.args_dict_keyiterator_next_1 _))))
  refine wpAny_bind (wpAny_pure ?_)
  refine wpAny_bind ?_
  refine wpAny_bind ?_
  first | refine wpAny_bind (wpAny_typeNameOfWhole_keyiter hit.typeIs (wpAny_pure ?_)) | refine wpAny_bind (wpAny_typeNameOf_keyiter hit.typeIs (wpAny_pure ?_))
  refine wpAny_bind (wpAny_fieldsOf ho hd ?_)
  have hown : Builtin.Dict_items.ownsTuple "dict_keyiterator" = false := by decide
  dsimp only
  rw [hown, if_neg Bool.false_ne_true]
  show wpAny _ _ (if (Value.ref d == Value.none) = true then _ else _) _ _ s
  rw [if_neg (show ¬ ((Value.ref d == Value.none) = true) from Bool.false_ne_true)]
  refine wpAny_bind (wpAny_pure ?_)
  refine wpAny_bind (wpAny_dictEntries hod hdd ?_)
  rw [if_neg (by simp)]
  refine wpAny_bind (wpAny_pure ?_)
  refine wpAny_bind (wpAny_dictEpoch hod hdd ?_)
  rw [if_neg (by simp)]
  refine wpAny_pure ?_
  dsimp only
  rw [if_neg (show ¬ ((i : Int) < 0) from by exact om42), Int.toNat_natCast, Array.getElem?_eq_getElem hx]
  refine wpAny_bind ?_
  first | refine wpAny_bind (wpAny_typeNameOfWhole_keyiter hit.typeIs (wpAny_pure ?_)) | refine wpAny_bind (wpAny_typeNameOf_keyiter hit.typeIs (wpAny_pure ?_))
  refine wpAny_bind (wpAny_isOneOf_keyiter hit.typeIs ?_)
  show wpAny _ _ (setField (.ref it) 1 (rawInt ((i : Int) + 1)) >>= _) _ _ s
  refine wpAny_bind (wpAny_setField ho hd (by simp) ?_)
  have hit' : (s.heap.update it (Obj.mapFields (·.setIfInBounds 1 (rawInt ((i : Int) + 1))))).IsKeyIter it d (i + 1) es.size ep :=
    ⟨_, Heap.get?_update_self _ ho (Obj.isFreed_of_fields (Obj.data_mapFields hd _)), (Obj.cls_mapFields ..).trans hc, by rw [Obj.data_mapFields hd]; simp [rawInt]⟩
  refine wpAny_bind (wpAny_holding ?_)
  refine wpAny_bind (wpAny_isOneOf_keyiter (s := { s with heap := s.heap.update it (Obj.mapFields (·.setIfInBounds 1 (rawInt ((i : Int) + 1)))) }) hit'.typeIs ?_)
  show wpAny _ _ (pure es[i].key) _ _ _
  exact wpAny_pure (wpAny_pure ⟨_, rfl, wpAny_pure (hQ _ hit' (Heap.SameBut.update ..))⟩)
theorem raw_end {it d : Addr} {ep : Nat} {es : Array DictEntry} {Q : Option Value → Shared → Prop} (hh : A.handled = none) (hit : s.heap.IsKeyIter it d es.size es.size ep)
    (hm : RawD s.heap d es ep) (hQ : ∀ h', Heap.ExtBut it s.heap h' → Q none { s with heap := h' }) : wpAny (model pw w) A (pyNext (.ref it)) Q E s := by
  obtain ⟨o, ho, hc, hd⟩ := id hit
  obtain ⟨od, hod, hcd, hdd⟩ := id hm
  unfold pyNext
  refine wpAny_bind (wpAny_attempt (wpAny_callSpecial?_slot (name := Str.ofString "__next__") hit.typeIs PySem.F.slot_dict_keyiterator_next
    (wpAny_call_entry PySem.F.slot_dict_keyiterator_next hit.typeIs PySem.F.entry_dict_keyiterator_next ?_ (PySem.F.args_dict_keyiterator_next_1 _))))
  refine wpAny_bind (wpAny_pure ?_)
  refine wpAny_bind ?_
  refine wpAny_bind ?_
  first | refine wpAny_bind (wpAny_typeNameOfWhole_keyiter hit.typeIs (wpAny_pure ?_)) | refine wpAny_bind (wpAny_typeNameOf_keyiter hit.typeIs (wpAny_pure ?_))
  refine wpAny_bind (wpAny_fieldsOf ho hd ?_)
  have hown : Builtin.Dict_items.ownsTuple "dict_keyiterator" = false := by decide
  dsimp only
  rw [hown, if_neg Bool.false_ne_true]
  show wpAny _ _ (if (Value.ref d == Value.none) = true then _ else _) _ _ s
  rw [if_neg (show ¬ ((Value.ref d == Value.none) = true) from Bool.false_ne_true)]
  refine wpAny_bind (wpAny_pure ?_)
  refine wpAny_bind (wpAny_dictEntries hod hdd ?_)
  rw [if_neg (by simp)]
  refine wpAny_bind (wpAny_pure ?_)
  refine wpAny_bind (wpAny_dictEpoch hod hdd ?_)
  rw [if_neg (by simp)]
  refine wpAny_pure ?_
  dsimp only
  rw [if_neg (show ¬ ((es.size : Int) < 0) from by exact om42), Int.toNat_natCast, Array.getElem?_eq_none (Nat.le_refl es.size)]
  refine wpAny_bind ?_
  first | refine wpAny_bind (wpAny_typeNameOfWhole_keyiter hit.typeIs (wpAny_pure ?_)) | refine wpAny_bind (wpAny_typeNameOf_keyiter hit.typeIs (wpAny_pure ?_))
  show wpAny _ _ (setField (.ref it) 0 .none >>= _) _ _ s
  refine wpAny_bind (wpAny_setField ho hd (by simp) ?_)
  show wpAny _ _ (newExc (.type "StopIteration") [] >>= _) _ _ _
  refine wpAny_bind ?_
  unfold newExc newTuple
  refine wpAny_bind (wpAny_newObj_type ?_ (by size_fits))
  refine wpAny_bind (m := firstArgMember _ _) (wpAny_of_eq (a := Value.none) (by first | rfl | (simp only [firstArgMember]; rfl)) ?_)
  refine wpAny_newObj_type ?_ (by size_fits)
  unfold raiseNew
  refine wpAny_bind (wpAny_handled ?_)
  rw [show A.in1.handled = none from hh]
  refine wpAny_bind (wpAny_pure (wpAny_throw ?_))
  refine wpAny_bind (wpAny_isInstance (T := "StopIteration") (b := true) ⟨_, Heap.get?_push_size _ rfl, rfl⟩ isSubtype_stop ?_)
  exact wpAny_pure (hQ _ (((Heap.SameBut.update ..).extBut.push _).push _))
theorem raw_src {d : Addr} {es : Array DictEntry} {ep : Nat} (hd : (d == sysModules) = false) : KdlSrc pw w "dict" d d es.size (fun i v => es[i]?.map (·.key) = some v) (fun h => RawD h d es ep) where
  type := fun _ hm => hm.type
  there := fun _ ⟨o, ho, _⟩ => ⟨Heap.lt_size ho, Heap.lt_size ho⟩
  keep := fun _ _ hm hk => hm.keep fun o e => hk d (.inl rfl) o e
  notList := by decide
  notTuple := by decide
  hint := fun _ _ _ _ hm hq => kdl_hint_dict hm.type hq
  iter := fun A s hh hm => ⟨_, fun i h => h.IsKeyIter s.heap.objs.size d i es.size ep ∧ RawD h d es ep, (fun _ _ hq => raw_iter hd hm hq), {
      sub := fun b hb => by simp at hb; simp [hb]
      frame := fun _ _ _ st hk => ⟨st.1.at fun o e => hk _ (by simp) o e, st.2.keep fun o e => hk d (by simp) o e⟩
      item := fun i s' Q E hi st hQ => raw_next st.1 st.2 hi fun h' hit' hs' => hQ _ h' s'.toks (by rw [Array.getElem?_eq_getElem hi]; rfl)
        ⟨hit', st.2.keep fun o e => (hs'.2 d (by obtain ⟨o', ho', _⟩ := hm; exact Nat.ne_of_lt (Heap.lt_size ho'))).trans e⟩ fun b o hb e => (hs'.2 b (fun q => hb (by simp [q]))).trans e
      done := fun s' Q E st hQ => raw_end hh st.1 st.2 fun h' he => hQ h' s'.toks fun b o hb e => he b o (fun q => hb (by simp [q])) e
      self := fun _ _ _ _ st hQ => wpAny_pyIter_keyiter st.1 hQ },
    ⟨⟨_, Heap.get?_push_size _ rfl, rfl, rfl⟩, hm.keep fun o e => Heap.get?_push_of_some _ e⟩⟩
end
end
section
noncomputable abbrev trip (p : Int × Int) : List Lit := [.inl p.1, .inr "!=", .inl p.2]
noncomputable abbrev tripV (p : Int × Int) : SV := .tup [.int p.1, .str "!=", .int p.2]
theorem perm_rep {g : PM} {out vs : List Value} (h : out.Perm vs) : ∀ {ps : List (Int × Int)}, RepVs g (ps.map tripV) vs → ∃ ps' : List (Int × Int), ps'.Perm ps ∧ RepVs g (ps'.map tripV) out := by
  induction h with
  | nil =>
    intro ps r
    cases ps with
    | nil => exact ⟨[], .refl _, r⟩
    | cons p ps => obtain ⟨_, _, e, _⟩ := r; cases e
  | cons x _ ih =>
    intro ps r
    cases ps with
    | nil => exact absurd (show _ :: _ = [] from r) nofun
    | cons p ps =>
      obtain ⟨v, vr, e, h1, h2⟩ := r
      cases e
      obtain ⟨ps', h3, h4⟩ := ih h2
      exact ⟨p :: ps', h3.cons p, _, _, rfl, h1, h4⟩
  | swap x y l =>
    intro ps r
    match ps, r with
    | [], r => exact absurd (show _ :: _ = [] from r) nofun
    | [_], ⟨v, vr, e, h1, h2⟩ => cases e; exact absurd (show _ :: _ = [] from h2) nofun
    | p :: p' :: ps, ⟨v, vr, e, h1, v', vr', e', h2, h3⟩ =>
      subst e'
      cases e
      exact ⟨p' :: p :: ps, .swap p p' ps, _, _, rfl, h2, _, _, rfl, h1, h3⟩
  | trans _ _ ih1 ih2 =>
    intro ps r
    obtain ⟨ps1, h1, h2⟩ := ih2 r
    obtain ⟨ps2, h3, h4⟩ := ih1 h2
    exact ⟨ps2, h3.trans h1, h4⟩
section
variable {c : Cx} {σ : St} {Q : SV → St → Prop}
theorem lit_trip {g : PM} {h : Heap} {p : Int × Int} {b : Addr} (hg : ∀ a o, g a = some o → h.get? a = some o) (x : IsLitTup c.w g (trip p) b) : Trip h (.ref b) ∧ RepV g (tripV p) (.ref b) := by
  obtain ⟨o, items, n, ho, hc, hd, hi⟩ := x
  have rs := rep_lits (g := g) hi
  obtain ⟨v1, vr1, e1, ⟨t1, h1⟩, v2, vr2, e2, ⟨t2, h2⟩, v3, vr3, e3, ⟨t3, h3⟩, h4⟩ := rs
  have h4' : vr3 = [] := h4
  subst h4' h1 h2 h3 e3 e2
  have e : items = #[.int p.1 t1, .str "!=" t2, .int p.2 t3] := by apply Array.toList_inj.mp; rw [e1]
  subst e
  exact ⟨⟨b, o, p.1, p.2, t1, t2, t3, n, rfl, hg b o ho, hc, hd⟩, b, o, [.int p.1 t1, .str "!=" t2, .int p.2 t3], n, rfl, ho, hc, hd, _, _, rfl, ⟨_, rfl⟩, _, _, rfl, ⟨_, rfl⟩, _, _, rfl, ⟨_, rfl⟩, rfl⟩
theorem C_sorted_td {a : Addr} {ps : List (Int × Int)} (hm : (a, AObj.tdict (ps.map trip)) ∈ σ.heap) (hd : (a == sysModules) = false) (hn : ps.length < 64)
    (q : ∀ out : List (Int × Int), out.Perm ps → Q (.lst (out.map tripV)) σ) : CallV c (.builtin "sorted") [.ref a] σ Q := fun g s vs R r => by
  obtain ⟨v, rfl, rv⟩ := rep1 r
  have rv' : v = .ref a := rv
  subst rv'
  obtain ⟨o, es, n, xs, ho, hex, hdat, he, hks, nd, his⟩ := R.objs _ hm
  have hl : xs.length = ps.length := by have := congrArg List.length hks; simpa using this
  have hes : es.size = ps.length := by rw [← Array.length_toList, he, List.length_map, hl]
  have hxs : ∀ (xs : List (List Lit × Addr × Value)) (ps : List (Int × Int)), xs.map (·.1) = ps.map trip → (∀ x ∈ xs, IsLitTup c.w g x.1 x.2.1) → (∀ v ∈ xs.map fun x => Value.ref x.2.1, Trip s.heap v) ∧ RepVs g (ps.map tripV) (xs.map fun x => Value.ref x.2.1) := by
    intro xs
    induction xs with
    | nil => intro ps h _; cases ps with
      | nil => exact ⟨fun v hv => (nomatch hv), rfl⟩
      | cons p ps => cases h
    | cons x xs ih => intro ps h hx; cases ps with
      | nil => cases h
      | cons p ps =>
        rw [List.map_cons, List.map_cons, List.cons.injEq] at h
        obtain ⟨h1, h2⟩ := ih ps h.2 fun y hy => hx y (.tail _ hy)
        obtain ⟨t1, t2⟩ := lit_trip (p := p) R.gh (h.1 ▸ hx x (.head _))
        refine ⟨fun v hv => ?_, _, _, rfl, t2, h2⟩
        rcases List.mem_cons.mp hv with rfl | hv
        · exact t1
        · exact h1 v hv
  obtain ⟨hT, hR⟩ := hxs xs ps hks his
  refine call_function_entry kind_sorted plain_sorted entry_sorted (args_sorted1 _) ?_
  unfold Builtin.«sorted»
  refine wpAny_bind (m := checkCount "sorted" 1 1 _) (wpAny_pure ?_)
  refine wpAny_bind (kdu_collect (A := c.A.in1) (raw_src (es := es) (ep := n) hd) R.ok.room.hh ⟨o, ho, hex, hdat⟩ (by rw [hes, sizeLine_eq]; exact om60 hn) fun h' tk acc hk hacc => ?_)
  have hacc2 : acc.toList = xs.map fun x => Value.ref x.2.1 := by
    have e1 : es.toList.map (·.key) = xs.map fun x => Value.ref x.2.1 := by rw [he, List.map_map]; rfl
    rw [← e1]
    refine List.ext_getElem? fun i => ?_
    rw [List.getElem?_map, Array.getElem?_toList, Array.getElem?_toList]
    by_cases hi : i < acc.size
    · have := hacc.2 i acc[i] (Array.getElem?_eq_getElem hi)
      rw [this, Array.getElem?_eq_getElem hi]
    · rw [Array.getElem?_eq_none (by exact om57 hi), Array.getElem?_eq_none (by have := hacc.1; exact om58 hi this)]
      rfl
  have hlen : acc.toList.length = ps.length := by rw [hacc2, List.length_map, hl]
  refine wpAny_bind (wpAny_newList ?_ (by rw [hlen, sizeLine_eq]; exact om60 hn))
  have hoL : (h'.push (seqObj "list" acc.toList.toArray 0)).get? h'.objs.size = some (seqObj "list" acc.toList.toArray 0) := Heap.get?_push_size _ rfl
  show wpAny _ _ _ _ _ { s with heap := h'.push (seqObj "list" acc.toList.toArray 0), toks := tk }
  have hT' : ∀ v ∈ acc.toList, Trip (h'.push (seqObj "list" acc.toList.toArray 0)) v := fun v hv => (hT v (hacc2 ▸ hv)).keep fun b o _ e => Heap.get?_push_of_some _ (hk b o e)
  refine wpAny_bind (wpAny_holding (wpAny_call_entry slot_list_sort ⟨_, hoL, rfl⟩ entry_list_sort (sort_trips hoL (by exact om29 hn hlen) hT' fun out hp => ⟨_, rfl, ?_⟩) (args_list_sort _)))
  refine wpAny_pure ⟨_, rfl, ?_⟩
  obtain ⟨ps', hp1, hp2⟩ := perm_rep (hacc2 ▸ hp) hR
  obtain ⟨e, he2⟩ := sortedHeap_at (out := out.toArray) hoL
  have R₀ : Rel c g σ { s with heap := h', toks := tk } := R.ext (tk := tk) hk
  have R₁ : Rel c g σ { s with heap := sortedHeap (h'.push (seqObj "list" acc.toList.toArray 0)) h'.objs.size acc.toList out.toArray, toks := tk } := R.ext (tk := tk) fun b o e => by
    have hb := Heap.lt_size (hk b o e)
    rw [sortedHeap_old (Nat.ne_of_lt hb) (by rw [size_push']; exact Nat.lt_succ_of_lt hb)]
    exact Heap.get?_push_of_some _ (hk b o e)
  obtain ⟨g', gx, R', hg⟩ := R₁.frozen (a := h'.objs.size) R₀.lo R₀.fresh he2
  exact ⟨g', _, .lst (ps'.map tripV), gx, R', ⟨_, _, out, e, rfl, hg, rfl, rfl, hp2.mono gx.1⟩, q ps' hp1⟩
end
end
section
open SetTable
noncomputable def rnd (mask b : Nat) : Nat → Nat × Nat
  | 0 => (b % (mask + 1), b)
  | r + 1 => leap mask (rnd mask b r).1 (rnd mask b r).2
theorem rnd_two (mask b : Nat) : ∀ r, (rnd mask b r).2 = b / 32 ^ r
  | 0 => by simp [rnd]
  | r + 1 => by
    show (rnd mask b r).2 / 32 = _
    rw [rnd_two mask b r, Nat.pow_succ, Nat.div_div_eq_div_mul]
theorem rnd_lt (mask b : Nat) : ∀ r, (rnd mask b r).1 < mask + 1
  | 0 => Nat.mod_lt _ (Nat.succ_pos _)
  | r + 1 => Nat.mod_lt _ (Nat.succ_pos _)
noncomputable def lcg (M : Nat) : Nat → Nat → Nat
  | 0, i => i
  | t + 1, i => (lcg M t i * 5 + 1) % M
theorem rnd_lcg {mask b : Nat} (hb : b < 2 ^ 64) : ∀ t, (rnd mask b (12 + t)).1 = lcg (mask + 1) t (rnd mask b 12).1
  | 0 => rfl
  | t + 1 => by
    show ((rnd mask b (12 + t)).1 * 5 + 1 + (rnd mask b (12 + t)).2 / 32) % (mask + 1) = (lcg (mask + 1) t (rnd mask b 12).1 * 5 + 1) % (mask + 1)
    have h0 : (rnd mask b (12 + t)).2 / 32 = 0 := by
      rw [rnd_two, Nat.div_div_eq_div_mul, ← Nat.pow_succ]
      refine Nat.div_eq_of_lt (Nat.lt_of_lt_of_le hb ?_)
      calc 2 ^ 64 ≤ 32 ^ 13 := by decide
        _ ≤ 32 ^ (12 + t + 1) := Nat.pow_le_pow_right (by decide) (by exact om65)
    rw [h0, rnd_lcg hb t, Nat.add_zero]
theorem lcg_8 : ∀ i ∈ List.range 8, ∀ j ∈ List.range 8, ∃ t ∈ List.range 8, lcg 8 t i = j := by decide +kernel
theorem lcg_32 : ∀ i ∈ List.range 32, ∀ j ∈ List.range 32, ∃ t ∈ List.range 32, lcg 32 t i = j := by decide +kernel
theorem rnd_all {mask b j : Nat} (hm : mask = 7 ∨ mask = 31) (hb : b < 2 ^ 64) (hj : j < mask + 1) : ∃ r, r ≤ mask + 12 ∧ (rnd mask b r).1 = j := by
  have key : ∃ t ∈ List.range (mask + 1), lcg (mask + 1) t (rnd mask b 12).1 = j := by
    have h := rnd_lt mask b 12
    rcases hm with rfl | rfl
    · exact lcg_8 _ (List.mem_range.mpr h) _ (List.mem_range.mpr hj)
    · exact lcg_32 _ (List.mem_range.mpr h) _ (List.mem_range.mpr hj)
  obtain ⟨t, ht, e⟩ := key
  have := List.mem_range.mp ht
  exact ⟨12 + t, by exact om66 this, by rw [rnd_lcg hb]; exact e⟩
noncomputable def advN (t : SetTable) : Nat → Probe → Probe
  | 0, p => p
  | n + 1, p => advN t n (t.advance p)
theorem advN_add (t : SetTable) : ∀ (a b : Nat) (p : Probe), advN t (a + b) p = advN t b (advN t a p)
  | 0, b, p => by rw [Nat.zero_add]; rfl
  | a + 1, b, p => by rw [Nat.add_right_comm]; exact advN_add t a b (t.advance p)
noncomputable def startAt (mask : Nat) (q : Nat × Nat) : Probe := { j := q.1, more := runEnd mask q.1 - q.1, i := q.1, perturb := q.2, dummy := none }
theorem adv_round (t : SetTable) : ∀ (m : Nat) (p : Probe), p.more = m → p.dummy = none → advN t (m + 1) p = startAt t.mask (leap t.mask p.i p.perturb)
  | 0, p, h, hd => by
    show t.advance p = _
    unfold advance
    rw [if_neg (by exact om67 h)]
    obtain ⟨a, b, c, d, e⟩ := p
    subst hd
    rfl
  | m + 1, p, h, hd => by
    show advN t (m + 1) (t.advance p) = _
    have e : t.advance p = { p with j := p.j + 1, more := p.more - 1 } := by unfold advance; rw [if_pos (by exact om68 h)]
    rw [e]
    exact adv_round t m _ (by show p.more - 1 = m; exact om69 h) hd
theorem more_le (mask i : Nat) : runEnd mask i - i ≤ 9 := by unfold runEnd; split <;> omega
theorem adv_rnd (t : SetTable) (h : Int) : ∀ r, ∃ K, K ≤ 10 * r ∧ advN t K (t.probeStart h) = startAt t.mask (rnd t.mask (bits h) r)
  | 0 => ⟨0, by exact om70, rfl⟩
  | r + 1 => by
    obtain ⟨K, hK, e⟩ := adv_rnd t h r
    refine ⟨K + (runEnd t.mask (rnd t.mask (bits h) r).1 - (rnd t.mask (bits h) r).1 + 1), by have := more_le t.mask (rnd t.mask (bits h) r).1; exact om71 hK this, ?_⟩
    rw [advN_add, e]
    exact adv_round t _ (startAt t.mask (rnd t.mask (bits h) r)) rfl rfl
theorem bits_lt (h : Int) : bits h < 2 ^ 64 := by
  unfold bits
  have := Int.emod_lt_of_pos h (show (0 : Int) < 2 ^ 64 by decide)
  have := Int.emod_nonneg h (show (2 ^ 64 : Int) ≠ 0 by decide)
  omega
theorem slot_empty {t : SetTable} (hd : t.dummies = #[]) {j : Nat} (hj : j ∉ t.place.toList) : t.slot j = .empty := by
  unfold slot
  have h1 : (t.place[below t.place j]? == some j) = false := by
    rw [beq_eq_false_iff_ne]
    intro e
    exact hj (by rw [← Array.getElem?_toList] at e; exact List.mem_of_getElem? e)
  simp [h1, has, hd]
theorem slot_cases {t : SetTable} (hd : t.dummies = #[]) (j : Nat) : t.slot j = .empty ∨ ∃ i, t.slot j = .live i ∧ i < t.place.size := by
  unfold slot
  by_cases h : (t.place[below t.place j]? == some j) = true
  · right
    refine ⟨below t.place j, by simp [h], ?_⟩
    have e : t.place[below t.place j]? = some j := by simpa using h
    exact (Array.getElem?_eq_some_iff.mp e).1
  · left
    simp [h, has, hd]
theorem free_exists : ∀ (M : Nat) (l : List Nat), l.length < M → ∃ j, j < M ∧ j ∉ l := fun M l h => by
  by_cases q : ∃ j, j < M ∧ j ∉ l
  · exact q
  · exfalso
    have hall : ∀ j ∈ List.range M, j ∈ l := fun j hj => by
      by_cases hl : j ∈ l
      · exact hl
      · exact absurd ⟨j, List.mem_range.mp hj, hl⟩ q
    have := (List.nodup_range (n := M)).length_le_of_subset (fun j hj => hall j hj)
    rw [List.length_range] at this
    exact om72 h this
theorem empty_at {t : SetTable} (hm : t.mask = 7 ∨ t.mask = 31) (hd : t.dummies = #[]) (hp : t.place.size < t.mask + 1) (h : Int) : ∃ K, K < 10 * turns t.mask ∧ t.slot (advN t K (t.probeStart h)).j = .empty := by
  obtain ⟨j, hj, hn⟩ := free_exists (t.mask + 1) t.place.toList (by simpa using hp)
  obtain ⟨r, hr, e⟩ := rnd_all hm (bits_lt h) hj
  obtain ⟨K, hK, e2⟩ := adv_rnd t h r
  refine ⟨K, by unfold turns; exact om73 hr hK, ?_⟩
  rw [e2]
  show t.slot (rnd t.mask (bits h) r).1 = _
  rw [e]
  exact slot_empty hd hn
theorem adv_dummy (t : SetTable) (p : Probe) : (t.advance p).dummy = p.dummy := by
  unfold advance; split
  · rfl
  · rfl
theorem go_finds (t : SetTable) (hd : t.dummies = #[]) (ha : Nat → Int) (h : Int) : ∀ (fuel K : Nat) (p : Probe), K < fuel → t.slot (advN t K p).j = .empty → p.dummy = none →
    (∃ j, probe.go t ha h fuel p = some (.empty j none)) ∨ ∃ k i, k < K ∧ t.slot (advN t k p).j = .live i ∧ i < t.place.size ∧ ha i = h ∧ probe.go t ha h fuel p = some (.candidate (advN t k p).j i (advN t (k + 1) p))
  | 0, K, p, hK, _, _ => absurd hK (Nat.not_lt_zero _)
  | fuel + 1, K, p, hK, he, hp => by
    unfold probe.go
    rcases slot_cases hd p.j with e | ⟨i, e, hi⟩
    · rw [e]; exact .inl ⟨p.j, by rw [hp]⟩
    · rw [e]
      dsimp only
      have hK0 : K ≠ 0 := fun q => by subst q; rw [show advN t 0 p = p from rfl, e] at he; cases he
      obtain ⟨K', rfl⟩ : ∃ K', K = K' + 1 := ⟨K - 1, by exact om74 hK0⟩
      by_cases hh : (ha i == h) = true
      · rw [if_pos hh]
        exact .inr ⟨0, i, by exact om75, e, hi, by simpa using hh, rfl⟩
      · rw [if_neg hh]
        rcases go_finds t hd ha h fuel K' (t.advance p) (by exact om76 hK) he (by rw [adv_dummy, hp]) with ⟨j, r⟩ | ⟨k, i', hk, h1, h2, h3, h4⟩
        · exact .inl ⟨j, r⟩
        · exact .inr ⟨k + 1, i', by exact om77 hk, h1, h2, h3, h4⟩
end
section
open SetTable
noncomputable abbrev LKey (w : World) (h : Heap) (k : List Lit) (a : Addr) : Prop := IsTupleKey (litKind w) h k a
section
variable {w : World} {A : Around} {E : Value → Shared → Prop} {s : Shared}
theorem ofClass_byValue (n : Nat) {v : Value} (h : carriedByValue v = true) : ofAClassStatement n v = pure false := by
  cases v <;> first | (cases n <;> rfl) | (simp [carriedByValue] at h)
theorem tup_class {k : List Lit} {a : Addr} {Q : Bool → Shared → Prop} (hk : LKey w s.heap k a) (h : Q false s) : wpAny (model pw w) A (ofAClassStatement 8 (.ref a)) Q E s := by
  obtain ⟨o, items, n, ho, hc, hd, hi⟩ := id hk
  unfold ofAClassStatement
  refine wpAny_bind (wpAny_typeOf (T := "tuple") ⟨o, ho, hc⟩ ?_)
  dsimp only
  rw [if_pos (by decide)]
  refine wpAny_bind (wpAny_pure ?_)
  rw [if_neg (by decide)]
  refine wpAny_bind (wpAny_seqItems ho hd ?_)
  dsimp only
  refine wpAny_bind ?_
  rw [← Array.forIn_toList]
  refine wpAny_forIn_list _ (fun rest r s' => r.1 = none ∧ s' = s ∧ ∀ v ∈ rest, carriedByValue v = true) _ ?_ ?_ _ _ ⟨rfl, rfl, hi.byValue⟩
  · rintro v rest r s' ⟨hr, rfl, hall⟩
    rw [ofClass_byValue _ (hall v List.mem_cons_self)]
    refine wpAny_bind (wpAny_pure ?_)
    simp only [Bool.false_eq_true, if_false]
    exact wpAny_pure ⟨rfl, rfl, fun u hu' => hall u (List.mem_cons_of_mem _ hu')⟩
  · rintro ⟨r1, r2⟩ s' ⟨hr, rfl, _⟩
    simp only at hr
    subst hr
    exact wpAny_pure h
theorem isSame_ref (b : Addr) : isSame (.ref b) (.ref b) = pure true := by
  unfold isSame
  dsimp only
  rw [if_pos (by simp)]
theorem lit_scan {k : Lit} {v : Value} (h : (litKind w).is k v = true) : v.scannable = true := by
  have := rep_lit (g := fun _ => none) h
  cases k with
  | inl i => obtain ⟨t, rfl⟩ := this; rfl
  | inr x => obtain ⟨t, rfl⟩ := this; rfl
theorem lits_scan {ks : List Lit} {vs : List Value} (h : ItemsAre (litKind w) ks vs) : ∀ v ∈ vs, v.scannable = true := by
  induction h with
  | nil => exact fun v hv => nomatch hv
  | cons h1 _ ih =>
    intro v hv
    rcases List.mem_cons.mp hv with rfl | hv
    · exact lit_scan h1
    · exact ih v hv
theorem tup_byValue {k : List Lit} {a : Addr} {Q : Bool → Shared → Prop} (hk : LKey w s.heap k a) (h : ∀ b, Q b s) : wpAny (model pw w) A (hashByValue 8 (.ref a)) Q E s := by
  have hT := hk.typeIs
  obtain ⟨o, items, n, ho, hc, hd, hi⟩ := id hk
  unfold hashByValue
  refine wpAny_bind (wpAny_specialOf hT PySem.F.slot_tuple_hash.lookup ?_)
  dsimp only
  refine wpAny_bind (wpAny_seqItems ho hd ?_)
  refine wpAny_bind ?_
  show wpAny _ _ (forIn items _ _) _ _ s
  rw [← Array.forIn_toList]
  refine wpAny_forIn_list _ (fun rest r s' => (r.1 = none ∨ ∃ b, r.1 = some b) ∧ s' = s ∧ ∀ v ∈ rest, v.scannable = true) _ ?_ ?_ _ _ ⟨.inl rfl, rfl, lits_scan hi⟩
  · rintro v rest r s' ⟨hr, rfl, hall⟩
    rw [hashByValue_scannable _ (hall v List.mem_cons_self)]
    refine wpAny_bind (wpAny_pure ?_)
    cases plainKind v with
    | true =>
      simp only [Bool.not_true, Bool.false_eq_true, if_false]
      exact wpAny_pure ⟨.inl rfl, rfl, fun u hu' => hall u (List.mem_cons_of_mem _ hu')⟩
    | false =>
      simp only [Bool.not_false, if_true]
      exact wpAny_pure (wpAny_pure (h _))
  · rintro ⟨r1, r2⟩ s' ⟨hr, rfl, _⟩
    rcases hr with hr | ⟨b, hr⟩ <;> simp only at hr <;> subst hr <;> exact wpAny_pure (h _)
theorem could_seen {k : List Lit} {x : Addr} {Q : Bool → Shared → Prop} (hk : LKey w s.heap k x) : ∀ (ys : List Value), (∀ y ∈ ys, ∃ b k', y = .ref b ∧ LKey w s.heap k' b) → Q false s → wpAny (model pw w) A (searchCouldBeSeen (.ref x) ys) Q E s := by
  intro ys hys h
  unfold searchCouldBeSeen
  refine wpAny_bind ?_
  refine wpAny_forIn_list _ (fun rest r s' => r.1 = none ∧ s' = s ∧ ∀ y ∈ rest, ∃ b k', y = .ref b ∧ LKey w s.heap k' b) _ ?_ ?_ _ _ ⟨rfl, rfl, hys⟩
  · rintro v rest r s' ⟨hr, rfl, hall⟩
    obtain ⟨b, k', rfl, hb⟩ := hall v List.mem_cons_self
    have hrest : ∀ y ∈ rest, ∃ b k', y = .ref b ∧ LKey w s'.heap k' b := fun u hu' => hall u (List.mem_cons_of_mem _ hu')
    dsimp only
    by_cases hxb : (x == b) = true
    · rw [if_pos (by simp [hxb])]
      exact wpAny_pure ⟨rfl, rfl, hrest⟩
    · rw [if_neg (by simp at hxb; simp [hxb, carriedByValue])]
      refine wpAny_bind (wpAny_eqIsQuiet_tuple hk ?_)
      rw [if_neg (by decide)]
      refine wpAny_bind (wpAny_eqIsQuiet_tuple hb ?_)
      rw [if_neg (by decide)]
      refine wpAny_bind (tup_class hk ?_)
      rw [if_neg (by decide)]
      refine wpAny_bind (tup_class hb ?_)
      rw [if_neg (by decide)]
      exact wpAny_pure ⟨rfl, rfl, hrest⟩
  · rintro ⟨r1, r2⟩ s' ⟨hr, rfl, _⟩
    simp only at hr
    subst hr
    exact wpAny_pure h
theorem advN_dummy (t : SetTable) : ∀ (n : Nat) (p : Probe), (advN t n p).dummy = p.dummy
  | 0, p => rfl
  | n + 1, p => by show (advN t n (t.advance p)).dummy = _; rw [advN_dummy t n, adv_dummy]
structure TS (w : World) (h : Heap) (es : Array (Int × Value)) (t : SetTable) (ks : List (List Lit)) : Prop where
  mask : t.mask = 7 ∨ t.mask = 31
  dum : t.dummies = #[]
  size : t.place.size = es.size
  len : es.size = ks.length
  few : ks.length ≤ 12
  few7 : t.mask = 7 → ks.length ≤ 4
  keys : ∀ e ∈ es.toList, ∃ b k, e.2 = .ref b ∧ k ∈ ks ∧ LKey w h k b
theorem TS.fits {h : Heap} {es : Array (Int × Value)} {t : SetTable} {ks : List (List Lit)} (x : TS w h es t ks) : t.fits es.size = true := by
  have := x.size; have := x.len; have := x.few; have := x.few7
  unfold SetTable.fits SetTable.fill
  rw [x.dum]
  simp
  refine ⟨x.size, ?_⟩
  rcases x.mask with e | e <;> omega
theorem tup_search {a x : Addr} {es : Array (Int × Value)} {ep : Nat} {t : SetTable} {ks : List (List Lit)} {k : List Lit} {h : Int} {Q : SetFound → Shared → Prop} (hu : A.units < cLine)
    (ha : s.heap.get? a = some (setObj es ep t)) (ts : TS w s.heap es t ks) (hk : LKey w s.heap k x) (hn : k ∉ ks) (hQ : ∀ j, Q (.free j false) s) :
    ∀ (fuel K : Nat) (stand : Option Probe), K < fuel → K < 10 * turns t.mask → t.slot (advN t K (stand.getD (t.probeStart h))).j = .empty → (stand.getD (t.probeStart h)).dummy = none →
      wpAny (model pw w) A (setSearchFrom a (.ref x) h true fuel stand) Q E s := by
  intro fuel
  induction fuel with
  | zero => intro K _ hK; exact absurd hK (Nat.not_lt_zero _)
  | succ fuel ih =>
    intro K stand hK hK2 he hd
    refine wpAny_bind (wpAny_setState_of ha rfl ts.fits ?_)
    dsimp only
    refine wpAny_ite_split (fun hg => absurd hg (by rcases ts.mask with e | e <;> simp [SetTable.gaveWay, e])) fun _ => ?_
    unfold SetTable.probe
    rcases go_finds t ts.dum (fun i => (es[i]?.map (·.1)).getD 0) h (10 * turns t.mask) K _ hK2 he hd with ⟨j, e⟩ | ⟨q, i, hq, h1, h2', h3, h4⟩
    · erw [e]
      dsimp only
      exact wpAny_pure (hQ j)
    · erw [h4]
      dsimp only
      have hi : i < es.size := by rw [← ts.size]; exact h2'
      have hei : es[i]? = some es[i] := Array.getElem?_eq_getElem hi
      obtain ⟨b, k', hb, hk', hb2⟩ := ts.keys es[i] (by simp)
      have hne : k' ≠ k := fun e => hn (e ▸ hk')
      by_cases hl : (!t.led) = true
      · rw [if_pos hl]
        refine wpAny_bind (could_seen hk _ (fun y hy => ?_) ?_)
        · obtain ⟨p, hp, rfl⟩ := List.mem_map.mp hy
          have hp' : p ∈ es.toList := by simp at hp ⊢; exact hp.1
          obtain ⟨b, k', e1, _, e2⟩ := ts.keys p hp'
          exact ⟨b, k', e1, e2⟩
        rw [if_neg (by decide), hei]
        dsimp only
        rw [hb]
        refine wpAny_bind (wpAny_holding (wpAny_eqBool_tuple hu hb2 hk ?_))
        rw [decide_eq_false hne]
        refine wpAny_bind (wpAny_setState_of ha rfl ts.fits ?_)
        dsimp only
        rw [if_neg (by decide)]
        have hsm : t.sameMemory t.moves t.mask = some true := by unfold SetTable.sameMemory; rw [if_pos (by simp)]
        rw [hsm]
        dsimp only
        rw [if_pos rfl, h1]
        dsimp only
        rw [hei]
        dsimp only
        rw [hb]
        refine wpAny_bind ?_
        rw [isSame_ref]
        refine wpAny_pure (wpAny_bind (wpAny_pure ?_))
        rw [if_pos rfl]
        dsimp only
        rw [if_neg (by decide)]
        refine ih (K - (q + 1)) _ (by exact om78 hK hq) (by exact om79 hK2) ?_ ?_
        · show t.slot (advN t (K - (q + 1)) (advN t (q + 1) _)).j = _
          rw [← advN_add, show q + 1 + (K - (q + 1)) = K by exact om80 hq]
          exact he
        · show (advN t (q + 1) _).dummy = none
          rw [advN_dummy]; exact hd
      · rw [if_neg hl, hei]
        dsimp only
        rw [hb]
        refine wpAny_bind (wpAny_holding (wpAny_eqBool_tuple hu hb2 hk ?_))
        rw [decide_eq_false hne]
        refine wpAny_bind (wpAny_setState_of ha rfl ts.fits ?_)
        dsimp only
        rw [if_neg (by decide)]
        have hsm : t.sameMemory t.moves t.mask = some true := by unfold SetTable.sameMemory; rw [if_pos (by simp)]
        rw [hsm]
        dsimp only
        rw [if_pos rfl, h1]
        dsimp only
        rw [hei]
        dsimp only
        rw [hb]
        refine wpAny_bind ?_
        rw [isSame_ref]
        refine wpAny_pure (wpAny_bind (wpAny_pure ?_))
        rw [if_pos rfl]
        dsimp only
        rw [if_neg (by decide)]
        refine ih (K - (q + 1)) _ (by exact om78 hK hq) (by exact om79 hK2) ?_ ?_
        · show t.slot (advN t (K - (q + 1)) (advN t (q + 1) _)).j = _
          rw [← advN_add, show q + 1 + (K - (q + 1)) = K by exact om80 hq]
          exact he
        · show (advN t (q + 1) _).dummy = none
          rw [advN_dummy]; exact hd
end
end
section
open SetTable
theorem free_some {mask b : Nat} {owner : Array (Option Nat)} : ∀ (fuel r₀ : Nat), (∃ r, r₀ ≤ r ∧ r < r₀ + fuel ∧ owner.getD (rnd mask b r).1 (some 0) = none) →
    ∃ j, layClean.free mask owner fuel (rnd mask b r₀).1 (rnd mask b r₀).2 = some j ∧ owner.getD j (some 0) = none
  | 0, r₀, ⟨r, h1, h2, _⟩ => by omega
  | fuel + 1, r₀, ⟨r, h1, h2, h3⟩ => by
    unfold layClean.free
    cases hf : (List.range (runEnd mask (rnd mask b r₀).1 + 1 - (rnd mask b r₀).1)).find? (fun k => (owner.getD ((rnd mask b r₀).1 + k) (some 0)).isNone) with
    | some k =>
      refine ⟨_, rfl, ?_⟩
      have := List.find?_some hf
      simpa using this
    | none =>
      dsimp only
      refine free_some fuel (r₀ + 1) ⟨r, ?_, by exact om81 h2, h3⟩
      rcases Nat.lt_or_eq_of_le h1 with h | h
      · exact h
      · subst h
        have := List.find?_eq_none.mp hf 0 (by rw [List.mem_range]; unfold runEnd; split <;> omega)
        rw [Nat.add_zero, h3] at this
        exact absurd rfl this
noncomputable def Own (mask k : Nat) (owner : Array (Option Nat)) : Prop := owner.size = mask + 1 ∧ (owner.toList.filterMap id).Perm (List.range k)
theorem filterMap_set : ∀ (l : List (Option Nat)) (j k : Nat), l[j]? = some none → ((l.set j (some k)).filterMap id).Perm (k :: l.filterMap id)
  | [], j, k, h => by simp at h
  | x :: l, 0, k, h => by
    simp at h; subst h
    simp
  | x :: l, j + 1, k, h => by
    simp at h
    have ih := filterMap_set l j k h
    rw [List.set_cons_succ]
    cases x with
    | none => simpa using ih
    | some y =>
      simp only [List.filterMap_cons, id]
      exact (ih.cons y).trans (.swap k y _)
theorem Own.next {mask k j : Nat} {owner : Array (Option Nat)} (o : Own mask k owner) (h : owner.getD j (some 0) = none) : Own mask (k + 1) (owner.setIfInBounds j (some k)) := by
  have hj : owner.toList[j]? = some none := by
    rw [Array.getElem?_toList]
    by_cases hl : j < owner.size
    · rw [Array.getElem?_eq_getElem hl]
      simp [Array.getD, hl] at h
      rw [h]
    · simp [Array.getD, hl] at h
  refine ⟨by rw [Array.size_setIfInBounds]; exact o.1, ?_⟩
  rw [Array.toList_setIfInBounds]
  refine (filterMap_set _ _ _ hj).trans ?_
  rw [List.range_succ]
  exact (o.2.cons k).trans (List.perm_append_comm (l₁ := [k]) (l₂ := List.range k))
theorem Own.room {mask k : Nat} {owner : Array (Option Nat)} (o : Own mask k owner) (hk : k < mask + 1) : ∃ j, j < mask + 1 ∧ owner.getD j (some 0) = none := by
  by_cases q : ∃ j, j < mask + 1 ∧ owner.getD j (some 0) = none
  · exact q
  · exfalso
    have hall : ∀ x ∈ owner.toList, x ≠ none := fun x hx e => by
      obtain ⟨j, hj, e2⟩ := List.getElem_of_mem hx
      have hj' : j < owner.size := by simpa using hj
      refine q ⟨j, by rw [← o.1]; exact hj', ?_⟩
      simp at e2
      simp [Array.getD, hj', e2, e]
    have : ∀ l : List (Option Nat), (∀ x ∈ l, x ≠ none) → (l.filterMap id).length = l.length := fun l => by
      induction l with
      | nil => simp
      | cons x l ih =>
        intro h
        cases x with
        | none => exact absurd rfl (h _ (.head _))
        | some y => simp [ih fun z hz => h z (.tail _ hz)]
    have h1 := this _ hall
    rw [o.2.length_eq, List.length_range, Array.length_toList, o.1] at h1
    exact om82 hk h1
theorem lay_some (mask : Nat) (hm : mask = 7 ∨ mask = 31) : ∀ (hs : List Int) (owner : Array (Option Nat)) (k : Nat), Own mask k owner → k + hs.length < mask + 1 →
    ∃ owner', hs.foldl (fun (acc : Option (Array (Option Nat) × Nat)) h => do
      let (owner, k) ← acc
      let j ← layClean.free mask owner (turns mask) (bits h % (mask + 1)) (bits h)
      pure (owner.setIfInBounds j (some k), k + 1)) (some (owner, k)) = some (owner', k + hs.length) ∧ Own mask (k + hs.length) owner'
  | [], owner, k, o, h => ⟨owner, rfl, o⟩
  | x :: hs, owner, k, o, h => by
    obtain ⟨j, hj, e⟩ := o.room (by simp at h; exact om83 h)
    obtain ⟨r, hr, er⟩ := rnd_all hm (bits_lt x) hj
    obtain ⟨j', e1, e2⟩ := free_some (mask := mask) (b := bits x) (owner := owner) (turns mask) 0 ⟨r, Nat.zero_le _, by unfold turns; exact om84 hr, by rw [er]; exact e⟩
    have e1' : layClean.free mask owner (turns mask) (bits x % (mask + 1)) (bits x) = some j' := e1
    rw [List.foldl_cons]
    obtain ⟨owner', h1, h2⟩ := lay_some mask hm hs (owner.setIfInBounds j' (some k)) (k + 1) (o.next e2) (by simp at h; exact om85 h)
    refine ⟨owner', ?_, ?_⟩
    · simp only [Option.bind_eq_bind, Option.bind_some, e1', List.length_cons]
      rw [show k + (hs.length + 1) = k + 1 + hs.length by exact om86]
      exact h1
    · rw [List.length_cons, show k + (hs.length + 1) = k + 1 + hs.length by exact om86]; exact h2
theorem laid_some {mask finger moves : Nat} {led plain : Bool} (hm : mask = 7 ∨ mask = 31) {hs : Array Int} (hn : hs.size < mask + 1) :
    ∃ place order, SetTable.laid mask finger moves led plain hs = some ({ mask, place, dummies := #[], finger, led, moves, plain }, order) ∧ place.size = hs.size ∧ order.toList.Perm (List.range hs.size) := by
  have o0 : Own mask 0 (Array.replicate (mask + 1) none) := by
    refine ⟨by simp, ?_⟩
    rw [Array.toList_replicate]
    have : ∀ n, (List.replicate n (none : Option Nat)).filterMap id = [] := fun n => by induction n with
      | zero => rfl
      | succ n ih => simp [List.replicate_succ]
    rw [this]
    exact .refl _
  obtain ⟨owner, h1, h2⟩ := lay_some mask hm hs.toList _ 0 o0 (by simpa using hn)
  rw [Nat.zero_add] at h1 h2
  have hl : SetTable.layClean mask hs = some owner := by
    unfold SetTable.layClean
    rw [← Array.foldl_toList]
    rw [h1]; rfl
  have hmap : (List.range (mask + 1)).map (fun j => owner.getD j none) = owner.toList := by
    refine List.ext_getElem (by simp [h2.1]) fun i a b => ?_
    have hb : i < owner.size := by simpa using b
    simp [Array.getD, hb]
  have hsnd : ((List.range (mask + 1)).filterMap fun j => (owner.getD j none).map (j, ·)).map (·.2) = owner.toList.filterMap id := by
    rw [← hmap, List.filterMap_map, List.map_filterMap]
    congr 1
    funext j
    show Option.map (·.2) (Option.map (j, ·) (owner.getD j none)) = owner.getD j none
    cases owner.getD j none <;> rfl
  have hlen : (((List.range (mask + 1)).filterMap fun j => (owner.getD j none).map (j, ·)).map (·.2)).length = hs.size := by
    rw [hsnd, h2.2.length_eq]; simp
  unfold SetTable.laid
  rw [hl]
  refine ⟨_, _, rfl, ?_, ?_⟩
  · rw [← Array.length_toList, List.toList_toArray, List.length_map, ← hlen, List.length_map]
  · rw [List.toList_toArray, hsnd]
    simpa using h2.2
end
section
open SetTable
theorem insertAt_size {α : Type} (xs : Array α) (p : Nat) (x : α) : (SetTable.insertAt xs p x).size = xs.size + 1 := by
  unfold SetTable.insertAt
  simp
  exact om87
theorem mem_insertAt {α : Type} (xs : Array α) (p : Nat) (x y : α) (h : y ∈ (SetTable.insertAt xs p x).toList) : y ∈ xs.toList ∨ y = x := by
  unfold SetTable.insertAt at h
  simp at h
  rcases h with h | h | h
  · exact .inl (by simpa using List.mem_of_mem_take h)
  · exact .inr h
  · refine .inl ?_
    exact List.mem_of_mem_drop (List.mem_of_mem_take h)
section
variable {w : World} {A : Around} {E : Value → Shared → Prop} {s : Shared}
noncomputable def TupSet (w : World) (h : Heap) (a : Addr) (ks : List (List Lit)) : Prop := ∃ es ep t, h.get? a = some (setObj es ep t) ∧ TS w h es t ks
theorem filt_perm {order : Array Nat} {es : Array (Int × Value)} (h : order.toList.Perm (List.range es.size)) : (order.filterMap (es[·]?)).toList.Perm es.toList := by
  rw [Array.toList_filterMap]
  refine (h.filterMap _).trans ?_
  have : (List.range es.size).filterMap (es[·]?) = es.toList := by
    have e : (List.range es.size).map (es[·]?) = es.toList.map some := by
      refine List.ext_getElem (by simp) fun i a b => ?_
      have hb : i < es.size := by simpa using b
      simp [hb]
    have e2 : (List.range es.size).filterMap (es[·]?) = ((List.range es.size).map (es[·]?)).filterMap id := by rw [List.filterMap_map]; rfl
    rw [e2, e, List.filterMap_map]
    simp
  rw [this]
theorem tup_rest {a : Addr} {es es' : Array (Int × Value)} {ep n : Nat} {t t₂ : SetTable} {ks : List (List Lit)} {Q : Bool → Shared → Prop}
    (ha : s.heap.get? a = some (setObj es ep t)) (hm : t₂.mask = 7 ∨ t₂.mask = 31) (hd : t₂.dummies = #[]) (hp : t₂.place.size = es'.size) (hz : es'.size = ks.length) (hl : ks.length ≤ 12) (h7 : t₂.mask = 7 → ks.length ≤ 5) (hn : n = ks.length)
    (hkey : ∀ h' : Heap, Heap.SameBut a s.heap h' → ∀ e ∈ es'.toList, ∃ b k, e.2 = .ref b ∧ k ∈ ks ∧ LKey w h' k b)
    (hQ : ∀ h', Heap.SameBut a s.heap h' → TupSet w h' a ks → Q true { s with heap := h' }) :
    wpAny (model pw w) A (do
      storeSet a es' t₂
      if (!false && t₂.tooFull) = true then do
        setRelay a (grown n)
        pure true
      else pure true) Q E s := by
  subst hn
  refine wpAny_bind (wpAny_storeSet_of ha rfl ?_ (by rw [hz, sizeLine_eq]; exact om88 hl))
  have hs1 : Heap.SameBut a s.heap (s.heap.update a (Obj.putSet es' t₂)) := Heap.SameBut.update ..
  have hg : (s.heap.update a (Obj.putSet es' t₂)).get? a = some (setObj es' (ep + 1) t₂) := by
    have := Heap.get?_update_self (Obj.putSet es' t₂) ha (by rw [putSet_of _ _ rfl]; rfl)
    rw [putSet_of _ _ rfl] at this; exact this
  have hfill : t₂.fill = ks.length := by unfold SetTable.fill; rw [hd, hp, hz]; rfl
  by_cases h5 : ks.length = 5 ∧ t₂.mask = 7
  · have htf : t₂.tooFull = true := by unfold SetTable.tooFull; rw [hfill, h5.1, h5.2]; decide
    rw [htf]
    rw [if_pos (by decide)]
    refine wpAny_bind ?_
    unfold setRelay
    refine wpAny_bind (wpAny_setState_of (s := { s with heap := s.heap.update a (Obj.putSet es' t₂) }) hg rfl (by unfold SetTable.fits; rw [hfill, hp, h5.1, h5.2]; simp) ?_)
    dsimp only
    have hsz : SetTable.sizeAbove (grown ks.length) = 32 := by rw [h5.1]; decide +kernel
    rw [hsz, if_neg (by rw [sizeLine_eq]; exact om89)]
    obtain ⟨place, order, e1, e2, e3⟩ := laid_some (mask := 31) (finger := t₂.finger) (moves := t₂.movedTo 31) (led := t₂.led) (plain := t₂.plain) (.inr rfl) (hs := es'.map (·.1)) (by rw [Array.size_map, hz, h5.1]; decide)
    have e1' : t₂.relaid (es'.map (·.1)) (grown ks.length) = some ({ mask := 31, place, dummies := #[], finger := t₂.finger, led := t₂.led, moves := t₂.movedTo 31, plain := t₂.plain }, order) := by
      unfold SetTable.relaid
      rw [hsz]
      exact e1
    rw [e1']
    rw [Array.size_map] at e2 e3
    have hperm := filt_perm e3
    have hsz2 : (order.filterMap (es'[·]?)).size = es'.size := by
      have := hperm.length_eq
      rwa [Array.length_toList, Array.length_toList] at this
    refine wpAny_bind ?_
    show wpAny _ _ (if ((order.filterMap (es'[·]?)).size != es'.size) = true then _ else _) _ _ _
    rw [if_neg (by rw [hsz2]; simp)]
    refine wpAny_pure ?_
    dsimp only
    refine wpAny_storeSet_of (s := { s with heap := s.heap.update a (Obj.putSet es' t₂) }) hg rfl ?_ (by rw [hsz2, hz, sizeLine_eq]; exact om88 hl)
    refine wpAny_pure (hQ _ (hs1.trans (Heap.SameBut.update ..)) ⟨order.filterMap (es'[·]?), ep + 1 + 1, { mask := 31, place, dummies := #[], finger := t₂.finger, led := t₂.led, moves := t₂.movedTo 31, plain := t₂.plain }, ?_, ?_⟩)
    · have := Heap.get?_update_self (Obj.putSet (order.filterMap (es'[·]?)) { mask := 31, place, dummies := #[], finger := t₂.finger, led := t₂.led, moves := t₂.movedTo 31, plain := t₂.plain }) hg (by rw [putSet_of _ _ rfl]; rfl)
      rw [putSet_of _ _ rfl] at this; exact this
    · exact { mask := .inr rfl, dum := rfl, size := by rw [hsz2]; exact e2, len := by rw [hsz2, hz], few := hl, few7 := fun e => absurd (show 31 = 7 from e) (by decide), keys := fun e he => hkey _ (hs1.trans (Heap.SameBut.update ..)) e (hperm.mem_iff.mp he) }
  · have htf : t₂.tooFull = false := by
      unfold SetTable.tooFull; rw [hfill]
      rcases hm with e | e
      · have := h7 e
        rw [e]; simp; exact om90 h5 e this
      · rw [e]; simp; exact om91 hl
    rw [htf]
    rw [if_neg (by decide)]
    refine wpAny_pure (hQ _ hs1 ⟨es', ep + 1, t₂, hg, ?_⟩)
    exact { mask := hm, dum := hd, size := hp, len := hz, few := hl, few7 := fun e => by have := h7 e; exact om92 h5 e this, keys := hkey _ hs1 }
theorem tup_add {a x : Addr} {ks : List (List Lit)} {k : List Lit} {h : Int} {Q : Bool → Shared → Prop} (hu : A.units < cLine)
    (hS : TupSet w s.heap a ks) (hk : LKey w s.heap k x) (hn : k ∉ ks) (hl : ks.length < 12)
    (hQ : ∀ h', Heap.SameBut a s.heap h' → TupSet w h' a (ks ++ [k]) → Q true { s with heap := h' }) : wpAny (model pw w) A (setAddHashed a (.ref x) h) Q E s := by
  obtain ⟨es, ep, t, ha, ts⟩ := hS
  unfold setAddHashed setAddHashedIn
  refine wpAny_holding (wpAny_bind (wpAny_setState_of ha rfl ts.fits ?_))
  dsimp only
  rw [show byScan (.ref x) es = false from rfl]
  simp only [Bool.false_eq_true, ↓reduceIte]
  refine wpAny_bind ?_
  unfold setSearch
  obtain ⟨K, hK, he⟩ := empty_at ts.mask ts.dum (by have := ts.size; have := ts.len; have := ts.few7; rcases ts.mask with e | e <;> omega) h
  refine tup_search hu ha ts hk hn (fun j => ?_) 100000 K none (by unfold turns at hK; rcases ts.mask with e | e <;> omega) hK he rfl
  dsimp only
  refine wpAny_bind (wpAny_setState_of ha rfl ts.fits ?_)
  dsimp only
  have hput : (t.put j).1.mask = t.mask ∧ (t.put j).1.dummies = #[] ∧ (t.put j).1.place.size = es.size + 1 := by
    unfold SetTable.put
    refine ⟨rfl, ?_, ?_⟩
    · dsimp only
      rw [ts.dum, if_neg (by simp [SetTable.has])]
    · show (insertAt t.place _ j).size = _
      rw [insertAt_size, ts.size]
  have hlen := ts.len
  have keep : ∀ h' : Heap, Heap.SameBut a s.heap h' → ∀ (b : Addr) (k' : List Lit), LKey w s.heap k' b → LKey w h' k' b := fun h' hs b k' ⟨o, it, n, q1, q2⟩ => by
    have hne : b ≠ a := fun e => by
      rw [e, ha] at q1; cases q1
      exact absurd q2.1 (by simp [setObj])
    exact ⟨o, it, n, (hs.2 b hne).trans q1, q2⟩
  have hrest : ∀ t₂ : SetTable, t₂.mask = t.mask → t₂.dummies = #[] → t₂.place.size = es.size + 1 → wpAny (model pw w) A (do
      storeSet a (insertAt es (t.put j).2 (h, Value.ref x)) t₂
      if (!false && t₂.tooFull) = true then do
        setRelay a (grown (es.size + 1))
        pure true
      else pure true) Q E s := fun t₂ m1 m2 m3 => by
    refine tup_rest (ks := ks ++ [k]) ha (by rw [m1]; exact ts.mask) m2 (by rw [m3, insertAt_size]) (by rw [insertAt_size, hlen]; simp) (by simp; exact om93 hl) (fun e => by have := ts.few7 (m1 ▸ e); simp; exact om94 this) (by rw [hlen]; simp)
      (fun h' hs e he => ?_) hQ
    rcases mem_insertAt _ _ _ _ he with he | rfl
    · obtain ⟨b, k', q1, q2, q3⟩ := ts.keys e he
      exact ⟨b, k', q1, by simp [q2], keep h' hs b k' q3⟩
    · exact ⟨x, k, rfl, by simp, keep h' hs x k hk⟩
  by_cases hpl : (t.put j).1.plain = true
  · rw [if_pos hpl]
    refine wpAny_bind (tup_byValue hk fun b => ?_)
    cases b with
    | true => exact hrest _ hput.1 hput.2.1 hput.2.2
    | false => exact hrest { (t.put j).1 with plain := false } hput.1 hput.2.1 hput.2.2
  · rw [if_neg hpl]
    refine wpAny_bind (wpAny_pure ?_)
    exact hrest _ hput.1 hput.2.1 hput.2.2
end
end
section
section
variable {w : World} {A : Around} {R : Result → Shared → Prop} {I : Addr} {fp wr : List Addr} {G : Array GenState → Array GenState → Prop} {n : Nat} {P : Nat → Value → Prop} {St : Nat → Shared → Prop}
theorem LKey.keep {h h' : Heap} {k : List Lit} {x : Addr} (q : LKey w h k x) (e : ∀ o, h.get? x = some o → h'.get? x = some o) : LKey w h' k x :=
  let ⟨o, it, m, q1, q2⟩ := q; ⟨o, it, m, e o q1, q2⟩
theorem TupSet.keep {h h' : Heap} {a : Addr} {ks : List (List Lit)} (x : TupSet w h a ks) (k : ∀ o, h.get? a = some o → h'.get? a = some o) (hk : ∀ (b : Addr) (k : List Lit), LKey w h k b → LKey w h' k b) : TupSet w h' a ks :=
  let ⟨es, ep, t, ho, ts⟩ := x; ⟨es, ep, t, k _ ho, { mask := ts.mask, dum := ts.dum, size := ts.size, len := ts.len, few := ts.few, few7 := ts.few7, keys := fun e he => let ⟨b, k', a1, a2, a3⟩ := ts.keys e he; ⟨b, k', a1, a2, hk b k' a3⟩ }⟩
theorem tup_update_loop (hu : A.in1.units < cLine) (W : WalksS pw w A.in1 I fp wr G n P St) (S : Addr) (h₀ : Heap) (hSf : S ∉ fp) (hlow : ∀ b, b < S → b ∉ wr) (hwr : ∀ i s, St i s → ∀ b ∈ wr, ∀ o, s.heap.get? b = some o → o.cls ≠ .type "tuple") (ks : List (List Lit)) (hn : ks.length = n) (h12 : ks.length ≤ 12) (hnd : ks.Nodup)
    (hval : ∀ i v, P i v → ∃ k x, ks[i]? = some k ∧ v = .ref x ∧ LKey w h₀ k x ∧ x < S) :
    ∀ (k i : Nat) (s : Shared), n - i = k → i ≤ n → St i s → TupSet w s.heap S (ks.take i) → (∀ b o, b < S → h₀.get? b = some o → s.heap.get? b = some o) →
      (∀ s', Moved (S :: wr) G s s' → TupSet w s'.heap S ks → R (.ok (.ret .none)) s') →
      codeAny (model pw w) A (.builtin "set.update.loop" ⟨[.ref S, .ref I], []⟩) R s := by
  have hSw : S ∉ wr := fun h => hSf (W.sub _ h)
  have step : ∀ (i : Nat) (s s' : Shared) (ks : List (List Lit)), St i s → Moved wr G s s' → TupSet w s.heap S ks → TupSet w s'.heap S ks := fun i s s' ks hst hm x =>
    x.keep (fun o e => hm.heap S _ hSw e) fun b k' ⟨o, it, m, q1, q2⟩ => ⟨o, it, m, hm.heap b o (fun hb => hwr i s hst b hb o q1 q2.1) q1, q2⟩
  have hsub : ∀ b ∈ wr, b ∈ S :: wr := fun b hb => List.mem_cons_of_mem _ hb
  intro k
  induction k with
  | zero =>
    intro i s hk hi hst hS hkp hR
    have hin : i = n := by exact om47 hk hi
    subst hin
    refine codeAny_builtin PyProof.Rows.F.entry_set_update_loop ?_
    rw [Around.under_plainId PyProof.Rows.F.plain_set_update_loop _]
    show wpAny _ A.in1 (pyNext (.ref I) >>= _) _ _ s
    refine wpAny_bind (W.done s _ _ hst fun s' hm => ?_)
    show wpAny _ A.in1 (ret Value.none) _ _ s'
    rw [List.take_of_length_le (by exact om48 hn)] at hS
    exact wpAny_pure (hR s' (hm.mono hsub) (step i s s' _ hst hm hS))
  | succ k ih =>
    intro i s hk hi hst hS hkp hR
    have hlt : i < n := by exact om49 hk
    refine codeAny_builtin PyProof.Rows.F.entry_set_update_loop ?_
    rw [Around.under_plainId PyProof.Rows.F.plain_set_update_loop _]
    show wpAny _ A.in1 (pyNext (.ref I) >>= _) _ _ s
    refine wpAny_bind (W.item i s _ _ hlt hst fun v s' hP hst' hm => ?_)
    obtain ⟨key, x, hx, rfl, hkey, hxS⟩ := hval i v hP
    have hS' := step i s s' _ hst hm hS
    have hkp' : ∀ b o, b < S → h₀.get? b = some o → s'.heap.get? b = some o := fun b o hb e => hm.heap b o (hlow b hb) (hkp b o hb e)
    have hkey' : LKey w s'.heap key x := hkey.keep fun o e => hkp' x o hxS e
    show wpAny _ A.in1 (holding [Value.ref x] (setAdd S (.ref x)) >>= _) _ _ s'
    refine wpAny_bind (wpAny_holding ?_)
    unfold setAdd
    refine wpAny_holding ?_
    refine wpAny_bind (wpAny_pyHash_tuple hu hkey' ?_)
    have e : ks.take (i + 1) = ks.take i ++ [key] := by rw [List.take_succ, hx]; rfl
    have hnot : key ∉ ks.take i := fun hm => by
      have h2 : (ks.take (i + 1)).Nodup := hnd.sublist (List.take_sublist _ _)
      rw [e] at h2
      exact (List.nodup_append.mp h2).2.2 _ hm _ (by simp) rfl
    refine tup_add (s := { s' with toks := s'.toks + (key.length + 1) }) hu hS' hkey' hnot (by rw [List.length_take]; exact om95 hn h12 hk) fun h' hsb hS2 => ?_
    rw [← e] at hS2
    refine wpAny_pure ⟨plainId_quiet PyProof.Rows.F.plain_set_update_loop _, ih (i + 1) _ (by exact om50 hk) hlt (W.frame _ s' _ _ hst' (Nat.le_add_right _ _) fun b hb o e => ?_) hS2 (fun b o hb e => (hsb.2 b (Nat.ne_of_lt hb)).trans (hkp' b o hb e)) fun s'' hm'' hS'' => ?_⟩
    · rw [hsb.2 b (fun h : b = S => hSf (by rw [← h]; exact hb))]; exact e
    · refine hR s'' (Moved.trans W.gtrans ((hm.mono hsub).then_heap (Nat.le_add_right _ _) fun b o hb e => ?_) hm'') hS''
      rw [hsb.2 b (fun h : b = S => hb (by rw [h]; exact List.mem_cons_self))]; exact e
end
section
variable {w : World} {A : Around} {E : Value → Shared → Prop} {s : Shared}
set_option maxHeartbeats 3200000 in
theorem call_set_tups {l : Addr} {items : Array Value} {ks : List (List Lit)} {Q : Value → Shared → Prop} (hu : A.in1.in1.in1.units < cLine)
    (hh : A.handled = none) (hl : s.heap.IsTuple l items) (hks : ks.length = items.size) (hk12 : ks.length ≤ 12) (hnd : ks.Nodup) (hi : ∀ (i : Nat) (v : Value), items[i]? = some v → ∃ k x, ks[i]? = some k ∧ v = .ref x ∧ LKey w s.heap k x)
    (h : ∀ (h' : Heap) (tk : Nat), s.heap.objs.size < h'.objs.size → TupSet w h' s.heap.objs.size ks →
      (∀ b o, b < s.heap.objs.size → s.heap.get? b = some o → h'.get? b = some o) → Q (.ref s.heap.objs.size) { s with heap := h', toks := tk }) :
    wpAny (model pw w) A (call (.type "set") [.ref l]) Q E s := by
  obtain ⟨c, tl, hmro⟩ := PySem.F.called_set.mro
  have hmade := PySem.F.called_set.made
  have hsub := PySem.F.called_set.sub
  refine wpAny_call (codeAny_of_tree ?_)
  show wpAny _ _ (callAny (.type "set") _) _ _ _
  refine wpAny_pure ⟨Code.quiet_builtin _ (by decide +kernel), codeAny_builtin PySem.F.entry_type_call ?_⟩
  rw [Around.under_plain (weight_type_call_type "set" [.ref l] []) rfl]
  have h1 := PySem.F.called_set.notType
  have h2 := PySem.F.called_set.canCreate
  have hct := PySem.F.typeCall_set_1 (.ref l)
  repeat (any_goals (first | assumption | wp_step))
  refine codeAny_mono (code_set_new_x (.ref l) (E := E) (Q₁ := fun obj s₁ => obj = .ref s.heap.objs.size ∧ s₁ = { s with heap := s.heap.push (freshSet w) }) ⟨rfl, rfl⟩) fun r s₁ hr => ?_
  cases r with
  | error e => exact hr
  | ok fl =>
    cases fl with
    | ret obj =>
      obtain ⟨rfl, rfl⟩ := hr
      have hS : (s.heap.push (freshSet w)).get? s.heap.objs.size = some (freshSet w) := Heap.get?_push_size _ rfl
      have hT : Shared.TypeIs { s with heap := s.heap.push (freshSet w) } (.ref s.heap.objs.size) "set" := ⟨_, hS, rfl⟩
      have hli := PySem.F.called_set.init.lookup
      have hbi := PySem.F.called_set.init.bind (.ref s.heap.objs.size)
      repeat (any_goals (first | assumption | wp_step))
      refine codeAny_mono (codeAny_call_builtin (R := wants (fun r s₂ => r = .none ∧ ∃ h' tk, s₂ = { s with heap := h', toks := tk } ∧ s.heap.objs.size < h'.objs.size ∧
          TupSet w h' s.heap.objs.size ks ∧
          (∀ b o, b < s.heap.objs.size → s.heap.get? b = some o → h'.get? b = some o)) E) PySem.F.called_set.init.plain PySem.F.entry_set_init (check_set_init_1 hT ?_)) fun r₂ s₂ hr₂ => ?_
      · obtain ⟨ol, hol, hcl, nl, hdl⟩ := hl
        obtain ⟨ocls, odict, odata, oslots⟩ := ol
        simp only at hcl hdl
        subst hcl; subst hdl
        have hol' : (s.heap.push (freshSet w)).get? l = some { cls := .type "tuple", dict := odict, data := .seq items nl, slots := oslots } := Heap.get?_push_of_some _ hol
        have hsls := PySem.F.sub_tuple_set
        have hslf := PySem.F.sub_tuple_frozenset
        have hne : (Value.type "tuple" == Value.type "dict") = false := by decide
        have hl1 : (s.heap.push (freshSet w)).IsTuple l items := ⟨_, hol', rfl, nl, rfl⟩
        unfold Builtin.«set.__init__» noKeywords Builtin.Frozenset.updateFrom
        generalize hPI : pyIter = PI
        unfold freshSet at *
        wp_walk
        subst hPI
        refine wpAny_pyIter_tuple hl1 ?_
        refine wpAny_bind (wpAny_runValue ?_)
        have hlS : l < s.heap.objs.size := Heap.lt_size hol
        have hh3 : A.in1.in1.in1.handled = none := by simp [hh]
        have hneI : l ≠ (s.heap.push (freshSet w)).objs.size := by
          rw [Heap.size_push]; exact Nat.ne_of_lt (Nat.lt_succ_of_lt hlS)
        have hSf : s.heap.objs.size ∉ [(s.heap.push (freshSet w)).objs.size, l] := by
          rw [Heap.size_push]; simp only [List.mem_cons, List.mem_singleton, List.not_mem_nil, or_false, not_or]
          exact ⟨Nat.ne_of_lt (Nat.lt_succ_self _), Nat.ne_of_gt hlS⟩
        have hval : ∀ (i : Nat) (v : Value), items[i]? = some v → ∃ k x, ks[i]? = some k ∧ v = .ref x ∧ LKey w s.heap k x ∧ x < s.heap.objs.size := fun i v hv => by
          obtain ⟨k, x, e1, e2, e3⟩ := hi i v hv
          obtain ⟨o, _, _, q, _⟩ := id e3
          exact ⟨k, x, e1, e2, e3, Heap.lt_size q⟩
        refine tup_update_loop hu ((Walks.tuple hh3 _ l hneI items).toS) s.heap.objs.size s.heap
          hSf (fun b hb hm => ?_) (fun i s hst b hb o e => ?_) ks hks hk12 hnd hval (items.size - 0) 0 _ (by exact om51) (Nat.zero_le _)
          ?hst ?hS0 ?hkp ?hR
        case hst => exact ⟨⟨_, Heap.get?_push_size _ rfl, rfl, rfl⟩, (hl1.push _)⟩
        case hkp => exact fun b o hb e => Heap.get?_push_of_some _ (Heap.get?_push_of_some _ e)
        · rw [List.mem_singleton.mp hm, Heap.size_push] at hb
          exact absurd hb (Nat.not_lt.mpr (Nat.le_succ _))
        · rw [List.mem_singleton.mp hb] at e
          obtain ⟨o', ho', hc', _⟩ := hst.1
          rw [ho'] at e
          cases e
          rw [hc']
          exact fun q => absurd q (by decide)
        case hS0 => exact ⟨_, _, _, Heap.get?_push_of_some _ hS, { mask := .inl rfl, dum := rfl, size := rfl, len := rfl, few := Nat.zero_le _, few7 := fun _ => Nat.zero_le _, keys := fun e he => (nomatch he) }⟩
        case hR =>
          intro s' hm hS'
          obtain ⟨h', g', d', tk', os'⟩ := s'
          have eg : g' = s.gens := hm.gens
          have ed : d' = s.drawn := hm.drawn
          have eo : os' = s.os := hm.os
          subst eg; subst ed; subst eo
          show wpAny _ _ _ _ _ _
          refine wpAny_pure ?_
          show wpAny _ _ (ret Value.none) _ _ _
          obtain ⟨_, _, _, hb1, _⟩ := id hS'
          refine wpAny_pure ⟨rfl, h', tk', rfl, Heap.lt_size hb1, hS', fun b o hb e => ?_⟩
          have hb1 : b ≠ s.heap.objs.size := Nat.ne_of_lt hb
          have hb2 : b ≠ (s.heap.push (freshSet w)).objs.size := by
            rw [Heap.size_push]; exact Nat.ne_of_lt (Nat.lt_succ_of_lt hb)
          exact hm.heap b o (by simp only [List.mem_cons, List.mem_singleton, List.not_mem_nil, or_false, not_or]; exact ⟨hb1, hb2⟩) (Heap.get?_push_of_some _ (Heap.get?_push_of_some _ e))
      · cases r₂ with
        | error e => exact hr₂
        | ok fl₂ =>
          cases fl₂ with
          | ret r =>
            obtain ⟨rfl, h', tk, rfl, hlt, hS', hk'⟩ := hr₂
            repeat (any_goals (first | assumption | wp_step))
            exact h _ _ hlt hS' hk'
          | _ => exact hr₂.elim
    | _ => exact hr.elim
end
end
section
section
variable {c : Cx} {σ : St} {Q : SV → St → Prop}
noncomputable def IsSetN (n : Nat) (sv : SV) : Prop := ∃ es ep t, sv = .obj (setObj es ep t) ∧ es.size = n ∧ n ≤ 12 ∧ t.fits es.size = true
theorem C_set_tups {ps : List (Int × Int)} (h12 : ps.length ≤ 12) (hnd : ps.Nodup) (q : ∀ sv, IsSetN ps.length sv → Q sv σ) : CallV c (.type "set") [.tup (ps.map tripV)] σ Q := fun g s vs R r => by
  obtain ⟨v, rfl, rv⟩ := rep1 r
  obtain ⟨a, ws, rfl, ht, rs, _⟩ := tup_at R rv
  have hlen : ws.length = ps.length := by simpa using rs.length
  have hu : c.A.in1.in1.in1.units < cLine := by
    have := R.ok.room.un
    have h1 : c.A.in1.in1.in1.units ≤ c.A.units + 3 := by show c.A.units + 1 + 1 + 1 ≤ _; exact om96
    unfold cLine; exact om97 this h1
  have hi : ∀ (i : Nat) (v : Value), ws.toArray[i]? = some v → ∃ k x, (ps.map trip)[i]? = some k ∧ v = .ref x ∧ LKey c.w s.heap k x := fun i v hv => by
    have hv' : ws[i]? = some v := by simpa using hv
    have hil : i < ps.length := by rw [← hlen]; exact (List.getElem?_eq_some_iff.mp hv').1
    obtain ⟨v', h1, h2⟩ := rs.get (i := i) (x := tripV ps[i]) (by simp [hil])
    rw [hv'] at h1; cases h1
    obtain ⟨b, o, us, n, rfl, hb, hc, hd, hr⟩ := h2
    exact ⟨trip ps[i], b, by simp [hil], rfl, o, us.toArray, n, R.gh _ _ hb, hc, hd, by simpa using lits_rep (ks := trip ps[i]) c.w hr⟩
  refine call_set_tups (ks := ps.map trip) hu R.ok.room.hh (let ⟨o, h1, h2, n, h3⟩ := ht; ⟨o, h1, h2, n, h3⟩) (by simp [hlen]) (by simpa using h12) ?_ hi fun h' tk hlt hS hk => ?_
  · refine List.Pairwise.map trip (fun p p' ne e => ne ?_) hnd
    simp only [List.cons.injEq, Sum.inl.injEq, and_true, true_and] at e
    exact Prod.ext e.1 e.2
  · obtain ⟨es, ep, t, ho, ts⟩ := hS
    have R₁ : Rel c g σ { s with heap := h', toks := tk } := R.ext (tk := tk) fun a o e => hk a o (Heap.lt_size e) e
    obtain ⟨g', gx, R', hg⟩ := R₁.frozen (a := s.heap.objs.size) R.lo R.fresh ho
    exact ⟨g', σ, .obj (setObj es ep t), gx, R', ⟨_, rfl, hg⟩, q _ ⟨es, ep, t, rfl, by rw [ts.len]; simp, h12, ts.fits⟩⟩
theorem C_len_set {n : Nat} {sv : SV} (hs : IsSetN n sv) (q : Q (.int n) σ) : CallV c (.builtin "len") [sv] σ Q := fun g s vs R r => by
  obtain ⟨es, ep, t, rfl, hz, hn, hf⟩ := hs
  obtain ⟨v, rfl, a, rfl, ha⟩ := rep1 r
  refine call_len_set (R.gh _ _ ha) ⟨rfl, rfl, rfl⟩ rfl hf (by rw [hz]; exact om98 hn) ?_
  exact done1 (sv := .int _) (R.tok _) ⟨_, by rw [hz]⟩ q
end
end
section
section
variable {c : Cx} {σ : St} {Q : SV → St → Prop}
theorem far_sys {g : PM} {s : Shared} (R : Rel c g σ s) : (s.heap.objs.size == sysModules) = false := by
  have W := R.world
  have hk : ∀ w : World, ((KK w.params).lookup 448).isSome = true := fun w => by kernel_rfl
  obtain ⟨ob, hob⟩ := Option.isSome_iff_exists.mp (hk c.w)
  have h1 : 448 < s.heap.objs.size := Heap.lt_size (W.K 448 ob hob)
  rw [beq_eq_false_iff_ne]
  intro e
  rw [e] at h1
  exact absurd h1 (by decide)
theorem E_dict0t {pos : Pos} (q : ∀ a, c.lo ≤ a → (a == sysModules) = false → Q (.ref a) { σ with heap := (a, .tdict []) :: σ.heap }) : EE c (.Dict [] [] pos) σ Q := fun g s vs R _ => by
  refine wpAny_Dict_empty ?_
  have R₂ : Rel c g σ { s with heap := s.heap.push { cls := .type "dict", data := .dict #[] } } := R.ext (tk := s.toks) fun a o e => Heap.get?_push_of_some _ e
  refine ⟨g, _, .ref s.heap.objs.size, .refl _ _ _, R₂.adopt (a := s.heap.objs.size) (ob := .tdict []) ?_ ?_ ?_ ?_, rfl, q _ R.lo (far_sys R)⟩
  · intro b hb; rw [List.mem_singleton.mp (show b ∈ [s.heap.objs.size] from hb)]; exact R.fresh
  · intro b hb; rw [List.mem_singleton.mp (show b ∈ [s.heap.objs.size] from hb)]; exact R.lo
  · show [s.heap.objs.size].Nodup; simp
  · exact ⟨_, #[], 0, [], Heap.get?_push_size _ rfl, ⟨rfl, rfl, rfl⟩, rfl, rfl, rfl, List.nodup_nil, fun x hx => nomatch hx⟩
theorem E_dict0i {pos : Pos} (q : ∀ a, c.lo ≤ a → Q (.ref a) { σ with heap := (a, .idict []) :: σ.heap }) : EE c (.Dict [] [] pos) σ Q := fun g s vs R _ => by
  refine wpAny_Dict_empty ?_
  have R₂ : Rel c g σ { s with heap := s.heap.push { cls := .type "dict", data := .dict #[] } } := R.ext (tk := s.toks) fun a o e => Heap.get?_push_of_some _ e
  refine ⟨g, _, .ref s.heap.objs.size, .refl _ _ _, R₂.adopt (a := s.heap.objs.size) (ob := .idict []) ?_ ?_ ?_ ?_, rfl, q _ R.lo⟩
  · intro b hb; rw [List.mem_singleton.mp (show b ∈ [s.heap.objs.size] from hb)]; exact R.fresh
  · intro b hb; rw [List.mem_singleton.mp (show b ∈ [s.heap.objs.size] from hb)]; exact R.lo
  · show [s.heap.objs.size].Nodup; simp
  · exact ⟨[], Heap.DictOf.new _, rfl⟩
theorem E_dict2 {k1 k2 : Str} {n1 n2 : Nat} {q1 q2 pos : Pos} {e1 e2 : Expr}
    (h : ∀ D, c.lo ≤ D → EE c e1 { σ with heap := (D, .sdict []) :: σ.heap } fun y1 σ1 => EE c e2 σ1 fun y2 σ2 => ∃ H', HUpd σ2.heap D (.sdict []) (.sdict (putS (putS [] k1 y1) k2 y2)) H' ∧ Q (.ref D) { σ2 with heap := H' }) :
    EE c (.Dict [some (.Constant (.str k1) n1 q1), some (.Constant (.str k2) n2 q2)] [e1, e2] pos) σ Q := fun g s vs R _ => by
  refine wpAny_Dict_walk (knd := strKind pw c.w) rfl rfl nofun (Nat.le_of_ble_eq_true rfl) ?_
  have R₀ : Rel c g σ { s with heap := s.heap.push { cls := .type "dict", data := .dict #[] } } := R.ext (tk := s.toks) fun a o e => Heap.get?_push_of_some _ e
  have R₁ : Rel c g { σ with heap := (s.heap.objs.size, .sdict []) :: σ.heap } { s with heap := s.heap.push { cls := .type "dict", data := .dict #[] } } := by
    refine R₀.adopt (a := s.heap.objs.size) (ob := .sdict []) ?_ ?_ ?_ ?_
    · intro b hb; rw [List.mem_singleton.mp (show b ∈ [s.heap.objs.size] from hb)]; exact R.fresh
    · intro b hb; rw [List.mem_singleton.mp (show b ∈ [s.heap.objs.size] from hb)]; exact R.lo
    · show [s.heap.objs.size].Nodup; simp
    · exact ⟨[], Heap.DictOf.new _, rfl⟩
  refine pairTrees_cons_walk (Constant_str ?_)
  refine wpAny_mono (h _ R.lo g _ [] (R₁.tok _) rfl) (fun v1 s1 ⟨g1, σ1, y1, gx1, R1, r1, h1⟩ => ?_) fun _ _ f => f
  refine pairTrees_cons_walk (Constant_str ?_)
  refine wpAny_mono (h1 g1 _ [] (R1.tok _) rfl) (fun v2 s2 ⟨g2, σ2, y2, gx2, R2, r2, H', u, q⟩ => ?_) fun _ _ f => f
  refine pairTrees_nil_walk ?_
  obtain ⟨vks, hd, rk⟩ := R2.objs _ u.mem
  have : vks = [] := by cases vks with
    | nil => rfl
    | cons x r => exact absurd (show _ :: _ = [] from rk) nofun
  subst this
  refine ⟨[(k1, v1), (k2, v2)], ⟨strKind_is pw c.w k1 _, rfl, strKind_is pw c.w k2 _, rfl, trivial⟩, hd, fun h' hd' hs' => ?_⟩
  have rk2 : RepKs g2 (putS (putS [] k1 y1) k2 y2) (merged [] [(k1, v1), (k2, v2)]) := (RepKs.stored (RepKs.stored (show RepKs g2 [] [] from rfl) (r1.mono gx2.1)) r2)
  exact ⟨g2, _, .ref _, gx1.trans gx2, R2.mutate (h' := h') u rfl (fun b o hb e => (hs'.2 b (fun q => hb (by rw [q]; simp [fpO]))).trans e) ⟨_, hd', rk2⟩, rfl, q⟩
end
end
section
theorem uncons {vs : List Value} {n : Nat} (h : vs.length = n + 1) : ∃ a r, vs = a :: r ∧ r.length = n := by
  cases vs with
  | nil => exact nomatch h
  | cons a r => exact ⟨a, r, rfl, Nat.succ.inj h⟩
theorem bind1 {fd : FuncData} {ps : List Str} {vs : List Value} (h : vs.length = 1) (k : ∀ a0, bindArgs fd ⟨[a0], []⟩ = pure (ps.zip [a0])) : bindArgs fd ⟨vs, []⟩ = pure (ps.zip vs) := by
  obtain ⟨a0, v0, rfl, h0⟩ := uncons h
  obtain rfl := List.length_eq_zero_iff.mp h0
  exact k a0
theorem bind2 {fd : FuncData} {ps : List Str} {vs : List Value} (h : vs.length = 2) (k : ∀ a0 a1, bindArgs fd ⟨[a0, a1], []⟩ = pure (ps.zip [a0, a1])) : bindArgs fd ⟨vs, []⟩ = pure (ps.zip vs) := by
  obtain ⟨a0, v0, rfl, h0⟩ := uncons h
  obtain ⟨a1, v1, rfl, h1⟩ := uncons h0
  obtain rfl := List.length_eq_zero_iff.mp h1
  exact k a0 a1
theorem bind3 {fd : FuncData} {ps : List Str} {vs : List Value} (h : vs.length = 3) (k : ∀ a0 a1 a2, bindArgs fd ⟨[a0, a1, a2], []⟩ = pure (ps.zip [a0, a1, a2])) : bindArgs fd ⟨vs, []⟩ = pure (ps.zip vs) := by
  obtain ⟨a0, v0, rfl, h0⟩ := uncons h
  obtain ⟨a1, v1, rfl, h1⟩ := uncons h0
  obtain ⟨a2, v2, rfl, h2⟩ := uncons h1
  obtain rfl := List.length_eq_zero_iff.mp h2
  exact k a0 a1 a2
theorem bind4 {fd : FuncData} {ps : List Str} {vs : List Value} (h : vs.length = 4) (k : ∀ a0 a1 a2 a3, bindArgs fd ⟨[a0, a1, a2, a3], []⟩ = pure (ps.zip [a0, a1, a2, a3])) : bindArgs fd ⟨vs, []⟩ = pure (ps.zip vs) := by
  obtain ⟨a0, v0, rfl, h0⟩ := uncons h
  obtain ⟨a1, v1, rfl, h1⟩ := uncons h0
  obtain ⟨a2, v2, rfl, h2⟩ := uncons h1
  obtain ⟨a3, v3, rfl, h3⟩ := uncons h2
  obtain rfl := List.length_eq_zero_iff.mp h3
  exact k a0 a1 a2 a3
theorem bind5 {fd : FuncData} {ps : List Str} {vs : List Value} (h : vs.length = 5) (k : ∀ a0 a1 a2 a3 a4, bindArgs fd ⟨[a0, a1, a2, a3, a4], []⟩ = pure (ps.zip [a0, a1, a2, a3, a4])) : bindArgs fd ⟨vs, []⟩ = pure (ps.zip vs) := by
  obtain ⟨a0, v0, rfl, h0⟩ := uncons h
  obtain ⟨a1, v1, rfl, h1⟩ := uncons h0
  obtain ⟨a2, v2, rfl, h2⟩ := uncons h1
  obtain ⟨a3, v3, rfl, h3⟩ := uncons h2
  obtain ⟨a4, v4, rfl, h4⟩ := uncons h3
  obtain rfl := List.length_eq_zero_iff.mp h4
  exact k a0 a1 a2 a3 a4
theorem bind6 {fd : FuncData} {ps : List Str} {vs : List Value} (h : vs.length = 6) (k : ∀ a0 a1 a2 a3 a4 a5, bindArgs fd ⟨[a0, a1, a2, a3, a4, a5], []⟩ = pure (ps.zip [a0, a1, a2, a3, a4, a5])) : bindArgs fd ⟨vs, []⟩ = pure (ps.zip vs) := by
  obtain ⟨a0, v0, rfl, h0⟩ := uncons h
  obtain ⟨a1, v1, rfl, h1⟩ := uncons h0
  obtain ⟨a2, v2, rfl, h2⟩ := uncons h1
  obtain ⟨a3, v3, rfl, h3⟩ := uncons h2
  obtain ⟨a4, v4, rfl, h4⟩ := uncons h3
  obtain ⟨a5, v5, rfl, h5⟩ := uncons h4
  obtain rfl := List.length_eq_zero_iff.mp h5
  exact k a0 a1 a2 a3 a4 a5
theorem bind7 {fd : FuncData} {ps : List Str} {vs : List Value} (h : vs.length = 7) (k : ∀ a0 a1 a2 a3 a4 a5 a6, bindArgs fd ⟨[a0, a1, a2, a3, a4, a5, a6], []⟩ = pure (ps.zip [a0, a1, a2, a3, a4, a5, a6])) : bindArgs fd ⟨vs, []⟩ = pure (ps.zip vs) := by
  obtain ⟨a0, v0, rfl, h0⟩ := uncons h
  obtain ⟨a1, v1, rfl, h1⟩ := uncons h0
  obtain ⟨a2, v2, rfl, h2⟩ := uncons h1
  obtain ⟨a3, v3, rfl, h3⟩ := uncons h2
  obtain ⟨a4, v4, rfl, h4⟩ := uncons h3
  obtain ⟨a5, v5, rfl, h5⟩ := uncons h4
  obtain ⟨a6, v6, rfl, h6⟩ := uncons h5
  obtain rfl := List.length_eq_zero_iff.mp h6
  exact k a0 a1 a2 a3 a4 a5 a6
theorem gi_len (w : World) : GlobIs w "len" (.builtin "len") := .inr ⟨by kernel_rfl, by kernel_rfl, by decide⟩
theorem gi_max (w : World) : GlobIs w "max" (.builtin "max") := .inr ⟨by kernel_rfl, by kernel_rfl, by decide⟩
theorem gi_min (w : World) : GlobIs w "min" (.builtin "min") := .inr ⟨by kernel_rfl, by kernel_rfl, by decide⟩
theorem gi_sorted (w : World) : GlobIs w "sorted" (.builtin "sorted") := .inr ⟨by kernel_rfl, by kernel_rfl, by decide⟩
theorem gi_tuple (w : World) : GlobIs w "tuple" (.type "tuple") := .inr ⟨by kernel_rfl, by kernel_rfl, by decide⟩
theorem gi_range (w : World) : GlobIs w "range" (.type "range") := .inr ⟨by kernel_rfl, by kernel_rfl, by decide⟩
theorem gi_list (w : World) : GlobIs w "list" (.type "list") := .inr ⟨by kernel_rfl, by kernel_rfl, by decide⟩
theorem gi_set (w : World) : GlobIs w "set" (.type "set") := .inr ⟨by kernel_rfl, by kernel_rfl, by decide⟩
theorem gi_put_behind (w : World) : GlobIs w "put_behind" (.ref 28) := .inl (by kernel_rfl)
theorem gi_from_values (w : World) : GlobIs w "from_values" (.ref 35) := .inl (by kernel_rfl)
theorem gi_next_from (w : World) : GlobIs w "next_from" (.ref 56) := .inl (by kernel_rfl)
theorem gi_has_domains (w : World) : GlobIs w "has_domains" (.ref 63) := .inl (by kernel_rfl)
theorem gi_up_to (w : World) : GlobIs w "up_to" (.ref 68) := .inl (by kernel_rfl)
theorem gi_from_on (w : World) : GlobIs w "from_on" (.ref 73) := .inl (by kernel_rfl)
theorem gi_without (w : World) : GlobIs w "without" (.ref 80) := .inl (by kernel_rfl)
theorem gi_meet (w : World) : GlobIs w "meet" (.ref 87) := .inl (by kernel_rfl)
theorem gi_negation (w : World) : GlobIs w "negation" (.ref 94) := .inl (by kernel_rfl)
theorem gi_struck (w : World) : GlobIs w "struck" (.ref 101) := .inl (by kernel_rfl)
theorem gi_Store (w : World) : GlobIs w "Store" (.ref 258) := .inl (by kernel_rfl)
theorem gi_Regular (w : World) : GlobIs w "Regular" (.ref 405) := .inl (by kernel_rfl)
theorem gi__law_number (w : World) : GlobIs w "_law_number" (.ref 414) := .inl (by kernel_rfl)
theorem gi__law_gone (w : World) : GlobIs w "_law_gone" (.ref 421) := .inl (by kernel_rfl)
theorem gi__law_ahead (w : World) : GlobIs w "_law_ahead" (.ref 426) := .inl (by kernel_rfl)
theorem gi__law_behind (w : World) : GlobIs w "_law_behind" (.ref 431) := .inl (by kernel_rfl)
theorem gi__law_words (w : World) : GlobIs w "_law_words" (.ref 436) := .inl (by kernel_rfl)
theorem gi__law_goes_through (w : World) : GlobIs w "_law_goes_through" (.ref 443) := .inl (by kernel_rfl)
noncomputable abbrev fd28 : FuncData := fD (stt 2) "put_behind" (vS "fdsolve.domains" 194) 27 [] .none
set_option maxHeartbeats 4000000 in
theorem ok28 (w : World) : FdOk w 28 fd28 ["found", "low", "high"] ["found", "low", "high"] [("len", .builtin "len")] where
  obj := ⟨.type "function", none, #[], by kernel_rfl⟩
  code := by kernel_rfl
  body := ⟨_, rfl⟩
  bind := fun vs h => bind3 h fun x0 x1 x2 => by kernel_rfl
  clo := by kernel_rfl
  glob := by kernel_rfl
  blt := by kernel_rfl
  kind := by kernel_rfl
  co := by kernel_rfl
  gen := by kernel_rfl
  inter := by kernel_rfl
  names := by kernel_rfl
  pars := ⟨[], rfl⟩
  nd := by decide
  globs := by kernel_rfl
  globIs := by
    intro p hp
    simp only [List.mem_cons, List.not_mem_nil, or_false] at hp
    rcases hp with rfl
    · exact gi_len w
noncomputable abbrev fd35 : FuncData := fD (stt 3) "from_values" (vS "fdsolve.domains" 194) 34 [] .none
set_option maxHeartbeats 4000000 in
theorem ok35 (w : World) : FdOk w 35 fd35 ["numbers"] ["numbers", "found", "v"] [("put_behind", .ref 28), ("sorted", .builtin "sorted"), ("tuple", .type "tuple")] where
  obj := ⟨.type "function", none, #[], by kernel_rfl⟩
  code := by kernel_rfl
  body := ⟨_, rfl⟩
  bind := fun vs h => bind1 h fun x0 => by kernel_rfl
  clo := by kernel_rfl
  glob := by kernel_rfl
  blt := by kernel_rfl
  kind := by kernel_rfl
  co := by kernel_rfl
  gen := by kernel_rfl
  inter := by kernel_rfl
  names := by kernel_rfl
  pars := ⟨["found", "v"], rfl⟩
  nd := by decide
  globs := by kernel_rfl
  globIs := by
    intro p hp
    simp only [List.mem_cons, List.not_mem_nil, or_false] at hp
    rcases hp with rfl | rfl | rfl
    · exact gi_put_behind w
    · exact gi_sorted w
    · exact gi_tuple w
noncomputable abbrev fd56 : FuncData := fD (stt 6) "next_from" (vS "fdsolve.domains" 194) 55 [] .none
set_option maxHeartbeats 4000000 in
theorem ok56 (w : World) : FdOk w 56 fd56 ["d", "v"] ["d", "v", "low", "high"] [("max", .builtin "max")] where
  obj := ⟨.type "function", none, #[], by kernel_rfl⟩
  code := by kernel_rfl
  body := ⟨_, rfl⟩
  bind := fun vs h => bind2 h fun x0 x1 => by kernel_rfl
  clo := by kernel_rfl
  glob := by kernel_rfl
  blt := by kernel_rfl
  kind := by kernel_rfl
  co := by kernel_rfl
  gen := by kernel_rfl
  inter := by kernel_rfl
  names := by kernel_rfl
  pars := ⟨["low", "high"], rfl⟩
  nd := by decide
  globs := by kernel_rfl
  globIs := by
    intro p hp
    simp only [List.mem_cons, List.not_mem_nil, or_false] at hp
    rcases hp with rfl
    · exact gi_max w
noncomputable abbrev fd63 : FuncData := fD (stt 7) "has" (vS "fdsolve.domains" 194) 62 [] .none
set_option maxHeartbeats 4000000 in
theorem ok63 (w : World) : FdOk w 63 fd63 ["d", "v"] ["d", "v"] [("next_from", .ref 56)] where
  obj := ⟨.type "function", none, #[], by kernel_rfl⟩
  code := by kernel_rfl
  body := ⟨_, rfl⟩
  bind := fun vs h => bind2 h fun x0 x1 => by kernel_rfl
  clo := by kernel_rfl
  glob := by kernel_rfl
  blt := by kernel_rfl
  kind := by kernel_rfl
  co := by kernel_rfl
  gen := by kernel_rfl
  inter := by kernel_rfl
  names := by kernel_rfl
  pars := ⟨[], rfl⟩
  nd := by decide
  globs := by kernel_rfl
  globIs := by
    intro p hp
    simp only [List.mem_cons, List.not_mem_nil, or_false] at hp
    rcases hp with rfl
    · exact gi_next_from w
noncomputable abbrev fd68 : FuncData := fD (stt 9) "up_to" (vS "fdsolve.domains" 194) 67 [] .none
set_option maxHeartbeats 4000000 in
theorem ok68 (w : World) : FdOk w 68 fd68 ["d", "k"] ["d", "k"] [("tuple", .type "tuple")] where
  obj := ⟨.type "function", none, #[], by kernel_rfl⟩
  code := by kernel_rfl
  body := ⟨_, rfl⟩
  bind := fun vs h => bind2 h fun x0 x1 => by kernel_rfl
  clo := by kernel_rfl
  glob := by kernel_rfl
  blt := by kernel_rfl
  kind := by kernel_rfl
  co := by kernel_rfl
  gen := by kernel_rfl
  inter := by kernel_rfl
  names := by kernel_rfl
  pars := ⟨[], rfl⟩
  nd := by decide
  globs := by kernel_rfl
  globIs := by
    intro p hp
    simp only [List.mem_cons, List.not_mem_nil, or_false] at hp
    rcases hp with rfl
    · exact gi_tuple w
noncomputable abbrev fd73 : FuncData := fD (stt 10) "from_on" (vS "fdsolve.domains" 194) 72 [] .none
set_option maxHeartbeats 4000000 in
theorem ok73 (w : World) : FdOk w 73 fd73 ["d", "k"] ["d", "k"] [("tuple", .type "tuple")] where
  obj := ⟨.type "function", none, #[], by kernel_rfl⟩
  code := by kernel_rfl
  body := ⟨_, rfl⟩
  bind := fun vs h => bind2 h fun x0 x1 => by kernel_rfl
  clo := by kernel_rfl
  glob := by kernel_rfl
  blt := by kernel_rfl
  kind := by kernel_rfl
  co := by kernel_rfl
  gen := by kernel_rfl
  inter := by kernel_rfl
  names := by kernel_rfl
  pars := ⟨[], rfl⟩
  nd := by decide
  globs := by kernel_rfl
  globIs := by
    intro p hp
    simp only [List.mem_cons, List.not_mem_nil, or_false] at hp
    rcases hp with rfl
    · exact gi_tuple w
noncomputable abbrev fd80 : FuncData := fD (stt 11) "without" (vS "fdsolve.domains" 194) 79 [] .none
set_option maxHeartbeats 4000000 in
theorem ok80 (w : World) : FdOk w 80 fd80 ["d", "v"] ["d", "v"] [("up_to", .ref 68), ("from_on", .ref 73)] where
  obj := ⟨.type "function", none, #[], by kernel_rfl⟩
  code := by kernel_rfl
  body := ⟨_, rfl⟩
  bind := fun vs h => bind2 h fun x0 x1 => by kernel_rfl
  clo := by kernel_rfl
  glob := by kernel_rfl
  blt := by kernel_rfl
  kind := by kernel_rfl
  co := by kernel_rfl
  gen := by kernel_rfl
  inter := by kernel_rfl
  names := by kernel_rfl
  pars := ⟨[], rfl⟩
  nd := by decide
  globs := by kernel_rfl
  globIs := by
    intro p hp
    simp only [List.mem_cons, List.not_mem_nil, or_false] at hp
    rcases hp with rfl | rfl
    · exact gi_up_to w
    · exact gi_from_on w
noncomputable abbrev fd101 : FuncData := fD (stt 14) "struck" (vS "fdsolve.domains" 194) 100 [] .none
set_option maxHeartbeats 4000000 in
theorem ok101 (w : World) : FdOk w 101 fd101 ["literal", "d"] ["literal", "d", "sign", "k"] [("up_to", .ref 68), ("from_on", .ref 73), ("meet", .ref 87), ("without", .ref 80)] where
  obj := ⟨.type "function", none, #[], by kernel_rfl⟩
  code := by kernel_rfl
  body := ⟨_, rfl⟩
  bind := fun vs h => bind2 h fun x0 x1 => by kernel_rfl
  clo := by kernel_rfl
  glob := by kernel_rfl
  blt := by kernel_rfl
  kind := by kernel_rfl
  co := by kernel_rfl
  gen := by kernel_rfl
  inter := by kernel_rfl
  names := by kernel_rfl
  pars := ⟨["sign", "k"], rfl⟩
  nd := by decide
  globs := by kernel_rfl
  globIs := by
    intro p hp
    simp only [List.mem_cons, List.not_mem_nil, or_false] at hp
    rcases hp with rfl | rfl | rfl | rfl
    · exact gi_up_to w
    · exact gi_from_on w
    · exact gi_meet w
    · exact gi_without w
noncomputable abbrev fd414 : FuncData := fD (stt 22) "_law_number" (vS "law_pc0050_01" 717) 413 [] .none
set_option maxHeartbeats 4000000 in
theorem ok414 (w : World) : FdOk w 414 fd414 ["quiver", "limit"] ["quiver", "limit", "taken", "number"] [("len", .builtin "len")] where
  obj := ⟨.type "function", none, #[], by kernel_rfl⟩
  code := by kernel_rfl
  body := ⟨_, rfl⟩
  bind := fun vs h => bind2 h fun x0 x1 => by kernel_rfl
  clo := by kernel_rfl
  glob := by kernel_rfl
  blt := by kernel_rfl
  kind := by kernel_rfl
  co := by kernel_rfl
  gen := by kernel_rfl
  inter := by kernel_rfl
  names := by kernel_rfl
  pars := ⟨["taken", "number"], rfl⟩
  nd := by decide
  globs := by kernel_rfl
  globIs := by
    intro p hp
    simp only [List.mem_cons, List.not_mem_nil, or_false] at hp
    rcases hp with rfl
    · exact gi_len w
noncomputable abbrev fd421 : FuncData := fD (stt 23) "_law_gone" (vS "law_pc0050_01" 717) 420 [] .none
set_option maxHeartbeats 4000000 in
theorem ok421 (w : World) : FdOk w 421 fd421 ["moves", "state", "letter"] ["moves", "state", "letter"] [] where
  obj := ⟨.type "function", none, #[], by kernel_rfl⟩
  code := by kernel_rfl
  body := ⟨_, rfl⟩
  bind := fun vs h => bind3 h fun x0 x1 x2 => by kernel_rfl
  clo := by kernel_rfl
  glob := by kernel_rfl
  blt := by kernel_rfl
  kind := by kernel_rfl
  co := by kernel_rfl
  gen := by kernel_rfl
  inter := by kernel_rfl
  names := by kernel_rfl
  pars := ⟨[], rfl⟩
  nd := by decide
  globs := by kernel_rfl
  globIs := by
    intro p hp
    cases hp
noncomputable abbrev fd426 : FuncData := fD (stt 24) "_law_ahead" (vS "law_pc0050_01" 717) 425 [] .none
set_option maxHeartbeats 4000000 in
theorem ok426 (w : World) : FdOk w 426 fd426 ["moves", "start", "kept"] ["moves", "start", "kept", "layers", "lot"] [("sorted", .builtin "sorted"), ("set", .type "set")] where
  obj := ⟨.type "function", none, #[], by kernel_rfl⟩
  code := by kernel_rfl
  body := ⟨_, rfl⟩
  bind := fun vs h => bind3 h fun x0 x1 x2 => by kernel_rfl
  clo := by kernel_rfl
  glob := by kernel_rfl
  blt := by kernel_rfl
  kind := by kernel_rfl
  co := by kernel_rfl
  gen := by kernel_rfl
  inter := by kernel_rfl
  names := by kernel_rfl
  pars := ⟨["layers", "lot"], rfl⟩
  nd := by decide
  globs := by kernel_rfl
  globIs := by
    intro p hp
    simp only [List.mem_cons, List.not_mem_nil, or_false] at hp
    rcases hp with rfl | rfl
    · exact gi_sorted w
    · exact gi_set w
noncomputable abbrev fd431 : FuncData := fD (stt 25) "_law_behind" (vS "law_pc0050_01" 717) 430 [] .none
set_option maxHeartbeats 4000000 in
theorem ok431 (w : World) : FdOk w 431 fd431 ["moves", "ends", "kept"] ["moves", "ends", "kept", "layers", "lot"] [("sorted", .builtin "sorted"), ("range", .type "range"), ("len", .builtin "len")] where
  obj := ⟨.type "function", none, #[], by kernel_rfl⟩
  code := by kernel_rfl
  body := ⟨_, rfl⟩
  bind := fun vs h => bind3 h fun x0 x1 x2 => by kernel_rfl
  clo := by kernel_rfl
  glob := by kernel_rfl
  blt := by kernel_rfl
  kind := by kernel_rfl
  co := by kernel_rfl
  gen := by kernel_rfl
  inter := by kernel_rfl
  names := by kernel_rfl
  pars := ⟨["layers", "lot"], rfl⟩
  nd := by decide
  globs := by kernel_rfl
  globIs := by
    intro p hp
    simp only [List.mem_cons, List.not_mem_nil, or_false] at hp
    rcases hp with rfl | rfl | rfl
    · exact gi_sorted w
    · exact gi_range w
    · exact gi_len w
noncomputable abbrev fd436 : FuncData := fD (stt 26) "_law_words" (vS "law_pc0050_01" 717) 435 [] .none
set_option maxHeartbeats 4000000 in
theorem ok436 (w : World) : FdOk w 436 fd436 ["lots"] ["lots", "rows", "lot"] [] where
  obj := ⟨.type "function", none, #[], by kernel_rfl⟩
  code := by kernel_rfl
  body := ⟨_, rfl⟩
  bind := fun vs h => bind1 h fun x0 => by kernel_rfl
  clo := by kernel_rfl
  glob := by kernel_rfl
  blt := by kernel_rfl
  kind := by kernel_rfl
  co := by kernel_rfl
  gen := by kernel_rfl
  inter := by kernel_rfl
  names := by kernel_rfl
  pars := ⟨["rows", "lot"], rfl⟩
  nd := by decide
  globs := by kernel_rfl
  globIs := by
    intro p hp
    cases hp
noncomputable abbrev fd443 : FuncData := fD (stt 27) "_law_goes_through" (vS "law_pc0050_01" 717) 442 [] .none
set_option maxHeartbeats 4000000 in
theorem ok443 (w : World) : FdOk w 443 fd443 ["moves", "start", "ends", "word"] ["moves", "start", "ends", "word", "state", "letter"] [("_law_gone", .ref 421)] where
  obj := ⟨.type "function", none, #[], by kernel_rfl⟩
  code := by kernel_rfl
  body := ⟨_, rfl⟩
  bind := fun vs h => bind4 h fun x0 x1 x2 x3 => by kernel_rfl
  clo := by kernel_rfl
  glob := by kernel_rfl
  blt := by kernel_rfl
  kind := by kernel_rfl
  co := by kernel_rfl
  gen := by kernel_rfl
  inter := by kernel_rfl
  names := by kernel_rfl
  pars := ⟨["state", "letter"], rfl⟩
  nd := by decide
  globs := by kernel_rfl
  globIs := by
    intro p hp
    simp only [List.mem_cons, List.not_mem_nil, or_false] at hp
    rcases hp with rfl
    · exact gi__law_gone w
noncomputable def nth {α : Type} (l : List α) : Nat → Option α := @List.rec α (fun _ => Nat → Option α) (fun _ => none) (fun a _ ih i => @Nat.rec (fun _ => Option α) (some a) (fun j _ => ih j) i) l
theorem get_at {x : Str} {v : SV} : ∀ {ns : List Str} {vs : List SV} (i : Nat), nth ns i = some x → nth vs i = some v → (x, v) ∈ ns.zip vs
  | [], _, _, h, _ => nomatch h
  | _ :: _, [], _, _, h => nomatch h
  | y :: ns, u :: vs, 0, h1, h2 => by
    have e1 : y = x := Option.some.inj h1
    have e2 : u = v := Option.some.inj h2
    subst e1; subst e2; exact List.mem_cons_self
  | y :: ns, u :: vs, i + 1, h1, h2 => List.mem_cons_of_mem _ (get_at (ns := ns) (vs := vs) i h1 h2)
end
section
theorem EvS.abs {c : Cx} {t : Sem Flow} {σ : St} {F : Fl → St → Prop} (P : (Fl → St → Prop) → Prop) (hP : P F) (h : ∀ F0, P F0 → EvS c t σ F0) : EvS c t σ F := h F hP
theorem EvV.abs {c : Cx} {xs : List SV} {t : List Value → Sem Value} {σ : St} {Q : SV → St → Prop} (P : (SV → St → Prop) → Prop) (hP : P Q) (h : ∀ Q0, P Q0 → EvV c xs t σ Q0) : EvV c xs t σ Q := h Q hP
theorem EvB.abs {c : Cx} {xs : List SV} {t : List Value → Sem Bool} {σ : St} {Q : Bool → St → Prop} (P : (Bool → St → Prop) → Prop) (hP : P Q) (h : ∀ Q0, P Q0 → EvB c xs t σ Q0) : EvB c xs t σ Q := h Q hP
noncomputable abbrev ivl (p : Int × Int) : SV := .tup [.int p.1, .int p.2]
noncomputable def putBehind (l : List (Int × Int)) (lo hi : Int) : List (Int × Int) := match l.getLast? with
  | some p => if lo ≤ p.2 + 1 then (if hi > p.2 then l.dropLast ++ [(p.1, hi)] else l) else l ++ [(lo, hi)]
  | none => l ++ [(lo, hi)]
theorem sp28 (w : World) (lv : Nat) (a : Addr) (l : List (Int × Int)) (lo hi : Int) (hn : l.length < 1000) : Spec w (lv + 1) (.ref 28) [.ref a, .int lo, .int hi] [(a, .list (l.map ivl))] fun v H => v = .none ∧ H = [(a, .list ((putBehind l lo hi).map ivl))] := by
  refine spec_of (ok28 w) rfl rfl fun A s hb => ?_
  refine S_cons (S_if (T_and (T_and_cons (T_cmp (E_callB (by repeat (first | exact List.mem_cons_self | apply List.mem_cons_of_mem)) ?_)))))
  refine A_cons ?_; refine E_name (get_at 0 rfl rfl) nofun ?_
  refine A_nil ?_
  refine C_len_own (.inl List.mem_cons_self) (by simp; exact om99 hn) ?_
  refine E_int ?_; refine O_gti ?_
  refine ⟨_, rfl, ?_⟩
  have other : ∀ {G : Fl → St → Prop}, (∀ σ, σ.heap = [(a, .list ((l ++ [(lo, hi)]).map ivl))] → G .next σ) → SB (frameCx fd28 28 ["found", "low", "high"] [("len", .builtin "len")] w A s hb [(a, .list (l.map ivl))] lv)
      (match fd28.body with | .stmts b => inside b | _ => []) ⟨vals₀ [SV.ref a, SV.int lo, SV.int hi] ["found", "low", "high"], [(a, .list (l.map ivl))]⟩ G := fun k => by
    refine S_cons (S_expr (E_app ?_))
    refine E_name (get_at 0 rfl rfl) nofun ?_
    refine ⟨_, _, rfl, List.mem_cons_self, ?_⟩
    refine E_tuple ?_; refine A_cons ?_; refine E_name (get_at 1 rfl rfl) nofun ?_; refine A_cons ?_; refine E_name (get_at 2 rfl rfl) nofun ?_; refine A_nil ?_
    refine ⟨Nat.le_of_ble_eq_true rfl, _, _, .here, by simp [sizeLine_eq]; exact om100 hn, ?_⟩
    exact S_nil (k _ (by simp))
  refine ⟨fun h => ?_, fun h => ?_⟩
  · obtain ⟨ini, p, rfl⟩ : ∃ ini p, l = ini ++ [p] := by
      rcases List.eq_nil_or_concat l with e | ⟨ini, p, e⟩
      · subst e; simp at h
      · exact ⟨ini, p, by simpa using e⟩
    have hm : (ini ++ [p]).map ivl = ini.map ivl ++ [ivl p] := by simp
    have hn' : (ini.map ivl).length < 2 ^ 60 := by simp at hn ⊢; exact om101 hn
    have hl : (ini ++ [p]).getLast? = some p := by simp
    rw [hm] at other ⊢
    refine T_and_cons ?_; refine T_cmp ?_; refine E_name (get_at 1 rfl rfl) nofun ?_; refine E_bin ?_; refine E_sub ?_; refine E_sub ?_; refine E_name (get_at 0 rfl rfl) nofun ?_; refine E_una ?_; refine E_int ?_; refine O_negi ?_
    refine O_last (.inl List.mem_cons_self) hn' ?_
    refine E_int ?_; refine O_t1 ?_ (Nat.le_of_ble_eq_true rfl); refine E_int ?_; refine O_add ?_; refine O_lei ?_; refine ⟨_, rfl, ?_⟩
    refine ⟨fun h2 => ?_, fun h2 => ?_⟩
    · refine T_and_nil ?_
      refine ⟨fun _ => ?_, fun h => (nomatch h)⟩
      have h2' : lo ≤ p.2 + 1 := by simpa using h2
      refine S_cons ?_; refine S_if ?_; refine T_cmp ?_; refine E_name (get_at 2 rfl rfl) nofun ?_; refine E_sub ?_; refine E_sub ?_; refine E_name (get_at 0 rfl rfl) nofun ?_; refine E_una ?_; refine E_int ?_; refine O_negi ?_
      refine O_last (.inl List.mem_cons_self) hn' ?_
      refine E_int ?_; refine O_t1 ?_ (Nat.le_of_ble_eq_true rfl); refine O_gti ?_; refine ⟨_, rfl, ?_⟩
      refine ⟨fun h3 => ?_, fun h3 => ?_⟩
      · have h3' : hi > p.2 := by simpa using h3
        refine S_cons ?_; refine S_asub ?_; refine E_tuple ?_; refine A_cons ?_; refine E_sub ?_; refine E_sub ?_; refine E_name (get_at 0 rfl rfl) nofun ?_; refine E_una ?_; refine E_int ?_; refine O_negi ?_
        refine O_last (.inl List.mem_cons_self) hn' ?_
        refine E_int ?_; refine O_t0 ?_ (Nat.le_of_ble_eq_true rfl); refine A_cons ?_; refine E_name (get_at 2 rfl rfl) nofun ?_; refine A_nil ?_
        refine ⟨Nat.le_of_ble_eq_true rfl, ?_⟩
        refine E_name (get_at 0 rfl rfl) nofun ?_; refine E_una ?_; refine E_int ?_; refine O_negi ?_
        refine SI_list (.here) (j := (ini.map ivl).length) (.inr ⟨by exact om36, by simp; exact om37, by simp; exact om38⟩) (by simp at hn ⊢; exact om102 hn) ?_
        refine S_nil ?_; refine S_nil ?_; refine S_nil ?_
        refine .inr ⟨rfl, rfl, ?_⟩
        unfold putBehind
        rw [hl]
        simp [h2', h3']
      · have h3' : ¬ hi > p.2 := by simpa using h3
        refine S_nil ?_; refine S_nil ?_; refine S_nil ?_
        refine .inr ⟨rfl, rfl, ?_⟩
        unfold putBehind
        rw [hl]
        simp [h2', h3']
    · have h2' : ¬ lo ≤ p.2 + 1 := by simpa using h2
      refine ⟨fun h => (nomatch h), fun _ => ?_⟩
      refine other fun σ hσ => ?_
      refine S_nil ?_
      refine .inr ⟨rfl, rfl, ?_⟩
      rw [hσ]
      unfold putBehind
      rw [hl]
      simp [h2']
  · have hl : l = [] := by
      cases l with
      | nil => rfl
      | cons x r => simp at h
    subst hl
    refine ⟨fun h => (nomatch h), fun _ => ?_⟩
    refine other fun σ hσ => ?_
    refine S_nil ?_
    exact .inr ⟨rfl, rfl, hσ⟩
end
section
theorem split_map {α : Type} {f : α → SV} {ns : List α} {pre post : List SV} {x : SV} (h : ns.map f = pre ++ x :: post) : ∃ ps v qs, ns = ps ++ v :: qs ∧ pre = ps.map f ∧ x = f v := by
  obtain ⟨l1, l2, h1, h2, h3⟩ := List.map_eq_append_iff.mp h
  obtain ⟨v, qs, h4, h5, h6⟩ := List.map_eq_cons_iff.mp h3
  exact ⟨l1, v, qs, by rw [h1, h4], h2.symm, h5.symm⟩
theorem mapi : ∀ {l l' : List Int}, l.map SV.int = l'.map SV.int → l = l'
  | [], [], _ => rfl
  | [], _ :: _, h => nomatch h
  | _ :: _, [], h => nomatch h
  | a :: l, b :: l', h => by simp only [List.map_cons, List.cons.injEq, SV.int.injEq] at h; rw [h.1, mapi h.2]
theorem mapiv : ∀ {l l' : List (Int × Int)}, l.map ivl = l'.map ivl → l = l'
  | [], [], _ => rfl
  | [], _ :: _, h => nomatch h
  | _ :: _, [], h => nomatch h
  | (a, b) :: l, (a', b') :: l', h => by simp only [List.map_cons, List.cons.injEq, SV.tup.injEq, SV.int.injEq, and_true] at h; obtain ⟨⟨h1, h2⟩, h3⟩ := h; rw [h1, h2, mapiv h3]
theorem Rel.sub {c : Cx} {g : PM} {σ : St} {s : Shared} {G R : AHeap} (Rl : Rel c g σ s) (p : σ.heap.Perm (G ++ R)) : Rel c g { σ with heap := G } s := by
  have inn : ∀ a ∈ fpH G, a ∈ fpH σ.heap := fun a h => (mem_fpH_perm p).mpr (by rw [fpH_append]; exact List.mem_append_left _ h)
  have nd : (fpH G ++ fpH R).Nodup := by rw [← fpH_append]; exact (fpH_perm p).nodup_iff.mp Rl.nodup
  exact { ok := Rl.ok, sh := Rl.sh, pr := Rl.pr, gh := Rl.gh, gL := Rl.gL, gC := Rl.gC, fr := Rl.fr, nodup := (List.nodup_append.mp nd).1, fpG := fun a h => Rl.fpG a (inn a h), fpP := fun a h => Rl.fpP a (inn a h), fpL := fun a h => Rl.fpL a (inn a h)
          fpLo := fun a h => Rl.fpLo a (inn a h), fpC := fun a h => Rl.fpC a (inn a h), objs := fun e he => Rl.objs e (p.mem_iff.mpr (List.mem_append_left _ he)) }
theorem EvS.sub {c : Cx} {σ : St} {t : Sem Flow} {F : Fl → St → Prop} (h : EvS c t σ fun fl σ' => ∃ G R, σ'.heap.Perm (G ++ R) ∧ F fl { σ' with heap := G }) : EvS c t σ F := fun g s R =>
  wpAny_mono (h g s R) (fun v s' ⟨g', σ', fl, a, b, d, G, R', p, e⟩ => ⟨g', _, fl, a, b.sub p, d, e⟩) fun _ _ f => f
theorem EvV.sub {c : Cx} {σ : St} {xs : List SV} {t : List Value → Sem Value} {Q : SV → St → Prop} (h : EvV c xs t σ fun v σ' => ∃ G R, σ'.heap.Perm (G ++ R) ∧ Q v { σ' with heap := G }) : EvV c xs t σ Q := fun g s vs R r =>
  wpAny_mono (h g s vs R r) (fun v s' ⟨g', σ', sv, a, b, d, G, R', p, e⟩ => ⟨g', _, sv, a, b.sub p, d, e⟩) fun _ _ f => f
theorem sorted_unique : ∀ {l l' : List Int}, l.Perm l' → l.Pairwise (· ≤ ·) → l'.Pairwise (· ≤ ·) → l = l'
  | [], l', p, _, _ => p.nil_eq
  | a :: l, l', p, h, h' => by
    cases l' with
    | nil => exact absurd p.symm.nil_eq nofun
    | cons b l' =>
      have e : a = b := by
        have ha := p.mem_iff.mp (List.mem_cons_self (a := a) (l := l))
        have hb := p.mem_iff.mpr (List.mem_cons_self (a := b) (l := l'))
        have h1 := (List.pairwise_cons.mp h).1
        have h2 := (List.pairwise_cons.mp h').1
        rcases List.mem_cons.mp ha with e | ha
        · exact e
        · rcases List.mem_cons.mp hb with e | hb
          · exact e.symm
          · exact Int.le_antisymm (h1 b hb) (h2 a ha)
      subst e
      rw [sorted_unique ((List.perm_cons a).mp p) (List.pairwise_cons.mp h).2 (List.pairwise_cons.mp h').2]
theorem EvU.weak1 {c : Cx} {xs : List SV} {t : List Value → Sem Unit} {σ : St} {Q Q' : St → Prop} (k : ∀ σ', Q σ' → Q' σ') (h : EvU c xs t σ Q) : EvU c xs t σ Q' := fun g s vs R r =>
  wpAny_mono (h g s vs R r) (fun v s' ⟨g', σ', a, b, e⟩ => ⟨g', σ', a, b, k _ e⟩) fun _ _ f => f
theorem run_map {c : Cx} {elt target iter : Expr} {ifs : List Expr} {scope : Scope} {pos : Pos} {tn fn : List Str} {gl : List (Str × Value)} {fv : List SV} {H : AHeap} {Q : List SV → AHeap → Prop} {α : Type} {f : α → SV} {l : List α} (g : List α → List SV)
    (h0 : g [] = []) (hsz : ∀ ls qs, l = ls ++ qs → (g ls).length ≤ sizeLine)
    (step : ∀ C P ls x qs, l = ls ++ x :: qs → AT (compCx c scope tn fn gl C P) target (f x) ⟨List.replicate tn.length .junk ++ fv, H⟩ fun σ₃ => TT (compCx c scope tn fn gl C P) ifs σ₃ fun b σ₄ =>
      (b = true → EE (compCx c scope tn fn gl C P) elt σ₄ fun y σ₅ => Back tn fv σ₅ ∧ g (ls ++ [x]) = g ls ++ [y] ∧ σ₅.heap = H) ∧ (b = false → Back tn fv σ₄ ∧ g (ls ++ [x]) = g ls ∧ σ₄.heap = H))
    (fin : Q (g l) H) : CompRun c elt target iter ifs [] scope pos tn fn gl fv H (l.map f) Q := by
  refine run_one (fun pre acc H' => ∃ ls qs, l = ls ++ qs ∧ ls.length = pre.length ∧ acc = g ls ∧ H' = H) ⟨[], l, rfl, rfl, h0.symm, rfl⟩ ?_ ?_ ?_
  · rintro pre acc H' ⟨ls, qs, e, _, rfl, _⟩
    exact hsz ls qs e
  · rintro C P pre y post acc H' hx ⟨ls', qs', e', hl', rfl, rfl⟩
    obtain ⟨ls, x, qs, e, h1, rfl⟩ := split_map hx
    have hh : ls' = ls := by
      have := e'.symm.trans e
      have h2 : ls'.length = ls.length := by rw [hl', h1, List.length_map]
      exact (List.append_inj this h2).1
    subst hh
    have e2 : l = ls' ++ [x] ++ qs := by rw [e]; simp
    have hl2 : (ls' ++ [x]).length = (pre ++ [f x]).length := by simp [hl']
    refine EvU.weak1 (fun σ₃ h => EvB.mono h fun b σ₄ h => ⟨fun hb => EvV.mono (h.1 hb) fun y σ₅ ⟨a1, a2, a3⟩ => ⟨a1, ls' ++ [x], qs, e2, hl2, a2.symm, a3⟩, fun hb => ?_⟩) (step C P ls' x qs e)
    obtain ⟨a1, a2, a3⟩ := h.2 hb
    exact ⟨a1, ls' ++ [x], qs, e2, hl2, a2.symm, a3⟩
  · rintro acc H' ⟨ls, qs, e, hl, rfl, rfl⟩
    have : ls.length = l.length := by rw [hl, List.length_map]
    have hq : qs = [] := by
      have h3 := congrArg List.length e
      rw [List.length_append] at h3
      exact List.length_eq_zero_iff.mp (by exact om103 this h3)
    subst hq
    rw [List.append_nil] at e
    subst e
    exact fin
theorem S_for_map {c : Cx} {σ : St} {target iter : Expr} {body : List Stmt} {pos : Pos} {F : Fl → St → Prop} {α U : Type} {f : α → SV} {l : List α} (S : List α → U → St)
    (h : EE c iter σ fun sv σ₁ => Iters target sv (l.map f) ∧ (∃ u, σ₁ = S [] u) ∧
      (∀ P ls x qs u F0, l = ls ++ x :: qs → (∀ u', F0 .next (S (ls ++ [x]) u')) → AT (c.pin P) target (f x) (S ls u) fun σ₃ => SB (c.pin P) body σ₃ F0) ∧ ∀ u, F .next (S l u))
    (hs : ∀ x, foldedSetIterable iter c.env x = pure x := by intro _; rfl) : SS c (.For target iter body [] pos) σ F :=
  S_for (EvV.mono h fun sv σ₁ ⟨its, h0, step, fin⟩ => ⟨_, its, fun pre σ => ∃ ls qs u, l = ls ++ qs ∧ ls.length = pre.length ∧ σ = S ls u, (by obtain ⟨u, e⟩ := h0; exact ⟨[], l, u, rfl, rfl, e⟩),
    (by
      rintro P pre y post σ₂ hx ⟨ls', qs', u, e', hl', rfl⟩
      obtain ⟨ls, x, qs, e, h1, rfl⟩ := split_map hx
      have hh : ls' = ls := by
        have := e'.symm.trans e
        have h2 : ls'.length = ls.length := by rw [hl', h1, List.length_map]
        exact (List.append_inj this h2).1
      subst hh
      have e2 : l = ls' ++ [x] ++ qs := by rw [e]; simp
      have hl2 : (ls' ++ [x]).length = (pre ++ [f x]).length := by simp [hl']
      exact step P ls' x qs u _ e fun u' => ⟨ls' ++ [x], qs, u', e2, hl2, rfl⟩),
    (by
      rintro σ₂ ⟨ls, qs, u, e, hl, rfl⟩
      have : ls.length = l.length := by rw [hl, List.length_map]
      have hq : qs = [] := by
        have h3 := congrArg List.length e
        rw [List.length_append] at h3
        exact List.length_eq_zero_iff.mp (by exact om103 this h3)
      subst hq
      rw [List.append_nil] at e
      subst e
      exact fin u)⟩) hs
noncomputable def fromVals (ns : List Int) : List (Int × Int) := ns.foldl (fun l v => putBehind l v v) []
theorem putBehind_len {l : List (Int × Int)} {a b : Int} : (putBehind l a b).length ≤ l.length + 1 := by
  unfold putBehind
  split
  · rename_i p h
    split
    · split
      · simp
      · exact om104
    · simp
  · simp
theorem fromVals_len {ns : List Int} : (fromVals ns).length ≤ ns.length := by
  have : ∀ (ns : List Int) (l : List (Int × Int)), (ns.foldl (fun l v => putBehind l v v) l).length ≤ l.length + ns.length := by
    intro ns
    induction ns with
    | nil => intro l; simp
    | cons n ns ih => intro l; simp only [List.foldl_cons, List.length_cons]; have := ih (putBehind l n n); have := putBehind_len (l := l) (a := n) (b := n); omega
  have := this ns []
  simpa [fromVals] using this
theorem sp35 (w : World) (ns : List Int) (hn : ns.length < 60) (hs : ns.Pairwise (· ≤ ·)) : Spec w 2 (.ref 35) [.lst (ns.map .int)] [] fun v H => v = .tup ((fromVals ns).map ivl) ∧ H = [] := by
  refine spec_of (ok35 w) rfl rfl fun A s hb => EvS.sub ?_
  refine S_cons ?_; refine S_asgn (by repeat (first | exact List.mem_cons_self | apply List.mem_cons_of_mem)) ?_
  refine E_list (A_nil ⟨Nat.zero_le _, fun a ha => ?_⟩)
  refine ⟨_, .next .here, ?_⟩
  refine S_cons (S_for_map (U := SV) (f := SV.int) (l := ns) (fun ps x => ⟨[.lst (ns.map .int), .ref a, x], [(a, .list ((fromVals ps).map ivl))]⟩) (E_callB (by repeat (first | exact List.mem_cons_self | apply List.mem_cons_of_mem)) ?_))
  refine A_cons ?_; refine E_name (get_at 0 rfl rfl) nofun ?_; refine A_nil ?_
  refine C_sorted_lst (by exact om105 hn) fun ns' hp hs' => ?_
  have e := sorted_unique hp hs' hs
  subst e
  refine ⟨.lst _, ⟨_, rfl⟩, ?_, ?_⟩
  · intro P ps v qs x F0 e fin
    have hle := congrArg List.length e
    rw [List.length_append] at hle
    have hl := fromVals_len (ns := ps)
    have hsn : fromVals (ps ++ [v]) = putBehind (fromVals ps) v v := by simp [fromVals]
    rw [hsn] at fin
    refine AT_name (.next (.next .here)) (by repeat (first | exact List.mem_cons_self | apply List.mem_cons_of_mem)) ?_
    refine S_cons (S_expr (E_callF (a := 28) (fd := fd28) (by repeat (first | exact List.mem_cons_self | apply List.mem_cons_of_mem)) (fun w => ⟨_, _, _, (ok28 w).obj.choose_spec.choose_spec.choose_spec⟩) ?_))
    refine A_cons ?_; refine E_name (get_at 1 rfl rfl) nofun ?_; refine A_cons ?_; refine E_name (get_at 2 rfl rfl) nofun ?_; refine A_cons ?_; refine E_name (get_at 2 rfl rfl) nofun ?_; refine A_nil ?_
    refine call_spec (sp28 w 0 a (fromVals ps) v v (by exact om106 hn hle hl)) (Nat.le_refl _) (.cons .here .nil) ?_
    rintro sv H' ⟨rfl, rfl⟩
    refine S_nil ?_
    exact fin (.int v)
  · intro x
    refine S_cons ?_; refine S_ret ?_
    refine E_callT (by repeat (first | exact List.mem_cons_self | apply List.mem_cons_of_mem)) ?_
    refine A_cons ?_; refine E_name (get_at 1 rfl rfl) nofun ?_; refine A_nil ?_
    have hl := fromVals_len (ns := ns')
    refine C_tuple_own (.inl List.mem_cons_self) (by rw [List.length_map, sizeLine_eq]; exact om107 hn hl) ?_
    exact ⟨[], _, .refl _, .inl ⟨_, rfl, rfl, rfl⟩⟩
theorem rows_split {l : List (Int × Int)} {pre post : List SV} {x : SV} (h : l.map ivl = pre ++ x :: post) : ∃ ps p qs, l = ps ++ p :: qs ∧ pre = ps.map ivl ∧ x = ivl p := split_map h
noncomputable def nextFrom : List (Int × Int) → Int → Option Int
  | [], _ => none
  | p :: r, v => if v ≤ p.2 then some (max p.1 v) else nextFrom r v
noncomputable def optI : Option Int → SV
  | none => .none
  | some i => .int i
theorem nextFrom_skip {v : Int} : ∀ {ps r : List (Int × Int)}, (∀ p ∈ ps, ¬ v ≤ p.2) → nextFrom (ps ++ r) v = nextFrom r v
  | [], _, _ => rfl
  | p :: ps, r, h => by
    rw [List.cons_append, nextFrom, if_neg (h p List.mem_cons_self)]
    exact nextFrom_skip fun q hq => h q (List.mem_cons_of_mem _ hq)
theorem sp56 (w : World) (d : List (Int × Int)) (v : Int) : Spec w 1 (.ref 56) [.tup (d.map ivl), .int v] [] fun r H => r = optI (nextFrom d v) ∧ H = [] := by
  refine spec_of (ok56 w) rfl rfl fun A s hb => ?_
  refine S_cons (S_for ?_)
  refine E_name (get_at 0 rfl rfl) nofun ?_
  refine ⟨_, .tup _, fun pre σ => ∃ ps : List (Int × Int), pre = ps.map ivl ∧ (∀ p ∈ ps, ¬ v ≤ p.2) ∧ ∃ x y, σ = ⟨[.tup (d.map ivl), .int v, x, y], []⟩, ⟨[], rfl, fun _ h => (nomatch h), _, _, rfl⟩, ?_, ?_⟩
  · rintro P pre x post σ₂ hx ⟨ps', rfl, hle, x1, x2, rfl⟩
    obtain ⟨ps, p, qs, rfl, h1, rfl⟩ := split_map hx
    obtain rfl := mapiv h1
    refine AT_tup2 (.cons (.next (.next .here)) (by repeat (first | exact List.mem_cons_self | apply List.mem_cons_of_mem)) (.cons (.next (.next (.next .here))) (by repeat (first | exact List.mem_cons_self | apply List.mem_cons_of_mem)) .nil)) ?_
    refine S_cons ?_; refine S_if ?_; refine T_cmp ?_; refine E_name (get_at 1 rfl rfl) nofun ?_; refine E_name (get_at 3 rfl rfl) nofun ?_; refine O_lei ?_; refine ⟨_, rfl, ?_⟩
    refine ⟨fun h => ?_, fun h => ?_⟩
    · refine S_cons ?_; refine S_ret ?_
      refine E_callB (by repeat (first | exact List.mem_cons_self | apply List.mem_cons_of_mem)) ?_
      refine A_cons ?_; refine E_name (get_at 2 rfl rfl) nofun ?_; refine A_cons ?_; refine E_name (get_at 1 rfl rfl) nofun ?_; refine A_nil ?_
      refine C_max (.inl ⟨_, rfl, ?_, rfl⟩)
      have h' : v ≤ p.2 := by simpa using h
      rw [nextFrom_skip hle, nextFrom, if_pos h']
      rfl
    · refine S_nil ?_; refine S_nil ?_
      refine ⟨ps' ++ [p], by simp, fun q hq => ?_, _, _, rfl⟩
      rcases List.mem_append.mp hq with hq | hq
      · exact hle q hq
      · rw [List.mem_singleton.mp hq]; simpa using h
  · rintro σ₂ ⟨ps, h1, hle, x1, x2, rfl⟩
    obtain rfl := mapiv h1
    refine S_cons ?_; refine S_ret ?_; refine E_none ?_
    refine .inl ⟨_, rfl, ?_, rfl⟩
    have := nextFrom_skip (r := []) hle
    rw [List.append_nil] at this
    rw [this]
    rfl
end
section
theorem sp63 (w : World) (d : List (Int × Int)) (v : Int) : Spec w 2 (.ref 63) [.tup (d.map ivl), .int v] [] fun r H => r = .bool (decide (nextFrom d v = some v)) ∧ H = [] := by
  refine spec_of (ok63 w) rfl rfl fun A s hb => ?_
  refine S_cons ?_; refine S_ret ?_; refine E_cmp ?_
  refine E_callF (a := 56) (fd := fd56) (by repeat (first | exact List.mem_cons_self | apply List.mem_cons_of_mem)) (fun w => ⟨_, _, _, (ok56 w).obj.choose_spec.choose_spec.choose_spec⟩) ?_
  refine A_cons ?_; refine E_name (get_at 0 rfl rfl) nofun ?_; refine A_cons ?_; refine E_name (get_at 1 rfl rfl) nofun ?_; refine A_nil ?_
  refine call_spec (sp56 w d v) (Nat.le_refl _) .nil ?_
  rintro sv H' ⟨rfl, rfl⟩
  try dsimp only
  refine E_name (get_at 1 rfl rfl) nofun ?_
  cases hq : nextFrom d v with
  | none =>
    refine O_eqd (by rfl) (by rfl) ?_
    skip
    exact .inl ⟨_, rfl, rfl, rfl⟩
  | some i =>
    refine O_eqi ?_
    skip
    refine .inl ⟨_, rfl, ?_, rfl⟩
    congr 1
    by_cases h : i = v <;> simp [h]
noncomputable def upTo (d : List (Int × Int)) (k : Int) : List (Int × Int) := (d.filter fun p => decide (p.1 ≤ k)).map fun p => (p.1, min p.2 k)
noncomputable def fromOn (d : List (Int × Int)) (k : Int) : List (Int × Int) := (d.filter fun p => decide (p.2 ≥ k)).map fun p => (max p.1 k, p.2)
theorem sp68 (w : World) (d : List (Int × Int)) (k : Int) (hn : d.length < 1000) : Spec w 1 (.ref 68) [.tup (d.map ivl), .int k] [] fun r H => r = .tup ((upTo d k).map ivl) ∧ H = [] := by
  refine spec_of (ok68 w) rfl rfl fun A s hb => ?_
  refine S_cons ?_; refine S_ret ?_
  refine E_callT (by repeat (first | exact List.mem_cons_self | apply List.mem_cons_of_mem)) ?_
  refine A_cons ?_
  refine E_lc ["low", "high"] ["k"] [("min", .builtin "min")] ⟨by kernel_rfl, fun p hp => by rw [List.mem_singleton.mp hp]; exact gi_min w, by decide⟩ ?_
  refine E_name (get_at 0 rfl rfl) nofun ?_
  refine ⟨_, [.int k], .tup _, .cons (by exact get_at 1 rfl rfl) .nil, ?_⟩
  refine run_map (fun ls : List (Int × Int) => (upTo ls k).map ivl) rfl (fun ls qs e => ?_) (fun C P ls p qs e => ?_) ?_
  · have : (upTo ls k).length ≤ ls.length := by unfold upTo; rw [List.length_map]; exact List.length_filter_le _ _
    have h2 := congrArg List.length e
    rw [List.length_append] at h2
    rw [List.length_map, sizeLine_eq]; exact om108 hn this h2
  · refine AT_tup2 (.cons .here (by repeat (first | exact List.mem_cons_self | apply List.mem_cons_of_mem)) (.cons (.next .here) (by repeat (first | exact List.mem_cons_self | apply List.mem_cons_of_mem)) .nil)) ?_
    try dsimp only
    refine TT_one ?_
    refine T_cmp ?_; refine E_name (get_at 0 rfl rfl) nofun ?_; refine E_name (get_at 2 rfl rfl) nofun ?_; refine O_lei ?_; refine ⟨_, rfl, ?_⟩
    refine ⟨fun h => ?_, fun h => ⟨⟨[_, _], rfl, rfl⟩, by unfold upTo; simp [List.filter_append, h], rfl⟩⟩
    refine E_tuple ?_; refine A_cons ?_; refine E_name (get_at 0 rfl rfl) nofun ?_; refine A_cons ?_
    refine E_callB (by repeat (first | exact List.mem_cons_self | apply List.mem_cons_of_mem)) ?_
    refine A_cons ?_; refine E_name (get_at 1 rfl rfl) nofun ?_; refine A_cons ?_; refine E_name (get_at 2 rfl rfl) nofun ?_; refine A_nil ?_
    refine C_min ?_
    refine A_nil ?_
    exact ⟨Nat.le_of_ble_eq_true rfl, ⟨[_, _], rfl, rfl⟩, by unfold upTo; simp [List.filter_append, h], rfl⟩
  · refine A_nil ?_
    have : (upTo d k).length ≤ d.length := by unfold upTo; rw [List.length_map]; exact List.length_filter_le _ _
    refine C_tuple_lst (by rw [List.length_map, sizeLine_eq]; exact om109 hn this) ?_
    exact .inl ⟨_, rfl, rfl, rfl⟩
theorem sp73 (w : World) (d : List (Int × Int)) (k : Int) (hn : d.length < 1000) : Spec w 1 (.ref 73) [.tup (d.map ivl), .int k] [] fun r H => r = .tup ((fromOn d k).map ivl) ∧ H = [] := by
  refine spec_of (ok73 w) rfl rfl fun A s hb => ?_
  refine S_cons ?_; refine S_ret ?_
  refine E_callT (by repeat (first | exact List.mem_cons_self | apply List.mem_cons_of_mem)) ?_
  refine A_cons ?_
  refine E_lc ["low", "high"] ["k"] [("max", .builtin "max")] ⟨by kernel_rfl, fun p hp => by rw [List.mem_singleton.mp hp]; exact gi_max w, by decide⟩ ?_
  refine E_name (get_at 0 rfl rfl) nofun ?_
  refine ⟨_, [.int k], .tup _, .cons (by exact get_at 1 rfl rfl) .nil, ?_⟩
  refine run_map (fun ls : List (Int × Int) => (fromOn ls k).map ivl) rfl (fun ls qs e => ?_) (fun C P ls p qs e => ?_) ?_
  · have : (fromOn ls k).length ≤ ls.length := by unfold fromOn; rw [List.length_map]; exact List.length_filter_le _ _
    have h2 := congrArg List.length e
    rw [List.length_append] at h2
    rw [List.length_map, sizeLine_eq]; exact om108 hn this h2
  · refine AT_tup2 (.cons .here (by repeat (first | exact List.mem_cons_self | apply List.mem_cons_of_mem)) (.cons (.next .here) (by repeat (first | exact List.mem_cons_self | apply List.mem_cons_of_mem)) .nil)) ?_
    try dsimp only
    refine TT_one ?_
    refine T_cmp ?_; refine E_name (get_at 1 rfl rfl) nofun ?_; refine E_name (get_at 2 rfl rfl) nofun ?_; refine O_gei ?_; refine ⟨_, rfl, ?_⟩
    refine ⟨fun h => ?_, fun h => ⟨⟨[_, _], rfl, rfl⟩, by unfold fromOn; simp [List.filter_append, h], rfl⟩⟩
    refine E_tuple ?_; refine A_cons ?_
    refine E_callB (by repeat (first | exact List.mem_cons_self | apply List.mem_cons_of_mem)) ?_
    refine A_cons ?_; refine E_name (get_at 0 rfl rfl) nofun ?_; refine A_cons ?_; refine E_name (get_at 2 rfl rfl) nofun ?_; refine A_nil ?_
    refine C_max ?_
    refine A_cons ?_; refine E_name (get_at 1 rfl rfl) nofun ?_; refine A_nil ?_
    exact ⟨Nat.le_of_ble_eq_true rfl, ⟨[_, _], rfl, rfl⟩, by unfold fromOn; simp [List.filter_append, h], rfl⟩
  · refine A_nil ?_
    have : (fromOn d k).length ≤ d.length := by unfold fromOn; rw [List.length_map]; exact List.length_filter_le _ _
    refine C_tuple_lst (by rw [List.length_map, sizeLine_eq]; exact om109 hn this) ?_
    exact .inl ⟨_, rfl, rfl, rfl⟩
theorem upTo_len {d : List (Int × Int)} {k : Int} : (upTo d k).length ≤ d.length := by unfold upTo; rw [List.length_map]; exact List.length_filter_le _ _
theorem fromOn_len {d : List (Int × Int)} {k : Int} : (fromOn d k).length ≤ d.length := by unfold fromOn; rw [List.length_map]; exact List.length_filter_le _ _
noncomputable def without (d : List (Int × Int)) (v : Int) : List (Int × Int) := upTo d (v - 1) ++ fromOn d (v + 1)
theorem sp80 (w : World) (d : List (Int × Int)) (v : Int) (hn : d.length < 1000) : Spec w 2 (.ref 80) [.tup (d.map ivl), .int v] [] fun r H => r = .tup ((without d v).map ivl) ∧ H = [] := by
  refine spec_of (ok80 w) rfl rfl fun A s hb => ?_
  refine S_cons ?_; refine S_ret ?_; refine E_bin ?_
  refine E_callF (a := 68) (fd := fd68) (by repeat (first | exact List.mem_cons_self | apply List.mem_cons_of_mem)) (fun w => ⟨_, _, _, (ok68 w).obj.choose_spec.choose_spec.choose_spec⟩) ?_
  refine A_cons ?_; refine E_name (get_at 0 rfl rfl) nofun ?_; refine A_cons ?_; refine E_bin ?_; refine E_name (get_at 1 rfl rfl) nofun ?_; refine E_int ?_; refine O_subi ?_; refine A_nil ?_
  refine call_spec (sp68 w d (v - 1) hn) (Nat.le_refl _) .nil ?_
  rintro sv H' ⟨rfl, rfl⟩
  try dsimp only
  refine E_callF (a := 73) (fd := fd73) (by repeat (first | exact List.mem_cons_self | apply List.mem_cons_of_mem)) (fun w => ⟨_, _, _, (ok73 w).obj.choose_spec.choose_spec.choose_spec⟩) ?_
  refine A_cons ?_; refine E_name (get_at 0 rfl rfl) nofun ?_; refine A_cons ?_; refine E_bin ?_; refine E_name (get_at 1 rfl rfl) nofun ?_; refine E_int ?_; refine O_add ?_; refine A_nil ?_
  refine call_spec (sp73 w d (v + 1) hn) (Nat.le_refl _) .nil ?_
  rintro sv H' ⟨rfl, rfl⟩
  try dsimp only
  have h1 := upTo_len (d := d) (k := v - 1)
  have h2 := fromOn_len (d := d) (k := v + 1)
  refine O_addt (by rw [List.length_map, List.length_map, sizeLine_eq]; exact om110 hn h1 h2) ?_
  exact .inl ⟨_, rfl, by simp [without], rfl⟩
theorem sp101 (w : World) (d : List (Int × Int)) (x k : Int) (hn : d.length < 1000) : Spec w 3 (.ref 101) [.tup [.int x, .str "!=", .int k], .tup (d.map ivl)] [] fun r H => r = .tup ((without d k).map ivl) ∧ H = [] := by
  refine spec_of (ok101 w) rfl rfl fun A s hb => ?_
  refine S_cons (S_tupsw ["sign", "k"] (by rfl) ?_)
  refine E_tuple ?_; refine A_cons ?_; refine E_sub ?_; refine E_name (get_at 0 rfl rfl) nofun ?_; refine E_int ?_; refine O_t1 ?_ (Nat.le_of_ble_eq_true rfl); refine A_cons ?_; refine E_sub ?_; refine E_name (get_at 0 rfl rfl) nofun ?_; refine E_int ?_; refine O_t2 ?_ (Nat.le_of_ble_eq_true rfl); refine A_nil ?_
  refine ⟨Nat.le_of_ble_eq_true rfl, ⟨_, _, rfl, rfl, .cons (by repeat (first | exact Put.here | apply Put.next)) (by repeat (first | exact List.mem_cons_self | apply List.mem_cons_of_mem)) (.cons (by repeat (first | exact Put.here | apply Put.next)) (by repeat (first | exact List.mem_cons_self | apply List.mem_cons_of_mem)) .nil), ?_⟩⟩
  refine S_cons ?_; refine S_if ?_; refine T_cmp ?_; refine E_name (get_at 2 rfl rfl) nofun ?_; refine E_str ?_
  refine O_eqd (by kernel_rfl) (by kernel_rfl) ?_
  refine ⟨_, rfl, ?_⟩
  refine ⟨fun h => (nomatch h), fun _ => ?_⟩
  refine S_nil ?_; refine S_cons ?_; refine S_if ?_; refine T_cmp ?_; refine E_name (get_at 2 rfl rfl) nofun ?_; refine E_str ?_
  refine O_eqd (by kernel_rfl) (by kernel_rfl) ?_
  refine ⟨_, rfl, ?_⟩
  refine ⟨fun h => (nomatch h), fun _ => ?_⟩
  refine S_nil ?_; refine S_cons ?_; refine S_ret ?_; refine E_ifx ?_; refine T_cmp ?_; refine E_name (get_at 2 rfl rfl) nofun ?_; refine E_str ?_
  refine O_eqd (by kernel_rfl) (by kernel_rfl) ?_
  refine ⟨_, rfl, ?_⟩
  refine ⟨fun h => (nomatch h), fun _ => ?_⟩
  refine E_callF (a := 80) (fd := fd80) (by repeat (first | exact List.mem_cons_self | apply List.mem_cons_of_mem)) (fun w => ⟨_, _, _, (ok80 w).obj.choose_spec.choose_spec.choose_spec⟩) ?_
  refine A_cons ?_; refine E_name (get_at 1 rfl rfl) nofun ?_; refine A_cons ?_; refine E_name (get_at 3 rfl rfl) nofun ?_; refine A_nil ?_
  refine call_spec (sp80 w d k hn) (Nat.le_refl _) .nil ?_
  rintro sv H' ⟨rfl, rfl⟩
  try dsimp only
  exact .inl ⟨_, rfl, rfl, rfl⟩
end
section
noncomputable abbrev iL (ns : List Int) : SV := .lst (ns.map .int)
noncomputable abbrev rowsV (rows : List (List Int)) : SV := .lst (rows.map iL)
structure Tab (rows : List (List Int)) (m n : Nat) : Prop where
  len : rows.length = m
  row : ∀ r ∈ rows, r.length = n ∧ ∀ x ∈ r, 0 ≤ x ∧ x ≤ m
  m3 : m ≤ 3
  n3 : n ≤ 3
noncomputable def cell (rows : List (List Int)) (k j : Nat) : Int := (rows.getD k []).getD j 0
noncomputable def gone (rows : List (List Int)) (s l : Int) : Int := if s > 0 then cell rows (s - 1).toNat (l - 1).toNat else 0
theorem Tab.get {rows : List (List Int)} {m n k j : Nat} (T : Tab rows m n) (hk : k < m) (hj : j < n) : ∃ r, rows[k]? = some r ∧ r[j]? = some (cell rows k j) ∧ r.length = n := by
  have hk' : k < rows.length := by rw [T.len]; exact hk
  have hr := T.row rows[k] (List.getElem_mem hk')
  have hj' : j < rows[k].length := by rw [hr.1]; exact hj
  refine ⟨rows[k], List.getElem?_eq_getElem hk', ?_, hr.1⟩
  unfold cell
  simp [List.getD, hk', hj']
theorem Tab.cell_range {rows : List (List Int)} {m n : Nat} (T : Tab rows m n) (k j : Nat) : 0 ≤ cell rows k j ∧ cell rows k j ≤ m := by
  unfold cell
  by_cases hk : k < rows.length
  · have hr := T.row rows[k] (List.getElem_mem hk)
    by_cases hj : j < rows[k].length
    · have := hr.2 rows[k][j] (List.getElem_mem hj)
      simp [List.getD, hk, hj]; exact this
    · simp [List.getD, hk, Nat.le_of_not_lt hj]
  · simp [List.getD, Nat.le_of_not_lt hk]
theorem gone_range {rows : List (List Int)} {m n : Nat} (T : Tab rows m n) (s l : Int) : 0 ≤ gone rows s l ∧ gone rows s l ≤ m := by
  unfold gone
  split
  · exact T.cell_range _ _
  · exact om111
theorem sp421 (w : World) {rows : List (List Int)} {m n : Nat} (T : Tab rows m n) (s l : Int) (hs : 0 ≤ s ∧ s ≤ m) (hl : 1 ≤ l ∧ l ≤ n) : Spec w 1 (.ref 421) [rowsV rows, .int s, .int l] [] fun r H => r = .int (gone rows s l) ∧ H = [] := by
  refine spec_of (ok421 w) rfl rfl fun A s' hb => ?_
  have hm := T.m3; have hn := T.n3
  refine S_cons ?_; refine S_ret ?_; refine E_ifx ?_; refine T_cmp ?_; refine E_name (get_at 1 rfl rfl) nofun ?_; refine E_int ?_; refine O_gti ?_; refine ⟨_, rfl, ?_⟩
  refine ⟨fun h => ?_, fun h => ?_⟩
  · have h0 : s > 0 := by simpa using h
    obtain ⟨r, hr, hc, hlen⟩ := T.get (k := (s - 1).toNat) (j := (l - 1).toNat) (by exact om112 hs h0) (by exact om113 hl)
    refine E_sub ?_; refine E_sub ?_; refine E_name (get_at 0 rfl rfl) nofun ?_; refine E_bin ?_; refine E_name (get_at 1 rfl rfl) nofun ?_; refine E_int ?_; refine O_subi ?_
    refine O_lat (x := iL r) (by exact om114 h0) (by rw [List.getElem?_map, hr]; rfl) (by rw [List.length_map, T.len]; exact om115 hm) ?_
    refine E_bin ?_; refine E_name (get_at 2 rfl rfl) nofun ?_; refine E_int ?_; refine O_subi ?_
    refine O_lat (x := .int (cell rows (s - 1).toNat (l - 1).toNat)) (by exact om116 hl) (by rw [List.getElem?_map, hc]; rfl) (by rw [List.length_map, hlen]; exact om115 hn) ?_
    exact .inl ⟨_, rfl, by rw [gone, if_pos h0], rfl⟩
  · have h0 : ¬ s > 0 := by simpa using h
    refine E_int ?_
    exact .inl ⟨_, rfl, by rw [gone, if_neg h0], rfl⟩
theorem toDs_ints (ns : List Int) : toDs (ns.map .int) = ns.map .int := by
  induction ns with
  | nil => simp [toDs]
  | cons n ns ih => simp [toDs, toD, ih]
theorem any_ints (ns : List Int) (x : Int) : (toDs (ns.map .int)).any (fun y => PyData.eqv y (toD (.int x))) = decide (x ∈ ns) := by
  rw [toDs_ints, List.any_map]
  simp only [toD, Function.comp_def, PyData.eqv]
  by_cases h : x ∈ ns
  · simp [h]
  · simp only [h, decide_false]
    rw [List.any_eq_false]
    intro y hy
    simp; intro e; exact h (e ▸ hy)
theorem lay_ints (ns : List Int) : (toD (iL ns)).canLay0 = true := by
  simp only [toD, toDs_ints, PyData.canLay0]
  induction ns with
  | nil => simp [PyData.canLayAll0]
  | cons n ns ih => simp [PyData.canLayAll0, PyData.canLay0, ih]
theorem O_in_ints {c : Cx} {σ : St} {Q : SV → St → Prop} {x : Int} {ns : List Int} (q : Q (.bool (decide (x ∈ ns))) σ) : O2 c (compareOp .In) (.int x) (iL ns) σ Q := O_in_lst (by rfl) (lay_ints ns) (by rw [any_ints]; exact q)
theorem O_nin_ints {c : Cx} {σ : St} {Q : SV → St → Prop} {x : Int} {ns : List Int} (q : Q (.bool (!decide (x ∈ ns))) σ) : O2 c (compareOp .NotIn) (.int x) (iL ns) σ Q := O_nin_lst (by rfl) (lay_ints ns) (by rw [any_ints]; exact q)
noncomputable def goes (rows : List (List Int)) (start : Int) (ws : List Int) : Int := ws.foldl (fun s l => gone rows s l) start
theorem goes_snoc0 {rows : List (List Int)} {start : Int} {ws : List Int} {l : Int} : goes rows start (ws ++ [l]) = gone rows (goes rows start ws) l := by unfold goes; rw [List.foldl_append]; rfl
theorem goes_range {rows : List (List Int)} {m n : Nat} (T : Tab rows m n) {start : Int} (hs : 0 ≤ start ∧ start ≤ m) (ws : List Int) : 0 ≤ goes rows start ws ∧ goes rows start ws ≤ m := by
  rcases List.eq_nil_or_concat ws with e | ⟨i, l, e⟩
  · rw [e]; exact hs
  · rw [e, List.concat_eq_append, goes_snoc0]; exact gone_range T _ _
theorem sp443 (w : World) {rows : List (List Int)} {m n : Nat} (T : Tab rows m n) (start : Int) (ends ws : List Int) (hs : 0 ≤ start ∧ start ≤ m) (hw : ∀ l ∈ ws, 1 ≤ l ∧ l ≤ n) :
    Spec w 2 (.ref 443) [rowsV rows, .int start, iL ends, .tup (ws.map .int)] [] fun r H => r = .bool (decide (goes rows start ws ∈ ends)) ∧ H = [] := by
  refine spec_of (ok443 w) rfl rfl fun A s' hb => ?_
  refine S_cons ?_; refine S_asgn (by repeat (first | exact List.mem_cons_self | apply List.mem_cons_of_mem)) ?_; refine E_name (get_at 1 rfl rfl) nofun ?_
  refine ⟨_, .next (.next (.next (.next .here))), ?_⟩
  refine S_cons (S_for_map (U := SV) (f := SV.int) (l := ws) (fun ps x => ⟨[rowsV rows, .int start, iL ends, .tup (ws.map .int), .int (goes rows start ps), x], []⟩) ?_)
  refine E_name (get_at 3 rfl rfl) nofun ?_
  refine ⟨.tup _, ⟨_, rfl⟩, ?_, ?_⟩
  · intro P ps l qs x1 F0 e fin
    have hr := goes_range T hs ps
    refine AT_name (by repeat (first | exact Put.here | apply Put.next)) (by repeat (first | exact List.mem_cons_self | apply List.mem_cons_of_mem)) ?_
    refine S_cons ?_; refine S_asgn (by repeat (first | exact List.mem_cons_self | apply List.mem_cons_of_mem)) ?_
    refine E_callF (a := 421) (fd := fd421) (by repeat (first | exact List.mem_cons_self | apply List.mem_cons_of_mem)) (fun w => ⟨_, _, _, (ok421 w).obj.choose_spec.choose_spec.choose_spec⟩) ?_
    refine A_cons ?_; refine E_name (get_at 0 rfl rfl) nofun ?_; refine A_cons ?_; refine E_name (get_at 4 rfl rfl) nofun ?_; refine A_cons ?_; refine E_name (get_at 5 rfl rfl) nofun ?_; refine A_nil ?_
    refine call_spec (sp421 w T (goes rows start ps) l hr (hw l (by rw [e]; simp))) (Nat.le_refl _) .nil ?_
    rintro sv H' ⟨rfl, rfl⟩
    refine ⟨_, by repeat (first | exact Put.here | apply Put.next), ?_⟩
    refine S_nil ?_
    rw [goes_snoc0] at fin
    exact fin (.int l)
  · intro x1
    refine S_cons ?_; refine S_ret ?_; refine E_cmp ?_; refine E_name (get_at 4 rfl rfl) nofun ?_; refine E_name (get_at 2 rfl rfl) nofun ?_
    refine O_in_ints ?_
    exact .inl ⟨_, rfl, rfl, rfl⟩
noncomputable def wordsL (lots : List (List Int)) : List (List Int) := lots.foldl (fun rows lot => rows.flatMap fun row => lot.map fun l => row ++ [l]) [[]]
noncomputable abbrev tupI (ws : List Int) : SV := .tup (ws.map .int)
theorem mapii : ∀ {l l' : List (List Int)}, l.map iL = l'.map iL → l = l'
  | [], [], _ => rfl
  | [], _ :: _, h => nomatch h
  | _ :: _, [], h => nomatch h
  | a :: l, b :: l', h => by simp only [List.map_cons, List.cons.injEq, SV.lst.injEq] at h; rw [mapi h.1, mapii h.2]
theorem mapti : ∀ {l l' : List (List Int)}, l.map tupI = l'.map tupI → l = l'
  | [], [], _ => rfl
  | [], _ :: _, h => nomatch h
  | _ :: _, [], h => nomatch h
  | a :: l, b :: l', h => by simp only [List.map_cons, List.cons.injEq, SV.tup.injEq] at h; rw [mapi h.1, mapti h.2]
theorem flat_len {α β : Type} {l : List α} {f : α → List β} {k : Nat} (h : ∀ x ∈ l, (f x).length ≤ k) : (l.flatMap f).length ≤ l.length * k := by
  induction l with
  | nil => simp
  | cons x l ih =>
    rw [List.flatMap_cons, List.length_append, List.length_cons, Nat.succ_mul]
    have := h x List.mem_cons_self
    have := ih fun y hy => h y (List.mem_cons_of_mem _ hy)
    omega
theorem wordsL_facts : ∀ (lots : List (List Int)), (∀ lot ∈ lots, lot.length ≤ 3) → (wordsL lots).length ≤ 3 ^ lots.length ∧ ∀ w ∈ wordsL lots, w.length = lots.length := by
  intro lots
  have key : ∀ (lots rows : List (List Int)) (k : Nat), (∀ lot ∈ lots, lot.length ≤ 3) → (∀ r ∈ rows, r.length = k) →
      (lots.foldl (fun rows lot => rows.flatMap fun row => lot.map fun l => row ++ [l]) rows).length ≤ rows.length * 3 ^ lots.length ∧ ∀ w ∈ lots.foldl (fun rows lot => rows.flatMap fun row => lot.map fun l => row ++ [l]) rows, w.length = k + lots.length := by
    intro lots
    induction lots with
    | nil => intro rows k _ hr; simp; exact hr
    | cons lot lots ih =>
      intro rows k h hr
      have h1 : (rows.flatMap fun row => lot.map fun l => row ++ [l]).length ≤ rows.length * 3 := flat_len fun x _ => by simpa using h lot List.mem_cons_self
      obtain ⟨a, b⟩ := ih (rows.flatMap fun row => lot.map fun l => row ++ [l]) (k + 1) (fun l hl => h l (List.mem_cons_of_mem _ hl)) (fun r hr' => by
        obtain ⟨row, hrow, hx⟩ := List.mem_flatMap.mp hr'
        obtain ⟨l, _, rfl⟩ := List.mem_map.mp hx
        simp [hr row hrow])
      refine ⟨?_, fun w hw => by rw [b w hw, List.length_cons]; exact om117⟩
      rw [List.foldl_cons, List.length_cons, Nat.pow_succ]
      refine Nat.le_trans a ?_
      calc _ ≤ (rows.length * 3) * 3 ^ lots.length := Nat.mul_le_mul_right _ h1
        _ = rows.length * (3 ^ lots.length * 3) := by rw [Nat.mul_assoc, Nat.mul_comm 3]
  intro h
  obtain ⟨a, b⟩ := key lots [[]] 0 h (by simp)
  exact ⟨by simpa [wordsL] using a, fun w hw => by simpa using b w hw⟩
theorem wordsL_snoc (lots : List (List Int)) (lot : List Int) : wordsL (lots ++ [lot]) = (wordsL lots).flatMap fun row => lot.map fun l => row ++ [l] := by
  unfold wordsL; rw [List.foldl_append]; rfl
theorem sp436 (w : World) (lots : List (List Int)) (h4 : lots.length ≤ 4) (h3 : ∀ lot ∈ lots, lot.length ≤ 3) : Spec w 1 (.ref 436) [rowsV lots] [] fun r H => r = .lst ((wordsL lots).map tupI) ∧ H = [] := by
  refine spec_of (ok436 w) rfl rfl fun A s' hb => ?_
  refine S_cons ?_; refine S_asgn (by repeat (first | exact List.mem_cons_self | apply List.mem_cons_of_mem)) ?_
  refine E_listF (A_cons ?_)
  refine E_tuple ?_; refine A_nil ?_
  refine ⟨Nat.le_of_ble_eq_true rfl, ?_⟩
  refine A_nil ?_
  refine ⟨Nat.le_of_ble_eq_true rfl, ⟨_, .next .here, ?_⟩⟩
  refine S_cons (S_for_map (U := SV) (f := iL) (l := lots) (fun ps x => ⟨[rowsV lots, .lst ((wordsL ps).map tupI), x], []⟩) ?_)
  refine E_name (get_at 0 rfl rfl) nofun ?_
  refine ⟨.lst _, ⟨_, rfl⟩, ?_, ?_⟩
  · intro P ps lot qs x1 F0 hl fin
    have hlot : lot.length ≤ 3 := h3 lot (by rw [hl]; simp)
    have hpl : ps.length ≤ 4 := by rw [hl] at h4; simp at h4; exact om118 h4
    have hwf := wordsL_facts ps fun l hl' => h3 l (by rw [hl]; simp [hl'])
    have hps : (wordsL ps).length ≤ 81 := by
      have : 3 ^ ps.length ≤ 3 ^ 4 := Nat.pow_le_pow_right (by decide) hpl
      have := hwf.1
      omega
    have hwl := hwf.2
    rw [wordsL_snoc] at fin
    refine AT_name (by repeat (first | exact Put.here | apply Put.next)) (by repeat (first | exact List.mem_cons_self | apply List.mem_cons_of_mem)) ?_
    refine S_cons (S_lc ["letter", "row"] ["lot"] [] (by rfl) ⟨by kernel_rfl, fun p hp => (nomatch hp), by decide⟩ (by repeat (first | exact List.mem_cons_self | apply List.mem_cons_of_mem)) ?_)
    refine E_name (get_at 1 rfl rfl) nofun ?_
    generalize wordsL ps = wl at hps hwl fin ⊢
    refine ⟨_, [iL lot], .lst _, .cons (by exact get_at 2 rfl rfl) .nil, ?_⟩
    refine run_two (t2n := "letter") (tn' := ["row"]) rfl (fun pre acc H => ∃ rs qs : List (List Int), wl = rs ++ qs ∧ pre = rs.map tupI ∧ acc = (rs.flatMap fun row => lot.map fun l => row ++ [l]).map tupI ∧ H = []) ⟨[], _, rfl, rfl, rfl, rfl⟩ (fun _ _ => rfl) ?_ ?_
    · rintro C P pre x post acc H hx2 ⟨rs', qs', hq', rfl, rfl, rfl⟩
      obtain ⟨rs, row, qs2, hq, h1, rfl⟩ := split_map hx2
      obtain rfl := mapti h1
      have hrs : rs'.length ≤ 80 := by rw [hq] at hps; simp at hps; exact om119 hps
      have hrow := hwl row (by rw [hq]; simp)
      refine AT_name (by repeat (first | exact Put.here | apply Put.next)) (by repeat (first | exact List.mem_cons_self | apply List.mem_cons_of_mem)) ?_
      refine E_name (get_at 2 rfl rfl) nofun ?_
      refine ⟨_, [tupI row, iL lot], .lst _, ⟨_, rfl⟩, rfl, ⟨[_], rfl, rfl⟩, fun pre acc H => ∃ ls qs : List Int, lot = ls ++ qs ∧ pre = ls.map .int ∧ acc = (rs'.flatMap fun row => lot.map fun l => row ++ [l]).map tupI ++ (ls.map fun l => row ++ [l]).map tupI ∧ H = [], ⟨[], lot, rfl, rfl, by simp, rfl⟩, ?_, ?_, ?_⟩
      · rintro pre acc H ⟨ls, qs, hls, rfl, rfl, rfl⟩
        have h1 : (rs'.flatMap fun row => lot.map fun l => row ++ [l]).length ≤ rs'.length * 3 := flat_len fun x _ => by simpa using hlot
        have h2 : ls.length ≤ 3 := by rw [hls] at hlot; simp at hlot; exact om120 hlot
        simp only [List.length_append, List.length_map, sizeLine_eq]; exact om121 hrs h1 h2
      · rintro P2 pre2 x2 post2 acc2 H2 hx3 ⟨ls', qs3, hls', rfl, rfl, rfl⟩
        obtain ⟨ls, l, qs4, hls, h1, rfl⟩ := split_map hx3
        obtain rfl := mapi h1
        refine AT_name .here (by repeat (first | exact List.mem_cons_self | apply List.mem_cons_of_mem)) ?_
        refine TT_nil ⟨fun _ => ?_, fun h => (nomatch h)⟩
        refine E_bin ?_; refine E_name (get_at 1 rfl rfl) nofun ?_; refine E_tuple ?_; refine A_cons ?_; refine E_name (get_at 0 rfl rfl) nofun ?_; refine A_nil ?_
        refine ⟨Nat.le_of_ble_eq_true rfl, ?_⟩
        refine O_addt ?_ ?_
        · simp only [List.length_map, List.length_cons, List.length_nil, sizeLine_eq]; exact om122 hpl hrow
        · refine ⟨⟨[_], rfl, rfl⟩, ls' ++ [l], qs4, by rw [hls]; simp, by simp, by simp [tupI], rfl⟩
      · rintro acc2 H2 ⟨ls, qs3, hls, h1, rfl, rfl⟩
        obtain rfl := mapi h1
        exact ⟨rs' ++ [row], qs2, by rw [hq]; simp, by simp, by simp, rfl⟩
    · rintro acc H ⟨rs, qs2, hq, h1, rfl, rfl⟩
      obtain rfl := mapti h1
      refine ⟨_, by repeat (first | exact Put.here | apply Put.next), ?_⟩
      refine S_nil ?_
      exact fin _
  · intro x1
    refine S_cons ?_; refine S_ret ?_; refine E_name (get_at 1 rfl rfl) nofun ?_
    exact .inl ⟨_, rfl, rfl, rfl⟩
end
section
theorem depth_iL : ∀ (ns : List Int), PyData.depthAll (toDs (ns.map .int)) = 0
  | [] => by simp [toDs, PyData.depthAll]
  | n :: ns => by simp [toDs, toD, PyData.depthAll, PyData.depth, depth_iL ns]
theorem shaped_iL (ns : List Int) : SeqAt.shaped (toD (iL ns)) = true := by
  unfold SeqAt.shaped
  rw [lay_ints ns]
  simp only [toD, PyData.depth, depth_iL]
  rfl
theorem O_ne_nil {c : Cx} {σ : St} {Q : SV → St → Prop} {ns : List Int} (q : Q (.bool (!ns.isEmpty)) σ) : O2 c (compareOp .NotEq) (iL ns) (.lst []) σ Q := by
  refine O_ned (shaped_iL ns) (by rfl) ?_
  have : PyData.eqv (toD (iL ns)) (toD (.lst [])) = ns.isEmpty := by
    cases ns with
    | nil => rfl
    | cons n ns => simp [toD, toDs, PyData.eqv, PyData.eqvAll]
  rw [this]; exact q
noncomputable def hitsL (rows : List (List Int)) (last : List Int) (k : Nat) (ls : List Int) : List Int := (ls.filter fun l => decide (cell rows k (l - 1).toNat ∈ last)).map fun _ => (1 : Int)
noncomputable def backL (rows : List (List Int)) (m : Nat) (lot last : List Int) : List Int := ((List.range m).filter fun k => !(hitsL rows last k lot).isEmpty).map fun k : Nat => (k : Int) + 1
noncomputable def behindL (rows : List (List Int)) (m : Nat) (ends : List Int) (lots : List (List Int)) : List (List Int) := lots.foldl (fun ls lot => ls ++ [backL rows m lot (ls.getLastD [])]) [ends]
theorem behindL_snoc (rows : List (List Int)) (m : Nat) (ends : List Int) (lots : List (List Int)) (lot : List Int) : behindL rows m ends (lots ++ [lot]) = behindL rows m ends lots ++ [backL rows m lot ((behindL rows m ends lots).getLastD [])] := by
  unfold behindL; rw [List.foldl_append]; rfl
theorem behindL_len (rows : List (List Int)) (m : Nat) (ends : List Int) (lots : List (List Int)) : (behindL rows m ends lots).length = lots.length + 1 := by
  have : ∀ (lots ls : List (List Int)), (lots.foldl (fun ls lot => ls ++ [backL rows m lot (ls.getLastD [])]) ls).length = ls.length + lots.length := by
    intro lots
    induction lots with
    | nil => intro ls; simp
    | cons lot lots ih => intro ls; rw [List.foldl_cons, ih, List.length_append, List.length_cons]; simp; exact om117
  have := this lots [ends]
  rw [behindL, this]; simp; exact om21
theorem mapnat : ∀ {n : Nat} {pre post : List SV} {x : SV} {a k : Int}, ((List.range n).map fun i : Nat => SV.int (a + i * k)) = pre ++ x :: post → ∃ i, i < n ∧ pre = ((List.range i).map fun i : Nat => SV.int (a + i * k)) ∧ x = .int (a + i * k) := by
  intro n pre post x a k h
  have hl := congrArg List.length h
  simp at hl
  have hi : pre.length < n := by exact om123 hl
  refine ⟨pre.length, hi, ?_, ?_⟩
  · have := congrArg (List.take pre.length) h
    rw [List.take_left, ← List.map_take, List.take_range] at this
    rw [Nat.min_eq_left (Nat.le_of_lt hi)] at this
    exact this.symm
  · have := congrArg (fun l => l[pre.length]?) h
    simp [hi] at this
    exact this.symm
theorem range_nat (n : Nat) : Builtin.Range.rangeSize 0 (n : Int) 1 = (n : Int) := by rw [rangeSize_one]; split <;> omega
theorem sp431 (w : World) {rows : List (List Int)} {m n : Nat} (T : Tab rows m n) (ends : List Int) (lots : List (List Int)) (he : ends.length < 60) (hes : ends.Pairwise (· ≤ ·)) (h4 : lots.length ≤ 4) (h3 : ∀ lot ∈ lots, lot.length ≤ 3 ∧ ∀ l ∈ lot, 1 ≤ l ∧ l ≤ n) :
    Spec w 1 (.ref 431) [rowsV rows, iL ends, rowsV lots] [] fun r H => r = rowsV (behindL rows m ends lots.reverse).reverse ∧ H = [] := by
  refine spec_of (ok431 w) rfl rfl fun A s' hb => EvS.sub ?_
  have hm := T.m3; have hn := T.n3
  refine S_cons ?_; refine S_asgn (by repeat (first | exact List.mem_cons_self | apply List.mem_cons_of_mem)) ?_
  refine E_list (A_cons (E_callB (by repeat (first | exact List.mem_cons_self | apply List.mem_cons_of_mem)) ?_))
  refine A_cons ?_; refine E_name (get_at 1 rfl rfl) nofun ?_; refine A_nil ?_
  refine C_sorted_lst (by exact om105 he) fun ends' hp hs' => ?_
  obtain rfl := sorted_unique hp hs' hes
  refine A_nil ?_
  refine ⟨Nat.le_of_ble_eq_true rfl, fun a ha => ⟨_, by repeat (first | exact Put.here | apply Put.next), ?_⟩⟩
  refine S_cons (S_for_map (U := SV) (f := iL) (l := lots.reverse) (fun ps x => ⟨[rowsV rows, iL ends', rowsV lots, .ref a, x], [(a, .list ((behindL rows m ends' ps).map iL))]⟩) (E_slc_rev ?_))
  refine E_name (get_at 2 rfl rfl) nofun ?_
  refine ⟨_, .inl rfl, by rw [List.length_map, sizeLine_eq]; exact om124 h4, ?_⟩
  rw [← List.map_reverse]
  refine ⟨.lst _, ⟨_, rfl⟩, ?_, ?_⟩
  · intro P ps lot qs x F0 hl fin
    have hlot := h3 lot (by rw [← List.mem_reverse, hl]; simp)
    have hps : ps.length ≤ 4 := by have := congrArg List.length hl; simp at this; exact om125 h4 this
    refine AT_name (by repeat (first | exact Put.here | apply Put.next)) (by repeat (first | exact List.mem_cons_self | apply List.mem_cons_of_mem)) ?_
    try dsimp only
    refine S_cons (S_expr (E_app ?_))
    refine E_name (get_at 3 rfl rfl) nofun ?_
    refine ⟨_, _, rfl, List.mem_cons_self, ?_⟩
    refine E_lc ["k"] ["moves", "lot", "layers"] [] ⟨by kernel_rfl, fun p hp => (nomatch hp), by decide⟩ ?_
    refine E_callT (by repeat (first | exact List.mem_cons_self | apply List.mem_cons_of_mem)) ?_
    refine A_cons (E_callB (by repeat (first | exact List.mem_cons_self | apply List.mem_cons_of_mem)) ?_)
    refine A_cons ?_; refine E_name (get_at 0 rfl rfl) nofun ?_; refine A_nil ?_
    refine C_len_lst (by rw [List.length_map, T.len]; exact om115 hm) ?_
    refine A_nil ?_
    refine C_range1 ?_
    obtain ⟨ini, last, hbl⟩ : ∃ ini last, behindL rows m ends' ps = ini ++ [last] := by
      rcases List.eq_nil_or_concat (behindL rows m ends' ps) with e | ⟨i, l, e⟩
      · have := behindL_len rows m ends' ps; rw [e] at this; simp at this
      · exact ⟨i, l, by simpa using e⟩
    have hini : ini.length ≤ 4 := by have := behindL_len rows m ends' ps; rw [hbl] at this; simp at this; exact om126 hps this
    have hH : InH [(a, AObj.list ((behindL rows m ends' ps).map iL))] a (ini.map iL ++ [iL last]) := .inl (by rw [hbl, List.map_append]; exact List.mem_cons_self)
    have hsz : ((behindL rows m ends' ps).map iL).length ≤ sizeLine := by rw [List.length_map, behindL_len, sizeLine_eq]; exact om127 hps
    have hnx : (behindL rows m ends' ps).map iL ++ [iL (backL rows m lot last)] = (behindL rows m ends' (ps ++ [lot])).map iL := by rw [behindL_snoc, hbl]; simp
    rw [List.length_map, T.len]
    generalize hHe : [(a, AObj.list ((behindL rows m ends' ps).map iL))] = H₀ at hH ⊢
    refine ⟨_, [rowsV rows, iL lot, .ref a], .rng 0 m 1 m ⟨_, _, rfl⟩ (small_one (by exact om128) (by exact om129) (by exact om130) (by exact om131 hm)) (range_nat m), .cons (by exact get_at 0 rfl rfl) (.cons (by exact get_at 4 rfl rfl) (.cons (by exact get_at 3 rfl rfl) .nil)), ?_⟩
    refine run_map (fun ls : List Nat => ((ls.filter fun k => !(hitsL rows last k lot).isEmpty).map fun k : Nat => (k : Int) + 1).map .int) rfl (fun ls qs e => ?_) (fun C P2 ls i qs e => ?_) ?_
    · have h1 : (ls.filter fun k => !(hitsL rows last k lot).isEmpty).length ≤ ls.length := List.length_filter_le _ _
      have h2 := congrArg List.length e
      rw [List.length_range, List.length_append] at h2
      rw [List.length_map, List.length_map, sizeLine_eq]; exact om132 hm h1 h2
    · have hi : i < m := List.mem_range.mp (by rw [e]; simp)
      refine AT_name .here (by repeat (first | exact List.mem_cons_self | apply List.mem_cons_of_mem)) ?_
      try dsimp only
      refine TT_one (T_cmp (E_lc ["letter"] ["moves", "k", "layers"] [] ⟨by kernel_rfl, fun p hp => (nomatch hp), by decide⟩ ?_))
      refine E_name (get_at 2 rfl rfl) nofun ?_
      refine ⟨_, [rowsV rows, .int (0 + i * 1), .ref a], .lst _, .cons (by exact get_at 1 rfl rfl) (.cons (by exact get_at 0 rfl rfl) (.cons (by exact get_at 3 rfl rfl) .nil)), ?_⟩
      refine run_map (fun ls : List Int => (hitsL rows last i ls).map .int) rfl (fun ls qs e => ?_) (fun C3 P3 ls l qs e => ?_) ?_
      · have h1 : (ls.filter fun l => decide (cell rows i (l - 1).toNat ∈ last)).length ≤ ls.length := List.length_filter_le _ _
        have h2 := congrArg List.length e
        rw [List.length_append] at h2
        have h3 := hlot.1
        rw [List.length_map, hitsL, List.length_map, sizeLine_eq]; exact om133 hlot h1 h2
      · have hlr := hlot.2 l (by rw [e]; simp)
        obtain ⟨r, hr, hc, hlen⟩ := T.get (k := i) (j := (l - 1).toNat) hi (by exact om113 hlr)
        refine AT_name .here (by repeat (first | exact List.mem_cons_self | apply List.mem_cons_of_mem)) ?_
        try dsimp only
        refine TT_one (T_cmp ?_)
        refine E_sub ?_; refine E_sub ?_; refine E_name (get_at 1 rfl rfl) nofun ?_; refine E_name (get_at 2 rfl rfl) nofun ?_
        refine O_lat (x := iL r) (by exact om134) (by rw [show (0 + (i : Int) * 1).toNat = i by exact om135, List.getElem?_map, hr]; rfl) (by rw [List.length_map, T.len]; exact om115 hm) ?_
        refine E_bin ?_; refine E_name (get_at 0 rfl rfl) nofun ?_; refine E_int ?_; refine O_subi ?_
        refine O_lat (x := .int (cell rows i (l - 1).toNat)) (by exact om116 hlr) (by rw [List.getElem?_map, hc]; rfl) (by rw [List.length_map, hlen]; exact om115 hn) ?_
        refine E_sub ?_; refine E_name (get_at 3 rfl rfl) nofun ?_; refine E_una ?_; refine E_int ?_; refine O_negi ?_
        refine O_last hH (by rw [List.length_map]; exact om136 hini) ?_
        refine O_in_ints ?_
        refine ⟨_, rfl, fun h => ?_, fun h => ⟨⟨[_], rfl, rfl⟩, ?_, rfl⟩⟩
        · refine E_int ?_
          refine ⟨⟨[_], rfl, rfl⟩, ?_, rfl⟩
          rw [hitsL, List.filter_append, List.filter_cons, h]; simp [hitsL]
        · rw [hitsL, List.filter_append, List.filter_cons, h]; simp [hitsL]
      · refine E_listF (A_nil ⟨Nat.zero_le _, ?_⟩)
        refine O_ne_nil ?_
        refine ⟨_, rfl, fun h => ?_, fun h => ⟨⟨[_], rfl, rfl⟩, ?_, rfl⟩⟩
        · refine E_bin ?_; refine E_name (get_at 0 rfl rfl) nofun ?_; refine E_int ?_; refine O_add ?_
          refine ⟨⟨[_], rfl, rfl⟩, ?_, rfl⟩
          rw [List.filter_append, List.filter_cons, h]; simp
        · rw [List.filter_append, List.filter_cons, h]; simp
    · subst hHe
      refine ⟨_, _, .here, hsz, ?_⟩
      refine S_nil ?_
      show F0 .next ⟨_, [(a, .list ((behindL rows m ends' ps).map iL ++ [iL (backL rows m lot last)]))]⟩
      rw [hnx]
      exact fin (iL lot)
  · intro x1
    refine S_cons ?_; refine S_ret ?_
    refine E_slc_rev ?_
    refine E_name (get_at 3 rfl rfl) nofun ?_
    refine ⟨_, .inr ⟨_, rfl, .inl List.mem_cons_self⟩, by rw [List.length_map, behindL_len, sizeLine_eq]; simp; exact om137 h4, ?_⟩
    exact ⟨[], _, .refl _, .inl ⟨_, rfl, congrArg SV.lst List.map_reverse.symm, rfl⟩⟩
end
section
noncomputable abbrev quiv (arrows : List Int) (t : Int) : AObj := .sdict [("arrows", iL arrows), ("taken", .int t)]
theorem sp414 (w : World) (q : Addr) (arrows : List Int) (t limit : Int) (ha : arrows.length ≤ 60) (ht : 0 ≤ t ∧ t < 10000) (hl : 0 < limit) :
    Spec w 1 (.ref 414) [.ref q, .int limit] [(q, quiv arrows t)] fun r H => (∃ x, r = .int x ∧ 0 ≤ x ∧ x < limit) ∧ H = [(q, quiv arrows (t + 1))] := by
  refine spec_of (ok414 w) rfl rfl fun A s' hb => ?_
  refine S_cons ?_; refine S_asgn (by repeat (first | exact List.mem_cons_self | apply List.mem_cons_of_mem)) ?_; refine E_sub ?_; refine E_name (get_at 0 rfl rfl) nofun ?_; refine E_str ?_
  refine O_item_sdict List.mem_cons_self (y := .int t) (by kernel_rfl) ?_
  refine ⟨_, by repeat (first | exact Put.here | apply Put.next), ?_⟩
  refine S_cons ?_; refine S_asub ?_; refine E_bin ?_; refine E_name (get_at 2 rfl rfl) nofun ?_; refine E_int ?_; refine O_add ?_; refine E_name (get_at 0 rfl rfl) nofun ?_; refine E_str ?_
  have hp : putS ([("arrows", iL arrows), ("taken", .int t)] : List (Str × SV)) "taken" (.int (t + 1)) = ([("arrows", iL arrows), ("taken", .int (t + 1))] : List (Str × SV)) := by kernel_rfl
  refine SI_sdict (kvs := [("arrows", iL arrows), ("taken", .int t)]) .here (Nat.le_of_ble_eq_true rfl) ?_
  rw [hp]
  refine S_cons ?_; refine S_asgn (by repeat (first | exact List.mem_cons_self | apply List.mem_cons_of_mem)) ?_
  refine E_ifx ?_; refine T_cmp ?_; refine E_name (get_at 2 rfl rfl) nofun ?_
  refine E_callB (by repeat (first | exact List.mem_cons_self | apply List.mem_cons_of_mem)) ?_
  refine A_cons ?_; refine E_sub ?_; refine E_name (get_at 0 rfl rfl) nofun ?_; refine E_str ?_
  refine O_item_sdict List.mem_cons_self (y := iL arrows) (by kernel_rfl) ?_
  refine A_nil ?_
  refine C_len_lst (by rw [List.length_map]; exact om138 ha) ?_
  refine O_lti ?_; refine ⟨_, rfl, ?_⟩
  refine ⟨fun h => ?_, fun h => ?_⟩
  · have h' : t < (arrows.length : Int) := by simpa using h
    have hx : arrows[t.toNat]? = some (arrows.getD t.toNat 0) := by simp [List.getD, show t.toNat < arrows.length by exact om139 ht h']
    refine E_sub ?_; refine E_sub ?_; refine E_name (get_at 0 rfl rfl) nofun ?_; refine E_str ?_
    refine O_item_sdict List.mem_cons_self (y := iL arrows) (by kernel_rfl) ?_
    refine E_name (get_at 2 rfl rfl) nofun ?_
    refine O_lat (x := .int (arrows.getD t.toNat 0)) ht.1 (by rw [List.getElem?_map, hx]; rfl) (by rw [List.length_map]; exact om138 ha) ?_
    refine ⟨_, by repeat (first | exact Put.here | apply Put.next), ?_⟩
    refine S_cons ?_; refine S_ret ?_; refine E_bin ?_; refine E_bin ?_; refine E_name (get_at 3 rfl rfl) nofun ?_; refine E_int ?_
    refine O_modi (by decide) ?_
    refine E_name (get_at 1 rfl rfl) nofun ?_
    refine O_modi (by exact om140 hl) ?_
    exact .inl ⟨_, rfl, ⟨_, rfl, Int.fmod_nonneg_of_pos _ hl, Int.fmod_lt_of_pos _ hl⟩, rfl⟩
  · refine E_bin ?_; refine E_bin ?_; refine E_bin ?_; refine E_bin ?_; refine E_int ?_; refine E_name (get_at 2 rfl rfl) nofun ?_
    refine O_mul ?_ ?_
    · exact .of_left (intBits_le (by omega))
    refine E_name (get_at 2 rfl rfl) nofun ?_
    refine O_mul ?_ ?_
    · exact .of_left (intBits_le (by omega))
    refine E_bin ?_; refine E_int ?_; refine E_name (get_at 2 rfl rfl) nofun ?_
    refine O_mul ?_ ?_
    · exact .of_left (intBits_le (by omega))
    refine O_add ?_; refine E_int ?_; refine O_add ?_
    refine ⟨_, by repeat (first | exact Put.here | apply Put.next), ?_⟩
    refine S_cons ?_; refine S_ret ?_; refine E_bin ?_; refine E_bin ?_; refine E_name (get_at 3 rfl rfl) nofun ?_; refine E_int ?_
    refine O_modi (by decide) ?_
    refine E_name (get_at 1 rfl rfl) nofun ?_
    refine O_modi (by exact om140 hl) ?_
    exact .inl ⟨_, rfl, ⟨_, rfl, Int.fmod_nonneg_of_pos _ hl, Int.fmod_lt_of_pos _ hl⟩, rfl⟩
end
section
noncomputable def fwdL (rows : List (List Int)) (lot last : List Int) : List Int := (insAll (last.flatMap fun s => lot.map fun l => gone rows s l)).filter (· ≠ 0)
noncomputable def aheadL (rows : List (List Int)) (start : Int) (lots : List (List Int)) : List (List Int) := lots.foldl (fun ls lot => ls ++ [fwdL rows lot (ls.getLastD [])]) [[start]]
theorem aheadL_snoc (rows : List (List Int)) (start : Int) (lots : List (List Int)) (lot : List Int) : aheadL rows start (lots ++ [lot]) = aheadL rows start lots ++ [fwdL rows lot ((aheadL rows start lots).getLastD [])] := by
  unfold aheadL; rw [List.foldl_append]; rfl
theorem aheadL_len (rows : List (List Int)) (start : Int) (lots : List (List Int)) : (aheadL rows start lots).length = lots.length + 1 := by
  have : ∀ (lots ls : List (List Int)), (lots.foldl (fun ls lot => ls ++ [fwdL rows lot (ls.getLastD [])]) ls).length = ls.length + lots.length := by
    intro lots
    induction lots with
    | nil => intro ls; simp
    | cons lot lots ih => intro ls; rw [List.foldl_cons, ih, List.length_append, List.length_cons]; simp; exact om117
  have := this lots [[start]]
  rw [aheadL, this]; simp; exact om21
theorem mem_fwdL {rows : List (List Int)} {lot last : List Int} {q : Int} : q ∈ fwdL rows lot last ↔ q ≠ 0 ∧ ∃ s ∈ last, ∃ l ∈ lot, gone rows s l = q := by
  unfold fwdL
  rw [List.mem_filter, mem_insAll, List.mem_flatMap]
  simp only [List.mem_map, decide_not, Bool.not_eq_true', decide_eq_false_iff_not]
  constructor
  · rintro ⟨⟨s, hs, l, hl, e⟩, h⟩; exact ⟨h, s, hs, l, hl, e⟩
  · rintro ⟨h, s, hs, l, hl, e⟩; exact ⟨⟨s, hs, l, hl, e⟩, h⟩
theorem small4 {x : Int} (h0 : 0 ≤ x) (h3 : x ≤ 3) : x ∈ [(0 : Int), 1, 2, 3] := by
  have : x = 0 ∨ x = 1 ∨ x = 2 ∨ x = 3 := by exact om141 h0 h3
  rcases this with rfl | rfl | rfl | rfl <;> simp
theorem insAll_len {ns : List Int} (h : ∀ x ∈ ns, x ∈ [(0 : Int), 1, 2, 3]) : (insAll ns).length ≤ 4 := (size_16 _ (insAll_16 h)).1
theorem aheadL_all {rows : List (List Int)} {m n : Nat} (T : Tab rows m n) {start : Int} (hs : 0 ≤ start ∧ start ≤ m) (ps : List (List Int)) : ∀ ly ∈ aheadL rows start ps, ly.length ≤ 4 ∧ ∀ s ∈ ly, 0 ≤ s ∧ s ≤ m := by
  have hm := T.m3
  have key : ∀ rl : List (List Int), ∀ ly ∈ aheadL rows start rl.reverse, ly.length ≤ 4 ∧ ∀ s ∈ ly, 0 ≤ s ∧ s ≤ m := by
    intro rl
    induction rl with
    | nil =>
      intro ly hly
      have : ly = [start] := List.mem_singleton.mp hly
      subst this
      exact ⟨by simp, fun s hs' => by rw [List.mem_singleton.mp hs']; exact hs⟩
    | cons lot rl ih =>
      intro ly hly
      rw [List.reverse_cons, aheadL_snoc] at hly
      rcases List.mem_append.mp hly with h | h
      · exact ih ly h
      · rw [List.mem_singleton.mp h]
        refine ⟨Nat.le_trans (List.length_filter_le _ _) (insAll_len fun x hx => ?_), fun s hs' => ?_⟩
        · obtain ⟨s, _, hx⟩ := List.mem_flatMap.mp hx
          obtain ⟨l, _, rfl⟩ := List.mem_map.mp hx
          have := gone_range T s l
          exact small4 this.1 (by exact om142 hm this)
        · obtain ⟨_, s0, _, l0, _, rfl⟩ := mem_fwdL.mp hs'
          exact gone_range T _ _
  have := key ps.reverse
  rw [List.reverse_reverse] at this
  exact this
theorem sp426 (w : World) {rows : List (List Int)} {m n : Nat} (T : Tab rows m n) (start : Int) (lots : List (List Int)) (hs : 0 ≤ start ∧ start ≤ m) (h4 : lots.length ≤ 4) (h3 : ∀ lot ∈ lots, lot.length ≤ 3 ∧ ∀ l ∈ lot, 1 ≤ l ∧ l ≤ n) :
    Spec w 2 (.ref 426) [rowsV rows, .int start, rowsV lots] [] fun r H => r = rowsV (aheadL rows start lots) ∧ H = [] := by
  refine spec_of (ok426 w) rfl rfl fun A s' hb => EvS.sub ?_
  have hm := T.m3; have hn := T.n3
  refine S_cons ?_; refine S_asgn (by repeat (first | exact List.mem_cons_self | apply List.mem_cons_of_mem)) ?_
  refine E_list (A_cons (E_listF (A_cons ?_)))
  refine E_name (get_at 1 rfl rfl) nofun ?_; refine A_nil ?_
  refine ⟨Nat.le_of_ble_eq_true rfl, ?_⟩
  refine A_nil ?_
  refine ⟨Nat.le_of_ble_eq_true rfl, fun a ha => ⟨_, by repeat (first | exact Put.here | apply Put.next), ?_⟩⟩
  refine S_cons (S_for_map (U := SV) (f := iL) (l := lots) (fun ps x => ⟨[rowsV rows, .int start, rowsV lots, .ref a, x], [(a, .list ((aheadL rows start ps).map iL))]⟩) ?_)
  refine E_name (get_at 2 rfl rfl) nofun ?_
  refine ⟨.lst _, ⟨_, rfl⟩, ?_, ?_⟩
  · intro P ps lot qs x1 F0 hl fin
    have hlot := h3 lot (by rw [hl]; simp)
    have hps : ps.length ≤ 4 := by have := congrArg List.length hl; simp at this; exact om125 h4 this
    obtain ⟨ini, last, hbl⟩ : ∃ ini last, aheadL rows start ps = ini ++ [last] := by
      rcases List.eq_nil_or_concat (aheadL rows start ps) with e | ⟨i, l, e⟩
      · have := aheadL_len rows start ps; rw [e] at this; simp at this
      · exact ⟨i, l, by simpa using e⟩
    have hini : ini.length ≤ 4 := by have := aheadL_len rows start ps; rw [hbl] at this; simp at this; exact om126 hps this
    have hlast := aheadL_all T hs ps last (by rw [hbl]; simp)
    have hsz : ((aheadL rows start ps).map iL).length ≤ sizeLine := by rw [List.length_map, aheadL_len, sizeLine_eq]; exact om127 hps
    have hnx : (aheadL rows start ps).map iL ++ [iL (fwdL rows lot last)] = (aheadL rows start (ps ++ [lot])).map iL := by rw [aheadL_snoc, hbl]; simp
    refine AT_name (by repeat (first | exact Put.here | apply Put.next)) (by repeat (first | exact List.mem_cons_self | apply List.mem_cons_of_mem)) ?_
    refine S_cons (S_expr (E_app ?_))
    refine E_name (get_at 3 rfl rfl) nofun ?_
    refine ⟨_, _, rfl, List.mem_cons_self, ?_⟩
    have hH : InH [(a, AObj.list ((aheadL rows start ps).map iL))] a (ini.map iL ++ [iL last]) := .inl (by rw [hbl, List.map_append]; exact List.mem_cons_self)
    refine EvV.abs (fun Q0 => Q0 (iL (fwdL rows lot last)) ⟨[rowsV rows, .int start, rowsV lots, .ref a, iL lot], [(a, AObj.list ((aheadL rows start ps).map iL))]⟩) ⟨_, _, .here, hsz, ?_⟩ fun Q0 fin => ?_
    · refine S_nil ?_
      show F0 .next ⟨_, [(a, .list ((aheadL rows start ps).map iL ++ [iL (fwdL rows lot last)]))]⟩
      rw [hnx]
      exact fin (iL lot)
    generalize [(a, AObj.list ((aheadL rows start ps).map iL))] = H₀ at hH fin ⊢
    have hlen : ∀ ss : List Int, ss.length ≤ 4 → (ss.flatMap fun s => lot.map fun l => gone rows s l).length ≤ 12 := fun ss h => by
      have : (ss.flatMap fun s => lot.map fun l => gone rows s l).length ≤ ss.length * 3 := flat_len fun x _ => by simpa using hlot.1
      exact om143 h this
    have hall : ∀ x ∈ last.flatMap fun s => lot.map fun l => gone rows s l, x ∈ [(0 : Int), 1, 2, 3] := fun x hx => by
      obtain ⟨s, _, hx⟩ := List.mem_flatMap.mp hx
      obtain ⟨l, _, rfl⟩ := List.mem_map.mp hx
      have := gone_range T s l
      exact small4 this.1 (by exact om142 hm this)
    refine E_callB (by repeat (first | exact List.mem_cons_self | apply List.mem_cons_of_mem)) (A_cons ?_)
    refine E_bin ?_
    refine E_callT (by repeat (first | exact List.mem_cons_self | apply List.mem_cons_of_mem)) (A_cons ?_)
    refine E_lc ["letter", "state"] ["moves", "lot"] [("_law_gone", .ref 421)] ⟨by kernel_rfl, fun p hp => by rw [List.mem_singleton.mp hp]; exact gi__law_gone w, by decide⟩ ?_
    refine E_sub ?_; refine E_name (get_at 3 rfl rfl) nofun ?_; refine E_una ?_; refine E_int ?_; refine O_negi ?_
    refine O_last (l := ini.map iL) (x := iL last) hH (by rw [List.length_map]; exact om136 hini) ?_
    skip
    refine ⟨_, [rowsV rows, iL lot], .lst _, .cons (by exact get_at 0 rfl rfl) (.cons (by exact get_at 4 rfl rfl) .nil), ?_⟩
    refine run_two (t2n := "letter") (tn' := ["state"]) rfl (fun pre acc H => ∃ ss qs : List Int, last = ss ++ qs ∧ pre = ss.map .int ∧ acc = (ss.flatMap fun s => lot.map fun l => gone rows s l).map .int ∧ H = H₀) ⟨[], _, rfl, rfl, rfl, rfl⟩ (fun _ _ => rfl) ?_ ?_
    · rintro C P pre x post acc H hx2 ⟨ss', qs', hq', rfl, rfl, rfl⟩
      obtain ⟨ss, st, qs2, hq, h1, rfl⟩ := split_map hx2
      obtain rfl := mapi h1
      have hss : ss'.length ≤ 3 := by have := hlast.1; rw [hq] at this; simp at this; exact om144 this
      have hst := hlast.2 st (by rw [hq]; simp)
      refine AT_name (by repeat (first | exact Put.here | apply Put.next)) (by repeat (first | exact List.mem_cons_self | apply List.mem_cons_of_mem)) ?_
      refine E_name (get_at 3 rfl rfl) nofun ?_
      refine ⟨_, [.int st, rowsV rows, iL lot], .lst _, ⟨_, rfl⟩, rfl, ⟨[_], rfl, rfl⟩, fun pre acc H' => ∃ ls qs : List Int, lot = ls ++ qs ∧ pre = ls.map .int ∧ acc = (ss'.flatMap fun s => lot.map fun l => gone rows s l).map .int ++ (ls.map fun l => gone rows st l).map .int ∧ H' = H, ⟨[], lot, rfl, rfl, by simp, rfl⟩, ?_, ?_, ?_⟩
      · rintro pre acc H ⟨ls, qs, hls, rfl, rfl, rfl⟩
        have h1 := hlen ss' (by exact om145 hss)
        have h2 : ls.length ≤ 3 := by have := hlot.1; rw [hls] at this; simp at this; exact om120 this
        simp only [List.length_append, List.length_map, sizeLine_eq]; exact om146 h1 h2
      · rintro P2 pre2 x2 post2 acc2 H2 hx3 ⟨ls', qs3, hls', rfl, rfl, rfl⟩
        obtain ⟨ls, l, qs4, hls, h1, rfl⟩ := split_map hx3
        obtain rfl := mapi h1
        have hlr := hlot.2 l (by rw [hls]; simp)
        refine AT_name .here (by repeat (first | exact List.mem_cons_self | apply List.mem_cons_of_mem)) ?_
        refine TT_nil ⟨fun _ => ?_, fun h => (nomatch h)⟩
        refine E_callF (a := 421) (fd := fd421) (by repeat (first | exact List.mem_cons_self | apply List.mem_cons_of_mem)) (fun w => ⟨_, _, _, (ok421 w).obj.choose_spec.choose_spec.choose_spec⟩) ?_
        refine A_cons ?_; refine E_name (get_at 2 rfl rfl) nofun ?_; refine A_cons ?_; refine E_name (get_at 1 rfl rfl) nofun ?_; refine A_cons ?_; refine E_name (get_at 0 rfl rfl) nofun ?_; refine A_nil ?_
        refine call_spec (sp421 w T st l hst hlr) (Nat.le_refl _) .nil ?_
        rintro sv H' ⟨rfl, rfl⟩
        exact ⟨⟨[_], rfl, rfl⟩, ls' ++ [l], qs4, by rw [hls]; simp, by simp, by simp, rfl⟩
      · rintro acc2 H2 ⟨ls, qs3, hls, h1, rfl, rfl⟩
        obtain rfl := mapi h1
        exact ⟨ss' ++ [st], qs2, by rw [hq]; simp, by simp, by simp, rfl⟩
    · rintro acc H ⟨ss, qs2, hq, h1, rfl, rfl⟩
      obtain rfl := mapi h1
      refine A_nil ?_
      refine C_set_lst hall fun sv hsv => ?_
      refine E_callT (by repeat (first | exact List.mem_cons_self | apply List.mem_cons_of_mem)) (A_cons ?_)
      refine E_listF (A_cons ?_)
      refine E_int ?_; refine A_nil ?_
      refine ⟨Nat.le_of_ble_eq_true rfl, ?_⟩
      refine A_nil ?_
      refine C_set_lst (ns := [0]) (by simp) fun tv htv => ?_
      refine O_sub_set hsv htv fun uv huv => ?_
      refine A_nil ?_
      refine C_sorted_set huv ?_
      exact fin
  · intro x1
    refine S_cons ?_; refine S_ret ?_
    refine EvV.frz ?_
    refine E_name (get_at 3 rfl rfl) nofun ?_
    exact ⟨a, _, [], rfl, .here, ha, [], [], .refl _, .inl ⟨_, rfl, rfl, rfl⟩⟩
end
section
section
variable {c : Cx} {σ : St} {g : PM} {s : Shared} {Q : SV → St → Prop}
theorem comp_leaveO {scope : Scope} {tn fn : List Str} {gl : List (Str × Value)} {C D : Addr} {g' : PM} {vals' : List SV} {acc : List SV} {H : AHeap} {s' : Shared} (R : Rel c g σ s) (hC : s.heap.objs.size ≤ C) (hD : s.heap.objs.size ≤ D)
    (gx : GX c.lo (P0 σ s) g g') (R' : Rel (compCx c scope tn fn gl C (P0 σ s)) g' ⟨vals', (D, .list acc) :: H⟩ s') :
    GX c.lo c.pr g g' ∧ Rel c g' ⟨σ.vals, (D, .list acc) :: H⟩ s' ∧ ¬ Needs c g' ⟨σ.vals, (D, .list acc) :: H⟩ C ∧ c.lo ≤ D ∧ ∃ m, s'.heap.Ns C m := by
  have ok := R.ok
  obtain ⟨m, cm, n, cl, vs⟩ := R.fr
  have p1 : ∀ a o, s.heap.get? a = some o → a ∉ fpH σ.heap → P0 σ s a = some o := fun a o e hn => by unfold P0; rw [if_neg hn]; exact e
  have le : c.pr.le (P0 σ s) := fun a o e => p1 a o (R.pr a o e) fun hm => by rw [R.fpP a hm] at e; cases e
  have need : ∀ a, Needs c g σ a → a < s.heap.objs.size := fun a n => R.needs_lt n
  have locLt : c.env.locals < s.heap.objs.size := n.lt
  have locP : ∃ o, P0 σ s c.env.locals = some o := by
    obtain ⟨o, es, ep, ho, r⟩ := n
    exact ⟨o, p1 _ o ho fun hm => R.fpL _ hm rfl⟩
  have ownP : ∀ x a, c.own.lookup x = some a → ∃ o, P0 σ s a = some o := fun x a h => by
    obtain ⟨o, ho, _⟩ := cl x a h
    exact ⟨o, p1 _ o ho fun hm => R.fpC _ hm x a h rfl⟩
  have ownLt : ∀ x a, c.own.lookup x = some a → a < s.heap.objs.size := fun x a h => (cl x a h).lt
  obtain ⟨R₁, hn, hr⟩ := R'.drop (σ := ⟨vals', H⟩)
  have hDn := hn D (by simp [fpO])
  have keepP : ∀ a o, P0 σ s a = some o → s'.heap.get? a = some o := fun a o e => R₁.pr a o e
  have prOf : ∀ a, P0 σ s a = none → c.pr a = none := fun a e => by
    cases q : c.pr a with
    | none => rfl
    | some o => rw [le a o q] at e; cases e
  have R₂ : Rel c g' ⟨σ.vals, H⟩ s' := {
    ok := ok
    sh := R₁.sh
    pr := fun a o e => keepP a o (le a o e)
    gh := R₁.gh
    nodup := R₁.nodup
    fpG := R₁.fpG
    fpP := fun a h => prOf a (R₁.fpP a h)
    fpL := fun a h e => by
      obtain ⟨o, ho⟩ := locP
      have : P0 σ s a = none := R₁.fpP a h
      rw [e, ho] at this; cases this
    fpLo := R₁.fpLo
    fpC := fun a h x b hb e => by
      obtain ⟨o, ho⟩ := ownP x b hb
      have : P0 σ s a = none := R₁.fpP a h
      rw [e, ho] at this; cases this
    objs := R₁.objs
    gL := by
      cases q : g' c.env.locals with
      | none => rfl
      | some o' =>
        obtain ⟨o, ho⟩ := locP
        have := (gx.2 _ R.gL (by rw [q]; exact nofun)).2
        rw [ho] at this; cases this
    gC := fun x a h => by
      cases q : g' a with
      | none => rfl
      | some o' =>
        obtain ⟨o, ho⟩ := ownP x a h
        have := (gx.2 _ (R.gC x a h) (by rw [q]; exact nofun)).2
        rw [ho] at this; cases this
    fr := by
      refine ⟨m, cm, n.at' fun o e => keepP _ o (p1 _ o e fun hm => R.fpL _ hm rfl), fun x a h => ?_, fun p hp => (vs p hp).imp id fun ⟨v, hv, r⟩ => ⟨v, hv, r.mono gx.1⟩⟩
      obtain ⟨o, ho, hd⟩ := cl x a h
      exact ⟨o, keepP _ o (p1 _ o ho fun hm => R.fpC _ hm x a h rfl), hd⟩ }
  have prNone : ∀ a, s.heap.objs.size ≤ a → c.pr a = none := fun a ha => by
    cases q : c.pr a with
    | none => rfl
    | some o => exact absurd (Heap.lt_size (R.pr a o q)) (Nat.not_lt.mpr ha)
  have hD₂ : ¬ Needs c g' ⟨σ.vals, H⟩ D := fun n => by
    rcases n with ⟨o, h⟩ | ⟨o, h⟩ | h | h | ⟨x, h⟩
    · rw [prNone D hD] at h; cases h
    · exact hDn (.inr (.inl ⟨o, h⟩))
    · exact hDn (.inr (.inr (.inl h)))
    · exact absurd locLt (Nat.not_lt.mpr (h ▸ hD))
    · exact absurd (ownLt x D h) (Nat.not_lt.mpr hD)
  have hCD : C ≠ D := fun e => hDn (.inr (.inr (.inr (.inl e.symm))))
  have lo := R.lo
  have inD : ∀ b ∈ fpO D (.list acc), b = D := fun b hb => List.mem_singleton.mp (show b ∈ [D] from hb)
  have R₃ := R₂.adopt (a := D) (ob := .list acc) (fun b hb => by rw [inD b hb]; exact hD₂) (fun b hb => by rw [inD b hb]; exact Nat.le_trans lo hD) (by show [D].Nodup; simp) hr
  refine ⟨gx.weak le, R₃, fun n => ?_, Nat.le_trans lo hD, ?_⟩
  · rcases n with ⟨o, h⟩ | ⟨o', h⟩ | h | h | ⟨x, h⟩
    · rw [prNone C hC] at h; cases h
    · have gC' : g' C = none := R₁.gL
      rw [gC'] at h; cases h
    · rcases List.mem_append.mp (show C ∈ [D] ++ fpH H from h) with h | h
      · exact hCD (List.mem_singleton.mp h)
      · exact R₁.fpL C h rfl
    · exact absurd locLt (Nat.not_lt.mpr (h ▸ hC))
    · exact absurd (ownLt x C h) (Nat.not_lt.mpr hC)
  · obtain ⟨m', _, n', _⟩ := R₁.fr
    exact ⟨m', n'⟩
theorem comp_coreO {elt target iter : Expr} {ifs : List Expr} {gens : List Comprehension} {scope : Scope} {pos ipos : Pos} {tn fn : List Str} {gl : List (Str × Value)} {use : Option (Value → Sem Unit)} {QQ : Value → Shared → Prop}
    (hs : ∀ x, foldedSetIterable iter c.env x = pure x) (ci : CompIn c scope tn fn gl)
    (R : Rel c g σ s)
    (h : EE c iter σ fun sv σ₁ => ∃ xs fv, Iters target sv xs ∧ Gets c.ns σ₁.vals fn fv ∧ ∃ Q, CompRun c elt target iter ifs gens scope pos tn fn gl fv σ₁.heap xs Q ∧
      ∀ g' acc H s' C D, GX c.lo c.pr g g' → Rel c g' ⟨σ₁.vals, (D, .list acc) :: H⟩ s' → ¬ Needs c g' ⟨σ₁.vals, (D, .list acc) :: H⟩ C → c.lo ≤ D → (∃ m, s'.heap.Ns C m) → Q acc H → compPost (model pw c.w) c.A (fun _ _ => False) use QQ (.ref D) C (.ok .next) s') :
    wpAny (model pw c.w) c.A (comprehension (.ListComp elt (⟨target, iter, ifs, 0⟩ :: gens) scope pos) scope c.env ipos (newList []) false (eval iter c.env) use) QQ (fun _ _ => False) s := by
  obtain ⟨hkind, hnm, htn, hfn, hgn⟩ := ci.parts
  refine wpAny_comprehension_free rfl hs (closure_eq fun p hp => (hnm p hp).2) hkind (fun x hx e => (hnm x hx).1 e) ?_
  refine stage R (xs := []) (vs := []) rfl h fun g₁ σ₁ s₁ sv v x₁ R₁ r₁ q₁ => ?_
  obtain ⟨u, e, r⟩ := rep1 r₁
  cases e
  obtain ⟨xs, fv, its, gets, Q, run, fin⟩ := q₁
  refine iterate R₁ r its fun I St s₂ it hst R₂ hI hIlo hsz up => ?_
  refine wpAny_newObj_type (wpAny_newCompEnv ?_)
  have hle : s₁.heap.objs.size ≤ s₂.heap.objs.size := by
    obtain ⟨oI, hoI⟩ := it.live _ _ hst
    have := Heap.lt_size hoI
    rw [← hsz] at this
    exact Nat.le_of_lt this
  have hIlt : I < s₂.heap.objs.size := by obtain ⟨oI, hoI⟩ := it.live _ _ hst; exact Heap.lt_size hoI
  have hsh : ∃ h tk, s₂ = { s₁ with heap := h, toks := tk } := by
    obtain ⟨h, t, e1⟩ := R₁.sh
    obtain ⟨h', t', e2⟩ := R₂.sh
    exact ⟨h', t', by rw [e1, e2]⟩
  have Rc := comp_enter ci R₁ gets up hsh hle
  have hsz2 : (s₂.heap.push { cls := .type "list", dict := none, data := .seq ([] : List Value).toArray }).objs.size = s₂.heap.objs.size + 1 := Heap.size_push ..
  have hup : ∀ a o, s₂.heap.get? a = some o → (pushCells ((s₂.heap.push { cls := .type "list", dict := none, data := .seq ([] : List Value).toArray }).push { cls := .type "dict", data := .dict #[] }) scope.names).get? a = some o := fun a o e =>
    pushCells_keeps _ _ a o (Heap.get?_push_of_some _ (Heap.get?_push_of_some _ e))
  have key := run (s₂.heap.objs.size + 1) (P0 σ₁ s₁) s₂.heap.objs.size I St g₁ _ (compPost (model pw c.w) c.A (fun _ _ => False) use QQ (.ref s₂.heap.objs.size) (s₂.heap.objs.size + 1)) Rc it
    (it.frame _ _ _ hst fun b hb o e => hup b o e) ?_ ?_
  · dsimp only
    rw [hsz2]
    exact key
  · rintro (⟨o, h⟩ | ⟨o, h⟩ | h | h | ⟨x, h⟩)
    · have h' : P0 σ₁ s₁ I = some o := h
      unfold P0 at h'
      split at h'
      · cases h'
      · exact absurd (Heap.lt_size h') (Nat.not_lt.mpr (Nat.le_of_eq hsz))
    · exact hI (.inr (.inl ⟨o, h⟩))
    · rcases List.mem_append.mp (show I ∈ [s₂.heap.objs.size] ++ fpH σ₁.heap from h) with h | h
      · exact Nat.lt_irrefl _ (List.mem_singleton.mp h ▸ hIlt)
      · exact hI (.inr (.inr (.inl h)))
    · exact absurd (show I = s₂.heap.objs.size + 1 from h) (Nat.ne_of_lt (Nat.lt_succ_of_lt hIlt))
    · exact absurd (cellsFrom_ge (lo := s₂.heap.objs.size + 1 + 1) scope.names _ [] (fun _ h => nomatch h) (Nat.le_refl _) _ (mem_of_lookup h)) (Nat.not_le.mpr (Nat.lt_trans hIlt (Nat.lt_trans (Nat.lt_succ_self _) (Nat.lt_succ_self _))))
  · intro g' σ' acc s' gx R' q
    obtain ⟨gx₂, R₃, hn, hlo, hm⟩ := comp_leaveO (vals' := σ'.vals) (H := σ'.heap) R₁ (Nat.le_trans hle (Nat.le_succ _)) hle gx R'
    exact fin g' acc σ'.heap s' _ _ (x₁.trans gx₂) R₃ hn hlo hm q
theorem S_lcO {x : Str} {p' p : Pos} {elt target iter : Expr} {ifs : List Expr} {gens : List Comprehension} {scope : Scope} {pos : Pos} (tn fn : List Str) (gl : List (Str × Value)) {F : Fl → St → Prop}
    (hsw : swapsWith (.ListComp elt (⟨target, iter, ifs, 0⟩ :: gens) scope pos) (some (.Name x p')) p.line c.env = pure true)
    (ci : CompIn c scope tn fn gl) (hx : x ∈ c.st)
    (h : EE c iter σ fun sv σ₁ => ∃ xs fv, Iters target sv xs ∧ Gets c.ns σ₁.vals fn fv ∧ CompRun c elt target iter ifs gens scope pos tn fn gl fv σ₁.heap xs fun acc H => ∀ D, c.lo ≤ D → ∃ vals', Put c.ns σ₁.vals x (.ref D) vals' ∧ F .next ⟨vals', (D, .list acc) :: H⟩)
    (hs : ∀ x, foldedSetIterable iter c.env x = pure x := by intro _; rfl) (hsync : firstAsync (⟨target, iter, ifs, 0⟩ :: gens) = false := by rfl) : SS c (.Assign [.Name x p'] (.ListComp elt (⟨target, iter, ifs, 0⟩ :: gens) scope pos) p) σ F := fun g s R => by
  rw [exec_Assign_Name_used _ _ _ _ hsw]
  refine wpAny_bind (wpAny_standAt (wpAny_bind ?_))
  show wpAny _ _ (do let _ ← comprehension (.ListComp elt (⟨target, iter, ifs, 0⟩ :: gens) scope pos) scope c.env _ (newList []) false (eval iter c.env) (some (assign (.Name x p') c.env))) _ _ s
  refine wpAny_bind (wpAny_mono (comp_coreO (use := some (assign (.Name x p') c.env)) (QQ := fun _ s' => ∃ g' σ' fl, GX c.lo c.pr g g' ∧ Rel c g' σ' s' ∧ RepF g' fl .next ∧ F fl σ') hs ci R
    (EvV.mono h fun sv σ₁ ⟨xs, fv, its, gets, run⟩ => ⟨xs, fv, its, gets, _, run, fun g' acc H s' C D gx R' hn hlo hm hq => ?_⟩)) (fun _ s' hq => wpAny_pure (wpAny_pure hq)) fun _ _ f => f)
  obtain ⟨m, oC, es, ep, hoC, hrest⟩ := hm
  obtain ⟨vals', hp, q⟩ := hq D hlo
  have rv : RepV g' (.ref D) (.ref D) := rfl
  show wpAny _ _ (assign (.Name x p') c.env (.ref D)) _ _ _
  refine wpAny_assign_Name (st_name (c := c.pin (Pall c ⟨σ₁.vals, (D, .list acc) :: H⟩ s')) (σ := ⟨σ₁.vals, (D, .list acc) :: H⟩) R'.pinned rv hp hx fun s'' R'' => ?_)
  have off := R'.off hn hoC (.refl _ _ _) R''
  have R₃ := R'.unpin (Pall.le R') R''
  refine ⟨m, ⟨oC, es, ep, off.2, hrest⟩, fun h' hs' => ⟨g', ⟨vals', (D, .list acc) :: H⟩, .next, gx, ?_, rfl, q⟩⟩
  exact R₃.heap (tk := s''.toks) fun a na o e => (hs'.2 a (fun q => off.1 (q ▸ na))).trans e
theorem kf_of {k : Int} : ∀ {vs : List Value} {ns : List Int}, IntsAre vs ns → kf_ints vs = true ∧ (k ∈ ns → ∃ j, kf_at k vs = some j ∧ ns.erase k = ns.eraseIdx j)
  | _, _, .nil => ⟨rfl, fun h => nomatch h⟩
  | _, _, .cons (n := n) t h => by
    rename_i vs ns
    obtain ⟨h1, h2⟩ := kf_of (k := k) h
    refine ⟨h1, fun hk => ?_⟩
    by_cases e : k = n
    · subst e
      exact ⟨0, by unfold kf_at; simp [isInt], by simp⟩
    · have hk' : k ∈ ns := by
        rcases List.mem_cons.mp hk with h | h
        · exact absurd h e
        · exact h
      obtain ⟨j, e1, e2⟩ := h2 hk'
      refine ⟨j + 1, ?_, ?_⟩
      · have hb : isInt k (.int n t) = false := by
          unfold isInt
          simp
          first | exact e | exact fun q => e q.symm
        unfold kf_at; rw [e1, hb]; rfl
      · rw [List.erase_cons_tail (by simpa using fun q => e q.symm), e2]; rfl
theorem RepVs.eraseIdx {g : PM} : ∀ {l : List SV} {vs : List Value} (j : Nat), RepVs g l vs → RepVs g (l.eraseIdx j) (vs.eraseIdx j)
  | [], vs, j, e => by cases e; exact rfl
  | x :: l, vs, 0, ⟨u, vr, e, h1, h2⟩ => by subst e; exact h2
  | x :: l, vs, j + 1, ⟨u, vr, e, h1, h2⟩ => by subst e; exact ⟨u, vr.eraseIdx j, rfl, h1, h2.eraseIdx j⟩
theorem map_eraseIdx' : ∀ (ns : List Int) (j : Nat), (ns.eraseIdx j).map SV.int = (ns.map SV.int).eraseIdx j
  | [], _ => rfl
  | _ :: _, 0 => rfl
  | n :: ns, j + 1 => by rw [List.eraseIdx_cons_succ, List.map_cons, List.map_cons, List.eraseIdx_cons_succ, map_eraseIdx' ns j]
theorem C_remove {a : Addr} {ns : List Int} {x : Int} {H' : AHeap} (u : HUpd σ.heap a (.list (ns.map .int)) (.list ((ns.erase x).map .int)) H') (hx : x ∈ ns) (hsz : ns.length ≤ sizeLine) (q : Q .none { σ with heap := H' }) : CallV c (.builtin "list.remove") [.ref a, .int x] σ Q := fun g s vs R r => by
  obtain ⟨v1, v2, rfl, r1, ⟨t, rfl⟩⟩ := rep2 r
  have r1' : v1 = .ref a := r1
  subst r1'
  obtain ⟨ws, ⟨n, hl⟩, rs⟩ := R.objs _ u.mem
  have hi := ints_of rs
  obtain ⟨h1, h2⟩ := kf_of (k := x) hi
  obtain ⟨j, e1, e2⟩ := h2 hx
  obtain ⟨b1, b2, b3⟩ := kf_at_spec e1
  have hz : ws.length = ns.length := by simpa using rs.length
  refine call_meets PySem.F.slot_list_remove ⟨_, hl, rfl⟩ PySem.F.entry_list_remove (PySem.F.args_list_remove_2 _ _)
    (MeetsSeq.list_remove a ws.toArray n (.int x t) (isInt x) (fun y hy => kf_eq h1 y (by simpa using hy)) j (by simpa using b1) (by simpa using b2) (fun i hi hlt => by simpa using b3 i (by simpa using hi) hlt) (by simpa [hz] using hsz)) ⟨hl, ?_⟩
  have hs := Heap.SameBut.update s.heap a (Obj.mapSeq fun xs => xs.eraseIdxIfInBounds j)
  refine done1 (sv := .none) (R.mutate (h' := s.heap.update a (Obj.mapSeq fun xs => xs.eraseIdxIfInBounds j)) (tk := s.toks) u rfl (fun b o hb e => (hs.2 b (fun q => hb (by rw [q]; simp [fpO]))).trans e) ?_) rfl q
  have em : ws.toArray.eraseIdxIfInBounds j = (ws.eraseIdx j).toArray := by simp
  have ho : (s.heap.update a (Obj.mapSeq fun xs => xs.eraseIdxIfInBounds j)).get? a = some (Obj.mapSeq (fun xs => xs.eraseIdxIfInBounds j) { cls := .type "list", data := .seq ws.toArray n }) := Heap.get?_update_self _ hl (by rfl)
  refine ⟨ws.eraseIdx j, ?_, by rw [e2, map_eraseIdx']; exact rs.eraseIdx j⟩
  unfold Obj.mapSeq at ho
  dsimp only at ho
  rw [em] at ho
  exact ⟨_, ho⟩
noncomputable def Ents (bs : List Addr) (ls : List (List SV)) : AHeap := (bs.zip ls).map fun p => (p.1, .list p.2)
theorem Rel.permH {vals : List SV} {H H' : AHeap} (R : Rel c g ⟨vals, H⟩ s) (p : H.Perm H') : Rel c g ⟨vals, H'⟩ s := R.sub (σ := ⟨vals, H⟩) (G := H') (R := []) (by simpa using p)
theorem Rel.freezeAll {vals : List SV} : ∀ {bs : List Addr} {ls : List (List SV)} {H : AHeap} {g : PM}, bs.length = ls.length → (∀ b ∈ bs, c.lo ≤ b) → Rel c g ⟨vals, Ents bs ls ++ H⟩ s →
    ∃ g', GX c.lo c.pr g g' ∧ Rel c g' ⟨vals, H⟩ s ∧ RepVs g' (ls.map .lst) (bs.map .ref)
  | [], [], H, g, _, _, R => ⟨g, .refl _ _ _, R, rfl⟩
  | b :: bs, l :: ls, H, g, hl, hlo, R => by
    obtain ⟨g₁, gx₁, R₁, rv⟩ := R.freeze (a := b) (l := l) (H := Ents bs ls ++ H) .here (hlo b List.mem_cons_self)
    obtain ⟨g₂, gx₂, R₂, rs⟩ := Rel.freezeAll (bs := bs) (ls := ls) (by simpa using hl) (fun b hb => hlo b (List.mem_cons_of_mem _ hb)) R₁
    exact ⟨g₂, gx₁.trans gx₂, R₂, _, _, rfl, rv.mono gx₂.1, rs⟩
  | [], _ :: _, _, _, hl, _, _ => nomatch hl
  | _ :: _, [], _, _, hl, _, _ => nomatch hl
theorem refs_of {g : PM} : ∀ {bs : List Addr} {vs : List Value}, RepVs g (bs.map .ref) vs → vs = bs.map .ref
  | [], vs, e => by cases e; rfl
  | b :: bs, vs, ⟨v, vr, e, h1, h2⟩ => by subst e; have := refs_of h2; subst this; have h1' : v = .ref b := h1; subst h1'; rfl
theorem EvS.freezeAll {t : Sem Flow} {F : Fl → Mine.St → Prop} {vals vals' : List SV} {x : Str} {bs : List Addr} {ls : List (List SV)} {H H' : AHeap} (hp : H.Perm (Ents bs ls ++ H')) (hl : bs.length = ls.length) (hlo : ∀ b ∈ bs, c.lo ≤ b)
    (hx : (x, SV.lst (bs.map .ref)) ∈ c.ns.zip vals) (pt : Put c.ns vals x (.lst (ls.map .lst)) vals') (h : EvS c t ⟨vals', H'⟩ F) : EvS c t ⟨vals, H⟩ F := fun g s R => by
  obtain ⟨g₁, gx, R₁, rs⟩ := (R.permH hp).freezeAll hl hlo
  have R₂ : Rel c g₁ ⟨vals', H'⟩ s := {
    ok := R₁.ok, sh := R₁.sh, pr := R₁.pr, gh := R₁.gh, nodup := R₁.nodup, fpG := R₁.fpG, fpP := R₁.fpP, fpL := R₁.fpL, fpLo := R₁.fpLo, fpC := R₁.fpC, objs := R₁.objs, gL := R₁.gL, gC := R₁.gC
    fr := by
      obtain ⟨m, cm, n, cl, vs⟩ := R₁.fr
      refine ⟨m, cm, n, cl, fun p hpm => ?_⟩
      rcases pt.of R₁.ok.nd p hpm with e | ⟨h1, _⟩
      · subst e
        rcases vs _ hx with e | ⟨v, hv, a, o, ws, k, rfl, ha, hc, hd, rw⟩
        · cases e
        · have := refs_of rw
          subst this
          exact .inr ⟨_, hv, a, o, _, k, rfl, ha, hc, hd, rs⟩
      · exact vs p h1 }
  exact liftS gx h R₂
end
end
section
noncomputable def Post (w : World) (g : PM) (H : AHeap) (s : Shared) (Q : SV → AHeap → Prop) (v : Value) (s' : Shared) : Prop := ∃ g' H' sv, GX s.heap.objs.size (fun _ => none) g g' ∧ (∀ a o, g' a = some o → s'.heap.get? a = some o) ∧ HeapOk w g' H' s'.heap ∧
      (∀ a ∈ fpH H', a ∈ fpH H ∨ s.heap.objs.size ≤ a) ∧ (∀ a o, a ∉ fpH H → s.heap.get? a = some o → s'.heap.get? a = some o) ∧
      (∃ h tk, s' = { s with heap := h, toks := tk }) ∧ RepV g' sv v ∧ Q sv H'
noncomputable def SpecC (w : World) (lv : Nat) (f : Value) (xs : List SV) (H : AHeap) (Q : SV → AHeap → Prop) : Prop :=
  ∀ (A : Around) (hb : Heap) (g : PM) (s : Shared) (vs : List Value), Roomy lv A → World0 w hb → (∀ b o, hb.get? b = some o → s.heap.get? b = some o) → (∀ a o, g a = some o → s.heap.get? a = some o) →
    HeapOk w g H s.heap → (∀ a ∈ fpH H, hb.get? a = none) → RepVs g xs vs →
    codeAny (model pw w) A (.call f ⟨vs, []⟩) (fun r s' => ∃ v, r = .ok (.ret v) ∧ Post w g H s Q v s') s
theorem SpecC.spec {w : World} {lv : Nat} {f : Value} {xs : List SV} {H : AHeap} {Q : SV → AHeap → Prop} (h : SpecC w lv f xs H Q) : Spec w lv f xs H Q := fun A hb g s vs a1 a2 a3 a4 a5 a6 a7 =>
  wpAny_call (codeAny_mono (h A hb g s vs a1 a2 a3 a4 a5 a6 a7) fun r s' ⟨v, e, p⟩ => by subst e; exact p)
section
variable {c : Cx} {σ : St} {Q : SV → St → Prop}
theorem spec_pre {g : PM} {s : Shared} {Hs R : AHeap} (Rl : Rel c g σ s) (split : Split σ.heap Hs R) :
    World0 c.w c.hb ∧ (∀ b o, c.hb.get? b = some o → s.heap.get? b = some o) ∧ (∀ a o, g a = some o → s.heap.get? a = some o) ∧ HeapOk c.w g Hs s.heap ∧ (∀ a ∈ fpH Hs, c.hb.get? a = none) := by
  have pm := split.perm
  have nd : (fpH Hs ++ fpH R).Nodup := by rw [← fpH_append]; exact (fpH_perm pm).nodup_iff.mp Rl.nodup
  obtain ⟨ndS, ndR, dis⟩ := List.nodup_append.mp nd
  have inS : ∀ a, a ∈ fpH Hs → a ∈ fpH σ.heap := fun a h => (mem_fpH_perm pm).mpr (by rw [fpH_append]; exact List.mem_append_left _ h)
  refine ⟨Rl.ok.W, fun b o e => Rl.pr b o (Rl.ok.base b o e), Rl.gh, ⟨ndS, fun a h => Rl.fpG a (inS a h), fun e he => Rl.objs e (pm.mem_iff.mpr (List.mem_append_left _ he))⟩, fun a h => ?_⟩
  cases e : c.hb.get? a with
  | none => rfl
  | some o => have := Rl.ok.base a o e; rw [Rl.fpP a (inS a h)] at this; cases this
theorem spec_post {g : PM} {s s' : Shared} {Hs R : AHeap} {v : Value} {P : SV → AHeap → Prop} (Rl : Rel c g σ s) (split : Split σ.heap Hs R) (po : Post c.w g Hs s P v s')
    (q : ∀ sv H', P sv H' → Q sv { σ with heap := H' ++ R }) : ∃ g' σ' sv, GX c.lo c.pr g g' ∧ Rel c g' σ' s' ∧ RepV g' sv v ∧ Q sv σ' := by
  obtain ⟨g', H', sv, gx, gh, HO, fpN, keep, sh, rv, hp⟩ := po
  have pm := split.perm
  have nd : (fpH Hs ++ fpH R).Nodup := by rw [← fpH_append]; exact (fpH_perm pm).nodup_iff.mp Rl.nodup
  obtain ⟨ndS, ndR, dis⟩ := List.nodup_append.mp nd
  have inS : ∀ a, a ∈ fpH Hs → a ∈ fpH σ.heap := fun a h => (mem_fpH_perm pm).mpr (by rw [fpH_append]; exact List.mem_append_left _ h)
  have inR : ∀ a, a ∈ fpH R → a ∈ fpH σ.heap := fun a h => (mem_fpH_perm pm).mpr (by rw [fpH_append]; exact List.mem_append_right _ h)
  have ok := Rl.ok
  have lt : ∀ a, Needs c g σ a → a < s.heap.objs.size := fun a n => Rl.needs_lt n
  obtain ⟨h₁, tk₁, rfl⟩ := sh
  have locLt := lt _ (show Needs c g σ c.env.locals from .inr (.inr (.inr (.inl rfl))))
  have ownLt : ∀ x a, c.own.lookup x = some a → a < s.heap.objs.size := fun x a h => lt a (.inr (.inr (.inr (.inr ⟨x, h⟩))))
  have RLt : ∀ a ∈ fpH R, a < s.heap.objs.size := fun a h => lt a (.inr (.inr (.inl (inR a h))))
  have gN : ∀ a, a < s.heap.objs.size → g a = none → g' a = none := fun a hlt hn => by
    cases e : g' a with
    | none => rfl
    | some o => exact absurd (gx.2 a hn (by rw [e]; exact nofun)).1 (Nat.not_le.mpr hlt)
  have prN : ∀ a, s.heap.objs.size ≤ a → c.pr a = none := fun a h => by
    cases e : c.pr a with
    | none => rfl
    | some o => exact absurd (Heap.lt_size (Rl.pr a o e)) (Nat.not_lt.mpr h)
  refine ⟨g', _, sv, ⟨gx.1, fun a h h' => ⟨Nat.le_trans Rl.lo (gx.2 a h h').1, prN a (gx.2 a h h').1⟩⟩, ?_, rv, q sv H' hp⟩
  obtain ⟨m, cm, n, cl, vars⟩ := Rl.fr
  exact {
    ok := ok
    sh := by obtain ⟨h, t, rfl⟩ := Rl.sh; exact ⟨h₁, tk₁, rfl⟩
    pr := fun a o e => keep a o (fun h => by rw [Rl.fpP a (inS a h)] at e; cases e) (Rl.pr a o e)
    gh := gh
    nodup := by
      show (fpH (H' ++ R)).Nodup
      rw [fpH_append]
      refine List.nodup_append.mpr ⟨HO.nodup, ndR, fun a ha b hb e => ?_⟩
      subst e
      rcases fpN a ha with h | h
      · exact dis a h a hb rfl
      · exact absurd (RLt a hb) (Nat.not_lt.mpr h)
    fpG := fun a h => by
      rcases List.mem_append.mp (show a ∈ fpH H' ++ fpH R by rw [← fpH_append]; exact h) with h | h
      · exact HO.fpG a h
      · exact gN a (RLt a h) (Rl.fpG a (inR a h))
    fpP := fun a h => by
      rcases List.mem_append.mp (show a ∈ fpH H' ++ fpH R by rw [← fpH_append]; exact h) with h | h
      · rcases fpN a h with h | h
        · exact Rl.fpP a (inS a h)
        · exact prN a h
      · exact Rl.fpP a (inR a h)
    fpL := fun a h => by
      rcases List.mem_append.mp (show a ∈ fpH H' ++ fpH R by rw [← fpH_append]; exact h) with h | h
      · rcases fpN a h with h | h
        · exact Rl.fpL a (inS a h)
        · exact Nat.ne_of_gt (Nat.lt_of_lt_of_le locLt h)
      · exact Rl.fpL a (inR a h)
    fpLo := fun a h => by
      rcases List.mem_append.mp (show a ∈ fpH H' ++ fpH R by rw [← fpH_append]; exact h) with h | h
      · rcases fpN a h with h | h
        · exact Rl.fpLo a (inS a h)
        · exact .inr (Nat.le_trans Rl.lo h)
      · exact Rl.fpLo a (inR a h)
    fpC := fun a h x b hb => by
      rcases List.mem_append.mp (show a ∈ fpH H' ++ fpH R by rw [← fpH_append]; exact h) with h | h
      · rcases fpN a h with h | h
        · exact Rl.fpC a (inS a h) x b hb
        · exact Nat.ne_of_gt (Nat.lt_of_lt_of_le (ownLt x b hb) h)
      · exact Rl.fpC a (inR a h) x b hb
    objs := fun e he => by
      rcases List.mem_append.mp he with he | he
      · exact HO.objs e he
      · refine ((Rl.objs e (pm.mem_iff.mpr (List.mem_append_right _ he))).mono gx.1).keep fun b hb o ho => keep b o (fun h => ?_) ho
        exact dis b h b (mem_fpH he hb) rfl
    gL := gN _ locLt Rl.gL
    gC := fun x a h => gN a (ownLt x a h) (Rl.gC x a h)
    fr := by
      refine ⟨m, cm, ?_, fun x a h => ?_, fun p hp => (vars p hp).imp id fun ⟨u, hu, r⟩ => ⟨u, hu, r.mono gx.1⟩⟩
      · obtain ⟨o, es, ep, ho, r⟩ := n
        exact ⟨o, es, ep, keep _ o (fun h => Rl.fpL _ (inS _ h) rfl) ho, r⟩
      · obtain ⟨o, ho, r⟩ := cl x a h
        exact ⟨o, keep a o (fun h' => Rl.fpC _ (inS _ h') x a h rfl) ho, r⟩ }
theorem tc_weight (C : Addr) (rest : List Value) : (Code.builtin "type.__call__" ⟨.ref C :: rest, []⟩).weight = 1 := by kernel_rfl
theorem tc_units (C : Addr) (rest : List Value) : (Code.builtin "type.__call__" ⟨.ref C :: rest, []⟩).cUnits = 1 := by kernel_rfl
theorem Roomy.under {lv : Nat} {A : Around} (r : Roomy (lv + 1) A) (C : Addr) (rest : List Value) : Roomy lv (A.under (.builtin "type.__call__" ⟨.ref C :: rest, []⟩)) where
  hh := r.hh
  dp := by have := r.dp; show A.depth + _ + _ < _; rw [tc_weight]; exact om4 this
  un := by have := r.un; show A.units + _ + _ < _; rw [tc_units]; exact om147 this
theorem C_make {C fI : Addr} {xs : List SV} {Hs R : AHeap} {lv : Nat} {P : Addr → Addr → SV → AHeap → Prop}
    (hm : ∀ w : World, makesIn (KK w.params) C = true) (hi : ∀ w : World, findIn (KK w.params) (.ref C) "__init__" = some (some (.ref fI))) (hf : ∀ w : World, typeIn (KK w.params) (.ref fI) = some (.type "function"))
    (sp : ∀ x dx, SpecC c.w lv (.ref fI) (.ref x :: xs) ((x, .inst C dx []) :: Hs) (P x dx)) (hlv : lv + 1 ≤ c.lv) (split : Split σ.heap Hs R)
    (q : ∀ x dx sv H', c.lo ≤ x → P x dx sv H' → sv = .none ∧ Q (.ref x) { σ with heap := H' ++ R }) : CallV c (.ref C) xs σ Q := fun g s vs Rl rep => by
  refine wpAny_call ?_
  have X := Rl.world.K
  obtain ⟨h0, tk0, e0⟩ := Rl.sh
  have up : ∀ b o, s.heap.get? b = some o → ((s.heap.push emptyDict).push (instObj C s.heap.objs.size)).get? b = some o := fun b o e => Heap.get?_push_of_some _ (Heap.get?_push_of_some _ e)
  have R₁ : Rel c g σ { s with heap := (s.heap.push emptyDict).push (instObj C s.heap.objs.size) } := Rl.ext (tk := s.toks) up
  have n1 : ¬ Needs c g σ s.heap.objs.size := Rl.fresh
  have n2 : ¬ Needs c g σ (s.heap.objs.size + 1) := fun n => Nat.lt_irrefl _ (Nat.lt_of_succ_lt (Rl.needs_lt n))
  have inF : ∀ b ∈ fpO (s.heap.objs.size + 1) (.inst C s.heap.objs.size []), b = s.heap.objs.size + 1 ∨ b = s.heap.objs.size := fun b hb => by simpa [fpO] using hb
  have lo := Rl.lo
  have hx : ((s.heap.push emptyDict).push (instObj C s.heap.objs.size)).get? (s.heap.objs.size + 1) = some (instObj C s.heap.objs.size) := by heap_get
  have hd : ((s.heap.push emptyDict).push (instObj C s.heap.objs.size)).get? s.heap.objs.size = some emptyDict := Heap.get?_push_of_some _ (Heap.get?_push_size _ rfl)
  have R₂ := R₁.adopt (a := s.heap.objs.size + 1) (ob := .inst C s.heap.objs.size [])
    (fun b hb => by
      rcases inF b hb with rfl | rfl
      · exact n2
      · exact n1) (fun b hb => by
      rcases inF b hb with rfl | rfl
      · exact Nat.le_succ_of_le lo
      · exact lo)
    (by show [s.heap.objs.size + 1, s.heap.objs.size].Nodup; simp)
    ⟨fun _ => none, hx, ⟨_, #[], 0, hd, rfl, fun e he => (by simp at he), fun _ => rfl, by simp⟩, fun p hp => (nomatch hp), fun _ _ => rfl⟩
  have sp' := sp (s.heap.objs.size + 1) s.heap.objs.size
  have split' : Split ((s.heap.objs.size + 1, AObj.inst C s.heap.objs.size []) :: σ.heap) ((s.heap.objs.size + 1, AObj.inst C s.heap.objs.size []) :: Hs) R := .cons .here split
  obtain ⟨p1, p2, p3, p4, p5⟩ := spec_pre R₂ split'
  have room : Roomy lv (c.A.under (.builtin "type.__call__" ⟨.ref C :: vs, []⟩)) := Roomy.under ⟨Rl.ok.room.hh, by have := Rl.ok.room.dp; exact om148 hlv this, by have := Rl.ok.room.un; exact om149 hlv this⟩ C vs
  have main := sp' _ c.hb g _ (.ref (s.heap.objs.size + 1) :: vs) room p1 p2 p3 p4 p5 ⟨_, _, rfl, rfl, rep⟩
  subst e0
  refine make_core (makes_of X (hm c.w)) (looks_findIn X (hi c.w)) (fun self => bind_fn X self (hf c.w)) (.inl rfl) (codeAny_mono main fun r s' ⟨v, e, po⟩ => ?_)
  subst e
  obtain ⟨g', σ', sv, gx, R', rv, q'⟩ := spec_post (Q := fun sv σ' => sv = .none ∧ Q (.ref (h0.objs.size + 1)) σ') R₂ split' po fun sv H' hp => q _ _ sv H' (Nat.le_succ_of_le lo) hp
  obtain ⟨rfl, q'⟩ := q'
  exact ⟨rv, g', σ', .ref _, gx, R', rfl, q'⟩
theorem E_callC {x : Str} {p pos : Pos} {args : List Expr} {a : Addr} (hx : (x, .ref a) ∈ c.gl) (hk : ∀ w : World, keepIn (KK w.params) (.ref a) = true)
    (h : ES c pos args σ fun vs σ₁ => CallV c (.ref a) vs σ₁ Q) (hpl : (backTo pos (starEach args c.env)).any (·.1) = false := by rfl) : EE c (.Call (.Name x p) args [] pos) σ Q := fun g s vs R _ => by
  refine wpAny_Call_ofName (stage R (xs := []) (vs := []) rfl (E_glob hx (Q := fun v σ' => v = .val (.ref a) ∧ σ' = σ) ⟨rfl, rfl⟩) fun g₁ σ₁ s₁ a' va x₁ R₁ r₁ q₁ => ?_)
  obtain ⟨rfl, rfl⟩ := q₁
  obtain ⟨v, e, r⟩ := rep1 r₁
  cases e
  have r' : va = .ref a := r
  subst r'
  refine callWith_of (P := (KK c.w.params).In) (by rw [hpl]; rfl) (keeps_K (hk c.w)) (evalArgs_sp hpl ?_)
  refine stageL R₁ (xs := []) (vs := []) rfl h fun g₂ σ₂ s₂ svs ws x₂ R₂ rs r₂ q₂ => ⟨R₂.world.K, ?_⟩
  exact lift (x₁.trans x₂) q₂ R₂ rs
end
end
section
theorem spec_ofC {w : World} {lv : Nat} {a : Addr} {fd : FuncData} {params ns : List Str} {gl : List (Str × Value)} {xs : List SV} {H : AHeap} {Q : SV → AHeap → Prop} {body : List Stmt}
    (ok : FdOk w a fd params ns gl) (hb' : fd.body = .stmts body) (hl : xs.length = params.length)
    (walk : ∀ A s hb, SB (frameCx fd a ns gl w A s hb H lv) body ⟨vals₀ xs ns, H⟩ fun fl σ => (∃ v, fl = .ret v ∧ Q v σ.heap) ∨ (fl = .next ∧ Q .none σ.heap)) :
    SpecC w (lv + 1) (.ref a) xs H Q := by
  intro A hb g s vs rm W keepB hg HO fpB rep
  have hvl : vs.length = params.length := rep.length.trans hl
  obtain ⟨oc, od, sl, hobj⟩ := ok.obj
  have W' := W.keeps keepB
  have pnd : params.Nodup := ok.nd.sublist ok.pars.sublist
  have pnd' : ((params.zip vs).map (·.1)).Nodup := by rw [List.map_fst_zip (by exact om2 hvl)]; exact pnd
  have nm : ∀ x ∈ ns, (fd.scope.names.lookup x = some .local ∨ fd.scope.names.lookup x = some .cell) ∧ (x == ("__debug__" : Str)) = false := fun x hx => by
    have := List.all_eq_true.mp ok.names x hx
    simp only [Bool.and_eq_true, Bool.or_eq_true, beq_iff_eq, Bool.not_eq_true'] at this
    exact this
  have cellOf : ∀ x, fd.scope.names.lookup x = some .cell → ((cellsFrom (s.heap.objs.size + 1) fd.scope.names []).lookup x).isSome = true := fun x hx => cellsFrom_some _ _ _ (.inl hx)
  refine codeAny_call_cells (by have := rm.dp; show A.depth < 1000; exact om3 this) (W'.K _ _ hobj) rfl W'.nolimit (codeRec_of W'.K ok.code) hb' (ok.bind vs hvl) ok.clo
    (fun x hx => ?_) (fun s₁ ic => ?_) ok.co ok.gen ok.kind
  · have hxp : x.1 ∈ params := (List.of_mem_zip hx).1
    rcases (nm x.1 (ok.pars.subset hxp)).1 with h | h
    · exact .inl h
    · exact .inr ⟨h, cellOf _ h⟩
  · obtain ⟨h₁, tk₁, e₁⟩ := ic.toInCall.same
    subst e₁
    have keep := ic.toInCall.keep
    have szle : s.heap.objs.size ≤ h₁.objs.size := Nat.le_of_lt (Nat.lt_of_le_of_lt (Nat.le_refl _) (by have := ic.toInCall.ns.lt; exact Nat.lt_of_le_of_lt ic.toInCall.fresh this))
    have fpS : ∀ b ∈ fpH H, b < s.heap.objs.size := fun b hb => by
      obtain ⟨p, hp, hb⟩ := List.mem_flatMap.mp hb
      exact (HO.objs p hp).lt hb
    have hL : (callEnvC fd s.heap.objs.size a).locals = s.heap.objs.size := rfl
    have above : ∀ n d, (callEnvC fd s.heap.objs.size a).cells.lookup n = some d → s.heap.objs.size < d := fun n d h => ic.above n d (mem_of_lookup h)
    have sNone : ∀ b, s.heap.objs.size ≤ b → s.heap.get? b = none := fun b hb => by
      cases e : s.heap.get? b with
      | none => rfl
      | some o => exact absurd (Heap.lt_size e) (Nat.not_lt.mpr hb)
    have gNone : ∀ b, s.heap.objs.size ≤ b → g b = none := fun b hb => by
      cases e : g b with
      | none => rfl
      | some o => have := hg b o e; rw [sNone b hb] at this; cases this
    have prNone : ∀ b, s.heap.objs.size ≤ b → (frameCx fd a ns gl w A s hb H lv).pr b = none := fun b hb => by
      show (if b ∈ fpH H then none else s.heap.get? b) = none
      split
      · rfl
      · exact sNone b hb
    have R : Rel (frameCx fd a ns gl w A s hb H lv) g ⟨vals₀ xs ns, H⟩ { s with heap := h₁, toks := tk₁ } := {
      ok := {
        kind := ok.kind, glob := ok.glob, blt := ok.blt, W := W
        base := fun b o e => by
          show (if b ∈ fpH H then none else s.heap.get? b) = some o
          rw [if_neg (fun hm => by rw [fpB b hm] at e; cases e)]
          exact keepB b o e
        dbg := fun x hx => (nm x hx).2
        stok := fun x hx => by
          rcases (nm x hx).1 with h | h
          · exact .inl h
          · obtain ⟨d, hd⟩ := Option.isSome_iff_exists.mp (cellOf x h)
            exact .inr ⟨h, d, hd, hd⟩
        glok := fun p hp => by
          have := List.all_eq_true.mp ok.globs p hp
          simp only [Bool.and_eq_true, beq_iff_eq, Bool.not_eq_true'] at this
          exact ⟨this.1, this.2, ok.globIs p hp⟩
        nd := ok.nd
        room := ⟨rm.hh, by have := rm.dp; show A.depth + 1 + 10 * lv < 900; exact om4 this, by have := rm.un; show A.units + 3 + 100 * lv < 9000; exact om5 this⟩
        locF := prNone _ (Nat.le_refl _)
        locG := Nat.le_refl _
        ownF := fun x d h => ⟨prNone d (Nat.le_of_lt (above x d h)), Nat.le_of_lt (above x d h), Nat.ne_of_gt (above x d h)⟩
        ownA := ic.apart
        clo := fun x d h => .inl h
        inter := by show (fd.scope.kind == .module && _) = false; rw [ok.kind]; rfl }
      sh := ⟨h₁, tk₁, rfl⟩
      pr := fun b o e => by
        have e' : (if b ∈ fpH H then none else s.heap.get? b) = some o := e
        split at e'
        · cases e'
        · exact keep b o e'
      gh := fun b o e => keep b o (hg b o e)
      nodup := HO.nodup
      fpG := HO.fpG
      fpP := fun b hb => by show (if b ∈ fpH H then none else s.heap.get? b) = none; rw [if_pos hb]
      fpL := fun b hb => Nat.ne_of_lt (fpS b hb)
      fpLo := fun b hb => .inl hb
      fpC := fun b hb x d h => Nat.ne_of_lt (Nat.lt_trans (fpS b hb) (above x d h))
      objs := fun e he => (HO.objs e he).keep fun b _ o ho => keep b o ho
      gL := gNone _ (Nat.le_refl _)
      gC := fun x d h => gNone d (Nat.le_of_lt (above x d h))
      fr := by
        refine ⟨_, _, ic.toInCall.ns, fun x d h => ic.cell x d h, fun p hp => ?_⟩
        rcases zip_prefix ok.pars hl _ p hp with h | h
        · exact .inl h
        · obtain ⟨v, hv, r⟩ := RepVs.zip rep (ps := params) p h
          refine .inr ⟨v, ?_, r⟩
          rcases (nm p.1 (ok.pars.subset (List.of_mem_zip h).1)).1 with k | k
          · exact .inl ⟨k, bindL_lookup _ _ _ _ pnd' k (.inl hv)⟩
          · obtain ⟨d, hd⟩ := Option.isSome_iff_exists.mp (cellOf p.1 k)
            exact .inr (.inl ⟨k, ⟨d, hd, hd⟩, bindC_lookup _ _ _ _ pnd' (by show fd.scope.names.lookup p.1 ≠ _; rw [k]; decide) (.inl hv)⟩) }
    refine wpAny_mono (walk A s hb g _ R) (fun f s' ⟨g', σ', fl, gx, R', rf, q⟩ => ?_) fun _ _ f => f.elim
    have post : ∀ v sv, RepV g' sv v → Q sv σ'.heap → Post w g H s Q v s' := fun v sv r q => by
      refine ⟨g', σ'.heap, sv, GX.weak (fun _ _ e => nomatch e) gx, R'.gh, ⟨R'.nodup, R'.fpG, R'.objs⟩, fun b hb => ?_, fun b o hn e => ?_, R'.sh, r, q⟩
      · exact R'.fpLo b hb
      · refine R'.pr b o ?_
        show (if b ∈ fpH H then none else s.heap.get? b) = some o
        rw [if_neg hn]; exact e
    rcases q with ⟨v, rfl, q⟩ | ⟨rfl, q⟩
    · obtain ⟨u, rfl, r⟩ := rf
      exact ⟨_, rfl, post u v r q⟩
    · cases rf
      exact ⟨_, rfl, post _ _ (show RepV g' .none _ from rfl) q⟩
open Classical in
noncomputable abbrev frameCxS (fd : FuncData) (a : Addr) (ns : List Str) (gl : List (Str × Value)) (w : World) (A : Around) (s : Shared) (hb : Heap) (H : AHeap) (lv : Nat) : Cx where
  w := w
  A := A.deeper (callEnv fd s.heap.objs.size a)
  env := callEnv fd s.heap.objs.size a
  ns := ns
  st := ns
  gl := gl
  own := []
  lo := s.heap.objs.size
  pr := fun b => if b ∈ fpH H then none else s.heap.get? b
  s₀ := s
  hb := hb
  lv := lv
  O := fpH H
structure FdOkS (w : World) (a : Addr) (fd : FuncData) (params : List Str) (ns : List Str) (gl : List (Str × Value)) : Prop where
  obj : ∃ oc od sl, (KK w.params).lookup a = some ⟨oc, od, .func fd, sl⟩
  code : codeIn (KK w.params) fd.code fd.qualname = true
  body : ∃ b, fd.body = .stmts b
  bind : ∀ vs : List Value, vs.length = params.length → bindArgs fd ⟨vs, []⟩ = pure (params.zip vs)
  clos : ∀ x d, fd.closure.lookup x = some d → ∃ o, (KK w.params).lookup d = some o
  cell : ∀ x ∈ fd.scope.names, x.2 ≠ .cell
  glob : fd.globals = mainGlobals
  blt : fd.builtins = builtinsNs
  kind : fd.scope.kind = .function
  co : fd.scope.isCoroutine = false
  gen : fd.scope.isGenerator = false
  inter : (fd.scope.more.any fun (n, _) => n == ("interactive" : Str)) = false
  names : (ns.all fun x => fd.scope.names.lookup x == some .local && !(x == ("__debug__" : Str))) = true
  pars : params <+: ns
  nd : ns.Nodup
  globs : (gl.all fun p => fd.scope.names.lookup p.1 == some .globalImplicit && !(p.1 == ("__debug__" : Str))) = true
  globIs : ∀ p ∈ gl, GlobIs w p.1 p.2
theorem own0 (x : Str) (d : Addr) (h : ([] : List (Str × Addr)).lookup x = some d) : False := nomatch h
theorem lookup_of_nodup : ∀ {l : List (Str × Value)} {x : Str} {v : Value}, (l.map (·.1)).Nodup → (x, v) ∈ l → l.lookup x = some v
  | [], x, v, _, h => nomatch h
  | (y, u) :: r, x, v, nd, h => by
    have nd' := List.nodup_cons.mp nd
    rw [List.lookup_cons]
    rcases List.mem_cons.mp h with e | h
    · cases e; simp
    · have : ¬ x = y := fun e => nd'.1 (e ▸ List.mem_map.mpr ⟨(x, v), h, rfl⟩)
      have e : (x == y) = false := by rw [beq_eq_false_iff_ne]; exact this
      rw [e]
      exact lookup_of_nodup nd'.2 h
noncomputable def EvAt (c : Cx) (body : List Stmt) (t : Sem Flow) (σ : St) (Q : Fl → St → Prop) : Prop :=
  ∀ g s, Rel c g σ s → _root_.PySem.wpAt (model pw c.w) c.A (.func body c.env) t (fun f s' => ∃ g' σ' fl, GX c.lo c.pr g g' ∧ Rel c g' σ' s' ∧ RepF g' fl f ∧ Q fl σ') (fun _ _ => False) s
theorem spec_ofAt {w : World} {lv : Nat} {a : Addr} {fd : FuncData} {params ns : List Str} {gl : List (Str × Value)} {xs : List SV} {H : AHeap} {Q : SV → AHeap → Prop} {body : List Stmt}
    (ok : FdOkS w a fd params ns gl) (hb' : fd.body = .stmts body) (hl : xs.length = params.length)
    (walk : ∀ A s hb, EvAt (frameCxS fd a ns gl w A s hb H lv) body (execs body (frameCxS fd a ns gl w A s hb H lv).env) ⟨vals₀ xs ns, H⟩ fun fl σ => (∃ v, fl = .ret v ∧ Q v σ.heap) ∨ (fl = .next ∧ Q .none σ.heap)) :
    SpecC w (lv + 1) (.ref a) xs H Q := by
  intro A hb g s vs rm W keepB hg HO fpB rep
  have hvl : vs.length = params.length := rep.length.trans hl
  obtain ⟨oc, od, sl, hobj⟩ := ok.obj
  have W' := W.keeps keepB
  have pnd : params.Nodup := ok.nd.sublist ok.pars.sublist
  have pnd' : ((params.zip vs).map (·.1)).Nodup := by rw [List.map_fst_zip (by exact om2 hvl)]; exact pnd
  have nm : ∀ x ∈ ns, fd.scope.names.lookup x = some .local ∧ (x == ("__debug__" : Str)) = false := fun x hx => by
    have := List.all_eq_true.mp ok.names x hx
    simp only [Bool.and_eq_true, beq_iff_eq, Bool.not_eq_true'] at this
    exact this
  refine ks_codeAny_call_defAt (binds := params.zip vs) (by have := rm.dp; show A.depth < 1000; exact om3 this) (W'.K _ _ hobj) rfl W'.nolimit (codeRec_of W'.K ok.code) hb' (BindsTo.of_eq (ok.bind vs hvl)) ok.cell
    (fun x hx => (nm x.1 (ok.pars.subset (List.of_mem_zip hx).1)).1) (fun h₁ hns keep => ?_) ok.co ok.gen ok.kind
  have szle : s.heap.objs.size ≤ h₁.objs.size := Nat.le_of_lt hns.lt
  have fpS : ∀ b ∈ fpH H, b < s.heap.objs.size := fun b hb => by
      obtain ⟨p, hp, hb⟩ := List.mem_flatMap.mp hb
      exact (HO.objs p hp).lt hb
  have hL : (callEnv fd s.heap.objs.size a).locals = s.heap.objs.size := rfl
  have sNone : ∀ b, s.heap.objs.size ≤ b → s.heap.get? b = none := fun b hb => by
      cases e : s.heap.get? b with
      | none => rfl
      | some o => exact absurd (Heap.lt_size e) (Nat.not_lt.mpr hb)
  have gNone : ∀ b, s.heap.objs.size ≤ b → g b = none := fun b hb => by
      cases e : g b with
      | none => rfl
      | some o => have := hg b o e; rw [sNone b hb] at this; cases this
  have prNone : ∀ b, s.heap.objs.size ≤ b → (frameCxS fd a ns gl w A s hb H lv).pr b = none := fun b hb => by
      show (if b ∈ fpH H then none else s.heap.get? b) = none
      split
      · rfl
      · exact sNone b hb
  have prB : ∀ b o, hb.get? b = some o → (frameCxS fd a ns gl w A s hb H lv).pr b = some o := fun b o e => by
      show (if b ∈ fpH H then none else s.heap.get? b) = some o
      rw [if_neg (fun hm => by rw [fpB b hm] at e; cases e)]
      exact keepB b o e
  have R : Rel (frameCxS fd a ns gl w A s hb H lv) g ⟨vals₀ xs ns, H⟩ { s with heap := h₁, toks := s.toks + (params.zip vs).length } := {
      ok := {
        kind := ok.kind, glob := ok.glob, blt := ok.blt, W := W
        base := prB
        dbg := fun x hx => (nm x hx).2
        stok := fun x hx => .inl (nm x hx).1
        glok := fun p hp => by
          have := List.all_eq_true.mp ok.globs p hp
          simp only [Bool.and_eq_true, beq_iff_eq, Bool.not_eq_true'] at this
          exact ⟨this.1, this.2, ok.globIs p hp⟩
        nd := ok.nd
        room := ⟨rm.hh, by have := rm.dp; show A.depth + 1 + 10 * lv < 900; exact om4 this, by have := rm.un; show A.units + 3 + 100 * lv < 9000; exact om5 this⟩
        locF := prNone _ (Nat.le_refl _)
        locG := Nat.le_refl _
        ownF := fun x d h => (own0 x d h).elim
        ownA := .nil
        clo := fun x d h => .inr (by
          obtain ⟨o, ho⟩ := ok.clos x d h
          exact ⟨o, prB d o (W.K _ _ ho)⟩)
        inter := by show (fd.scope.kind == .module && _) = false; rw [ok.kind]; rfl }
      sh := ⟨h₁, _, rfl⟩
      pr := fun b o e => by
        have e' : (if b ∈ fpH H then none else s.heap.get? b) = some o := e
        split at e'
        · cases e'
        · exact keep b o e'
      gh := fun b o e => keep b o (hg b o e)
      nodup := HO.nodup
      fpG := HO.fpG
      fpP := fun b hb => by show (if b ∈ fpH H then none else s.heap.get? b) = none; rw [if_pos hb]
      fpL := fun b hb => Nat.ne_of_lt (fpS b hb)
      fpLo := fun b hb => .inl hb
      fpC := fun b hb x d h => (own0 x d h).elim
      objs := fun e he => (HO.objs e he).keep fun b _ o ho => keep b o ho
      gL := gNone _ (Nat.le_refl _)
      gC := fun x d h => (own0 x d h).elim
      fr := by
        refine ⟨_, fun _ => none, hns, ⟨fun x d h => (own0 x d h).elim, fun p hp => ?_⟩⟩
        rcases zip_prefix ok.pars hl _ p hp with h | h
        · exact .inl h
        · obtain ⟨v, hv, r⟩ := RepVs.zip rep (ps := params) p h
          refine .inr ⟨v, .inl ⟨(nm p.1 (ok.pars.subset (List.of_mem_zip h).1)).1, ?_⟩, r⟩
          exact lookup_of_nodup (by rw [List.map_reverse]; exact (List.reverse_perm _).nodup_iff.mpr pnd') (List.mem_reverse.mpr hv) }
  refine ks_wpAt_mono (walk A s hb g _ R) (fun f s' ⟨g', σ', fl, gx, R', rf, q⟩ => ?_) fun _ _ f => f.elim
  have post : ∀ v sv, RepV g' sv v → Q sv σ'.heap → Post w g H s Q v s' := fun v sv r q => by
      refine ⟨g', σ'.heap, sv, GX.weak (fun _ _ e => nomatch e) gx, R'.gh, ⟨R'.nodup, R'.fpG, R'.objs⟩, fun b hb => ?_, fun b o hn e => ?_, R'.sh, r, q⟩
      · exact R'.fpLo b hb
      · refine R'.pr b o ?_
        show (if b ∈ fpH H then none else s.heap.get? b) = some o
        rw [if_neg hn]; exact e
  rcases q with ⟨v, rfl, q⟩ | ⟨rfl, q⟩
  · obtain ⟨u, rfl, r⟩ := rf
    exact ⟨_, rfl, post u v r q⟩
  · cases rf
    exact ⟨_, rfl, post _ _ (show RepV g' .none _ from rfl) q⟩
end
section
noncomputable abbrev fd320 : FuncData := fD (mth 20 0) "Regular.__init__" (vS "fdsolve.regular" 556) 319 [(Str.ofString "__class__", 308)] (.ref 313)
theorem at_cons {c : Cx} {σ : St} {body rest : List Stmt} {st : Stmt} {F : Fl → St → Prop} (h : EvAt c body (exec st c.env) σ fun fl σ₁ => fl = .next ∧ SB c rest σ₁ F) : EvAt c body (execs (st :: rest) c.env) σ F := fun g s R =>
  ks_wpAt_execs_cons (ks_wpAt_mono (h g s R) (fun f s' ⟨g', σ', fl, gx, R', rf, e, q⟩ => by
    subst e
    have rf' : f = .next := rf
    subst rf'
    exact wpAt_of_wpAny (liftS gx q R')) fun _ _ f => f)
theorem lookK {P : Params} {a : Addr} {o : Obj} {h : Heap} (X : (KK P).In h) (e : (KK P).lookup a = some o) : h.get? a = some o := X _ _ e
section
variable {c : Cx} {σ : St}
set_option maxHeartbeats 4000000 in
theorem S_super {body : List Stmt} {L x d : Addr} {fs : List (Str × SV)} {args : List Expr} {p0 p1 p2 p3 p4 : Pos} {pl : Sem Bool} {F : Fl → St → Prop} {lv : Nat}
    (hE : c.env = callEnv fd320 L 320) (hx : ((Str.ofString "self"), SV.ref x) ∈ c.ns.zip σ.vals) (hm : (x, AObj.inst 405 d fs) ∈ σ.heap)
    (h : ES c p3 args σ fun svs σ₁ => ∃ Hs R P, SpecC c.w lv (.ref 276) (.ref x :: svs) Hs P ∧ lv ≤ c.lv ∧ Split σ₁.heap Hs R ∧ ∀ sv H', P sv H' → F .next { σ₁ with heap := H' ++ R })
    (hpl : (backTo p3 (starEach args c.env)).any (·.1) = false := by rfl)
    (he : eval (.Call (.Attribute (.Call (.Name "super" p0) [] [] p1) "__init__" p2) args [] p3) c.env = (do
      let ov ← attributeBase (.Call (.Name "super" p0) [] [] p1) "__init__" c.env (eval (.Call (.Name "super" p0) [] [] p1) c.env)
      standAt p2.atName
      let (f, first) ← holding [ov] (getMethod ov "__init__" pl)
      callWith p3 f first (backTo p3 (starEach args c.env)) []) := by rfl)
    (hsw : swapsWith (.Call (.Attribute (.Call (.Name "super" p0) [] [] p1) "__init__" p2) args [] p3) none p4.line c.env = pure false := by rfl) :
    EvAt c body (exec (.Expr (.Call (.Attribute (.Call (.Name "super" p0) [] [] p1) "__init__" p2) args [] p3) p4) c.env) σ F := fun g s R => by
  have X := R.world.K
  have W := R.world
  obtain ⟨ar, har, har2⟩ : ∃ ar, (fd320.params.posonlyargs ++ fd320.params.args).head? = some ar ∧ ar.arg = "self" := ⟨_, rfl, by kernel_rfl⟩
  have hf : s.heap.get? 320 = some (ob320 c.w.params) := lookK X (by kernel_rfl)
  have hcc : s.heap.get? 319 = some (ob319 c.w.params) := lookK X (by kernel_rfl)
  have hcl : s.heap.get? 308 = some (ob308 c.w.params) := lookK X (by kernel_rfl)
  have hD : s.heap.get? 405 = some (ob405 c.w.params) := lookK X (by kernel_rfl)
  obtain ⟨m, od, I, _, _, _, _⟩ := inst_at R hm
  refine ks_wpAt_Expr_any ?_ R.ok.inter hsw
  refine ks_wpAt_MethodCall ?_ he
  refine ks_wpAt_super_base (f := 320) (cc := 319) (fd := fd320) (ar := ar) (file := "/claim/cut.py") (tf := 572) (by rw [hE]; kernel_rfl) (by rw [hE]; kernel_rfl) (by kernel_rfl) (by rw [hE]; rfl) hf rfl har (by rw [hE]; rfl) hcc rfl (by rfl) (by kernel_rfl) (by kernel_rfl) ?_
  rw [har2]
  obtain ⟨mg, ng, gs⟩ := W.globals
  obtain ⟨mb, nb, bs⟩ := W.builtins
  refine ks_loadName_global R.ok.kind (by rw [hE]; kernel_rfl) (loadGlobal_builtin (R.ok.glob ▸ ng) (W.none mg ng "super" (by kernel_rfl)) (R.ok.blt ▸ nb) ((bs "super" (by decide +kernel)).trans (by kernel_rfl)) ⟨rfl, ?_⟩)
  refine wpAny_loadName_free R.ok.kind (by rw [hE]; kernel_rfl) (name := "__class__") (c := 308) (by rw [hE]; kernel_rfl) ⟨_, hcl, rfl⟩ ?_
  refine ld_name R hx nofun fun v rv => ?_
  have rv' : v = .ref x := rv
  subst rv'
  refine ks_wpAny_isType_cls hD rfl ⟨rfl, ?_⟩
  have hsub : Looks (model pw c.w) s.heap (isSubtype (.ref 405) (.ref 405)) true := looks_mroIn X (by kernel_rfl)
  refine ks_wpAny_call_super hD rfl I.at_ I.cls (fun cd e => (by cases e)) hsub fun h' e k => ?_
  have R₁ : Rel c g σ { s with heap := h' } := R.ext (tk := s.toks) k
  have X₁ : (KK c.w.params).In h' := R₁.world.K
  have hmap : (clsIn (KK c.w.params) 405).map (·.mro) = some [.ref 405, .ref 300, .type "object"] := by kernel_rfl
  obtain ⟨cd, hcd, hmr⟩ := Option.map_eq_some_iff.mp hmap
  have hmro : Looks (model pw c.w) h' (mroOf (.ref 405)) [.ref 405, .ref 300, .type "object"] := fun A Q E s k q => wpAny_bind ((looks_clsIn X₁ (C := 405) hcd) A _ E s k (wpAny_pure (by rw [hmr]; exact q)))
  have hxC : x ≠ 405 := fun e => by
    have := R.fpP x (mem_fpH hm (by simp [fpO]))
    rw [e, R.ok.base 405 _ (lookK R.ok.W.K (show _ = some (ob405 c.w.params) by kernel_rfl))] at this
    cases this
  refine ks_wpAny_getMethod_super (f := 276) (K := KK c.w.params) (of := ob276 c.w.params) (l := [.ref 300, .type "object"]) e (looks_opaque X₁ (by kernel_rfl)) hmro (by kernel_rfl) X₁ (by kernel_rfl) (lookK X₁ (by kernel_rfl)) rfl hxC (by kernel_rfl) ?_
  have R₂ : Rel c g σ { s with heap := h'.push { cls := .type "method", data := .fields #[.ref 276, .ref x] }, toks := s.toks + 1 } := R₁.ext (s := { s with heap := h' }) (tk := s.toks + 1) fun a o e => Heap.get?_push_of_some _ e
  obtain ⟨g₁, gx₁, R₃, hg⟩ := R₂.frozen (a := h'.objs.size) (o := { cls := .type "method", data := .fields #[.ref 276, .ref x] }) R₁.lo (R₁.fresh) (Heap.get?_push_size _ rfl)
  refine callWith_of (P := MethP (KK c.w.params) h'.objs.size 276 (.ref x)) (by rw [hpl]; rfl) (keeps_M (by kernel_rfl)) (evalArgs_sp hpl ?_)
  refine stageL R₃ (xs := []) (vs := []) rfl h fun g₂ σ₂ s₂ svs ws x₂ R₄ rs _ q => ⟨⟨R₄.gh _ _ (x₂.1 _ _ hg), R₄.world.K⟩, ?_⟩
  obtain ⟨Hs, Rr, P, sp, hlv, split, q⟩ := q
  obtain ⟨p1, p2, p3, p4, p5⟩ := spec_pre R₄ split
  have main := sp c.A c.hb g₂ s₂ (.ref x :: ws) ⟨R₄.ok.room.hh, by have := R₄.ok.room.dp; exact om6 hlv this, by have := R₄.ok.room.un; exact om7 hlv this⟩ p1 p2 p3 p4 p5 ⟨_, _, rfl, rfl, rs⟩
  refine wpAny_call (ks_codeAny_call_bound (R₄.gh _ _ (x₂.1 _ _ hg)) (codeAny_mono main fun r s' ⟨v, e, po⟩ => ?_))
  subst e
  obtain ⟨g', σ', sv, gx, R', rv, q'⟩ := spec_post (Q := fun sv σ' => F .next σ') R₄ split po q
  exact ⟨g', σ', .next, (gx₁.trans x₂).trans gx, R', rfl, q'⟩
end
end
section
noncomputable abbrev fd122 : FuncData := fD (mth 17 0) "Store.__init__" (vS "fdsolve.store" 309) 121 [] .none
set_option maxHeartbeats 4000000 in
theorem ok122 (w : World) : FdOk w 122 fd122 ["self"] ["self"] [] where
  obj := ⟨.type "function", none, #[], by kernel_rfl⟩
  code := by kernel_rfl
  body := ⟨_, rfl⟩
  bind := fun vs h => bind1 h fun x0 => by kernel_rfl
  clo := by kernel_rfl
  glob := by kernel_rfl
  blt := by kernel_rfl
  kind := by kernel_rfl
  co := by kernel_rfl
  gen := by kernel_rfl
  inter := by kernel_rfl
  names := by kernel_rfl
  pars := ⟨[], rfl⟩
  nd := by decide
  globs := by kernel_rfl
  globIs := by
    intro p hp
    cases hp
noncomputable abbrev fd129 : FuncData := fD (mth 17 1) "Store.new_var" (vS "fdsolve.store" 309) 128 [] .none
set_option maxHeartbeats 4000000 in
theorem ok129 (w : World) : FdOk w 129 fd129 ["self", "domain"] ["self", "domain"] [("len", .builtin "len")] where
  obj := ⟨.type "function", none, #[], by kernel_rfl⟩
  code := by kernel_rfl
  body := ⟨_, rfl⟩
  bind := fun vs h => bind2 h fun x0 x1 => by kernel_rfl
  clo := by kernel_rfl
  glob := by kernel_rfl
  blt := by kernel_rfl
  kind := by kernel_rfl
  co := by kernel_rfl
  gen := by kernel_rfl
  inter := by kernel_rfl
  names := by kernel_rfl
  pars := ⟨[], rfl⟩
  nd := by decide
  globs := by kernel_rfl
  globIs := by
    intro p hp
    simp only [List.mem_cons, List.not_mem_nil, or_false] at hp
    rcases hp with rfl
    · exact gi_len w
noncomputable abbrev fd150 : FuncData := fD (mth 17 4) "Store.initial" (vS "fdsolve.store" 309) 149 [] .none
set_option maxHeartbeats 4000000 in
theorem ok150 (w : World) : FdOk w 150 fd150 ["self", "x"] ["self", "x"] [] where
  obj := ⟨.type "function", none, #[], by kernel_rfl⟩
  code := by kernel_rfl
  body := ⟨_, rfl⟩
  bind := fun vs h => bind2 h fun x0 x1 => by kernel_rfl
  clo := by kernel_rfl
  glob := by kernel_rfl
  blt := by kernel_rfl
  kind := by kernel_rfl
  co := by kernel_rfl
  gen := by kernel_rfl
  inter := by kernel_rfl
  names := by kernel_rfl
  pars := ⟨[], rfl⟩
  nd := by decide
  globs := by kernel_rfl
  globIs := by
    intro p hp
    cases hp
noncomputable abbrev fd206 : FuncData := fD (mth 17 12) "Store.enter" (vS "fdsolve.store" 309) 205 [] .none
set_option maxHeartbeats 4000000 in
theorem ok206 (w : World) : FdOk w 206 fd206 ["self", "literal", "reasons", "speaker"] ["self", "literal", "reasons", "speaker", "x", "old", "fresh"] [("struck", .ref 101), ("negation", .ref 94)] where
  obj := ⟨.type "function", none, #[], by kernel_rfl⟩
  code := by kernel_rfl
  body := ⟨_, rfl⟩
  bind := fun vs h => bind4 h fun x0 x1 x2 x3 => by kernel_rfl
  clo := by kernel_rfl
  glob := by kernel_rfl
  blt := by kernel_rfl
  kind := by kernel_rfl
  co := by kernel_rfl
  gen := by kernel_rfl
  inter := by kernel_rfl
  names := by kernel_rfl
  pars := ⟨["x", "old", "fresh"], rfl⟩
  nd := by decide
  globs := by kernel_rfl
  globIs := by
    intro p hp
    simp only [List.mem_cons, List.not_mem_nil, or_false] at hp
    rcases hp with rfl | rfl
    · exact gi_struck w
    · exact gi_negation w
noncomputable abbrev fd220 : FuncData := fD (mth 17 14) "Store.decide" (vS "fdsolve.store" 309) 219 [] .none
set_option maxHeartbeats 4000000 in
theorem ok220 (w : World) : FdOk w 220 fd220 ["self", "literal"] ["self", "literal"] [] where
  obj := ⟨.type "function", none, #[], by kernel_rfl⟩
  code := by kernel_rfl
  body := ⟨_, rfl⟩
  bind := fun vs h => bind2 h fun x0 x1 => by kernel_rfl
  clo := by kernel_rfl
  glob := by kernel_rfl
  blt := by kernel_rfl
  kind := by kernel_rfl
  co := by kernel_rfl
  gen := by kernel_rfl
  inter := by kernel_rfl
  names := by kernel_rfl
  pars := ⟨[], rfl⟩
  nd := by decide
  globs := by kernel_rfl
  globIs := by
    intro p hp
    cases hp
noncomputable abbrev fd276 : FuncData := fD (mth 18 0) "Propagator.__init__" (vS "fdsolve.store" 309) 275 [] .none
set_option maxHeartbeats 4000000 in
theorem ok276 (w : World) : FdOk w 276 fd276 ["self", "scope", "strength"] ["self", "scope", "strength"] [("tuple", .type "tuple")] where
  obj := ⟨.type "function", none, #[], by kernel_rfl⟩
  code := by kernel_rfl
  body := ⟨_, rfl⟩
  bind := fun vs h => bind3 h fun x0 x1 x2 => by kernel_rfl
  clo := by kernel_rfl
  glob := by kernel_rfl
  blt := by kernel_rfl
  kind := by kernel_rfl
  co := by kernel_rfl
  gen := by kernel_rfl
  inter := by kernel_rfl
  names := by kernel_rfl
  pars := ⟨[], rfl⟩
  nd := by decide
  globs := by kernel_rfl
  globIs := by
    intro p hp
    simp only [List.mem_cons, List.not_mem_nil, or_false] at hp
    rcases hp with rfl
    · exact gi_tuple w
noncomputable abbrev fd355 : FuncData := fD (mth 20 5) "Regular.note_dead" (vS "fdsolve.regular" 556) 354 [] .none
set_option maxHeartbeats 4000000 in
theorem ok355 (w : World) : FdOk w 355 fd355 ["self", "kept", "alive", "spot", "some", "noted"] ["self", "kept", "alive", "spot", "some", "noted", "k", "late", "state", "a", "goal"] [("range", .type "range"), ("len", .builtin "len"), ("sorted", .builtin "sorted"), ("set", .type "set")] where
  obj := ⟨.type "function", none, #[], by kernel_rfl⟩
  code := by kernel_rfl
  body := ⟨_, rfl⟩
  bind := fun vs h => bind6 h fun x0 x1 x2 x3 x4 x5 => by kernel_rfl
  clo := by kernel_rfl
  glob := by kernel_rfl
  blt := by kernel_rfl
  kind := by kernel_rfl
  co := by kernel_rfl
  gen := by kernel_rfl
  inter := by kernel_rfl
  names := by kernel_rfl
  pars := ⟨["k", "late", "state", "a", "goal"], rfl⟩
  nd := by decide
  globs := by kernel_rfl
  globIs := by
    intro p hp
    simp only [List.mem_cons, List.not_mem_nil, or_false] at hp
    rcases hp with rfl | rfl | rfl | rfl
    · exact gi_range w
    · exact gi_len w
    · exact gi_sorted w
    · exact gi_set w
noncomputable abbrev fd362 : FuncData := fD (mth 20 6) "Regular.note_unreached" (vS "fdsolve.regular" 556) 361 [] .none
set_option maxHeartbeats 4000000 in
theorem ok362 (w : World) : FdOk w 362 fd362 ["self", "reached", "spot", "some", "noted"] ["self", "reached", "spot", "some", "noted", "k", "early", "state", "a"] [("range", .type "range"), ("sorted", .builtin "sorted"), ("set", .type "set")] where
  obj := ⟨.type "function", none, #[], by kernel_rfl⟩
  code := by kernel_rfl
  body := ⟨_, rfl⟩
  bind := fun vs h => bind5 h fun x0 x1 x2 x3 x4 => by kernel_rfl
  clo := by kernel_rfl
  glob := by kernel_rfl
  blt := by kernel_rfl
  kind := by kernel_rfl
  co := by kernel_rfl
  gen := by kernel_rfl
  inter := by kernel_rfl
  names := by kernel_rfl
  pars := ⟨["k", "early", "state", "a"], rfl⟩
  nd := by decide
  globs := by kernel_rfl
  globIs := by
    intro p hp
    simp only [List.mem_cons, List.not_mem_nil, or_false] at hp
    rcases hp with rfl | rfl | rfl
    · exact gi_range w
    · exact gi_sorted w
    · exact gi_set w
noncomputable abbrev fd367 : FuncData := fD (mth 20 7) "Regular.reasons_of" (vS "fdsolve.regular" 556) 366 [] .none
set_option maxHeartbeats 4000000 in
theorem ok367 (w : World) : FdOk w 367 fd367 ["self", "store", "noted"] ["self", "store", "noted"] [("tuple", .type "tuple"), ("sorted", .builtin "sorted")] where
  obj := ⟨.type "function", none, #[], by kernel_rfl⟩
  code := by kernel_rfl
  body := ⟨_, rfl⟩
  bind := fun vs h => bind3 h fun x0 x1 x2 => by kernel_rfl
  clo := by kernel_rfl
  glob := by kernel_rfl
  blt := by kernel_rfl
  kind := by kernel_rfl
  co := by kernel_rfl
  gen := by kernel_rfl
  inter := by kernel_rfl
  names := by kernel_rfl
  pars := ⟨[], rfl⟩
  nd := by decide
  globs := by kernel_rfl
  globIs := by
    intro p hp
    simp only [List.mem_cons, List.not_mem_nil, or_false] at hp
    rcases hp with rfl | rfl
    · exact gi_tuple w
    · exact gi_sorted w
noncomputable abbrev fd374 : FuncData := fD (mth 20 8) "Regular.why_not" (vS "fdsolve.regular" 556) 373 [] .none
set_option maxHeartbeats 4000000 in
theorem ok374 (w : World) : FdOk w 374 fd374 ["self", "store", "kept", "reached", "alive", "spot", "a"] ["self", "store", "kept", "reached", "alive", "spot", "a", "dead", "unreached", "noted", "state", "goal"] [("range", .type "range"), ("sorted", .builtin "sorted"), ("set", .type "set")] where
  obj := ⟨.type "function", none, #[], by kernel_rfl⟩
  code := by kernel_rfl
  body := ⟨_, rfl⟩
  bind := fun vs h => bind7 h fun x0 x1 x2 x3 x4 x5 x6 => by kernel_rfl
  clo := by kernel_rfl
  glob := by kernel_rfl
  blt := by kernel_rfl
  kind := by kernel_rfl
  co := by kernel_rfl
  gen := by kernel_rfl
  inter := by kernel_rfl
  names := by kernel_rfl
  pars := ⟨["dead", "unreached", "noted", "state", "goal"], rfl⟩
  nd := by decide
  globs := by kernel_rfl
  globIs := by
    intro p hp
    simp only [List.mem_cons, List.not_mem_nil, or_false] at hp
    rcases hp with rfl | rfl | rfl
    · exact gi_range w
    · exact gi_sorted w
    · exact gi_set w
noncomputable abbrev fd448 : FuncData := fD (stt 28) "law" (vS "law_pc0050_01" 717) 447 [] .none
set_option maxHeartbeats 4000000 in
theorem ok448 (w : World) : FdOk w 448 fd448 ["script"] ["script", "quiver", "many", "letters", "moves", "start", "mask", "ends", "store", "firsts", "spot", "kept", "turn", "letter", "machine", "ahead", "behind", "reached", "alive", "was", "at", "reasons", "x", "sign", "other", "lots"] [("list", .type "list"), ("_law_number", .ref 414), ("range", .type "range"), ("Store", .ref 258), ("from_values", .ref 35), ("len", .builtin "len"), ("Regular", .ref 405), ("_law_ahead", .ref 426), ("_law_behind", .ref 431), ("set", .type "set"), ("_law_words", .ref 436)] where
  obj := ⟨.type "function", none, #[], by kernel_rfl⟩
  code := by kernel_rfl
  body := ⟨_, rfl⟩
  bind := fun vs h => bind1 h fun x0 => by kernel_rfl
  clo := by kernel_rfl
  glob := by kernel_rfl
  blt := by kernel_rfl
  kind := by kernel_rfl
  co := by kernel_rfl
  gen := by kernel_rfl
  inter := by kernel_rfl
  names := by kernel_rfl
  pars := ⟨["quiver", "many", "letters", "moves", "start", "mask", "ends", "store", "firsts", "spot", "kept", "turn", "letter", "machine", "ahead", "behind", "reached", "alive", "was", "at", "reasons", "x", "sign", "other", "lots"], rfl⟩
  nd := by decide
  globs := by kernel_rfl
  globIs := by
    intro p hp
    simp only [List.mem_cons, List.not_mem_nil, or_false] at hp
    rcases hp with rfl | rfl | rfl | rfl | rfl | rfl | rfl | rfl | rfl | rfl | rfl
    · exact gi_list w
    · exact gi__law_number w
    · exact gi_range w
    · exact gi_Store w
    · exact gi_from_values w
    · exact gi_len w
    · exact gi_Regular w
    · exact gi__law_ahead w
    · exact gi__law_behind w
    · exact gi_set w
    · exact gi__law_words w
theorem ok320 (w : World) : FdOkS w 320 fd320 ["self", "xs", "states", "letters", "rows", "start", "finals"] ["self", "xs", "states", "letters", "rows", "start", "finals"] [("tuple", .type "tuple"), ("len", .builtin "len"), ("sorted", .builtin "sorted"), ("set", .type "set")] where
  obj := ⟨.type "function", none, #[], by kernel_rfl⟩
  code := by kernel_rfl
  body := ⟨_, rfl⟩
  bind := fun vs h => bind7 h fun x0 x1 x2 x3 x4 x5 x6 => by kernel_rfl
  clos := fun x d h => ⟨ob308 w.params, by
    have : d = 308 := by
      have h' : ([(Str.ofString "__class__", 308)] : List (Str × Addr)).lookup x = some d := h
      rw [List.lookup_cons] at h'
      split at h'
      · exact (Option.some.inj h').symm
      · exact nomatch h'
    subst this
    kernel_rfl⟩
  cell := by
    have h : (fd320.scope.names.all fun x => x.2 != .cell) = true := by kernel_rfl
    exact fun x hx => by simpa using List.all_eq_true.mp h x hx
  glob := by kernel_rfl
  blt := by kernel_rfl
  kind := by kernel_rfl
  co := by kernel_rfl
  gen := by kernel_rfl
  inter := by kernel_rfl
  names := by kernel_rfl
  pars := ⟨[], rfl⟩
  nd := by decide
  globs := by kernel_rfl
  globIs := by
    intro p hp
    simp only [List.mem_cons, List.not_mem_nil, or_false] at hp
    rcases hp with rfl | rfl | rfl | rfl
    · exact gi_tuple w
    · exact gi_len w
    · exact gi_sorted w
    · exact gi_set w
theorem ic258 : InstOk 258 := ⟨fun w => ⟨by kernel_rfl, by kernel_rfl, by kernel_rfl, by kernel_rfl, Option.map_eq_some_iff.mp (show (clsIn (KK w.params) 258).map (·.hasDict) = some true by kernel_rfl)⟩⟩
theorem ic405 : InstOk 405 := ⟨fun w => ⟨by kernel_rfl, by kernel_rfl, by kernel_rfl, by kernel_rfl, Option.map_eq_some_iff.mp (show (clsIn (KK w.params) 405).map (·.hasDict) = some true by kernel_rfl)⟩⟩
end
section
noncomputable def plainSV : SV → Bool
  | .val _ => false
  | .junk => false
  | _ => true
section
variable {c : Cx} {σ : St} {Q : SV → St → Prop}
theorem E_at {o : Expr} {attr : Str} {pos : Pos} {C a d : Addr} {fs : List (Str × SV)} {y : SV} (ic : InstOk C) (hno : ∀ w : World, findIn (KK w.params) (.ref C) attr = some none)
    (h : EE c o σ fun ov σ₁ => ov = .ref a ∧ σ₁ = σ) (hm : (a, AObj.inst C d fs) ∈ σ.heap) (hy : (attr, y) ∈ fs) (hv : plainSV y = true) (q : Q y σ)
    (he : eval (.Attribute o attr pos) c.env = (do
      let ov ← eval o c.env
      standAt pos.atName
      let r ← holding [ov] (getAttr ov attr true)
      letTemporaryGo o ov r
      pure r) := by with_unfolding_all rfl) (ht : ∀ u r, letTemporaryGo o u r = pure () := by intro _ _; rfl) : EE c (.Attribute o attr pos) σ Q :=
  E_attr C ic hno (EvV.mono h fun ov σ₁ ⟨e1, e2⟩ => by
    subst e1; subst e2
    exact ⟨a, d, fs, y, rfl, hm, hy, fun b e => (by rw [e] at hv; cases hv), fun e => (by rw [e] at hv; cases hv), q⟩) he ht
end
noncomputable abbrev storeF (dm fs tr mk nw : Addr) : List (Str × SV) := [("domains", .ref dm), ("firsts", .ref fs), ("trail", .ref tr), ("marks", .ref mk), ("news", .ref nw), ("speaker", .int (-1)), ("is_failed", .bool false), ("clash", .tup [])]
noncomputable abbrev storeH (x d dm fs tr mk nw : Addr) (doms firsts trail : List SV) (ks : List Int) : AHeap :=
  [(nw, .idict ks), (mk, .list []), (tr, .list trail), (fs, .list firsts), (dm, .list doms), (x, .inst 258 d (storeF dm fs tr mk nw))]
theorem storeH_x {x d dm fs tr mk nw : Addr} {doms firsts trail : List SV} {ks : List Int} : (x, AObj.inst 258 d (storeF dm fs tr mk nw)) ∈ storeH x d dm fs tr mk nw doms firsts trail ks := by repeat (first | exact List.mem_cons_self | apply List.mem_cons_of_mem)
theorem storeH_tr {x d dm fs tr mk nw : Addr} {doms firsts trail : List SV} {ks : List Int} : (tr, AObj.list trail) ∈ storeH x d dm fs tr mk nw doms firsts trail ks := by repeat (first | exact List.mem_cons_self | apply List.mem_cons_of_mem)
theorem storeH_dm {x d dm fs tr mk nw : Addr} {doms firsts trail : List SV} {ks : List Int} : (dm, AObj.list doms) ∈ storeH x d dm fs tr mk nw doms firsts trail ks := by repeat (first | exact List.mem_cons_self | apply List.mem_cons_of_mem)
theorem storeH_fs {x d dm fs tr mk nw : Addr} {doms firsts trail : List SV} {ks : List Int} : (fs, AObj.list firsts) ∈ storeH x d dm fs tr mk nw doms firsts trail ks := by repeat (first | exact List.mem_cons_self | apply List.mem_cons_of_mem)
theorem storeH_nw {x d dm fs tr mk nw : Addr} {doms firsts trail : List SV} {ks : List Int} : (nw, AObj.idict ks) ∈ storeH x d dm fs tr mk nw doms firsts trail ks := by repeat (first | exact List.mem_cons_self | apply List.mem_cons_of_mem)
theorem storeF_dm {dm fs tr mk nw : Addr} : ((Str.ofString "domains"), SV.ref dm) ∈ storeF dm fs tr mk nw := by repeat (first | exact List.mem_cons_self | apply List.mem_cons_of_mem)
theorem storeF_fs {dm fs tr mk nw : Addr} : ((Str.ofString "firsts"), SV.ref fs) ∈ storeF dm fs tr mk nw := by repeat (first | exact List.mem_cons_self | apply List.mem_cons_of_mem)
theorem storeF_tr {dm fs tr mk nw : Addr} : ((Str.ofString "trail"), SV.ref tr) ∈ storeF dm fs tr mk nw := by repeat (first | exact List.mem_cons_self | apply List.mem_cons_of_mem)
theorem storeF_nw {dm fs tr mk nw : Addr} : ((Str.ofString "news"), SV.ref nw) ∈ storeF dm fs tr mk nw := by repeat (first | exact List.mem_cons_self | apply List.mem_cons_of_mem)
set_option maxHeartbeats 2000000 in
theorem sp122 (w : World) (lv : Nat) (x d : Addr) : SpecC w (lv + 1) (.ref 122) [.ref x] [(x, .inst 258 d [])] fun v H => v = .none ∧ ∃ dm fs tr mk nw, H = storeH x d dm fs tr mk nw [] [] [] [] := by
  refine spec_ofC (ok122 w) rfl rfl fun A s hb => ?_
  refine S_cons (S_aattr 258 ic258 (fun w => by kernel_rfl) ?_)
  refine E_list (A_nil ⟨Nat.zero_le _, fun dm _ => ?_⟩)
  refine E_name (get_at 0 rfl rfl) nofun ?_
  refine ⟨_, _, _, _, rfl, .next .here, Nat.le_of_ble_eq_true rfl, ?_⟩
  refine S_cons (S_aattr 258 ic258 (fun w => by kernel_rfl) ?_)
  refine E_list (A_nil ⟨Nat.zero_le _, fun fs _ => ?_⟩)
  refine E_name (get_at 0 rfl rfl) nofun ?_
  refine ⟨_, _, _, _, rfl, .next (.next .here), Nat.le_of_ble_eq_true rfl, ?_⟩
  refine S_cons (S_aattr 258 ic258 (fun w => by kernel_rfl) ?_)
  refine E_list (A_nil ⟨Nat.zero_le _, fun tr _ => ?_⟩)
  refine E_name (get_at 0 rfl rfl) nofun ?_
  refine ⟨_, _, _, _, rfl, .next (.next (.next .here)), Nat.le_of_ble_eq_true rfl, ?_⟩
  refine S_cons (S_aattr 258 ic258 (fun w => by kernel_rfl) ?_)
  refine E_list (A_nil ⟨Nat.zero_le _, fun mk _ => ?_⟩)
  refine E_name (get_at 0 rfl rfl) nofun ?_
  refine ⟨_, _, _, _, rfl, .next (.next (.next (.next .here))), Nat.le_of_ble_eq_true rfl, ?_⟩
  refine S_cons (S_aattr 258 ic258 (fun w => by kernel_rfl) ?_)
  refine E_dict0i fun nw _ => ?_
  refine E_name (get_at 0 rfl rfl) nofun ?_
  refine ⟨_, _, _, _, rfl, .next (.next (.next (.next (.next .here)))), Nat.le_of_ble_eq_true rfl, ?_⟩
  refine S_cons (S_aattr 258 ic258 (fun w => by kernel_rfl) ?_)
  refine E_una ?_; refine E_int ?_; refine O_negi ?_; refine E_name (get_at 0 rfl rfl) nofun ?_
  refine ⟨_, _, _, _, rfl, .next (.next (.next (.next (.next .here)))), Nat.le_of_ble_eq_true rfl, ?_⟩
  refine S_cons (S_aattr 258 ic258 (fun w => by kernel_rfl) ?_)
  refine E_bool ?_; refine E_name (get_at 0 rfl rfl) nofun ?_
  refine ⟨_, _, _, _, rfl, .next (.next (.next (.next (.next .here)))), Nat.le_of_ble_eq_true rfl, ?_⟩
  refine S_cons (S_aattr 258 ic258 (fun w => by kernel_rfl) ?_)
  refine E_tuple (A_nil ⟨Nat.zero_le _, ?_⟩)
  refine E_name (get_at 0 rfl rfl) nofun ?_
  refine ⟨_, _, _, _, rfl, .next (.next (.next (.next (.next .here)))), Nat.le_of_ble_eq_true rfl, ?_⟩
  refine S_nil ?_
  refine .inr ⟨rfl, rfl, dm, fs, tr, mk, nw, ?_⟩
  kernel_rfl
end
section
noncomputable def Shp (n : Nat) (x : SV) : Prop := (toD x).canLay0 = true ∧ (toD x).depth ≤ n
noncomputable def ShpAll (n : Nat) (l : List SV) : Prop := PyData.canLayAll0 (toDs l) = true ∧ PyData.depthAll (toDs l) ≤ n
theorem shpAll {n : Nat} : ∀ {l : List SV}, (∀ x ∈ l, Shp n x) → ShpAll n l
  | [], _ => ⟨rfl, Nat.zero_le _⟩
  | x :: l, h => by
    obtain ⟨a, b⟩ := h x List.mem_cons_self
    obtain ⟨a', b'⟩ := shpAll (l := l) fun y hy => h y (List.mem_cons_of_mem _ hy)
    unfold ShpAll
    simp only [toDs, PyData.canLayAll0, PyData.depthAll, a, a', Bool.and_self, true_and]
    exact Nat.max_le.mpr ⟨b, b'⟩
theorem shp_int {n : Nat} {i : Int} : Shp n (.int i) := ⟨by simp [toD, PyData.canLay0], by simp [toD, PyData.depth]⟩
theorem shp_bool {n : Nat} {i : Bool} : Shp n (.bool i) := ⟨by simp [toD, PyData.canLay0], by simp [toD, PyData.depth]⟩
theorem shp_str {n : Nat} {x : Str} (h : PyData.strOk x = true) : Shp n (.str x) := ⟨by simp [toD, PyData.canLay0, h], by simp [toD, PyData.depth]⟩
theorem shp_tup {n : Nat} {l : List SV} (h : ∀ x ∈ l, Shp n x) : Shp (n + 1) (.tup l) := by
  obtain ⟨a, b⟩ := shpAll h
  exact ⟨by simp only [toD, PyData.canLay0]; exact a, by simp only [toD, PyData.depth]; exact om150 b⟩
theorem shp_lst {n : Nat} {l : List SV} (h : ∀ x ∈ l, Shp n x) : Shp (n + 1) (.lst l) := by
  obtain ⟨a, b⟩ := shpAll h
  exact ⟨by simp only [toD, PyData.canLay0]; exact a, by simp only [toD, PyData.depth]; exact om150 b⟩
theorem Shp.shaped {n : Nat} {x : SV} (h : Shp n x) (hn : n ≤ 64) : SeqAt.shaped (toD x) = true := by
  unfold SeqAt.shaped
  rw [h.1, Bool.true_and, decide_eq_true_eq]
  exact Nat.le_trans h.2 hn
theorem shp_ivls (d : List (Int × Int)) : Shp 2 (.tup (d.map ivl)) := shp_tup fun x hx => by
  obtain ⟨p, _, rfl⟩ := List.mem_map.mp hx
  exact shp_tup fun y hy => by
    simp only [List.mem_cons, List.not_mem_nil, or_false] at hy
    rcases hy with rfl | rfl <;> exact shp_int
theorem dom_sh (d : List (Int × Int)) : SeqAt.shaped (toD (.tup (d.map ivl))) = true := (shp_ivls d).shaped (by decide)
noncomputable abbrev domV (d : List (Int × Int)) : SV := .tup (d.map ivl)
theorem eq_nil {d : List (Int × Int)} (h : d ≠ []) : PyData.eqv (toD (domV d)) (toD (.tup [])) = false := by
  cases d with
  | nil => exact absurd rfl h
  | cons p d => simp [toD, toDs, PyData.eqv, PyData.eqvAll]
set_option maxHeartbeats 2000000 in
theorem sp129 (w : World) (x d dm fs tr mk nw : Addr) (doms firsts trail : List SV) (ks : List Int) (dd : List (Int × Int)) (hd : dd ≠ []) (h1 : doms.length ≤ 10) (h2 : firsts.length ≤ 10) :
    Spec w 1 (.ref 129) [.ref x, domV dd] (storeH x d dm fs tr mk nw doms firsts trail ks) fun v H => H = storeH x d dm fs tr mk nw (doms ++ [domV dd]) (firsts ++ [domV dd]) trail ks := by
  refine spec_of (ok129 w) rfl rfl fun A s hb => ?_
  refine S_cons (S_expr (E_app ?_))
  refine E_at (a := x) (y := .ref dm) ic258 (fun w => by kernel_rfl) ?_ storeH_x storeF_dm rfl ?_
  · refine E_name (get_at 0 rfl rfl) nofun ?_; exact ⟨rfl, rfl⟩
  refine ⟨_, _, rfl, storeH_dm, ?_⟩
  refine E_name (get_at 1 rfl rfl) nofun ?_
  refine ⟨_, _, .next (.next (.next (.next .here))), by rw [sizeLine_eq]; exact om151 h1, ?_⟩
  refine S_cons (S_expr (E_app ?_))
  refine E_at (a := x) (y := .ref fs) ic258 (fun w => by kernel_rfl) ?_ storeH_x storeF_fs rfl ?_
  · refine E_name (get_at 0 rfl rfl) nofun ?_; exact ⟨rfl, rfl⟩
  refine ⟨_, _, rfl, storeH_fs, ?_⟩
  refine E_name (get_at 1 rfl rfl) nofun ?_
  refine ⟨_, _, .next (.next (.next .here)), by rw [sizeLine_eq]; exact om151 h2, ?_⟩
  refine S_cons (S_if (T_cmp ?_))
  refine E_name (get_at 1 rfl rfl) nofun ?_
  refine E_tuple (A_nil ⟨Nat.zero_le _, ?_⟩)
  refine O_eqd (dom_sh dd) (by kernel_rfl) ?_
  rw [eq_nil hd]
  refine ⟨_, rfl, fun h => (nomatch h), fun _ => ?_⟩
  refine S_nil ?_; refine S_cons ?_; refine S_ret ?_; refine E_bin ?_
  refine E_callB (by repeat (first | exact List.mem_cons_self | apply List.mem_cons_of_mem)) (A_cons ?_)
  refine E_at (a := x) (y := .ref dm) ic258 (fun w => by kernel_rfl) ?_ storeH_x storeF_dm rfl ?_
  · refine E_name (get_at 0 rfl rfl) nofun ?_; exact ⟨rfl, rfl⟩
  refine A_nil ?_
  refine C_len_own (.inl storeH_dm) (by simp; exact om152 h1) ?_
  refine E_int ?_; refine O_subi ?_
  exact .inl ⟨_, rfl, rfl⟩
theorem sp150 (w : World) (x d dm fs tr mk nw : Addr) (doms firsts trail : List SV) (ks : List Int) (i : Int) (y : SV) (h0 : 0 ≤ i) (hy : firsts[i.toNat]? = some y) (h1 : firsts.length ≤ 10) :
    Spec w 1 (.ref 150) [.ref x, .int i] (storeH x d dm fs tr mk nw doms firsts trail ks) fun v H => v = y ∧ H = storeH x d dm fs tr mk nw doms firsts trail ks := by
  refine spec_of (ok150 w) rfl rfl fun A s hb => ?_
  refine S_cons ?_; refine S_ret ?_; refine E_sub ?_
  refine E_at (a := x) (y := .ref fs) ic258 (fun w => by kernel_rfl) ?_ storeH_x storeF_fs rfl ?_
  · refine E_name (get_at 0 rfl rfl) nofun ?_; exact ⟨rfl, rfl⟩
  refine E_name (get_at 1 rfl rfl) nofun ?_
  refine O_oat (.inl storeH_fs) h0 hy (by exact om153 h1) ?_
  exact .inl ⟨_, rfl, rfl, rfl⟩
end
section
noncomputable def SetDom (dd d' : List (Int × Int)) (k : Int) : Prop := d' = dd ∨ d' = without dd k
set_option maxHeartbeats 4000000 in
theorem sp206 (w : World) (x d dm fs tr mk nw : Addr) (doms firsts trail : List SV) (ks : List Int) (dd : List (Int × Int)) (i k : Int) (h0 : 0 ≤ i) (hi : doms[i.toNat]? = some (domV dd)) (hw : without dd k ≠ []) (hl : dd.length < 1000)
    (h1 : doms.length ≤ 10) (h3 : trail.length ≤ 1000) (h4 : ks.length ≤ 1000) :
    Spec w 4 (.ref 206) [.ref x, tripV (i, k), .none, .int (-1)] (storeH x d dm fs tr mk nw doms firsts trail ks) fun v H => ∃ d' trail' ks', SetDom dd d' k ∧ trail'.length ≤ trail.length + 1 ∧ ks'.length ≤ ks.length + 1 ∧ H = storeH x d dm fs tr mk nw (doms.set i.toNat (domV d')) firsts trail' ks' := by
  have hset : doms.set i.toNat (domV dd) = doms := by
    obtain ⟨hlt, e⟩ := List.getElem?_eq_some_iff.mp hi
    rw [← e]; exact List.set_getElem_self hlt
  have hlt := (List.getElem?_eq_some_iff.mp hi).1
  refine spec_of (ok206 w) rfl rfl fun A s hb => ?_
  refine S_cons ?_; refine S_asgn (by repeat (first | exact List.mem_cons_self | apply List.mem_cons_of_mem)) ?_; refine E_sub ?_; refine E_name (get_at 1 rfl rfl) nofun ?_; refine E_int ?_
  refine O_t0 ?_ (Nat.le_of_ble_eq_true rfl)
  refine ⟨_, by repeat (first | exact Put.here | apply Put.next), ?_⟩
  try dsimp only
  refine S_cons ?_; refine S_asgn (by repeat (first | exact List.mem_cons_self | apply List.mem_cons_of_mem)) ?_; refine E_sub ?_
  refine E_at (a := x) (y := .ref dm) ic258 (fun w => by kernel_rfl) ?_ storeH_x storeF_dm rfl ?_
  · refine E_name (get_at 0 rfl rfl) nofun ?_; exact ⟨rfl, rfl⟩
  refine E_name (get_at 4 rfl rfl) nofun ?_
  refine O_oat (.inl storeH_dm) h0 hi (by exact om153 h1) ?_
  refine ⟨_, by repeat (first | exact Put.here | apply Put.next), ?_⟩
  try dsimp only
  refine S_cons ?_; refine S_asgn (by repeat (first | exact List.mem_cons_self | apply List.mem_cons_of_mem)) ?_
  refine E_callF (a := 101) (fd := fd101) (by repeat (first | exact List.mem_cons_self | apply List.mem_cons_of_mem)) (fun w => ⟨_, _, _, (ok101 w).obj.choose_spec.choose_spec.choose_spec⟩) ?_
  refine A_cons ?_; refine E_name (get_at 1 rfl rfl) nofun ?_; refine A_cons ?_; refine E_name (get_at 5 rfl rfl) nofun ?_; refine A_nil ?_
  refine call_spec (sp101 w dd i k hl) (Nat.le_refl _) .nil ?_
  rintro sv H' ⟨rfl, rfl⟩
  try dsimp only
  refine ⟨_, by repeat (first | exact Put.here | apply Put.next), ?_⟩
  try dsimp only
  refine S_cons (S_if (T_cmp ?_))
  refine E_name (get_at 6 rfl rfl) nofun ?_
  refine E_tuple (A_nil ⟨Nat.zero_le _, ?_⟩)
  refine O_eqd (dom_sh (without dd k)) (by kernel_rfl) ?_
  rw [eq_nil hw]
  refine ⟨_, rfl, fun h => (nomatch h), fun _ => ?_⟩
  refine S_nil ?_
  refine S_cons (S_if (T_cmp ?_))
  refine E_name (get_at 6 rfl rfl) nofun ?_; refine E_name (get_at 5 rfl rfl) nofun ?_
  refine O_eqd (dom_sh (without dd k)) (dom_sh dd) ?_
  refine ⟨_, rfl, fun _ => ?_, fun _ => ?_⟩
  · refine S_cons ?_; refine S_ret ?_; refine E_bool ?_
    exact .inl ⟨_, rfl, dd, trail, ks, .inl rfl, Nat.le_succ _, Nat.le_succ _, by rw [hset]; rfl⟩
  refine S_nil ?_
  refine S_cons (S_expr (E_app ?_))
  refine E_at (a := x) (y := .ref tr) ic258 (fun w => by kernel_rfl) ?_ storeH_x storeF_tr rfl ?_
  · refine E_name (get_at 0 rfl rfl) nofun ?_; exact ⟨rfl, rfl⟩
  refine ⟨_, _, rfl, storeH_tr, ?_⟩
  refine E_tuple ?_; refine A_cons ?_; refine E_name (get_at 4 rfl rfl) nofun ?_; refine A_cons ?_; refine E_name (get_at 5 rfl rfl) nofun ?_; refine A_cons ?_; refine E_name (get_at 1 rfl rfl) nofun ?_; refine A_cons ?_; refine E_name (get_at 2 rfl rfl) nofun ?_; refine A_cons ?_; refine E_name (get_at 3 rfl rfl) nofun ?_; refine A_nil ?_
  refine ⟨Nat.le_of_ble_eq_true rfl, ?_⟩
  refine ⟨_, _, .next (.next .here), by rw [sizeLine_eq]; exact om154 h3, ?_⟩
  refine S_cons ?_; refine S_asub ?_; refine E_name (get_at 6 rfl rfl) nofun ?_
  refine E_at (a := x) (y := .ref dm) ic258 (fun w => by kernel_rfl) ?_ storeH_x storeF_dm rfl ?_
  · refine E_name (get_at 0 rfl rfl) nofun ?_; exact ⟨rfl, rfl⟩
  refine E_name (get_at 4 rfl rfl) nofun ?_
  refine SI_list (.next (.next (.next (.next .here)))) (j := i.toNat) (.inl ⟨h0, by exact om40 hlt, rfl⟩) (by exact om153 h1) ?_
  refine S_cons ?_; refine S_asub ?_; refine E_bool ?_
  refine E_at (a := x) (y := .ref nw) ic258 (fun w => by kernel_rfl) ?_ storeH_x storeF_nw rfl ?_
  · refine E_name (get_at 0 rfl rfl) nofun ?_; exact ⟨rfl, rfl⟩
  refine E_name (get_at 4 rfl rfl) nofun ?_
  refine SI_idict (ks := ks) storeH_nw (by rw [sizeLine_eq]; exact om154 h4) fun ks' H' u hk => ?_
  have hH : H' = storeH x d dm fs tr mk nw (doms.set i.toNat (domV (without dd k))) firsts (trail ++ [.tup [.int i, domV dd, tripV (i, k), .none, .int (-1)]]) ks' := by
    cases u with
    | here => rfl
    | next u =>
      exfalso
      cases u with | next u => ?_
      cases u with | next u => ?_
      cases u with | next u => ?_
      cases u with | next u => ?_
      cases u with | next u => ?_
      cases u
  subst hH
  refine S_cons ?_; refine S_ret ?_; refine E_bool ?_
  exact .inl ⟨_, rfl, without dd k, _, ks', .inr rfl, by simp, hk, rfl⟩
theorem storeF_not {n : Str} {dm fs tr mk nw : Addr} (h : n ∉ (["domains", "firsts", "trail", "marks", "news", "speaker", "is_failed", "clash"] : List Str)) : n ∉ (storeF dm fs tr mk nw).map (·.1) := h
set_option maxHeartbeats 2000000 in
theorem sp220 (w : World) (x d dm fs tr mk nw : Addr) (doms firsts trail : List SV) (ks : List Int) (dd : List (Int × Int)) (i k : Int) (h0 : 0 ≤ i) (hi : doms[i.toNat]? = some (domV dd)) (hw : without dd k ≠ []) (hl : dd.length < 1000)
    (h1 : doms.length ≤ 10) (h3 : trail.length ≤ 1000) (h4 : ks.length ≤ 1000) :
    Spec w 5 (.ref 220) [.ref x, tripV (i, k)] (storeH x d dm fs tr mk nw doms firsts trail ks) fun v H => ∃ d' trail' ks', SetDom dd d' k ∧ trail'.length ≤ trail.length + 1 ∧ ks'.length ≤ ks.length + 1 ∧ H = storeH x d dm fs tr mk nw (doms.set i.toNat (domV d')) firsts trail' ks' := by
  refine spec_of (ok220 w) rfl rfl fun A s hb => ?_
  refine S_cons ?_; refine S_ret ?_
  refine E_methF 206 fd206 (fun w => ⟨_, _, _, (ok206 w).obj.choose_spec.choose_spec.choose_spec⟩) ?_
  refine E_name (get_at 0 rfl rfl) nofun ?_
  refine ⟨GM_own (C := 258) (a := x) (d := d) (fs := storeF dm fs tr mk nw) storeH_x ic258 (fun w => by kernel_rfl) (fun w => by kernel_rfl) (storeF_not (by decide +kernel)), ?_⟩
  refine A_cons ?_; refine E_name (get_at 1 rfl rfl) nofun ?_; refine A_cons ?_; refine E_none ?_; refine A_cons ?_; refine E_una ?_; refine E_int ?_; refine O_negi ?_; refine A_nil ?_
  refine call_spec (sp206 w x d dm fs tr mk nw doms firsts trail ks dd i k h0 hi hw hl h1 h3 h4) (Nat.le_refl _) (.cons .here (.cons .here (.cons .here (.cons .here (.cons .here (.cons .here .nil)))))) ?_
  rintro sv H' ⟨d', trail', ks', a1, a2, a3, rfl⟩
  try dsimp only
  exact .inl ⟨_, rfl, d', trail', ks', a1, a2, a3, rfl⟩
end
section
set_option maxHeartbeats 2000000 in
theorem sp276 (w : World) (lv : Nat) (x d : Addr) (l : List SV) : SpecC w (lv + 1) (.ref 276) [.ref x, .tup l, .str "values"] [(x, .inst 405 d [])] fun v H => v = .none ∧ H = [(x, .inst 405 d [("number", .int (-1)), ("scope", .tup l), ("strength", .str "values")])] := by
  refine spec_ofC (ok276 w) rfl rfl fun A s hb => ?_
  refine S_cons (S_aattr 405 ic405 (fun w => by kernel_rfl) ?_)
  refine E_una ?_; refine E_int ?_; refine O_negi ?_; refine E_name (get_at 0 rfl rfl) nofun ?_
  refine ⟨_, _, _, _, rfl, .here, Nat.le_of_ble_eq_true rfl, ?_⟩
  refine S_cons (S_aattr 405 ic405 (fun w => by kernel_rfl) ?_)
  refine E_callT (by repeat (first | exact List.mem_cons_self | apply List.mem_cons_of_mem)) (A_cons ?_)
  refine E_name (get_at 1 rfl rfl) nofun ?_; refine A_nil ?_
  refine C_tuple_tup ?_
  refine E_name (get_at 0 rfl rfl) nofun ?_
  refine ⟨_, _, _, _, rfl, .here, Nat.le_of_ble_eq_true rfl, ?_⟩
  refine S_cons (S_aattr 405 ic405 (fun w => by kernel_rfl) ?_)
  refine E_name (get_at 2 rfl rfl) nofun ?_; refine E_name (get_at 0 rfl rfl) nofun ?_
  refine ⟨_, _, _, _, rfl, .here, Nat.le_of_ble_eq_true rfl, ?_⟩
  refine S_nil ?_
  refine .inr ⟨rfl, rfl, ?_⟩
  kernel_rfl
noncomputable abbrev machF (xs : List Int) (m n : Int) (rows : List (List Int)) (start : Int) (ends : List Int) (tw : Bool) : List (Str × SV) :=
  [("number", .int (-1)), ("scope", .tup (xs.map .int)), ("strength", .str "values"), ("states", .int m), ("letters", .int n), ("rows", rowsV rows), ("start", .int start), ("finals", iL ends), ("has_twins", .bool tw)]
set_option maxHeartbeats 4000000 in
theorem sp320 (w : World) (lv : Nat) (x d : Addr) (xs : List Int) (m n : Int) (rows : List (List Int)) (start : Int) (ends : List Int) (hxs : ∀ x ∈ xs, x ∈ [(0 : Int), 1, 2, 3]) (hl : xs.length ≤ 10) :
    SpecC w (lv + 2) (.ref 320) [.ref x, iL xs, .int m, .int n, rowsV rows, .int start, iL ends] [(x, .inst 405 d [])] fun v H => v = .none ∧ ∃ tw, H = [(x, .inst 405 d (machF xs m n rows start ends tw))] := by
  refine spec_ofAt (ok320 w) rfl rfl fun A s hb => ?_
  refine at_cons (S_super (lv := lv + 1) (x := x) (d := d) (fs := []) rfl (by exact get_at 0 rfl rfl) (by repeat (first | exact List.mem_cons_self | apply List.mem_cons_of_mem)) ?_)
  refine A_cons ?_
  refine E_callT (by repeat (first | exact List.mem_cons_self | apply List.mem_cons_of_mem)) (A_cons ?_)
  refine E_name (get_at 1 rfl rfl) nofun ?_; refine A_nil ?_
  refine C_tuple_lst (by rw [List.length_map, sizeLine_eq]; exact om151 hl) ?_
  refine A_cons ?_; refine E_str ?_; refine A_nil ?_
  refine ⟨_, _, _, sp276 w lv x d (xs.map .int), Nat.le_refl _, .cons .here .nil, ?_⟩
  rintro sv H' ⟨rfl, rfl⟩
  refine ⟨rfl, ?_⟩
  refine S_cons (S_aattr 405 ic405 (fun w => by kernel_rfl) ?_)
  refine E_name (get_at 2 rfl rfl) nofun ?_; refine E_name (get_at 0 rfl rfl) nofun ?_
  refine ⟨_, _, _, _, rfl, .here, Nat.le_of_ble_eq_true rfl, ?_⟩
  refine S_cons (S_aattr 405 ic405 (fun w => by kernel_rfl) ?_)
  refine E_name (get_at 3 rfl rfl) nofun ?_; refine E_name (get_at 0 rfl rfl) nofun ?_
  refine ⟨_, _, _, _, rfl, .here, Nat.le_of_ble_eq_true rfl, ?_⟩
  refine S_cons (S_aattr 405 ic405 (fun w => by kernel_rfl) ?_)
  refine E_name (get_at 4 rfl rfl) nofun ?_; refine E_name (get_at 0 rfl rfl) nofun ?_
  refine ⟨_, _, _, _, rfl, .here, Nat.le_of_ble_eq_true rfl, ?_⟩
  refine S_cons (S_aattr 405 ic405 (fun w => by kernel_rfl) ?_)
  refine E_name (get_at 5 rfl rfl) nofun ?_; refine E_name (get_at 0 rfl rfl) nofun ?_
  refine ⟨_, _, _, _, rfl, .here, Nat.le_of_ble_eq_true rfl, ?_⟩
  refine S_cons (S_aattr 405 ic405 (fun w => by kernel_rfl) ?_)
  refine E_name (get_at 6 rfl rfl) nofun ?_; refine E_name (get_at 0 rfl rfl) nofun ?_
  refine ⟨_, _, _, _, rfl, .here, Nat.le_of_ble_eq_true rfl, ?_⟩
  refine S_cons (S_aattr 405 ic405 (fun w => by kernel_rfl) ?_)
  refine E_cmp ?_
  refine E_callB (by repeat (first | exact List.mem_cons_self | apply List.mem_cons_of_mem)) (A_cons ?_)
  refine E_callB (by repeat (first | exact List.mem_cons_self | apply List.mem_cons_of_mem)) (A_cons ?_)
  refine E_callT (by repeat (first | exact List.mem_cons_self | apply List.mem_cons_of_mem)) (A_cons ?_)
  refine E_name (get_at 1 rfl rfl) nofun ?_; refine A_nil ?_
  refine C_set_lst hxs fun sv hsv => ?_
  refine A_nil ?_
  refine C_sorted_set hsv ?_
  refine A_nil ?_
  have hlen : (insAll xs).length ≤ 4 := (size_16 _ (insAll_16 hxs)).1
  refine C_len_lst (by rw [List.length_map]; exact om155 hlen) ?_
  refine E_callB (by repeat (first | exact List.mem_cons_self | apply List.mem_cons_of_mem)) (A_cons ?_)
  refine E_name (get_at 1 rfl rfl) nofun ?_; refine A_nil ?_
  refine C_len_lst (by rw [List.length_map]; exact om153 hl) ?_
  refine O_lti ?_
  refine E_name (get_at 0 rfl rfl) nofun ?_
  refine ⟨_, _, _, _, rfl, .here, Nat.le_of_ble_eq_true rfl, ?_⟩
  refine S_nil ?_
  refine .inr ⟨rfl, rfl, decide (((((insAll xs).map SV.int).length : Nat) : Int) < (((xs.map SV.int).length : Nat) : Int)), ?_⟩
  kernel_rfl
end
section
noncomputable def rngL (a k : Int) (n : Nat) : List Int := (List.range n).map fun i : Nat => a + i * k
theorem rngL_len {a k : Int} {n : Nat} : (rngL a k n).length = n := by simp [rngL]
theorem rngL_succ {a k : Int} {n : Nat} : rngL a k (n + 1) = rngL a k n ++ [a + n * k] := by unfold rngL; rw [List.range_succ, List.map_append]; rfl
theorem mem_rngL {a k v : Int} {n : Nat} : v ∈ rngL a k n ↔ ∃ i : Nat, i < n ∧ a + i * k = v := by unfold rngL; simp
theorem mem_rng1 {v : Int} {n : Nat} : v ∈ rngL 1 1 n ↔ 1 ≤ v ∧ v ≤ n := by
  rw [mem_rngL]
  constructor
  · rintro ⟨i, hi, rfl⟩; exact om156 hi
  · rintro ⟨h1, h2⟩; exact ⟨(v - 1).toNat, by exact om157 h1 h2, by exact om158 h1⟩
theorem it_rng {target : Expr} {a b k : Int} {n : Nat} (ht : ∃ x p, target = .Name x p) (h1 : Builtin.Range.small a b k = true) (h2 : Builtin.Range.rangeSize a b k = (n : Int)) : Iters target (.rng a b k) ((rngL a k n).map .int) := by
  have e : (rngL a k n).map SV.int = (List.range n).map fun i : Nat => SV.int (a + i * k) := by unfold rngL; rw [List.map_map]; rfl
  rw [e]; exact .rng a b k n ht h1 h2
theorem rng_at {a k : Int} {n : Nat} {pre post : List SV} {x : SV} (h : (rngL a k n).map SV.int = pre ++ x :: post) : pre.length < n ∧ x = .int (a + pre.length * k) := by
  have hl := congrArg List.length h
  simp [rngL_len] at hl
  have hi : pre.length < n := by exact om123 hl
  refine ⟨hi, ?_⟩
  have := congrArg (fun l => l[pre.length]?) h
  simp [rngL, hi] at this
  exact this.symm
theorem rng_cons {a k : Int} {n : Nat} {ls qs : List Int} {x : Int} (h : rngL a k n = ls ++ x :: qs) : ls.length < n ∧ x = a + ls.length * k := by
  obtain ⟨h1, h2⟩ := rng_at (pre := ls.map SV.int) (x := .int x) (post := qs.map SV.int) (by rw [h, List.map_append, List.map_cons])
  rw [List.length_map] at h1 h2
  exact ⟨h1, SV.int.inj h2⟩
theorem it_up {target : Expr} {a b : Int} {n : Nat} (ht : ∃ x p, target = .Name x p) (ha : -1000 ≤ a ∧ a ≤ 1000) (hb : -1000 ≤ b ∧ b ≤ 1000) (hn : n = (b - a).toNat) : Iters target (.rng a b 1) ((rngL a 1 n).map .int) := by
  refine it_rng ht (small_one (by exact om159 ha) (by exact om160 ha) (by exact om159 hb) (by exact om160 hb)) ?_
  unfold Builtin.Range.rangeSize
  simp
  split <;> omega
theorem it_down {target : Expr} {a b : Int} {n : Nat} (ht : ∃ x p, target = .Name x p) (ha : -1000 ≤ a ∧ a ≤ 1000) (hb : -1000 ≤ b ∧ b ≤ 1000) (hn : n = (a - b).toNat) : Iters target (.rng a b (-1)) ((rngL a (-1) n).map .int) := by
  refine it_rng ht (small_down (by exact om159 ha) (by exact om160 ha) (by exact om159 hb) (by exact om160 hb)) ?_
  unfold Builtin.Range.rangeSize
  simp
  split <;> omega
noncomputable def addP (ps : List (Int × Int)) (p : Int × Int) : List (Int × Int) := if p ∈ ps then ps else ps ++ [p]
theorem trip_inj {p q : Int × Int} (h : trip p = trip q) : p = q := by
  simp only [trip, List.cons.injEq, Sum.inl.injEq, and_true, true_and] at h
  exact Prod.ext h.1 h.2
theorem addKey_trip (ps : List (Int × Int)) (p : Int × Int) : addKey (ps.map trip) (trip p) = (addP ps p).map trip := by
  have e : trip p ∈ ps.map trip ↔ p ∈ ps := ⟨fun h => by obtain ⟨q, hq, e⟩ := List.mem_map.mp h; rw [← trip_inj e]; exact hq, fun h => List.mem_map_of_mem h⟩
  unfold addKey addP
  by_cases h : p ∈ ps
  · rw [if_pos (any_key.mpr (e.mpr h)), if_pos h]
  · rw [if_neg (fun q => h (e.mp (any_key.mp q))), if_neg h]; simp
theorem mem_addP {ps : List (Int × Int)} {p x : Int × Int} : x ∈ addP ps p ↔ x ∈ ps ∨ x = p := by
  unfold addP
  split
  · rename_i h
    exact ⟨.inl, fun q => q.elim id fun e => e ▸ h⟩
  · simp
structure Good (ps : List (Int × Int)) : Prop where
  nd : ps.Nodup
  inn : ∀ p ∈ ps, (0 ≤ p.1 ∧ p.1 ≤ 3) ∧ 1 ≤ p.2 ∧ p.2 ≤ 3
noncomputable def all12 : List (Int × Int) := [0, 1, 2, 3].flatMap fun x => [1, 2, 3].map fun a => (x, a)
theorem Good.len {ps : List (Int × Int)} (g : Good ps) : ps.length ≤ 12 := by
  have h : ps.length ≤ all12.length := g.nd.length_le_of_subset fun p hp => by
    obtain ⟨⟨h1, h2⟩, h3, h4⟩ := g.inn p hp
    refine List.mem_flatMap.mpr ⟨p.1, ?_, List.mem_map.mpr ⟨p.2, ?_, rfl⟩⟩
    · have : p.1 = 0 ∨ p.1 = 1 ∨ p.1 = 2 ∨ p.1 = 3 := by exact om141 h1 h2
      rcases this with h | h | h | h <;> rw [h] <;> decide
    · have : p.2 = 1 ∨ p.2 = 2 ∨ p.2 = 3 := by exact om161 h3 h4
      rcases this with h | h | h <;> rw [h] <;> decide
  exact h
theorem Good.add {ps : List (Int × Int)} (g : Good ps) {p : Int × Int} (hp : (0 ≤ p.1 ∧ p.1 ≤ 3) ∧ 1 ≤ p.2 ∧ p.2 ≤ 3) : Good (addP ps p) where
  nd := by
    unfold addP
    split
    · exact g.nd
    · rename_i h
      refine List.nodup_append.mpr ⟨g.nd, by simp, fun a ha b hb e => ?_⟩
      rw [List.mem_singleton.mp hb] at e
      exact h (e ▸ ha)
  inn := fun q hq => by
    rcases mem_addP.mp hq with h | rfl
    · exact g.inn q h
    · exact hp
noncomputable abbrev gl (rows : List (List Int)) (s l : Int) : Int := cell rows (s - 1).toNat (l - 1).toNat
noncomputable def noteIf (b : Bool) (ps : List (Int × Int)) (p : Int × Int) : List (Int × Int) := if b then addP ps p else ps
theorem mem_noteIf {b : Bool} {ps : List (Int × Int)} {p x : Int × Int} : x ∈ noteIf b ps p ↔ x ∈ ps ∨ (b = true ∧ x = p) := by
  unfold noteIf
  cases b with
  | true => simp [mem_addP]
  | false => simp
theorem Good.noteIf {b : Bool} {ps : List (Int × Int)} (g : Good ps) {p : Int × Int} (hp : (0 ≤ p.1 ∧ p.1 ≤ 3) ∧ 1 ≤ p.2 ∧ p.2 ≤ 3) : Good (noteIf b ps p) := by
  unfold Mine.noteIf
  split
  · exact g.add hp
  · exact g
noncomputable def pairsL (ss : List Int) (n : Nat) : List (Int × Int) := ss.flatMap fun s => (rngL 1 1 n).map fun l => (s, l)
theorem mem_pairsL {ss : List Int} {n : Nat} {p : Int × Int} : p ∈ pairsL ss n ↔ p.1 ∈ ss ∧ 1 ≤ p.2 ∧ p.2 ≤ n := by
  unfold pairsL
  rw [List.mem_flatMap]
  constructor
  · rintro ⟨s, hs, h⟩
    obtain ⟨l, hl, rfl⟩ := List.mem_map.mp h
    exact ⟨hs, mem_rng1.mp hl⟩
  · rintro ⟨h1, h2⟩
    exact ⟨p.1, h1, List.mem_map.mpr ⟨p.2, mem_rng1.mpr h2, rfl⟩⟩
theorem pairsL_len {ss : List Int} {n : Nat} : (pairsL ss n).length = ss.length * n := by
  unfold pairsL
  induction ss with
  | nil => simp
  | cons s ss ih => rw [List.flatMap_cons, List.length_append, ih, List.length_map, rngL_len, List.length_cons, Nat.succ_mul]; exact om162
noncomputable def pairsJ (ss : List Int) (n : Nat) (s : Int) (j : Nat) : List (Int × Int) := pairsL ss n ++ (rngL 1 1 j).map fun l => (s, l)
theorem pairsJ_zero {ss : List Int} {n : Nat} {s : Int} : pairsJ ss n s 0 = pairsL ss n := by simp [pairsJ, rngL]
theorem pairsJ_succ {ss : List Int} {n : Nat} {s : Int} {j : Nat} : pairsJ ss n s (j + 1) = pairsJ ss n s j ++ [(s, (1 + (j : Int) * 1 : Int))] := by
  unfold pairsJ
  rw [rngL_succ, List.map_append, List.append_assoc]; rfl
theorem pairsJ_end {ss : List Int} {n : Nat} {s : Int} : pairsJ ss n s n = pairsL (ss ++ [s]) n := by
  unfold pairsJ pairsL
  rw [List.flatMap_append]; simp
noncomputable def lateL (rows : List (List Int)) (al : List Int) (D : List (Int × Int)) : List Int := (D.map fun p => gl rows p.1 p.2).filter fun q => decide (q ≠ 0) && !decide (q ∈ al)
noncomputable def noteD (rows : List (List Int)) (al : List Int) (k : Int) (ps D : List (Int × Int)) : List (Int × Int) := D.foldl (fun ps p => noteIf (decide (gl rows p.1 p.2 ≠ 0) && decide (gl rows p.1 p.2 ∈ al)) ps (k, p.2)) ps
noncomputable def deadSome (rows : List (List Int)) (n : Nat) (al : List (List Int)) (sp : Nat) (S : List Int) : Nat → List Int
  | 0 => S
  | j + 1 => insAll (lateL rows (al.getD (sp + j + 1) []) (pairsL (deadSome rows n al sp S j) n))
noncomputable def deadNote (rows : List (List Int)) (n : Nat) (al : List (List Int)) (sp : Nat) (S : List Int) (ps : List (Int × Int)) : Nat → List (Int × Int)
  | 0 => ps
  | j + 1 => noteD rows (al.getD (sp + j + 1) []) (sp + j : Nat) (deadNote rows n al sp S ps j) (pairsL (deadSome rows n al sp S j) n)
noncomputable def earlyL (rows : List (List Int)) (re S : List Int) (D : List (Int × Int)) : List Int := (D.filter fun p => decide (gl rows p.1 p.2 ∈ S) && !decide (p.1 ∈ re)).map (·.1)
noncomputable def noteU (rows : List (List Int)) (re S : List Int) (k : Int) (ps D : List (Int × Int)) : List (Int × Int) := D.foldl (fun ps p => noteIf (decide (gl rows p.1 p.2 ∈ S) && decide (p.1 ∈ re)) ps (k, p.2)) ps
noncomputable def unrSome (rows : List (List Int)) (m n : Nat) (re : List (List Int)) (sp : Nat) (S : List Int) : Nat → List Int
  | 0 => S
  | j + 1 => insAll (earlyL rows (re.getD (sp - 1 - j) []) (unrSome rows m n re sp S j) (pairsL (rngL 1 1 m) n))
noncomputable def unrNote (rows : List (List Int)) (m n : Nat) (re : List (List Int)) (sp : Nat) (S : List Int) (ps : List (Int × Int)) : Nat → List (Int × Int)
  | 0 => ps
  | j + 1 => noteU rows (re.getD (sp - 1 - j) []) (unrSome rows m n re sp S j) (sp - 1 - j : Nat) (unrNote rows m n re sp S ps j) (pairsL (rngL 1 1 m) n)
theorem noteD_good {rows : List (List Int)} {al : List Int} {k : Int} (hk : 0 ≤ k ∧ k ≤ 3) : ∀ {D ps : List (Int × Int)}, (∀ p ∈ D, 1 ≤ p.2 ∧ p.2 ≤ 3) → Good ps → Good (noteD rows al k ps D)
  | [], _, _, g => g
  | p :: D, ps, h, g => noteD_good (D := D) hk (fun q hq => h q (List.mem_cons_of_mem _ hq)) (g.noteIf (p := (k, p.2)) ⟨hk, h p List.mem_cons_self⟩)
theorem noteU_good {rows : List (List Int)} {re S : List Int} {k : Int} (hk : 0 ≤ k ∧ k ≤ 3) : ∀ {D ps : List (Int × Int)}, (∀ p ∈ D, 1 ≤ p.2 ∧ p.2 ≤ 3) → Good ps → Good (noteU rows re S k ps D)
  | [], _, _, g => g
  | p :: D, ps, h, g => noteU_good (D := D) hk (fun q hq => h q (List.mem_cons_of_mem _ hq)) (g.noteIf (p := (k, p.2)) ⟨hk, h p List.mem_cons_self⟩)
theorem noteD_snoc {rows : List (List Int)} {al : List Int} {k : Int} {ps D : List (Int × Int)} {p : Int × Int} : noteD rows al k ps (D ++ [p]) = noteIf (decide (gl rows p.1 p.2 ≠ 0) && decide (gl rows p.1 p.2 ∈ al)) (noteD rows al k ps D) (k, p.2) := by
  unfold noteD; rw [List.foldl_append]; rfl
theorem noteU_snoc {rows : List (List Int)} {re S : List Int} {k : Int} {ps D : List (Int × Int)} {p : Int × Int} : noteU rows re S k ps (D ++ [p]) = noteIf (decide (gl rows p.1 p.2 ∈ S) && decide (p.1 ∈ re)) (noteU rows re S k ps D) (k, p.2) := by
  unfold noteU; rw [List.foldl_append]; rfl
theorem lateL_snoc {rows : List (List Int)} {al : List Int} {D : List (Int × Int)} {p : Int × Int} : lateL rows al (D ++ [p]) = lateL rows al D ++ (if (decide (gl rows p.1 p.2 ≠ 0) && !decide (gl rows p.1 p.2 ∈ al)) = true then [gl rows p.1 p.2] else []) := by
  unfold lateL; rw [List.map_append, List.filter_append]
  congr 1
  rw [List.map_cons, List.map_nil, List.filter_cons, List.filter_nil]
theorem earlyL_snoc {rows : List (List Int)} {re S : List Int} {D : List (Int × Int)} {p : Int × Int} : earlyL rows re S (D ++ [p]) = earlyL rows re S D ++ (if (decide (gl rows p.1 p.2 ∈ S) && !decide (p.1 ∈ re)) = true then [p.1] else []) := by
  unfold earlyL; rw [List.filter_append, List.map_append]
  congr 1
  rw [List.filter_cons, List.filter_nil]
  split <;> rfl
end
section
noncomputable abbrev boolRow (m : Nat) (ly : List Int) : List SV := (rngL 0 1 (m + 1)).map fun s => SV.bool (decide (s ∈ ly))
noncomputable abbrev layV (m : Nat) (lys : List (List Int)) : SV := .lst (lys.map fun ly => SV.lst (boolRow m ly))
theorem lay_at {m : Nat} {lys : List (List Int)} {j : Nat} (h : j < lys.length) : (lys.map fun ly => SV.lst (boolRow m ly))[j]? = some (.lst (boolRow m (lys.getD j []))) := by
  rw [List.getElem?_map, List.getElem?_eq_getElem h]
  simp [List.getD, h]
theorem bool_at {m : Nat} {ly : List Int} {q : Int} (h0 : 0 ≤ q) (h1 : q ≤ m) : (boolRow m ly)[q.toNat]? = some (.bool (decide (q ∈ ly))) := by
  unfold boolRow rngL
  rw [List.map_map, List.getElem?_map, List.getElem?_range (by exact om163 h1)]
  simp
  have : ((q.toNat : Nat) : Int) = q := by exact om164 h0
  rw [show max q 0 = q by exact om165 h0]
theorem boolRow_len {m : Nat} {ly : List Int} : (boolRow m ly).length = m + 1 := by simp [rngL]
noncomputable abbrev machA (M d : Addr) (L : Nat) (m n : Nat) (rows : List (List Int)) (start : Int) (ends : List Int) (tw : Bool) : Addr × AObj := (M, .inst 405 d (machF (rngL 0 1 L) m n rows start ends tw))
theorem scope_at {L : Nat} {k : Int} (h0 : 0 ≤ k) (h1 : k < L) : ((rngL 0 1 L).map SV.int)[k.toNat]? = some (.int k) := by
  unfold rngL
  rw [List.map_map, List.getElem?_map, List.getElem?_range (by exact om166 h0 h1)]
  simp; exact om165 h0
structure SomeOk (m : Nat) (S : List Int) : Prop where
  len : S.length ≤ 9
  inn : ∀ s ∈ S, 1 ≤ s ∧ s ≤ m
theorem lateL_mem {rows : List (List Int)} {al : List Int} {D : List (Int × Int)} {q : Int} : q ∈ lateL rows al D ↔ (∃ p ∈ D, gl rows p.1 p.2 = q) ∧ q ≠ 0 ∧ q ∉ al := by
  unfold lateL
  rw [List.mem_filter, List.mem_map]
  simp
theorem lateL_len {rows : List (List Int)} {al : List Int} {D : List (Int × Int)} : (lateL rows al D).length ≤ D.length := by
  unfold lateL
  exact Nat.le_trans (List.length_filter_le _ _) (by simp)
theorem insAll_len4 {ns : List Int} (h : ∀ x ∈ ns, 1 ≤ x ∧ x ≤ 3) : (insAll ns).length ≤ 4 := insAll_len fun x hx => small4 (by have := h x hx; exact om167 this) (h x hx).2
theorem insAll_some {m : Nat} {ns : List Int} (hm : m ≤ 3) (h : ∀ x ∈ ns, 1 ≤ x ∧ x ≤ m) : SomeOk m (insAll ns) := ⟨Nat.le_trans (insAll_len4 fun x hx => ⟨(h x hx).1, by have := (h x hx).2; exact om168 hm this⟩) (by decide), fun s hs => h s ((mem_insAll s ns).mp hs)⟩
theorem lateL_in {rows : List (List Int)} {m n : Nat} (T : Tab rows m n) {al : List Int} {D : List (Int × Int)} : ∀ x ∈ lateL rows al D, 1 ≤ x ∧ x ≤ m := fun x hx => by
  obtain ⟨⟨p, _, rfl⟩, h, _⟩ := lateL_mem.mp hx
  have h2 := T.cell_range (p.1 - 1).toNat (p.2 - 1).toNat
  have h3 : cell rows (p.1 - 1).toNat (p.2 - 1).toNat ≠ 0 := h
  show 1 ≤ cell rows (p.1 - 1).toNat (p.2 - 1).toNat ∧ cell rows (p.1 - 1).toNat (p.2 - 1).toNat ≤ m
  exact om169 h2 h3
theorem deadSome_ok {rows : List (List Int)} {m n : Nat} (T : Tab rows m n) {al : List (List Int)} {sp : Nat} {S : List Int} (hS : SomeOk m S) : ∀ j, SomeOk m (deadSome rows n al sp S j)
  | 0 => hS
  | j + 1 => insAll_some T.m3 (lateL_in T)
theorem deadNote_good {rows : List (List Int)} {m n : Nat} (T : Tab rows m n) {al : List (List Int)} {sp : Nat} {S : List Int} {ps : List (Int × Int)} (g : Good ps) : ∀ j, sp + j ≤ 4 → Good (deadNote rows n al sp S ps j)
  | 0, _ => g
  | j + 1, h => noteD_good (by exact om170 h) (fun p hp => by have := (mem_pairsL.mp hp).2; have := T.n3; omega) (deadNote_good T g j (by exact om171 h))
theorem pairsJ_in {ss : List Int} {n : Nat} {s : Int} {j : Nat} (hn : n ≤ 3) (hj : j ≤ 3) {p : Int × Int} (h : p ∈ pairsJ ss n s j) : 1 ≤ p.2 ∧ p.2 ≤ 3 := by
  unfold pairsJ at h
  rcases List.mem_append.mp h with h | h
  · have := (mem_pairsL.mp h).2; exact om172 hn this
  · obtain ⟨l, hl, rfl⟩ := List.mem_map.mp h
    have := mem_rng1.mp hl
    exact ⟨this.1, by show l ≤ 3; exact om173 hj this⟩
theorem pairsJ_len {ss : List Int} {n : Nat} {s : Int} {j : Nat} : (pairsJ ss n s j).length = ss.length * n + j := by
  unfold pairsJ; rw [List.length_append, pairsL_len, List.length_map, rngL_len]
set_option maxHeartbeats 8000000 in
theorem sp355 (w : World) {rows : List (List Int)} {m n : Nat} (T : Tab rows m n) (M dM N : Addr) (L sp : Nat) (start : Int) (ends : List Int) (tw : Bool) (kept al : List (List Int)) (S : List Int) (ps : List (Int × Int))
    (hk : kept.length = L) (ha : al.length = L + 1) (hL : L ≤ 4) (hsp : sp ≤ L) (hS : SomeOk m S) (hps : Good ps) :
    Spec w 1 (.ref 355) [.ref M, rowsV kept, layV m al, .int sp, iL S, .ref N] [machA M dM L m n rows start ends tw, (N, .tdict (ps.map trip))] fun v H => H = [machA M dM L m n rows start ends tw, (N, .tdict ((deadNote rows n al sp S ps (L - sp)).map trip))] := by
  refine spec_of (ok355 w) rfl rfl fun A s hb => ?_
  have hm := T.m3; have hn := T.n3
  refine S_cons (S_for_map (U := SV × SV × SV × SV × SV) (f := SV.int) (l := rngL sp 1 (L - sp)) (fun ls u => ⟨[.ref M, rowsV kept, layV m al, .int sp, iL (deadSome rows n al sp S ls.length), .ref N, u.1, u.2.1, u.2.2.1, u.2.2.2.1, u.2.2.2.2], [machA M dM L m n rows start ends tw, (N, .tdict ((deadNote rows n al sp S ps ls.length).map trip))]⟩) (E_callT (by repeat (first | exact List.mem_cons_self | apply List.mem_cons_of_mem)) (A_cons ?_)))
  refine E_name (get_at 3 rfl rfl) nofun ?_; refine A_cons ?_
  refine E_callB (by repeat (first | exact List.mem_cons_self | apply List.mem_cons_of_mem)) (A_cons ?_)
  refine E_name (get_at 1 rfl rfl) nofun ?_; refine A_nil ?_
  refine C_len_lst (by rw [List.length_map]; exact om174 hk hL) ?_
  refine A_nil ?_
  refine C_range2 ?_
  rw [List.length_map, hk]
  refine ⟨it_up (n := L - sp) ⟨_, _, rfl⟩ (by exact om175 hL hsp) (by exact om176 hL) (by exact om177), ⟨(_, _, _, _, _), rfl⟩, ?_, ?_⟩
  · intro P ls x qs u F1 hx fin1
    obtain ⟨hj, rfl⟩ := rng_cons hx
    try dsimp only at fin1
    try dsimp only
    rw [List.length_append, List.length_singleton] at fin1
    generalize u.1 = v1
    generalize u.2.1 = v2
    generalize u.2.2.1 = v3
    generalize u.2.2.2.1 = v4
    generalize u.2.2.2.2 = v5
    generalize hjj : ls.length = j at hj fin1 ⊢
    have hS' := deadSome_ok T (n := n) (al := al) (sp := sp) hS j
    have hg := deadNote_good T (al := al) (sp := sp) (S := S) hps j (by exact om178 hL hj)
    refine AT_name (by repeat (first | exact Put.here | apply Put.next)) (by repeat (first | exact List.mem_cons_self | apply List.mem_cons_of_mem)) (EvS.sub ?_)
    refine S_cons ?_; refine S_asgn (by repeat (first | exact List.mem_cons_self | apply List.mem_cons_of_mem)) ?_
    refine E_list (A_nil ⟨Nat.zero_le _, fun la _ => ?_⟩)
    refine ⟨_, by repeat (first | exact Put.here | apply Put.next), ?_⟩
    try dsimp only
    generalize hSj : deadSome rows n al sp S j = Sj at hS' ⊢
    generalize hPj : deadNote rows n al sp S ps j = Pj at hg ⊢
    have hk3 : (0 : Int) ≤ (sp : Int) + (j : Int) * 1 ∧ (sp : Int) + (j : Int) * 1 ≤ 3 := by exact om179 hL hj
    generalize hkk : (sp : Int) + (j : Int) * 1 = k at hk3 ⊢
    have hal : k.toNat + 1 < al.length := by exact om180 ha hj hkk
    generalize hAl : al.getD (k.toNat + 1) [] = al1
    have hkn : k.toNat = sp + j := by exact om181 hkk
    have hkz : ((sp + j : Nat) : Int) = k := by exact om182 hkk
    refine EvS.abs (fun F0 => ∀ v3 v4 v5, F0 .next ⟨[.ref M, rowsV kept, layV m al, .int sp, iL (insAll (lateL rows al1 (pairsL Sj n))), .ref N, .int k, .ref la, v3, v4, v5], [(la, .list ((lateL rows al1 (pairsL Sj n)).map .int)), machA M dM L m n rows start ends tw, (N, .tdict ((noteD rows al1 k Pj (pairsL Sj n)).map trip))]⟩) (fun v3 v4 v5 => by
      refine ⟨[machA M dM L m n rows start ends tw, (N, .tdict ((noteD rows al1 k Pj (pairsL Sj n)).map trip))], [(la, .list ((lateL rows al1 (pairsL Sj n)).map .int))], List.perm_append_comm (l₁ := [_]), ?_⟩
      have := fin1 (.int k, .ref la, v3, v4, v5)
      simp only [deadSome, deadNote, hSj, hPj, hkz] at this
      rw [← hkn, hAl] at this
      exact this) fun F0 fin => ?_
    refine S_cons (S_for_map (U := SV × SV × SV) (f := SV.int) (l := Sj) (fun ss u => ⟨[.ref M, rowsV kept, layV m al, .int sp, iL Sj, .ref N, .int k, .ref la, u.1, u.2.1, u.2.2], [(la, .list ((lateL rows al1 (pairsL ss n)).map .int)), machA M dM L m n rows start ends tw, (N, .tdict ((noteD rows al1 k Pj (pairsL ss n)).map trip))]⟩) ?_)
    refine E_name (get_at 4 rfl rfl) nofun ?_
    refine ⟨.lst _, ⟨(_, _, _), rfl⟩, ?_, ?_⟩
    · intro P2 ss' st qs u F2 hq fin2
      try dsimp only at fin2
      try dsimp only
      generalize u.1 = u3
      generalize u.2.1 = u4
      generalize u.2.2 = u5
      have hst := hS'.inn st (by rw [hq]; simp)
      have hss : ss'.length ≤ 8 := by have := hS'.len; rw [hq] at this; simp at this; exact om183 this
      refine AT_name (by repeat (first | exact Put.here | apply Put.next)) (by repeat (first | exact List.mem_cons_self | apply List.mem_cons_of_mem)) ?_
      try dsimp only
      refine S_cons (S_for_map (U := SV × SV) (f := SV.int) (l := rngL 1 1 n) (fun ls u => ⟨[.ref M, rowsV kept, layV m al, .int sp, iL Sj, .ref N, .int k, .ref la, .int st, u.1, u.2], [(la, .list ((lateL rows al1 (pairsJ ss' n st ls.length)).map .int)), machA M dM L m n rows start ends tw, (N, .tdict ((noteD rows al1 k Pj (pairsJ ss' n st ls.length)).map trip))]⟩) (E_callT (by repeat (first | exact List.mem_cons_self | apply List.mem_cons_of_mem)) (A_cons ?_)))
      refine E_int ?_; refine A_cons ?_; refine E_bin ?_
      refine E_at (a := M) (y := .int n) ic405 (fun w => by kernel_rfl) ?_ (by repeat (first | exact List.mem_cons_self | apply List.mem_cons_of_mem)) (by repeat (first | exact List.mem_cons_self | apply List.mem_cons_of_mem)) rfl ?_
      · refine E_name (get_at 0 rfl rfl) nofun ?_; exact ⟨rfl, rfl⟩
      refine E_int ?_; refine O_add ?_; refine A_nil ?_
      refine C_range2 ?_
      refine ⟨it_up (n := n) ⟨_, _, rfl⟩ (by exact om184) (by exact om185 hn) (by exact om186), ⟨(_, _), by rw [List.length_nil, pairsJ_zero]⟩, ?_, ?_⟩
      · intro P3 pre3 x3 qs3 u F3 hx3 fin3
        obtain ⟨hi, rfl⟩ := rng_cons hx3
        try dsimp only at fin3
        try dsimp only
        rw [List.length_append, List.length_singleton] at fin3
        generalize u.1 = w4
        generalize u.2 = w5
        have hDl : (pairsJ ss' n st pre3.length).length ≤ 30 := by
          rw [pairsJ_len]
          have : ss'.length * n ≤ 8 * 3 := Nat.mul_le_mul hss hn
          exact om187 hn hi this
        have hDg := noteD_good (rows := rows) (al := al1) hk3 (fun p hp => pairsJ_in (ss := ss') (s := st) hn (j := pre3.length) (by exact om188 hn hi) hp) hg
        have hLl := lateL_len (rows := rows) (al := al1) (D := pairsJ ss' n st pre3.length)
        have hDs := pairsJ_succ (ss := ss') (n := n) (s := st) (j := pre3.length)
        rw [hDs] at fin3
        generalize hDD : pairsJ ss' n st pre3.length = D at hDl hDg hLl hDs fin3 ⊢
        have ha1 : 1 ≤ (1 : Int) + (pre3.length : Int) * 1 ∧ (1 : Int) + (pre3.length : Int) * 1 ≤ n := by exact om156 hi
        generalize haa : (1 : Int) + (pre3.length : Int) * 1 = a at ha1 hDs fin3 ⊢
        rw [lateL_snoc, noteD_snoc] at fin3
        dsimp only at fin3
        obtain ⟨r, hr, hc, hlen⟩ := T.get (k := (st - 1).toNat) (j := (a - 1).toNat) (by exact om113 hst) (by exact om189 hi haa)
        have hcr := T.cell_range (st - 1).toNat (a - 1).toNat
        obtain ⟨q, hgg⟩ : ∃ q, gl rows st a = q := ⟨_, rfl⟩
        have hc' : r[(a - 1).toNat]? = some q := by rw [← hgg]; exact hc
        have hcr' : 0 ≤ q ∧ q ≤ m := by rw [← hgg]; exact hcr
        refine AT_name (by repeat (first | exact Put.here | apply Put.next)) (by repeat (first | exact List.mem_cons_self | apply List.mem_cons_of_mem)) ?_
        try dsimp only
        rw [hgg] at fin3
        have fin : ∀ v4 v5 l' ps', l' = lateL rows al1 D ++ (if (decide (q ≠ 0) && !decide (q ∈ al1)) = true then [q] else []) → ps' = noteIf (decide (q ≠ 0) && decide (q ∈ al1)) (noteD rows al1 k Pj D) (k, a) →
            F3 .next ⟨[.ref M, rowsV kept, layV m al, .int sp, iL Sj, .ref N, .int k, .ref la, .int st, v4, v5], [(la, .list (l'.map .int)), machA M dM L m n rows start ends tw, (N, .tdict (ps'.map trip))]⟩ := fun v4 v5 l' ps' e1 e2 => by
          rw [e1, e2]; exact fin3 (v4, v5)
        refine S_cons ?_; refine S_asgn (by repeat (first | exact List.mem_cons_self | apply List.mem_cons_of_mem)) ?_; refine E_sub ?_; refine E_sub ?_
        refine E_at (a := M) (y := rowsV rows) ic405 (fun w => by kernel_rfl) ?_ (by repeat (first | exact List.mem_cons_self | apply List.mem_cons_of_mem)) (by repeat (first | exact List.mem_cons_self | apply List.mem_cons_of_mem)) rfl ?_
        · refine E_name (get_at 0 rfl rfl) nofun ?_; exact ⟨rfl, rfl⟩
        refine E_bin ?_; refine E_name (get_at 8 rfl rfl) nofun ?_; refine E_int ?_; refine O_subi ?_
        refine O_lat (x := iL r) (by exact om116 hst) (by rw [List.getElem?_map, hr]; rfl) (by rw [List.length_map, T.len]; exact om115 hm) ?_
        refine E_bin ?_; refine E_name (get_at 9 rfl rfl) nofun ?_; refine E_int ?_; refine O_subi ?_
        refine O_lat (x := .int q) (by exact om190 haa) (by rw [List.getElem?_map, hc']; rfl) (by rw [List.length_map, hlen]; exact om115 hn) ?_
        refine ⟨_, by repeat (first | exact Put.here | apply Put.next), ?_⟩
        try dsimp only
        have note : ∀ (h : decide (q ≠ 0) = true) (h2 : decide (q ∈ al1) = true), True := fun _ _ => trivial
        refine S_cons ?_; refine S_if ?_; refine T_and ?_; refine T_and_cons ?_; refine T_cmp ?_; refine E_name (get_at 10 rfl rfl) nofun ?_; refine E_int ?_; refine O_nei ?_; refine ⟨_, rfl, ?_⟩
        refine ⟨fun h => ?_, fun h => ?_⟩
        · have hq0 : q ≠ 0 := by simpa using h
          refine T_and_cons ?_; refine T_not ?_
          refine T_val ?_
          refine E_sub ?_; refine E_sub ?_; refine E_name (get_at 2 rfl rfl) nofun ?_; refine E_bin ?_; refine E_name (get_at 6 rfl rfl) nofun ?_; refine E_int ?_; refine O_add ?_
          refine O_lat (x := .lst (boolRow m al1)) (by exact om191 hkk) (by rw [show (k + 1).toNat = k.toNat + 1 by exact om192 hkk, lay_at hal, hAl]) (by rw [List.length_map]; exact om193 ha hL) ?_
          refine E_name (get_at 10 rfl rfl) nofun ?_
          refine O_lat (x := .bool (decide (q ∈ al1))) hcr'.1 (bool_at hcr'.1 hcr'.2) (by rw [boolRow_len]; exact om194 hm) ?_
          refine ⟨_, rfl, fun h2 => ?_, fun h2 => ?_⟩
          · have hqa : decide (q ∈ al1) = false := by simpa using h2
            refine T_and_nil ?_
            refine ⟨fun _ => ?_, fun h => (nomatch h)⟩
            refine S_cons (S_expr (E_app ?_))
            refine E_name (get_at 7 rfl rfl) nofun ?_
            refine ⟨_, _, rfl, by repeat (first | exact List.mem_cons_self | apply List.mem_cons_of_mem), ?_⟩
            refine E_name (get_at 10 rfl rfl) nofun ?_
            refine ⟨_, _, .here, by rw [List.length_map, sizeLine_eq]; exact om195 hDl hLl, ?_⟩
            refine S_nil ?_; refine S_nil ?_
            have := fin (.int a) (.int q) (lateL rows al1 D ++ [q]) (noteD rows al1 k Pj D) (by rw [hqa]; simp [hq0]) (by rw [hqa]; simp [noteIf])
            rw [List.map_append] at this
            exact this
          · have hqa : decide (q ∈ al1) = true := by simpa using h2
            refine ⟨fun h => (nomatch h), fun _ => ?_⟩
            refine S_cons ?_; refine S_if ?_; refine T_cmp ?_; refine E_name (get_at 10 rfl rfl) nofun ?_; refine E_int ?_; refine O_nei ?_; refine ⟨_, rfl, ?_⟩
            refine ⟨fun _ => ?_, fun h3 => ?_⟩
            · refine S_cons ?_; refine S_asub ?_; refine E_bool ?_; refine E_name (get_at 5 rfl rfl) nofun ?_; refine E_tuple ?_; refine A_cons ?_; refine E_sub ?_
              refine E_at (a := M) (y := .tup ((rngL 0 1 L).map .int)) ic405 (fun w => by kernel_rfl) ?_ (by repeat (first | exact List.mem_cons_self | apply List.mem_cons_of_mem)) (by repeat (first | exact List.mem_cons_self | apply List.mem_cons_of_mem)) rfl ?_
              · refine E_name (get_at 0 rfl rfl) nofun ?_; exact ⟨rfl, rfl⟩
              refine E_name (get_at 6 rfl rfl) nofun ?_
              refine O_tat (x := .int k) hk3.1 (scope_at hk3.1 (by exact om196 hj hkk)) (by rw [List.length_map, rngL_len]; exact om155 hL) ?_
              refine A_cons ?_; refine E_str ?_; refine A_cons ?_; refine E_name (get_at 9 rfl rfl) nofun ?_; refine A_nil ?_
              refine ⟨Nat.le_of_ble_eq_true rfl, ?_⟩
              refine SI_tdict (k := trip (k, a)) (.next (.next .here)) (by rw [List.length_map, sizeLine_eq]; have := hDg.len; exact om88 this) ?_
              refine S_nil ?_; refine S_nil ?_; refine S_nil ?_
              have := fin (.int a) (.int q) (lateL rows al1 D) (addP (noteD rows al1 k Pj D) (k, a)) (by rw [hqa]; simp) (by rw [hqa]; simp [noteIf, hq0])
              rw [← addKey_trip] at this
              exact this
            · exact absurd (by simpa using h3) hq0
        · have hq0 : q = 0 := by simpa using h
          refine ⟨fun h => (nomatch h), fun _ => ?_⟩
          refine S_cons ?_; refine S_if ?_; refine T_cmp ?_; refine E_name (get_at 10 rfl rfl) nofun ?_; refine E_int ?_; refine O_nei ?_; refine ⟨_, rfl, ?_⟩
          refine ⟨fun h3 => ?_, fun _ => ?_⟩
          · exact absurd hq0 (by simpa using h3)
          · refine S_nil ?_; refine S_nil ?_; refine S_nil ?_
            exact fin (.int a) (.int q) (lateL rows al1 D) (noteD rows al1 k Pj D) (by simp [hq0]) (by simp [hq0, noteIf])
      · intro u
        rw [rngL_len, pairsJ_end]
        refine S_nil ?_
        exact fin2 (_, _, _)
    · intro u
      try dsimp only
      have hin := lateL_in T (al := al1) (D := pairsL Sj n)
      refine S_cons ?_; refine S_asgn (by repeat (first | exact List.mem_cons_self | apply List.mem_cons_of_mem)) ?_
      refine E_callB (by repeat (first | exact List.mem_cons_self | apply List.mem_cons_of_mem)) (A_cons ?_)
      refine E_callT (by repeat (first | exact List.mem_cons_self | apply List.mem_cons_of_mem)) (A_cons ?_)
      refine E_name (get_at 7 rfl rfl) nofun ?_; refine A_nil ?_
      refine C_set_own (.inl (by repeat (first | exact List.mem_cons_self | apply List.mem_cons_of_mem))) (fun x hx => small4 (by have := hin x hx; exact om197 this) (by have := hin x hx; exact om173 hm this)) fun sv hsv => ?_
      refine A_nil ?_
      refine C_sorted_set hsv ?_
      refine ⟨_, by repeat (first | exact Put.here | apply Put.next), ?_⟩
      try dsimp only
      refine S_nil ?_
      exact fin _ _ _
  · intro u
    rw [rngL_len]
    refine S_nil ?_
    exact .inr ⟨rfl, rfl⟩
end
section
theorem earlyL_mem {rows : List (List Int)} {re S : List Int} {D : List (Int × Int)} {q : Int} : q ∈ earlyL rows re S D ↔ ∃ p ∈ D, p.1 = q ∧ gl rows p.1 p.2 ∈ S ∧ q ∉ re := by
  unfold earlyL
  rw [List.mem_map]
  constructor
  · rintro ⟨p, hp, rfl⟩
    obtain ⟨h1, h2⟩ := List.mem_filter.mp hp
    simp at h2
    exact ⟨p, h1, rfl, h2.1, h2.2⟩
  · rintro ⟨p, hp, rfl, h1, h2⟩
    exact ⟨p, List.mem_filter.mpr ⟨hp, by simp [h1, h2]⟩, rfl⟩
theorem earlyL_len {rows : List (List Int)} {re S : List Int} {D : List (Int × Int)} : (earlyL rows re S D).length ≤ D.length := by
  unfold earlyL
  rw [List.length_map]
  exact List.length_filter_le _ _
theorem earlyL_in {rows : List (List Int)} {re S : List Int} {m n : Nat} : ∀ x ∈ earlyL rows re S (pairsL (rngL 1 1 m) n), 1 ≤ x ∧ x ≤ m := fun x hx => by
  obtain ⟨p, hp, rfl, _⟩ := earlyL_mem.mp hx
  exact mem_rng1.mp (mem_pairsL.mp hp).1
theorem unrSome_ok {rows : List (List Int)} {m n : Nat} (hm : m ≤ 3) {re : List (List Int)} {sp : Nat} {S : List Int} (hS : SomeOk m S) : ∀ j, SomeOk m (unrSome rows m n re sp S j)
  | 0 => hS
  | j + 1 => insAll_some hm earlyL_in
theorem unrNote_good {rows : List (List Int)} {m n : Nat} (hn : n ≤ 3) {re : List (List Int)} {sp : Nat} (hsp : sp ≤ 4) {S : List Int} {ps : List (Int × Int)} (g : Good ps) : ∀ j, Good (unrNote rows m n re sp S ps j)
  | 0 => g
  | j + 1 => noteU_good (by exact om198 hsp) (fun p hp => by have := (mem_pairsL.mp hp).2; exact om172 hn this) (unrNote_good hn hsp g j)
set_option maxHeartbeats 8000000 in
theorem sp362 (w : World) {rows : List (List Int)} {m n : Nat} (T : Tab rows m n) (M dM N : Addr) (L sp : Nat) (start : Int) (ends : List Int) (tw : Bool) (re : List (List Int)) (S : List Int) (ps : List (Int × Int))
    (ha : re.length = L + 1) (hL : L ≤ 4) (hsp : sp ≤ L) (hS : SomeOk m S) (hps : Good ps) :
    Spec w 1 (.ref 362) [.ref M, layV m re, .int sp, iL S, .ref N] [machA M dM L m n rows start ends tw, (N, .tdict (ps.map trip))] fun v H => H = [machA M dM L m n rows start ends tw, (N, .tdict ((unrNote rows m n re sp S ps sp).map trip))] := by
  refine spec_of (ok362 w) rfl rfl fun A s hb => ?_
  have hm := T.m3; have hn := T.n3
  refine S_cons (S_for_map (U := SV × SV × SV × SV) (f := SV.int) (l := rngL ((sp : Int) - 1) (-1) sp) (fun ls u => ⟨[.ref M, layV m re, .int sp, iL (unrSome rows m n re sp S ls.length), .ref N, u.1, u.2.1, u.2.2.1, u.2.2.2], [machA M dM L m n rows start ends tw, (N, .tdict ((unrNote rows m n re sp S ps ls.length).map trip))]⟩) (E_callT (by repeat (first | exact List.mem_cons_self | apply List.mem_cons_of_mem)) (A_cons ?_)))
  refine E_bin ?_; refine E_name (get_at 2 rfl rfl) nofun ?_; refine E_int ?_; refine O_subi ?_; refine A_cons ?_; refine E_una ?_; refine E_int ?_; refine O_negi ?_; refine A_cons ?_; refine E_una ?_; refine E_int ?_; refine O_negi ?_; refine A_nil ?_
  refine C_range3 (by decide) (by decide) ?_
  refine ⟨it_down (n := sp) ⟨_, _, rfl⟩ (by exact om199 hL hsp) (by exact om200) (by exact om201), ⟨(_, _, _, _), rfl⟩, ?_, ?_⟩
  · intro P ls x qs u F1 hx fin1
    obtain ⟨hj, rfl⟩ := rng_cons hx
    try dsimp only at fin1
    try dsimp only
    rw [List.length_append, List.length_singleton] at fin1
    generalize u.1 = v1
    generalize u.2.1 = v2
    generalize u.2.2.1 = v3
    generalize u.2.2.2 = v4
    generalize hjj : ls.length = j at hj fin1 ⊢
    have hS' := unrSome_ok (rows := rows) (n := n) hm (re := re) (sp := sp) hS j
    have hg := unrNote_good (rows := rows) (m := m) hn (re := re) (sp := sp) (by exact om202 hL hsp) (S := S) hps j
    refine AT_name (by repeat (first | exact Put.here | apply Put.next)) (by repeat (first | exact List.mem_cons_self | apply List.mem_cons_of_mem)) (EvS.sub ?_)
    refine S_cons ?_; refine S_asgn (by repeat (first | exact List.mem_cons_self | apply List.mem_cons_of_mem)) ?_
    refine E_list (A_nil ⟨Nat.zero_le _, fun la _ => ?_⟩)
    refine ⟨_, by repeat (first | exact Put.here | apply Put.next), ?_⟩
    try dsimp only
    generalize hSj : unrSome rows m n re sp S j = Sj at hS' ⊢
    generalize hPj : unrNote rows m n re sp S ps j = Pj at hg ⊢
    have hk3 : (0 : Int) ≤ (sp : Int) - 1 + (j : Int) * (-1) ∧ (sp : Int) - 1 + (j : Int) * (-1) ≤ 3 := by exact om203 hL hsp hj
    generalize hkk : (sp : Int) - 1 + (j : Int) * (-1) = k at hk3 ⊢
    have hal : k.toNat < re.length := by exact om204 ha hsp hkk
    generalize hAl : re.getD k.toNat [] = al1
    have hkn : k.toNat = sp - 1 - j := by exact om205 hkk
    have hkz : ((sp - 1 - j : Nat) : Int) = k := by exact om206 hj hkk
    refine EvS.abs (fun F0 => ∀ v3 v4, F0 .next ⟨[.ref M, layV m re, .int sp, iL (insAll (earlyL rows al1 Sj (pairsL (rngL 1 1 m) n))), .ref N, .int k, .ref la, v3, v4], [(la, .list ((earlyL rows al1 Sj (pairsL (rngL 1 1 m) n)).map .int)), machA M dM L m n rows start ends tw, (N, .tdict ((noteU rows al1 Sj k Pj (pairsL (rngL 1 1 m) n)).map trip))]⟩) (fun v3 v4 => by
      refine ⟨[machA M dM L m n rows start ends tw, (N, .tdict ((noteU rows al1 Sj k Pj (pairsL (rngL 1 1 m) n)).map trip))], [(la, .list ((earlyL rows al1 Sj (pairsL (rngL 1 1 m) n)).map .int))], List.perm_append_comm (l₁ := [_]), ?_⟩
      have := fin1 (.int k, .ref la, v3, v4)
      simp only [unrSome, unrNote, hSj, hPj, hkz] at this
      rw [← hkn, hAl] at this
      exact this) fun F0 fin => ?_
    refine S_cons (S_for_map (U := SV × SV) (f := SV.int) (l := rngL 1 1 m) (fun ls u => ⟨[.ref M, layV m re, .int sp, iL Sj, .ref N, .int k, .ref la, u.1, u.2], [(la, .list ((earlyL rows al1 Sj (pairsL (rngL 1 1 ls.length) n)).map .int)), machA M dM L m n rows start ends tw, (N, .tdict ((noteU rows al1 Sj k Pj (pairsL (rngL 1 1 ls.length) n)).map trip))]⟩) (E_callT (by repeat (first | exact List.mem_cons_self | apply List.mem_cons_of_mem)) (A_cons ?_)))
    refine E_int ?_; refine A_cons ?_; refine E_bin ?_
    refine E_at (a := M) (y := .int m) ic405 (fun w => by kernel_rfl) ?_ (by repeat (first | exact List.mem_cons_self | apply List.mem_cons_of_mem)) (by repeat (first | exact List.mem_cons_self | apply List.mem_cons_of_mem)) rfl ?_
    · refine E_name (get_at 0 rfl rfl) nofun ?_; exact ⟨rfl, rfl⟩
    refine E_int ?_; refine O_add ?_; refine A_nil ?_
    refine C_range2 ?_
    refine ⟨it_up (n := m) ⟨_, _, rfl⟩ (by exact om184) (by exact om185 hm) (by exact om186), ⟨(_, _), rfl⟩, ?_, ?_⟩
    · intro P2 pre2 x2 qs2 u F2 hx2 fin2
      obtain ⟨hi2, rfl⟩ := rng_cons hx2
      try dsimp only at fin2
      try dsimp only
      rw [List.length_append, List.length_singleton] at fin2
      generalize u.1 = u3
      generalize u.2 = u4
      have hss2 := rngL_succ (a := 1) (k := 1) (n := pre2.length)
      have hst : 1 ≤ (1 : Int) + (pre2.length : Int) * 1 ∧ (1 : Int) + (pre2.length : Int) * 1 ≤ m := by exact om156 hi2
      generalize hstt : (1 : Int) + (pre2.length : Int) * 1 = st at hst hss2 fin2 ⊢
      have hss : (rngL 1 1 pre2.length).length ≤ 3 := by rw [rngL_len]; exact om188 hm hi2
      rw [hss2] at fin2
      generalize hsss : rngL 1 1 pre2.length = ss' at hss fin2 ⊢
      refine AT_name (by repeat (first | exact Put.here | apply Put.next)) (by repeat (first | exact List.mem_cons_self | apply List.mem_cons_of_mem)) ?_
      try dsimp only
      refine S_cons (S_for_map (U := SV) (f := SV.int) (l := rngL 1 1 n) (fun ls u => ⟨[.ref M, layV m re, .int sp, iL Sj, .ref N, .int k, .ref la, .int st, u], [(la, .list ((earlyL rows al1 Sj (pairsJ ss' n st ls.length)).map .int)), machA M dM L m n rows start ends tw, (N, .tdict ((noteU rows al1 Sj k Pj (pairsJ ss' n st ls.length)).map trip))]⟩) (E_callT (by repeat (first | exact List.mem_cons_self | apply List.mem_cons_of_mem)) (A_cons ?_)))
      refine E_int ?_; refine A_cons ?_; refine E_bin ?_
      refine E_at (a := M) (y := .int n) ic405 (fun w => by kernel_rfl) ?_ (by repeat (first | exact List.mem_cons_self | apply List.mem_cons_of_mem)) (by repeat (first | exact List.mem_cons_self | apply List.mem_cons_of_mem)) rfl ?_
      · refine E_name (get_at 0 rfl rfl) nofun ?_; exact ⟨rfl, rfl⟩
      refine E_int ?_; refine O_add ?_; refine A_nil ?_
      refine C_range2 ?_
      refine ⟨it_up (n := n) ⟨_, _, rfl⟩ (by exact om184) (by exact om185 hn) (by exact om186), ⟨_, by rw [List.length_nil, pairsJ_zero]⟩, ?_, ?_⟩
      · intro P3 pre3 x3 qs3 w4 F3 hx3 fin3
        obtain ⟨hi, rfl⟩ := rng_cons hx3
        try dsimp only at fin3
        try dsimp only
        rw [List.length_append, List.length_singleton] at fin3
        have hDl : (pairsJ ss' n st pre3.length).length ≤ 30 := by
          rw [pairsJ_len]
          have : ss'.length * n ≤ 3 * 3 := Nat.mul_le_mul hss hn
          exact om207 hn hi this
        have hDg := noteU_good (rows := rows) (re := al1) (S := Sj) hk3 (fun p hp => pairsJ_in (ss := ss') (s := st) hn (j := pre3.length) (by exact om188 hn hi) hp) hg
        have hLl := earlyL_len (rows := rows) (re := al1) (S := Sj) (D := pairsJ ss' n st pre3.length)
        have hDs := pairsJ_succ (ss := ss') (n := n) (s := st) (j := pre3.length)
        rw [hDs] at fin3
        generalize hDD : pairsJ ss' n st pre3.length = D at hDl hDg hLl fin3 ⊢
        have ha1 : 1 ≤ (1 : Int) + (pre3.length : Int) * 1 ∧ (1 : Int) + (pre3.length : Int) * 1 ≤ n := by exact om156 hi
        generalize haa : (1 : Int) + (pre3.length : Int) * 1 = a at ha1 fin3 ⊢
        rw [earlyL_snoc, noteU_snoc] at fin3
        dsimp only at fin3
        obtain ⟨r, hr, hc, hlen⟩ := T.get (k := (st - 1).toNat) (j := (a - 1).toNat) (by exact om189 hi2 hstt) (by exact om189 hi haa)
        obtain ⟨q, hgg⟩ : ∃ q, gl rows st a = q := ⟨_, rfl⟩
        have hc' : r[(a - 1).toNat]? = some q := by rw [← hgg]; exact hc
        refine AT_name (by repeat (first | exact Put.here | apply Put.next)) (by repeat (first | exact List.mem_cons_self | apply List.mem_cons_of_mem)) ?_
        try dsimp only
        rw [hgg] at fin3
        have fin : ∀ l' ps', l' = earlyL rows al1 Sj D ++ (if (decide (q ∈ Sj) && !decide (st ∈ al1)) = true then [st] else []) → ps' = noteIf (decide (q ∈ Sj) && decide (st ∈ al1)) (noteU rows al1 Sj k Pj D) (k, a) →
            F3 .next ⟨[.ref M, layV m re, .int sp, iL Sj, .ref N, .int k, .ref la, .int st, .int a], [(la, .list (l'.map .int)), machA M dM L m n rows start ends tw, (N, .tdict (ps'.map trip))]⟩ := fun l' ps' e1 e2 => by
          rw [e1, e2]; exact fin3 (.int a)
        refine S_cons ?_; refine S_if ?_
        refine T_cmp ?_
        refine E_sub ?_; refine E_sub ?_
        refine E_at (a := M) (y := rowsV rows) ic405 (fun w => by kernel_rfl) ?_ (by repeat (first | exact List.mem_cons_self | apply List.mem_cons_of_mem)) (by repeat (first | exact List.mem_cons_self | apply List.mem_cons_of_mem)) rfl ?_
        · refine E_name (get_at 0 rfl rfl) nofun ?_; exact ⟨rfl, rfl⟩
        refine E_bin ?_; refine E_name (get_at 7 rfl rfl) nofun ?_; refine E_int ?_; refine O_subi ?_
        refine O_lat (x := iL r) (by exact om190 hstt) (by rw [List.getElem?_map, hr]; rfl) (by rw [List.length_map, T.len]; exact om115 hm) ?_
        refine E_bin ?_; refine E_name (get_at 8 rfl rfl) nofun ?_; refine E_int ?_; refine O_subi ?_
        refine O_lat (x := .int q) (by exact om190 haa) (by rw [List.getElem?_map, hc']; rfl) (by rw [List.length_map, hlen]; exact om115 hn) ?_
        refine E_name (get_at 3 rfl rfl) nofun ?_
        refine O_in_ints ?_
        refine ⟨_, rfl, fun h => ?_, fun h => ?_⟩
        · refine S_cons ?_; refine S_if ?_
          refine T_val ?_
          refine E_sub ?_; refine E_sub ?_; refine E_name (get_at 1 rfl rfl) nofun ?_; refine E_name (get_at 5 rfl rfl) nofun ?_
          refine O_lat (x := .lst (boolRow m al1)) (by exact om208 hj hkk) (by rw [lay_at hal, hAl]) (by rw [List.length_map]; exact om193 ha hL) ?_
          refine E_name (get_at 7 rfl rfl) nofun ?_
          refine O_lat (x := .bool (decide (st ∈ al1))) (by exact om209 hstt) (bool_at (by exact om209 hstt) hst.2) (by rw [boolRow_len]; exact om194 hm) ?_
          refine ⟨_, rfl, fun h2 => ?_, fun h2 => ?_⟩
          · refine S_cons ?_; refine S_asub ?_; refine E_bool ?_; refine E_name (get_at 4 rfl rfl) nofun ?_; refine E_tuple ?_; refine A_cons ?_; refine E_sub ?_
            refine E_at (a := M) (y := .tup ((rngL 0 1 L).map .int)) ic405 (fun w => by kernel_rfl) ?_ (by repeat (first | exact List.mem_cons_self | apply List.mem_cons_of_mem)) (by repeat (first | exact List.mem_cons_self | apply List.mem_cons_of_mem)) rfl ?_
            · refine E_name (get_at 0 rfl rfl) nofun ?_; exact ⟨rfl, rfl⟩
            refine E_name (get_at 5 rfl rfl) nofun ?_
            refine O_tat (x := .int k) hk3.1 (scope_at hk3.1 (by exact om210 hsp hkk)) (by rw [List.length_map, rngL_len]; exact om155 hL) ?_
            refine A_cons ?_; refine E_str ?_; refine A_cons ?_; refine E_name (get_at 8 rfl rfl) nofun ?_; refine A_nil ?_
            refine ⟨Nat.le_of_ble_eq_true rfl, ?_⟩
            refine SI_tdict (k := trip (k, a)) (.next (.next .here)) (by rw [List.length_map, sizeLine_eq]; have := hDg.len; exact om88 this) ?_
            refine S_nil ?_; refine S_nil ?_; refine S_nil ?_
            have := fin (earlyL rows al1 Sj D) (addP (noteU rows al1 Sj k Pj D) (k, a)) (by rw [h, h2]; simp) (by rw [h, h2]; simp [noteIf])
            rw [← addKey_trip] at this
            exact this
          · refine S_cons (S_expr (E_app ?_))
            refine E_name (get_at 6 rfl rfl) nofun ?_
            refine ⟨_, _, rfl, by repeat (first | exact List.mem_cons_self | apply List.mem_cons_of_mem), ?_⟩
            refine E_name (get_at 7 rfl rfl) nofun ?_
            refine ⟨_, _, .here, by rw [List.length_map, sizeLine_eq]; exact om195 hDl hLl, ?_⟩
            refine S_nil ?_; refine S_nil ?_; refine S_nil ?_
            have := fin (earlyL rows al1 Sj D ++ [st]) (noteU rows al1 Sj k Pj D) (by rw [h, h2]; simp) (by rw [h, h2]; simp [noteIf])
            rw [List.map_append] at this
            exact this
        · refine S_nil ?_; refine S_nil ?_
          exact fin (earlyL rows al1 Sj D) (noteU rows al1 Sj k Pj D) (by rw [h]; simp) (by rw [h]; simp [noteIf])
      · intro u
        rw [rngL_len, pairsJ_end]
        refine S_nil ?_
        exact fin2 (_, _)
    · intro u
      try dsimp only
      rw [rngL_len]
      have hin := earlyL_in (rows := rows) (re := al1) (S := Sj) (m := m) (n := n)
      refine S_cons ?_; refine S_asgn (by repeat (first | exact List.mem_cons_self | apply List.mem_cons_of_mem)) ?_
      refine E_callB (by repeat (first | exact List.mem_cons_self | apply List.mem_cons_of_mem)) (A_cons ?_)
      refine E_callT (by repeat (first | exact List.mem_cons_self | apply List.mem_cons_of_mem)) (A_cons ?_)
      refine E_name (get_at 6 rfl rfl) nofun ?_; refine A_nil ?_
      refine C_set_own (.inl (by repeat (first | exact List.mem_cons_self | apply List.mem_cons_of_mem))) (fun x hx => small4 (by have := hin x hx; exact om197 this) (by have := hin x hx; exact om173 hm this)) fun sv hsv => ?_
      refine A_nil ?_
      refine C_sorted_set hsv ?_
      refine ⟨_, by repeat (first | exact Put.here | apply Put.next), ?_⟩
      try dsimp only
      refine S_nil ?_
      exact fin _ _
  · intro u
    rw [rngL_len]
    refine S_nil ?_
    exact .inr ⟨rfl, rfl⟩
end
section
noncomputable abbrev firstsV (F : List (List Int)) : List SV := F.map fun f => domV (fromVals f)
noncomputable def hadB (F : List (List Int)) (p : Int × Int) : Bool := decide (nextFrom (fromVals (F.getD p.1.toNat [])) p.2 = some p.2)
theorem EvS.pre {c : Cx} {t : Sem Flow} {F : Fl → St → Prop} {vals : List SV} {H G D : AHeap} (p : H.Perm (G ++ D)) (h : EvS c t ⟨vals, G⟩ F) : EvS c t ⟨vals, H⟩ F := fun g s R => h g s (R.sub (σ := ⟨vals, H⟩) p)
theorem map_inj_trip : ∀ {l l' : List (Int × Int)}, l.map tripV = l'.map tripV → l = l'
  | [], [], _ => rfl
  | [], _ :: _, h => nomatch h
  | _ :: _, [], h => nomatch h
  | (a, b) :: l, (a', b') :: l', h => by
    simp only [List.map_cons, List.cons.injEq, SV.tup.injEq, SV.int.injEq, and_true, true_and] at h
    obtain ⟨⟨h1, h2⟩, h3⟩ := h
    rw [h1, h2, map_inj_trip h3]
set_option maxHeartbeats 4000000 in
theorem sp367 (w : World) (M x d dm fs tr mk nw N : Addr) (doms trail : List SV) (ks : List Int) (F : List (List Int)) (ps : List (Int × Int)) (hF : F.length ≤ 4) (hps : Good ps) (hr : ∀ p ∈ ps, p.1 < F.length) (hN : (N == sysModules) = false) :
    Spec w 3 (.ref 367) [.ref M, .ref x, .ref N] (storeH x d dm fs tr mk nw doms (firstsV F) trail ks ++ [(N, .tdict (ps.map trip))]) fun v H => (∃ out : List (Int × Int), out.Perm ps ∧ v = .tup ((out.filter (hadB F)).map tripV)) ∧ H = storeH x d dm fs tr mk nw doms (firstsV F) trail ks ++ [(N, .tdict (ps.map trip))] := by
  refine spec_of (ok367 w) rfl rfl fun A s hb => ?_
  have hl := hps.len
  refine S_cons ?_; refine S_ret ?_
  refine E_callT (by repeat (first | exact List.mem_cons_self | apply List.mem_cons_of_mem)) (A_cons ?_)
  refine E_lc ["literal"] ["store"] [("has_domains", .ref 63)] ⟨by kernel_rfl, fun p hp => by rw [List.mem_singleton.mp hp]; exact gi_has_domains w, by decide⟩ ?_
  refine E_callB (by repeat (first | exact List.mem_cons_self | apply List.mem_cons_of_mem)) (A_cons ?_)
  refine E_name (get_at 2 rfl rfl) nofun ?_; refine A_nil ?_
  refine C_sorted_td (ps := ps) (by repeat (first | exact List.mem_cons_self | apply List.mem_cons_of_mem)) hN (by exact om211 hl) fun out hout => ?_
  have hol : out.length ≤ 12 := by rw [hout.length_eq]; exact hl
  refine ⟨_, [.ref x], .lst _, .cons (by exact get_at 1 rfl rfl) .nil, ?_⟩
  refine run_map (fun ls : List (Int × Int) => (ls.filter (hadB F)).map tripV) rfl (fun ls qs e => ?_) (fun C P ls p qs e => ?_) ?_
  · have : (ls.filter (hadB F)).length ≤ ls.length := List.length_filter_le _ _
    have h2 := congrArg List.length e
    rw [List.length_append] at h2
    rw [List.length_map, sizeLine_eq]; exact om212 hol this h2
  · have hp : p ∈ ps := hout.mem_iff.mp (by rw [e]; simp)
    have hp1 := (hps.inn p hp).1
    have hp2 := hr p hp
    refine AT_name .here (by repeat (first | exact List.mem_cons_self | apply List.mem_cons_of_mem)) ?_
    try dsimp only
    refine TT_one (T_val (E_callF (a := 63) (fd := fd63) (by repeat (first | exact List.mem_cons_self | apply List.mem_cons_of_mem)) (fun w => ⟨_, _, _, (ok63 w).obj.choose_spec.choose_spec.choose_spec⟩) (A_cons ?_)))
    refine E_methF 150 fd150 (fun w => ⟨_, _, _, (ok150 w).obj.choose_spec.choose_spec.choose_spec⟩) ?_
    refine E_name (get_at 1 rfl rfl) nofun ?_
    refine ⟨GM_own (C := 258) (a := x) (d := d) (fs := storeF dm fs tr mk nw) (by repeat (first | exact List.mem_cons_self | apply List.mem_cons_of_mem)) ic258 (fun w => by kernel_rfl) (fun w => by kernel_rfl) (storeF_not (by decide +kernel)), ?_⟩
    refine A_cons ?_; refine E_sub ?_; refine E_name (get_at 0 rfl rfl) nofun ?_; refine E_int ?_; refine O_t0 ?_ (Nat.le_of_ble_eq_true rfl); refine A_nil ?_
    refine call_spec (sp150 w x d dm fs tr mk nw doms (firstsV F) trail ks p.1 (domV (fromVals (F.getD p.1.toNat []))) hp1.1 (by rw [List.getElem?_map, List.getElem?_eq_getElem (by exact om213 hp1 hp2)]; simp [List.getD, show p.1.toNat < F.length by exact om213 hp1 hp2]) (by rw [List.length_map]; exact om214 hF)) (Nat.le_of_ble_eq_true rfl) (.cons .here (.cons .here (.cons .here (.cons .here (.cons .here (.cons .here .nil)))))) ?_
    rintro sv H' ⟨rfl, rfl⟩
    try dsimp only
    refine A_cons ?_; refine E_sub ?_; refine E_name (get_at 0 rfl rfl) nofun ?_; refine E_int ?_; refine O_t2 ?_ (Nat.le_of_ble_eq_true rfl); refine A_nil ?_
    refine call_spec (sp63 w (fromVals (F.getD p.1.toNat [])) p.2) (Nat.le_of_ble_eq_true rfl) .nil ?_
    rintro sv H' ⟨rfl, rfl⟩
    try dsimp only
    refine ⟨_, rfl, fun h => ?_, fun h => ?_⟩
    · have hh : hadB F p = true := h
      refine E_name (get_at 0 rfl rfl) nofun ?_
      refine ⟨⟨[_], rfl, rfl⟩, ?_, rfl⟩
      rw [List.filter_append, List.filter_cons, hh]; simp
    · have hh : hadB F p = false := h
      refine ⟨⟨[_], rfl, rfl⟩, ?_, rfl⟩
      rw [List.filter_append, List.filter_cons, hh]; simp
  · refine A_nil ?_
    have : (out.filter (hadB F)).length ≤ out.length := List.length_filter_le _ _
    refine C_tuple_lst (by rw [List.length_map, sizeLine_eq]; exact om215 hol this) ?_
    exact .inl ⟨_, rfl, ⟨out, hout, rfl⟩, rfl⟩
end
section
theorem mem_noteD {rows : List (List Int)} {al : List Int} {k : Int} {x : Int × Int} : ∀ {D ps : List (Int × Int)}, x ∈ noteD rows al k ps D ↔ x ∈ ps ∨ ∃ d ∈ D, x = (k, d.2) ∧ gl rows d.1 d.2 ≠ 0 ∧ gl rows d.1 d.2 ∈ al
  | [], ps => by simp [noteD]
  | p :: D, ps => by
    have ih := mem_noteD (rows := rows) (al := al) (k := k) (x := x) (D := D) (ps := noteIf (decide (gl rows p.1 p.2 ≠ 0) && decide (gl rows p.1 p.2 ∈ al)) ps (k, p.2))
    rw [mem_noteIf] at ih
    refine Iff.trans ih ?_
    constructor
    · rintro ((h | ⟨h, e⟩) | ⟨d, hd, h⟩)
      · exact .inl h
      · refine .inr ⟨p, List.mem_cons_self, e, ?_⟩
        simpa using h
      · exact .inr ⟨d, List.mem_cons_of_mem _ hd, h⟩
    · rintro (h | ⟨d, hd, h⟩)
      · exact .inl (.inl h)
      · rcases List.mem_cons.mp hd with rfl | hd
        · exact .inl (.inr ⟨by simpa using h.2, h.1⟩)
        · exact .inr ⟨d, hd, h⟩
theorem mem_noteU {rows : List (List Int)} {re S : List Int} {k : Int} {x : Int × Int} : ∀ {D ps : List (Int × Int)}, x ∈ noteU rows re S k ps D ↔ x ∈ ps ∨ ∃ d ∈ D, x = (k, d.2) ∧ gl rows d.1 d.2 ∈ S ∧ d.1 ∈ re
  | [], ps => by simp [noteU]
  | p :: D, ps => by
    have ih := mem_noteU (rows := rows) (re := re) (S := S) (k := k) (x := x) (D := D) (ps := noteIf (decide (gl rows p.1 p.2 ∈ S) && decide (p.1 ∈ re)) ps (k, p.2))
    rw [mem_noteIf] at ih
    refine Iff.trans ih ?_
    constructor
    · rintro ((h | ⟨h, e⟩) | ⟨d, hd, h⟩)
      · exact .inl h
      · refine .inr ⟨p, List.mem_cons_self, e, ?_⟩
        simpa using h
      · exact .inr ⟨d, List.mem_cons_of_mem _ hd, h⟩
    · rintro (h | ⟨d, hd, h⟩)
      · exact .inl (.inl h)
      · rcases List.mem_cons.mp hd with rfl | hd
        · exact .inl (.inr ⟨by simpa using h.2, h.1⟩)
        · exact .inr ⟨d, hd, h⟩
noncomputable def DeadN (rows : List (List Int)) (n : Nat) (al : List (List Int)) (sp : Nat) (S : List Int) (i : Nat) (p : Int × Int) : Prop :=
  p.1 = (sp + i : Nat) ∧ 1 ≤ p.2 ∧ p.2 ≤ n ∧ ∃ s ∈ deadSome rows n al sp S i, gl rows s p.2 ≠ 0 ∧ gl rows s p.2 ∈ al.getD (sp + i + 1) []
theorem mem_deadNote {rows : List (List Int)} {n : Nat} {al : List (List Int)} {sp : Nat} {S : List Int} {ps : List (Int × Int)} {p : Int × Int} : ∀ {j : Nat}, p ∈ deadNote rows n al sp S ps j ↔ p ∈ ps ∨ ∃ i, i < j ∧ DeadN rows n al sp S i p
  | 0 => by simp [deadNote]
  | j + 1 => by
    rw [deadNote, mem_noteD, mem_deadNote (j := j)]
    constructor
    · rintro ((h | ⟨i, hi, h⟩) | ⟨d, hd, rfl, h1, h2⟩)
      · exact .inl h
      · exact .inr ⟨i, by exact om216 hi, h⟩
      · obtain ⟨a, b, c⟩ := mem_pairsL.mp hd
        exact .inr ⟨j, by exact om217, rfl, b, c, d.1, a, h1, h2⟩
    · rintro (h | ⟨i, hi, h⟩)
      · exact .inl (.inl h)
      · by_cases e : i < j
        · exact .inl (.inr ⟨i, e, h⟩)
        · have : i = j := by exact om218 hi e
          subst this
          obtain ⟨a, b, c, s, hs, h1, h2⟩ := h
          exact .inr ⟨(s, p.2), mem_pairsL.mpr ⟨hs, b, c⟩, Prod.ext a rfl, h1, h2⟩
noncomputable def UnrN (rows : List (List Int)) (m n : Nat) (re : List (List Int)) (sp : Nat) (S : List Int) (i : Nat) (p : Int × Int) : Prop :=
  p.1 = (sp - 1 - i : Nat) ∧ 1 ≤ p.2 ∧ p.2 ≤ n ∧ ∃ s : Int, 1 ≤ s ∧ s ≤ m ∧ gl rows s p.2 ∈ unrSome rows m n re sp S i ∧ s ∈ re.getD (sp - 1 - i) []
theorem mem_unrNote {rows : List (List Int)} {m n : Nat} {re : List (List Int)} {sp : Nat} {S : List Int} {ps : List (Int × Int)} {p : Int × Int} : ∀ {j : Nat}, p ∈ unrNote rows m n re sp S ps j ↔ p ∈ ps ∨ ∃ i, i < j ∧ UnrN rows m n re sp S i p
  | 0 => by simp [unrNote]
  | j + 1 => by
    rw [unrNote, mem_noteU, mem_unrNote (j := j)]
    constructor
    · rintro ((h | ⟨i, hi, h⟩) | ⟨d, hd, rfl, h1, h2⟩)
      · exact .inl h
      · exact .inr ⟨i, by exact om216 hi, h⟩
      · obtain ⟨a, b, c⟩ := mem_pairsL.mp hd
        have := mem_rng1.mp a
        exact .inr ⟨j, by exact om217, rfl, b, c, d.1, this.1, this.2, h1, h2⟩
    · rintro (h | ⟨i, hi, h⟩)
      · exact .inl (.inl h)
      · by_cases e : i < j
        · exact .inl (.inr ⟨i, e, h⟩)
        · have : i = j := by exact om218 hi e
          subst this
          obtain ⟨a, b, c, s, hs, hs2, h1, h2⟩ := h
          exact .inr ⟨(s, p.2), mem_pairsL.mpr ⟨mem_rng1.mpr ⟨hs, hs2⟩, b, c⟩, Prod.ext a rfl, h1, h2⟩
noncomputable def colL (a : Int) (j : Nat) : List (Int × Int) := (rngL 1 1 j).map fun s => (s, a)
noncomputable def unrL (rows : List (List Int)) (al1 : List Int) (a : Int) (j : Nat) : List Int := (rngL 1 1 j).filter fun s => decide (gl rows s a ≠ 0) && decide (gl rows s a ∈ al1)
noncomputable def whyNote (rows : List (List Int)) (m n L : Nat) (al re : List (List Int)) (sp : Nat) (a : Int) : List (Int × Int) :=
  unrNote rows m n re sp (unrL rows (al.getD (sp + 1) []) a m) (deadNote rows n al (sp + 1) (insAll (lateL rows (al.getD (sp + 1) []) (colL a m))) [] (L - (sp + 1))) sp
theorem colL_succ {a : Int} {j : Nat} : colL a (j + 1) = colL a j ++ [(1 + (j : Int) * 1, a)] := by unfold colL; rw [rngL_succ, List.map_append]; rfl
theorem unrL_succ {rows : List (List Int)} {al1 : List Int} {a : Int} {j : Nat} : unrL rows al1 a (j + 1) = unrL rows al1 a j ++ (if (decide (gl rows (1 + (j : Int) * 1) a ≠ 0) && decide (gl rows (1 + (j : Int) * 1) a ∈ al1)) = true then [1 + (j : Int) * 1] else []) := by
  unfold unrL; rw [rngL_succ, List.filter_append]
  congr 1
  rw [List.filter_cons, List.filter_nil]
theorem unrL_ok {rows : List (List Int)} {al1 : List Int} {a : Int} {m : Nat} (hm : m ≤ 3) : SomeOk m (unrL rows al1 a m) where
  len := by
    have : (unrL rows al1 a m).length ≤ (rngL 1 1 m).length := List.length_filter_le _ _
    rw [rngL_len] at this; exact om219 hm this
  inn := fun s hs => mem_rng1.mp (List.mem_filter.mp hs).1
theorem whyNote_facts {rows : List (List Int)} {m n L : Nat} (T : Tab rows m n) {al re : List (List Int)} {sp : Nat} {a : Int} (hL : L ≤ 4) (hsp : sp < L) :
    Good (deadNote rows n al (sp + 1) (insAll (lateL rows (al.getD (sp + 1) []) (colL a m))) [] (L - (sp + 1))) ∧ Good (whyNote rows m n L al re sp a) ∧ ∀ p ∈ whyNote rows m n L al re sp a, p.1 < L := by
  have g1 := deadNote_good T (al := al) (sp := sp + 1) (S := insAll (lateL rows (al.getD (sp + 1) []) (colL a m))) (ps := []) ⟨List.nodup_nil, fun _ h => nomatch h⟩ (L - (sp + 1)) (by exact om220 hL hsp)
  refine ⟨g1, unrNote_good T.n3 (by exact om221 hL hsp) g1 sp, fun p hp => ?_⟩
  rcases mem_unrNote.mp hp with h | ⟨i, hi, h⟩
  · rcases mem_deadNote.mp h with h | ⟨i, hi, h⟩
    · cases h
    · rw [h.1]; exact om222 hi
  · rw [h.1]; exact om223 hsp
end
section
theorem machF_not {n : Str} {xs : List Int} {m k : Int} {rows : List (List Int)} {start : Int} {ends : List Int} {tw : Bool} (h : n ∉ (["number", "scope", "strength", "states", "letters", "rows", "start", "finals", "has_twins"] : List Str)) : n ∉ (machF xs m k rows start ends tw).map (·.1) := h
theorem Split.front : ∀ S R : AHeap, Split (S ++ R) S R
  | [], R => .nil
  | _ :: S, R => .cons .here (Split.front S R)
set_option maxHeartbeats 8000000 in
theorem sp374 (w : World) {rows : List (List Int)} {m n : Nat} (T : Tab rows m n) (M dM x d dm fs tr mk nw : Addr) (doms trail : List SV) (ks : List Int) (F : List (List Int)) (L sp : Nat) (a start : Int) (ends : List Int) (tw : Bool) (kept re al : List (List Int))
    (hk : kept.length = L) (hre : re.length = L + 1) (hal : al.length = L + 1) (hF : F.length = L) (hL : L ≤ 4) (hsp : sp < L) (ha : 1 ≤ a ∧ a ≤ n) :
    Spec w 4 (.ref 374) [.ref M, .ref x, rowsV kept, layV m re, layV m al, .int sp, .int a] (storeH x d dm fs tr mk nw doms (firstsV F) trail ks ++ [machA M dM L m n rows start ends tw])
      fun v H => (∃ out : List (Int × Int), out.Perm (whyNote rows m n L al re sp a) ∧ v = .tup ((out.filter (hadB F)).map tripV)) ∧ H = storeH x d dm fs tr mk nw doms (firstsV F) trail ks ++ [machA M dM L m n rows start ends tw] := by
  obtain ⟨g1, g2, hlt⟩ := whyNote_facts T (al := al) (re := re) (sp := sp) (a := a) hL hsp
  refine spec_of (ok374 w) rfl rfl fun A s hb => EvS.sub ?_
  have hm := T.m3; have hn := T.n3
  obtain ⟨SH, hSH⟩ : ∃ SH, storeH x d dm fs tr mk nw doms (firstsV F) trail ks = SH := ⟨_, rfl⟩
  obtain ⟨mc, hmc⟩ : ∃ mc, machA M dM L m n rows start ends tw = mc := ⟨_, rfl⟩
  have hmm : (M, AObj.inst 405 dM (machF (rngL 0 1 L) m n rows start ends tw)) ∈ SH ++ [mc] := by rw [← hmc]; exact List.mem_append_right _ List.mem_cons_self
  rw [hSH, hmc]
  refine S_cons (S_tupsw ["dead", "unreached", "noted"] (by rfl) ?_)
  refine E_tuple (A_cons (E_list (A_nil ⟨Nat.zero_le _, fun da _ => A_cons (E_list (A_nil ⟨Nat.zero_le _, fun ua hua => A_cons (E_dict0t fun N _ hN => A_nil ?_)⟩))⟩)))
  refine ⟨Nat.le_of_ble_eq_true rfl, _, _, rfl, rfl, .cons (by repeat (first | exact Put.here | apply Put.next)) (by repeat (first | exact List.mem_cons_self | apply List.mem_cons_of_mem)) (.cons (by repeat (first | exact Put.here | apply Put.next)) (by repeat (first | exact List.mem_cons_self | apply List.mem_cons_of_mem)) (.cons (by repeat (first | exact Put.here | apply Put.next)) (by repeat (first | exact List.mem_cons_self | apply List.mem_cons_of_mem)) .nil)), ?_⟩
  generalize hAl : al.getD (sp + 1) [] = al1
  refine S_cons (S_for_map (U := SV × SV) (f := SV.int) (l := rngL 1 1 m) (fun ls u => ⟨[.ref M, .ref x, rowsV kept, layV m re, layV m al, .int sp, .int a, .ref da, .ref ua, .ref N, u.1, u.2], (N, .tdict []) :: (ua, .list ((unrL rows al1 a ls.length).map .int)) :: (da, .list ((lateL rows al1 (colL a ls.length)).map .int)) :: (SH ++ [mc])⟩) (E_callT (by repeat (first | exact List.mem_cons_self | apply List.mem_cons_of_mem)) (A_cons ?_)))
  refine E_int ?_; refine A_cons ?_; refine E_bin ?_
  refine E_at (a := M) (y := .int m) ic405 (fun w => by kernel_rfl) ?_ (List.mem_cons_of_mem _ (List.mem_cons_of_mem _ (List.mem_cons_of_mem _ hmm))) (by repeat (first | exact List.mem_cons_self | apply List.mem_cons_of_mem)) rfl ?_
  · refine E_name (get_at 0 rfl rfl) nofun ?_; exact ⟨rfl, rfl⟩
  refine E_int ?_; refine O_add ?_; refine A_nil ?_
  refine C_range2 ?_
  refine ⟨it_up (n := m) ⟨_, _, rfl⟩ (by exact om184) (by exact om185 hm) (by exact om186), ⟨(_, _), rfl⟩, ?_, ?_⟩
  · intro P pre y qs u F1 hx fin1
    obtain ⟨hj, rfl⟩ := rng_cons hx
    try dsimp only at fin1
    try dsimp only
    rw [List.length_append, List.length_singleton] at fin1
    generalize u.1 = v1
    generalize u.2 = v2
    have hu := unrL_succ (rows := rows) (al1 := al1) (a := a) (j := pre.length)
    have hc := colL_succ (a := a) (j := pre.length)
    have hst : 1 ≤ (1 : Int) + (pre.length : Int) * 1 ∧ (1 : Int) + (pre.length : Int) * 1 ≤ m := by exact om156 hj
    generalize hstt : (1 : Int) + (pre.length : Int) * 1 = st at hst hu hc fin1 ⊢
    have hl1 : (unrL rows al1 a pre.length).length ≤ 3 := by
      have : (unrL rows al1 a pre.length).length ≤ (rngL 1 1 pre.length).length := List.length_filter_le _ _
      rw [rngL_len] at this; exact om224 hm hj this
    have hl2 : (lateL rows al1 (colL a pre.length)).length ≤ 3 := by
      have := lateL_len (rows := rows) (al := al1) (D := colL a pre.length)
      rw [colL, List.length_map, rngL_len] at this
      rw [colL]; exact om224 hm hj this
    obtain ⟨r, hr, hcc, hlen⟩ := T.get (k := (st - 1).toNat) (j := (a - 1).toNat) (by exact om189 hj hstt) (by exact om113 ha)
    have hcr := T.cell_range (st - 1).toNat (a - 1).toNat
    obtain ⟨q, hgg⟩ : ∃ q, gl rows st a = q := ⟨_, rfl⟩
    have hc' : r[(a - 1).toNat]? = some q := by rw [← hgg]; exact hcc
    have hcr' : 0 ≤ q ∧ q ≤ m := by rw [← hgg]; exact hcr
    rw [hgg] at hu
    rw [hu, hc, lateL_snoc] at fin1
    dsimp only at fin1
    rw [hgg] at fin1
    generalize hUL : unrL rows al1 a pre.length = ul at hl1 fin1 ⊢
    generalize hCL : colL a pre.length = cl at hl2 fin1 ⊢
    refine AT_name (by repeat (first | exact Put.here | apply Put.next)) (by repeat (first | exact List.mem_cons_self | apply List.mem_cons_of_mem)) ?_
    try dsimp only
    have fin : ∀ l' u', l' = lateL rows al1 cl ++ (if (decide (q ≠ 0) && !decide (q ∈ al1)) = true then [q] else []) → u' = ul ++ (if (decide (q ≠ 0) && decide (q ∈ al1)) = true then [st] else []) →
        F1 .next ⟨[.ref M, .ref x, rowsV kept, layV m re, layV m al, .int sp, .int a, .ref da, .ref ua, .ref N, .int st, .int q], (N, .tdict []) :: (ua, .list (u'.map .int)) :: (da, .list (l'.map .int)) :: (SH ++ [mc])⟩ := fun l' u' e1 e2 => by
      rw [e1, e2]; exact fin1 (.int st, .int q)
    refine S_cons ?_; refine S_asgn (by repeat (first | exact List.mem_cons_self | apply List.mem_cons_of_mem)) ?_; refine E_sub ?_; refine E_sub ?_
    refine E_at (a := M) (y := rowsV rows) ic405 (fun w => by kernel_rfl) ?_ (List.mem_cons_of_mem _ (List.mem_cons_of_mem _ (List.mem_cons_of_mem _ hmm))) (by repeat (first | exact List.mem_cons_self | apply List.mem_cons_of_mem)) rfl ?_
    · refine E_name (get_at 0 rfl rfl) nofun ?_; exact ⟨rfl, rfl⟩
    refine E_bin ?_; refine E_name (get_at 10 rfl rfl) nofun ?_; refine E_int ?_; refine O_subi ?_
    refine O_lat (x := iL r) (by exact om190 hstt) (by rw [List.getElem?_map, hr]; rfl) (by rw [List.length_map, T.len]; exact om115 hm) ?_
    refine E_bin ?_; refine E_name (get_at 6 rfl rfl) nofun ?_; refine E_int ?_; refine O_subi ?_
    refine O_lat (x := .int q) (by exact om116 ha) (by rw [List.getElem?_map, hc']; rfl) (by rw [List.length_map, hlen]; exact om115 hn) ?_
    refine ⟨_, by repeat (first | exact Put.here | apply Put.next), ?_⟩
    try dsimp only
    refine S_cons ?_; refine S_if ?_; refine T_and ?_; refine T_and_cons ?_; refine T_cmp ?_; refine E_name (get_at 11 rfl rfl) nofun ?_; refine E_int ?_; refine O_nei ?_; refine ⟨_, rfl, ?_⟩
    refine ⟨fun h => ?_, fun h => ?_⟩
    · have hq0 : q ≠ 0 := by simpa using h
      refine T_and_cons ?_; refine T_not ?_
      refine T_val ?_
      refine E_sub ?_; refine E_sub ?_; refine E_name (get_at 4 rfl rfl) nofun ?_; refine E_bin ?_; refine E_name (get_at 5 rfl rfl) nofun ?_; refine E_int ?_; refine O_add ?_
      refine O_lat (x := .lst (boolRow m al1)) (by exact om225) (by rw [show ((sp : Int) + 1).toNat = sp + 1 by exact om226, lay_at (by exact om227 hal hsp), hAl]) (by rw [List.length_map]; exact om193 hal hL) ?_
      refine E_name (get_at 11 rfl rfl) nofun ?_
      refine O_lat (x := .bool (decide (q ∈ al1))) hcr'.1 (bool_at hcr'.1 hcr'.2) (by rw [boolRow_len]; exact om194 hm) ?_
      refine ⟨_, rfl, fun h2 => ?_, fun h2 => ?_⟩
      · have hqa : decide (q ∈ al1) = false := by simpa using h2
        refine T_and_nil ?_
        refine ⟨fun _ => ?_, fun h => (nomatch h)⟩
        refine S_cons (S_expr (E_app ?_))
        refine E_name (get_at 7 rfl rfl) nofun ?_
        refine ⟨_, _, rfl, by repeat (first | exact List.mem_cons_self | apply List.mem_cons_of_mem), ?_⟩
        refine E_name (get_at 11 rfl rfl) nofun ?_
        refine ⟨_, _, .next (.next .here), by rw [List.length_map, sizeLine_eq]; exact om228 hl2, ?_⟩
        refine S_nil ?_; refine S_nil ?_
        have := fin (lateL rows al1 cl ++ [q]) ul (by rw [hqa]; simp [hq0]) (by rw [hqa]; simp)
        rw [List.map_append] at this
        exact this
      · have hqa : decide (q ∈ al1) = true := by simpa using h2
        refine ⟨fun h => (nomatch h), fun _ => ?_⟩
        refine S_cons ?_; refine S_if ?_; refine T_cmp ?_; refine E_name (get_at 11 rfl rfl) nofun ?_; refine E_int ?_; refine O_nei ?_; refine ⟨_, rfl, ?_⟩
        refine ⟨fun _ => ?_, fun h3 => ?_⟩
        · refine S_cons (S_expr (E_app ?_))
          refine E_name (get_at 8 rfl rfl) nofun ?_
          refine ⟨_, _, rfl, by repeat (first | exact List.mem_cons_self | apply List.mem_cons_of_mem), ?_⟩
          refine E_name (get_at 10 rfl rfl) nofun ?_
          refine ⟨_, _, .next .here, by rw [List.length_map, sizeLine_eq]; exact om228 hl1, ?_⟩
          refine S_nil ?_; refine S_nil ?_; refine S_nil ?_
          have := fin (lateL rows al1 cl) (ul ++ [st]) (by rw [hqa]; simp) (by rw [hqa]; simp [hq0])
          rw [List.map_append] at this
          exact this
        · exact absurd (by simpa using h3) hq0
    · have hq0 : q = 0 := by simpa using h
      refine ⟨fun h => (nomatch h), fun _ => ?_⟩
      refine S_cons ?_; refine S_if ?_; refine T_cmp ?_; refine E_name (get_at 11 rfl rfl) nofun ?_; refine E_int ?_; refine O_nei ?_; refine ⟨_, rfl, ?_⟩
      refine ⟨fun h3 => ?_, fun _ => ?_⟩
      · exact absurd hq0 (by simpa using h3)
      · refine S_nil ?_; refine S_nil ?_; refine S_nil ?_
        exact fin (lateL rows al1 cl) ul (by simp [hq0]) (by simp [hq0])
  · intro u
    rw [rngL_len]
    generalize u.1 = v1
    generalize u.2 = v2
    have hin := lateL_in T (al := al1) (D := colL a m)
    have hll : (lateL rows al1 (colL a m)).length ≤ 3 := by
      have := lateL_len (rows := rows) (al := al1) (D := colL a m)
      rw [colL, List.length_map, rngL_len] at this
      rw [colL]; exact om229 hm this
    have hS1 := insAll_some hm hin
    have hin4 : ∀ x ∈ lateL rows al1 (colL a m), x ∈ [(0 : Int), 1, 2, 3] := fun x hx => small4 (by have := hin x hx; exact om197 this) (by have := hin x hx; exact om173 hm this)
    have hg1 : Good (deadNote rows n al (sp + 1) (insAll (lateL rows al1 (colL a m))) [] (L - (sp + 1))) := by rw [← hAl]; exact g1
    have hw : unrNote rows m n re sp (unrL rows al1 a m) (deadNote rows n al (sp + 1) (insAll (lateL rows al1 (colL a m))) [] (L - (sp + 1))) sp = whyNote rows m n L al re sp a := by rw [whyNote, hAl]
    have s355 := sp355 w T M dM N L (sp + 1) start ends tw kept al (insAll (lateL rows al1 (colL a m))) [] hk hal hL (by exact om230 hsp) hS1 ⟨List.nodup_nil, fun _ h => nomatch h⟩
    have s362 := sp362 w T M dM N L sp start ends tw re (unrL rows al1 a m) _ hre hL (by exact om231 hsp) (unrL_ok hm) hg1
    have s367 := sp367 w M x d dm fs tr mk nw N doms trail ks F (whyNote rows m n L al re sp a) (by exact om232 hF hL) g2 (fun p hp => by have := hlt p hp; exact om233 hF this) hN
    rw [hw] at s362
    rw [hmc] at s355 s362
    rw [hSH] at s367
    have hm1 : ∀ R : AHeap, (M, AObj.inst 405 dM (machF (rngL 0 1 L) m n rows start ends tw)) ∈ mc :: R := fun R => by rw [← hmc]; exact List.mem_cons_self
    generalize deadNote rows n al (sp + 1) (insAll (lateL rows al1 (colL a m))) [] (L - (sp + 1)) = D1 at s355 s362
    generalize whyNote rows m n L al re sp a = D2 at s362 s367 ⊢
    generalize unrL rows al1 a m = l2 at s362 ⊢
    generalize hl1 : lateL rows al1 (colL a m) = l1 at s355 hin4 ⊢
    refine EvS.pre (G := mc :: (N, .tdict []) :: (ua, .list (l2.map .int)) :: (da, .list (l1.map .int)) :: SH) (D := []) ?_ ?_
    · rw [List.append_nil]; exact List.perm_append_comm (l₁ := _ :: _ :: _ :: _) (l₂ := [_])
    refine S_cons (S_expr (E_methF 355 fd355 (fun w => ⟨_, _, _, (ok355 w).obj.choose_spec.choose_spec.choose_spec⟩) ?_))
    refine E_name (get_at 0 rfl rfl) nofun ?_
    refine ⟨GM_own (C := 405) (a := M) (d := dM) (fs := machF (rngL 0 1 L) m n rows start ends tw) (hm1 _) ic405 (fun w => by kernel_rfl) (fun w => by kernel_rfl) (machF_not (by decide +kernel)), ?_⟩
    refine A_cons ?_; refine E_name (get_at 2 rfl rfl) nofun ?_; refine A_cons ?_; refine E_name (get_at 4 rfl rfl) nofun ?_; refine A_cons ?_; refine E_bin ?_; refine E_name (get_at 5 rfl rfl) nofun ?_; refine E_int ?_; refine O_add ?_; refine A_cons ?_
    refine E_callB (by repeat (first | exact List.mem_cons_self | apply List.mem_cons_of_mem)) (A_cons ?_)
    refine E_callT (by repeat (first | exact List.mem_cons_self | apply List.mem_cons_of_mem)) (A_cons ?_)
    refine E_name (get_at 7 rfl rfl) nofun ?_; refine A_nil ?_
    refine C_set_own (.inl (List.mem_cons_of_mem _ (List.mem_cons_of_mem _ (List.mem_cons_of_mem _ List.mem_cons_self)))) hin4 fun sv hsv => ?_
    refine A_nil ?_
    refine C_sorted_set hsv ?_
    refine A_cons ?_; refine E_name (get_at 9 rfl rfl) nofun ?_; refine A_nil ?_
    rw [show ((sp : Int) + 1) = ((sp + 1 : Nat) : Int) by exact om234]
    refine call_spec s355 (Nat.le_of_ble_eq_true rfl) (.cons .here (.cons .here .nil)) ?_
    rintro sv H' rfl
    try dsimp only
    refine S_cons (S_expr (E_methF 362 fd362 (fun w => ⟨_, _, _, (ok362 w).obj.choose_spec.choose_spec.choose_spec⟩) ?_))
    refine E_name (get_at 0 rfl rfl) nofun ?_
    refine ⟨GM_own (C := 405) (a := M) (d := dM) (fs := machF (rngL 0 1 L) m n rows start ends tw) (hm1 _) ic405 (fun w => by kernel_rfl) (fun w => by kernel_rfl) (machF_not (by decide +kernel)), ?_⟩
    refine A_cons ?_; refine E_name (get_at 3 rfl rfl) nofun ?_; refine A_cons ?_; refine E_name (get_at 5 rfl rfl) nofun ?_; refine A_cons ?_
    refine EvV.frz ?_
    refine E_name (get_at 8 rfl rfl) nofun ?_
    refine ⟨_, _, _, rfl, .next (.next .here), hua, ?_⟩
    refine A_cons ?_; refine E_name (get_at 9 rfl rfl) nofun ?_; refine A_nil ?_
    refine call_spec s362 (Nat.le_of_ble_eq_true rfl) (.cons .here (.cons .here .nil)) ?_
    rintro sv H' rfl
    try dsimp only
    refine EvS.pre (G := (SH ++ [(N, .tdict (D2.map trip))]) ++ [mc]) (D := [(da, .list (l1.map .int))]) ?_ ?_
    · exact (List.perm_append_comm (l₁ := [_, _, _]) (l₂ := SH)).trans ((List.Perm.append_left SH (List.Perm.swap _ _ _)).trans (.of_eq (by simp)))
    refine S_cons ?_; refine S_ret ?_
    refine E_methF 367 fd367 (fun w => ⟨_, _, _, (ok367 w).obj.choose_spec.choose_spec.choose_spec⟩) ?_
    refine E_name (get_at 0 rfl rfl) nofun ?_
    refine ⟨GM_own (C := 405) (a := M) (d := dM) (fs := machF (rngL 0 1 L) m n rows start ends tw) (List.mem_append_right _ (hm1 _)) ic405 (fun w => by kernel_rfl) (fun w => by kernel_rfl) (machF_not (by decide +kernel)), ?_⟩
    refine A_cons ?_; refine E_name (get_at 1 rfl rfl) nofun ?_; refine A_cons ?_; refine E_name (get_at 9 rfl rfl) nofun ?_; refine A_nil ?_
    refine call_spec s367 (Nat.le_of_ble_eq_true rfl) (Split.front _ _) ?_
    rintro sv H' ⟨⟨out, ho, rfl⟩, rfl⟩
    try dsimp only
    refine ⟨SH ++ [mc], [(N, .tdict (D2.map trip))], ?_, .inl ⟨_, rfl, ⟨out, ho, rfl⟩, rfl⟩⟩
    show (SH ++ [(N, AObj.tdict (D2.map trip))] ++ [mc]).Perm _
    rw [List.append_assoc, List.append_assoc]
    exact List.Perm.append_left _ (List.Perm.swap _ _ _)
end
section
noncomputable def foldS (f : List Int → List Int → List Int) (init : List Int) (lots : List (List Int)) : List (List Int) := lots.foldl (fun ls lot => ls ++ [f lot (ls.getLastD [])]) [init]
theorem foldS_snoc {f : List Int → List Int → List Int} {init : List Int} {lots : List (List Int)} {lot : List Int} : foldS f init (lots ++ [lot]) = foldS f init lots ++ [f lot ((foldS f init lots).getLastD [])] := by
  unfold foldS; rw [List.foldl_append]; rfl
theorem foldS_rev (f : List Int → List Int → List Int) (init : List Int) : ∀ ls : List (List Int), (foldS f init ls.reverse).length = ls.length + 1 ∧ (foldS f init ls.reverse).getD 0 [] = init ∧ ∀ k, k < ls.length → (foldS f init ls.reverse).getD (k + 1) [] = f (ls.reverse.getD k []) ((foldS f init ls.reverse).getD k [])
  | [] => ⟨rfl, rfl, fun k h => by simp at h⟩
  | l :: ls => by
    obtain ⟨h1, h2, h3⟩ := foldS_rev f init ls
    rw [List.reverse_cons, foldS_snoc]
    have hlast : (foldS f init ls.reverse).getLastD [] = (foldS f init ls.reverse).getD ls.length [] := by
      rw [List.getLastD_eq_getLast?, List.getLast?_eq_getElem?, h1]; rfl
    refine ⟨by simp [h1], ?_, fun k hk => ?_⟩
    · refine Eq.trans ?_ h2
      simp only [List.getD]
      rw [List.getElem?_append_left (by exact om235 h1)]
    · simp only [List.getD] at h3 hlast ⊢
      by_cases e : k < ls.length
      · rw [List.getElem?_append_left (by exact om227 h1 e), List.getElem?_append_left (by simp; exact om236 e), List.getElem?_append_left (by exact om237 h1 e)]
        exact h3 k e
      · have e' : k = ls.length := by simp at hk; exact om218 hk e
        subst e'
        have ex : (foldS f init ls.reverse ++ [f l ((foldS f init ls.reverse).getLastD [])])[ls.length + 1]? = some (f l ((foldS f init ls.reverse).getLastD [])) := by
          rw [List.getElem?_append_right (by exact om238 h1), h1]; simp
        have ey : (ls.reverse ++ [l])[ls.length]? = some l := by
          rw [List.getElem?_append_right (by simp)]; simp
        rw [ex, ey, List.getElem?_append_left (by exact om239 h1), hlast]; rfl
theorem foldS_get (f : List Int → List Int → List Int) (init : List Int) (lots : List (List Int)) : (foldS f init lots).length = lots.length + 1 ∧ (foldS f init lots).getD 0 [] = init ∧ ∀ k, k < lots.length → (foldS f init lots).getD (k + 1) [] = f (lots.getD k []) ((foldS f init lots).getD k []) := by
  have := foldS_rev f init lots.reverse
  rw [List.reverse_reverse, List.length_reverse] at this
  exact this
theorem ahead_get (rows : List (List Int)) (start : Int) (kept : List (List Int)) : (aheadL rows start kept).getD 0 [] = [start] ∧ ∀ k, k < kept.length → (aheadL rows start kept).getD (k + 1) [] = fwdL rows (kept.getD k []) ((aheadL rows start kept).getD k []) :=
  (foldS_get (fwdL rows) [start] kept).2
noncomputable abbrev aliveL (rows : List (List Int)) (m : Nat) (ends : List Int) (kept : List (List Int)) : List (List Int) := (behindL rows m ends kept.reverse).reverse
theorem aliveL_len {rows : List (List Int)} {m : Nat} {ends : List Int} {kept : List (List Int)} : (aliveL rows m ends kept).length = kept.length + 1 := by
  rw [aliveL, List.length_reverse, behindL_len, List.length_reverse]
theorem getD_rev {l : List (List Int)} {k : Nat} (h : k < l.length) : l.reverse.getD k [] = l.getD (l.length - 1 - k) [] := by
  simp only [List.getD]
  rw [List.getElem?_reverse h]
theorem alive_get (rows : List (List Int)) (m : Nat) (ends : List Int) (kept : List (List Int)) : (aliveL rows m ends kept).getD kept.length [] = ends ∧ ∀ k, k < kept.length → (aliveL rows m ends kept).getD k [] = backL rows m (kept.getD k []) ((aliveL rows m ends kept).getD (k + 1) []) := by
  have hb : behindL rows m ends kept.reverse = foldS (backL rows m) ends kept.reverse := rfl
  obtain ⟨h1, h2, h3⟩ := foldS_get (backL rows m) ends kept.reverse
  rw [List.length_reverse] at h1 h3
  unfold aliveL
  rw [hb]
  refine ⟨?_, fun k hk => ?_⟩
  · rw [getD_rev (by exact om239 h1), h1, show kept.length + 1 - 1 - kept.length = 0 by exact om240]; exact h2
  · rw [getD_rev (by exact om237 h1 hk), getD_rev (by exact om227 h1 hk), h1]
    have := h3 (kept.length - 1 - k) (by exact om241 hk)
    rw [show kept.length + 1 - 1 - k = kept.length - 1 - k + 1 by exact om242 hk, show kept.length + 1 - 1 - (k + 1) = kept.length - 1 - k by exact om243, this]
    congr 1
    rw [getD_rev (by exact om241 hk), show kept.length - 1 - (kept.length - 1 - k) = k by exact om244 hk]
theorem mem_backL {rows : List (List Int)} {m : Nat} {lot last : List Int} {q : Int} : q ∈ backL rows m lot last ↔ (1 ≤ q ∧ q ≤ m) ∧ ∃ l ∈ lot, gl rows q l ∈ last := by
  have key : ∀ k : Nat, (!(hitsL rows last k lot).isEmpty) = true ↔ ∃ l ∈ lot, cell rows k (l - 1).toNat ∈ last := fun k => by
    unfold hitsL
    rw [Bool.not_eq_true', Bool.eq_false_iff, ne_eq, List.isEmpty_iff, List.map_eq_nil_iff, List.filter_eq_nil_iff]
    constructor
    · intro h
      refine Classical.byContradiction fun hn => h fun l hl e => hn ⟨l, hl, by simpa using e⟩
    · rintro ⟨l, hl, e⟩ h
      exact h l hl (by simpa using e)
  unfold backL
  rw [List.mem_map]
  constructor
  · rintro ⟨k, hk, rfl⟩
    obtain ⟨h1, h2⟩ := List.mem_filter.mp hk
    have := List.mem_range.mp h1
    obtain ⟨l, hl, e⟩ := (key k).mp h2
    refine ⟨by exact om245 this, l, hl, ?_⟩
    show cell rows ((k : Int) + 1 - 1).toNat (l - 1).toNat ∈ last
    rw [show ((k : Int) + 1 - 1).toNat = k by exact om246]; exact e
  · rintro ⟨⟨h1, h2⟩, l, hl, e⟩
    exact ⟨(q - 1).toNat, List.mem_filter.mpr ⟨List.mem_range.mpr (by exact om157 h1 h2), (key _).mpr ⟨l, hl, e⟩⟩, by exact om247 h1⟩
theorem gone_pos {rows : List (List Int)} {s l : Int} (h : 1 ≤ s) : gone rows s l = gl rows s l := by unfold gone; rw [if_pos (by exact om248 h)]
theorem gone_zero {rows : List (List Int)} {l : Int} : gone rows 0 l = 0 := by unfold gone; rw [if_neg (by exact om249)]
structure Ask (rows : List (List Int)) (m n L : Nat) (start : Int) (ends : List Int) (kept : List (List Int)) (sp : Nat) (a : Int) : Prop where
  T : Tab rows m n
  hk : kept.length = L
  hL : L ≤ 4
  hsp : sp < L
  ha : 1 ≤ a ∧ a ≤ n
  hs : 1 ≤ start ∧ start ≤ m
  he : ∀ q ∈ ends, 1 ≤ q ∧ q ≤ m
  hno : ∀ s ∈ (aheadL rows start kept).getD sp [], gone rows s a ∉ (aliveL rows m ends kept).getD (sp + 1) []
section
variable {rows : List (List Int)} {m n L : Nat} {start : Int} {ends : List Int} {kept : List (List Int)} {sp : Nat} {a : Int}
noncomputable abbrev reA (rows : List (List Int)) (start : Int) (kept : List (List Int)) := aheadL rows start kept
noncomputable abbrev deadS (rows : List (List Int)) (m : Nat) (ends : List Int) (kept : List (List Int)) (sp : Nat) (a : Int) : List Int := insAll (lateL rows ((aliveL rows m ends kept).getD (sp + 1) []) (colL a m))
noncomputable abbrev unrS (rows : List (List Int)) (m : Nat) (ends : List Int) (kept : List (List Int)) (sp : Nat) (a : Int) : List Int := unrL rows ((aliveL rows m ends kept).getD (sp + 1) []) a m
theorem dead_inv (K : Ask rows m n L start ends kept sp a) : ∀ i, ∀ s ∈ deadSome rows n (aliveL rows m ends kept) (sp + 1) (deadS rows m ends kept sp a) i, (1 ≤ s ∧ s ≤ m) ∧ s ∉ (aliveL rows m ends kept).getD (sp + 1 + i) []
  | 0 => fun s hs => by
    have h := (mem_insAll s _).mp hs
    exact ⟨lateL_in K.T s h, (lateL_mem.mp h).2.2⟩
  | i + 1 => fun s hs => by
    have h := (mem_insAll s _).mp (show s ∈ insAll _ from hs)
    exact ⟨lateL_in K.T s h, (lateL_mem.mp h).2.2⟩
theorem unr_inv (K : Ask rows m n L start ends kept sp a) : ∀ i, ∀ s ∈ unrSome rows m n (aheadL rows start kept) sp (unrS rows m ends kept sp a) i, (1 ≤ s ∧ s ≤ m) ∧ s ∉ (aheadL rows start kept).getD (sp - i) []
  | 0 => fun s hs => by
    obtain ⟨h1, h2⟩ := List.mem_filter.mp (show s ∈ unrL _ _ _ _ from hs)
    have h3 := mem_rng1.mp h1
    simp at h2
    refine ⟨h3, fun h => ?_⟩
    have := K.hno s h
    rw [gone_pos h3.1] at this
    exact this h2.2
  | i + 1 => fun s hs => by
    have h := (mem_insAll s _).mp (show s ∈ insAll _ from hs)
    refine ⟨earlyL_in s h, ?_⟩
    obtain ⟨p, _, _, _, h2⟩ := earlyL_mem.mp h
    rw [show sp - (i + 1) = sp - 1 - i by exact om250]; exact h2
theorem told (K : Ask rows m n L start ends kept sp a) {p : Int × Int} (hp : p ∈ whyNote rows m n L (aliveL rows m ends kept) (aheadL rows start kept) sp a) : p.1 ≠ sp ∧ p.2 ∉ kept.getD p.1.toNat [] := by
  have hal := (alive_get rows m ends kept).2
  have hre := (ahead_get rows start kept).2
  have hk := K.hk
  have hsp := K.hsp
  rcases mem_unrNote.mp hp with h | ⟨i, hi, h1, h2, h3, s, hs1, hs2, h4, h5⟩
  · rcases mem_deadNote.mp h with h | ⟨i, hi, h1, h2, h3, s, hs, h4, h5⟩
    · cases h
    · obtain ⟨e1, e2⟩ := dead_inv K i s hs
      refine ⟨by rw [h1]; exact om251, fun hin => e2 ?_⟩
      rw [hal (sp + 1 + i) (by exact om252 hk hi), mem_backL]
      refine ⟨e1, p.2, ?_, h5⟩
      rw [show sp + 1 + i = p.1.toNat by rw [h1]; exact om253]; exact hin
  · obtain ⟨e1, e2⟩ := unr_inv K i _ h4
    refine ⟨by rw [h1]; exact om254 hi, fun hin => e2 ?_⟩
    rw [show sp - i = (sp - 1 - i) + 1 by exact om255 hi, hre (sp - 1 - i) (by exact om256 hk hsp), mem_fwdL]
    refine ⟨by exact om257 e1, s, h5, p.2, ?_, gone_pos hs1⟩
    rw [show sp - 1 - i = p.1.toNat by rw [h1]; exact om258]; exact hin
end
end
section
theorem goes_snoc {rows : List (List Int)} {start : Int} {ws : List Int} {l : Int} : goes rows start (ws ++ [l]) = gone rows (goes rows start ws) l := by unfold goes; rw [List.foldl_append]; rfl
theorem goes_take {rows : List (List Int)} {start : Int} {w : List Int} {k : Nat} (h : k < w.length) : goes rows start (w.take (k + 1)) = gone rows (goes rows start (w.take k)) (w.getD k 0) := by
  have e : w.take (k + 1) = w.take k ++ [w.getD k 0] := by
    rw [List.take_add_one]
    simp [List.getD, h]
  rw [e, goes_snoc]
theorem goes_zero {rows : List (List Int)} : ∀ {ws : List Int}, goes rows 0 ws = 0
  | [] => rfl
  | l :: ws => by
    show goes rows (gone rows 0 l) ws = 0
    rw [gone_zero]; exact goes_zero
theorem goes_stuck {rows : List (List Int)} {start : Int} {w : List Int} {k : Nat} (h : goes rows start (w.take k) = 0) : goes rows start w = 0 := by
  have e : goes rows start w = goes rows (goes rows start (w.take k)) (w.drop k) := by
    unfold goes
    rw [← List.foldl_append, List.take_append_drop]
  rw [e, h, goes_zero]
theorem mem_words (lots : List (List Int)) : ∀ {w : List Int}, w ∈ wordsL lots → w.length = lots.length ∧ ∀ k, k < lots.length → w.getD k 0 ∈ lots.getD k [] := by
  have key : ∀ (rl : List (List Int)) {w : List Int}, w ∈ wordsL rl.reverse → w.length = rl.reverse.length ∧ ∀ k, k < rl.reverse.length → w.getD k 0 ∈ rl.reverse.getD k [] := by
    intro rl
    induction rl with
    | nil =>
      intro w hw
      rw [List.reverse_nil] at hw ⊢
      have : w = [] := by simpa [wordsL] using hw
      subst this
      exact ⟨rfl, fun k hk => by simp at hk⟩
    | cons lot rl ih =>
      intro w hw
      rw [List.reverse_cons, wordsL_snoc] at hw
      obtain ⟨row, hrow, hw⟩ := List.mem_flatMap.mp hw
      obtain ⟨l, hl, rfl⟩ := List.mem_map.mp hw
      obtain ⟨h1, h2⟩ := ih hrow
      rw [List.reverse_cons]
      refine ⟨by simp [h1], fun k hk => ?_⟩
      simp only [List.getD] at h2 ⊢
      by_cases e : k < rl.reverse.length
      · rw [List.getElem?_append_left (show k < row.length by exact om259 h1 e), List.getElem?_append_left (l₁ := rl.reverse) e]
        exact h2 k e
      · have e' : k = rl.reverse.length := by simp at hk e ⊢; exact om260 hk e
        subst e'
        rw [List.getElem?_append_right (Nat.le_refl _), List.getElem?_append_right (by exact om48 h1), h1]
        simpa using hl
  intro w hw
  have := key lots.reverse (w := w) (by rw [List.reverse_reverse]; exact hw)
  rw [List.reverse_reverse] at this
  exact this
section
variable {rows : List (List Int)} {m n L : Nat} {start : Int} {ends : List Int} {kept : List (List Int)} {sp : Nat} {a : Int}
theorem no_word (K : Ask rows m n L start ends kept sp a) {w : List Int} (hw : w.length = L) (hl : ∀ k, k < L → 1 ≤ w.getD k 0 ∧ w.getD k 0 ≤ n) (ha : w.getD sp 0 = a)
    (hr : ∀ k, k < L → k ≠ sp → ((k : Int), w.getD k 0) ∉ whyNote rows m n L (aliveL rows m ends kept) (aheadL rows start kept) sp a) : goes rows start w ∉ ends := by
  intro hend
  have hsp := K.hsp
  have hk := K.hk
  have hend0 := K.he _ hend
  have hne : ∀ k, goes rows start (w.take k) ≠ 0 := fun k e => by
    have := goes_stuck e
    exact om261 hend0 this
  have hrg : ∀ k, k ≤ L → 1 ≤ goes rows start (w.take k) ∧ goes rows start (w.take k) ≤ m := fun k => by
    induction k with
    | zero => intro _; rw [List.take_zero]; exact K.hs
    | succ k ih =>
      intro hkL
      have h1 := hne (k + 1)
      rw [goes_take (by exact om262 hw hkL)] at h1 ⊢
      have := gone_range K.T (goes rows start (w.take k)) (w.getD k 0)
      exact om263 h1 this
  have hst : ∀ k, k < L → goes rows start (w.take (k + 1)) = gl rows (goes rows start (w.take k)) (w.getD k 0) := fun k hkL => by
    rw [goes_take (by exact om259 hw hkL), gone_pos (hrg k (by exact om231 hkL)).1]
  have hlast : goes rows start (w.take L) = goes rows start w := by rw [← hw, List.take_length]
  have hs := hrg sp (by exact om231 hsp)
  have hq := hst sp hsp
  rw [ha] at hq
  by_cases hal : goes rows start (w.take (sp + 1)) ∈ (aliveL rows m ends kept).getD (sp + 1) []
  · have key : ∀ i, i ≤ sp → goes rows start (w.take (sp - i)) ∈ unrSome rows m n (aheadL rows start kept) sp (unrS rows m ends kept sp a) i := fun i => by
      induction i with
      | zero =>
        intro _
        show _ ∈ unrL _ _ _ _
        refine List.mem_filter.mpr ⟨mem_rng1.mpr (by simpa using hs), ?_⟩
        rw [Nat.sub_zero, ← hq, decide_eq_true (hne (sp + 1)), decide_eq_true hal]; rfl
      | succ i ih =>
        intro hi
        have h1 := ih (by exact om264 hi)
        have h2 := hst (sp - (i + 1)) (by exact om265 hsp)
        rw [show sp - (i + 1) + 1 = sp - i by exact om266 hi] at h2
        have h3 := hrg (sp - (i + 1)) (by exact om267 hsp)
        have h4 := hl (sp - (i + 1)) (by exact om265 hsp)
        rw [h2] at h1
        refine (mem_insAll _ _).mpr (earlyL_mem.mpr ⟨(goes rows start (w.take (sp - (i + 1))), w.getD (sp - (i + 1)) 0), mem_pairsL.mpr ⟨mem_rng1.mpr h3, h4⟩, rfl, h1, fun hin => ?_⟩)
        refine hr (sp - (i + 1)) (by exact om265 hsp) (by exact om268 hi) (mem_unrNote.mpr (.inr ⟨i, by exact om269 hi, ?_⟩))
        refine ⟨by show ((sp - (i + 1) : Nat) : Int) = ((sp - 1 - i : Nat) : Int); exact om270, h4.1, h4.2, goes rows start (w.take (sp - (i + 1))), h3.1, h3.2, h1, hin⟩
    have h := (unr_inv K sp _ (key sp (Nat.le_refl _))).2
    rw [Nat.sub_self, (ahead_get rows start kept).1, List.take_zero] at h
    exact h (List.mem_singleton.mpr rfl)
  · have key : ∀ i, sp + 1 + i ≤ L → goes rows start (w.take (sp + 1 + i)) ∈ deadSome rows n (aliveL rows m ends kept) (sp + 1) (deadS rows m ends kept sp a) i := fun i => by
      induction i with
      | zero =>
        intro _
        refine (mem_insAll _ _).mpr (lateL_mem.mpr ⟨⟨(goes rows start (w.take sp), a), ?_, hq.symm⟩, hne _, hal⟩)
        exact List.mem_map.mpr ⟨_, mem_rng1.mpr hs, rfl⟩
      | succ i ih =>
        intro hi
        have h1 := ih (by exact om271 hi)
        have h2 := hst (sp + 1 + i) (by exact om272 hi)
        have h4 := hl (sp + 1 + i) (by exact om272 hi)
        have h5 := hne (sp + 1 + i + 1)
        rw [show sp + 1 + (i + 1) = sp + 1 + i + 1 by exact om273]
        refine (mem_insAll _ _).mpr (lateL_mem.mpr ⟨⟨(goes rows start (w.take (sp + 1 + i)), w.getD (sp + 1 + i) 0), mem_pairsL.mpr ⟨h1, h4⟩, h2.symm⟩, h5, fun hin => ?_⟩)
        rw [h2] at h5 hin
        refine hr (sp + 1 + i) (by exact om272 hi) (by exact om274) (mem_unrNote.mpr (.inl (mem_deadNote.mpr (.inr ⟨i, by exact om275 hi, rfl, h4.1, h4.2, _, h1, h5, hin⟩))))
    have h := (dead_inv K (L - (sp + 1)) _ (key (L - (sp + 1)) (by exact om276 hsp))).2
    rw [show sp + 1 + (L - (sp + 1)) = L by exact om80 hsp, ← hk, (alive_get rows m ends kept).1, hk, hlast] at h
    exact h hend
end
noncomputable def subs3 : List (List Int) := [[1], [2], [3], [1, 2], [1, 3], [2, 3], [1, 2, 3]]
theorem subs_had : ∀ f ∈ subs3, ∀ l ∈ [(1 : Int), 2, 3], decide (nextFrom (fromVals f) l = some l) = decide (l ∈ f) := by decide
theorem subs_in : ∀ f ∈ subs3, (f.length ≤ 3 ∧ f.Pairwise (· < ·) ∧ f ≠ [] ∧ ∀ l ∈ f, 1 ≤ l ∧ l ≤ 3) ∧ fromVals f ≠ [] ∧ (fromVals f).length ≤ 3 := by decide
theorem hadB_iff {F : List (List Int)} (hF : ∀ f ∈ F, f ∈ subs3) {k : Nat} {l : Int} (hk : k < F.length) (hl : 1 ≤ l ∧ l ≤ 3) : hadB F ((k : Int), l) = true ↔ l ∈ F.getD k [] := by
  have h1 : F.getD k [] ∈ F := by simp [List.getD, hk]
  have h2 : l ∈ [(1 : Int), 2, 3] := by
    have : l = 1 ∨ l = 2 ∨ l = 3 := by exact om277 hl
    rcases this with rfl | rfl | rfl <;> simp
  have := subs_had _ (hF _ h1) l h2
  unfold hadB
  show decide (nextFrom (fromVals (F.getD ((k : Int)).toNat [])) l = some l) = true ↔ _
  rw [Int.toNat_natCast, this]
  simp
end
section
section
variable {c : Cx} {σ : St} {Q : SV → St → Prop}
theorem Take.mem {H R : AHeap} {e : Addr × AObj} (t : Take H e R) : e ∈ H := by
  induction t with
  | here => exact List.mem_cons_self
  | next _ ih => exact List.mem_cons_of_mem _ ih
theorem EvS.freezeVar {t : Sem Flow} {F : Fl → Mine.St → Prop} {vals vals' : List SV} {x : Str} {a : Addr} {l : List SV} {H H' : AHeap} (hx : (x, SV.ref a) ∈ c.ns.zip vals) (ht : Take H (a, .list l) H') (hlo : c.lo ≤ a)
    (pt : Put c.ns vals x (.lst l) vals') (h : EvS c t ⟨vals', H'⟩ F) : EvS c t ⟨vals, H⟩ F := fun g s R => by
  obtain ⟨g₁, gx, R₁, rv⟩ := R.freeze (σ := ⟨vals, H⟩) ht hlo
  have R₂ : Rel c g₁ ⟨vals', H'⟩ s := {
    ok := R₁.ok, sh := R₁.sh, pr := R₁.pr, gh := R₁.gh, nodup := R₁.nodup, fpG := R₁.fpG, fpP := R₁.fpP, fpL := R₁.fpL, fpLo := R₁.fpLo, fpC := R₁.fpC, objs := R₁.objs, gL := R₁.gL, gC := R₁.gC
    fr := by
      obtain ⟨m, cm, n, cl, vs⟩ := R₁.fr
      refine ⟨m, cm, n, cl, fun p hpm => ?_⟩
      rcases pt.of R₁.ok.nd p hpm with e | ⟨h1, _⟩
      · subst e
        rcases vs _ hx with e | ⟨v, hv, r⟩
        · cases e
        · have r' : v = .ref a := r
          subst r'
          exact .inr ⟨_, hv, rv⟩
      · exact vs p h1 }
  exact liftS gx h R₂
theorem E_num {p1 p2 pos : Pos} {e : Expr} {q : Addr} {arrows : List Int} {t : Int} (hgl : ((Str.ofString "_law_number"), Value.ref 414) ∈ c.gl) (hlv : 1 ≤ c.lv) (hq : ((Str.ofString "quiver"), SV.ref q) ∈ c.ns.zip σ.vals)
    (ha : arrows.length ≤ 60) (ht : 0 ≤ t ∧ t < 10000)
    (h : EE c e σ fun v σ₁ => ∃ limit R, v = .int limit ∧ 0 < limit ∧ Take σ₁.heap (q, quiv arrows t) R ∧ ∀ x, 0 ≤ x → x < limit → Q (.int x) ⟨σ₁.vals, (q, quiv arrows (t + 1)) :: R⟩)
    (hpl : (backTo pos (starEach [.Name (Str.ofString "quiver") p2, e] c.env)).any (·.1) = false := by rfl)
    (he : starEach [e] c.env = (false, eval e c.env) :: starEach [] c.env := by rfl) : EE c (.Call (.Name (Str.ofString "_law_number") p1) [.Name (Str.ofString "quiver") p2, e] [] pos) σ Q := by
  refine E_callF (a := 414) (fd := fd414) hgl (fun w => ⟨_, _, _, (ok414 w).obj.choose_spec.choose_spec.choose_spec⟩) (A_cons (E_name hq nofun (A_cons (EvV.mono h fun v σ₁ ⟨limit, R, e1, hl, tk, q⟩ => ?_) he))) hpl
  subst e1
  refine A_nil ?_
  refine call_spec (sp414 c.w _ arrows t limit ha ht hl) hlv (.cons tk .nil) ?_
  rintro sv H' ⟨⟨x, rfl, h0, h1⟩, rfl⟩
  exact q x h0 h1
end
noncomputable abbrev ns448 : List Str := ["script", "quiver", "many", "letters", "moves", "start", "mask", "ends", "store", "firsts", "spot", "kept", "turn", "letter", "machine", "ahead", "behind", "reached", "alive", "was", "at", "reasons", "x", "sign", "other", "lots"]
noncomputable abbrev gl448 : List (Str × Value) := [("list", .type "list"), ("_law_number", .ref 414), ("range", .type "range"), ("Store", .ref 258), ("from_values", .ref 35), ("len", .builtin "len"), ("Regular", .ref 405), ("_law_ahead", .ref 426), ("_law_behind", .ref 431), ("set", .type "set"), ("_law_words", .ref 436)]
noncomputable abbrev c448 (w : World) (A : Around) (s : Shared) (hb : Heap) : Cx := frameCx fd448 448 ns448 gl448 w A s hb [] 6
noncomputable abbrev B448 : List Stmt := match fd448.body with | .stmts b => b | _ => []
noncomputable abbrev Post448 : Fl → St → Prop := fun fl σ => (∃ v, fl = .ret v ∧ v = .bool true) ∨ (fl = .next ∧ SV.none = .bool true)
theorem shp_ints {ns : List Int} : Shp 1 (iL ns) := shp_lst fun x hx => by
  obtain ⟨i, _, rfl⟩ := List.mem_map.mp hx
  exact shp_int
theorem shp_rows {rows : List (List Int)} : Shp 2 (rowsV rows) := shp_lst fun x hx => by
  obtain ⟨i, _, rfl⟩ := List.mem_map.mp hx
  exact shp_ints
theorem shp_lay {m : Nat} {lys : List (List Int)} : Shp 2 (layV m lys) := shp_lst fun x hx => by
  obtain ⟨ly, _, rfl⟩ := List.mem_map.mp hx
  refine shp_lst fun y hy => ?_
  obtain ⟨i, _, rfl⟩ := List.mem_map.mp hy
  exact shp_bool
mutual
theorem eqv_refl : ∀ d : SV, (toD d).canLay0 = true → PyData.eqv (toD d) (toD d) = true
  | .none, _ => by simp [toD, PyData.eqv]
  | .bool _, _ => by simp [toD, PyData.eqv]
  | .int _, _ => by simp [toD, PyData.eqv]
  | .str _, _ => by simp [toD, PyData.eqv]
  | .tup l, h => by
    have h' : PyData.canLayAll0 (toDs l) = true := by simpa [toD, PyData.canLay0] using h
    simp only [toD, PyData.eqv]; exact eqv_refls l h'
  | .lst l, h => by
    have h' : PyData.canLayAll0 (toDs l) = true := by simpa [toD, PyData.canLay0] using h
    simp only [toD, PyData.eqv]; exact eqv_refls l h'
  | .rng .., h => by simp [toD, PyData.eqv, PyData.canLay0] at h
  | .ref _, h => by simp [toD, PyData.eqv, PyData.canLay0] at h
  | .val _, h => by simp [toD, PyData.eqv, PyData.canLay0] at h
  | .junk, h => by simp [toD, PyData.eqv, PyData.canLay0] at h
  | .obj _, h => by simp [toD, PyData.eqv, PyData.canLay0] at h
theorem eqv_refls : ∀ l : List SV, PyData.canLayAll0 (toDs l) = true → PyData.eqvAll (toDs l) (toDs l) = true
  | [], _ => by simp [toDs, PyData.eqvAll]
  | x :: l, h => by
    have h' : (toD x).canLay0 = true ∧ PyData.canLayAll0 (toDs l) = true := by simpa [toDs, PyData.canLayAll0] using h
    simp only [toDs, PyData.eqvAll, eqv_refl x h'.1, eqv_refls l h'.2, Bool.and_self]
end
theorem eqv_trip {p q : Int × Int} : PyData.eqv (toD (tripV p)) (toD (tripV q)) = decide (p = q) := by
  have e : PyData.eqv (toD (tripV p)) (toD (tripV q)) = (decide (p.1 = q.1) && decide (p.2 = q.2)) := by
    simp only [toD, toDs, PyData.eqv, PyData.eqvAll, beq_self_eq_true, Bool.and_true, Bool.true_and]
    rfl
  rw [e]
  by_cases h : p = q
  · subst h; simp
  · rw [decide_eq_false h]
    by_cases h1 : p.1 = q.1
    · have h2 : p.2 ≠ q.2 := fun e => h (Prod.ext h1 e)
      simp [h2]
    · simp [h1]
theorem shp_trip {p : Int × Int} : Shp 1 (tripV p) := shp_tup fun x hx => by
  simp only [List.mem_cons, List.not_mem_nil, or_false] at hx
  rcases hx with rfl | rfl | rfl
  · exact shp_int
  · exact shp_str (by kernel_rfl)
  · exact shp_int
theorem any_trips (rs : List (Int × Int)) (p : Int × Int) : (toDs (rs.map tripV)).any (fun y => PyData.eqv y (toD (tripV p))) = decide (p ∈ rs) := by
  induction rs with
  | nil => simp [toDs]
  | cons r rs ih =>
    rw [List.map_cons, toDs, List.any_cons, ih, eqv_trip]
    by_cases h : p = r
    · subst h; simp
    · have h' : ¬ r = p := fun e => h e.symm
      simp [h, h']
theorem O_nin_trips {c : Cx} {σ : St} {Q : SV → St → Prop} {p : Int × Int} {rs : List (Int × Int)} (q : Q (.bool (!decide (p ∈ rs))) σ) : O2 c (compareOp .NotIn) (tripV p) (.tup (rs.map tripV)) σ Q :=
  O_nin_tup (shp_trip.shaped (by decide)) (shp_tup (n := 1) fun x hx => by
    obtain ⟨i, _, rfl⟩ := List.mem_map.mp hx
    exact shp_trip).1 (by rw [any_trips]; exact q)
noncomputable def bit1 (M : Int) (k : Nat) : Bool := (M.fdiv (2 ^ k)).fmod 2 == 1
noncomputable def bitsL (M : Int) (j : Nat) : List Int := ((List.range j).filter (bit1 M)).map fun k : Nat => (k : Int) + 1
theorem bitsL_succ {M : Int} {j : Nat} : bitsL M (j + 1) = bitsL M j ++ (if bit1 M j = true then [(j : Int) + 1] else []) := by
  unfold bitsL
  rw [List.range_succ, List.filter_append, List.map_append, List.filter_cons, List.filter_nil]
  split <;> rfl
theorem bitsL_in {M : Int} {j : Nat} : ∀ x ∈ bitsL M j, 1 ≤ x ∧ x ≤ j := fun x hx => by
  obtain ⟨k, hk, rfl⟩ := List.mem_map.mp hx
  have := List.mem_range.mp (List.mem_filter.mp hk).1
  exact om245 this
theorem bitsL_len {M : Int} {j : Nat} : (bitsL M j).length ≤ j := by
  unfold bitsL
  rw [List.length_map]
  have : ((List.range j).filter (bit1 M)).length ≤ (List.range j).length := List.length_filter_le _ _
  rw [List.length_range] at this; exact this
theorem bitsL_lt {M : Int} {j : Nat} : (bitsL M j).Pairwise (· < ·) := by
  unfold bitsL
  refine List.Pairwise.map _ (fun a b h => ?_) (List.Pairwise.filter _ List.pairwise_lt_range)
  show (a : Int) + 1 < (b : Int) + 1
  exact om278 h
theorem bitsL_sub {M : Int} {n : Nat} (hn : n = 2 ∨ n = 3) (h1 : 1 ≤ M) (h2 : M ≤ 2 ^ n - 1) : bitsL M n ∈ subs3 := by
  rcases hn with rfl | rfl
  · have : M = 1 ∨ M = 2 ∨ M = 3 := by exact om279 h1 h2
    rcases this with rfl | rfl | rfl <;> decide
  · have : M = 1 ∨ M = 2 ∨ M = 3 ∨ M = 4 ∨ M = 5 ∨ M = 6 ∨ M = 7 := by exact om280 h1 h2
    rcases this with rfl | rfl | rfl | rfl | rfl | rfl | rfl <;> decide
theorem pow48 {n : Nat} (hn : n = 2 ∨ n = 3) : (2 : Int) ^ ((n : Int)).toNat = 4 ∨ (2 : Int) ^ ((n : Int)).toNat = 8 := by rcases hn with rfl | rfl <;> decide
theorem pow_small {k : Nat} (h : k < 3) : ((2 : Int) ^ k) ≠ 0 ∧ ((2 : Int) ^ k).natAbs < 1073741824 := by
  have : k = 0 ∨ k = 1 ∨ k = 2 := by exact om281 h
  rcases this with rfl | rfl | rfl <;> decide
section
variable {c : Cx} {iter : Expr} {scope scope2 : Scope} {H : AHeap} {Q : List SV → AHeap → Prop} {p1 p2 p3 p4 p5 p6 p7 p8 p9 p10 p11 p12 p13 p14 p15 p16 p17 : Pos} {k1 k2 k3 k4 : Nat}
theorem run_bits {M : Int} {j : Nat} (hj : j ≤ 3) (q : Q ((bitsL M j).map .int) H) :
    CompRun c (.BinOp (.Name (Str.ofString "k") p1) .Add (.Constant (.int 1) k1 p2) p3) (.Name (Str.ofString "k") p4) iter
      [.Compare (.BinOp (.BinOp (.Name (Str.ofString "mask") p5) .FloorDiv (.BinOp (.Constant (.int 2) k2 p6) .Pow (.Name (Str.ofString "k") p7) p8) p9) .Mod (.Constant (.int 2) k3 p10) p11) [.Eq] [.Constant (.int 1) k4 p12] p13] [] scope p14 ["k"] ["mask"] [] [.int M] H ((rngL 0 1 j).map .int) Q := by
  refine run_one (fun pre acc H' => pre.length ≤ j ∧ acc = (bitsL M pre.length).map .int ∧ H' = H) ⟨Nat.zero_le _, rfl, rfl⟩ ?_ ?_ ?_
  · rintro pre acc H ⟨h1, rfl, rfl⟩
    have := bitsL_len (M := M) (j := pre.length)
    rw [List.length_map, sizeLine_eq]; exact om282 hj h1 this
  · rintro C2 P2 pre2 y2 post2 acc2 H2 hx2 ⟨_, rfl, rfl⟩
    obtain ⟨hi, rfl⟩ := rng_at hx2
    obtain ⟨i, hii⟩ : ∃ i, pre2.length = i := ⟨_, rfl⟩
    rw [hii] at hi ⊢
    rw [show (0 : Int) + (i : Int) * 1 = (i : Int) by exact om283]
    have hps := pow_small (k := i) (by exact om284 hj hi)
    refine AT_name .here (by repeat (first | exact List.mem_cons_self | apply List.mem_cons_of_mem)) ?_
    refine TT_one (T_cmp ?_)
    refine E_bin ?_; refine E_bin ?_; refine E_name (get_at 1 rfl rfl) nofun ?_; refine E_bin ?_; refine E_int ?_; refine E_name (get_at 0 rfl rfl) nofun ?_
    refine O_pow (a := 2) (n := (i : Int)) (by exact om285) (by exact om286 hj hi) (by decide) ?_
    rw [Int.toNat_natCast]
    refine O_divi hps.1 hps.2 ?_
    refine E_int ?_
    refine O_modi (by decide) ?_
    refine E_int ?_; refine O_eqi ?_
    refine ⟨_, rfl, fun h => ?_, fun h => ?_⟩
    · have hh : bit1 M i = true := h
      refine E_bin ?_; refine E_name (get_at 0 rfl rfl) nofun ?_; refine E_int ?_; refine O_add ?_
      refine ⟨⟨[_], rfl, rfl⟩, by rw [List.length_append, List.length_singleton]; exact om287 hi hii, ?_, rfl⟩
      rw [List.length_append, List.length_singleton, hii, bitsL_succ, if_pos hh, List.map_append]; rfl
    · have hh : bit1 M i = false := h
      refine ⟨⟨[_], rfl, rfl⟩, by rw [List.length_append, List.length_singleton]; exact om287 hi hii, ?_, rfl⟩
      rw [List.length_append, List.length_singleton, hii, bitsL_succ, if_neg (by rw [hh]; decide), List.append_nil]
  · rintro acc H ⟨_, rfl, rfl⟩
    rw [List.length_map, rngL_len]
    exact q
theorem run_lay {m : Nat} (hm : m ≤ 3) {lys : List (List Int)} (hl : lys.length ≤ 5) (w : World) (ci : ∀ C P, CompIn (compCx c scope ["layer"] ["many"] [("range", .type "range")] C P) scope2 ["state"] ["layer"] []) (q : Q (lys.map fun ly => SV.lst (boolRow m ly)) H) :
    CompRun c (.ListComp (.Compare (.Name (Str.ofString "state") p1) [.In] [.Name (Str.ofString "layer") p2] p3) [⟨.Name (Str.ofString "state") p4, .Call (.Name (Str.ofString "range") p5) [.BinOp (.Name (Str.ofString "many") p6) .Add (.Constant (.int 1) k1 p7) p8] [] p9, [], 0⟩] scope2 p10)
      (.Name (Str.ofString "layer") p11) iter [] [] scope p12 ["layer"] ["many"] [("range", .type "range")] [.int m] H (lys.map iL) Q := by
  refine run_map (fun ls : List (List Int) => ls.map fun ly => SV.lst (boolRow m ly)) rfl (fun ls qs e => ?_) (fun C P ls ly qs e => ?_) q
  · have := congrArg List.length e
    rw [List.length_append] at this
    rw [List.length_map, sizeLine_eq]; exact om288 hl this
  · refine AT_name .here (by repeat (first | exact List.mem_cons_self | apply List.mem_cons_of_mem)) ?_
    refine TT_nil ⟨fun _ => ?_, fun h => (nomatch h)⟩
    refine E_lc ["state"] ["layer"] [] (ci C P) ?_
    refine E_callT (by repeat (first | exact List.mem_cons_self | apply List.mem_cons_of_mem)) (A_cons ?_)
    refine E_bin ?_; refine E_name (get_at 1 rfl rfl) nofun ?_; refine E_int ?_; refine O_add ?_; refine A_nil ?_
    refine C_range1 ?_
    refine ⟨_, [iL ly], it_up (a := 0) (b := (m : Int) + 1) (n := m + 1) ⟨_, _, rfl⟩ (by exact om289) (by exact om185 hm) (by exact om290), .cons (by exact get_at 0 rfl rfl) .nil, ?_⟩
    refine run_map (fun ls : List Int => ls.map fun s => SV.bool (decide (s ∈ ly))) rfl (fun ls qs e => ?_) (fun C2 P2 ls x qs e => ?_) ?_
    · have := congrArg List.length e
      rw [List.length_append, rngL_len] at this
      rw [List.length_map, sizeLine_eq]; exact om291 hm this
    · refine AT_name .here (by repeat (first | exact List.mem_cons_self | apply List.mem_cons_of_mem)) ?_
      refine TT_nil ⟨fun _ => ?_, fun h => (nomatch h)⟩
      refine E_cmp ?_; refine E_name (get_at 0 rfl rfl) nofun ?_; refine E_name (get_at 1 rfl rfl) nofun ?_
      refine O_in_ints ?_
      exact ⟨⟨[_], rfl, rfl⟩, by rw [List.map_append]; rfl, rfl⟩
    · exact ⟨⟨[_], rfl, rfl⟩, by rw [List.map_append]; rfl, rfl⟩
end
end
section
structure Facts (rows : List (List Int)) (m n L : Nat) (start : Int) (ends : List Int) (kept F : List (List Int)) : Prop where
  T : Tab rows m n
  hk : kept.length = L
  hF : F.length = L
  hL : L ≤ 4
  hs : 1 ≤ start ∧ start ≤ m
  he : ∀ q ∈ ends, 1 ≤ q ∧ q ≤ m
  hel : ends.length ≤ 3
  hes : ends.Pairwise (· ≤ ·)
  sub : ∀ f ∈ F, f ∈ subs3 ∧ ∀ l ∈ f, l ≤ n
  kin : ∀ k ∈ kept, k.length ≤ 3 ∧ ∀ l ∈ k, 1 ≤ l ∧ l ≤ n
section
variable {rows : List (List Int)} {m n L : Nat} {start : Int} {ends : List Int} {kept F : List (List Int)}
theorem Facts.ahead_in (E0 : Facts rows m n L start ends kept F) : ∀ k, k ≤ L → ∀ s ∈ (aheadL rows start kept).getD k [], 0 ≤ s ∧ s ≤ m
  | 0, _, s, hs => by
    rw [(ahead_get rows start kept).1, List.mem_singleton] at hs
    have := E0.hs; exact om292 hs this
  | k + 1, hk, s, hs => by
    rw [(ahead_get rows start kept).2 k (by rw [E0.hk]; exact om269 hk), mem_fwdL] at hs
    obtain ⟨_, s', _, l, _, rfl⟩ := hs
    exact gone_range E0.T _ _
theorem Facts.ahead_small (E0 : Facts rows m n L start ends kept F) : ∀ k, k ≤ L → ((aheadL rows start kept).getD k []).length ≤ 4
  | 0, _ => by rw [(ahead_get rows start kept).1]; exact Nat.le_of_ble_eq_true rfl
  | k + 1, hk => by
    rw [(ahead_get rows start kept).2 k (by rw [E0.hk]; exact om269 hk)]
    refine Nat.le_trans (List.length_filter_le _ _) (insAll_len fun y hy => ?_)
    obtain ⟨s, _, hy⟩ := List.mem_flatMap.mp hy
    obtain ⟨l, _, rfl⟩ := List.mem_map.mp hy
    have := gone_range E0.T s l
    have := E0.T.m3
    exact small4 (by omega) (by omega)
noncomputable def wayL (rows : List (List Int)) (al1 : List Int) (a : Int) (ls : List Int) : List Int := (ls.filter fun s => decide (gone rows s a ∈ al1)).map fun _ => (1 : Int)
noncomputable def lotOf (F : List (List Int)) (rs : List (Int × Int)) (k : Int) : List Int := (F.getD k.toNat []).filter fun l => !decide ((k, l) ∈ rs)
noncomputable def lots0 (F : List (List Int)) (rs : List (Int × Int)) (L : Nat) : List (List Int) := (rngL 0 1 L).map fun k => lotOf F rs k
structure Told (rows : List (List Int)) (m n L : Nat) (start : Int) (ends : List Int) (kept F : List (List Int)) (sp : Nat) (a : Int) (rs : List (Int × Int)) : Prop where
  nd : rs.Nodup
  len : rs.length ≤ 12
  good : ∀ p ∈ rs, (0 ≤ p.1 ∧ p.1 < L) ∧ p.1 ≠ sp ∧ p.2 ∉ kept.getD p.1.toNat [] ∧ p.2 ∈ F.getD p.1.toNat []
  all : ∀ k : Nat, k < L → ∀ l, 1 ≤ l ∧ l ≤ 3 → l ∈ F.getD k [] → ((k : Int), l) ∉ rs → ((k : Int), l) ∉ whyNote rows m n L (aliveL rows m ends kept) (aheadL rows start kept) sp a
theorem Facts.told (E0 : Facts rows m n L start ends kept F) {sp : Nat} {a : Int} (K : Ask rows m n L start ends kept sp a) {out : List (Int × Int)} (ho : out.Perm (whyNote rows m n L (aliveL rows m ends kept) (aheadL rows start kept) sp a)) :
    Told rows m n L start ends kept F sp a (out.filter (hadB F)) := by
  obtain ⟨_, g2, hlt⟩ := whyNote_facts E0.T (al := aliveL rows m ends kept) (re := aheadL rows start kept) (sp := sp) (a := a) E0.hL K.hsp
  have hFs : ∀ f ∈ F, f ∈ subs3 := fun f hf => (E0.sub f hf).1
  have hlen : (out.filter (hadB F)).length ≤ out.length := List.length_filter_le _ _
  refine ⟨(ho.nodup_iff.mpr g2.nd).filter _, by have := ho.length_eq; have := g2.len; omega, fun p hp => ?_, fun k hk l hl hlF hn hin => ?_⟩
  · obtain ⟨h1, h2⟩ := List.mem_filter.mp hp
    have h1' := ho.mem_iff.mp h1
    obtain ⟨h3, h4⟩ := Mine.told K h1'
    have h5 := (g2.inn p h1').1
    have h6 := hlt p h1'
    refine ⟨⟨h5.1, h6⟩, h3, h4, ?_⟩
    have e : p = (((p.1.toNat : Nat) : Int), p.2) := Prod.ext (by show p.1 = _; omega) rfl
    rw [e] at h2
    have := (g2.inn p h1').2
    exact (hadB_iff hFs (by rw [E0.hF]; exact om213 h5 h6) this).mp h2
  · exact hn (List.mem_filter.mpr ⟨ho.mem_iff.mpr hin, (hadB_iff hFs (by rw [E0.hF]; exact om236 hk) hl).mpr hlF⟩)
theorem lots0_len {rs : List (Int × Int)} : (lots0 F rs L).length = L := by unfold lots0; rw [List.length_map, rngL_len]
theorem lots0_at {rs : List (Int × Int)} {k : Nat} (h : k < L) : (lots0 F rs L).getD k [] = lotOf F rs k := by
  unfold lots0 rngL
  simp [List.getD, h]
theorem Facts.fin (E0 : Facts rows m n L start ends kept F) {k : Nat} (h : k < L) : F.getD k [] ∈ F := by
  have : k < F.length := by rw [E0.hF]; exact h
  simp [List.getD, this]
theorem Facts.lot_ok (E0 : Facts rows m n L start ends kept F) {rs : List (Int × Int)} {k : Nat} (h : k < L) : (lotOf F rs k).length ≤ 3 ∧ ∀ l ∈ lotOf F rs k, (1 ≤ l ∧ l ≤ 3) ∧ l ≤ n ∧ l ∈ F.getD k [] ∧ ((k : Int), l) ∉ rs := by
  have h1 := E0.sub _ (E0.fin h)
  have h2 := (subs_in _ h1.1).1
  refine ⟨Nat.le_trans (List.length_filter_le _ _) h2.1, fun l hl => ?_⟩
  obtain ⟨h3, h4⟩ := List.mem_filter.mp hl
  rw [show ((k : Int)).toNat = k from Int.toNat_natCast k] at h3
  exact ⟨h2.2.2.2 l h3, h1.2 l h3, h3, by simpa using h4⟩
theorem Facts.lots_ok (E0 : Facts rows m n L start ends kept F) {rs : List (Int × Int)} {sp : Nat} {a : Int} : ((lots0 F rs L).set sp [a]).length ≤ 4 ∧ ∀ lot ∈ (lots0 F rs L).set sp [a], lot.length ≤ 3 := by
  refine ⟨by rw [List.length_set, lots0_len]; exact E0.hL, fun lot hl => ?_⟩
  rcases List.mem_or_eq_of_mem_set hl with h | h
  · obtain ⟨k, hk, e⟩ := List.mem_map.mp h
    obtain ⟨i, hi, e2⟩ := mem_rngL.mp hk
    have : k = (i : Int) := by exact om293 e2
    rw [← e, this]
    exact (E0.lot_ok (rs := rs) hi).1
  · rw [h]; exact Nat.le_of_ble_eq_true rfl
theorem Facts.word (E0 : Facts rows m n L start ends kept F) {sp : Nat} {a : Int} (K : Ask rows m n L start ends kept sp a) {rs : List (Int × Int)} (t : Told rows m n L start ends kept F sp a rs) {w : List Int} (hw : w ∈ wordsL ((lots0 F rs L).set sp [a])) :
    (∀ l ∈ w, 1 ≤ l ∧ l ≤ n) ∧ goes rows start w ∉ ends := by
  obtain ⟨h1, h2⟩ := mem_words _ hw
  rw [List.length_set, lots0_len] at h1 h2
  have hsp := K.hsp
  have at1 : w.getD sp 0 = a := by
    have := h2 sp hsp
    have e : ((lots0 F rs L).set sp [a]).getD sp [] = [a] := by simp [List.getD, lots0_len, hsp]
    rw [e] at this
    exact List.mem_singleton.mp this
  have at2 : ∀ k, k < L → k ≠ sp → w.getD k 0 ∈ lotOf F rs k := fun k hk hne => by
    have := h2 k hk
    have e : ((lots0 F rs L).set sp [a]).getD k [] = (lots0 F rs L).getD k [] := by
      simp only [List.getD]
      rw [List.getElem?_set_ne (fun e => hne e.symm)]
    rw [e, lots0_at hk] at this
    exact this
  have rng : ∀ k, k < L → 1 ≤ w.getD k 0 ∧ w.getD k 0 ≤ n := fun k hk => by
    by_cases e : k = sp
    · subst e; rw [at1]; exact K.ha
    · have := (E0.lot_ok (rs := rs) hk).2 _ (at2 k hk e)
      exact ⟨this.1.1, this.2.1⟩
  refine ⟨fun l hl => ?_, no_word K h1 rng at1 fun k hk hne => ?_⟩
  · obtain ⟨i, hi, e⟩ := List.mem_iff_getElem.mp hl
    have := rng i (by exact om54 h1 hi)
    have e2 : w.getD i 0 = l := by simp [List.getD, hi, e]
    rw [e2] at this; exact this
  · have := (E0.lot_ok (rs := rs) hk).2 _ (at2 k hk hne)
    exact t.all k hk _ this.1 this.2.2.1 this.2.2.2
end
noncomputable def vE (scr : SV) (q : Addr) (m n : Nat) (rows : List (List Int)) (start : Int) (mk0 : SV) (ends : List Int) (x : Addr) (F kept : List (List Int)) (M : Addr) (tl : Nat) (v10 v12 v13 v21 v22 v23 v24 v25 : SV) : List SV := [scr, .ref q, .int m, .int n, rowsV rows, .int start, mk0, iL ends, .ref x, rowsV F, v10, rowsV kept, v12, v13, .ref M, rowsV (aheadL rows start kept), rowsV (aliveL rows m ends kept), layV m (aheadL rows start kept), layV m (aliveL rows m ends kept), .tup [layV m (aheadL rows start kept), layV m (aliveL rows m ends kept), rowsV kept], .int tl, v21, v22, v23, v24, v25]
noncomputable def hE (x d dm fs tr mk nw : Addr) (doms : List SV) (F : List (List Int)) (trail : List SV) (ks : List Int) (M dM : Addr) (L m n : Nat) (rows : List (List Int)) (start : Int) (ends : List Int) (tw : Bool) : AHeap := storeH x d dm fs tr mk nw doms (firstsV F) trail ks ++ [machA M dM L m n rows start ends tw]
section
variable {x d dm fs tr mk nw : Addr} {doms : List SV} {F : List (List Int)} {trail : List SV} {ks : List Int} {M dM : Addr} {L m n : Nat} {rows : List (List Int)} {start : Int} {ends : List Int} {tw : Bool}
theorem hE_mach : (M, AObj.inst 405 dM (machF (rngL 0 1 L) m n rows start ends tw)) ∈ hE x d dm fs tr mk nw doms F trail ks M dM L m n rows start ends tw := by repeat (first | exact List.mem_cons_self | apply List.mem_cons_of_mem)
theorem hE_store : (x, AObj.inst 258 d (storeF dm fs tr mk nw)) ∈ hE x d dm fs tr mk nw doms F trail ks M dM L m n rows start ends tw := by repeat (first | exact List.mem_cons_self | apply List.mem_cons_of_mem)
theorem hE_trail : (tr, AObj.list trail) ∈ hE x d dm fs tr mk nw doms F trail ks M dM L m n rows start ends tw := by repeat (first | exact List.mem_cons_self | apply List.mem_cons_of_mem)
theorem Split.all (H : AHeap) : Split H H [] := by have := Split.front H []; rwa [List.append_nil] at this
end
noncomputable def setN {α : Type} (l : List α) (i : Nat) (v : α) : List α := @List.rec α (fun _ => Nat → List α) (fun _ => []) (fun a l ih i => @Nat.rec (fun _ => List α) (v :: l) (fun j _ => a :: ih j) i) l i
theorem put_at {x : Str} {v u : SV} {vals' : List SV} : ∀ {ns : List Str} {vs : List SV} (i : Nat), nth ns i = some x → nth vs i = some u → setN vs i v = vals' → Put ns vs x v vals'
  | [], _, _, h, _, _ => nomatch h
  | _ :: _, [], _, _, h, _ => nomatch h
  | y :: ns, u :: vs, 0, h1, _, h3 => by
    have e1 : y = x := Option.some.inj h1
    subst e1; subst h3; exact .here
  | y :: ns, w :: vs, i + 1, h1, h2, h3 => by
    subst h3
    exact .next (put_at (ns := ns) (vs := vs) i h1 h2 rfl)
noncomputable abbrev BE1 : List Stmt := inside (B448.drop 14)
noncomputable abbrev BE2 : List Stmt := inside BE1
set_option maxHeartbeats 16000000 in
theorem phE2 (w : World) (A : Around) (s : Shared) (hb : Heap) {rows : List (List Int)} {m n L : Nat} {start : Int} {ends : List Int} {kept F : List (List Int)} (E0 : Facts rows m n L start ends kept F) (P P2 : PM) {sp : Nat} {a : Int} (K : Ask rows m n L start ends kept sp a)
    (M dM x : Addr) (tl : Nat) (tw : Bool) (HE : AHeap) (hmach : (M, AObj.inst 405 dM (machF (rngL 0 1 L) m n rows start ends tw)) ∈ HE)
    (s374 : Spec w 4 (.ref 374) [.ref M, .ref x, rowsV kept, layV m (aheadL rows start kept), layV m (aliveL rows m ends kept), .int sp, .int a] HE fun v H => (∃ out : List (Int × Int), out.Perm (whyNote rows m n L (aliveL rows m ends kept) (aheadL rows start kept) sp a) ∧ v = .tup ((out.filter (hadB F)).map tripV)) ∧ H = HE)
    (scr mk0 : SV) (q : Addr) (v12 v21 v22 v23 v24 v25 : SV) (F0 : Fl → St → Prop) (fin : ∀ v21 v22 v23 v24 v25, F0 .next ⟨(vE scr q m n rows start mk0 ends x F kept M tl (.int sp) v12 (.int a) v21 v22 v23 v24 v25), HE⟩) :
    SB (((c448 w A s hb).pin P).pin P2) (BE2.drop 1) ⟨(vE scr q m n rows start mk0 ends x F kept M tl (.int sp) v12 (.int a) v21 v22 v23 v24 v25), HE⟩ F0 := by
  have T := E0.T; have hm := T.m3; have hn := T.n3; have hL := E0.hL; have hk := E0.hk; have hF := E0.hF; have hsp := K.hsp; have ha := K.ha
  have hlaA : (aheadL rows start kept).length = L + 1 := by rw [aheadL_len, hk]
  have hlaB : (aliveL rows m ends kept).length = L + 1 := by rw [aliveL_len, hk]
  refine S_cons ?_
  refine S_asgn (by repeat (first | exact List.mem_cons_self | apply List.mem_cons_of_mem)) ?_
  refine E_methF 374 fd374 (fun w => ⟨_, _, _, (ok374 w).obj.choose_spec.choose_spec.choose_spec⟩) ?_
  refine E_name (get_at 14 rfl rfl) nofun ?_
  refine ⟨GM_own (C := 405) (a := M) (d := dM) (fs := machF (rngL 0 1 L) m n rows start ends tw) hmach ic405 (fun w => by kernel_rfl) (fun w => by kernel_rfl) (machF_not (by decide +kernel)), ?_⟩
  refine A_cons ?_; refine E_name (get_at 8 rfl rfl) nofun ?_; refine A_cons ?_; refine E_name (get_at 11 rfl rfl) nofun ?_; refine A_cons ?_; refine E_name (get_at 17 rfl rfl) nofun ?_; refine A_cons ?_; refine E_name (get_at 18 rfl rfl) nofun ?_; refine A_cons ?_; refine E_name (get_at 10 rfl rfl) nofun ?_; refine A_cons ?_; refine E_name (get_at 13 rfl rfl) nofun ?_; refine A_nil ?_
  refine call_spec s374 (Nat.le_of_ble_eq_true rfl) (Split.all _) ?_
  rintro sv H' ⟨⟨out, ho, rfl⟩, eH⟩
  try dsimp only
  subst H'
  have t := E0.told K ho
  obtain ⟨rs, hrs⟩ : ∃ rs, out.filter (hadB F) = rs := ⟨_, rfl⟩
  rw [hrs] at t ⊢
  rw [List.append_nil]
  refine ⟨(vE scr q m n rows start mk0 ends x F kept M tl (.int sp) v12 (.int a) (.tup (rs.map tripV)) v22 v23 v24 v25), put_at 21 rfl rfl rfl, ?_⟩
  try dsimp only
  show SB _ _ ⟨(vE scr q m n rows start mk0 ends x F kept M tl (.int sp) v12 (.int a) (.tup (rs.map tripV)) v22 v23 v24 v25), HE⟩ _
  refine S_cons (S_for ?_)
  refine E_name (get_at 21 rfl rfl) nofun ?_
  refine ⟨_, .tup _, fun pre σ => ∃ u : SV × SV × SV, σ = ⟨(vE scr q m n rows start mk0 ends x F kept M tl (.int sp) v12 (.int a) (.tup (rs.map tripV)) u.1 u.2.1 u.2.2 v25), HE⟩, ⟨(v22, v23, v24), rfl⟩, ?_, ?_⟩
  · rintro P3 pre y post σ₂ hx ⟨u, rfl⟩
    obtain ⟨ls, p, qs, hq, h1, rfl⟩ := split_map hx
    obtain ⟨g1, g2, g3, g4⟩ := t.good p (by rw [hq]; simp)
    refine AT_tup3 (.cons (vals₁ := (vE scr q m n rows start mk0 ends x F kept M tl (.int sp) v12 (.int a) (.tup (rs.map tripV)) (.int p.1) u.2.1 u.2.2 v25)) (put_at 22 rfl rfl rfl) (by repeat (first | exact List.mem_cons_self | apply List.mem_cons_of_mem)) (.cons (vals₁ := (vE scr q m n rows start mk0 ends x F kept M tl (.int sp) v12 (.int a) (.tup (rs.map tripV)) (.int p.1) (.str "!=") u.2.2 v25)) (put_at 23 rfl rfl rfl) (by repeat (first | exact List.mem_cons_self | apply List.mem_cons_of_mem)) (.cons (vals₁ := (vE scr q m n rows start mk0 ends x F kept M tl (.int sp) v12 (.int a) (.tup (rs.map tripV)) (.int p.1) (.str "!=") (.int p.2) v25)) (put_at 24 rfl rfl rfl) (by repeat (first | exact List.mem_cons_self | apply List.mem_cons_of_mem)) .nil))) ?_
    try dsimp only
    refine EvS.abs (fun F0 => F0 .next ⟨(vE scr q m n rows start mk0 ends x F kept M tl (.int sp) v12 (.int a) (.tup (rs.map tripV)) (.int p.1) (.str "!=") (.int p.2) v25), HE⟩) ⟨(_, _, _), rfl⟩ fun F0 fin => ?_
    refine S_cons (S_if ?_)
    refine T_or (T_or_cons (T_cmp ?_))
    refine E_name (get_at 23 rfl rfl) nofun ?_; refine E_str ?_
    refine O_ned (by kernel_rfl) (by kernel_rfl) ?_
    refine ⟨_, rfl, fun h => ?_, fun _ => ?_⟩
    · exact absurd h (by rw [eqv_refl (.str "!=") (by kernel_rfl)]; decide)
    refine T_or_cons (T_cmp ?_)
    refine E_name (get_at 22 rfl rfl) nofun ?_; refine E_name (get_at 10 rfl rfl) nofun ?_; refine O_eqi ?_
    refine ⟨_, rfl, fun h => ?_, fun _ => ?_⟩
    · exact absurd (by simpa using h) g2
    refine T_or_cons (T_cmp ?_)
    refine E_name (get_at 24 rfl rfl) nofun ?_; refine E_sub ?_; refine E_name (get_at 11 rfl rfl) nofun ?_; refine E_name (get_at 22 rfl rfl) nofun ?_
    refine O_lat (x := iL (kept.getD p.1.toNat [])) g1.1 (by rw [List.getElem?_map, List.getElem?_eq_getElem (by exact om294 hk g1)]; simp [List.getD, show p.1.toNat < kept.length by exact om294 hk g1]) (by rw [List.length_map]; exact om295 hL hk) ?_
    refine O_in_ints ?_
    refine ⟨_, rfl, fun h => ?_, fun _ => ?_⟩
    · exact absurd (by simpa using h) g3
    refine T_or_cons (T_cmp ?_)
    refine E_name (get_at 24 rfl rfl) nofun ?_; refine E_sub ?_; refine E_name (get_at 9 rfl rfl) nofun ?_; refine E_name (get_at 22 rfl rfl) nofun ?_
    refine O_lat (x := iL (F.getD p.1.toNat [])) g1.1 (by rw [List.getElem?_map, List.getElem?_eq_getElem (by exact om294 hF g1)]; simp [List.getD, show p.1.toNat < F.length by exact om294 hF g1]) (by rw [List.length_map]; exact om295 hL hF) ?_
    refine O_nin_ints ?_
    refine ⟨_, rfl, fun h => ?_, fun _ => ?_⟩
    · exact absurd g4 (by simpa using h)
    refine T_or_nil ⟨fun h => (nomatch h), fun _ => ?_⟩
    refine S_nil ?_; refine S_nil ?_; isplit
    all_goals exact fin
  · rintro σ₂ ⟨u, rfl⟩
    refine S_cons (S_if (T_cmp ?_))
    refine E_callB (by repeat (first | exact List.mem_cons_self | apply List.mem_cons_of_mem)) (A_cons ?_)
    refine E_callT (by repeat (first | exact List.mem_cons_self | apply List.mem_cons_of_mem)) (A_cons ?_)
    refine E_name (get_at 21 rfl rfl) nofun ?_; refine A_nil ?_
    refine C_set_tups t.len t.nd fun sv hsv => ?_
    refine A_nil ?_
    refine C_len_set hsv ?_
    refine E_callB (by repeat (first | exact List.mem_cons_self | apply List.mem_cons_of_mem)) (A_cons ?_)
    refine E_name (get_at 21 rfl rfl) nofun ?_; refine A_nil ?_
    have hrl := t.len
    refine C_len_tup (by rw [List.length_map]; exact om296 hrl) ?_
    refine O_nei ?_
    refine ⟨_, rfl, fun h => ?_, fun _ => ?_⟩
    · exact absurd h (by simp)
    refine S_nil ?_
    refine S_cons ?_
    refine S_lcO ["x"] ["firsts", "reasons"] [] (by rfl) ⟨by kernel_rfl, fun p hp => (nomatch hp), by decide⟩ (by repeat (first | exact List.mem_cons_self | apply List.mem_cons_of_mem)) ?_
    refine E_callT (by repeat (first | exact List.mem_cons_self | apply List.mem_cons_of_mem)) (A_cons ?_)
    refine E_callB (by repeat (first | exact List.mem_cons_self | apply List.mem_cons_of_mem)) (A_cons ?_)
    refine E_name (get_at 11 rfl rfl) nofun ?_; refine A_nil ?_
    refine C_len_lst (by rw [List.length_map]; exact om295 hL hk) ?_
    refine A_nil ?_
    refine C_range1 ?_
    rw [List.length_map, hk]
    refine ⟨_, [rowsV F, .tup (rs.map tripV)], it_up (a := 0) (b := L) (n := L) ⟨_, _, rfl⟩ (by exact om289) (by exact om176 hL) (by exact om297), .cons (by exact get_at 9 rfl rfl) (.cons (by exact get_at 21 rfl rfl) .nil), ?_⟩
    refine run_map (fun ls : List Int => ls.map fun k => iL (lotOf F rs k)) rfl (fun ls qs e => ?_) (fun C3 P3 ls x qs e => ?_) ?_
    · have h2 := congrArg List.length e
      rw [rngL_len, List.length_append] at h2
      rw [List.length_map, sizeLine_eq]; exact om298 hL h2
    · obtain ⟨hj, rfl⟩ := rng_cons e
      obtain ⟨j, hjj⟩ : ∃ j, ls.length = j := ⟨_, rfl⟩
      have hfin := (subs_in _ (E0.sub _ (E0.fin (k := j) (by exact om299 hj hjj))).1).1.1
      rw [hjj] at hj ⊢
      rw [show (0 : Int) + (j : Int) * 1 = (j : Int) by exact om283]
      refine AT_name .here (by repeat (first | exact List.mem_cons_self | apply List.mem_cons_of_mem)) ?_
      try dsimp only
      refine TT_nil ⟨fun _ => ?_, fun h => (nomatch h)⟩
      refine E_lc ["late"] ["x", "reasons"] [] ⟨by kernel_rfl, fun p hp => (nomatch hp), by decide⟩ ?_
      refine E_sub ?_; refine E_name (get_at 1 rfl rfl) nofun ?_; refine E_name (get_at 0 rfl rfl) nofun ?_
      refine O_lat (x := iL (F.getD j [])) (by exact om285) (by rw [Int.toNat_natCast, List.getElem?_map, List.getElem?_eq_getElem (by exact om259 hF hj)]; simp [List.getD, show j < F.length by exact om259 hF hj]) (by rw [List.length_map]; exact om295 hL hF) ?_
      have hlo : lotOf F rs j = (F.getD j []).filter fun l => !decide (((j : Int), l) ∈ rs) := by rw [lotOf, Int.toNat_natCast]
      generalize F.getD j [] = f at hfin hlo ⊢
      refine ⟨_, [.int j, .tup (rs.map tripV)], .lst _, .cons (by exact get_at 0 rfl rfl) (.cons (by exact get_at 2 rfl rfl) .nil), ?_⟩
      refine run_map (fun ls : List Int => (ls.filter fun l => !decide (((j : Int), l) ∈ rs)).map .int) rfl (fun ls qs e => ?_) (fun C4 P4 ls l qs e => ?_) ?_
      · have h1 : (ls.filter fun l => !decide (((j : Int), l) ∈ rs)).length ≤ ls.length := List.length_filter_le _ _
        have h2 := congrArg List.length e
        rw [List.length_append] at h2
        rw [List.length_map, sizeLine_eq]; exact om132 hfin h1 h2
      · refine AT_name .here (by repeat (first | exact List.mem_cons_self | apply List.mem_cons_of_mem)) ?_
        try dsimp only
        refine TT_one (T_cmp (E_tuple ?_))
        refine A_cons ?_; refine E_name (get_at 1 rfl rfl) nofun ?_; refine A_cons ?_; refine E_str ?_; refine A_cons ?_; refine E_name (get_at 0 rfl rfl) nofun ?_; refine A_nil ?_
        refine ⟨Nat.le_of_ble_eq_true rfl, ?_⟩
        refine E_name (get_at 2 rfl rfl) nofun ?_
        refine O_nin_trips (p := ((j : Int), l)) ?_
        refine ⟨_, rfl, fun h => ?_, fun h => ⟨⟨[_], rfl, rfl⟩, ?_, rfl⟩⟩
        · refine E_name (get_at 0 rfl rfl) nofun ?_
          refine ⟨⟨[_], rfl, rfl⟩, ?_, rfl⟩
          rw [List.filter_append, List.filter_cons, h]; simp
        · rw [List.filter_append, List.filter_cons, h]; simp
      · refine ⟨⟨[_], rfl, rfl⟩, ?_, rfl⟩
        rw [List.map_append, List.map_cons, List.map_nil, hlo]
    · intro D hD
      have e0 : ((rngL 0 1 L).map fun k => iL (lotOf F rs k)) = (lots0 F rs L).map iL := by rw [lots0, List.map_map]; rfl
      rw [e0]
      refine ⟨(vE scr q m n rows start mk0 ends x F kept M tl (.int sp) v12 (.int a) (.tup (rs.map tripV)) u.1 u.2.1 u.2.2 (.ref D)), put_at 25 rfl rfl rfl, ?_⟩
      try dsimp only
      refine S_cons ?_
      refine S_asub ?_
      refine E_listF (A_cons ?_)
      refine E_name (get_at 13 rfl rfl) nofun ?_; refine A_nil ?_
      refine ⟨Nat.le_of_ble_eq_true rfl, ?_⟩
      refine E_name (get_at 25 rfl rfl) nofun ?_; refine E_name (get_at 10 rfl rfl) nofun ?_
      refine SI_list (a := D) .here (j := sp) (.inl ⟨by exact om285, by rw [List.length_map, lots0_len]; exact om300 hsp, by exact om301⟩) (by rw [List.length_map, lots0_len]; exact om155 hL) ?_
      have e : ((lots0 F rs L).map iL).set sp (.lst [.int a]) = ((lots0 F rs L).set sp [a]).map iL := by rw [List.map_set]; rfl
      rw [e]
      obtain ⟨lk1, lk2⟩ := E0.lots_ok (rs := rs) (sp := sp) (a := a)
      have hwd := fun wd => E0.word K t (w := wd)
      obtain ⟨lts, hlts⟩ : ∃ lts, (lots0 F rs L).set sp [a] = lts := ⟨_, rfl⟩
      rw [hlts] at lk1 lk2 hwd ⊢
      refine S_cons (S_if (T_cmp ?_))
      refine E_lc ["word"] ["moves", "start", "ends"] [("_law_goes_through", .ref 443)] ⟨by kernel_rfl, fun p hp => by rw [List.mem_singleton.mp hp]; exact gi__law_goes_through w, by decide⟩ ?_
      refine E_callF (a := 436) (fd := fd436) (by repeat (first | exact List.mem_cons_self | apply List.mem_cons_of_mem)) (fun w => ⟨_, _, _, (ok436 w).obj.choose_spec.choose_spec.choose_spec⟩) (A_cons (EvV.frz ?_))
      refine E_name (get_at 25 rfl rfl) nofun ?_
      refine ⟨_, _, _, rfl, .here, hD, ?_⟩
      refine A_nil ?_
      refine call_spec (sp436 w lts lk1 lk2) (Nat.le_of_ble_eq_true rfl) .nil ?_
      rintro sv H' ⟨rfl, rfl⟩
      try dsimp only
      refine ⟨_, [rowsV rows, .int start, iL ends], .lst _, .cons (by exact get_at 4 rfl rfl) (.cons (by exact get_at 5 rfl rfl) (.cons (by exact get_at 7 rfl rfl) .nil)), ?_⟩
      refine run_map (fun _ : List (List Int) => []) rfl (fun ls qs e => Nat.zero_le _) (fun C4 P4 ws wd qs e => ?_) ?_
      · obtain ⟨hw1, hw2⟩ := hwd wd (by rw [e]; simp)
        refine AT_name .here (by repeat (first | exact List.mem_cons_self | apply List.mem_cons_of_mem)) ?_
        try dsimp only
        refine TT_one (T_val (E_callF (a := 443) (fd := fd443) (by repeat (first | exact List.mem_cons_self | apply List.mem_cons_of_mem)) (fun w => ⟨_, _, _, (ok443 w).obj.choose_spec.choose_spec.choose_spec⟩) ?_))
        refine A_cons ?_; refine E_name (get_at 1 rfl rfl) nofun ?_; refine A_cons ?_; refine E_name (get_at 2 rfl rfl) nofun ?_; refine A_cons ?_; refine E_name (get_at 3 rfl rfl) nofun ?_; refine A_cons ?_; refine E_name (get_at 0 rfl rfl) nofun ?_; refine A_nil ?_
        refine call_spec (sp443 w T start ends wd ⟨by have := E0.hs; exact om197 this, E0.hs.2⟩ hw1) (Nat.le_of_ble_eq_true rfl) .nil ?_
        rintro sv H' ⟨rfl, rfl⟩
        try dsimp only
        refine ⟨_, rfl, fun h => absurd (by simpa using h) hw2, fun h => ⟨⟨[_], rfl, rfl⟩, rfl, rfl⟩⟩
      · skip
        refine E_listF (A_nil ⟨Nat.zero_le _, ?_⟩)
        refine O_ne_nil (ns := []) ?_
        refine ⟨_, rfl, fun h => (nomatch h), fun _ => ?_⟩
        refine S_nil ?_; refine S_nil ?_
        exact fin _ _ _ _ _
set_option maxHeartbeats 16000000 in
theorem phE (w : World) (A : Around) (s : Shared) (hb : Heap) {rows : List (List Int)} {m n L : Nat} {start : Int} {ends : List Int} {kept F : List (List Int)} (E0 : Facts rows m n L start ends kept F)
    (M dM x d dm fs tr mk nw : Addr) (doms trail : List SV) (ks : List Int) (tw : Bool) (scr mk0 : SV) (q : Addr) (htr : trail.length ≤ 10) (v10 v12 v13 v21 v22 v23 v24 v25 : SV) :
    SB (c448 w A s hb) (B448.drop 14) ⟨(vE scr q m n rows start mk0 ends x F kept M trail.length v10 v12 v13 v21 v22 v23 v24 v25), (hE x d dm fs tr mk nw doms F trail ks M dM L m n rows start ends tw)⟩ Post448 := by
  have T := E0.T; have hm := T.m3; have hn := T.n3; have hL := E0.hL; have hk := E0.hk; have hF := E0.hF
  have hlaA : (aheadL rows start kept).length = L + 1 := by rw [aheadL_len, hk]
  have hlaB : (aliveL rows m ends kept).length = L + 1 := by rw [aliveL_len, hk]
  have hmach := hE_mach (x := x) (d := d) (dm := dm) (fs := fs) (tr := tr) (mk := mk) (nw := nw) (doms := doms) (F := F) (trail := trail) (ks := ks) (M := M) (dM := dM) (L := L) (m := m) (n := n) (rows := rows) (start := start) (ends := ends) (tw := tw)
  have hstore := hE_store (x := x) (d := d) (dm := dm) (fs := fs) (tr := tr) (mk := mk) (nw := nw) (doms := doms) (F := F) (trail := trail) (ks := ks) (M := M) (dM := dM) (L := L) (m := m) (n := n) (rows := rows) (start := start) (ends := ends) (tw := tw)
  have htrail := hE_trail (x := x) (d := d) (dm := dm) (fs := fs) (tr := tr) (mk := mk) (nw := nw) (doms := doms) (F := F) (trail := trail) (ks := ks) (M := M) (dM := dM) (L := L) (m := m) (n := n) (rows := rows) (start := start) (ends := ends) (tw := tw)
  have s374 : ∀ (sp : Nat) (a : Int), sp < L → (1 ≤ a ∧ a ≤ n) → Spec w 4 (.ref 374) [.ref M, .ref x, rowsV kept, layV m (aheadL rows start kept), layV m (aliveL rows m ends kept), .int sp, .int a] (hE x d dm fs tr mk nw doms F trail ks M dM L m n rows start ends tw) fun v H => (∃ out : List (Int × Int), out.Perm (whyNote rows m n L (aliveL rows m ends kept) (aheadL rows start kept) sp a) ∧ v = .tup ((out.filter (hadB F)).map tripV)) ∧ H = (hE x d dm fs tr mk nw doms F trail ks M dM L m n rows start ends tw) :=
    fun sp a hsp ha => sp374 w T M dM x d dm fs tr mk nw doms trail ks F L sp a start ends tw kept (aheadL rows start kept) (aliveL rows m ends kept) hk hlaA hlaB hF hL hsp ha
  generalize (hE x d dm fs tr mk nw doms F trail ks M dM L m n rows start ends tw) = HE at hmach hstore htrail s374 ⊢
  refine S_cons (S_for (E_callT (by repeat (first | exact List.mem_cons_self | apply List.mem_cons_of_mem)) (A_cons ?_)))
  refine E_callB (by repeat (first | exact List.mem_cons_self | apply List.mem_cons_of_mem)) (A_cons ?_)
  refine E_name (get_at 11 rfl rfl) nofun ?_; refine A_nil ?_
  refine C_len_lst (by rw [List.length_map]; exact om295 hL hk) ?_
  refine A_nil ?_
  refine C_range1 ?_
  rw [List.length_map, hk]
  refine ⟨_, it_up (a := 0) (b := L) (n := L) ⟨_, _, rfl⟩ (by exact om289) (by exact om176 hL) (by exact om297), fun pre σ => ∃ u : SV × SV × SV × SV × SV × SV × SV, σ = ⟨(vE scr q m n rows start mk0 ends x F kept M trail.length u.1 v12 u.2.1 u.2.2.1 u.2.2.2.1 u.2.2.2.2.1 u.2.2.2.2.2.1 u.2.2.2.2.2.2), HE⟩, ⟨(v10, v13, v21, v22, v23, v24, v25), rfl⟩, ?_, ?_⟩
  · rintro P pre y post σ₂ hx ⟨u, rfl⟩
    obtain ⟨hsp, rfl⟩ := rng_at hx
    generalize hspp : pre.length = sp at hsp ⊢
    rw [show (0 : Int) + (sp : Int) * 1 = (sp : Int) by exact om283]
    refine AT_name (vals' := (vE scr q m n rows start mk0 ends x F kept M trail.length (.int sp) v12 u.2.1 u.2.2.1 u.2.2.2.1 u.2.2.2.2.1 u.2.2.2.2.2.1 u.2.2.2.2.2.2)) (put_at 10 rfl rfl rfl) (by repeat (first | exact List.mem_cons_self | apply List.mem_cons_of_mem)) ?_
    try dsimp only
    refine S_cons (S_for (E_callT (by repeat (first | exact List.mem_cons_self | apply List.mem_cons_of_mem)) (A_cons ?_)))
    refine E_int ?_; refine A_cons ?_; refine E_bin ?_; refine E_name (get_at 3 rfl rfl) nofun ?_; refine E_int ?_; refine O_add ?_; refine A_nil ?_
    refine C_range2 ?_
    refine ⟨_, it_up (a := 1) (b := (n : Int) + 1) (n := n) ⟨_, _, rfl⟩ (by exact om184) (by exact om185 hn) (by exact om186), fun pre σ => ∃ u : SV × SV × SV × SV × SV × SV, σ = ⟨(vE scr q m n rows start mk0 ends x F kept M trail.length (.int sp) v12 u.1 u.2.1 u.2.2.1 u.2.2.2.1 u.2.2.2.2.1 u.2.2.2.2.2), HE⟩, ⟨(u.2.1, u.2.2.1, u.2.2.2.1, u.2.2.2.2.1, u.2.2.2.2.2.1, u.2.2.2.2.2.2), rfl⟩, ?_, ?_⟩
    · rintro P2 pre2 y2 post2 σ₃ hx2 ⟨u, rfl⟩
      obtain ⟨ha1, rfl⟩ := rng_at hx2
      have ha : 1 ≤ (1 : Int) + (pre2.length : Int) * 1 ∧ (1 : Int) + (pre2.length : Int) * 1 ≤ n := by exact om156 ha1
      generalize haa : (1 : Int) + (pre2.length : Int) * 1 = a at ha ⊢
      refine AT_name (vals' := (vE scr q m n rows start mk0 ends x F kept M trail.length (.int sp) v12 (.int a) u.2.1 u.2.2.1 u.2.2.2.1 u.2.2.2.2.1 u.2.2.2.2.2)) (put_at 13 rfl rfl rfl) (by repeat (first | exact List.mem_cons_self | apply List.mem_cons_of_mem)) ?_
      try dsimp only
      refine EvS.abs (fun F0 => (∀ u1 u2 u3 u4 u5, F0 .next ⟨(vE scr q m n rows start mk0 ends x F kept M trail.length (.int sp) v12 (.int a) u1 u2 u3 u4 u5), HE⟩) ∧ F0 .cont ⟨(vE scr q m n rows start mk0 ends x F kept M trail.length (.int sp) v12 (.int a) u.2.1 u.2.2.1 u.2.2.2.1 u.2.2.2.2.1 u.2.2.2.2.2), HE⟩) ⟨fun u1 u2 u3 u4 u5 => ⟨(_, u1, u2, u3, u4, u5), rfl⟩, ⟨(_, _, _, _, _, _), rfl⟩⟩ fun F0 fin => ?_
      refine S_cons (S_if (T_cmp ?_))
      refine E_lc ["state"] ["moves", "letter", "behind", "spot"] [("_law_gone", .ref 421)] ⟨by kernel_rfl, fun p hp => by rw [List.mem_singleton.mp hp]; exact gi__law_gone w, by decide⟩ ?_
      refine E_sub ?_; refine E_name (get_at 15 rfl rfl) nofun ?_; refine E_name (get_at 10 rfl rfl) nofun ?_
      refine O_lat (x := iL ((aheadL rows start kept).getD sp [])) (by exact om285) (by rw [Int.toNat_natCast, List.getElem?_map, List.getElem?_eq_getElem (by exact om237 hlaA hsp)]; simp [List.getD, show sp < (aheadL rows start kept).length by exact om237 hlaA hsp]) (by rw [List.length_map]; exact om302 hL hlaA) ?_
      have hain := E0.ahead_in sp (by exact om231 hsp)
      have hasm := E0.ahead_small sp (by exact om231 hsp)
      obtain ⟨ah, hah⟩ : ∃ ah, (aheadL rows start kept).getD sp [] = ah := ⟨_, rfl⟩
      obtain ⟨al1, hal1⟩ : ∃ al1, (aliveL rows m ends kept).getD (sp + 1) [] = al1 := ⟨_, rfl⟩
      rw [hah] at hain hasm ⊢
      refine ⟨_, [rowsV rows, .int a, rowsV (aliveL rows m ends kept), .int sp], .lst _, .cons (by exact get_at 4 rfl rfl) (.cons (by exact get_at 13 rfl rfl) (.cons (by exact get_at 16 rfl rfl) (.cons (by exact get_at 10 rfl rfl) .nil))), ?_⟩
      refine run_map (fun ls : List Int => (wayL rows al1 a ls).map .int) rfl (fun ls qs e => ?_) (fun C3 P3 ls st qs e => ?_) ?_
      · have h1 : (ls.filter fun s => decide (gone rows s a ∈ al1)).length ≤ ls.length := List.length_filter_le _ _
        have h2 := congrArg List.length e
        rw [List.length_append] at h2
        rw [List.length_map, wayL, List.length_map, sizeLine_eq]; exact om303 hasm h1 h2
      · have hst := hain st (by rw [e]; simp)
        refine AT_name .here (by repeat (first | exact List.mem_cons_self | apply List.mem_cons_of_mem)) ?_
        try dsimp only
        refine TT_one (T_cmp ?_)
        refine E_callF (a := 421) (fd := fd421) (by repeat (first | exact List.mem_cons_self | apply List.mem_cons_of_mem)) (fun w => ⟨_, _, _, (ok421 w).obj.choose_spec.choose_spec.choose_spec⟩) ?_
        refine A_cons ?_; refine E_name (get_at 1 rfl rfl) nofun ?_; refine A_cons ?_; refine E_name (get_at 0 rfl rfl) nofun ?_; refine A_cons ?_; refine E_name (get_at 2 rfl rfl) nofun ?_; refine A_nil ?_
        refine call_spec (sp421 w T st a hst ha) (Nat.le_of_ble_eq_true rfl) .nil ?_
        rintro sv H' ⟨rfl, rfl⟩
        try dsimp only
        refine E_sub ?_; refine E_name (get_at 3 rfl rfl) nofun ?_; refine E_bin ?_; refine E_name (get_at 4 rfl rfl) nofun ?_; refine E_int ?_; refine O_add ?_
        refine O_lat (x := iL al1) (by exact om225) (by rw [show ((sp : Int) + 1).toNat = sp + 1 by exact om226, List.getElem?_map, List.getElem?_eq_getElem (by exact om227 hlaB hsp), ← hal1]; simp only [List.getD]; rw [List.getElem?_eq_getElem (by exact om227 hlaB hsp)]; rfl) (by rw [List.length_map]; exact om302 hL hlaB) ?_
        refine O_in_ints ?_
        refine ⟨_, rfl, fun h => ?_, fun h => ⟨⟨[_], rfl, rfl⟩, ?_, rfl⟩⟩
        · refine E_int ?_
          refine ⟨⟨[_], rfl, rfl⟩, ?_, rfl⟩
          rw [wayL, List.filter_append, List.filter_cons, h]; simp [wayL]
        · rw [wayL, List.filter_append, List.filter_cons, h]; simp [wayL]
      · refine E_listF (A_nil ⟨Nat.zero_le _, ?_⟩)
        refine O_ne_nil ?_
        refine ⟨_, rfl, ?_⟩
        refine ⟨fun h => ?_, fun h => ?_⟩
        · refine S_cons (S_cont ?_)
          exact fin.2
        · have hno : ∀ s ∈ ah, gone rows s a ∉ al1 := fun s hs hin => by
            have : wayL rows al1 a ah = [] := by simpa using h
            unfold wayL at this
            rw [List.map_eq_nil_iff, List.filter_eq_nil_iff] at this
            exact this s hs (by simpa using hin)
          have K : Ask rows m n L start ends kept sp a := ⟨T, hk, hL, hsp, ha, E0.hs, E0.he, by rw [hah, hal1]; exact hno⟩
          refine S_nil ?_
          exact phE2 w A s hb E0 P P2 K M dM x trail.length tw _ hmach (s374 sp a hsp ha) scr mk0 q v12 _ _ _ _ _ _ fin.1
    · rintro σ₃ ⟨u, rfl⟩
      refine S_nil ?_
      exact ⟨(_, u.1, u.2.1, u.2.2.1, u.2.2.2.1, u.2.2.2.2.1, u.2.2.2.2.2), rfl⟩
  · rintro σ₂ ⟨u, rfl⟩
    refine S_cons (S_ret (E_and2 (E_cmp ?_)))
    refine E_name (get_at 19 rfl rfl) nofun ?_
    refine E_tuple ?_
    refine A_cons ?_; refine E_name (get_at 17 rfl rfl) nofun ?_; refine A_cons ?_; refine E_name (get_at 18 rfl rfl) nofun ?_; refine A_cons ?_; refine E_name (get_at 11 rfl rfl) nofun ?_; refine A_nil ?_
    refine ⟨Nat.le_of_ble_eq_true rfl, ?_⟩
    have hsh : Shp 3 (.tup [layV m (aheadL rows start kept), layV m (aliveL rows m ends kept), rowsV kept]) := shp_tup fun x hx => by
      simp only [List.mem_cons, List.not_mem_nil, or_false] at hx
      rcases hx with rfl | rfl | rfl
      · exact shp_lay
      · exact shp_lay
      · exact shp_rows
    refine O_eqd (hsh.shaped (by decide)) (hsh.shaped (by decide)) ?_
    rw [eqv_refl _ hsh.1]
    refine ⟨_, rfl, fun _ => ?_, fun h => (nomatch h)⟩
    refine E_cmp ?_
    refine E_callB (by repeat (first | exact List.mem_cons_self | apply List.mem_cons_of_mem)) (A_cons ?_)
    refine E_at (a := x) (y := .ref tr) ic258 (fun w => by kernel_rfl) ?_ hstore (by repeat (first | exact List.mem_cons_self | apply List.mem_cons_of_mem)) rfl ?_
    · refine E_name (get_at 8 rfl rfl) nofun ?_; exact ⟨rfl, rfl⟩
    refine A_nil ?_
    refine C_len_own (.inl htrail) (by exact om153 htr) ?_
    refine E_name (get_at 20 rfl rfl) nofun ?_; refine O_eqi ?_
    refine .inl ⟨_, rfl, ?_⟩
    simp
end
section
noncomputable def vD (scr : SV) (q : Addr) (m n : Nat) (rows : List (List Int)) (start : Int) (mk0 : SV) (ends : List Int) (x : Addr) (F : List (List Int)) (v10 : SV) (kept : List (List Int)) (v12 v13 v14 v15 v16 v17 v18 v19 v20 : SV) : List SV := [scr, .ref q, .int m, .int n, rowsV rows, .int start, mk0, iL ends, .ref x, rowsV F, v10, rowsV kept, v12, v13, v14, v15, v16, v17, v18, v19, v20, .junk, .junk, .junk, .junk, .junk]
noncomputable def hM (x d dm fs tr mk nw : Addr) (doms : List SV) (F : List (List Int)) (trail : List SV) (ks : List Int) (M dM : Addr) (L m n : Nat) (rows : List (List Int)) (start : Int) (ends : List Int) (tw : Bool) : AHeap := machA M dM L m n rows start ends tw :: storeH x d dm fs tr mk nw doms (firstsV F) trail ks
section
variable {c : Cx} {σ : St} {Q : SV → St → Prop}
theorem E_copy {v : Str} {p1 p2 p3 p4 pos : Pos} {scope : Scope} {iter : Expr} {l : List SV} (ci : CompIn c scope [v] [] [("list", .type "list")]) (h : EE c iter σ fun sv σ₁ => sv = .lst l ∧ Q (.lst l) σ₁)
    (hl : l.length ≤ sizeLine) (hin : ∀ x ∈ l, ∃ r, x = .lst r ∧ r.length ≤ sizeLine) (hs : ∀ x, foldedSetIterable iter c.env x = pure x := by intro _; rfl) :
    EE c (.ListComp (.Call (.Name (Str.ofString "list") p1) [.Name v p2] [] p3) [⟨.Name v p4, iter, [], 0⟩] scope pos) σ Q := by
  refine E_lc [v] [] [("list", .type "list")] ci (EvV.mono h fun sv σ₁ ⟨e, q⟩ => ?_) hs
  subst e
  refine ⟨_, [], .lst _, .nil, ?_⟩
  refine run_one (fun pre acc H => pre.length ≤ l.length ∧ acc = pre ∧ H = σ₁.heap) ⟨Nat.zero_le _, rfl, rfl⟩ ?_ ?_ ?_
  · rintro pre acc H ⟨h1, rfl, rfl⟩
    exact Nat.le_trans h1 hl
  · rintro C P pre x post acc H hx ⟨_, rfl, rfl⟩
    obtain ⟨r, rfl, hr⟩ := hin x (by rw [hx]; simp)
    refine AT_name .here (by repeat (first | exact List.mem_cons_self | apply List.mem_cons_of_mem)) ?_
    refine TT_nil ⟨fun _ => ?_, fun h => (nomatch h)⟩
    refine EvV.frz (E_callT (by repeat (first | exact List.mem_cons_self | apply List.mem_cons_of_mem)) (A_cons (E_name get_here nofun (A_nil (C_list_lst hr fun a ha => ?_)))))
    exact ⟨_, _, _, rfl, .here, ha, ⟨[_], rfl, rfl⟩, by rw [hx]; simp, rfl, rfl⟩
  · rintro acc H ⟨_, rfl, rfl⟩
    exact q
end
theorem lay_in {m : Nat} {lys : List (List Int)} (hm : m ≤ 3) : ∀ x ∈ (lys.map fun ly => SV.lst (boolRow m ly)), ∃ r, x = .lst r ∧ r.length ≤ sizeLine := fun x hx => by
  obtain ⟨ly, _, rfl⟩ := List.mem_map.mp hx
  exact ⟨_, rfl, by rw [boolRow_len, sizeLine_eq]; exact om304 hm⟩
theorem rows_in {rows : List (List Int)} (h : ∀ r ∈ rows, r.length ≤ 3) : ∀ x ∈ rows.map iL, ∃ r, x = .lst r ∧ r.length ≤ sizeLine := fun x hx => by
  obtain ⟨ly, hly, rfl⟩ := List.mem_map.mp hx
  exact ⟨_, rfl, by rw [List.length_map, sizeLine_eq]; have := h ly hly; exact om228 this⟩
theorem rngL_sv {a k : Int} {n : Nat} : ((List.range n).map fun i : Nat => SV.int (a + i * k)) = (rngL a k n).map .int := by unfold rngL; rw [List.map_map]; rfl
set_option maxHeartbeats 16000000 in
theorem phD (w : World) (A : Around) (s : Shared) (hb : Heap) {rows : List (List Int)} {m n L : Nat} {start : Int} {ends : List Int} {kept F : List (List Int)} (E0 : Facts rows m n L start ends kept F)
    (x d dm fs tr mk nw : Addr) (doms trail : List SV) (ks : List Int) (scr mk0 : SV) (q : Addr) (htr : trail.length ≤ 10) (v10 v12 v13 : SV) :
    SB (c448 w A s hb) (B448.drop 9) ⟨vD scr q m n rows start mk0 ends x F v10 kept v12 v13 .junk .junk .junk .junk .junk .junk .junk, storeH x d dm fs tr mk nw doms (firstsV F) trail ks⟩ Post448 := by
  have T := E0.T; have hm := T.m3; have hn := T.n3; have hL := E0.hL; have hk := E0.hk; have hF := E0.hF
  have hlaA : (aheadL rows start kept).length = L + 1 := by rw [aheadL_len, hk]
  have hlaB : (aliveL rows m ends kept).length = L + 1 := by rw [aliveL_len, hk]
  refine S_cons ?_
  refine S_asgn (by repeat (first | exact List.mem_cons_self | apply List.mem_cons_of_mem)) ?_
  refine E_callC (a := 405) (by repeat (first | exact List.mem_cons_self | apply List.mem_cons_of_mem)) (fun w => by kernel_rfl) (A_cons ?_)
  refine E_callT (by repeat (first | exact List.mem_cons_self | apply List.mem_cons_of_mem)) (A_cons ?_)
  refine E_callT (by repeat (first | exact List.mem_cons_self | apply List.mem_cons_of_mem)) (A_cons ?_)
  refine E_callB (by repeat (first | exact List.mem_cons_self | apply List.mem_cons_of_mem)) (A_cons ?_)
  refine E_name (get_at 11 rfl rfl) nofun ?_; refine A_nil ?_
  refine C_len_lst (by rw [List.length_map]; exact om295 hL hk) ?_
  refine A_nil ?_
  refine C_range1 ?_
  refine A_nil ?_
  rw [List.length_map, hk]
  refine C_list_rng (n := L) (small_one (by exact om128) (by exact om129) (by exact om130) (by exact om305 hL)) (range_nat L) (by exact om56 hL) ?_
  rw [rngL_sv]
  refine A_cons ?_; refine E_name (get_at 2 rfl rfl) nofun ?_
  refine A_cons ?_; refine E_name (get_at 3 rfl rfl) nofun ?_
  refine A_cons ?_; refine E_name (get_at 4 rfl rfl) nofun ?_
  refine A_cons ?_; refine E_name (get_at 5 rfl rfl) nofun ?_
  refine A_cons ?_; refine E_name (get_at 7 rfl rfl) nofun ?_
  refine A_nil ?_
  have hxs : ∀ y ∈ rngL 0 1 L, y ∈ [(0 : Int), 1, 2, 3] := fun y hy => by
    obtain ⟨i, hi, rfl⟩ := mem_rngL.mp hy
    exact small4 (by exact om134) (by exact om306 hL hi)
  refine C_make (C := 405) (fI := 320) (lv := 2) (Hs := []) (fun w => by kernel_rfl) (fun w => by kernel_rfl) (fun w => by kernel_rfl) (fun M dM => sp320 w 0 M dM (rngL 0 1 L) m n rows start ends hxs (by rw [rngL_len]; exact om214 hL)) (Nat.le_of_ble_eq_true rfl) .nil ?_
  rintro M dM sv H' _ ⟨rfl, tw, rfl⟩
  refine ⟨rfl, vD scr q m n rows start mk0 ends x F v10 kept v12 v13 (.ref M) .junk .junk .junk .junk .junk .junk, put_at 14 rfl rfl rfl, ?_⟩
  show SB _ _ ⟨vD scr q m n rows start mk0 ends x F v10 kept v12 v13 (.ref M) .junk .junk .junk .junk .junk .junk, hM x d dm fs tr mk nw doms F trail ks M dM L m n rows start ends tw⟩ _
  refine S_cons (S_tup ?_)
  refine E_tuple (A_cons ?_)
  refine E_callF (a := 426) (fd := fd426) (by repeat (first | exact List.mem_cons_self | apply List.mem_cons_of_mem)) (fun w => ⟨_, _, _, (ok426 w).obj.choose_spec.choose_spec.choose_spec⟩) ?_
  refine A_cons ?_; refine E_name (get_at 4 rfl rfl) nofun ?_; refine A_cons ?_; refine E_name (get_at 5 rfl rfl) nofun ?_; refine A_cons ?_; refine E_name (get_at 11 rfl rfl) nofun ?_; refine A_nil ?_
  refine call_spec (sp426 w T start kept ⟨by have := E0.hs; exact om197 this, E0.hs.2⟩ (by exact om126 hL hk) E0.kin) (Nat.le_of_ble_eq_true rfl) .nil ?_
  rintro sv H' ⟨rfl, rfl⟩
  refine A_cons ?_
  refine E_callF (a := 431) (fd := fd431) (by repeat (first | exact List.mem_cons_self | apply List.mem_cons_of_mem)) (fun w => ⟨_, _, _, (ok431 w).obj.choose_spec.choose_spec.choose_spec⟩) ?_
  refine A_cons ?_; refine E_name (get_at 4 rfl rfl) nofun ?_; refine A_cons ?_; refine E_name (get_at 7 rfl rfl) nofun ?_; refine A_cons ?_; refine E_name (get_at 11 rfl rfl) nofun ?_; refine A_nil ?_
  refine call_spec (sp431 w T ends kept (by have := E0.hel; exact om307 this) E0.hes (by exact om126 hL hk) E0.kin) (Nat.le_of_ble_eq_true rfl) .nil ?_
  rintro sv H' ⟨rfl, rfl⟩
  refine A_nil ?_
  refine ⟨Nat.le_of_ble_eq_true rfl, AT_tup2 (.cons (vals₁ := vD scr q m n rows start mk0 ends x F v10 kept v12 v13 (.ref M) (rowsV (aheadL rows start kept)) .junk .junk .junk .junk .junk) (put_at 15 rfl rfl rfl) (by repeat (first | exact List.mem_cons_self | apply List.mem_cons_of_mem)) (.cons (vals₁ := vD scr q m n rows start mk0 ends x F v10 kept v12 v13 (.ref M) (rowsV (aheadL rows start kept)) (rowsV (aliveL rows m ends kept)) .junk .junk .junk .junk) (put_at 16 rfl rfl rfl) (by repeat (first | exact List.mem_cons_self | apply List.mem_cons_of_mem)) .nil)) ?_⟩
  show SB _ _ ⟨vD scr q m n rows start mk0 ends x F v10 kept v12 v13 (.ref M) (rowsV (aheadL rows start kept)) (rowsV (aliveL rows m ends kept)) .junk .junk .junk .junk, hM x d dm fs tr mk nw doms F trail ks M dM L m n rows start ends tw⟩ _
  refine S_cons (S_lc ["layer"] ["many"] [("range", .type "range")] (by rfl) ⟨by kernel_rfl, fun p hp => by rw [List.mem_singleton.mp hp]; exact gi_range w, by decide⟩ (by repeat (first | exact List.mem_cons_self | apply List.mem_cons_of_mem)) ?_)
  refine E_name (get_at 15 rfl rfl) nofun ?_
  refine ⟨_, [.int m], .lst _, .cons (by exact get_at 2 rfl rfl) .nil, ?_⟩
  refine run_lay hm (lys := aheadL rows start kept) (by exact om308 hL hlaA) w (fun C P => ⟨by kernel_rfl, fun p hp => (nomatch hp), by decide⟩) ?_
  refine ⟨vD scr q m n rows start mk0 ends x F v10 kept v12 v13 (.ref M) (rowsV (aheadL rows start kept)) (rowsV (aliveL rows m ends kept)) (layV m (aheadL rows start kept)) .junk .junk .junk, put_at 17 rfl rfl rfl, ?_⟩
  refine S_cons (S_lc ["layer"] ["many"] [("range", .type "range")] (by rfl) ⟨by kernel_rfl, fun p hp => by rw [List.mem_singleton.mp hp]; exact gi_range w, by decide⟩ (by repeat (first | exact List.mem_cons_self | apply List.mem_cons_of_mem)) ?_)
  refine E_name (get_at 16 rfl rfl) nofun ?_
  refine ⟨_, [.int m], .lst _, .cons (by exact get_at 2 rfl rfl) .nil, ?_⟩
  refine run_lay hm (lys := aliveL rows m ends kept) (by exact om308 hL hlaB) w (fun C P => ⟨by kernel_rfl, fun p hp => (nomatch hp), by decide⟩) ?_
  refine ⟨vD scr q m n rows start mk0 ends x F v10 kept v12 v13 (.ref M) (rowsV (aheadL rows start kept)) (rowsV (aliveL rows m ends kept)) (layV m (aheadL rows start kept)) (layV m (aliveL rows m ends kept)) .junk .junk, put_at 18 rfl rfl rfl, ?_⟩
  refine S_cons (S_tupsw ["was", "at"] (by rfl) ?_)
  refine E_tuple (A_cons ?_)
  refine E_tuple (A_cons ?_)
  refine E_copy ⟨by kernel_rfl, fun p hp => by rw [List.mem_singleton.mp hp]; exact gi_list w, by decide⟩ (l := (aheadL rows start kept).map fun ly => SV.lst (boolRow m ly)) ?_ (by rw [List.length_map, hlaA, sizeLine_eq]; exact om127 hL) (lay_in hm)
  refine E_name (get_at 17 rfl rfl) nofun ?_
  refine ⟨rfl, A_cons ?_⟩
  refine E_copy ⟨by kernel_rfl, fun p hp => by rw [List.mem_singleton.mp hp]; exact gi_list w, by decide⟩ (l := (aliveL rows m ends kept).map fun ly => SV.lst (boolRow m ly)) ?_ (by rw [List.length_map, hlaB, sizeLine_eq]; exact om127 hL) (lay_in hm)
  refine E_name (get_at 18 rfl rfl) nofun ?_
  refine ⟨rfl, A_cons ?_⟩
  refine E_copy ⟨by kernel_rfl, fun p hp => by rw [List.mem_singleton.mp hp]; exact gi_list w, by decide⟩ (l := kept.map iL) ?_ (by rw [List.length_map, hk, sizeLine_eq]; exact om124 hL) (rows_in fun r hr => (E0.kin r hr).1)
  refine E_name (get_at 11 rfl rfl) nofun ?_
  refine ⟨rfl, A_nil ⟨Nat.le_of_ble_eq_true rfl, ?_⟩⟩
  refine A_cons (E_callB (by repeat (first | exact List.mem_cons_self | apply List.mem_cons_of_mem)) (A_cons ?_))
  refine E_at (a := x) (y := .ref tr) ic258 (fun w => by kernel_rfl) ?_ (List.mem_cons_of_mem _ storeH_x) (by repeat (first | exact List.mem_cons_self | apply List.mem_cons_of_mem)) rfl ?_
  · refine E_name (get_at 8 rfl rfl) nofun ?_; exact ⟨rfl, rfl⟩
  refine A_nil ?_
  refine C_len_own (.inl (List.mem_cons_of_mem _ storeH_tr)) (by exact om153 htr) ?_
  refine A_nil ?_
  refine ⟨Nat.le_of_ble_eq_true rfl, _, vD scr q m n rows start mk0 ends x F v10 kept v12 v13 (.ref M) (rowsV (aheadL rows start kept)) (rowsV (aliveL rows m ends kept)) (layV m (aheadL rows start kept)) (layV m (aliveL rows m ends kept)) (.tup [layV m (aheadL rows start kept), layV m (aliveL rows m ends kept), rowsV kept]) (.int trail.length), rfl, rfl, .cons (vals₁ := vD scr q m n rows start mk0 ends x F v10 kept v12 v13 (.ref M) (rowsV (aheadL rows start kept)) (rowsV (aliveL rows m ends kept)) (layV m (aheadL rows start kept)) (layV m (aliveL rows m ends kept)) .junk (.int trail.length)) (put_at 20 rfl rfl rfl) (by repeat (first | exact List.mem_cons_self | apply List.mem_cons_of_mem)) (.cons (vals₁ := vD scr q m n rows start mk0 ends x F v10 kept v12 v13 (.ref M) (rowsV (aheadL rows start kept)) (rowsV (aliveL rows m ends kept)) (layV m (aheadL rows start kept)) (layV m (aliveL rows m ends kept)) (.tup [layV m (aheadL rows start kept), layV m (aliveL rows m ends kept), rowsV kept]) (.int trail.length)) (put_at 19 rfl rfl rfl) (by repeat (first | exact List.mem_cons_self | apply List.mem_cons_of_mem)) .nil), ?_⟩
  refine EvS.pre (G := storeH x d dm fs tr mk nw doms (firstsV F) trail ks ++ [machA M dM L m n rows start ends tw]) (D := []) ?_ (phE w A s hb E0 M dM x d dm fs tr mk nw doms trail ks tw scr mk0 q htr v10 v12 v13 .junk .junk .junk .junk .junk)
  rw [List.append_nil]
  exact List.perm_append_comm (l₁ := [_])
end
section
theorem Ents_cons {b : Addr} {bs : List Addr} {l : List SV} {ls : List (List SV)} : Ents (b :: bs) (l :: ls) = (b, .list l) :: Ents bs ls := rfl
theorem Ents_rev {bs : List Addr} {ls : List (List SV)} (h : bs.length = ls.length) : (Ents bs.reverse ls.reverse).Perm (Ents bs ls) := by
  unfold Ents
  have e : bs.reverse.zip ls.reverse = (bs.zip ls).reverse := by
    rw [List.zip_eq_zipWith, List.zip_eq_zipWith, List.reverse_zipWith h]
  rw [e, List.map_reverse]
  exact List.reverse_perm _
theorem Ents_mem : ∀ {bs : List Addr} {ls : List (List SV)} {i : Nat} {b : Addr} {l : List SV}, bs[i]? = some b → ls[i]? = some l → (b, AObj.list l) ∈ Ents bs ls
  | [], _, _, _, _, h, _ => by simp at h
  | _ :: _, [], _, _, _, _, h => by simp at h
  | c :: bs, k :: ls, 0, b, l, h1, h2 => by
    have e1 : c = b := by simpa using h1
    have e2 : k = l := by simpa using h2
    subst e1; subst e2; exact List.mem_cons_self
  | c :: bs, k :: ls, i + 1, b, l, h1, h2 => List.mem_cons_of_mem _ (Ents_mem (i := i) (by simpa using h1) (by simpa using h2))
theorem Ents_upd {l' : List SV} {R : AHeap} : ∀ {bs : List Addr} {ls : List (List SV)} {i : Nat} {b : Addr} {l : List SV}, bs[i]? = some b → ls[i]? = some l → HUpd (Ents bs ls ++ R) b (.list l) (.list l') (Ents bs (ls.set i l') ++ R)
  | [], _, _, _, _, h, _ => by simp at h
  | _ :: _, [], _, _, _, _, h => by simp at h
  | c :: bs, k :: ls, 0, b, l, h1, h2 => by
    have e1 : c = b := by simpa using h1
    have e2 : k = l := by simpa using h2
    subst e1; subst e2; exact .here
  | c :: bs, k :: ls, i + 1, b, l, h1, h2 => .next (Ents_upd (i := i) (by simpa using h1) (by simpa using h2))
theorem Take.behind {S R : AHeap} {e : Addr × AObj} (t : Take S e R) : ∀ P : AHeap, Take (P ++ S) e (P ++ R)
  | [] => t
  | y :: P => .next (t.behind P)
theorem Split.behind : ∀ (S P : AHeap), Split (P ++ S) S P
  | [], P => by rw [List.append_nil]; exact .nil
  | e :: S, P => .cons (Take.behind .here P) (Split.behind S P)
noncomputable def inD (d : List (Int × Int)) (u : Int) : Bool := d.any fun p => decide (p.1 ≤ u) && decide (u ≤ p.2)
theorem inD_iff {d : List (Int × Int)} {u : Int} : inD d u = true ↔ ∃ p ∈ d, p.1 ≤ u ∧ u ≤ p.2 := by
  unfold inD
  rw [List.any_eq_true]
  simp
theorem inD_without {d : List (Int × Int)} {u v : Int} (h : inD d u = true) (hne : u ≠ v) : inD (without d v) u = true := by
  obtain ⟨p, hp, h1, h2⟩ := inD_iff.mp h
  rw [inD_iff]
  unfold without
  by_cases hlt : u < v
  · refine ⟨(p.1, min p.2 (v - 1)), List.mem_append_left _ (List.mem_map.mpr ⟨p, List.mem_filter.mpr ⟨hp, ?_⟩, rfl⟩), h1, ?_⟩
    · have : p.1 ≤ v - 1 := by exact om309 h1 hlt
      simpa using this
    · show u ≤ min p.2 (v - 1); exact om310 h2 hlt
  · refine ⟨(max p.1 (v + 1), p.2), List.mem_append_right _ (List.mem_map.mpr ⟨p, List.mem_filter.mpr ⟨hp, ?_⟩, rfl⟩), ?_, h2⟩
    · have : p.2 ≥ v + 1 := by exact om311 hne h2 hlt
      simpa using this
    · show max p.1 (v + 1) ≤ u; exact om312 hne h1 hlt
theorem inD_ne {d : List (Int × Int)} {u : Int} (h : inD d u = true) : d ≠ [] := fun e => by subst e; simp [inD] at h
theorem without_len {d : List (Int × Int)} {v : Int} : (without d v).length ≤ 2 * d.length := by
  unfold without
  rw [List.length_append]
  have := upTo_len (d := d) (k := v - 1)
  have := fromOn_len (d := d) (k := v + 1)
  omega
theorem subs_inD : ∀ f ∈ subs3, ∀ u ∈ f, inD (fromVals f) u = true := by decide
theorem firstsV_eq {F : List (List Int)} : firstsV F = (F.map fromVals).map domV := by rw [List.map_map]; rfl
structure Drawn (rows : List (List Int)) (m n L : Nat) (start : Int) (ends : List Int) (F : List (List Int)) : Prop where
  T : Tab rows m n
  hF : F.length = L
  hL : 1 ≤ L ∧ L ≤ 4
  hs : 1 ≤ start ∧ start ≤ m
  he : ∀ q ∈ ends, 1 ≤ q ∧ q ≤ m
  hel : ends.length ≤ 3
  hes : ends.Pairwise (· ≤ ·)
  sub : ∀ f ∈ F, f ∈ subs3 ∧ ∀ l ∈ f, l ≤ n
structure Turn (L : Nat) (F kept : List (List Int)) (dl : List (List (Int × Int))) (j : Nat) : Prop where
  hk : kept.length = L
  hd : dl.length = L
  one : ∀ i (h : i < L), kept.getD i [] ≠ [] ∧ (kept.getD i []).Sublist (F.getD i []) ∧ (dl.getD i []).length ≤ 3 * 2 ^ j ∧ ∀ u ∈ kept.getD i [], inD (dl.getD i []) u = true
theorem pw_ne : ∀ {l : List Int}, l.Pairwise (· < ·) → l.Nodup := fun h => h.imp fun h e => absurd h (by exact om313 e)
section
variable {rows : List (List Int)} {m n L : Nat} {start : Int} {ends : List Int} {F kept : List (List Int)} {dl : List (List (Int × Int))} {j : Nat}
theorem Drawn.fin (E0 : Drawn rows m n L start ends F) {k : Nat} (h : k < L) : F.getD k [] ∈ F := by
  have : k < F.length := by rw [E0.hF]; exact h
  simp [List.getD, this]
theorem Drawn.turn0 (E0 : Drawn rows m n L start ends F) : Turn L F F (F.map fromVals) 0 := by
  refine ⟨E0.hF, by rw [List.length_map, E0.hF], fun i h => ?_⟩
  have h1 := (E0.sub _ (E0.fin h)).1
  have h2 := subs_in _ h1
  have e : (F.map fromVals).getD i [] = fromVals (F.getD i []) := by
    have : i < F.length := by rw [E0.hF]; exact h
    simp [List.getD, this]
  rw [e]
  exact ⟨h2.1.2.2.1, .refl _, by simpa using h2.2.2, subs_inD _ h1⟩
theorem Turn.later (t : Turn L F kept dl j) : Turn L F kept dl (j + 1) := ⟨t.hk, t.hd, fun i h => by
  obtain ⟨a, b, c, d⟩ := t.one i h
  exact ⟨a, b, by rw [Nat.pow_succ]; exact om314 c, d⟩⟩
theorem Turn.at (t : Turn L F kept dl j) {i : Nat} (h : i < L) : kept[i]? = some (kept.getD i []) ∧ dl[i]? = some (dl.getD i []) := by
  have := t.hk
  have := t.hd
  exact ⟨by simp [List.getD, show i < kept.length by omega], by simp [List.getD, show i < dl.length by exact om315 h this]⟩
theorem Turn.lot (E0 : Drawn rows m n L start ends F) (t : Turn L F kept dl j) {i : Nat} (h : i < L) : (kept.getD i []).length ≤ 3 ∧ (kept.getD i []).Nodup ∧ ∀ l ∈ kept.getD i [], 1 ≤ l ∧ l ≤ n := by
  obtain ⟨_, b, _, _⟩ := t.one i h
  have h1 := E0.sub _ (E0.fin h)
  have h2 := (subs_in _ h1.1).1
  exact ⟨Nat.le_trans b.length_le h2.1, (pw_ne h2.2.1).sublist b, fun l hl => ⟨(h2.2.2.2 l (b.subset hl)).1, h1.2 l (b.subset hl)⟩⟩
theorem Turn.strike (E0 : Drawn rows m n L start ends F) (t : Turn L F kept dl j) {i : Nat} (h : i < L) {l : Int} (hl : l ∈ kept.getD i []) (h1 : 1 < (kept.getD i []).length) :
    without (dl.getD i []) l ≠ [] ∧ ∀ d', SetDom (dl.getD i []) d' l → Turn L F (kept.set i ((kept.getD i []).erase l)) (dl.set i d') (j + 1) := by
  obtain ⟨a, b, c, d⟩ := t.one i h
  obtain ⟨_, nd, _⟩ := t.lot E0 h
  have hle : ((kept.getD i []).erase l).length = (kept.getD i []).length - 1 := List.length_erase_of_mem hl
  obtain ⟨u, hu⟩ : ∃ u, u ∈ (kept.getD i []).erase l := by
    cases e : (kept.getD i []).erase l with
    | nil => rw [e, List.length_nil] at hle; omega
    | cons u r => exact ⟨u, List.mem_cons_self⟩
  have hmem : ∀ u, u ∈ (kept.getD i []).erase l → u ∈ kept.getD i [] ∧ u ≠ l := fun u hu => ⟨List.mem_of_mem_erase hu, fun e => by
    subst e
    exact nd.not_mem_erase hu⟩
  refine ⟨inD_ne (inD_without (d u (hmem u hu).1) (hmem u hu).2), fun d' hd' => ⟨by rw [List.length_set, t.hk], by rw [List.length_set, t.hd], fun k hk => ?_⟩⟩
  have hkl := t.hk
  have hdl := t.hd
  by_cases e : k = i
  · subst e
    have e1 : (kept.set k ((kept.getD k []).erase l)).getD k [] = (kept.getD k []).erase l := by simp [List.getD, show k < kept.length by exact om315 hk hkl]
    have e2 : (dl.set k d').getD k [] = d' := by simp [List.getD, show k < dl.length by exact om315 hk hdl]
    rw [e1, e2]
    refine ⟨(fun e => by rw [e] at hu; cases hu), (List.erase_sublist ..).trans b, ?_, fun u hu => ?_⟩
    · rcases hd' with rfl | rfl
      · rw [Nat.pow_succ]; exact om314 c
      · have := without_len (d := dl.getD k []) (v := l)
        rw [Nat.pow_succ]; exact om316 c this
    · obtain ⟨hu1, hu2⟩ := hmem u hu
      rcases hd' with rfl | rfl
      · exact d u hu1
      · exact inD_without (d u hu1) hu2
  · have e1 : (kept.set i ((kept.getD i []).erase l)).getD k [] = kept.getD k [] := by
      simp only [List.getD]
      rw [List.getElem?_set_ne (fun h => e h.symm)]
    have e2 : (dl.set i d').getD k [] = dl.getD k [] := by
      simp only [List.getD]
      rw [List.getElem?_set_ne (fun h => e h.symm)]
    rw [e1, e2]
    exact t.later.one k hk
theorem Turn.facts (E0 : Drawn rows m n L start ends F) (t : Turn L F kept dl j) : Facts rows m n L start ends kept F where
  T := E0.T
  hk := t.hk
  hF := E0.hF
  hL := E0.hL.2
  hs := E0.hs
  he := E0.he
  hel := E0.hel
  hes := E0.hes
  sub := E0.sub
  kin := fun k hk => by
    obtain ⟨i, hi, e⟩ := List.mem_iff_getElem.mp hk
    have hil : i < L := by rw [← t.hk]; exact hi
    have := t.lot E0 hil
    have e2 : kept.getD i [] = k := by simp [List.getD, hi, e]
    rw [e2] at this
    exact ⟨this.1, this.2.2⟩
end
noncomputable abbrev mI (kept : List (List Int)) : List (List SV) := kept.map fun l => l.map SV.int
theorem mI_at {kept : List (List Int)} {i : Nat} {l : List Int} (h : kept[i]? = some l) : (mI kept)[i]? = some (l.map SV.int) := by rw [List.getElem?_map, h]; rfl
theorem mI_set {kept : List (List Int)} {i : Nat} {l : List Int} : (mI kept).set i (l.map SV.int) = mI (kept.set i l) := by
  unfold mI; rw [List.map_set]
theorem mI_rows {kept : List (List Int)} : SV.lst ((mI kept).map .lst) = rowsV kept := by
  unfold mI; rw [List.map_map]; rfl
noncomputable def vC (scr : SV) (q : Addr) (m n : Nat) (rows : List (List Int)) (start : Int) (mk0 : SV) (ends : List Int) (x : Addr) (v9 v11 v10 v12 v13 : SV) : List SV := [scr, .ref q, .int m, .int n, rowsV rows, .int start, mk0, iL ends, .ref x, v9, v10, v11, v12, v13, .junk, .junk, .junk, .junk, .junk, .junk, .junk, .junk, .junk, .junk, .junk, .junk]
noncomputable def hC (q : Addr) (arrows : List Int) (bs : List Addr) (x d dm fs tr mk nw : Addr) (F : List (List Int)) (t : Int) (kept : List (List Int)) (dl : List (List (Int × Int))) (trail : List SV) (ks : List Int) : AHeap := (q, quiv arrows t) :: (Ents bs (mI kept) ++ storeH x d dm fs tr mk nw (dl.map domV) (firstsV F) trail ks)
structure JC (L : Nat) (F : List (List Int)) (j : Nat) (t : Int) (kept : List (List Int)) (dl : List (List (Int × Int))) (trail : List SV) (ks : List Int) : Prop where
  ht : 0 ≤ t ∧ t ≤ 101 + 2 * (j : Int)
  hl : j ≤ 6
  tn : Turn L F kept dl j
  htr : trail.length ≤ j
  hks : ks.length ≤ j
noncomputable abbrev BC : List Stmt := inside (B448.drop 8)
set_option maxHeartbeats 16000000 in
theorem phC1c (w : World) (A : Around) (s : Shared) (hb : Heap) {rows : List (List Int)} {m n L : Nat} {start : Int} {ends : List Int} {F : List (List Int)} (E0 : Drawn rows m n L start ends F)
    (x d dm fs tr mk nw q : Addr) (scr mk0 : SV) (arrows : List Int) (ha : arrows.length ≤ 60) (bs : List Addr) (hbl : bs.length = L) (hbs : ∀ b ∈ bs, (c448 w A s hb).lo ≤ b) (P : PM) {j : Nat} {t : Int} {kept : List (List Int)} {dl : List (List (Int × Int))} {trail : List SV} {ks : List Int} (hu : JC L F j t kept dl trail ks) (hj : j < 6)
    {si : Int} (hs0 : 0 ≤ si) (hs1 : si < L) (w12 w13 : SV) (F0 : Fl → St → Prop)
    (fin : ∀ t' kept' dl' trail' ks' v10' v12' v13' (H' : AHeap), JC L F (j + 1) t' kept' dl' trail' ks' → H'.Perm (hC q arrows bs x d dm fs tr mk nw F t' kept' dl' trail' ks') → F0 .next ⟨vC scr q m n rows start mk0 ends x (rowsV F) (.lst (bs.map .ref)) v10' v12' v13', H'⟩) :
    SB ((c448 w A s hb).pin P) (BC.drop 1) ⟨vC scr q m n rows start mk0 ends x (rowsV F) (.lst (bs.map .ref)) (.int si) w12 w13, hC q arrows bs x d dm fs tr mk nw F (t + 1) kept dl trail ks⟩ F0 := by
  have hL := E0.hL
  have ht' := hu.ht
  have tn := hu.tn
  have htr := hu.htr
  have hks := hu.hks
  have hkl := tn.hk
  have hdl := tn.hd
  have hsi : si.toNat < L := by exact om166 hs0 hs1
  obtain ⟨hk1, hd1⟩ := tn.at hsi
  obtain ⟨lt1, lt2, lt3⟩ := tn.lot E0 hsi
  obtain ⟨on1, on2, on3, on4⟩ := tn.one _ hsi
  have hst := fun l => tn.strike E0 hsi (l := l)
  obtain ⟨i, hi⟩ : ∃ i, si.toNat = i := ⟨_, rfl⟩
  rw [hi] at hsi hk1 hd1 lt1 lt2 lt3 on1 on2 on3 on4 hst
  obtain ⟨lot, hlot⟩ : ∃ lot, kept.getD i [] = lot := ⟨_, rfl⟩
  obtain ⟨dd, hdd⟩ : ∃ dd, dl.getD i [] = dd := ⟨_, rfl⟩
  rw [hlot] at hk1 lt1 lt2 lt3 on1 on2 on4 hst
  rw [hdd] at hd1 on3 on4 hst
  obtain ⟨b, hbi⟩ : ∃ b, bs[i]? = some b := ⟨bs[i]'(by exact om259 hbl hsi), List.getElem?_eq_getElem _⟩
  have hll : 0 < lot.length := List.length_pos_iff.mpr on1
  have hmem : ∀ {t : Int}, (b, AObj.list (lot.map SV.int)) ∈ hC q arrows bs x d dm fs tr mk nw F t kept dl trail ks := fun {t} => List.mem_cons_of_mem _ (List.mem_append_left _ (Ents_mem hbi (mI_at hk1)))
  have hbat : ((bs.map SV.ref) : List SV)[si.toNat]? = some (.ref b) := by rw [hi, List.getElem?_map, hbi]; rfl
  have hbz : ((bs.map SV.ref) : List SV).length < 2 ^ 62 := by rw [List.length_map]; exact om317 hbl hL
  refine S_cons ?_
  refine S_asgn (by repeat (first | exact List.mem_cons_self | apply List.mem_cons_of_mem)) ?_; refine E_sub ?_; refine E_sub ?_; refine E_name (get_at 11 rfl rfl) nofun ?_; refine E_name (get_at 10 rfl rfl) nofun ?_
  refine O_lat (x := .ref b) (by exact om318 hs0) hbat hbz ?_
  refine E_num (arrows := arrows) (t := t + 1) (by repeat (first | exact List.mem_cons_self | apply List.mem_cons_of_mem)) (Nat.le_of_ble_eq_true rfl) (by exact get_at 1 rfl rfl) ha (by exact om319 hj ht') ?_
  refine E_callB (by repeat (first | exact List.mem_cons_self | apply List.mem_cons_of_mem)) (A_cons ?_)
  refine E_sub ?_; refine E_name (get_at 11 rfl rfl) nofun ?_; refine E_name (get_at 10 rfl rfl) nofun ?_
  refine O_lat (x := .ref b) (by exact om318 hs0) hbat hbz ?_
  refine A_nil ?_
  refine C_len_own (.inl hmem) (by rw [List.length_map]; exact om115 lt1) ?_
  rw [List.length_map]
  refine ⟨_, _, rfl, by exact om320 hll, .here, fun li hl0 hl1 => ?_⟩
  obtain ⟨l, hli⟩ : ∃ l, lot[li.toNat]? = some l := ⟨lot[li.toNat]'(by exact om321 hll hl1), List.getElem?_eq_getElem _⟩
  have hlin : l ∈ lot := List.mem_of_getElem? hli
  refine O_oat (x := .int l) (.inl hmem) hl0 (by rw [List.getElem?_map, hli]; rfl) (by rw [List.length_map]; exact om115 lt1) ?_
  refine ⟨vC scr q m n rows start mk0 ends x (rowsV F) (.lst (bs.map .ref)) (.int si) w12 (.int l), put_at 13 rfl rfl rfl, ?_⟩
  show SB _ _ ⟨vC scr q m n rows start mk0 ends x (rowsV F) (.lst (bs.map .ref)) (.int si) w12 (.int l), hC q arrows bs x d dm fs tr mk nw F (t + 1 + 1) kept dl trail ks⟩ _
  refine S_cons (S_if (T_cmp ?_))
  refine E_callB (by repeat (first | exact List.mem_cons_self | apply List.mem_cons_of_mem)) (A_cons ?_)
  refine E_sub ?_; refine E_name (get_at 11 rfl rfl) nofun ?_; refine E_name (get_at 10 rfl rfl) nofun ?_
  refine O_lat (x := .ref b) (by exact om318 hs0) hbat hbz ?_
  refine A_nil ?_
  refine C_len_own (.inl hmem) (by rw [List.length_map]; exact om115 lt1) ?_
  rw [List.length_map]
  refine E_int ?_; refine O_gti ?_
  refine ⟨_, rfl, fun h => ?_, fun h => ?_⟩
  · have h1 : 1 < lot.length := by
      have : (lot.length : Int) > 1 := by simpa using h
      exact om322 this
    obtain ⟨hw, hnext⟩ := hst l hlin h1
    refine S_cons (S_expr (E_methB "list.remove" ?_))
    refine E_sub ?_; refine E_name (get_at 11 rfl rfl) nofun ?_; refine E_name (get_at 10 rfl rfl) nofun ?_
    refine O_lat (x := .ref b) (by exact om318 hs0) hbat hbz ?_
    refine ⟨GM_list hmem PySem.F.slot_list_remove PySem.F.type_list_remove, ?_⟩
    refine A_cons ?_; refine E_name (get_at 13 rfl rfl) nofun ?_; refine A_nil ?_
    refine C_remove (.next (Ents_upd hbi (mI_at hk1))) hlin (by rw [sizeLine_eq]; exact om228 lt1) ?_
    rw [mI_set]
    refine S_cons (S_expr ?_)
    refine E_methF 220 fd220 (fun w => ⟨_, _, _, (ok220 w).obj.choose_spec.choose_spec.choose_spec⟩) ?_
    refine E_name (get_at 8 rfl rfl) nofun ?_
    refine ⟨GM_own (C := 258) (a := x) (d := d) (fs := storeF dm fs tr mk nw) (List.mem_cons_of_mem _ (List.mem_append_right _ (by repeat (first | exact List.mem_cons_self | apply List.mem_cons_of_mem)))) ic258 (fun w => by kernel_rfl) (fun w => by kernel_rfl) (storeF_not (by decide +kernel)), ?_⟩
    refine A_cons (E_tuple ?_)
    refine A_cons ?_; refine E_name (get_at 10 rfl rfl) nofun ?_; refine A_cons ?_; refine E_str ?_; refine A_cons ?_; refine E_name (get_at 13 rfl rfl) nofun ?_; refine A_nil ?_
    refine ⟨Nat.le_of_ble_eq_true rfl, ?_⟩
    refine A_nil ?_
    have hp2 : 3 * 2 ^ j ≤ 3 * 2 ^ 6 := Nat.mul_le_mul_left _ (Nat.pow_le_pow_right (by decide) (by exact om323 hj))
    refine call_spec (sp220 w x d dm fs tr mk nw (dl.map domV) (firstsV F) trail ks dd si l hs0 (by rw [hi, List.getElem?_map, hd1]; rfl) hw (by exact om324 on3 hp2) (by rw [List.length_map]; exact om325 hL hdl) (by exact om326 hj htr) (by exact om326 hj hks)) (Nat.le_of_ble_eq_true rfl)
      (Split.behind _ ((q, quiv arrows (t + 1 + 1)) :: Ents bs (mI (kept.set i (lot.erase l))))) ?_
    rintro sv H' ⟨d', trail', ks', a1, a2, a3, rfl⟩
    refine S_nil ?_; refine S_nil ?_
    rw [hi, ← List.map_set (f := domV)]
    exact fin (t + 1 + 1) (kept.set i (lot.erase l)) (dl.set i d') trail' ks' (.int si) w12 (.int l) _ ⟨by exact om327 ht', by exact om328 hj, hnext d' a1, by exact om329 htr a2, by exact om329 hks a3⟩ (List.perm_append_comm (l₂ := _ :: _))
  · refine S_nil ?_; refine S_nil ?_
    exact fin (t + 1 + 1) kept dl trail ks (.int si) w12 (.int l) _ ⟨by exact om327 ht', by exact om328 hj, tn.later, by exact om14 htr, by exact om14 hks⟩ (.refl _)
theorem EvS.tgt {c : Cx} {x : Str} {p : Pos} {y : SV} {body : List Stmt} {σ : St} {F : Fl → St → Prop} {vals' : List SV} (hp : Put c.ns σ.vals x y vals') (hx : x ∈ c.st) (h : SB c body ⟨vals', σ.heap⟩ F) : AT c (.Name x p) y σ fun σ₃ => SB c body σ₃ F := AT_name hp hx h
set_option maxHeartbeats 16000000 in
theorem phC1b (w : World) (A : Around) (s : Shared) (hb : Heap) {rows : List (List Int)} {m n L : Nat} {start : Int} {ends : List Int} {F : List (List Int)} (E0 : Drawn rows m n L start ends F)
    (x d dm fs tr mk nw q : Addr) (scr mk0 : SV) (arrows : List Int) (ha : arrows.length ≤ 60) (bs : List Addr) (hbl : bs.length = L) (hbs : ∀ b ∈ bs, (c448 w A s hb).lo ≤ b) (P : PM) {j : Nat} {t : Int} {kept : List (List Int)} {dl : List (List (Int × Int))} {trail : List SV} {ks : List Int} (hu : JC L F j t kept dl trail ks) (hj : j < 6) (w10 w12 w13 : SV)
    (jj : Nat) (hjj : jj = j) (F1 : Fl → St → Prop)
    (fin : ∀ t' kept' dl' trail' ks' v10' v12' v13' (H' : AHeap), JC L F (j + 1) t' kept' dl' trail' ks' → H'.Perm (hC q arrows bs x d dm fs tr mk nw F t' kept' dl' trail' ks') → ∃ G R, H'.Perm (G ++ R) ∧ F1 .next ⟨vC scr q m n rows start mk0 ends x (rowsV F) (.lst (bs.map .ref)) v10' v12' v13', G⟩) {p : Pos} :
    AT ((c448 w A s hb).pin P) (.Name "turn" p) (.int (0 + (jj : Int) * 1)) ⟨vC scr q m n rows start mk0 ends x (rowsV F) (.lst (bs.map .ref)) w10 w12 w13, hC q arrows bs x d dm fs tr mk nw F t kept dl trail ks⟩ fun σ₃ => SB ((c448 w A s hb).pin P) BC σ₃ F1 := by
  have hL := E0.hL
  have ht' := hu.ht
  have tn := hu.tn
  have htr := hu.htr
  have hks := hu.hks
  have hkl := tn.hk
  have hdl := tn.hd
  refine EvS.tgt (vals' := vC scr q m n rows start mk0 ends x (rowsV F) (.lst (bs.map .ref)) w10 (.int (0 + (jj : Int) * 1)) w13) (put_at 12 rfl rfl rfl) (by repeat (first | exact List.mem_cons_self | apply List.mem_cons_of_mem)) (EvS.sub ?_)
  refine EvS.abs (fun F0 => ∀ t' kept' dl' trail' ks' v10' v12' v13' (H' : AHeap), JC L F (j + 1) t' kept' dl' trail' ks' → H'.Perm (hC q arrows bs x d dm fs tr mk nw F t' kept' dl' trail' ks') → F0 .next ⟨vC scr q m n rows start mk0 ends x (rowsV F) (.lst (bs.map .ref)) v10' v12' v13', H'⟩) (fun t' kept' dl' trail' ks' v10' v12' v13' H' hJ hp => fin t' kept' dl' trail' ks' v10' v12' v13' H' hJ hp) fun F0 fin => ?_
  generalize SV.int (0 + (jj : Int) * 1) = w12
  refine S_cons ?_
  refine S_asgn (by repeat (first | exact List.mem_cons_self | apply List.mem_cons_of_mem)) ?_
  refine E_num (arrows := arrows) (t := t) (by repeat (first | exact List.mem_cons_self | apply List.mem_cons_of_mem)) (Nat.le_of_ble_eq_true rfl) (by exact get_at 1 rfl rfl) ha (by exact om330 hj ht') ?_
  refine E_callB (by repeat (first | exact List.mem_cons_self | apply List.mem_cons_of_mem)) (A_cons ?_)
  refine E_name (get_at 11 rfl rfl) nofun ?_; refine A_nil ?_
  refine C_len_lst (by rw [List.length_map]; exact om317 hbl hL) ?_
  rw [List.length_map, hbl]
  refine ⟨_, _, rfl, by exact om331 hL, .here, fun si hs0 hs1 => ?_⟩
  refine ⟨vC scr q m n rows start mk0 ends x (rowsV F) (.lst (bs.map .ref)) (.int si) w12 w13, put_at 10 rfl rfl rfl, ?_⟩
  refine phC1c w A s hb E0 x d dm fs tr mk nw q scr mk0 arrows ha bs hbl hbs P hu hj hs0 (by exact om332 hs1) w12 w13 F0 fin
set_option maxHeartbeats 16000000 in
theorem phC1 (w : World) (A : Around) (s : Shared) (hb : Heap) {rows : List (List Int)} {m n L : Nat} {start : Int} {ends : List Int} {F : List (List Int)} (E0 : Drawn rows m n L start ends F)
    (x d dm fs tr mk nw q : Addr) (scr mk0 : SV) (arrows : List Int) (ha : arrows.length ≤ 60) (t0 : Int) (ht : 0 ≤ t0 ∧ t0 ≤ 100) (bs : List Addr) (hbl : bs.length = L) (hbs : ∀ b ∈ bs, (c448 w A s hb).lo ≤ b) (v10 : SV) :
    SB (c448 w A s hb) (B448.drop 8) ⟨vC scr q m n rows start mk0 ends x (rowsV F) (.lst (bs.map .ref)) v10 .junk .junk, hC q arrows bs x d dm fs tr mk nw F t0 F (F.map fromVals) [] []⟩ Post448 := by
  have T := E0.T; have hm := T.m3; have hn := T.n3; have hL := E0.hL
  refine S_cons (S_for (E_callT (by repeat (first | exact List.mem_cons_self | apply List.mem_cons_of_mem)) (A_cons ?_)))
  refine E_num (arrows := arrows) (t := t0) (by repeat (first | exact List.mem_cons_self | apply List.mem_cons_of_mem)) (Nat.le_of_ble_eq_true rfl) (by exact get_at 1 rfl rfl) ha (by exact om333 ht) ?_
  refine E_int ?_
  refine ⟨6, _, rfl, by decide, .here, fun N hN0 hN1 => ?_⟩
  refine A_nil ?_
  refine C_range1 ?_
  refine ⟨_, it_up (a := 0) (b := N) (n := N.toNat) ⟨_, _, rfl⟩ (by exact om289) (by exact om334 hN0 hN1) (by exact om335), fun pre σ => ∃ u : Int × List (List Int) × List (List (Int × Int)) × List SV × List Int × SV × SV × SV, JC L F pre.length u.1 u.2.1 u.2.2.1 u.2.2.2.1 u.2.2.2.2.1 ∧
    σ = ⟨vC scr q m n rows start mk0 ends x (rowsV F) (.lst (bs.map .ref)) u.2.2.2.2.2.1 u.2.2.2.2.2.2.1 u.2.2.2.2.2.2.2, hC q arrows bs x d dm fs tr mk nw F u.1 u.2.1 u.2.2.1 u.2.2.2.1 u.2.2.2.2.1⟩, ⟨(t0 + 1, F, F.map fromVals, [], [], v10, .junk, .junk), ⟨⟨by omega, by simp; exact om336 ht⟩, Nat.zero_le _, E0.turn0, Nat.zero_le _, Nat.zero_le _⟩, rfl⟩, ?_, ?_⟩
  · rintro P pre y post σ₂ hx ⟨u, hu, rfl⟩
    obtain ⟨hj, rfl⟩ := rng_at hx
    generalize hjj : pre.length = j at hu hj
    generalize u.2.2.2.2.2.1 = w10
    generalize u.2.2.2.2.2.2.1 = w12
    generalize u.2.2.2.2.2.2.2 = w13
    generalize u.2.2.2.2.1 = ks at hu ⊢
    generalize u.2.2.2.1 = trail at hu ⊢
    generalize u.2.2.1 = dl at hu ⊢
    generalize u.2.1 = kept at hu ⊢
    generalize u.1 = t at hu ⊢
    refine phC1b w A s hb E0 x d dm fs tr mk nw q scr mk0 arrows ha bs hbl hbs P hu (by exact om337 hN1 hj) w10 w12 w13 j rfl _ fun t' kept' dl' trail' ks' v10' v12' v13' H' hJ hp => ?_
    exact ⟨hC q arrows bs x d dm fs tr mk nw F t' kept' dl' trail' ks', [], by rw [List.append_nil]; exact hp, (t', kept', dl', trail', ks', v10', v12', v13'), by rw [List.length_append, List.length_singleton, hjj]; exact hJ, rfl⟩
  · rintro σ₂ ⟨u, hu, rfl⟩
    refine EvS.freezeAll (x := "kept") (bs := bs) (ls := mI u.2.1) (vals' := vC scr q m n rows start mk0 ends x (rowsV F) (.lst ((mI u.2.1).map .lst)) u.2.2.2.2.2.1 u.2.2.2.2.2.2.1 u.2.2.2.2.2.2.2) (H' := (q, quiv arrows u.1) :: storeH x d dm fs tr mk nw (u.2.2.1.map domV) (firstsV F) u.2.2.2.1 u.2.2.2.2.1) ?_ (by rw [List.length_map, hu.tn.hk, hbl]) hbs (by exact get_at 11 rfl rfl) (put_at 11 rfl rfl rfl) ?_
    · exact (List.perm_middle (l₁ := Ents bs (mI u.2.1))).symm
    rw [mI_rows]
    refine EvS.pre (G := storeH x d dm fs tr mk nw (u.2.2.1.map domV) (firstsV F) u.2.2.2.1 u.2.2.2.2.1) (D := [(q, quiv arrows u.1)]) (List.perm_append_comm (l₁ := [_])) ?_
    exact phD w A s hb (hu.tn.facts E0) x d dm fs tr mk nw (u.2.2.1.map domV) u.2.2.2.1 u.2.2.2.2.1 scr mk0 q (by have := hu.htr; have := hu.hl; omega) _ _ _
set_option maxHeartbeats 16000000 in
theorem phC (w : World) (A : Around) (s : Shared) (hb : Heap) {rows : List (List Int)} {m n L : Nat} {start : Int} {ends : List Int} {F : List (List Int)} (E0 : Drawn rows m n L start ends F)
    (x d dm fs tr mk nw q fa : Addr) (scr mk0 : SV) (arrows : List Int) (ha : arrows.length ≤ 60) (t0 : Int) (ht : 0 ≤ t0 ∧ t0 ≤ 100) (hfa : (c448 w A s hb).lo ≤ fa) (v10 : SV) :
    SB (c448 w A s hb) (B448.drop 7) ⟨vC scr q m n rows start mk0 ends x (.ref fa) .junk v10 .junk .junk, (q, quiv arrows t0) :: (fa, .list (F.map iL)) :: storeH x d dm fs tr mk nw (firstsV F) (firstsV F) [] []⟩ Post448 := by
  have hF := E0.hF
  have hL := E0.hL
  refine EvS.freezeVar (x := "firsts") (a := fa) (l := F.map iL) (vals' := vC scr q m n rows start mk0 ends x (rowsV F) .junk v10 .junk .junk) (by exact get_at 9 rfl rfl) (.next .here) hfa (put_at 9 rfl rfl rfl) ?_
  refine S_cons ?_
  refine S_lcO ["lot"] [] [("list", .type "list")] (by rfl) ⟨by kernel_rfl, fun p hp => by rw [List.mem_singleton.mp hp]; exact gi_list w, by decide⟩ (by repeat (first | exact List.mem_cons_self | apply List.mem_cons_of_mem)) ?_
  refine E_name (get_at 9 rfl rfl) nofun ?_
  refine ⟨_, [], .lst _, .nil, ?_⟩
  refine run_one (fun pre acc H => ∃ (bs : List Addr) (ls qs : List (List Int)), F = ls ++ qs ∧ pre = ls.map iL ∧ acc = bs.map .ref ∧ bs.length = ls.length ∧ (∀ b ∈ bs, (c448 w A s hb).lo ≤ b) ∧ H = Ents bs.reverse (mI ls).reverse ++ ((q, quiv arrows t0) :: storeH x d dm fs tr mk nw (firstsV F) (firstsV F) [] [])) ⟨[], [], F, rfl, rfl, rfl, rfl, fun _ h => (nomatch h), rfl⟩ ?_ ?_ ?_
  · rintro pre acc H ⟨bs, ls, qs, hls, rfl, rfl, hbl, _, rfl⟩
    have := congrArg List.length hls
    rw [List.length_append] at this
    rw [List.length_map, sizeLine_eq]; exact om338 hF hL hbl this
  · rintro C P pre y post acc H hx ⟨bs, ls', qs', hls', rfl, rfl, hbl, hbs, rfl⟩
    obtain ⟨ls, l, qs, hls, h1, rfl⟩ := split_map hx
    obtain rfl := mapii h1
    have hl3 := (subs_in _ (E0.sub l (by rw [hls]; simp)).1).1.1
    refine AT_name .here (by repeat (first | exact List.mem_cons_self | apply List.mem_cons_of_mem)) ?_
    refine TT_nil ⟨fun _ => ?_, fun h => (nomatch h)⟩
    refine E_callT (by repeat (first | exact List.mem_cons_self | apply List.mem_cons_of_mem)) (A_cons ?_)
    refine E_name (get_at 0 rfl rfl) nofun ?_; refine A_nil ?_
    refine C_list_lst (by rw [List.length_map, sizeLine_eq]; exact om228 hl3) fun b hb => ?_
    refine ⟨⟨[_], rfl, rfl⟩, bs ++ [b], ls' ++ [l], qs, hls.trans (by simp), by simp, by simp, by simp [hbl], fun b' hb' => ?_, ?_⟩
    · rcases List.mem_append.mp hb' with h | h
      · exact hbs b' h
      · rw [List.mem_singleton.mp h]; exact hb
    · show _ = Ents (bs ++ [b]).reverse (mI (ls' ++ [l])).reverse ++ _
      unfold mI
      rw [List.reverse_append, List.map_append, List.reverse_append]; rfl
  · rintro acc H ⟨bs, ls, qs, hls, h1, rfl, hbl, hbs, rfl⟩ D hD
    obtain rfl := mapii h1
    refine ⟨vC scr q m n rows start mk0 ends x (rowsV F) (.ref D) v10 .junk .junk, put_at 11 rfl rfl rfl, ?_⟩
    refine EvS.freezeVar (x := "kept") (a := D) (l := bs.map .ref) (vals' := vC scr q m n rows start mk0 ends x (rowsV F) (.lst (bs.map .ref)) v10 .junk .junk) (by exact get_at 11 rfl rfl) .here hD (put_at 11 rfl rfl rfl) ?_
    refine EvS.pre (G := hC q arrows bs x d dm fs tr mk nw F t0 F (F.map fromVals) [] []) (D := []) ?_ ?_
    · rw [List.append_nil]
      unfold hC
      rw [firstsV_eq]
      exact List.perm_middle.trans ((List.Perm.append_right _ (Ents_rev (by rw [List.length_map, hbl]))).cons _)
    exact phC1 w A s hb E0 x d dm fs tr mk nw q scr mk0 arrows ha t0 ht bs (by rw [hbl, hF]) hbs v10
end
section
theorem EvU.weak {c : Cx} {xs : List SV} {t : List Value → Sem Unit} {σ : St} {Q Q' : St → Prop} (k : ∀ σ', Q σ' → Q' σ') (h : EvU c xs t σ Q) : EvU c xs t σ Q' := fun g s vs R r =>
  wpAny_mono (h g s vs R r) (fun v s' ⟨g', σ', a, b, e⟩ => ⟨g', σ', a, b, k _ e⟩) fun _ _ f => f
structure JB (n : Nat) (j : Nat) (L : Nat) (F : List (List Int)) (t : Int) : Prop where
  ht : 0 ≤ t ∧ t ≤ 51 + (j : Int)
  hj : j ≤ L
  hl : F.length = j
  hs : ∀ f ∈ F, f ∈ subs3 ∧ ∀ l ∈ f, l ≤ n
theorem JB.snoc {n j L : Nat} {F : List (List Int)} {t : Int} (b : JB n j L F t) (hj : j < L) {f : List Int} (hf : f ∈ subs3) (hl : ∀ l ∈ f, l ≤ n) : JB n (j + 1) L (F ++ [f]) (t + 1) where
  ht := by have := b.ht; exact om339 this
  hj := hj
  hl := by rw [List.length_append, b.hl]; rfl
  hs := fun g hg => by
    rcases List.mem_append.mp hg with h | h
    · exact b.hs g h
    · rw [List.mem_singleton.mp h]; exact ⟨hf, hl⟩
noncomputable def hB (q : Addr) (arrows : List Int) (fa x d dm fs tr mk nw : Addr) (t : Int) (F : List (List Int)) : AHeap := (q, quiv arrows t) :: (fa, .list (F.map iL)) :: storeH x d dm fs tr mk nw (firstsV F) (firstsV F) [] []
noncomputable abbrev BB : List Stmt := inside (B448.drop 6)
theorem firstsV_snoc {F : List (List Int)} {f : List Int} : firstsV F ++ [domV (fromVals f)] = firstsV (F ++ [f]) := by simp only [firstsV, List.map_append, List.map_cons, List.map_nil]
set_option maxHeartbeats 16000000 in
theorem phB2 (w : World) (A : Around) (s : Shared) (hb : Heap) {rows : List (List Int)} {m n : Nat} {start : Int} {ends : List Int} (P : PM) {j L : Nat} {F : List (List Int)} {f : List Int} {t : Int} (hFl : F.length = j) (hj : j < L) (hL2 : L ≤ 4) (hsub : f ∈ subs3)
    (x d dm fs tr mk nw q fa : Addr) (scr v6 : SV) (arrows : List Int) (F0 : Fl → St → Prop)
    (fin : ∀ H' : AHeap, H'.Perm (hB q arrows fa x d dm fs tr mk nw t (F ++ [f])) → F0 .next ⟨vC scr q m n rows start v6 ends x (.ref fa) .junk (.int j) .junk .junk, H'⟩) :
    SB ((c448 w A s hb).pin P) (BB.drop 2) ⟨vC scr q m n rows start v6 ends x (.ref fa) .junk (.int j) .junk .junk, (q, quiv arrows t) :: (fa, .list ((F ++ [f]).map iL)) :: storeH x d dm fs tr mk nw (firstsV F) (firstsV F) [] []⟩ F0 := by
  have hsf := subs_in f hsub
  refine S_cons (S_expr ?_)
  refine E_methF 129 fd129 (fun w => ⟨_, _, _, (ok129 w).obj.choose_spec.choose_spec.choose_spec⟩) ?_
  refine E_name (get_at 8 rfl rfl) nofun ?_
  refine ⟨GM_own (C := 258) (a := x) (d := d) (fs := storeF dm fs tr mk nw) (List.mem_cons_of_mem _ (List.mem_cons_of_mem _ storeH_x)) ic258 (fun w => by kernel_rfl) (fun w => by kernel_rfl) (storeF_not (by decide +kernel)), ?_⟩
  refine A_cons ?_
  refine E_callF (a := 35) (fd := fd35) (by repeat (first | exact List.mem_cons_self | apply List.mem_cons_of_mem)) (fun w => ⟨_, _, _, (ok35 w).obj.choose_spec.choose_spec.choose_spec⟩) (A_cons ?_)
  refine E_sub ?_; refine E_name (get_at 9 rfl rfl) nofun ?_; refine E_name (get_at 10 rfl rfl) nofun ?_
  refine O_oat (x := iL f) (.inl (List.mem_cons_of_mem _ List.mem_cons_self)) (by exact om285) (by rw [Int.toNat_natCast, List.getElem?_map, ← hFl]; simp) (by rw [List.length_map, List.length_append, List.length_singleton]; exact om340 hFl hj hL2) ?_
  refine A_nil ?_
  refine call_spec (sp35 w f (by exact om341 hsf) (hsf.1.2.1.imp fun h => by exact om342 h)) (Nat.le_of_ble_eq_true rfl) .nil ?_
  rintro sv H' ⟨rfl, rfl⟩
  try dsimp only
  refine A_nil ?_
  refine call_spec (sp129 w x d dm fs tr mk nw (firstsV F) (firstsV F) [] [] (fromVals f) hsf.2.1 (by rw [List.length_map]; exact om343 hFl hj hL2) (by rw [List.length_map]; exact om343 hFl hj hL2)) (Nat.le_of_ble_eq_true rfl)
    (Split.behind _ [(q, quiv arrows t), (fa, .list ((F ++ [f]).map iL))]) ?_
  rintro sv H' rfl
  try dsimp only
  rw [firstsV_snoc]
  refine S_nil ?_
  exact fin _ (List.perm_append_comm (l₂ := [_, _]))
set_option maxHeartbeats 16000000 in
theorem phB1 (w : World) (A : Around) (s : Shared) (hb : Heap) {rows : List (List Int)} {m n : Nat} {start : Int} {ends : List Int} (hnn : n = 2 ∨ n = 3) (P : PM) {j L : Nat} {F : List (List Int)} {t : Int} (b : JB n j L F t) (hj : j < L) (hL2 : L ≤ 4)
    (x d dm fs tr mk nw q fa : Addr) (scr v6 v10 : SV) (arrows : List Int) (ha : arrows.length ≤ 60) (jj : Nat) (hjj : jj = j) (F0 : Fl → St → Prop)
    (fin : ∀ (F' : List (List Int)) t' v6' v10' (H' : AHeap), JB n (j + 1) L F' t' → H'.Perm (hB q arrows fa x d dm fs tr mk nw t' F') → F0 .next ⟨vC scr q m n rows start v6' ends x (.ref fa) .junk v10' .junk .junk, H'⟩) {p : Pos} :
    AT ((c448 w A s hb).pin P) (.Name "spot" p) (.int (0 + (jj : Int) * 1)) ⟨vC scr q m n rows start v6 ends x (.ref fa) .junk v10 .junk .junk, hB q arrows fa x d dm fs tr mk nw t F⟩ fun σ₃ => SB ((c448 w A s hb).pin P) BB σ₃ F0 := by
  have ht' := b.ht
  have hp := pow48 hnn
  have hn3 : n ≤ 3 := by exact om344 hnn
  rw [hjj, show (0 : Int) + (j : Int) * 1 = (j : Int) by exact om283]
  refine EvS.tgt (vals' := vC scr q m n rows start v6 ends x (.ref fa) .junk (.int j) .junk .junk) (put_at 10 rfl rfl rfl) (by repeat (first | exact List.mem_cons_self | apply List.mem_cons_of_mem)) ?_
  try dsimp only
  refine S_cons ?_
  refine S_asgn (by repeat (first | exact List.mem_cons_self | apply List.mem_cons_of_mem)) ?_; refine E_bin ?_; refine E_bin ?_; refine E_bin ?_; refine E_int ?_; refine E_name (get_at 3 rfl rfl) nofun ?_
  refine O_pow (a := 2) (n := (n : Int)) (by exact om285) (by exact om345 hnn) (by decide) ?_
  refine E_int ?_; refine O_subi ?_
  refine E_num (arrows := arrows) (t := t) (by repeat (first | exact List.mem_cons_self | apply List.mem_cons_of_mem)) (Nat.le_of_ble_eq_true rfl) (by exact get_at 1 rfl rfl) ha (by exact om346 hj hL2 ht') ?_
  refine E_bin ?_; refine E_bin ?_; refine E_int ?_; refine E_name (get_at 3 rfl rfl) nofun ?_
  refine O_pow (a := 2) (n := (n : Int)) (by exact om285) (by exact om345 hnn) (by decide) ?_
  refine E_int ?_; refine O_subi ?_
  refine ⟨_, _, rfl, by exact om347 hp, .here, fun X hX0 hX1 => ?_⟩
  refine O_subi ?_
  have hM : 1 ≤ (2 : Int) ^ ((n : Int)).toNat - 1 - X ∧ (2 : Int) ^ ((n : Int)).toNat - 1 - X ≤ 2 ^ n - 1 := by
    rw [Int.toNat_natCast] at hX1 ⊢
    exact om348 hX0 hX1
  generalize (2 : Int) ^ ((n : Int)).toNat - 1 - X = M at hM ⊢
  refine ⟨vC scr q m n rows start (.int M) ends x (.ref fa) .junk (.int j) .junk .junk, put_at 6 rfl rfl rfl, ?_⟩
  try dsimp only
  have hsub := bitsL_sub hnn hM.1 hM.2
  refine S_cons (S_expr (E_app ?_))
  refine E_name (get_at 9 rfl rfl) nofun ?_
  refine ⟨_, _, rfl, List.mem_cons_of_mem _ List.mem_cons_self, ?_⟩
  refine E_lc ["k"] ["mask"] [] ⟨by kernel_rfl, fun p hp => (nomatch hp), by decide⟩ ?_
  refine E_callT (by repeat (first | exact List.mem_cons_self | apply List.mem_cons_of_mem)) (A_cons ?_)
  refine E_name (get_at 3 rfl rfl) nofun ?_; refine A_nil ?_
  refine C_range1 ?_
  refine ⟨_, [.int M], it_up (a := 0) (b := n) (n := n) ⟨_, _, rfl⟩ (by exact om289) (by exact om349 hnn) (by exact om297), .cons (by exact get_at 6 rfl rfl) .nil, ?_⟩
  refine run_bits hn3 ?_
  refine ⟨F.map iL, (q, quiv arrows (t + 1)) :: (fa, .list ((F ++ [bitsL M n]).map iL)) :: storeH x d dm fs tr mk nw (firstsV F) (firstsV F) [] [], by rw [List.map_append]; exact .next .here, by rw [List.length_map, b.hl, sizeLine_eq]; exact om350 hj hL2, ?_⟩
  exact phB2 w A s hb P b.hl hj hL2 hsub x d dm fs tr mk nw q fa scr (.int M) arrows F0 fun H' hp => fin _ (t + 1) _ _ H' (b.snoc hj hsub fun l hl => (bitsL_in l hl).2) hp
set_option maxHeartbeats 16000000 in
theorem phB (w : World) (A : Around) (s : Shared) (hb : Heap) {rows : List (List Int)} {m n : Nat} {start : Int} {ends : List Int} (T : Tab rows m n) (hnn : n = 2 ∨ n = 3) (hs : 1 ≤ start ∧ start ≤ m) (he : ∀ q ∈ ends, 1 ≤ q ∧ q ≤ m) (hel : ends.length ≤ 3) (hes : ends.Pairwise (· ≤ ·))
    (x d dm fs tr mk nw q fa : Addr) (scr mk0 : SV) (arrows : List Int) (ha : arrows.length ≤ 60) (t0 : Int) (ht : 0 ≤ t0 ∧ t0 ≤ 50) (hfa : (c448 w A s hb).lo ≤ fa) :
    SB (c448 w A s hb) (B448.drop 6) ⟨vC scr q m n rows start mk0 ends x (.ref fa) .junk .junk .junk .junk, (fa, .list []) :: (storeH x d dm fs tr mk nw [] [] [] [] ++ [(q, quiv arrows t0)])⟩ Post448 := by
  refine EvS.pre (G := hB q arrows fa x d dm fs tr mk nw t0 []) (D := []) ?_ ?_
  · rw [List.append_nil]
    exact List.perm_append_comm (l₁ := _ :: _) (l₂ := [_])
  refine S_cons (S_for (E_callT (by repeat (first | exact List.mem_cons_self | apply List.mem_cons_of_mem)) (A_cons ?_)))
  refine E_bin ?_; refine E_int ?_
  refine E_num (arrows := arrows) (t := t0) (by repeat (first | exact List.mem_cons_self | apply List.mem_cons_of_mem)) (Nat.le_of_ble_eq_true rfl) (by exact get_at 1 rfl rfl) ha (by exact om351 ht) ?_
  refine E_int ?_
  refine ⟨3, _, rfl, by decide, .here, fun N hN0 hN1 => ?_⟩
  obtain ⟨L, hLL, hL1, hL2⟩ : ∃ L : Nat, (2 + N : Int) = L ∧ 1 ≤ L ∧ L ≤ 4 := ⟨(2 + N).toNat, by exact om352 hN0, by exact om353 hN0, by exact om354 hN1⟩
  refine O_add ?_; refine A_nil ?_
  refine C_range1 ?_
  rw [hLL]
  refine ⟨_, it_up (a := 0) (b := L) (n := L) ⟨_, _, rfl⟩ (by exact om289) (by exact om355 hN1 hLL) (by exact om297), fun pre σ => ∃ u : List (List Int) × Int × SV × SV, JB n pre.length L u.1 u.2.1 ∧
    σ = ⟨vC scr q m n rows start u.2.2.1 ends x (.ref fa) .junk u.2.2.2 .junk .junk, hB q arrows fa x d dm fs tr mk nw u.2.1 u.1⟩, ⟨([], t0 + 1, mk0, .junk), ⟨⟨by show (0 : Int) ≤ t0 + 1; exact om356 ht, by show t0 + 1 ≤ 51 + ((0 : Nat) : Int); exact om357 ht⟩, Nat.zero_le _, rfl, fun _ h => (nomatch h)⟩, rfl⟩, ?_, ?_⟩
  · rintro P pre y post σ₂ hx ⟨u, hu, rfl⟩
    obtain ⟨hj, rfl⟩ := rng_at hx
    generalize hjj : pre.length = j at hu hj
    generalize u.2.2.1 = v6
    generalize u.2.2.2 = v10
    generalize u.2.1 = t at hu ⊢
    generalize u.1 = F at hu ⊢
    refine EvU.weak (fun σ₃ h => EvS.sub h) (phB1 w A s hb hnn P hu hj hL2 x d dm fs tr mk nw q fa scr v6 v10 arrows ha j rfl _ fun F' t' v6' v10' H' hJ hp => ?_)
    exact ⟨hB q arrows fa x d dm fs tr mk nw t' F', [], by rw [List.append_nil]; exact hp, (F', t', v6', v10'), by rw [List.length_append, List.length_singleton, hjj]; exact hJ, rfl⟩
  · rintro σ₂ ⟨u, hu, rfl⟩
    rw [List.length_map, rngL_len] at hu
    exact phC w A s hb ⟨T, hu.hl, ⟨hL1, hL2⟩, hs, he, hel, hes, hu.hs⟩ x d dm fs tr mk nw q fa scr u.2.2.1 arrows ha u.2.1 (by have := hu.ht; exact om358 hN1 hLL this) hfa _
end
section
theorem nat_of {v : Int} (h0 : 0 ≤ v) (h1 : v < 2) : ∃ m : Nat, 2 + v = (m : Int) ∧ (m = 2 ∨ m = 3) := ⟨(2 + v).toNat, by exact om352 h0, by exact om359 h0 h1⟩
set_option maxHeartbeats 16000000 in
theorem run_moves {c : Cx} {iter : Expr} {scope scope2 : Scope} {Q : List SV → AHeap → Prop} {p1 p2 p3 p4 p5 p6 p7 p8 p9 p10 p11 p12 p13 : Pos} {k1 : Nat} (w : World) {m n : Nat} (hm : m ≤ 3) (hn : n ≤ 3) {q : Addr} {arrows : List Int} (ha : arrows.length ≤ 60) (hlv : 1 ≤ c.lv)
    (ci : ∀ C P, CompIn (compCx c scope ["k"] ["quiver", "many", "letters"] [("range", .type "range")] C P) scope2 ["letter"] ["quiver", "many"] [("_law_number", .ref 414)])
    (fin : ∀ (rows : List (List Int)) (t : Int), rows.length = m → (∀ r ∈ rows, r.length = n ∧ ∀ x ∈ r, 0 ≤ x ∧ x ≤ m) → (0 ≤ t ∧ t ≤ 2 + 3 * (m : Int)) → Q (rows.map iL) [(q, quiv arrows t)]) :
    CompRun c (.ListComp (.Call (.Name (Str.ofString "_law_number") p1) [.Name (Str.ofString "quiver") p2, .BinOp (.Name (Str.ofString "many") p3) .Add (.Constant (.int 1) k1 p4) p5] [] p6) [⟨.Name (Str.ofString "letter") p7, .Call (.Name (Str.ofString "range") p8) [.Name (Str.ofString "letters") p9] [] p10, [], 0⟩] scope2 p11)
      (.Name (Str.ofString "k") p12) iter [] [] scope p13 ["k"] ["quiver", "many", "letters"] [("range", .type "range")] [.ref q, .int m, .int n] [(q, quiv arrows (0 + 1 + 1))] ((rngL 0 1 m).map .int) Q := by
  refine run_one (fun pre acc H => pre.length ≤ m ∧ ∃ (rows : List (List Int)) (t : Int), acc = rows.map iL ∧ rows.length = pre.length ∧ (∀ r ∈ rows, r.length = n ∧ ∀ x ∈ r, 0 ≤ x ∧ x ≤ m) ∧ (0 ≤ t ∧ t ≤ 2 + 3 * (pre.length : Int)) ∧ H = [(q, quiv arrows t)]) ⟨Nat.zero_le _, [], _, rfl, rfl, fun _ h => (nomatch h), ⟨by exact om360, by simp⟩, rfl⟩ ?_ ?_ ?_
  · rintro pre acc H ⟨h1, rows, t, rfl, hrl, _, _, rfl⟩
    rw [List.length_map, sizeLine_eq]; exact om361 hm h1 hrl
  · rintro C P pre y post acc H hx ⟨_, rows, t, rfl, hrl, hrr, ht, rfl⟩
    obtain ⟨hj, rfl⟩ := rng_at hx
    refine AT_name .here (by repeat (first | exact List.mem_cons_self | apply List.mem_cons_of_mem)) ?_
    try dsimp only
    refine TT_nil ⟨fun _ => ?_, fun h => (nomatch h)⟩
    refine E_lc ["letter"] ["quiver", "many"] [("_law_number", .ref 414)] (ci C P) ?_
    refine E_callT (by repeat (first | exact List.mem_cons_self | apply List.mem_cons_of_mem)) (A_cons ?_)
    refine E_name (get_at 3 rfl rfl) nofun ?_; refine A_nil ?_
    refine C_range1 ?_
    refine ⟨_, [.ref q, .int m], it_up (a := 0) (b := n) (n := n) ⟨_, _, rfl⟩ (by exact om289) (by exact om362 hn) (by exact om297), .cons (by exact get_at 1 rfl rfl) (.cons (by exact get_at 2 rfl rfl) .nil), ?_⟩
    refine run_one (fun pre2 acc H => pre2.length ≤ n ∧ ∃ (r : List Int) (t' : Int), acc = r.map .int ∧ r.length = pre2.length ∧ (∀ x ∈ r, 0 ≤ x ∧ x ≤ m) ∧ (0 ≤ t' ∧ t' ≤ t + (pre2.length : Int)) ∧ H = [(q, quiv arrows t')]) ⟨Nat.zero_le _, [], t, rfl, rfl, fun _ h => (nomatch h), ⟨ht.1, by simp⟩, rfl⟩ ?_ ?_ ?_
    · rintro pre2 acc H ⟨h1, r, t', rfl, hrl, _, _, rfl⟩
      rw [List.length_map, sizeLine_eq]; exact om361 hn h1 hrl
    · rintro C2 P2 pre2 y2 post2 acc2 H2 hx2 ⟨_, r, t', rfl, hrl2, hr2, ht2, rfl⟩
      obtain ⟨hi, rfl⟩ := rng_at hx2
      refine AT_name .here (by repeat (first | exact List.mem_cons_self | apply List.mem_cons_of_mem)) ?_
      try dsimp only
      refine TT_nil ⟨fun _ => ?_, fun h => (nomatch h)⟩
      refine E_num (arrows := arrows) (t := t') (by repeat (first | exact List.mem_cons_self | apply List.mem_cons_of_mem)) hlv (by exact get_at 1 rfl rfl) ha (by omega) ?_
      refine E_bin ?_; refine E_name (get_at 2 rfl rfl) nofun ?_; refine E_int ?_; refine O_add ?_
      refine ⟨_, _, rfl, by exact om363, .here, fun v hv0 hv1 => ?_⟩
      refine ⟨⟨[_], rfl, rfl⟩, by rw [List.length_append, List.length_singleton]; exact om230 hi, r ++ [v], t' + 1, by rw [List.map_append]; rfl, by rw [List.length_append, List.length_append, List.length_singleton, List.length_singleton, hrl2], fun x hx => ?_, ⟨by exact om364 ht2, by rw [List.length_append, List.length_singleton]; exact om365 ht2⟩, rfl⟩
      rcases List.mem_append.mp hx with h | h
      · exact hr2 x h
      · rw [List.mem_singleton.mp h]; exact om366 hv0 hv1
    · rintro acc2 H2 ⟨_, r, t', rfl, hrl2, hr2, ht2, rfl⟩
      rw [List.length_map, rngL_len] at hrl2 ht2
      refine ⟨⟨[_], rfl, rfl⟩, by rw [List.length_append, List.length_singleton]; exact om230 hj, rows ++ [r], t', by rw [List.map_append]; rfl, by rw [List.length_append, List.length_append, List.length_singleton, List.length_singleton, hrl], fun x hx => ?_, ⟨by exact om367 ht2, by rw [List.length_append, List.length_singleton]; exact om368 hn ht ht2⟩, rfl⟩
      rcases List.mem_append.mp hx with h | h
      · exact hrr x h
      · rw [List.mem_singleton.mp h]; exact ⟨hrl2, hr2⟩
  · rintro acc H ⟨_, rows, t, rfl, hrl, hrr, ht, rfl⟩
    rw [List.length_map, rngL_len] at hrl ht
    exact fin rows t hrl hrr ht
set_option maxHeartbeats 16000000 in
theorem phA (w : World) (A : Around) (s : Shared) (hb : Heap) (ns : List Int) (hns : ns.length ≤ 63) : SB (c448 w A s hb) (B448.drop 0) ⟨[.lst (ns.map .int), .junk, .junk, .junk, .junk, .junk, .junk, .junk, .junk, .junk, .junk, .junk, .junk, .junk, .junk, .junk, .junk, .junk, .junk, .junk, .junk, .junk, .junk, .junk, .junk, .junk], []⟩ Post448 := by
  refine S_cons ?_
  refine S_asgn (by repeat (first | exact List.mem_cons_self | apply List.mem_cons_of_mem)) ?_
  refine E_dict2 fun q hq => ?_
  refine EvV.frz (E_callT (by repeat (first | exact List.mem_cons_self | apply List.mem_cons_of_mem)) (A_cons (E_slc_to ?_)))
  refine E_name (get_at 0 rfl rfl) nofun ?_
  refine ⟨_, .inl rfl, by rw [List.length_map, sizeLine_eq]; exact om369 hns, ?_⟩
  rw [← List.map_take]
  have ha : (ns.take 60).length ≤ 60 := by rw [List.length_take]; exact om370
  obtain ⟨arrows, har⟩ : ∃ arrows, ns.take 60 = arrows := ⟨_, rfl⟩
  rw [har] at ha ⊢
  refine A_nil ?_
  refine C_list_lst (by rw [List.length_map, sizeLine_eq]; exact om371 ha) fun a haa => ⟨_, _, _, rfl, .here, haa, ?_⟩
  refine E_int ?_
  have hp : putS (putS ([] : List (Str × SV)) "arrows" (iL arrows)) "taken" (.int 0) = ([("arrows", iL arrows), ("taken", .int 0)] : List (Str × SV)) := by kernel_rfl
  rw [hp]
  refine ⟨_, .here, ?_⟩
  refine ⟨_, by repeat (first | exact Put.here | apply Put.next), ?_⟩
  try dsimp only
  try dsimp only
  refine S_cons (S_tup ?_)
  refine E_tuple (A_cons ?_)
  refine E_bin ?_; refine E_int ?_
  refine E_num (arrows := arrows) (t := 0) (by repeat (first | exact List.mem_cons_self | apply List.mem_cons_of_mem)) (Nat.le_of_ble_eq_true rfl) (by exact get_at 1 rfl rfl) ha (by exact om372) ?_
  refine E_int ?_
  refine ⟨2, _, rfl, by decide, .here, fun v1 h10 h11 => ?_⟩
  refine O_add ?_
  obtain ⟨m, hm1, hmm⟩ := nat_of h10 h11
  rw [hm1]
  refine A_cons ?_
  refine E_bin ?_; refine E_int ?_
  refine E_num (arrows := arrows) (t := 0 + 1) (by repeat (first | exact List.mem_cons_self | apply List.mem_cons_of_mem)) (Nat.le_of_ble_eq_true rfl) (by exact get_at 1 rfl rfl) ha (by exact om373) ?_
  refine E_int ?_
  refine ⟨2, _, rfl, by decide, .here, fun v2 h20 h21 => ?_⟩
  refine O_add ?_
  obtain ⟨n, hn1, hnn⟩ := nat_of h20 h21
  rw [hn1]
  refine A_nil ?_
  refine ⟨Nat.le_of_ble_eq_true rfl, AT_tup2 (.cons (by repeat (first | exact Put.here | apply Put.next)) (by repeat (first | exact List.mem_cons_self | apply List.mem_cons_of_mem)) (.cons (by repeat (first | exact Put.here | apply Put.next)) (by repeat (first | exact List.mem_cons_self | apply List.mem_cons_of_mem)) .nil)) ?_⟩
  try dsimp only
  refine S_cons ?_; refine S_asgn (by repeat (first | exact List.mem_cons_self | apply List.mem_cons_of_mem)) ?_
  refine E_lc ["k"] ["quiver", "many", "letters"] [("range", .type "range")] ⟨by kernel_rfl, fun p hp => by rw [List.mem_singleton.mp hp]; exact gi_range w, by decide⟩ ?_
  refine E_callT (by repeat (first | exact List.mem_cons_self | apply List.mem_cons_of_mem)) (A_cons ?_)
  refine E_name (get_at 2 rfl rfl) nofun ?_; refine A_nil ?_
  refine C_range1 ?_
  refine ⟨_, [.ref q, .int m, .int n], it_up (a := 0) (b := m) (n := m) ⟨_, _, rfl⟩ (by exact om289) (by exact om374 h11 hm1) (by exact om297), .cons (by exact get_at 1 rfl rfl) (.cons (by exact get_at 2 rfl rfl) (.cons (by exact get_at 3 rfl rfl) .nil)), ?_⟩
  refine run_moves w (by exact om375 h11 hm1) (by exact om375 h21 hn1) ha (Nat.le_of_ble_eq_true rfl) (fun C P => ⟨by kernel_rfl, fun p hp => by rw [List.mem_singleton.mp hp]; exact gi__law_number w, by decide⟩) fun rows t hrl hrr ht => ?_
  have T : Tab rows m n := ⟨hrl, hrr, by exact om375 h11 hm1, by exact om375 h21 hn1⟩
  refine ⟨_, by repeat (first | exact Put.here | apply Put.next), ?_⟩
  try dsimp only
  try dsimp only
  refine S_cons (S_tup ?_)
  refine E_tuple (A_cons ?_)
  refine E_bin ?_; refine E_int ?_
  refine E_num (arrows := arrows) (t := t) (by repeat (first | exact List.mem_cons_self | apply List.mem_cons_of_mem)) (Nat.le_of_ble_eq_true rfl) (by exact get_at 1 rfl rfl) ha (by exact om376 h11 hm1 ht) ?_
  refine E_name (get_at 2 rfl rfl) nofun ?_
  refine ⟨_, _, rfl, by exact om377 h10 hm1, .here, fun v3 h30 h31 => ?_⟩
  refine O_add ?_
  have hs : 1 ≤ 1 + v3 ∧ 1 + v3 ≤ m := by exact om378 h30 h31
  obtain ⟨start, hst⟩ : ∃ start, 1 + v3 = start := ⟨_, rfl⟩
  rw [hst] at hs ⊢
  have hpw := pow48 hmm
  refine A_cons ?_
  refine E_bin ?_; refine E_int ?_
  refine E_num (arrows := arrows) (t := t + 1) (by repeat (first | exact List.mem_cons_self | apply List.mem_cons_of_mem)) (Nat.le_of_ble_eq_true rfl) (by exact get_at 1 rfl rfl) ha (by exact om379 h11 hm1 ht) ?_
  refine E_bin ?_; refine E_bin ?_; refine E_int ?_; refine E_name (get_at 2 rfl rfl) nofun ?_
  refine O_pow (a := 2) (n := (m : Int)) (by exact om285) (by exact om380 h11 hm1) (by decide) ?_
  refine E_int ?_; refine O_subi ?_
  refine ⟨_, _, rfl, by exact om347 hpw, .here, fun v4 h40 h41 => ?_⟩
  refine O_add ?_
  obtain ⟨M, hMM⟩ : ∃ M, 1 + v4 = M := ⟨_, rfl⟩
  rw [hMM]
  refine A_nil ?_
  refine ⟨Nat.le_of_ble_eq_true rfl, AT_tup2 (.cons (by repeat (first | exact Put.here | apply Put.next)) (by repeat (first | exact List.mem_cons_self | apply List.mem_cons_of_mem)) (.cons (by repeat (first | exact Put.here | apply Put.next)) (by repeat (first | exact List.mem_cons_self | apply List.mem_cons_of_mem)) .nil)) ?_⟩
  try dsimp only
  refine S_cons ?_; refine S_asgn (by repeat (first | exact List.mem_cons_self | apply List.mem_cons_of_mem)) ?_
  refine E_lc ["k"] ["mask"] [] ⟨by kernel_rfl, fun p hp => (nomatch hp), by decide⟩ ?_
  refine E_callT (by repeat (first | exact List.mem_cons_self | apply List.mem_cons_of_mem)) (A_cons ?_)
  refine E_name (get_at 2 rfl rfl) nofun ?_; refine A_nil ?_
  refine C_range1 ?_
  refine ⟨_, [.int M], it_up (a := 0) (b := m) (n := m) ⟨_, _, rfl⟩ (by exact om289) (by exact om374 h11 hm1) (by exact om297), .cons (by exact get_at 6 rfl rfl) .nil, ?_⟩
  refine run_bits (by exact om375 h11 hm1) ?_
  have he : ∀ q ∈ bitsL M m, 1 ≤ q ∧ q ≤ m := bitsL_in
  have hel : (bitsL M m).length ≤ 3 := Nat.le_trans bitsL_len T.m3
  have hes : (bitsL M m).Pairwise (· ≤ ·) := bitsL_lt.imp fun h => by exact om342 h
  obtain ⟨ends, hends⟩ : ∃ ends, bitsL M m = ends := ⟨_, rfl⟩
  rw [hends] at he hel hes ⊢
  refine ⟨_, by repeat (first | exact Put.here | apply Put.next), ?_⟩
  try dsimp only
  try dsimp only
  refine S_cons (S_tup ?_)
  refine E_tuple (A_cons ?_)
  refine E_callC (a := 258) (by repeat (first | exact List.mem_cons_self | apply List.mem_cons_of_mem)) (fun w => by kernel_rfl) (A_nil ?_)
  refine C_make (C := 258) (fI := 122) (lv := 1) (Hs := []) (fun w => by kernel_rfl) (fun w => by kernel_rfl) (fun w => by kernel_rfl) (fun x d => sp122 w 0 x d) (Nat.le_of_ble_eq_true rfl) .nil ?_
  rintro x d sv H' hxl ⟨rfl, dm, fs, tr, mk, nw, rfl⟩
  refine ⟨rfl, A_cons (E_list (A_nil ⟨Nat.zero_le _, fun fa hfa => ?_⟩))⟩
  refine A_nil ?_
  refine ⟨Nat.le_of_ble_eq_true rfl, AT_tup2 (.cons (by repeat (first | exact Put.here | apply Put.next)) (by repeat (first | exact List.mem_cons_self | apply List.mem_cons_of_mem)) (.cons (by repeat (first | exact Put.here | apply Put.next)) (by repeat (first | exact List.mem_cons_self | apply List.mem_cons_of_mem)) .nil)) ?_⟩
  try dsimp only
  exact phB w A s hb T hnn hs he hel hes x d dm fs tr mk nw q fa _ _ arrows ha (t + 1 + 1) (by exact om381 h11 hm1 ht) hfa
theorem sp448 (w : World) (ns : List Int) (hns : ns.length ≤ 63) : Spec w 7 (.ref 448) [.lst (ns.map .int)] [] fun v H => v = .bool true :=
  spec_of (ok448 w) (body := B448) rfl rfl fun A s hb => phA w A s hb ns hns
theorem walk448 (w : World) (s : Shared) (l : Addr) (vs : List Value) (ns : List Int) (W : World0 w s.heap) (hg : s.gens = #[]) (hl : s.heap.IsList l vs.toArray) (hi : IntsAre vs ns) (hn : ns.length ≤ 63) (_ : ∀ n ∈ ns, Builtin.Int.intBits n ≤ 2 ^ 20) :
    wpAny (model pw w) callerA (call (.ref 448) [.ref l]) (fun v s' => v = .bool true ∧ (∃ h tk, s' = { s with heap := h, toks := tk }) ∧ ∀ b o, s.heap.get? b = some o → s'.heap.get? b = some o) (fun _ _ => False) s := by
  obtain ⟨o, ho, hc, k, hd⟩ := hl
  refine wpAny_mono (sp448 w ns hn callerA s.heap (fun a => if a = l then s.heap.get? l else none) s [.ref l] ⟨rfl, Nat.le_of_ble_eq_true rfl, Nat.le_of_ble_eq_true rfl⟩ W (fun _ _ e => e) (fun a o e => ?_) ⟨List.nodup_nil, fun _ h => (nomatch h), fun _ h => (nomatch h)⟩ (fun _ h => (nomatch h)) ⟨_, _, rfl, ⟨l, o, vs, k, rfl, (by simp [ho]), hc, hd, RepVs.ofInts hi⟩, rfl⟩)
    (fun v s' ⟨g', H', sv, gx, gh, HO, fpN, keep, sh, rv, hp⟩ => ?_) fun _ _ f => f
  · by_cases h : a = l
    · subst h; simpa using e
    · simp [h] at e
  · subst hp
    exact ⟨rv, sh, fun b o e => keep b o (fun h => (nomatch h)) e⟩
theorem claim448 : PySem.Challenge.rw_pc0050_01.Holds := head walk448
end
end Mine
set_option maxRecDepth 100000 in
theorem PySem.Challenge.cw_pc0050_01_holds : PySem.Challenge.rw_pc0050_01.Holds :=
  Mine.claim448
