/- Small laws beside the kit's: comparisons of strings in the form in which the printed texts state them. -/
import Derived.Test.YtipoicfglaanaaaWMore
namespace Go.Proofs.YtipoicfglaanaaaHand
theorem bytesLess_flip (a b : List UInt8) : (Op.bytesLess a b || a == b) = !(Op.bytesLess b a) := by
  induction a generalizing b with
  | nil => cases b <;> simp [Op.bytesLess]
  | cons x xs ih =>
    cases b with
    | nil => simp [Op.bytesLess]
    | cons y ys =>
      have h := ih ys
      simp only [Op.bytesLess]
      rcases Nat.lt_trichotomy x.toNat y.toNat with hlt | heq | hgt
      · have h1 : x < y := hlt
        have h2 : ¬ y < x := fun h => by have := UInt8.lt_iff_toNat_lt.mp h; omega
        have h3 : ¬ y = x := fun h => by rw [h] at hlt; omega
        simp [h1, h2, h3]
      · have h1 : x = y := UInt8.toNat_inj.mp heq
        subst h1
        have h2 : ¬ x < x := fun h => by have := UInt8.lt_iff_toNat_lt.mp h; omega
        simpa [h2] using h
      · have h1 : y < x := hgt
        have h2 : ¬ x < y := fun h => by have := UInt8.lt_iff_toNat_lt.mp h; omega
        have h3 : ¬ x = y := fun h => by rw [h] at hgt; omega
        simp [h1, h2, h3]
theorem run_leq_str (t : TypeId) (a b : ByteArray) : binOp .leq t (.string a) (.string b) = pure (.bool (!(Op.bytesLess b.toList a.toList))) := by
  rw [← bytesLess_flip]
  simp [binOp, Op.stringOp]
theorem run_gtr_str (t : TypeId) (a b : ByteArray) : binOp .gtr t (.string a) (.string b) = pure (.bool (Op.bytesLess b.toList a.toList)) := by
  have h := bytesLess_flip a.toList b.toList
  have h' : Op.bytesLess b.toList a.toList = !(Op.bytesLess a.toList b.toList || a.toList == b.toList) := by rw [h, Bool.not_not]
  rw [h']
  simp [binOp, Op.stringOp]
theorem run_geq_str (t : TypeId) (a b : ByteArray) : binOp .geq t (.string a) (.string b) = pure (.bool (!(Op.bytesLess a.toList b.toList))) := by
  simp [binOp, Op.stringOp]
end Go.Proofs.YtipoicfglaanaaaHand
