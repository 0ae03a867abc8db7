-- Written by a program of this session's (a turned copy of the kit's print, with functions proved by hand).
import Derived.Test.YtmgeoombebkfaaaPDeliverSidesx0
namespace Go.Proofs.Ytmgeoombebkfaaa.PDeliverSides
open Go.RowKit Go.Proofs.YtmgeoombebkfaaaW.PrintWords Go.Proofs.YtmgeoombebkfaaaW.PrintLast Go.Proofs.YtmgeoombebkfaaaW.PrintMore
attribute [local go_sem] max2_int min2_int max_two min_two max_three min_three max_four min_four Go.Proofs.YtmgeoombebkfaaaHand.run_leq_str Go.Proofs.YtmgeoombebkfaaaHand.run_gtr_str Go.Proofs.YtmgeoombebkfaaaHand.run_geq_str   -- for this text's walks alone
set_option linter.unusedVariables false
set_option linter.unusedSimpArgs false

def eqD54 (x0 y0 : ByteArray) (x1 y1 : ByteArray) : Bool := x0.toList == y0.toList && (x1.toList == y1.toList)
theorem eqB54 (d : Nat) (w : World) (x0 y0 : ByteArray) (x1 y1 : ByteArray) :
    (Op.equalIn (d + 2) 54 (.agg #[.string x0, .string x1]) (.agg #[.string y0, .string y1])).run Try.prog w = .ok (x0.toList == y0.toList && (x1.toList == y1.toList)) w := by
  refine eqA_of Try.underlying54 (by kernel_rfl) ?_
  refine eqf_cons (by rfl) (by go_simp; rfl) (by go_simp; rfl) (by go_simp) ?_
  exact eqf_last (by rfl) (by go_simp; rfl) (by go_simp; rfl) (by go_simp)
theorem eqA54 (d : Nat) (w : World) (x0 y0 : ByteArray) (x1 y1 : ByteArray) : (Op.equalIn (d + 2) 54 (.agg #[.string x0, .string x1]) (.agg #[.string y0, .string y1])).run Try.prog w = .ok (eqD54 x0 y0 x1 y1) w := eqB54 d w x0 y0 x1 y1
def eqD56 (x0 y0 : ByteArray) (x1 y1 : ByteArray) (x2 y2 : ByteArray) (x3 y3 : ByteArray) (x4 y4 : Int) : Bool := (x0.toList == y0.toList && (x1.toList == y1.toList)) && ((x2.toList == y2.toList && (x3.toList == y3.toList)) && (x4 == y4))
theorem eqB56 (d : Nat) (w : World) (x0 y0 : ByteArray) (x1 y1 : ByteArray) (x2 y2 : ByteArray) (x3 y3 : ByteArray) (x4 y4 : Int) :
    (Op.equalIn (d + 3) 56 (.agg #[.string x0, .string x1, .string x2, .string x3, .int .i64 x4]) (.agg #[.string y0, .string y1, .string y2, .string y3, .int .i64 y4])).run Try.prog w = .ok ((x0.toList == y0.toList && (x1.toList == y1.toList)) && ((x2.toList == y2.toList && (x3.toList == y3.toList)) && (x4 == y4))) w := by
  refine eqA_of Try.underlying56 (by kernel_rfl) ?_
  refine eqf_cons (by rfl) (by go_simp) (by go_simp) (eqB54 (d + 0) w _ _ _ _) ?_
  refine eqf_cons (by rfl) (by go_simp) (by go_simp) (eqB54 (d + 0) w _ _ _ _) ?_
  exact eqf_last (by rfl) (by go_simp; rfl) (by go_simp; rfl) (by go_simp)
theorem eqA56 (d : Nat) (w : World) (x0 y0 : ByteArray) (x1 y1 : ByteArray) (x2 y2 : ByteArray) (x3 y3 : ByteArray) (x4 y4 : Int) : (Op.equalIn (d + 3) 56 (.agg #[.string x0, .string x1, .string x2, .string x3, .int .i64 x4]) (.agg #[.string y0, .string y1, .string y2, .string y3, .int .i64 y4])).run Try.prog w = .ok (eqD56 x0 y0 x1 y1 x2 y2 x3 y3 x4 y4) w := eqB56 d w x0 y0 x1 y1 x2 y2 x3 y3 x4 y4
end Go.Proofs.Ytmgeoombebkfaaa.PDeliverSides
