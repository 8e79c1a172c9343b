/- What ProbeSmaller computes, program and reference. No condition beside the sizes that are typed. -/
import Derived.Test.YtdbomnhdpniigaaQ3
namespace Go.Proofs.Ytdbomnhdpniigaa.Q
open Go.RowKit Go.Proofs.Ytdbomnhdpniigaa.PA Go.Proofs.YtdbomnhdpniigaaW.PrintWords Go.Proofs.YtdbomnhdpniigaaW.PrintLast Go.Proofs.YtdbomnhdpniigaaW.PrintMore

/-! ### Within -/
def cover (b a : S95) : Bool := decide (a.f0 = b.f0 ∧ a.f1 = b.f1 ∧ b.f2 ≤ a.f2 ∧ a.f3 ≤ b.f3 ∧ b.f4 ≤ a.f4 ∧ a.f5 ≤ b.f5)
def smaller (s : ByteArray) (l : List S95) (s' : ByteArray) (l' : List S95) : Bool := tubeOk s l && tubeOk s' l' && l.all fun a => l'.any fun b => cover b a
end Go.Proofs.Ytdbomnhdpniigaa.Q
