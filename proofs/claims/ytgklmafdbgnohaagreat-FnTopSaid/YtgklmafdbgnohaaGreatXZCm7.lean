/- Rows of rows handed to what writes them: they are told apart by their blocks' types. No condition. -/
import Derived.Test.YtgklmafdbgnohaaGreatXW0
set_option linter.unusedVariables false
set_option linter.unusedSimpArgs false
namespace Go.Proofs.YtgklmafdbgnohaaGreat.Z
open Go.RowKit Go.Proofs.YtgklmafdbgnohaaGreatW.PrintWords Go.Proofs.YtgklmafdbgnohaaGreatW.PrintLast Go.Proofs.YtgklmafdbgnohaaGreatW.PrintMore
section
variable {α:Type} {d:Kd α} {e base b:Nat} {w W W2:World} {ok okp:Nat→Prop} {v:Value} {xs:List α} {Qs:List Nat}
theorem N_nil_S (h:Kd.N d e W base ok v []):Kd.S d e W base (fun _=>True) v []:=by
  obtain ⟨_,rows,hl,hR,_⟩:=h;obtain rfl:rows=[]:=List.eq_nil_of_length_eq_zero hl;obtain ⟨_,inner,ho,hr⟩:=hR;have hi:inner=[]:=List.eq_nil_of_length_eq_zero (by have:=hr.1;simpa using this);subst hi;exact ⟨fun _=>0,fun _ _=>trivial,[],ho,Reps.none _ _⟩
end
end Go.Proofs.YtgklmafdbgnohaaGreat.Z
