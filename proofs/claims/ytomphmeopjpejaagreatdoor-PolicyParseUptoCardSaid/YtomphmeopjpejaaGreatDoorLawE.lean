/- A world in which the listed variables lie as the program's text lays them. -/
import Derived.Test.YtomphmeopjpejaaGreatDoorLawD
import Derived.WalkKit
import Derived.Deep.DeepHandedRow
import Derived.Deep.DeepLaidRun
set_option linter.unusedVariables false
set_option linter.unusedSimpArgs false
namespace Go.Proofs.YtomphmeopjpejaaGreatDoor.tie
open Go Go.ChangeShapes Go.WideShapes Go.ChangeAt Go.RowKit Go.AM Go.AM.IR
set_option maxRecDepth 100000
def lits:DataW Unit->List Value
 | .lit (.int k n)=>[.int k n]
 |_=>[]
def flat:DataW Unit->List Value
 | .agg ps=>ps.flatMap fun
  | .agg qs=>qs.flatMap lits
  |x=>lits x
 |_=>[]
def txt:DataW Unit->ByteArray
 | .iface _ (.ptr (.agg [.lit (.string s)]))=>⟨s.toArray⟩
 |_=>⟨#[]⟩
def lay (g:Nat)(cs:Array Value)(h:Array Obj):Array Obj:=h.modify g fun
 | .cells _ t z=>.cells cs t z
 |o=>o
noncomputable def low:Nat:=(World.holding Tryz.prog default ⟨#[],#[],[]⟩).heap.size
noncomputable def laidWorld (os:Os):World:=
 let w0:=World.holding Tryz.prog os ⟨#[.cells #[.string (txt Rows.laid_strconv_ErrRange)] 292,.cells #[.string (txt Rows.laid_strconv_ErrSyntax)] 292],#[],[]⟩
 {w0 with heap:=lay 5 #[.iface 290 (.pointer (some ⟨low,0,none⟩))] (lay 4 #[.iface 290 (.pointer (some ⟨low+1,0,none⟩))] (lay 6 (flat Rows.laid_unicode_utf8_first).toArray (lay 7 (flat Rows.laid_unicode_utf8_acceptRanges).toArray (lay 0 (flat Rows.laid_internal_strconv_uint64pow10).toArray (lay 3 (flat Rows.laid_math_bits_deBruijn64tab).toArray (lay 2 (flat Rows.laid_math_bits_deBruijn32tab).toArray (w0.heap)))))))}
theorem laid_met (os:Os)(zs:Array Value):laidMet Tryz.prog Rows.policyCheckUptoRow.laid ((laidWorld os).forCall (λ_ _=>0) ⟨#[],zs,[]⟩).memory:=
 laidMet_of_run' 12 (by kernel_rfl) (by kernel_rfl)
end Go.Proofs.YtomphmeopjpejaaGreatDoor.tie
