/- What some functions of the library compute, as functions of the abstract machine. -/
import Derived.Test.YtekpmkbdjkoooaaGreatDoorMachineB
import Derived.Lib.ItoaNum
import Derived.Lib.Split
import Derived.Lib.IndexMore
import Derived.Lib.AtoiAllCases
import Derived.Lib.Join
set_option linter.unusedVariables false
set_option linter.unusedSimpArgs false
namespace Go.AM
open Go
def cz:Nat→Nat→List UInt8
 |0,u=>[UInt8.ofNat (48+u)]
 |f+1,u=>if u<10 then [UInt8.ofNat (48+u)] else cz f (u/ 10)++[UInt8.ofNat (48+u % 10)]
theorem DK: ∀(f u:Nat),u<10^ (f+1)→cz f u=Lib.decDigits u
 |0,u,h=>by rw[Lib.decDigits,dif_pos (by simpa using h)];rfl
 |f+1,u,h=>by
  rw[Lib.decDigits]
  by_cases hu:u<10
  ·rw[dif_pos hu];simp[cz,hu]
  ·rw[dif_neg hu,←DK f (u/ 10) (by rw[Nat.pow_succ] at h;omega)];simp[cz,hu]
def aa (n:Int):List UInt8:=if n<0 then 45::cz 19 n.natAbs else cz 19 n.toNat
theorem abS {n:Int}(h0: -9223372036854775808≤n)(h1:n≤9223372036854775807):aa n=Lib.itoa n:=by
 unfold aa Lib.itoa;split
 ·rw[DK 19 _ (by omega)]
 ·rw[DK 19 _ (by omega)]
def yV:List AV→List Blk→Option Ret
 | [.int .i64 n],[]=>if-9223372036854775808≤n∧n≤9223372036854775807 then some ⟨.str (aa n),[]⟩ else none
 |_,_=>none
def Uo:List AV→List Blk→Option Ret
 | [.str s,.str sep],[]=>if s.length<4294967281 then some ⟨.tup [.str (Lib.cut s sep).1,.str (Lib.cut s sep).2.1,.bool (Lib.cut s sep).2.2],[]⟩ else none
 |_,_=>none
def yT:List AV→List Blk→Option Ret
 | [.str s,.str sep],[]=>if s.length<4294967281∧1≤sep.length then some ⟨.sl 1 ((Lib.split s sep).map fun x=>[.str x]),[]⟩ else none
 |_,_=>none
def aev (tid:Nat)(s:List UInt8):Ret:=match Lib.atoiAll s with
 | .ok v=>⟨.tup [.int .i64 v,.con .nilIface],[]⟩
 | .range=>⟨.tup [.int .i64 (Lib.atoiSat s),.ifc tid .any],[]⟩
 |_=>⟨.tup [.int .i64 0,.ifc tid .any],[]⟩
def JN (tid:Nat):List AV→List Blk→Option Ret
 | [.str s],[]=>if s.length≤281474976710656 then some (aev tid s) else none
 |_,_=>none
def ot:List (List AV)→Option (List (List UInt8))
 | []=>some []
 | [.str x]::r=>(ot r).map (x:: ·)
 |_::_=>none
theorem EK: ∀{es:List (List AV)}{xs:List (List UInt8)},ot es=some xs→es=xs.map fun x=>[.str x]
 | [],xs,h=>by cases h;rfl
 | [.str x]::r,xs,h=>by
  simp only[ot,Option.map_eq_some_iff] at h;obtain ⟨ys,h1,rfl⟩:=h;rw[EK h1];rfl
 | []::_,_,h=>by simp[ot] at h
 |(a::b::r)::_,_,h=>by cases a<;>simp[ot] at h
 | [.any]::_,_,h| [.int _ _]::_,_,h| [.bool _]::_,_,h| [.con _]::_,_,h| [.agg _]::_,_,h| [.sl _ _]::_,_,h| [.rp _]::_,_,h| [.ref _ _ _]::_,_,h| [.er _ _ _ _]::_,_,h| [.vs _ _ _]::_,_,h| [.vw _ _ _ _]::_,_,h| [.fn _ _]::_,_,h| [.tup _]::_,_,h| [.ifc _ _]::_,_,h=>by simp[ot] at h
def yU:List AV→List Blk→Option Ret
 | [.sl 1 (e::es),.str sep],[]=>(ot (e::es)).bind fun xs=>if xs.length≤140737488355328∧(Lib.join xs sep).length≤140737488355328 then some ⟨.str (Lib.join xs sep),[]⟩ else none
 |_,_=>none
def pU:List AV→List Blk→Option Ret
 | [.str s,.str sep],[]=>if s.length<4294967281 then some ⟨.bool (Lib.contains s sep),[]⟩ else none
 |_,_=>none
end Go.AM
