/- What some functions of the library compute, as functions of the abstract machine. -/
import Derived.Test.YtcmipbleijmpjaaGreatDoorMachineB
import Derived.Lib.ItoaNum
import Derived.Lib.Split
import Derived.Lib.IndexMore
import Derived.Lib.AtoiAllCases
import Derived.Lib.Join
set_option linter.unusedVariables false
set_option linter.unusedSimpArgs false
namespace Go.AM
open Go
def dC:Nat→Nat→List UInt8
 |0,u=>[UInt8.ofNat (48+u)]
 |f+1,u=>if u<10 then [UInt8.ofNat (48+u)] else dC f (u/ 10)++[UInt8.ofNat (48+u % 10)]
theorem zK: ∀(f u:Nat),u<10^ (f+1)→dC f u=Lib.decDigits u
 |0,u,h=>by rw[Lib.decDigits,dif_pos (by simpa using h)];rfl
 |f+1,u,h=>by
  rw[Lib.decDigits]
  by_cases hu:u<10
  ·rw[dif_pos hu];simp[dC,hu]
  ·rw[dif_neg hu,←zK f (u/ 10) (by rw[Nat.pow_succ] at h;omega)];simp[dC,hu]
def aU (n:Int):List UInt8:=if n<0 then 45::dC 19 n.natAbs else dC 19 n.toNat
theorem WH {n:Int} (h0: -9223372036854775808≤n) (h1:n≤9223372036854775807):aU n=Lib.itoa n:=by
 unfold aU Lib.itoa
 split
 ·rw[zK 19 _ (by omega)]
 ·rw[zK 19 _ (by omega)]
def Eu:List AV→List Blk→Option Ret
 | [.int .i64 n],[]=>if-9223372036854775808≤n∧n≤9223372036854775807 then some ⟨.str (aU n),[]⟩ else none
 |_,_=>none
def QC:List AV→List Blk→Option Ret
 | [.str s,.str sep],[]=>if s.length<4294967281 then some ⟨.tup [.str (Lib.cut s sep).1,.str (Lib.cut s sep).2.1,.bool (Lib.cut s sep).2.2],[]⟩ else none
 |_,_=>none
def wY:List AV→List Blk→Option Ret
 | [.str s,.str sep],[]=>if s.length<4294967281∧1≤sep.length then some ⟨.sl 1 ((Lib.split s sep).map fun x=>[.str x]),[]⟩ else none
 |_,_=>none
def aaa (tid:Nat) (s:List UInt8):Ret:=match Lib.atoiAll s with
 | .ok v=>⟨.tup [.int .i64 v,.con .nilIface],[]⟩
 | .range=>⟨.tup [.int .i64 (Lib.atoiSat s),.ifc tid .any],[]⟩
 |_=>⟨.tup [.int .i64 0,.ifc tid .any],[]⟩
def Ew (tid:Nat):List AV→List Blk→Option Ret
 | [.str s],[]=>if s.length≤281474976710656 then some (aaa tid s) else none
 |_,_=>none
def mO:List (List AV)→Option (List (List UInt8))
 | []=>some []
 | [.str x]::r=>(mO r).map (x:: ·)
 |_::_=>none
theorem Au: ∀ {es:List (List AV)} {xs:List (List UInt8)},mO es=some xs→es=xs.map fun x=>[.str x]
 | [],xs,h=>by cases h;rfl
 | [.str x]::r,xs,h=>by
  simp only[mO,Option.map_eq_some_iff] at h
  obtain ⟨ys,h1,rfl⟩:=h
  rw[Au h1];rfl
 | []::_,_,h=>by simp[mO] at h
 |(a::b::r)::_,_,h=>by cases a<;>simp[mO] at h
 | [.any]::_,_,h| [.int _ _]::_,_,h| [.bool _]::_,_,h| [.con _]::_,_,h| [.agg _]::_,_,h| [.sl _ _]::_,_,h| [.rp _]::_,_,h| [.ref _ _ _]::_,_,h| [.er _ _ _ _]::_,_,h| [.vs _ _ _]::_,_,h| [.vw _ _ _ _]::_,_,h| [.fn _ _]::_,_,h| [.tup _]::_,_,h| [.ifc _ _]::_,_,h=>by simp[mO] at h
def Eo:List AV→List Blk→Option Ret
 | [.sl 1 (e::es),.str sep],[]=>(mO (e::es)).bind fun xs=>if xs.length≤140737488355328∧(Lib.join xs sep).length≤140737488355328 then some ⟨.str (Lib.join xs sep),[]⟩ else none
 |_,_=>none
def n7:List AV→List Blk→Option Ret
 | [.str s,.str sep],[]=>if s.length<4294967281 then some ⟨.bool (Lib.contains s sep),[]⟩ else none
 |_,_=>none
end Go.AM
