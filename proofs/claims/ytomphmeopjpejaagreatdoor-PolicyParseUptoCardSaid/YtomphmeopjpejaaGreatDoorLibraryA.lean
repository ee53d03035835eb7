/- What some functions of the library give. -/
import Derived.Test.YtomphmeopjpejaaGreatDoorMachineB
import Derived.Lib.ItoaNum
import Derived.Lib.Split
import Derived.Lib.IndexMore
import Derived.Lib.AtoiAllCases
import Derived.Lib.Join
set_option linter.unusedVariables false
set_option linter.unusedSimpArgs false
namespace Go.AM
open Go
def bT:Nat->Nat->B5
 |0,u=>[UInt8.ofNat (48+u)]
 |f+1,u=>if u<10 then [UInt8.ofNat (48+u)] else bT f (u/ 10)++[UInt8.ofNat (48+u % 10)]
theorem Ov: ∀(f u:Nat),u<10^ (f+1)->bT f u=Lib.decDigits u
 |0,u,h=>by rw[Lib.decDigits,dif_pos (by simpa using h)];rfl
 |f+1,u,h=>by
  rw[Lib.decDigits]
  by_cases hu:u<10
  ·grind [bT]
  ·rw[dif_neg hu,<-Ov f (u/ 10) (by omega)];grind [bT]
def am (n:Int):B5:=if n<0 then 45::bT 19 n.natAbs else bT 19 n.toNat
theorem Yh {n:Int}(h0: -9223372036854775808<=n)(h1:n<=9223372036854775807):am n=Lib.itoa n:=by
 grind [am,Lib.itoa,Ov]
def vu:B7->C5->C3
 | [.int .i64 n],[]=>if-9223372036854775808<=n/\n<=9223372036854775807 then some ⟨.str (am n),[]⟩ else none
 |_,_=>none
def IU:B7->C5->C3
 | [.str s,.str sep],[]=>if s.length<4294967281 then some ⟨.tup [.str (Lib.cut s sep).1,.str (Lib.cut s sep).2.1,.bool (Lib.cut s sep).2.2],[]⟩ else none
 |_,_=>none
def rk:B7->C5->C3
 | [.str s,.str sep],[]=>if s.length<4294967281/\1<=sep.length then some ⟨.sl 1 ((Lib.split s sep).map λx=>[.str x]),[]⟩ else none
 |_,_=>none
def Gm (tid:Nat)(s:B5):Ret:=match Lib.atoiAll s with
 | .ok v=>⟨.tup [.int .i64 v,.con .nilIface],[]⟩
 | .range=>⟨.tup [.int .i64 (Lib.atoiSat s),.ifc tid .any],[]⟩
 |_=>⟨.tup [.int .i64 0,.ifc tid .any],[]⟩
def yB (tid:Nat):B7->C5->C3
 | [.str s],[]=>if s.length<=281474976710656 then some (Gm tid s) else none
 |_,_=>none
def oW:B6->Option CF
 | []=>some []
 | [.str x]::r=>(oW r).map (x:: ·)
 |_::_=>none
theorem CJ: ∀{es:B6}{xs:CF},oW es=some xs->es=xs.map λx=>[.str x]
 | [],xs,h=>by cases h;rfl
 | [.str x]::r,xs,h=>by
  simp only[oW,Option.map_eq_some_iff] at h;obtain ⟨ys,h1,rfl⟩:=h;rw[CJ h1];rfl
 | []::_,_,h=>by grind [oW]
 |(a::b::r)::_,_,h=>by grind [oW]
 | [.any]::_,_,h| [.int _ _]::_,_,h| [.bool _]::_,_,h| [.con _]::_,_,h| [.agg _]::_,_,h| [.sl _ _]::_,_,h| [.rp _]::_,_,h| [.ref _ _ _]::_,_,h| [.er _ _ _ _]::_,_,h| [.vs _ _ _]::_,_,h| [.vw _ _ _ _]::_,_,h| [.fn _ _]::_,_,h| [.tup _]::_,_,h| [.ifc _ _]::_,_,h=>by grind [oW]
def yA:B7->C5->C3
 | [.sl 1 (e::es),.str sep],[]=>(oW (e::es)).bind λxs=>if xs.length<=140737488355328/\(Lib.join xs sep).length<=140737488355328 then some ⟨.str (Lib.join xs sep),[]⟩ else none
 |_,_=>none
def nI:B7->C5->C3
 | [.str s,.str sep],[]=>if s.length<4294967281 then some ⟨.bool (Lib.contains s sep),[]⟩ else none
 |_,_=>none
end Go.AM
