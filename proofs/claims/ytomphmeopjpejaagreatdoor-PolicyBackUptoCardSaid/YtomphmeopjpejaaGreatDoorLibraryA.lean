/- What some functions of the library give. -/
import Derived.Test.YtomphmeopjpejaaGreatDoorMachineB
import Derived.Lib.ItoaNum
import Derived.Lib.Split
import Derived.Lib.IndexMore
import Derived.Lib.AtoiAllCases
import Derived.Lib.Join
set_option linter.unusedVariables false
set_option linter.unusedSimpArgs false
namespace Go.AM
open Go
def ca:Nat->Nat->CF
 |0,u=>[UInt8.ofNat (48+u)]
 |f+1,u=>if u<10 then [UInt8.ofNat (48+u)] else ca f (u/ 10)++[UInt8.ofNat (48+u % 10)]
theorem BI: ∀(f u:Nat),u<10^ (f+1)->ca f u=Lib.decDigits u
 |0,u,h=>by rw[Lib.decDigits,dif_pos (by simpa using h)];rfl
 |f+1,u,h=>by
  rw[Lib.decDigits]
  by_cases hu:u<10
  ·rw[dif_pos hu];simp[ca,hu]
  ·rw[dif_neg hu,<-BI f (u/ 10) (by rw[Nat.pow_succ] at h;omega)];simp[ca,hu]
def ah (n:Int):CF:=if n<0 then 45::ca 19 n.natAbs else ca 19 n.toNat
theorem Ze {n:Int}(h0: -9223372036854775808<=n)(h1:n<=9223372036854775807):ah n=Lib.itoa n:=by
 unfold ah Lib.itoa;split
 ·rw[BI 19 _ (by omega)]
 ·rw[BI 19 _ (by omega)]
def uw:CL->Dn->Df
 | [.int .i64 n],[]=>if-9223372036854775808<=n/\n<=9223372036854775807 then some ⟨.str (ah n),[]⟩ else none
 |_,_=>none
def IY:CL->Dn->Df
 | [.str s,.str sep],[]=>if s.length<4294967281 then some ⟨.tup [.str (Lib.cut s sep).1,.str (Lib.cut s sep).2.1,.bool (Lib.cut s sep).2.2],[]⟩ else none
 |_,_=>none
def qq:CL->Dn->Df
 | [.str s,.str sep],[]=>if s.length<4294967281/\1<=sep.length then some ⟨.sl 1 ((Lib.split s sep).map λx=>[.str x]),[]⟩ else none
 |_,_=>none
def FU (tid:Nat)(s:CF):Ret:=match Lib.atoiAll s with
 | .ok v=>⟨.tup [.int .i64 v,.con .nilIface],[]⟩
 | .range=>⟨.tup [.int .i64 (Lib.atoiSat s),.ifc tid .any],[]⟩
 |_=>⟨.tup [.int .i64 0,.ifc tid .any],[]⟩
def xX (tid:Nat):CL->Dn->Df
 | [.str s],[]=>if s.length<=281474976710656 then some (FU tid s) else none
 |_,_=>none
def oc:CS->Option C5
 | []=>some []
 | [.str x]::r=>(oc r).map (x:: ·)
 |_::_=>none
theorem Cd: ∀{es:CS}{xs:C5},oc es=some xs->es=xs.map λx=>[.str x]
 | [],xs,h=>by cases h;rfl
 | [.str x]::r,xs,h=>by
  simp only[oc,Option.map_eq_some_iff] at h;obtain ⟨ys,h1,rfl⟩:=h;rw[Cd h1];rfl
 | []::_,_,h=>by simp[oc] at h
 |(a::b::r)::_,_,h=>by cases a<;>simp[oc] at h
 | [.any]::_,_,h| [.int _ _]::_,_,h| [.bool _]::_,_,h| [.con _]::_,_,h| [.agg _]::_,_,h| [.sl _ _]::_,_,h| [.rp _]::_,_,h| [.ref _ _ _]::_,_,h| [.er _ _ _ _]::_,_,h| [.vs _ _ _]::_,_,h| [.vw _ _ _ _]::_,_,h| [.fn _ _]::_,_,h| [.tup _]::_,_,h| [.ifc _ _]::_,_,h=>by simp[oc] at h
def uv:CL->Dn->Df
 | [.sl 1 (e::es),.str sep],[]=>(oc (e::es)).bind λxs=>if xs.length<=140737488355328/\(Lib.join xs sep).length<=140737488355328 then some ⟨.str (Lib.join xs sep),[]⟩ else none
 |_,_=>none
def nd:CL->Dn->Df
 | [.str s,.str sep],[]=>if s.length<4294967281 then some ⟨.bool (Lib.contains s sep),[]⟩ else none
 |_,_=>none
end Go.AM
