/- What functions of this program give. -/
import Derived.Test.YtomphmeopjpejaaGreatDoorDataF
set_option linter.unusedVariables false
set_option linter.unusedSimpArgs false
set_option maxHeartbeats 4000000
set_option maxRecDepth 20000
namespace Go.AM.IR
section
variable (s:PSet)(m:Mat)
def XZ:Int:=if m.n≠0 then 1 else if m.pfx.addr≠0 then 1 else if m.pfx.len≠0 then 1 else if qI s.prefixes m.name=none then 6 else if bu m.pfx=false then 1 else 0
def XY:Int:=if m.n≠0 then 1 else if m.pfx.addr≠0 then 1 else if m.pfx.len≠0 then 1 else if qJ s.paths m.name=none then 6 else if bu m.pfx=false then 1 else 0
def XX:Int:=if m.n≠0 then 1 else if m.pfx.addr≠0 then 1 else if m.pfx.len≠0 then 1 else if qR s.comms m.name=none then 6 else if bu m.pfx=false then 1 else 0
def Qk (s:PSet)(m:Mat):Int:=if m.name≠ [] then 1 else if m.pfx.addr≠0 then 1 else if m.pfx.len≠0 then 1 else if m.n<1 then 5 else if 7<m.n then 5 else if bu m.pfx=false then 1 else 0
def Qj (s:PSet)(m:Mat):Int:=if m.name≠ [] then 1 else if m.pfx.addr≠0 then 1 else if m.pfx.len≠0 then 1 else if m.n<0 then 5 else if 4294967295<m.n then 5 else if bu m.pfx=false then 1 else 0
def Qi (s:PSet)(m:Mat):Int:=if m.name≠ [] then 1 else if m.pfx.addr≠0 then 1 else if m.pfx.len≠0 then 1 else if m.n<0 then 5 else if 16777216<m.n then 5 else if bu m.pfx=false then 1 else 0
def Qh (s:PSet)(m:Mat):Int:=if m.name≠ [] then 1 else if m.n≠0 then 1 else if bu m.pfx=false then 1 else 0
def Qg (s:PSet)(m:Mat):Int:=if m.name≠ [] then 1 else if m.pfx.addr≠0 then 1 else if m.pfx.len≠0 then 1 else if m.n<0 then 5 else if 2000<m.n then 5 else if bu m.pfx=false then 1 else 0
def ip:Int:=if m.kind<1 then 15 else if 8<m.kind then 15 else if m.kind=1 then XZ s m else if m.kind=2 then XY s m else if m.kind=3 then XX s m else if m.kind=4 then Qk s m else if m.kind=5 then Qj s m else if m.kind=6 then Qi s m else if m.kind=7 then Qh s m else Qg s m
end
end Go.AM.IR
