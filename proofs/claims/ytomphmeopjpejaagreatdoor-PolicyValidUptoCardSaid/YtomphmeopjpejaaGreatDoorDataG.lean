/- What the functions of this program give, on the abstract machine. -/
import Derived.Test.YtomphmeopjpejaaGreatDoorDataF
set_option linter.unusedVariables false
set_option linter.unusedSimpArgs false
set_option maxHeartbeats 4000000
set_option maxRecDepth 20000
namespace Go.AM.IR
section
variable {kv:AV->Prop}
end
def mat1 (s:PSet)(m:Mat):Int:=if m.n≠0 then 1 else if m.pfx.addr≠0 then 1 else if m.pfx.len≠0 then 1 else if xm s.prefixes m.name=none then 6 else if bz m.pfx=false then 1 else 0
def mat2 (s:PSet)(m:Mat):Int:=if m.n≠0 then 1 else if m.pfx.addr≠0 then 1 else if m.pfx.len≠0 then 1 else if xn s.paths m.name=none then 6 else if bz m.pfx=false then 1 else 0
def mat3 (s:PSet)(m:Mat):Int:=if m.n≠0 then 1 else if m.pfx.addr≠0 then 1 else if m.pfx.len≠0 then 1 else if yf s.comms m.name=none then 6 else if bz m.pfx=false then 1 else 0
def mat4 (s:PSet)(m:Mat):Int:=if m.name≠ [] then 1 else if m.pfx.addr≠0 then 1 else if m.pfx.len≠0 then 1 else if m.n<1 then 5 else if 7<m.n then 5 else if bz m.pfx=false then 1 else 0
def mat5 (s:PSet)(m:Mat):Int:=if m.name≠ [] then 1 else if m.pfx.addr≠0 then 1 else if m.pfx.len≠0 then 1 else if m.n<0 then 5 else if 4294967295<m.n then 5 else if bz m.pfx=false then 1 else 0
def mat6 (s:PSet)(m:Mat):Int:=if m.name≠ [] then 1 else if m.pfx.addr≠0 then 1 else if m.pfx.len≠0 then 1 else if m.n<0 then 5 else if 16777216<m.n then 5 else if bz m.pfx=false then 1 else 0
def mat7 (s:PSet)(m:Mat):Int:=if m.name≠ [] then 1 else if m.n≠0 then 1 else if bz m.pfx=false then 1 else 0
def mat8 (s:PSet)(m:Mat):Int:=if m.name≠ [] then 1 else if m.pfx.addr≠0 then 1 else if m.pfx.len≠0 then 1 else if m.n<0 then 5 else if 2000<m.n then 5 else if bz m.pfx=false then 1 else 0
end Go.AM.IR
namespace Go.AM.IR
def KJ (s:PSet)(m:Mat):Int:=if m.kind<1 then 15 else if 8<m.kind then 15 else if m.kind=1 then mat1 s m else if m.kind=2 then mat2 s m else if m.kind=3 then mat3 s m else if m.kind=4 then mat4 s m else if m.kind=5 then mat5 s m else if m.kind=6 then mat6 s m else if m.kind=7 then mat7 s m else mat8 s m
end Go.AM.IR
