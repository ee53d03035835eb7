/- What functions of this program give. -/
import Derived.Test.YtomphmeopjpejaaGreatDoorDataF
set_option linter.unusedVariables false
set_option linter.unusedSimpArgs false
set_option maxHeartbeats 4000000
set_option maxRecDepth 20000
namespace Go.AM.IR
section
variable (s:PSet)(m:Mat)
def Ry:Int:=if m.n≠0 then 1 else if m.pfx.addr≠0 then 1 else if m.pfx.len≠0 then 1 else if oo s.prefixes m.name=none then 6 else if bj m.pfx=false then 1 else 0
theorem agL (hs:s.prefixes.length<2^40/\s.paths.length<2^40/\s.comms.length<2^40)(m:Mat)(hp:m.pfx.ok)(hk:m.kind=1):ab G 574 [.agg s.enc,.agg m.enc] [] ⟨.int .i64 (Ry s m),[]⟩:=by
 have h0:=ft m.kind;rw[hk] at h0;have h1:ab G 179 [.agg [.int .u32 m.pfx.addr,.int .i64 m.pfx.len]] [] ⟨.bool (bj m.pfx),[]⟩:=dk m.pfx hp;have h0:ab G 619 [.int .i64 m.kind] [] (fy 1):=by rw[hk];exact h0
 simp (decide:=true) only[fy,if_true,if_false,reduceIte] at h0;unfold Ry;have h2:=II s hs.1 m.name;rcases hf:oo s.prefixes m.name with _|f<;>rw[hf] at h2<;>simp only[Yj] at h2<;>rcases hv:bj m.pfx with _|_<;>rw[hv] at h1<;>exact gvD (F:=nl)
def Ru:Int:=if m.n≠0 then 1 else if m.pfx.addr≠0 then 1 else if m.pfx.len≠0 then 1 else if ot s.paths m.name=none then 6 else if bj m.pfx=false then 1 else 0
theorem agK (hs:s.prefixes.length<2^40/\s.paths.length<2^40/\s.comms.length<2^40)(m:Mat)(hp:m.pfx.ok)(hk:m.kind=2):ab G 574 [.agg s.enc,.agg m.enc] [] ⟨.int .i64 (Ru s m),[]⟩:=by
 have h0:=ft m.kind;rw[hk] at h0;have h1:ab G 179 [.agg [.int .u32 m.pfx.addr,.int .i64 m.pfx.len]] [] ⟨.bool (bj m.pfx),[]⟩:=dk m.pfx hp;have h0:ab G 619 [.int .i64 m.kind] [] (fy 2):=by rw[hk];exact h0
 simp (decide:=true) only[fy,if_true,if_false,reduceIte] at h0;unfold Ru;have h2:=IQ s hs.2.1 m.name;rcases hf:ot s.paths m.name with _|f<;>rw[hf] at h2<;>simp only[Yp] at h2<;>rcases hv:bj m.pfx with _|_<;>rw[hv] at h1<;>exact gvD (F:=nl)
def Rq:Int:=if m.n≠0 then 1 else if m.pfx.addr≠0 then 1 else if m.pfx.len≠0 then 1 else if oV s.comms m.name=none then 6 else if bj m.pfx=false then 1 else 0
theorem agJ (hs:s.prefixes.length<2^40/\s.paths.length<2^40/\s.comms.length<2^40)(m:Mat)(hp:m.pfx.ok)(hk:m.kind=3):ab G 574 [.agg s.enc,.agg m.enc] [] ⟨.int .i64 (Rq s m),[]⟩:=by
 have h0:=ft m.kind;rw[hk] at h0;have h1:ab G 179 [.agg [.int .u32 m.pfx.addr,.int .i64 m.pfx.len]] [] ⟨.bool (bj m.pfx),[]⟩:=dk m.pfx hp;have h0:ab G 619 [.int .i64 m.kind] [] (fy 3):=by rw[hk];exact h0
 simp (decide:=true) only[fy,if_true,if_false,reduceIte] at h0;unfold Rq;have h2:=KM s hs.2.2 m.name;rcases hf:oV s.comms m.name with _|f<;>rw[hf] at h2<;>simp only[abk] at h2<;>rcases hv:bj m.pfx with _|_<;>rw[hv] at h1<;>exact gvD (F:=nl)
def Rn (s:PSet)(m:Mat):Int:=if m.name≠ [] then 1 else if m.pfx.addr≠0 then 1 else if m.pfx.len≠0 then 1 else if m.n<1 then 5 else if 7<m.n then 5 else if bj m.pfx=false then 1 else 0
theorem agI (hs:s.prefixes.length<2^40/\s.paths.length<2^40/\s.comms.length<2^40)(m:Mat)(hp:m.pfx.ok)(hk:m.kind=4):ab G 574 [.agg s.enc,.agg m.enc] [] ⟨.int .i64 (Rn s m),[]⟩:=by
 have h0:=ft m.kind;rw[hk] at h0;have h1:ab G 179 [.agg [.int .u32 m.pfx.addr,.int .i64 m.pfx.len]] [] ⟨.bool (bj m.pfx),[]⟩:=dk m.pfx hp;have h0:ab G 619 [.int .i64 m.kind] [] (fy 4):=by rw[hk];exact h0
 simp only[fy] at h0;simp (decide:=true) only[fy,if_true,if_false,reduceIte] at h0;unfold Rn
 by_cases d:m.name= []<;>rcases hv:bj m.pfx with _|_<;>rw[hv] at h1<;>exact gvD (F:=nl)
def Rm (s:PSet)(m:Mat):Int:=if m.name≠ [] then 1 else if m.pfx.addr≠0 then 1 else if m.pfx.len≠0 then 1 else if m.n<0 then 5 else if 4294967295<m.n then 5 else if bj m.pfx=false then 1 else 0
theorem agH (hs:s.prefixes.length<2^40/\s.paths.length<2^40/\s.comms.length<2^40)(m:Mat)(hp:m.pfx.ok)(hk:m.kind=5):ab G 574 [.agg s.enc,.agg m.enc] [] ⟨.int .i64 (Rm s m),[]⟩:=by
 have h0:=ft m.kind;rw[hk] at h0;have h1:ab G 179 [.agg [.int .u32 m.pfx.addr,.int .i64 m.pfx.len]] [] ⟨.bool (bj m.pfx),[]⟩:=dk m.pfx hp;have h0:ab G 619 [.int .i64 m.kind] [] (fy 5):=by rw[hk];exact h0
 simp only[fy] at h0;simp (decide:=true) only[fy,if_true,if_false,reduceIte] at h0;unfold Rm
 by_cases d:m.name= []<;>rcases hv:bj m.pfx with _|_<;>rw[hv] at h1<;>exact gvD (F:=nl)
def Rk (s:PSet)(m:Mat):Int:=if m.name≠ [] then 1 else if m.pfx.addr≠0 then 1 else if m.pfx.len≠0 then 1 else if m.n<0 then 5 else if 16777216<m.n then 5 else if bj m.pfx=false then 1 else 0
theorem agF (hs:s.prefixes.length<2^40/\s.paths.length<2^40/\s.comms.length<2^40)(m:Mat)(hp:m.pfx.ok)(hk:m.kind=6):ab G 574 [.agg s.enc,.agg m.enc] [] ⟨.int .i64 (Rk s m),[]⟩:=by
 have h0:=ft m.kind;rw[hk] at h0;have h1:ab G 179 [.agg [.int .u32 m.pfx.addr,.int .i64 m.pfx.len]] [] ⟨.bool (bj m.pfx),[]⟩:=dk m.pfx hp;have h0:ab G 619 [.int .i64 m.kind] [] (fy 6):=by rw[hk];exact h0
 simp only[fy] at h0;simp (decide:=true) only[fy,if_true,if_false,reduceIte] at h0;unfold Rk
 by_cases d:m.name= []<;>rcases hv:bj m.pfx with _|_<;>rw[hv] at h1<;>exact gvD (F:=nl)
def Rj (s:PSet)(m:Mat):Int:=if m.name≠ [] then 1 else if m.n≠0 then 1 else if bj m.pfx=false then 1 else 0
theorem agE (hs:s.prefixes.length<2^40/\s.paths.length<2^40/\s.comms.length<2^40)(m:Mat)(hp:m.pfx.ok)(hk:m.kind=7):ab G 574 [.agg s.enc,.agg m.enc] [] ⟨.int .i64 (Rj s m),[]⟩:=by
 have h0:=ft m.kind;rw[hk] at h0;have h1:ab G 179 [.agg [.int .u32 m.pfx.addr,.int .i64 m.pfx.len]] [] ⟨.bool (bj m.pfx),[]⟩:=dk m.pfx hp;have h0:ab G 619 [.int .i64 m.kind] [] (fy 7):=by rw[hk];exact h0
 simp (decide:=true) only[fy,if_true,if_false,reduceIte] at h0;unfold Rj
 by_cases d:m.name= []<;>rcases hv:bj m.pfx with _|_<;>rw[hv] at h1<;>exact gvD (F:=nl)
def Ri (s:PSet)(m:Mat):Int:=if m.name≠ [] then 1 else if m.pfx.addr≠0 then 1 else if m.pfx.len≠0 then 1 else if m.n<0 then 5 else if 2000<m.n then 5 else if bj m.pfx=false then 1 else 0
theorem agD (hs:s.prefixes.length<2^40/\s.paths.length<2^40/\s.comms.length<2^40)(m:Mat)(hp:m.pfx.ok)(hk:m.kind=8):ab G 574 [.agg s.enc,.agg m.enc] [] ⟨.int .i64 (Ri s m),[]⟩:=by
 have h0:=ft m.kind;rw[hk] at h0;have h1:ab G 179 [.agg [.int .u32 m.pfx.addr,.int .i64 m.pfx.len]] [] ⟨.bool (bj m.pfx),[]⟩:=dk m.pfx hp;have h0:ab G 619 [.int .i64 m.kind] [] (fy 8):=by rw[hk];exact h0
 simp only[fy] at h0;simp (decide:=true) only[fy,if_true,if_false,reduceIte] at h0;unfold Ri
 by_cases d:m.name= []<;>rcases hv:bj m.pfx with _|_<;>rw[hv] at h1<;>exact gvD (F:=nl)
def re:Int:=if m.kind<1 then 15 else if 8<m.kind then 15 else if m.kind=1 then Ry s m else if m.kind=2 then Ru s m else if m.kind=3 then Rq s m else if m.kind=4 then Rn s m else if m.kind=5 then Rm s m else if m.kind=6 then Rk s m else if m.kind=7 then Rj s m else Ri s m
theorem Ji (hs:s.prefixes.length<2^40/\s.paths.length<2^40/\s.comms.length<2^40)(m:Mat)(hp:m.pfx.ok):ab G 574 [.agg s.enc,.agg m.enc] [] ⟨.int .i64 (re s m),[]⟩:=by
 rw[re]
 by_cases a:m.kind<1
 ·rw[Ad a]
  exact gvA (F:=nl)
 rw[Ac a]
 by_cases b:8<m.kind
 ·rw[Ad b]
  exact gvA (F:=nl)
 rw[Ac b]
 by_cases k1:m.kind=1
 ·rw[Ad k1]
  exact agL s hs m hp k1
 rw[Ac k1]
 by_cases k2:m.kind=2
 ·rw[Ad k2]
  exact agK s hs m hp k2
 rw[Ac k2]
 by_cases k3:m.kind=3
 ·rw[Ad k3]
  exact agJ s hs m hp k3
 rw[Ac k3]
 by_cases k4:m.kind=4
 ·rw[Ad k4]
  exact agI s hs m hp k4
 rw[Ac k4]
 by_cases k5:m.kind=5
 ·rw[Ad k5]
  exact agH s hs m hp k5
 rw[Ac k5]
 by_cases k6:m.kind=6
 ·rw[Ad k6]
  exact agF s hs m hp k6
 rw[Ac k6]
 by_cases k7:m.kind=7
 ·rw[Ad k7]
  exact agE s hs m hp k7
 rw[Ac k7];exact agD s hs m hp (by omega)
end
end Go.AM.IR
