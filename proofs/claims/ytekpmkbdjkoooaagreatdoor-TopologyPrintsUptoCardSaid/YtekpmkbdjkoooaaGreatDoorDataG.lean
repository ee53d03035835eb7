/- What the functions of this program give, on the abstract machine. -/
import Derived.Test.YtekpmkbdjkoooaaGreatDoorDataF
set_option linter.unusedVariables false
set_option linter.unusedSimpArgs false
set_option maxHeartbeats 4000000
set_option maxRecDepth 20000
namespace Go.AM.IR
section
variable {kv:AV→Prop}
end
def rN (s:PSet)(m:Mat):Int:=if m.n≠0 then 1 else if m.pfx.addr≠0 then 1 else if m.pfx.len≠0 then 1 else if ni s.prefixes m.name=none then 6 else if aW m.pfx=false then 1 else 0
theorem ahX (s:PSet)(hs:s.prefixes.length<2^40∧s.paths.length<2^40∧s.comms.length<2^40)(m:Mat)(hp:m.pfx.ok)(hk:m.kind=1):ah G 574 [.agg s.enc,.agg m.enc] [] ⟨.int .i64 (rN s m),[]⟩:=by
 have h0:=e9 m.kind;rw[hk] at h0;have h1:ah G 179 [.agg [.int .u32 m.pfx.addr,.int .i64 m.pfx.len]] [] ⟨.bool (aW m.pfx),[]⟩:=co m.pfx hp;have h0:ah G 619 [.int .i64 m.kind] [] (fe 1):=by rw[hk];exact h0
 simp (decide:=true) only[fe,if_true,if_false,reduceIte] at h0;have h2:=Lj s hs.1 m.name
 by_cases c0:m.n≠0
 ·rw[rN,Ad c0]
  exact gvA (F:=bP)
 have d0:m.n=0:=AD.1 c0
 by_cases c1:m.pfx.addr≠0
 ·rw[rN,Ac c0,Ad c1]
  exact gvA (F:=bP)
 have d1:m.pfx.addr=0:=AD.1 c1
 by_cases c2:m.pfx.len≠0
 ·rw[rN,Ac c0,Ac c1,Ad c2]
  exact gvA (F:=bP)
 have d2:m.pfx.len=0:=AD.1 c2;rcases hf:ni s.prefixes m.name with _|f
 ·rw[hf] at h2
  simp only[Uk] at h2;rw[rN,Ac c0,Ac c1,Ac c2,Ad hf];exact gvA (F:=bP)
 rw[hf] at h2;simp only[Uk] at h2;have c3: ¬ni s.prefixes m.name=none:=by rw[hf];simp
 rcases hv:aW m.pfx with _|_
 ·rw[hv] at h1
  rw[rN,Ac c0,Ac c1,Ac c2,Ac c3,Ad hv];exact gvA (F:=bP)
 ·rw[hv] at h1
  rw[rN,Ac c0,Ac c1,Ac c2,Ac c3,Ac (by rw[hv];simp)]
  exact gvA (F:=bP)
def rM (s:PSet)(m:Mat):Int:=if m.n≠0 then 1 else if m.pfx.addr≠0 then 1 else if m.pfx.len≠0 then 1 else if nj s.paths m.name=none then 6 else if aW m.pfx=false then 1 else 0
theorem ahW (s:PSet)(hs:s.prefixes.length<2^40∧s.paths.length<2^40∧s.comms.length<2^40)(m:Mat)(hp:m.pfx.ok)(hk:m.kind=2):ah G 574 [.agg s.enc,.agg m.enc] [] ⟨.int .i64 (rM s m),[]⟩:=by
 have h0:=e9 m.kind;rw[hk] at h0;have h1:ah G 179 [.agg [.int .u32 m.pfx.addr,.int .i64 m.pfx.len]] [] ⟨.bool (aW m.pfx),[]⟩:=co m.pfx hp;have h0:ah G 619 [.int .i64 m.kind] [] (fe 2):=by rw[hk];exact h0
 simp (decide:=true) only[fe,if_true,if_false,reduceIte] at h0;have h2:=Lx s hs.2.1 m.name
 by_cases c0:m.n≠0
 ·rw[rM,Ad c0]
  exact gvA (F:=bP)
 have d0:m.n=0:=AD.1 c0
 by_cases c1:m.pfx.addr≠0
 ·rw[rM,Ac c0,Ad c1]
  exact gvA (F:=bP)
 have d1:m.pfx.addr=0:=AD.1 c1
 by_cases c2:m.pfx.len≠0
 ·rw[rM,Ac c0,Ac c1,Ad c2]
  exact gvA (F:=bP)
 have d2:m.pfx.len=0:=AD.1 c2;rcases hf:nj s.paths m.name with _|f
 ·rw[hf] at h2
  simp only[Um] at h2;rw[rM,Ac c0,Ac c1,Ac c2,Ad hf];exact gvA (F:=bP)
 rw[hf] at h2;simp only[Um] at h2;have c3: ¬nj s.paths m.name=none:=by rw[hf];simp
 rcases hv:aW m.pfx with _|_
 ·rw[hv] at h1
  rw[rM,Ac c0,Ac c1,Ac c2,Ac c3,Ad hv];exact gvA (F:=bP)
 ·rw[hv] at h1
  rw[rM,Ac c0,Ac c1,Ac c2,Ac c3,Ac (by rw[hv];simp)]
  exact gvA (F:=bP)
def rK (s:PSet)(m:Mat):Int:=if m.n≠0 then 1 else if m.pfx.addr≠0 then 1 else if m.pfx.len≠0 then 1 else if nv s.comms m.name=none then 6 else if aW m.pfx=false then 1 else 0
theorem ahV (s:PSet)(hs:s.prefixes.length<2^40∧s.paths.length<2^40∧s.comms.length<2^40)(m:Mat)(hp:m.pfx.ok)(hk:m.kind=3):ah G 574 [.agg s.enc,.agg m.enc] [] ⟨.int .i64 (rK s m),[]⟩:=by
 have h0:=e9 m.kind;rw[hk] at h0;have h1:ah G 179 [.agg [.int .u32 m.pfx.addr,.int .i64 m.pfx.len]] [] ⟨.bool (aW m.pfx),[]⟩:=co m.pfx hp;have h0:ah G 619 [.int .i64 m.kind] [] (fe 3):=by rw[hk];exact h0
 simp (decide:=true) only[fe,if_true,if_false,reduceIte] at h0;have h2:=Ov s hs.2.2 m.name
 by_cases c0:m.n≠0
 ·rw[rK,Ad c0]
  exact gvA (F:=bP)
 have d0:m.n=0:=AD.1 c0
 by_cases c1:m.pfx.addr≠0
 ·rw[rK,Ac c0,Ad c1]
  exact gvA (F:=bP)
 have d1:m.pfx.addr=0:=AD.1 c1
 by_cases c2:m.pfx.len≠0
 ·rw[rK,Ac c0,Ac c1,Ad c2]
  exact gvA (F:=bP)
 have d2:m.pfx.len=0:=AD.1 c2;rcases hf:nv s.comms m.name with _|f
 ·rw[hf] at h2
  simp only[WH] at h2;rw[rK,Ac c0,Ac c1,Ac c2,Ad hf];exact gvA (F:=bP)
 rw[hf] at h2;simp only[WH] at h2;have c3: ¬nv s.comms m.name=none:=by rw[hf];simp
 rcases hv:aW m.pfx with _|_
 ·rw[hv] at h1
  rw[rK,Ac c0,Ac c1,Ac c2,Ac c3,Ad hv];exact gvA (F:=bP)
 ·rw[hv] at h1
  rw[rK,Ac c0,Ac c1,Ac c2,Ac c3,Ac (by rw[hv];simp)]
  exact gvA (F:=bP)
def qy (s:PSet)(m:Mat):Int:=if m.name≠ [] then 1 else if m.pfx.addr≠0 then 1 else if m.pfx.len≠0 then 1 else if m.n<1 then 5 else if 7<m.n then 5 else if aW m.pfx=false then 1 else 0
theorem ahU (s:PSet)(hs:s.prefixes.length<2^40∧s.paths.length<2^40∧s.comms.length<2^40)(m:Mat)(hp:m.pfx.ok)(hk:m.kind=4):ah G 574 [.agg s.enc,.agg m.enc] [] ⟨.int .i64 (qy s m),[]⟩:=by
 have h0:=e9 m.kind;rw[hk] at h0;have h1:ah G 179 [.agg [.int .u32 m.pfx.addr,.int .i64 m.pfx.len]] [] ⟨.bool (aW m.pfx),[]⟩:=co m.pfx hp;have h0:ah G 619 [.int .i64 m.kind] [] (fe 4):=by rw[hk];exact h0
 simp only[fe] at h0;simp (decide:=true) only[fe,if_true,if_false,reduceIte] at h0
 by_cases c0:m.name≠ []
 ·rw[qy,Ad c0]
  refine gvC (F:=bP) ?_
  repeat' ((conv=>whnf);first|refine Bh c0 ?_|refine au ?_|(refine ae ?_ ?_<;>intro h))
  refine ag ?_;rfl
 have d0:m.name= []:=AD.1 c0
 by_cases c1:m.pfx.addr≠0
 ·rw[qy,Ac c0,Ad c1]
  refine gvC (F:=bP) ?_
  repeat' ((conv=>whnf);first|refine fb d0 ?_|refine au ?_|(refine ae ?_ ?_<;>intro h))
  refine ag ?_;rfl
 have d1:m.pfx.addr=0:=AD.1 c1
 by_cases c2:m.pfx.len≠0
 ·rw[qy,Ac c0,Ac c1,Ad c2]
  refine gvC (F:=bP) ?_
  repeat' ((conv=>whnf);first|refine fb d0 ?_|refine au ?_|(refine ae ?_ ?_<;>intro h))
  refine ag ?_;rfl
 have d2:m.pfx.len=0:=AD.1 c2
 by_cases c3:m.n<1
 ·rw[qy,Ac c0,Ac c1,Ac c2,Ad c3]
  refine gvC (F:=bP) ?_
  repeat' ((conv=>whnf);first|refine fb d0 ?_|refine au ?_|(refine ae ?_ ?_<;>intro h))
  refine ag ?_;rfl
 by_cases c4:7<m.n
 ·rw[qy,Ac c0,Ac c1,Ac c2,Ac c3,Ad c4]
  refine gvC (F:=bP) ?_
  repeat' ((conv=>whnf);first|refine fb d0 ?_|refine au ?_|(refine ae ?_ ?_<;>intro h))
  refine ag ?_;rfl
 rcases hv:aW m.pfx with _|_
 ·rw[hv] at h1
  rw[qy,Ac c0,Ac c1,Ac c2,Ac c3,Ac c4,Ad hv];refine gvC (F:=bP) ?_
  repeat' ((conv=>whnf);first|refine fb d0 ?_|refine au ?_|(refine ae ?_ ?_<;>intro h))
  refine ag ?_;rfl
 ·rw[hv] at h1
  rw[qy,Ac c0,Ac c1,Ac c2,Ac c3,Ac c4,Ac (by rw[hv];simp)]
  refine gvC (F:=bP) ?_
  repeat' ((conv=>whnf);first|refine fb d0 ?_|refine au ?_|(refine ae ?_ ?_<;>intro h))
  refine ag ?_;rfl
def qx (s:PSet)(m:Mat):Int:=if m.name≠ [] then 1 else if m.pfx.addr≠0 then 1 else if m.pfx.len≠0 then 1 else if m.n<0 then 5 else if 4294967295<m.n then 5 else if aW m.pfx=false then 1 else 0
theorem ahT (s:PSet)(hs:s.prefixes.length<2^40∧s.paths.length<2^40∧s.comms.length<2^40)(m:Mat)(hp:m.pfx.ok)(hk:m.kind=5):ah G 574 [.agg s.enc,.agg m.enc] [] ⟨.int .i64 (qx s m),[]⟩:=by
 have h0:=e9 m.kind;rw[hk] at h0;have h1:ah G 179 [.agg [.int .u32 m.pfx.addr,.int .i64 m.pfx.len]] [] ⟨.bool (aW m.pfx),[]⟩:=co m.pfx hp;have h0:ah G 619 [.int .i64 m.kind] [] (fe 5):=by rw[hk];exact h0
 simp only[fe] at h0;simp (decide:=true) only[fe,if_true,if_false,reduceIte] at h0
 by_cases c0:m.name≠ []
 ·rw[qx,Ad c0]
  refine gvC (F:=bP) ?_
  repeat' ((conv=>whnf);first|refine Bh c0 ?_|refine au ?_|(refine ae ?_ ?_<;>intro h))
  refine ag ?_;rfl
 have d0:m.name= []:=AD.1 c0
 by_cases c1:m.pfx.addr≠0
 ·rw[qx,Ac c0,Ad c1]
  refine gvC (F:=bP) ?_
  repeat' ((conv=>whnf);first|refine fb d0 ?_|refine au ?_|(refine ae ?_ ?_<;>intro h))
  refine ag ?_;rfl
 have d1:m.pfx.addr=0:=AD.1 c1
 by_cases c2:m.pfx.len≠0
 ·rw[qx,Ac c0,Ac c1,Ad c2]
  refine gvC (F:=bP) ?_
  repeat' ((conv=>whnf);first|refine fb d0 ?_|refine au ?_|(refine ae ?_ ?_<;>intro h))
  refine ag ?_;rfl
 have d2:m.pfx.len=0:=AD.1 c2
 by_cases c3:m.n<0
 ·rw[qx,Ac c0,Ac c1,Ac c2,Ad c3]
  refine gvC (F:=bP) ?_
  repeat' ((conv=>whnf);first|refine fb d0 ?_|refine au ?_|(refine ae ?_ ?_<;>intro h))
  refine ag ?_;rfl
 by_cases c4:4294967295<m.n
 ·rw[qx,Ac c0,Ac c1,Ac c2,Ac c3,Ad c4]
  refine gvC (F:=bP) ?_
  repeat' ((conv=>whnf);first|refine fb d0 ?_|refine au ?_|(refine ae ?_ ?_<;>intro h))
  refine ag ?_;rfl
 rcases hv:aW m.pfx with _|_
 ·rw[hv] at h1
  rw[qx,Ac c0,Ac c1,Ac c2,Ac c3,Ac c4,Ad hv];refine gvC (F:=bP) ?_
  repeat' ((conv=>whnf);first|refine fb d0 ?_|refine au ?_|(refine ae ?_ ?_<;>intro h))
  refine ag ?_;rfl
 ·rw[hv] at h1
  rw[qx,Ac c0,Ac c1,Ac c2,Ac c3,Ac c4,Ac (by rw[hv];simp)]
  refine gvC (F:=bP) ?_
  repeat' ((conv=>whnf);first|refine fb d0 ?_|refine au ?_|(refine ae ?_ ?_<;>intro h))
  refine ag ?_;rfl
def qw (s:PSet)(m:Mat):Int:=if m.name≠ [] then 1 else if m.pfx.addr≠0 then 1 else if m.pfx.len≠0 then 1 else if m.n<0 then 5 else if 16777216<m.n then 5 else if aW m.pfx=false then 1 else 0
theorem ahS (s:PSet)(hs:s.prefixes.length<2^40∧s.paths.length<2^40∧s.comms.length<2^40)(m:Mat)(hp:m.pfx.ok)(hk:m.kind=6):ah G 574 [.agg s.enc,.agg m.enc] [] ⟨.int .i64 (qw s m),[]⟩:=by
 have h0:=e9 m.kind;rw[hk] at h0;have h1:ah G 179 [.agg [.int .u32 m.pfx.addr,.int .i64 m.pfx.len]] [] ⟨.bool (aW m.pfx),[]⟩:=co m.pfx hp;have h0:ah G 619 [.int .i64 m.kind] [] (fe 6):=by rw[hk];exact h0
 simp only[fe] at h0;simp (decide:=true) only[fe,if_true,if_false,reduceIte] at h0
 by_cases c0:m.name≠ []
 ·rw[qw,Ad c0]
  refine gvC (F:=bP) ?_
  repeat' ((conv=>whnf);first|refine Bh c0 ?_|refine au ?_|(refine ae ?_ ?_<;>intro h))
  refine ag ?_;rfl
 have d0:m.name= []:=AD.1 c0
 by_cases c1:m.pfx.addr≠0
 ·rw[qw,Ac c0,Ad c1]
  refine gvC (F:=bP) ?_
  repeat' ((conv=>whnf);first|refine fb d0 ?_|refine au ?_|(refine ae ?_ ?_<;>intro h))
  refine ag ?_;rfl
 have d1:m.pfx.addr=0:=AD.1 c1
 by_cases c2:m.pfx.len≠0
 ·rw[qw,Ac c0,Ac c1,Ad c2]
  refine gvC (F:=bP) ?_
  repeat' ((conv=>whnf);first|refine fb d0 ?_|refine au ?_|(refine ae ?_ ?_<;>intro h))
  refine ag ?_;rfl
 have d2:m.pfx.len=0:=AD.1 c2
 by_cases c3:m.n<0
 ·rw[qw,Ac c0,Ac c1,Ac c2,Ad c3]
  refine gvC (F:=bP) ?_
  repeat' ((conv=>whnf);first|refine fb d0 ?_|refine au ?_|(refine ae ?_ ?_<;>intro h))
  refine ag ?_;rfl
 by_cases c4:16777216<m.n
 ·rw[qw,Ac c0,Ac c1,Ac c2,Ac c3,Ad c4]
  refine gvC (F:=bP) ?_
  repeat' ((conv=>whnf);first|refine fb d0 ?_|refine au ?_|(refine ae ?_ ?_<;>intro h))
  refine ag ?_;rfl
 rcases hv:aW m.pfx with _|_
 ·rw[hv] at h1
  rw[qw,Ac c0,Ac c1,Ac c2,Ac c3,Ac c4,Ad hv];refine gvC (F:=bP) ?_
  repeat' ((conv=>whnf);first|refine fb d0 ?_|refine au ?_|(refine ae ?_ ?_<;>intro h))
  refine ag ?_;rfl
 ·rw[hv] at h1
  rw[qw,Ac c0,Ac c1,Ac c2,Ac c3,Ac c4,Ac (by rw[hv];simp)]
  refine gvC (F:=bP) ?_
  repeat' ((conv=>whnf);first|refine fb d0 ?_|refine au ?_|(refine ae ?_ ?_<;>intro h))
  refine ag ?_;rfl
def wC (s:PSet)(m:Mat):Int:=if m.name≠ [] then 1 else if m.n≠0 then 1 else if aW m.pfx=false then 1 else 0
theorem ahR (s:PSet)(hs:s.prefixes.length<2^40∧s.paths.length<2^40∧s.comms.length<2^40)(m:Mat)(hp:m.pfx.ok)(hk:m.kind=7):ah G 574 [.agg s.enc,.agg m.enc] [] ⟨.int .i64 (wC s m),[]⟩:=by
 have h0:=e9 m.kind;rw[hk] at h0;have h1:ah G 179 [.agg [.int .u32 m.pfx.addr,.int .i64 m.pfx.len]] [] ⟨.bool (aW m.pfx),[]⟩:=co m.pfx hp;have h0:ah G 619 [.int .i64 m.kind] [] (fe 7):=by rw[hk];exact h0
 simp (decide:=true) only[fe,if_true,if_false,reduceIte] at h0
 by_cases c0:m.name≠ []
 ·rw[wC,Ad c0]
  refine gvC (F:=bP) ?_
  repeat' ((conv=>whnf);first|refine Bh c0 ?_|refine au ?_|(refine ae ?_ ?_<;>intro h))
  refine ag ?_;rfl
 have d0:m.name= []:=AD.1 c0
 by_cases c1:m.n≠0
 ·rw[wC,Ac c0,Ad c1]
  refine gvC (F:=bP) ?_
  repeat' ((conv=>whnf);first|refine fb d0 ?_|refine au ?_|(refine ae ?_ ?_<;>intro h))
  refine ag ?_;rfl
 have d1:m.n=0:=AD.1 c1;rcases hv:aW m.pfx with _|_
 ·rw[hv] at h1
  rw[wC,Ac c0,Ac c1,Ad hv];refine gvC (F:=bP) ?_
  repeat' ((conv=>whnf);first|refine fb d0 ?_|refine au ?_|(refine ae ?_ ?_<;>intro h))
  refine ag ?_;rfl
 ·rw[hv] at h1
  rw[wC,Ac c0,Ac c1,Ac (by rw[hv];simp)]
  refine gvC (F:=bP) ?_
  repeat' ((conv=>whnf);first|refine fb d0 ?_|refine au ?_|(refine ae ?_ ?_<;>intro h))
  refine ag ?_;rfl
def qv (s:PSet)(m:Mat):Int:=if m.name≠ [] then 1 else if m.pfx.addr≠0 then 1 else if m.pfx.len≠0 then 1 else if m.n<0 then 5 else if 2000<m.n then 5 else if aW m.pfx=false then 1 else 0
theorem ahQ (s:PSet)(hs:s.prefixes.length<2^40∧s.paths.length<2^40∧s.comms.length<2^40)(m:Mat)(hp:m.pfx.ok)(hk:m.kind=8):ah G 574 [.agg s.enc,.agg m.enc] [] ⟨.int .i64 (qv s m),[]⟩:=by
 have h0:=e9 m.kind;rw[hk] at h0;have h1:ah G 179 [.agg [.int .u32 m.pfx.addr,.int .i64 m.pfx.len]] [] ⟨.bool (aW m.pfx),[]⟩:=co m.pfx hp;have h0:ah G 619 [.int .i64 m.kind] [] (fe 8):=by rw[hk];exact h0
 simp only[fe] at h0;simp (decide:=true) only[fe,if_true,if_false,reduceIte] at h0
 by_cases c0:m.name≠ []
 ·rw[qv,Ad c0]
  refine gvC (F:=bP) ?_
  repeat' ((conv=>whnf);first|refine Bh c0 ?_|refine au ?_|(refine ae ?_ ?_<;>intro h))
  refine ag ?_;rfl
 have d0:m.name= []:=AD.1 c0
 by_cases c1:m.pfx.addr≠0
 ·rw[qv,Ac c0,Ad c1]
  refine gvC (F:=bP) ?_
  repeat' ((conv=>whnf);first|refine fb d0 ?_|refine au ?_|(refine ae ?_ ?_<;>intro h))
  refine ag ?_;rfl
 have d1:m.pfx.addr=0:=AD.1 c1
 by_cases c2:m.pfx.len≠0
 ·rw[qv,Ac c0,Ac c1,Ad c2]
  refine gvC (F:=bP) ?_
  repeat' ((conv=>whnf);first|refine fb d0 ?_|refine au ?_|(refine ae ?_ ?_<;>intro h))
  refine ag ?_;rfl
 have d2:m.pfx.len=0:=AD.1 c2
 by_cases c3:m.n<0
 ·rw[qv,Ac c0,Ac c1,Ac c2,Ad c3]
  refine gvC (F:=bP) ?_
  repeat' ((conv=>whnf);first|refine fb d0 ?_|refine au ?_|(refine ae ?_ ?_<;>intro h))
  refine ag ?_;rfl
 by_cases c4:2000<m.n
 ·rw[qv,Ac c0,Ac c1,Ac c2,Ac c3,Ad c4]
  refine gvC (F:=bP) ?_
  repeat' ((conv=>whnf);first|refine fb d0 ?_|refine au ?_|(refine ae ?_ ?_<;>intro h))
  refine ag ?_;rfl
 rcases hv:aW m.pfx with _|_
 ·rw[hv] at h1
  rw[qv,Ac c0,Ac c1,Ac c2,Ac c3,Ac c4,Ad hv];refine gvC (F:=bP) ?_
  repeat' ((conv=>whnf);first|refine fb d0 ?_|refine au ?_|(refine ae ?_ ?_<;>intro h))
  refine ag ?_;rfl
 ·rw[hv] at h1
  rw[qv,Ac c0,Ac c1,Ac c2,Ac c3,Ac c4,Ac (by rw[hv];simp)]
  refine gvC (F:=bP) ?_
  repeat' ((conv=>whnf);first|refine fb d0 ?_|refine au ?_|(refine ae ?_ ?_<;>intro h))
  refine ag ?_;rfl
end Go.AM.IR
namespace Go.AM.IR
def rJ (s:PSet)(m:Mat):Int:=if m.kind<1 then 15 else if 8<m.kind then 15 else if m.kind=1 then rN s m else if m.kind=2 then rM s m else if m.kind=3 then rK s m else if m.kind=4 then qy s m else if m.kind=5 then qx s m else if m.kind=6 then qw s m else if m.kind=7 then wC s m else qv s m
theorem Mo (s:PSet)(hs:s.prefixes.length<2^40∧s.paths.length<2^40∧s.comms.length<2^40)(m:Mat)(hp:m.pfx.ok):ah G 574 [.agg s.enc,.agg m.enc] [] ⟨.int .i64 (rJ s m),[]⟩:=by
 rw[rJ]
 by_cases a:m.kind<1
 ·rw[Ad a]
  exact gvA (F:=bP)
 rw[Ac a]
 by_cases b:8<m.kind
 ·rw[Ad b]
  exact gvA (F:=bP)
 rw[Ac b]
 by_cases k1:m.kind=1
 ·rw[Ad k1]
  exact ahX s hs m hp k1
 rw[Ac k1]
 by_cases k2:m.kind=2
 ·rw[Ad k2]
  exact ahW s hs m hp k2
 rw[Ac k2]
 by_cases k3:m.kind=3
 ·rw[Ad k3]
  exact ahV s hs m hp k3
 rw[Ac k3]
 by_cases k4:m.kind=4
 ·rw[Ad k4]
  exact ahU s hs m hp k4
 rw[Ac k4]
 by_cases k5:m.kind=5
 ·rw[Ad k5]
  exact ahT s hs m hp k5
 rw[Ac k5]
 by_cases k6:m.kind=6
 ·rw[Ad k6]
  exact ahS s hs m hp k6
 rw[Ac k6]
 by_cases k7:m.kind=7
 ·rw[Ad k7]
  exact ahR s hs m hp k7
 rw[Ac k7];exact ahQ s hs m hp (by omega)
end Go.AM.IR
