/- What the functions of this program give, on the abstract machine. -/
import Derived.Test.YtomphmeopjpejaaGreatDoorDataJ
import Derived.Test.YtomphmeopjpejaaGreatDoorDataK
set_option linter.unusedVariables false
set_option linter.unusedSimpArgs false
set_option maxHeartbeats 4000000
set_option maxRecDepth 20000
namespace Go.AM.IR
section
variable {kv : AV → Prop}
theorem da {a b : List UInt8} (n : a = b) (h : kv (.bool false)) : ∃ v, bj .neq (.str a) (.str b) = some v ∧ kv v := ⟨.bool false, by show some (AV.bool (!(a == b))) = _; simp [n], h⟩
theorem uR {a b : List UInt8} (n : ¬ a = b) (h : kv (.bool true)) : ∃ v, bj .neq (.str a) (.str b) = some v ∧ kv v := ⟨.bool true, by show some (AV.bool (!(a == b))) = _; simp [n], h⟩
end
def lr (s : PSet) (m : Mat) : Int := if m.n ≠ 0 then 1 else if m.pfx.addr ≠ 0 then 1 else if m.pfx.len ≠ 0 then 1 else if iw s.prefixes m.name = none then 6 else if bb m.pfx = false then 1 else 0
theorem anO (s : PSet) (hs : s.prefixes.length < 2 ^ 40 ∧ s.paths.length < 2 ^ 40 ∧ s.comms.length < 2 ^ 40) (m : Mat) (hp : m.pfx.ok) (hk : m.kind = 1) : am G 574 [.agg s.enc, .agg m.enc] [] ⟨.int .i64 (lr s m), []⟩ := by
 have h0 := cR m.kind
 rw [hk] at h0
 have h1 : am G 179 [.agg [.int .u32 m.pfx.addr, .int .i64 m.pfx.len]] [] ⟨.bool (bb m.pfx), []⟩ := ce m.pfx hp
 have h0 : am G 619 [.int .i64 m.kind] [] (cX 1) := by rw [hk]; exact h0
 simp (decide := true) only [cX, if_true, if_false, reduceIte] at h0
 have h2 := vr s hs.1 m.name
 by_cases c0 : m.n ≠ 0
 ·rw [lr, if_pos c0]
  refine aa (F := f574) rfl rfl (ag 300 _ _ _ _ ?_)
  repeat' (first | refine ae ?_ | (refine ab ?_ ?_ <;> intro h))
  refine ah ?_; rfl
 have d0 : m.n = 0 := Decidable.not_not.1 c0
 by_cases c1 : m.pfx.addr ≠ 0
 ·rw [lr, if_neg c0, if_pos c1]
  refine aa (F := f574) rfl rfl (ag 300 _ _ _ _ ?_)
  repeat' (first | refine ae ?_ | (refine ab ?_ ?_ <;> intro h))
  refine ah ?_; rfl
 have d1 : m.pfx.addr = 0 := Decidable.not_not.1 c1
 by_cases c2 : m.pfx.len ≠ 0
 ·rw [lr, if_neg c0, if_neg c1, if_pos c2]
  refine aa (F := f574) rfl rfl (ag 300 _ _ _ _ ?_)
  repeat' (first | refine ae ?_ | (refine ab ?_ ?_ <;> intro h))
  refine ah ?_; rfl
 have d2 : m.pfx.len = 0 := Decidable.not_not.1 c2
 rcases hf : iw s.prefixes m.name with _ | f
 ·rw [hf] at h2
  simp only [DX] at h2
  rw [lr, if_neg c0, if_neg c1, if_neg c2, if_pos hf]
  refine aa (F := f574) rfl rfl (ag 300 _ _ _ _ ?_)
  repeat' (first | refine ae ?_ | (refine ab ?_ ?_ <;> intro h))
  refine ah ?_; rfl
 rw [hf] at h2
 simp only [DX] at h2
 have c3 : ¬ iw s.prefixes m.name = none := by rw [hf]; simp
 rcases hv : bb m.pfx with _ | _
 ·rw [hv] at h1
  rw [lr, if_neg c0, if_neg c1, if_neg c2, if_neg c3, if_pos hv]
  refine aa (F := f574) rfl rfl (ag 300 _ _ _ _ ?_)
  repeat' (first | refine ae ?_ | (refine ab ?_ ?_ <;> intro h))
  refine ah ?_; rfl
 ·rw [hv] at h1
  rw [lr, if_neg c0, if_neg c1, if_neg c2, if_neg c3, if_neg (by rw [hv]; simp)]
  refine aa (F := f574) rfl rfl (ag 300 _ _ _ _ ?_)
  repeat' (first | refine ae ?_ | (refine ab ?_ ?_ <;> intro h))
  refine ah ?_; rfl
def lq (s : PSet) (m : Mat) : Int := if m.n ≠ 0 then 1 else if m.pfx.addr ≠ 0 then 1 else if m.pfx.len ≠ 0 then 1 else if iy s.paths m.name = none then 6 else if bb m.pfx = false then 1 else 0
theorem anN (s : PSet) (hs : s.prefixes.length < 2 ^ 40 ∧ s.paths.length < 2 ^ 40 ∧ s.comms.length < 2 ^ 40) (m : Mat) (hp : m.pfx.ok) (hk : m.kind = 2) : am G 574 [.agg s.enc, .agg m.enc] [] ⟨.int .i64 (lq s m), []⟩ := by
 have h0 := cR m.kind
 rw [hk] at h0
 have h1 : am G 179 [.agg [.int .u32 m.pfx.addr, .int .i64 m.pfx.len]] [] ⟨.bool (bb m.pfx), []⟩ := ce m.pfx hp
 have h0 : am G 619 [.int .i64 m.kind] [] (cX 2) := by rw [hk]; exact h0
 simp (decide := true) only [cX, if_true, if_false, reduceIte] at h0
 have h2 := vu s hs.2.1 m.name
 by_cases c0 : m.n ≠ 0
 ·rw [lq, if_pos c0]
  refine aa (F := f574) rfl rfl (ag 300 _ _ _ _ ?_)
  repeat' (first | refine ae ?_ | (refine ab ?_ ?_ <;> intro h))
  refine ah ?_; rfl
 have d0 : m.n = 0 := Decidable.not_not.1 c0
 by_cases c1 : m.pfx.addr ≠ 0
 ·rw [lq, if_neg c0, if_pos c1]
  refine aa (F := f574) rfl rfl (ag 300 _ _ _ _ ?_)
  repeat' (first | refine ae ?_ | (refine ab ?_ ?_ <;> intro h))
  refine ah ?_; rfl
 have d1 : m.pfx.addr = 0 := Decidable.not_not.1 c1
 by_cases c2 : m.pfx.len ≠ 0
 ·rw [lq, if_neg c0, if_neg c1, if_pos c2]
  refine aa (F := f574) rfl rfl (ag 300 _ _ _ _ ?_)
  repeat' (first | refine ae ?_ | (refine ab ?_ ?_ <;> intro h))
  refine ah ?_; rfl
 have d2 : m.pfx.len = 0 := Decidable.not_not.1 c2
 rcases hf : iy s.paths m.name with _ | f
 ·rw [hf] at h2
  simp only [DZ] at h2
  rw [lq, if_neg c0, if_neg c1, if_neg c2, if_pos hf]
  refine aa (F := f574) rfl rfl (ag 300 _ _ _ _ ?_)
  repeat' (first | refine ae ?_ | (refine ab ?_ ?_ <;> intro h))
  refine ah ?_; rfl
 rw [hf] at h2
 simp only [DZ] at h2
 have c3 : ¬ iy s.paths m.name = none := by rw [hf]; simp
 rcases hv : bb m.pfx with _ | _
 ·rw [hv] at h1
  rw [lq, if_neg c0, if_neg c1, if_neg c2, if_neg c3, if_pos hv]
  refine aa (F := f574) rfl rfl (ag 300 _ _ _ _ ?_)
  repeat' (first | refine ae ?_ | (refine ab ?_ ?_ <;> intro h))
  refine ah ?_; rfl
 ·rw [hv] at h1
  rw [lq, if_neg c0, if_neg c1, if_neg c2, if_neg c3, if_neg (by rw [hv]; simp)]
  refine aa (F := f574) rfl rfl (ag 300 _ _ _ _ ?_)
  repeat' (first | refine ae ?_ | (refine ab ?_ ?_ <;> intro h))
  refine ah ?_; rfl
def lp (s : PSet) (m : Mat) : Int := if m.n ≠ 0 then 1 else if m.pfx.addr ≠ 0 then 1 else if m.pfx.len ≠ 0 then 1 else if iG s.comms m.name = none then 6 else if bb m.pfx = false then 1 else 0
theorem anM (s : PSet) (hs : s.prefixes.length < 2 ^ 40 ∧ s.paths.length < 2 ^ 40 ∧ s.comms.length < 2 ^ 40) (m : Mat) (hp : m.pfx.ok) (hk : m.kind = 3) : am G 574 [.agg s.enc, .agg m.enc] [] ⟨.int .i64 (lp s m), []⟩ := by
 have h0 := cR m.kind
 rw [hk] at h0
 have h1 : am G 179 [.agg [.int .u32 m.pfx.addr, .int .i64 m.pfx.len]] [] ⟨.bool (bb m.pfx), []⟩ := ce m.pfx hp
 have h0 : am G 619 [.int .i64 m.kind] [] (cX 3) := by rw [hk]; exact h0
 simp (decide := true) only [cX, if_true, if_false, reduceIte] at h0
 have h2 := xm s hs.2.2 m.name
 by_cases c0 : m.n ≠ 0
 ·rw [lp, if_pos c0]
  refine aa (F := f574) rfl rfl (ag 300 _ _ _ _ ?_)
  repeat' (first | refine ae ?_ | (refine ab ?_ ?_ <;> intro h))
  refine ah ?_; rfl
 have d0 : m.n = 0 := Decidable.not_not.1 c0
 by_cases c1 : m.pfx.addr ≠ 0
 ·rw [lp, if_neg c0, if_pos c1]
  refine aa (F := f574) rfl rfl (ag 300 _ _ _ _ ?_)
  repeat' (first | refine ae ?_ | (refine ab ?_ ?_ <;> intro h))
  refine ah ?_; rfl
 have d1 : m.pfx.addr = 0 := Decidable.not_not.1 c1
 by_cases c2 : m.pfx.len ≠ 0
 ·rw [lp, if_neg c0, if_neg c1, if_pos c2]
  refine aa (F := f574) rfl rfl (ag 300 _ _ _ _ ?_)
  repeat' (first | refine ae ?_ | (refine ab ?_ ?_ <;> intro h))
  refine ah ?_; rfl
 have d2 : m.pfx.len = 0 := Decidable.not_not.1 c2
 rcases hf : iG s.comms m.name with _ | f
 ·rw [hf] at h2
  simp only [EK] at h2
  rw [lp, if_neg c0, if_neg c1, if_neg c2, if_pos hf]
  refine aa (F := f574) rfl rfl (ag 300 _ _ _ _ ?_)
  repeat' (first | refine ae ?_ | (refine ab ?_ ?_ <;> intro h))
  refine ah ?_; rfl
 rw [hf] at h2
 simp only [EK] at h2
 have c3 : ¬ iG s.comms m.name = none := by rw [hf]; simp
 rcases hv : bb m.pfx with _ | _
 ·rw [hv] at h1
  rw [lp, if_neg c0, if_neg c1, if_neg c2, if_neg c3, if_pos hv]
  refine aa (F := f574) rfl rfl (ag 300 _ _ _ _ ?_)
  repeat' (first | refine ae ?_ | (refine ab ?_ ?_ <;> intro h))
  refine ah ?_; rfl
 ·rw [hv] at h1
  rw [lp, if_neg c0, if_neg c1, if_neg c2, if_neg c3, if_neg (by rw [hv]; simp)]
  refine aa (F := f574) rfl rfl (ag 300 _ _ _ _ ?_)
  repeat' (first | refine ae ?_ | (refine ab ?_ ?_ <;> intro h))
  refine ah ?_; rfl
def kg (s : PSet) (m : Mat) : Int := if m.name ≠ [] then 1 else if m.pfx.addr ≠ 0 then 1 else if m.pfx.len ≠ 0 then 1 else if m.n < 1 then 5 else if 7 < m.n then 5 else if bb m.pfx = false then 1 else 0
theorem anL (s : PSet) (hs : s.prefixes.length < 2 ^ 40 ∧ s.paths.length < 2 ^ 40 ∧ s.comms.length < 2 ^ 40) (m : Mat) (hp : m.pfx.ok) (hk : m.kind = 4) : am G 574 [.agg s.enc, .agg m.enc] [] ⟨.int .i64 (kg s m), []⟩ := by
 have h0 := cR m.kind
 rw [hk] at h0
 have h1 : am G 179 [.agg [.int .u32 m.pfx.addr, .int .i64 m.pfx.len]] [] ⟨.bool (bb m.pfx), []⟩ := ce m.pfx hp
 have h0 : am G 619 [.int .i64 m.kind] [] (cX 4) := by rw [hk]; exact h0
 simp only [cX] at h0
 simp (decide := true) only [cX, if_true, if_false, reduceIte] at h0
 by_cases c0 : m.name ≠ []
 ·rw [kg, if_pos c0]
  refine aa (F := f574) rfl rfl (ag 300 _ _ _ _ ?_)
  repeat' ((conv => whnf); first | refine uR c0 ?_ | refine a7 ?_ | (refine ab ?_ ?_ <;> intro h))
  refine ah ?_; rfl
 have d0 : m.name = [] := Decidable.not_not.1 c0
 by_cases c1 : m.pfx.addr ≠ 0
 ·rw [kg, if_neg c0, if_pos c1]
  refine aa (F := f574) rfl rfl (ag 300 _ _ _ _ ?_)
  repeat' ((conv => whnf); first | refine da d0 ?_ | refine a7 ?_ | (refine ab ?_ ?_ <;> intro h))
  refine ah ?_; rfl
 have d1 : m.pfx.addr = 0 := Decidable.not_not.1 c1
 by_cases c2 : m.pfx.len ≠ 0
 ·rw [kg, if_neg c0, if_neg c1, if_pos c2]
  refine aa (F := f574) rfl rfl (ag 300 _ _ _ _ ?_)
  repeat' ((conv => whnf); first | refine da d0 ?_ | refine a7 ?_ | (refine ab ?_ ?_ <;> intro h))
  refine ah ?_; rfl
 have d2 : m.pfx.len = 0 := Decidable.not_not.1 c2
 by_cases c3 : m.n < 1
 ·rw [kg, if_neg c0, if_neg c1, if_neg c2, if_pos c3]
  refine aa (F := f574) rfl rfl (ag 300 _ _ _ _ ?_)
  repeat' ((conv => whnf); first | refine da d0 ?_ | refine a7 ?_ | (refine ab ?_ ?_ <;> intro h))
  refine ah ?_; rfl
 by_cases c4 : 7 < m.n
 ·rw [kg, if_neg c0, if_neg c1, if_neg c2, if_neg c3, if_pos c4]
  refine aa (F := f574) rfl rfl (ag 300 _ _ _ _ ?_)
  repeat' ((conv => whnf); first | refine da d0 ?_ | refine a7 ?_ | (refine ab ?_ ?_ <;> intro h))
  refine ah ?_; rfl
 rcases hv : bb m.pfx with _ | _
 ·rw [hv] at h1
  rw [kg, if_neg c0, if_neg c1, if_neg c2, if_neg c3, if_neg c4, if_pos hv]
  refine aa (F := f574) rfl rfl (ag 300 _ _ _ _ ?_)
  repeat' ((conv => whnf); first | refine da d0 ?_ | refine a7 ?_ | (refine ab ?_ ?_ <;> intro h))
  refine ah ?_; rfl
 ·rw [hv] at h1
  rw [kg, if_neg c0, if_neg c1, if_neg c2, if_neg c3, if_neg c4, if_neg (by rw [hv]; simp)]
  refine aa (F := f574) rfl rfl (ag 300 _ _ _ _ ?_)
  repeat' ((conv => whnf); first | refine da d0 ?_ | refine a7 ?_ | (refine ab ?_ ?_ <;> intro h))
  refine ah ?_; rfl
def kd (s : PSet) (m : Mat) : Int := if m.name ≠ [] then 1 else if m.pfx.addr ≠ 0 then 1 else if m.pfx.len ≠ 0 then 1 else if m.n < 0 then 5 else if 4294967295 < m.n then 5 else if bb m.pfx = false then 1 else 0
theorem anK (s : PSet) (hs : s.prefixes.length < 2 ^ 40 ∧ s.paths.length < 2 ^ 40 ∧ s.comms.length < 2 ^ 40) (m : Mat) (hp : m.pfx.ok) (hk : m.kind = 5) : am G 574 [.agg s.enc, .agg m.enc] [] ⟨.int .i64 (kd s m), []⟩ := by
 have h0 := cR m.kind
 rw [hk] at h0
 have h1 : am G 179 [.agg [.int .u32 m.pfx.addr, .int .i64 m.pfx.len]] [] ⟨.bool (bb m.pfx), []⟩ := ce m.pfx hp
 have h0 : am G 619 [.int .i64 m.kind] [] (cX 5) := by rw [hk]; exact h0
 simp only [cX] at h0
 simp (decide := true) only [cX, if_true, if_false, reduceIte] at h0
 by_cases c0 : m.name ≠ []
 ·rw [kd, if_pos c0]
  refine aa (F := f574) rfl rfl (ag 300 _ _ _ _ ?_)
  repeat' ((conv => whnf); first | refine uR c0 ?_ | refine a7 ?_ | (refine ab ?_ ?_ <;> intro h))
  refine ah ?_; rfl
 have d0 : m.name = [] := Decidable.not_not.1 c0
 by_cases c1 : m.pfx.addr ≠ 0
 ·rw [kd, if_neg c0, if_pos c1]
  refine aa (F := f574) rfl rfl (ag 300 _ _ _ _ ?_)
  repeat' ((conv => whnf); first | refine da d0 ?_ | refine a7 ?_ | (refine ab ?_ ?_ <;> intro h))
  refine ah ?_; rfl
 have d1 : m.pfx.addr = 0 := Decidable.not_not.1 c1
 by_cases c2 : m.pfx.len ≠ 0
 ·rw [kd, if_neg c0, if_neg c1, if_pos c2]
  refine aa (F := f574) rfl rfl (ag 300 _ _ _ _ ?_)
  repeat' ((conv => whnf); first | refine da d0 ?_ | refine a7 ?_ | (refine ab ?_ ?_ <;> intro h))
  refine ah ?_; rfl
 have d2 : m.pfx.len = 0 := Decidable.not_not.1 c2
 by_cases c3 : m.n < 0
 ·rw [kd, if_neg c0, if_neg c1, if_neg c2, if_pos c3]
  refine aa (F := f574) rfl rfl (ag 300 _ _ _ _ ?_)
  repeat' ((conv => whnf); first | refine da d0 ?_ | refine a7 ?_ | (refine ab ?_ ?_ <;> intro h))
  refine ah ?_; rfl
 by_cases c4 : 4294967295 < m.n
 ·rw [kd, if_neg c0, if_neg c1, if_neg c2, if_neg c3, if_pos c4]
  refine aa (F := f574) rfl rfl (ag 300 _ _ _ _ ?_)
  repeat' ((conv => whnf); first | refine da d0 ?_ | refine a7 ?_ | (refine ab ?_ ?_ <;> intro h))
  refine ah ?_; rfl
 rcases hv : bb m.pfx with _ | _
 ·rw [hv] at h1
  rw [kd, if_neg c0, if_neg c1, if_neg c2, if_neg c3, if_neg c4, if_pos hv]
  refine aa (F := f574) rfl rfl (ag 300 _ _ _ _ ?_)
  repeat' ((conv => whnf); first | refine da d0 ?_ | refine a7 ?_ | (refine ab ?_ ?_ <;> intro h))
  refine ah ?_; rfl
 ·rw [hv] at h1
  rw [kd, if_neg c0, if_neg c1, if_neg c2, if_neg c3, if_neg c4, if_neg (by rw [hv]; simp)]
  refine aa (F := f574) rfl rfl (ag 300 _ _ _ _ ?_)
  repeat' ((conv => whnf); first | refine da d0 ?_ | refine a7 ?_ | (refine ab ?_ ?_ <;> intro h))
  refine ah ?_; rfl
def kc (s : PSet) (m : Mat) : Int := if m.name ≠ [] then 1 else if m.pfx.addr ≠ 0 then 1 else if m.pfx.len ≠ 0 then 1 else if m.n < 0 then 5 else if 16777216 < m.n then 5 else if bb m.pfx = false then 1 else 0
theorem anJ (s : PSet) (hs : s.prefixes.length < 2 ^ 40 ∧ s.paths.length < 2 ^ 40 ∧ s.comms.length < 2 ^ 40) (m : Mat) (hp : m.pfx.ok) (hk : m.kind = 6) : am G 574 [.agg s.enc, .agg m.enc] [] ⟨.int .i64 (kc s m), []⟩ := by
 have h0 := cR m.kind
 rw [hk] at h0
 have h1 : am G 179 [.agg [.int .u32 m.pfx.addr, .int .i64 m.pfx.len]] [] ⟨.bool (bb m.pfx), []⟩ := ce m.pfx hp
 have h0 : am G 619 [.int .i64 m.kind] [] (cX 6) := by rw [hk]; exact h0
 simp only [cX] at h0
 simp (decide := true) only [cX, if_true, if_false, reduceIte] at h0
 by_cases c0 : m.name ≠ []
 ·rw [kc, if_pos c0]
  refine aa (F := f574) rfl rfl (ag 300 _ _ _ _ ?_)
  repeat' ((conv => whnf); first | refine uR c0 ?_ | refine a7 ?_ | (refine ab ?_ ?_ <;> intro h))
  refine ah ?_; rfl
 have d0 : m.name = [] := Decidable.not_not.1 c0
 by_cases c1 : m.pfx.addr ≠ 0
 ·rw [kc, if_neg c0, if_pos c1]
  refine aa (F := f574) rfl rfl (ag 300 _ _ _ _ ?_)
  repeat' ((conv => whnf); first | refine da d0 ?_ | refine a7 ?_ | (refine ab ?_ ?_ <;> intro h))
  refine ah ?_; rfl
 have d1 : m.pfx.addr = 0 := Decidable.not_not.1 c1
 by_cases c2 : m.pfx.len ≠ 0
 ·rw [kc, if_neg c0, if_neg c1, if_pos c2]
  refine aa (F := f574) rfl rfl (ag 300 _ _ _ _ ?_)
  repeat' ((conv => whnf); first | refine da d0 ?_ | refine a7 ?_ | (refine ab ?_ ?_ <;> intro h))
  refine ah ?_; rfl
 have d2 : m.pfx.len = 0 := Decidable.not_not.1 c2
 by_cases c3 : m.n < 0
 ·rw [kc, if_neg c0, if_neg c1, if_neg c2, if_pos c3]
  refine aa (F := f574) rfl rfl (ag 300 _ _ _ _ ?_)
  repeat' ((conv => whnf); first | refine da d0 ?_ | refine a7 ?_ | (refine ab ?_ ?_ <;> intro h))
  refine ah ?_; rfl
 by_cases c4 : 16777216 < m.n
 ·rw [kc, if_neg c0, if_neg c1, if_neg c2, if_neg c3, if_pos c4]
  refine aa (F := f574) rfl rfl (ag 300 _ _ _ _ ?_)
  repeat' ((conv => whnf); first | refine da d0 ?_ | refine a7 ?_ | (refine ab ?_ ?_ <;> intro h))
  refine ah ?_; rfl
 rcases hv : bb m.pfx with _ | _
 ·rw [hv] at h1
  rw [kc, if_neg c0, if_neg c1, if_neg c2, if_neg c3, if_neg c4, if_pos hv]
  refine aa (F := f574) rfl rfl (ag 300 _ _ _ _ ?_)
  repeat' ((conv => whnf); first | refine da d0 ?_ | refine a7 ?_ | (refine ab ?_ ?_ <;> intro h))
  refine ah ?_; rfl
 ·rw [hv] at h1
  rw [kc, if_neg c0, if_neg c1, if_neg c2, if_neg c3, if_neg c4, if_neg (by rw [hv]; simp)]
  refine aa (F := f574) rfl rfl (ag 300 _ _ _ _ ?_)
  repeat' ((conv => whnf); first | refine da d0 ?_ | refine a7 ?_ | (refine ab ?_ ?_ <;> intro h))
  refine ah ?_; rfl
def oq (s : PSet) (m : Mat) : Int := if m.name ≠ [] then 1 else if m.n ≠ 0 then 1 else if bb m.pfx = false then 1 else 0
theorem anI (s : PSet) (hs : s.prefixes.length < 2 ^ 40 ∧ s.paths.length < 2 ^ 40 ∧ s.comms.length < 2 ^ 40) (m : Mat) (hp : m.pfx.ok) (hk : m.kind = 7) : am G 574 [.agg s.enc, .agg m.enc] [] ⟨.int .i64 (oq s m), []⟩ := by
 have h0 := cR m.kind
 rw [hk] at h0
 have h1 : am G 179 [.agg [.int .u32 m.pfx.addr, .int .i64 m.pfx.len]] [] ⟨.bool (bb m.pfx), []⟩ := ce m.pfx hp
 have h0 : am G 619 [.int .i64 m.kind] [] (cX 7) := by rw [hk]; exact h0
 simp (decide := true) only [cX, if_true, if_false, reduceIte] at h0
 by_cases c0 : m.name ≠ []
 ·rw [oq, if_pos c0]
  refine aa (F := f574) rfl rfl (ag 300 _ _ _ _ ?_)
  repeat' ((conv => whnf); first | refine uR c0 ?_ | refine a7 ?_ | (refine ab ?_ ?_ <;> intro h))
  refine ah ?_; rfl
 have d0 : m.name = [] := Decidable.not_not.1 c0
 by_cases c1 : m.n ≠ 0
 ·rw [oq, if_neg c0, if_pos c1]
  refine aa (F := f574) rfl rfl (ag 300 _ _ _ _ ?_)
  repeat' ((conv => whnf); first | refine da d0 ?_ | refine a7 ?_ | (refine ab ?_ ?_ <;> intro h))
  refine ah ?_; rfl
 have d1 : m.n = 0 := Decidable.not_not.1 c1
 rcases hv : bb m.pfx with _ | _
 ·rw [hv] at h1
  rw [oq, if_neg c0, if_neg c1, if_pos hv]
  refine aa (F := f574) rfl rfl (ag 300 _ _ _ _ ?_)
  repeat' ((conv => whnf); first | refine da d0 ?_ | refine a7 ?_ | (refine ab ?_ ?_ <;> intro h))
  refine ah ?_; rfl
 ·rw [hv] at h1
  rw [oq, if_neg c0, if_neg c1, if_neg (by rw [hv]; simp)]
  refine aa (F := f574) rfl rfl (ag 300 _ _ _ _ ?_)
  repeat' ((conv => whnf); first | refine da d0 ?_ | refine a7 ?_ | (refine ab ?_ ?_ <;> intro h))
  refine ah ?_; rfl
def kb (s : PSet) (m : Mat) : Int := if m.name ≠ [] then 1 else if m.pfx.addr ≠ 0 then 1 else if m.pfx.len ≠ 0 then 1 else if m.n < 0 then 5 else if 2000 < m.n then 5 else if bb m.pfx = false then 1 else 0
theorem anH (s : PSet) (hs : s.prefixes.length < 2 ^ 40 ∧ s.paths.length < 2 ^ 40 ∧ s.comms.length < 2 ^ 40) (m : Mat) (hp : m.pfx.ok) (hk : m.kind = 8) : am G 574 [.agg s.enc, .agg m.enc] [] ⟨.int .i64 (kb s m), []⟩ := by
 have h0 := cR m.kind
 rw [hk] at h0
 have h1 : am G 179 [.agg [.int .u32 m.pfx.addr, .int .i64 m.pfx.len]] [] ⟨.bool (bb m.pfx), []⟩ := ce m.pfx hp
 have h0 : am G 619 [.int .i64 m.kind] [] (cX 8) := by rw [hk]; exact h0
 simp only [cX] at h0
 simp (decide := true) only [cX, if_true, if_false, reduceIte] at h0
 by_cases c0 : m.name ≠ []
 ·rw [kb, if_pos c0]
  refine aa (F := f574) rfl rfl (ag 300 _ _ _ _ ?_)
  repeat' ((conv => whnf); first | refine uR c0 ?_ | refine a7 ?_ | (refine ab ?_ ?_ <;> intro h))
  refine ah ?_; rfl
 have d0 : m.name = [] := Decidable.not_not.1 c0
 by_cases c1 : m.pfx.addr ≠ 0
 ·rw [kb, if_neg c0, if_pos c1]
  refine aa (F := f574) rfl rfl (ag 300 _ _ _ _ ?_)
  repeat' ((conv => whnf); first | refine da d0 ?_ | refine a7 ?_ | (refine ab ?_ ?_ <;> intro h))
  refine ah ?_; rfl
 have d1 : m.pfx.addr = 0 := Decidable.not_not.1 c1
 by_cases c2 : m.pfx.len ≠ 0
 ·rw [kb, if_neg c0, if_neg c1, if_pos c2]
  refine aa (F := f574) rfl rfl (ag 300 _ _ _ _ ?_)
  repeat' ((conv => whnf); first | refine da d0 ?_ | refine a7 ?_ | (refine ab ?_ ?_ <;> intro h))
  refine ah ?_; rfl
 have d2 : m.pfx.len = 0 := Decidable.not_not.1 c2
 by_cases c3 : m.n < 0
 ·rw [kb, if_neg c0, if_neg c1, if_neg c2, if_pos c3]
  refine aa (F := f574) rfl rfl (ag 300 _ _ _ _ ?_)
  repeat' ((conv => whnf); first | refine da d0 ?_ | refine a7 ?_ | (refine ab ?_ ?_ <;> intro h))
  refine ah ?_; rfl
 by_cases c4 : 2000 < m.n
 ·rw [kb, if_neg c0, if_neg c1, if_neg c2, if_neg c3, if_pos c4]
  refine aa (F := f574) rfl rfl (ag 300 _ _ _ _ ?_)
  repeat' ((conv => whnf); first | refine da d0 ?_ | refine a7 ?_ | (refine ab ?_ ?_ <;> intro h))
  refine ah ?_; rfl
 rcases hv : bb m.pfx with _ | _
 ·rw [hv] at h1
  rw [kb, if_neg c0, if_neg c1, if_neg c2, if_neg c3, if_neg c4, if_pos hv]
  refine aa (F := f574) rfl rfl (ag 300 _ _ _ _ ?_)
  repeat' ((conv => whnf); first | refine da d0 ?_ | refine a7 ?_ | (refine ab ?_ ?_ <;> intro h))
  refine ah ?_; rfl
 ·rw [hv] at h1
  rw [kb, if_neg c0, if_neg c1, if_neg c2, if_neg c3, if_neg c4, if_neg (by rw [hv]; simp)]
  refine aa (F := f574) rfl rfl (ag 300 _ _ _ _ ?_)
  repeat' ((conv => whnf); first | refine da d0 ?_ | refine a7 ?_ | (refine ab ?_ ?_ <;> intro h))
  refine ah ?_; rfl
end Go.AM.IR
namespace Go.AM.IR
def lm (s : PSet) (m : Mat) : Int := if m.kind < 1 then 15 else if 8 < m.kind then 15 else if m.kind = 1 then lr s m else if m.kind = 2 then lq s m else if m.kind = 3 then lp s m else if m.kind = 4 then kg s m else if m.kind = 5 then kd s m else if m.kind = 6 then kc s m else if m.kind = 7 then oq s m else kb s m
theorem vP (s : PSet) (hs : s.prefixes.length < 2 ^ 40 ∧ s.paths.length < 2 ^ 40 ∧ s.comms.length < 2 ^ 40) (m : Mat) (hp : m.pfx.ok) : am G 574 [.agg s.enc, .agg m.enc] [] ⟨.int .i64 (lm s m), []⟩ := by
 rw [lm]
 by_cases a : m.kind < 1
 ·rw [if_pos a]
  refine aa (F := f574) rfl rfl (ag 300 _ _ _ _ ?_)
  repeat' (first | refine ae ?_ | (refine ab ?_ ?_ <;> intro h))
  refine ah ?_; rfl
 rw [if_neg a]
 by_cases b : 8 < m.kind
 ·rw [if_pos b]
  refine aa (F := f574) rfl rfl (ag 300 _ _ _ _ ?_)
  repeat' (first | refine ae ?_ | (refine ab ?_ ?_ <;> intro h))
  refine ah ?_; rfl
 rw [if_neg b]
 by_cases k1 : m.kind = 1
 ·rw [if_pos k1]
  exact anO s hs m hp k1
 rw [if_neg k1]
 by_cases k2 : m.kind = 2
 ·rw [if_pos k2]
  exact anN s hs m hp k2
 rw [if_neg k2]
 by_cases k3 : m.kind = 3
 ·rw [if_pos k3]
  exact anM s hs m hp k3
 rw [if_neg k3]
 by_cases k4 : m.kind = 4
 ·rw [if_pos k4]
  exact anL s hs m hp k4
 rw [if_neg k4]
 by_cases k5 : m.kind = 5
 ·rw [if_pos k5]
  exact anK s hs m hp k5
 rw [if_neg k5]
 by_cases k6 : m.kind = 6
 ·rw [if_pos k6]
  exact anJ s hs m hp k6
 rw [if_neg k6]
 by_cases k7 : m.kind = 7
 ·rw [if_pos k7]
  exact anI s hs m hp k7
 rw [if_neg k7]
 exact anH s hs m hp (by omega)
end Go.AM.IR
