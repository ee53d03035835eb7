/- What the functions of this program give, on the abstract machine. -/
import Derived.Test.YtcmipbleijmpjaaGreatDoorDataC
import Derived.Test.YtcmipbleijmpjaaGreatDoorDataB
import Derived.Test.YtcmipbleijmpjaaGreatDoorDataA
set_option linter.unusedVariables false
set_option linter.unusedSimpArgs false
set_option maxHeartbeats 4000000
set_option maxRecDepth 20000
namespace Go.AM.IR
section
variable {kv : AV → Prop}
theorem cR {a b : List UInt8} (n : a = b) (h : kv (.bool false)) : ∃ v, bj .neq (.str a) (.str b) = some v ∧ kv v := ⟨.bool false, by show some (AV.bool (!(a == b))) = _; simp [n], h⟩
theorem xT {a b : List UInt8} (n : ¬ a = b) (h : kv (.bool true)) : ∃ v, bj .neq (.str a) (.str b) = some v ∧ kv v := ⟨.bool true, by show some (AV.bool (!(a == b))) = _; simp [n], h⟩
end
def nq (s : PSet) (m : Mat) : Int := if m.n ≠ 0 then 1 else if m.pfx.addr ≠ 0 then 1 else if m.pfx.len ≠ 0 then 1 else if nb s.prefixes m.name = none then 6 else if aU m.pfx = false then 1 else 0
theorem atY (s : PSet) (hs : s.prefixes.length < 2 ^ 40 ∧ s.paths.length < 2 ^ 40 ∧ s.comms.length < 2 ^ 40) (m : Mat) (hp : m.pfx.ok) (hk : m.kind = 1) : ax G 574 [.agg s.enc, .agg m.enc] [] ⟨.int .i64 (nq s m), []⟩ := by
 have h0 := cK m.kind
 rw [hk] at h0
 have h1 : ax G 179 [.agg [.int .u32 m.pfx.addr, .int .i64 m.pfx.len]] [] ⟨.bool (aU m.pfx), []⟩ := bI m.pfx hp
 have h0 : ax G 619 [.int .i64 m.kind] [] (cM 1) := by rw [hk]; exact h0
 simp (decide := true) only [cM, if_true, if_false, reduceIte] at h0
 have h2 := yE s hs.1 m.name
 by_cases c0 : m.n ≠ 0
 ·rw [nq, if_pos c0]
  refine aa (F := f574) rfl rfl (ah 300 _ _ _ _ ?_)
  repeat' (first | refine ae ?_ | (refine ab ?_ ?_ <;> intro h))
  refine ag ?_; rfl
 have d0 : m.n = 0 := Decidable.not_not.1 c0
 by_cases c1 : m.pfx.addr ≠ 0
 ·rw [nq, if_neg c0, if_pos c1]
  refine aa (F := f574) rfl rfl (ah 300 _ _ _ _ ?_)
  repeat' (first | refine ae ?_ | (refine ab ?_ ?_ <;> intro h))
  refine ag ?_; rfl
 have d1 : m.pfx.addr = 0 := Decidable.not_not.1 c1
 by_cases c2 : m.pfx.len ≠ 0
 ·rw [nq, if_neg c0, if_neg c1, if_pos c2]
  refine aa (F := f574) rfl rfl (ah 300 _ _ _ _ ?_)
  repeat' (first | refine ae ?_ | (refine ab ?_ ?_ <;> intro h))
  refine ag ?_; rfl
 have d2 : m.pfx.len = 0 := Decidable.not_not.1 c2
 rcases hf : nb s.prefixes m.name with _ | f
 ·rw [hf] at h2
  simp only [Kz] at h2
  rw [nq, if_neg c0, if_neg c1, if_neg c2, if_pos hf]
  refine aa (F := f574) rfl rfl (ah 300 _ _ _ _ ?_)
  repeat' (first | refine ae ?_ | (refine ab ?_ ?_ <;> intro h))
  refine ag ?_; rfl
 rw [hf] at h2
 simp only [Kz] at h2
 have c3 : ¬ nb s.prefixes m.name = none := by rw [hf]; simp
 rcases hv : aU m.pfx with _ | _
 ·rw [hv] at h1
  rw [nq, if_neg c0, if_neg c1, if_neg c2, if_neg c3, if_pos hv]
  refine aa (F := f574) rfl rfl (ah 300 _ _ _ _ ?_)
  repeat' (first | refine ae ?_ | (refine ab ?_ ?_ <;> intro h))
  refine ag ?_; rfl
 ·rw [hv] at h1
  rw [nq, if_neg c0, if_neg c1, if_neg c2, if_neg c3, if_neg (by rw [hv]; simp)]
  refine aa (F := f574) rfl rfl (ah 300 _ _ _ _ ?_)
  repeat' (first | refine ae ?_ | (refine ab ?_ ?_ <;> intro h))
  refine ag ?_; rfl
def nn (s : PSet) (m : Mat) : Int := if m.n ≠ 0 then 1 else if m.pfx.addr ≠ 0 then 1 else if m.pfx.len ≠ 0 then 1 else if ng s.paths m.name = none then 6 else if aU m.pfx = false then 1 else 0
theorem atX (s : PSet) (hs : s.prefixes.length < 2 ^ 40 ∧ s.paths.length < 2 ^ 40 ∧ s.comms.length < 2 ^ 40) (m : Mat) (hp : m.pfx.ok) (hk : m.kind = 2) : ax G 574 [.agg s.enc, .agg m.enc] [] ⟨.int .i64 (nn s m), []⟩ := by
 have h0 := cK m.kind
 rw [hk] at h0
 have h1 : ax G 179 [.agg [.int .u32 m.pfx.addr, .int .i64 m.pfx.len]] [] ⟨.bool (aU m.pfx), []⟩ := bI m.pfx hp
 have h0 : ax G 619 [.int .i64 m.kind] [] (cM 2) := by rw [hk]; exact h0
 simp (decide := true) only [cM, if_true, if_false, reduceIte] at h0
 have h2 := yH s hs.2.1 m.name
 by_cases c0 : m.n ≠ 0
 ·rw [nn, if_pos c0]
  refine aa (F := f574) rfl rfl (ah 300 _ _ _ _ ?_)
  repeat' (first | refine ae ?_ | (refine ab ?_ ?_ <;> intro h))
  refine ag ?_; rfl
 have d0 : m.n = 0 := Decidable.not_not.1 c0
 by_cases c1 : m.pfx.addr ≠ 0
 ·rw [nn, if_neg c0, if_pos c1]
  refine aa (F := f574) rfl rfl (ah 300 _ _ _ _ ?_)
  repeat' (first | refine ae ?_ | (refine ab ?_ ?_ <;> intro h))
  refine ag ?_; rfl
 have d1 : m.pfx.addr = 0 := Decidable.not_not.1 c1
 by_cases c2 : m.pfx.len ≠ 0
 ·rw [nn, if_neg c0, if_neg c1, if_pos c2]
  refine aa (F := f574) rfl rfl (ah 300 _ _ _ _ ?_)
  repeat' (first | refine ae ?_ | (refine ab ?_ ?_ <;> intro h))
  refine ag ?_; rfl
 have d2 : m.pfx.len = 0 := Decidable.not_not.1 c2
 rcases hf : ng s.paths m.name with _ | f
 ·rw [hf] at h2
  simp only [KC] at h2
  rw [nn, if_neg c0, if_neg c1, if_neg c2, if_pos hf]
  refine aa (F := f574) rfl rfl (ah 300 _ _ _ _ ?_)
  repeat' (first | refine ae ?_ | (refine ab ?_ ?_ <;> intro h))
  refine ag ?_; rfl
 rw [hf] at h2
 simp only [KC] at h2
 have c3 : ¬ ng s.paths m.name = none := by rw [hf]; simp
 rcases hv : aU m.pfx with _ | _
 ·rw [hv] at h1
  rw [nn, if_neg c0, if_neg c1, if_neg c2, if_neg c3, if_pos hv]
  refine aa (F := f574) rfl rfl (ah 300 _ _ _ _ ?_)
  repeat' (first | refine ae ?_ | (refine ab ?_ ?_ <;> intro h))
  refine ag ?_; rfl
 ·rw [hv] at h1
  rw [nn, if_neg c0, if_neg c1, if_neg c2, if_neg c3, if_neg (by rw [hv]; simp)]
  refine aa (F := f574) rfl rfl (ah 300 _ _ _ _ ?_)
  repeat' (first | refine ae ?_ | (refine ab ?_ ?_ <;> intro h))
  refine ag ?_; rfl
def nl (s : PSet) (m : Mat) : Int := if m.n ≠ 0 then 1 else if m.pfx.addr ≠ 0 then 1 else if m.pfx.len ≠ 0 then 1 else if nN s.comms m.name = none then 6 else if aU m.pfx = false then 1 else 0
theorem atW (s : PSet) (hs : s.prefixes.length < 2 ^ 40 ∧ s.paths.length < 2 ^ 40 ∧ s.comms.length < 2 ^ 40) (m : Mat) (hp : m.pfx.ok) (hk : m.kind = 3) : ax G 574 [.agg s.enc, .agg m.enc] [] ⟨.int .i64 (nl s m), []⟩ := by
 have h0 := cK m.kind
 rw [hk] at h0
 have h1 : ax G 179 [.agg [.int .u32 m.pfx.addr, .int .i64 m.pfx.len]] [] ⟨.bool (aU m.pfx), []⟩ := bI m.pfx hp
 have h0 : ax G 619 [.int .i64 m.kind] [] (cM 3) := by rw [hk]; exact h0
 simp (decide := true) only [cM, if_true, if_false, reduceIte] at h0
 have h2 := BM s hs.2.2 m.name
 by_cases c0 : m.n ≠ 0
 ·rw [nl, if_pos c0]
  refine aa (F := f574) rfl rfl (ah 300 _ _ _ _ ?_)
  repeat' (first | refine ae ?_ | (refine ab ?_ ?_ <;> intro h))
  refine ag ?_; rfl
 have d0 : m.n = 0 := Decidable.not_not.1 c0
 by_cases c1 : m.pfx.addr ≠ 0
 ·rw [nl, if_neg c0, if_pos c1]
  refine aa (F := f574) rfl rfl (ah 300 _ _ _ _ ?_)
  repeat' (first | refine ae ?_ | (refine ab ?_ ?_ <;> intro h))
  refine ag ?_; rfl
 have d1 : m.pfx.addr = 0 := Decidable.not_not.1 c1
 by_cases c2 : m.pfx.len ≠ 0
 ·rw [nl, if_neg c0, if_neg c1, if_pos c2]
  refine aa (F := f574) rfl rfl (ah 300 _ _ _ _ ?_)
  repeat' (first | refine ae ?_ | (refine ab ?_ ?_ <;> intro h))
  refine ag ?_; rfl
 have d2 : m.pfx.len = 0 := Decidable.not_not.1 c2
 rcases hf : nN s.comms m.name with _ | f
 ·rw [hf] at h2
  simp only [K9] at h2
  rw [nl, if_neg c0, if_neg c1, if_neg c2, if_pos hf]
  refine aa (F := f574) rfl rfl (ah 300 _ _ _ _ ?_)
  repeat' (first | refine ae ?_ | (refine ab ?_ ?_ <;> intro h))
  refine ag ?_; rfl
 rw [hf] at h2
 simp only [K9] at h2
 have c3 : ¬ nN s.comms m.name = none := by rw [hf]; simp
 rcases hv : aU m.pfx with _ | _
 ·rw [hv] at h1
  rw [nl, if_neg c0, if_neg c1, if_neg c2, if_neg c3, if_pos hv]
  refine aa (F := f574) rfl rfl (ah 300 _ _ _ _ ?_)
  repeat' (first | refine ae ?_ | (refine ab ?_ ?_ <;> intro h))
  refine ag ?_; rfl
 ·rw [hv] at h1
  rw [nl, if_neg c0, if_neg c1, if_neg c2, if_neg c3, if_neg (by rw [hv]; simp)]
  refine aa (F := f574) rfl rfl (ah 300 _ _ _ _ ?_)
  repeat' (first | refine ae ?_ | (refine ab ?_ ?_ <;> intro h))
  refine ag ?_; rfl
def l6 (s : PSet) (m : Mat) : Int := if m.name ≠ [] then 1 else if m.pfx.addr ≠ 0 then 1 else if m.pfx.len ≠ 0 then 1 else if m.n < 1 then 5 else if 7 < m.n then 5 else if aU m.pfx = false then 1 else 0
theorem atV (s : PSet) (hs : s.prefixes.length < 2 ^ 40 ∧ s.paths.length < 2 ^ 40 ∧ s.comms.length < 2 ^ 40) (m : Mat) (hp : m.pfx.ok) (hk : m.kind = 4) : ax G 574 [.agg s.enc, .agg m.enc] [] ⟨.int .i64 (l6 s m), []⟩ := by
 have h0 := cK m.kind
 rw [hk] at h0
 have h1 : ax G 179 [.agg [.int .u32 m.pfx.addr, .int .i64 m.pfx.len]] [] ⟨.bool (aU m.pfx), []⟩ := bI m.pfx hp
 have h0 : ax G 619 [.int .i64 m.kind] [] (cM 4) := by rw [hk]; exact h0
 simp only [cM] at h0
 simp (decide := true) only [cM, if_true, if_false, reduceIte] at h0
 by_cases c0 : m.name ≠ []
 ·rw [l6, if_pos c0]
  refine aa (F := f574) rfl rfl (ah 300 _ _ _ _ ?_)
  repeat' ((conv => whnf); first | refine xT c0 ?_ | refine aP ?_ | (refine ab ?_ ?_ <;> intro h))
  refine ag ?_; rfl
 have d0 : m.name = [] := Decidable.not_not.1 c0
 by_cases c1 : m.pfx.addr ≠ 0
 ·rw [l6, if_neg c0, if_pos c1]
  refine aa (F := f574) rfl rfl (ah 300 _ _ _ _ ?_)
  repeat' ((conv => whnf); first | refine cR d0 ?_ | refine aP ?_ | (refine ab ?_ ?_ <;> intro h))
  refine ag ?_; rfl
 have d1 : m.pfx.addr = 0 := Decidable.not_not.1 c1
 by_cases c2 : m.pfx.len ≠ 0
 ·rw [l6, if_neg c0, if_neg c1, if_pos c2]
  refine aa (F := f574) rfl rfl (ah 300 _ _ _ _ ?_)
  repeat' ((conv => whnf); first | refine cR d0 ?_ | refine aP ?_ | (refine ab ?_ ?_ <;> intro h))
  refine ag ?_; rfl
 have d2 : m.pfx.len = 0 := Decidable.not_not.1 c2
 by_cases c3 : m.n < 1
 ·rw [l6, if_neg c0, if_neg c1, if_neg c2, if_pos c3]
  refine aa (F := f574) rfl rfl (ah 300 _ _ _ _ ?_)
  repeat' ((conv => whnf); first | refine cR d0 ?_ | refine aP ?_ | (refine ab ?_ ?_ <;> intro h))
  refine ag ?_; rfl
 by_cases c4 : 7 < m.n
 ·rw [l6, if_neg c0, if_neg c1, if_neg c2, if_neg c3, if_pos c4]
  refine aa (F := f574) rfl rfl (ah 300 _ _ _ _ ?_)
  repeat' ((conv => whnf); first | refine cR d0 ?_ | refine aP ?_ | (refine ab ?_ ?_ <;> intro h))
  refine ag ?_; rfl
 rcases hv : aU m.pfx with _ | _
 ·rw [hv] at h1
  rw [l6, if_neg c0, if_neg c1, if_neg c2, if_neg c3, if_neg c4, if_pos hv]
  refine aa (F := f574) rfl rfl (ah 300 _ _ _ _ ?_)
  repeat' ((conv => whnf); first | refine cR d0 ?_ | refine aP ?_ | (refine ab ?_ ?_ <;> intro h))
  refine ag ?_; rfl
 ·rw [hv] at h1
  rw [l6, if_neg c0, if_neg c1, if_neg c2, if_neg c3, if_neg c4, if_neg (by rw [hv]; simp)]
  refine aa (F := f574) rfl rfl (ah 300 _ _ _ _ ?_)
  repeat' ((conv => whnf); first | refine cR d0 ?_ | refine aP ?_ | (refine ab ?_ ?_ <;> intro h))
  refine ag ?_; rfl
def lZ (s : PSet) (m : Mat) : Int := if m.name ≠ [] then 1 else if m.pfx.addr ≠ 0 then 1 else if m.pfx.len ≠ 0 then 1 else if m.n < 0 then 5 else if 4294967295 < m.n then 5 else if aU m.pfx = false then 1 else 0
theorem atU (s : PSet) (hs : s.prefixes.length < 2 ^ 40 ∧ s.paths.length < 2 ^ 40 ∧ s.comms.length < 2 ^ 40) (m : Mat) (hp : m.pfx.ok) (hk : m.kind = 5) : ax G 574 [.agg s.enc, .agg m.enc] [] ⟨.int .i64 (lZ s m), []⟩ := by
 have h0 := cK m.kind
 rw [hk] at h0
 have h1 : ax G 179 [.agg [.int .u32 m.pfx.addr, .int .i64 m.pfx.len]] [] ⟨.bool (aU m.pfx), []⟩ := bI m.pfx hp
 have h0 : ax G 619 [.int .i64 m.kind] [] (cM 5) := by rw [hk]; exact h0
 simp only [cM] at h0
 simp (decide := true) only [cM, if_true, if_false, reduceIte] at h0
 by_cases c0 : m.name ≠ []
 ·rw [lZ, if_pos c0]
  refine aa (F := f574) rfl rfl (ah 300 _ _ _ _ ?_)
  repeat' ((conv => whnf); first | refine xT c0 ?_ | refine aP ?_ | (refine ab ?_ ?_ <;> intro h))
  refine ag ?_; rfl
 have d0 : m.name = [] := Decidable.not_not.1 c0
 by_cases c1 : m.pfx.addr ≠ 0
 ·rw [lZ, if_neg c0, if_pos c1]
  refine aa (F := f574) rfl rfl (ah 300 _ _ _ _ ?_)
  repeat' ((conv => whnf); first | refine cR d0 ?_ | refine aP ?_ | (refine ab ?_ ?_ <;> intro h))
  refine ag ?_; rfl
 have d1 : m.pfx.addr = 0 := Decidable.not_not.1 c1
 by_cases c2 : m.pfx.len ≠ 0
 ·rw [lZ, if_neg c0, if_neg c1, if_pos c2]
  refine aa (F := f574) rfl rfl (ah 300 _ _ _ _ ?_)
  repeat' ((conv => whnf); first | refine cR d0 ?_ | refine aP ?_ | (refine ab ?_ ?_ <;> intro h))
  refine ag ?_; rfl
 have d2 : m.pfx.len = 0 := Decidable.not_not.1 c2
 by_cases c3 : m.n < 0
 ·rw [lZ, if_neg c0, if_neg c1, if_neg c2, if_pos c3]
  refine aa (F := f574) rfl rfl (ah 300 _ _ _ _ ?_)
  repeat' ((conv => whnf); first | refine cR d0 ?_ | refine aP ?_ | (refine ab ?_ ?_ <;> intro h))
  refine ag ?_; rfl
 by_cases c4 : 4294967295 < m.n
 ·rw [lZ, if_neg c0, if_neg c1, if_neg c2, if_neg c3, if_pos c4]
  refine aa (F := f574) rfl rfl (ah 300 _ _ _ _ ?_)
  repeat' ((conv => whnf); first | refine cR d0 ?_ | refine aP ?_ | (refine ab ?_ ?_ <;> intro h))
  refine ag ?_; rfl
 rcases hv : aU m.pfx with _ | _
 ·rw [hv] at h1
  rw [lZ, if_neg c0, if_neg c1, if_neg c2, if_neg c3, if_neg c4, if_pos hv]
  refine aa (F := f574) rfl rfl (ah 300 _ _ _ _ ?_)
  repeat' ((conv => whnf); first | refine cR d0 ?_ | refine aP ?_ | (refine ab ?_ ?_ <;> intro h))
  refine ag ?_; rfl
 ·rw [hv] at h1
  rw [lZ, if_neg c0, if_neg c1, if_neg c2, if_neg c3, if_neg c4, if_neg (by rw [hv]; simp)]
  refine aa (F := f574) rfl rfl (ah 300 _ _ _ _ ?_)
  repeat' ((conv => whnf); first | refine cR d0 ?_ | refine aP ?_ | (refine ab ?_ ?_ <;> intro h))
  refine ag ?_; rfl
def lY (s : PSet) (m : Mat) : Int := if m.name ≠ [] then 1 else if m.pfx.addr ≠ 0 then 1 else if m.pfx.len ≠ 0 then 1 else if m.n < 0 then 5 else if 16777216 < m.n then 5 else if aU m.pfx = false then 1 else 0
theorem atT (s : PSet) (hs : s.prefixes.length < 2 ^ 40 ∧ s.paths.length < 2 ^ 40 ∧ s.comms.length < 2 ^ 40) (m : Mat) (hp : m.pfx.ok) (hk : m.kind = 6) : ax G 574 [.agg s.enc, .agg m.enc] [] ⟨.int .i64 (lY s m), []⟩ := by
 have h0 := cK m.kind
 rw [hk] at h0
 have h1 : ax G 179 [.agg [.int .u32 m.pfx.addr, .int .i64 m.pfx.len]] [] ⟨.bool (aU m.pfx), []⟩ := bI m.pfx hp
 have h0 : ax G 619 [.int .i64 m.kind] [] (cM 6) := by rw [hk]; exact h0
 simp only [cM] at h0
 simp (decide := true) only [cM, if_true, if_false, reduceIte] at h0
 by_cases c0 : m.name ≠ []
 ·rw [lY, if_pos c0]
  refine aa (F := f574) rfl rfl (ah 300 _ _ _ _ ?_)
  repeat' ((conv => whnf); first | refine xT c0 ?_ | refine aP ?_ | (refine ab ?_ ?_ <;> intro h))
  refine ag ?_; rfl
 have d0 : m.name = [] := Decidable.not_not.1 c0
 by_cases c1 : m.pfx.addr ≠ 0
 ·rw [lY, if_neg c0, if_pos c1]
  refine aa (F := f574) rfl rfl (ah 300 _ _ _ _ ?_)
  repeat' ((conv => whnf); first | refine cR d0 ?_ | refine aP ?_ | (refine ab ?_ ?_ <;> intro h))
  refine ag ?_; rfl
 have d1 : m.pfx.addr = 0 := Decidable.not_not.1 c1
 by_cases c2 : m.pfx.len ≠ 0
 ·rw [lY, if_neg c0, if_neg c1, if_pos c2]
  refine aa (F := f574) rfl rfl (ah 300 _ _ _ _ ?_)
  repeat' ((conv => whnf); first | refine cR d0 ?_ | refine aP ?_ | (refine ab ?_ ?_ <;> intro h))
  refine ag ?_; rfl
 have d2 : m.pfx.len = 0 := Decidable.not_not.1 c2
 by_cases c3 : m.n < 0
 ·rw [lY, if_neg c0, if_neg c1, if_neg c2, if_pos c3]
  refine aa (F := f574) rfl rfl (ah 300 _ _ _ _ ?_)
  repeat' ((conv => whnf); first | refine cR d0 ?_ | refine aP ?_ | (refine ab ?_ ?_ <;> intro h))
  refine ag ?_; rfl
 by_cases c4 : 16777216 < m.n
 ·rw [lY, if_neg c0, if_neg c1, if_neg c2, if_neg c3, if_pos c4]
  refine aa (F := f574) rfl rfl (ah 300 _ _ _ _ ?_)
  repeat' ((conv => whnf); first | refine cR d0 ?_ | refine aP ?_ | (refine ab ?_ ?_ <;> intro h))
  refine ag ?_; rfl
 rcases hv : aU m.pfx with _ | _
 ·rw [hv] at h1
  rw [lY, if_neg c0, if_neg c1, if_neg c2, if_neg c3, if_neg c4, if_pos hv]
  refine aa (F := f574) rfl rfl (ah 300 _ _ _ _ ?_)
  repeat' ((conv => whnf); first | refine cR d0 ?_ | refine aP ?_ | (refine ab ?_ ?_ <;> intro h))
  refine ag ?_; rfl
 ·rw [hv] at h1
  rw [lY, if_neg c0, if_neg c1, if_neg c2, if_neg c3, if_neg c4, if_neg (by rw [hv]; simp)]
  refine aa (F := f574) rfl rfl (ah 300 _ _ _ _ ?_)
  repeat' ((conv => whnf); first | refine cR d0 ?_ | refine aP ?_ | (refine ab ?_ ?_ <;> intro h))
  refine ag ?_; rfl
def tA (s : PSet) (m : Mat) : Int := if m.name ≠ [] then 1 else if m.n ≠ 0 then 1 else if aU m.pfx = false then 1 else 0
theorem atS (s : PSet) (hs : s.prefixes.length < 2 ^ 40 ∧ s.paths.length < 2 ^ 40 ∧ s.comms.length < 2 ^ 40) (m : Mat) (hp : m.pfx.ok) (hk : m.kind = 7) : ax G 574 [.agg s.enc, .agg m.enc] [] ⟨.int .i64 (tA s m), []⟩ := by
 have h0 := cK m.kind
 rw [hk] at h0
 have h1 : ax G 179 [.agg [.int .u32 m.pfx.addr, .int .i64 m.pfx.len]] [] ⟨.bool (aU m.pfx), []⟩ := bI m.pfx hp
 have h0 : ax G 619 [.int .i64 m.kind] [] (cM 7) := by rw [hk]; exact h0
 simp (decide := true) only [cM, if_true, if_false, reduceIte] at h0
 by_cases c0 : m.name ≠ []
 ·rw [tA, if_pos c0]
  refine aa (F := f574) rfl rfl (ah 300 _ _ _ _ ?_)
  repeat' ((conv => whnf); first | refine xT c0 ?_ | refine aP ?_ | (refine ab ?_ ?_ <;> intro h))
  refine ag ?_; rfl
 have d0 : m.name = [] := Decidable.not_not.1 c0
 by_cases c1 : m.n ≠ 0
 ·rw [tA, if_neg c0, if_pos c1]
  refine aa (F := f574) rfl rfl (ah 300 _ _ _ _ ?_)
  repeat' ((conv => whnf); first | refine cR d0 ?_ | refine aP ?_ | (refine ab ?_ ?_ <;> intro h))
  refine ag ?_; rfl
 have d1 : m.n = 0 := Decidable.not_not.1 c1
 rcases hv : aU m.pfx with _ | _
 ·rw [hv] at h1
  rw [tA, if_neg c0, if_neg c1, if_pos hv]
  refine aa (F := f574) rfl rfl (ah 300 _ _ _ _ ?_)
  repeat' ((conv => whnf); first | refine cR d0 ?_ | refine aP ?_ | (refine ab ?_ ?_ <;> intro h))
  refine ag ?_; rfl
 ·rw [hv] at h1
  rw [tA, if_neg c0, if_neg c1, if_neg (by rw [hv]; simp)]
  refine aa (F := f574) rfl rfl (ah 300 _ _ _ _ ?_)
  repeat' ((conv => whnf); first | refine cR d0 ?_ | refine aP ?_ | (refine ab ?_ ?_ <;> intro h))
  refine ag ?_; rfl
def lX (s : PSet) (m : Mat) : Int := if m.name ≠ [] then 1 else if m.pfx.addr ≠ 0 then 1 else if m.pfx.len ≠ 0 then 1 else if m.n < 0 then 5 else if 2000 < m.n then 5 else if aU m.pfx = false then 1 else 0
theorem atR (s : PSet) (hs : s.prefixes.length < 2 ^ 40 ∧ s.paths.length < 2 ^ 40 ∧ s.comms.length < 2 ^ 40) (m : Mat) (hp : m.pfx.ok) (hk : m.kind = 8) : ax G 574 [.agg s.enc, .agg m.enc] [] ⟨.int .i64 (lX s m), []⟩ := by
 have h0 := cK m.kind
 rw [hk] at h0
 have h1 : ax G 179 [.agg [.int .u32 m.pfx.addr, .int .i64 m.pfx.len]] [] ⟨.bool (aU m.pfx), []⟩ := bI m.pfx hp
 have h0 : ax G 619 [.int .i64 m.kind] [] (cM 8) := by rw [hk]; exact h0
 simp only [cM] at h0
 simp (decide := true) only [cM, if_true, if_false, reduceIte] at h0
 by_cases c0 : m.name ≠ []
 ·rw [lX, if_pos c0]
  refine aa (F := f574) rfl rfl (ah 300 _ _ _ _ ?_)
  repeat' ((conv => whnf); first | refine xT c0 ?_ | refine aP ?_ | (refine ab ?_ ?_ <;> intro h))
  refine ag ?_; rfl
 have d0 : m.name = [] := Decidable.not_not.1 c0
 by_cases c1 : m.pfx.addr ≠ 0
 ·rw [lX, if_neg c0, if_pos c1]
  refine aa (F := f574) rfl rfl (ah 300 _ _ _ _ ?_)
  repeat' ((conv => whnf); first | refine cR d0 ?_ | refine aP ?_ | (refine ab ?_ ?_ <;> intro h))
  refine ag ?_; rfl
 have d1 : m.pfx.addr = 0 := Decidable.not_not.1 c1
 by_cases c2 : m.pfx.len ≠ 0
 ·rw [lX, if_neg c0, if_neg c1, if_pos c2]
  refine aa (F := f574) rfl rfl (ah 300 _ _ _ _ ?_)
  repeat' ((conv => whnf); first | refine cR d0 ?_ | refine aP ?_ | (refine ab ?_ ?_ <;> intro h))
  refine ag ?_; rfl
 have d2 : m.pfx.len = 0 := Decidable.not_not.1 c2
 by_cases c3 : m.n < 0
 ·rw [lX, if_neg c0, if_neg c1, if_neg c2, if_pos c3]
  refine aa (F := f574) rfl rfl (ah 300 _ _ _ _ ?_)
  repeat' ((conv => whnf); first | refine cR d0 ?_ | refine aP ?_ | (refine ab ?_ ?_ <;> intro h))
  refine ag ?_; rfl
 by_cases c4 : 2000 < m.n
 ·rw [lX, if_neg c0, if_neg c1, if_neg c2, if_neg c3, if_pos c4]
  refine aa (F := f574) rfl rfl (ah 300 _ _ _ _ ?_)
  repeat' ((conv => whnf); first | refine cR d0 ?_ | refine aP ?_ | (refine ab ?_ ?_ <;> intro h))
  refine ag ?_; rfl
 rcases hv : aU m.pfx with _ | _
 ·rw [hv] at h1
  rw [lX, if_neg c0, if_neg c1, if_neg c2, if_neg c3, if_neg c4, if_pos hv]
  refine aa (F := f574) rfl rfl (ah 300 _ _ _ _ ?_)
  repeat' ((conv => whnf); first | refine cR d0 ?_ | refine aP ?_ | (refine ab ?_ ?_ <;> intro h))
  refine ag ?_; rfl
 ·rw [hv] at h1
  rw [lX, if_neg c0, if_neg c1, if_neg c2, if_neg c3, if_neg c4, if_neg (by rw [hv]; simp)]
  refine aa (F := f574) rfl rfl (ah 300 _ _ _ _ ?_)
  repeat' ((conv => whnf); first | refine cR d0 ?_ | refine aP ?_ | (refine ab ?_ ?_ <;> intro h))
  refine ag ?_; rfl
end Go.AM.IR
namespace Go.AM.IR
def p8 (s : PSet) (m : Mat) : Int := if m.kind < 1 then 15 else if 8 < m.kind then 15 else if m.kind = 1 then nq s m else if m.kind = 2 then nn s m else if m.kind = 3 then nl s m else if m.kind = 4 then l6 s m else if m.kind = 5 then lZ s m else if m.kind = 6 then lY s m else if m.kind = 7 then tA s m else lX s m
theorem yY (s : PSet) (hs : s.prefixes.length < 2 ^ 40 ∧ s.paths.length < 2 ^ 40 ∧ s.comms.length < 2 ^ 40) (m : Mat) (hp : m.pfx.ok) : ax G 574 [.agg s.enc, .agg m.enc] [] ⟨.int .i64 (p8 s m), []⟩ := by
 rw [p8]
 by_cases a : m.kind < 1
 ·rw [if_pos a]
  refine aa (F := f574) rfl rfl (ah 300 _ _ _ _ ?_)
  repeat' (first | refine ae ?_ | (refine ab ?_ ?_ <;> intro h))
  refine ag ?_; rfl
 rw [if_neg a]
 by_cases b : 8 < m.kind
 ·rw [if_pos b]
  refine aa (F := f574) rfl rfl (ah 300 _ _ _ _ ?_)
  repeat' (first | refine ae ?_ | (refine ab ?_ ?_ <;> intro h))
  refine ag ?_; rfl
 rw [if_neg b]
 by_cases k1 : m.kind = 1
 ·rw [if_pos k1]
  exact atY s hs m hp k1
 rw [if_neg k1]
 by_cases k2 : m.kind = 2
 ·rw [if_pos k2]
  exact atX s hs m hp k2
 rw [if_neg k2]
 by_cases k3 : m.kind = 3
 ·rw [if_pos k3]
  exact atW s hs m hp k3
 rw [if_neg k3]
 by_cases k4 : m.kind = 4
 ·rw [if_pos k4]
  exact atV s hs m hp k4
 rw [if_neg k4]
 by_cases k5 : m.kind = 5
 ·rw [if_pos k5]
  exact atU s hs m hp k5
 rw [if_neg k5]
 by_cases k6 : m.kind = 6
 ·rw [if_pos k6]
  exact atT s hs m hp k6
 rw [if_neg k6]
 by_cases k7 : m.kind = 7
 ·rw [if_pos k7]
  exact atS s hs m hp k7
 rw [if_neg k7]
 exact atR s hs m hp (by omega)
end Go.AM.IR
namespace Go.AM.IR
def bh {α : Type} (f : α → Int) : List α → Int
 | [] => 0
 | x :: r => if f x = 0 then bh f r else f x
def iJ {α β : Type} (rule : β → Int) (name : α → List UInt8) (rules : α → List β) : List α → List UInt8 → Bool → Int
 | [], _, _ => 0
 | x :: r, b, fst => if dz (name x) b fst (rules x).length = 0 then (if bh rule (rules x) = 0 then iJ rule name rules r (name x) false else bh rule (rules x)) else dz (name x) b fst (rules x).length
def ruE (r : RuleP) : Int := if aU r.pfx = true then (if r.min < r.pfx.len ∨ r.max < r.min ∨ r.max > 32 then 5 else 0) else 1
theorem Da (r : RuleP) (h : r.ok) : ax G 326 [.agg r.enc] [] ⟨.int .i64 (ruE r), []⟩ := by
 have hv : ax G 179 [.agg [.int .u32 r.pfx.addr, .int .i64 r.pfx.len]] [] ⟨.bool (aU r.pfx), []⟩ := bI r.pfx h.1
 unfold ruE
 cases hvp : aU r.pfx
 ·rw [hvp] at hv
  rw [if_neg (by simp)]
  refine aa (F := f326) rfl rfl (ah 300 _ _ _ _ ?_)
  repeat' (first | refine ae ?_ | (refine ab ?_ ?_ <;> intro h))
  refine ag ?_; rfl
 ·rw [hvp] at hv
  rw [if_pos rfl]
  by_cases h1 : r.min < r.pfx.len
  ·rw [if_pos (.inl h1)]
   refine aa (F := f326) rfl rfl (ah 300 _ _ _ _ ?_)
   repeat' (first | refine ae ?_ | (refine ab ?_ ?_ <;> intro h))
   refine ag ?_; rfl
  ·by_cases h2 : r.max < r.min
   ·rw [if_pos (.inr (.inl h2))]
    refine aa (F := f326) rfl rfl (ah 300 _ _ _ _ ?_)
    repeat' (first | refine ae ?_ | (refine ab ?_ ?_ <;> intro h))
    refine ag ?_; rfl
   ·by_cases h3 : r.max > 32
    ·rw [if_pos (.inr (.inr h3))]
     refine aa (F := f326) rfl rfl (ah 300 _ _ _ _ ?_)
     repeat' (first | refine ae ?_ | (refine ab ?_ ?_ <;> intro h))
     refine ag ?_; rfl
    ·rw [if_neg (by omega)]
     refine aa (F := f326) rfl rfl (ah 300 _ _ _ _ ?_)
     repeat' (first | refine ae ?_ | (refine ab ?_ ?_ <;> intro h))
     refine ag ?_; rfl
def paE (r : PathR) : Int := if (xC r.pattern).isSome then 0 else 2
theorem Pf (r : PathR) (h : r.pattern.length < 2 ^ 32) : ∃ (k lo hi : Int) (l : List Rx), ax G 571 [.str r.pattern] [] ⟨.tup [.agg [.int .i64 k, .int .i64 lo, .int .i64 hi, .sl 4 (l.map Rx.enc)], .int .i64 (paE r)], []⟩ := by
 have h1 := tr r.pattern h
 unfold paE
 cases hq : xC r.pattern with
 | none =>
  rw [hq] at h1
  refine ⟨0, 0, 0, [], ?_⟩
  have e := bp 0 0 0 []
  have h2 : ax G 571 [.str r.pattern] [] ⟨.tup [.agg rx0.enc, .int .i64 2], []⟩ := h1
  unfold rx0 at h2
  rw [e] at h2
  exact h2
 | some x =>
  rw [hq] at h1
  obtain ⟨k, lo, hi, l⟩ := x
  refine ⟨k, lo, hi, l, ?_⟩
  have h2 : ax G 571 [.str r.pattern] [] ⟨.tup [.agg (Rx.mk k lo hi l).enc, .int .i64 0], []⟩ := h1
  rw [bp] at h2
  exact h2
theorem rt (l2 : List RuleP) (hr : ∀ r ∈ l2, r.ok) (ls : List (List AV)) (len i : Int) (bf : List UInt8) (R : Ret) (go : bh ruE l2 = 0 → ∀ (T : List (Nat × AV)) (H : aq) (c : Nat), Ev G ⟨vU, ⟨(13, .sl 2 ls) :: (14, .int .i64 len) :: (15, .int .i64 (i + 1)) :: (3, .str bf) :: T, H, c⟩, [.t 2], 0⟩ R) (hi : 0 ≤ i ∧ i < 2 ^ 40) (hR : bh ruE l2 ≠ 0 → R = ⟨.int .i64 (bh ruE l2), []⟩) (hl : l2.length < 2 ^ 40) (ln : Int) (hln : ln = l2.length) : ∀ (rest done : List RuleP)  (T : List (Nat × AV)) (H : aq) (c : Nat) (n : Int) (e : l2 = done ++ rest) (hn : n = done.length) (hz : bh ruE rest = bh ruE l2), Ev G ⟨MW, ⟨(35, .sl 5 (l2.map RuleP.enc)) :: (36, .int .i64 ln) :: (37, .int .i64 n) :: (3, .str bf) :: (13, .sl 2 ls) :: (14, .int .i64 len) :: (15, .int .i64 i) :: T, H, c⟩, [.t 2], 0⟩ R
 | [], done,  T, H, c, n, e, hn, hz => by
  have hd : l2.length = done.length := by simp [e]
  have hll : (l2.map RuleP.enc).length = l2.length := by simp
  refine evl ?_
  repeat' (first | refine ae ?_ | (refine ab ?_ ?_ <;> intro h))
  refine am [13, 14, 15, 3] [] ?_
  exact go (by rw [← hz]; rfl) _ _ _
 | x :: r, done,  T, H, c, n, e, hn, hz => by
  have hd : l2.length = done.length + (r.length + 1) := by simp [e]
  have hll : (l2.map RuleP.enc).length = l2.length := by simp
  have hx : (l2.map RuleP.enc)[n.toNat]? = some (RuleP.enc x) := by simp [e, hn]
  rw [bh] at hz
  have h1 := Da x (hr x (by simp [e]))
  generalize ruE x = E at *
  by_cases h0 : E = 0
  ·rw [if_pos h0] at hz
   subst h0
   refine evl ?_
   repeat' (first | refine ae ?_ | (refine ab ?_ ?_ <;> intro h))
   refine am [35, 36, 37, 3, 13, 14, 15] [] ?_; exact rt l2 hr ls len i bf R go hi hR hl ln hln r (done ++ [x])  _ _ _ (n + 1) (by simp [e]) (by simp [hn] <;> omega) hz
  ·rw [if_neg h0] at hz
   rw [hR (by rw [← hz]; exact h0), ← hz]
   refine evl ?_
   repeat' (first | refine ae ?_ | (refine ab ?_ ?_ <;> intro h))
   refine ag ?_; rfl
theorem rX (l : List PList) (hs : ∀ x ∈ l, x.name.length < 2 ^ 40 ∧ x.rules.length < 2 ^ 40 ∧ (∀ r ∈ x.rules, r.ok)) (hl : l.length < 2 ^ 40) (ln : Int) (hln : ln = l.length) : ∀ (rest done : List PList) (bf : List UInt8) (fst : Bool) (T : List (Nat × AV)) (H : aq) (c : Nat) (n : Int) (e : l = done ++ rest) (hn : n = done.length) (hf : (n == 0) = fst), Ev G ⟨vU, ⟨(13, .sl 2 (l.map PList.enc)) :: (14, .int .i64 ln) :: (15, .int .i64 n) :: (3, .str bf) :: T, H, c⟩, [.t 2], 0⟩ (⟨.int .i64 (iJ ruE PList.name PList.rules rest bf fst), []⟩)
 | [], done, bf, fst, T, H, c, n, e, hn, hf => by
  have hd : l.length = done.length := by simp [e]
  have hll : (l.map PList.enc).length = l.length := by simp
  refine evl ?_
  repeat' (first | refine ae ?_ | (refine ab ?_ ?_ <;> intro h))
  refine ag ?_; rfl
 | x :: r, done, bf, fst, T, H, c, n, e, hn, hf => by
  have hd : l.length = done.length + (r.length + 1) := by simp [e]
  have hll : (l.map PList.enc).length = l.length := by simp
  have hx : (l.map PList.enc)[n.toNat]? = some (PList.enc x) := by simp [e, hn]
  obtain ⟨q1, q2, q3⟩ := hs x (by simp [e])
  have m1 : (x.rules.map RuleP.enc).length = x.rules.length := by simp
  have h1 := fQ x.name bf q1 (n == 0) x.rules.length
  have hE : dz x.name bf (n == 0) x.rules.length = dz x.name bf fst x.rules.length := by rw [hf]
  rw [hE] at h1
  rw [← m1] at h1
  rw [iJ, ← m1]
  generalize dz x.name bf fst (x.rules.map RuleP.enc).length = E at *
  by_cases h0 : E = 0
  ·rw [if_pos h0]
   subst h0
   refine evl ?_
   repeat' (first | refine ae ?_ | (refine ab ?_ ?_ <;> intro h))
   refine am [35, 36, 37, 3, 13, 14, 15] [] ?_
   rw [m1]
   have hn1 : (n + 1 == 0) = false := by
    have : ¬ n + 1 = 0 := by omega
    simpa using this
   refine rt x.rules q3 _ ln n x.name _ (fun hz T H c => ?_) (by omega) (fun hq => by rw [if_neg hq]) q2 _ rfl x.rules [] _ _ _ 0 rfl rfl rfl
   rw [if_pos hz]
   exact rX l hs hl ln hln r (done ++ [x]) x.name false T H c (n + 1) (by simp [e]) (by simp [hn] <;> omega) hn1
  ·rw [if_neg h0]
   refine evl ?_
   repeat' (first | refine ae ?_ | (refine ab ?_ ?_ <;> intro h))
   refine ag ?_; rfl
theorem rq (l2 : List PathR) (hr : ∀ r ∈ l2, r.pattern.length < 2 ^ 32) (ls : List (List AV)) (len i : Int) (bf : List UInt8) (R : Ret) (go : bh paE l2 = 0 → ∀ (T : List (Nat × AV)) (H : aq) (c : Nat), Ev G ⟨vT, ⟨(14, .sl 2 ls) :: (15, .int .i64 len) :: (16, .int .i64 (i + 1)) :: (3, .str bf) :: T, H, c⟩, [.t 2], 0⟩ R) (hi : 0 ≤ i ∧ i < 2 ^ 40) (hR : bh paE l2 ≠ 0 → R = ⟨.int .i64 (bh paE l2), []⟩) (hl : l2.length < 2 ^ 40) (ln : Int) (hln : ln = l2.length) : ∀ (rest done : List PathR)  (T : List (Nat × AV)) (H : aq) (c : Nat) (n : Int) (e : l2 = done ++ rest) (hn : n = done.length) (hz : bh paE rest = bh paE l2), Ev G ⟨MU, ⟨(36, .sl 2 (l2.map PathR.enc)) :: (37, .int .i64 ln) :: (38, .int .i64 n) :: (3, .str bf) :: (14, .sl 2 ls) :: (15, .int .i64 len) :: (16, .int .i64 i) :: T, H, c⟩, [.t 2], 0⟩ R
 | [], done,  T, H, c, n, e, hn, hz => by
  have hd : l2.length = done.length := by simp [e]
  have hll : (l2.map PathR.enc).length = l2.length := by simp
  refine evl ?_
  repeat' (first | refine ae ?_ | (refine ab ?_ ?_ <;> intro h))
  refine am [14, 15, 16, 3] [] ?_
  exact go (by rw [← hz]; rfl) _ _ _
 | x :: r, done,  T, H, c, n, e, hn, hz => by
  have hd : l2.length = done.length + (r.length + 1) := by simp [e]
  have hll : (l2.map PathR.enc).length = l2.length := by simp
  have hx : (l2.map PathR.enc)[n.toNat]? = some (PathR.enc x) := by simp [e, hn]
  rw [bh] at hz
  obtain ⟨k0, lo0, hi0, l0, h1⟩ := Pf x (hr x (by simp [e]))
  generalize paE x = E at *
  by_cases h0 : E = 0
  ·rw [if_pos h0] at hz
   subst h0
   refine evl ?_
   repeat' (first | refine ae ?_ | (refine ab ?_ ?_ <;> intro h))
   refine am [36, 37, 38, 3, 14, 15, 16] [] ?_; exact rq l2 hr ls len i bf R go hi hR hl ln hln r (done ++ [x])  _ _ _ (n + 1) (by simp [e]) (by simp [hn] <;> omega) hz
  ·rw [if_neg h0] at hz
   rw [hR (by rw [← hz]; exact h0), ← hz]
   refine evl ?_
   repeat' (first | refine ae ?_ | (refine ab ?_ ?_ <;> intro h))
   refine ag ?_; rfl
theorem rU (l : List PathL) (hs : ∀ x ∈ l, x.name.length < 2 ^ 40 ∧ x.rules.length < 2 ^ 40 ∧ (∀ r ∈ x.rules, r.pattern.length < 2 ^ 32)) (hl : l.length < 2 ^ 40) (ln : Int) (hln : ln = l.length) : ∀ (rest done : List PathL) (bf : List UInt8) (fst : Bool) (T : List (Nat × AV)) (H : aq) (c : Nat) (n : Int) (e : l = done ++ rest) (hn : n = done.length) (hf : (n == 0) = fst), Ev G ⟨vT, ⟨(14, .sl 2 (l.map PathL.enc)) :: (15, .int .i64 ln) :: (16, .int .i64 n) :: (3, .str bf) :: T, H, c⟩, [.t 2], 0⟩ (⟨.int .i64 (iJ paE PathL.name PathL.rules rest bf fst), []⟩)
 | [], done, bf, fst, T, H, c, n, e, hn, hf => by
  have hd : l.length = done.length := by simp [e]
  have hll : (l.map PathL.enc).length = l.length := by simp
  refine evl ?_
  repeat' (first | refine ae ?_ | (refine ab ?_ ?_ <;> intro h))
  refine ag ?_; rfl
 | x :: r, done, bf, fst, T, H, c, n, e, hn, hf => by
  have hd : l.length = done.length + (r.length + 1) := by simp [e]
  have hll : (l.map PathL.enc).length = l.length := by simp
  have hx : (l.map PathL.enc)[n.toNat]? = some (PathL.enc x) := by simp [e, hn]
  obtain ⟨q1, q2, q3⟩ := hs x (by simp [e])
  have m1 : (x.rules.map PathR.enc).length = x.rules.length := by simp
  have h1 := fQ x.name bf q1 (n == 0) x.rules.length
  have hE : dz x.name bf (n == 0) x.rules.length = dz x.name bf fst x.rules.length := by rw [hf]
  rw [hE] at h1
  rw [← m1] at h1
  rw [iJ, ← m1]
  generalize dz x.name bf fst (x.rules.map PathR.enc).length = E at *
  by_cases h0 : E = 0
  ·rw [if_pos h0]
   subst h0
   refine evl ?_
   repeat' (first | refine ae ?_ | (refine ab ?_ ?_ <;> intro h))
   refine am [36, 37, 38, 3, 14, 15, 16] [] ?_
   rw [m1]
   have hn1 : (n + 1 == 0) = false := by
    have : ¬ n + 1 = 0 := by omega
    simpa using this
   refine rq x.rules q3 _ ln n x.name _ (fun hz T H c => ?_) (by omega) (fun hq => by rw [if_neg hq]) q2 _ rfl x.rules [] _ _ _ 0 rfl rfl rfl
   rw [if_pos hz]
   exact rU l hs hl ln hln r (done ++ [x]) x.name false T H c (n + 1) (by simp [e]) (by simp [hn] <;> omega) hn1
  ·rw [if_neg h0]
   refine evl ?_
   repeat' (first | refine ae ?_ | (refine ab ?_ ?_ <;> intro h))
   refine ag ?_; rfl
theorem rn (l2 : List ComR) (hr : True) (ls : List (List AV)) (len i : Int) (bf : List UInt8) (R : Ret) (go : bh gY l2 = 0 → ∀ (T : List (Nat × AV)) (H : aq) (c : Nat), Ev G ⟨vR, ⟨(13, .sl 2 ls) :: (14, .int .i64 len) :: (15, .int .i64 (i + 1)) :: (3, .str bf) :: T, H, c⟩, [.t 2], 0⟩ R) (hi : 0 ≤ i ∧ i < 2 ^ 40) (hR : bh gY l2 ≠ 0 → R = ⟨.int .i64 (bh gY l2), []⟩) (hl : l2.length < 2 ^ 40) (ln : Int) (hln : ln = l2.length) : ∀ (rest done : List ComR)  (T : List (Nat × AV)) (H : aq) (c : Nat) (n : Int) (e : l2 = done ++ rest) (hn : n = done.length) (hz : bh gY rest = bh gY l2), Ev G ⟨MT, ⟨(35, .sl 3 (l2.map ComR.enc)) :: (36, .int .i64 ln) :: (37, .int .i64 n) :: (3, .str bf) :: (13, .sl 2 ls) :: (14, .int .i64 len) :: (15, .int .i64 i) :: T, H, c⟩, [.t 2], 0⟩ R
 | [], done,  T, H, c, n, e, hn, hz => by
  have hd : l2.length = done.length := by simp [e]
  have hll : (l2.map ComR.enc).length = l2.length := by simp
  refine evl ?_
  repeat' (first | refine ae ?_ | (refine ab ?_ ?_ <;> intro h))
  refine am [13, 14, 15, 3] [] ?_
  exact go (by rw [← hz]; rfl) _ _ _
 | x :: r, done,  T, H, c, n, e, hn, hz => by
  have hd : l2.length = done.length + (r.length + 1) := by simp [e]
  have hll : (l2.map ComR.enc).length = l2.length := by simp
  have hx : (l2.map ComR.enc)[n.toNat]? = some (ComR.enc x) := by simp [e, hn]
  rw [bh] at hz
  have h1 := BL x
  generalize gY x = E at *
  by_cases h0 : E = 0
  ·rw [if_pos h0] at hz
   subst h0
   refine evl ?_
   repeat' (first | refine ae ?_ | (refine ab ?_ ?_ <;> intro h))
   refine am [35, 36, 37, 3, 13, 14, 15] [] ?_; exact rn l2 hr ls len i bf R go hi hR hl ln hln r (done ++ [x])  _ _ _ (n + 1) (by simp [e]) (by simp [hn] <;> omega) hz
  ·rw [if_neg h0] at hz
   rw [hR (by rw [← hz]; exact h0), ← hz]
   refine evl ?_
   repeat' (first | refine ae ?_ | (refine ab ?_ ?_ <;> intro h))
   refine ag ?_; rfl
theorem rT (l : List ComL) (hs : ∀ x ∈ l, x.name.length < 2 ^ 40 ∧ x.rules.length < 2 ^ 40 ∧ (True)) (hl : l.length < 2 ^ 40) (ln : Int) (hln : ln = l.length) : ∀ (rest done : List ComL) (bf : List UInt8) (fst : Bool) (T : List (Nat × AV)) (H : aq) (c : Nat) (n : Int) (e : l = done ++ rest) (hn : n = done.length) (hf : (n == 0) = fst), Ev G ⟨vR, ⟨(13, .sl 2 (l.map ComL.enc)) :: (14, .int .i64 ln) :: (15, .int .i64 n) :: (3, .str bf) :: T, H, c⟩, [.t 2], 0⟩ (⟨.int .i64 (iJ gY ComL.name ComL.rules rest bf fst), []⟩)
 | [], done, bf, fst, T, H, c, n, e, hn, hf => by
  have hd : l.length = done.length := by simp [e]
  have hll : (l.map ComL.enc).length = l.length := by simp
  refine evl ?_
  repeat' (first | refine ae ?_ | (refine ab ?_ ?_ <;> intro h))
  refine ag ?_; rfl
 | x :: r, done, bf, fst, T, H, c, n, e, hn, hf => by
  have hd : l.length = done.length + (r.length + 1) := by simp [e]
  have hll : (l.map ComL.enc).length = l.length := by simp
  have hx : (l.map ComL.enc)[n.toNat]? = some (ComL.enc x) := by simp [e, hn]
  obtain ⟨q1, q2, q3⟩ := hs x (by simp [e])
  have m1 : (x.rules.map ComR.enc).length = x.rules.length := by simp
  have h1 := fQ x.name bf q1 (n == 0) x.rules.length
  have hE : dz x.name bf (n == 0) x.rules.length = dz x.name bf fst x.rules.length := by rw [hf]
  rw [hE] at h1
  rw [← m1] at h1
  rw [iJ, ← m1]
  generalize dz x.name bf fst (x.rules.map ComR.enc).length = E at *
  by_cases h0 : E = 0
  ·rw [if_pos h0]
   subst h0
   refine evl ?_
   repeat' (first | refine ae ?_ | (refine ab ?_ ?_ <;> intro h))
   refine am [35, 36, 37, 3, 13, 14, 15] [] ?_
   rw [m1]
   have hn1 : (n + 1 == 0) = false := by
    have : ¬ n + 1 = 0 := by omega
    simpa using this
   refine rn x.rules q3 _ ln n x.name _ (fun hz T H c => ?_) (by omega) (fun hq => by rw [if_neg hq]) q2 _ rfl x.rules [] _ _ _ 0 rfl rfl rfl
   rw [if_pos hz]
   exact rT l hs hl ln hln r (done ++ [x]) x.name false T H c (n + 1) (by simp [e]) (by simp [hn] <;> omega) hn1
  ·rw [if_neg h0]
   refine evl ?_
   repeat' (first | refine ae ?_ | (refine ab ?_ ?_ <;> intro h))
   refine ag ?_; rfl
def nt (l : List PList) : Int := if 64 < l.length then 4 else iJ ruE PList.name PList.rules l [] true
theorem y7 (l : List PList) (hl : l.length < 2 ^ 40) (hs : ∀ x ∈ l, x.name.length < 2 ^ 40 ∧ x.rules.length < 2 ^ 40 ∧ (∀ r ∈ x.rules, r.ok)) : ax G 497 [.sl 2 (l.map PList.enc)] [] ⟨.int .i64 (nt l), []⟩ := by
 have hll : (l.map PList.enc).length = l.length := by simp
 unfold nt
 by_cases c : 64 < l.length
 ·rw [if_pos c]
  have c' : (l.length : Int) > 64 := by omega
  refine aa (F := f497) rfl rfl (ah 300 _ _ _ _ ?_)
  repeat' (first | refine ae ?_ | (refine ab ?_ ?_ <;> intro h))
  refine ag ?_; rfl
 ·rw [if_neg c]
  refine aa (F := f497) rfl rfl (ah 300 _ _ _ _ ?_)
  repeat' (first | refine ae ?_ | (refine ab ?_ ?_ <;> intro h))
  refine am [13, 14, 15, 3] [] ?_
  rw [hll]
  exact rX l hs hl _ rfl l [] [] true _ _ _ 0 rfl rfl rfl
def ns (l : List PathL) : Int := if 64 < l.length then 4 else iJ paE PathL.name PathL.rules l [] true
theorem y6 (l : List PathL) (hl : l.length < 2 ^ 40) (hs : ∀ x ∈ l, x.name.length < 2 ^ 40 ∧ x.rules.length < 2 ^ 40 ∧ (∀ r ∈ x.rules, r.pattern.length < 2 ^ 32)) : ax G 498 [.sl 2 (l.map PathL.enc)] [] ⟨.int .i64 (ns l), []⟩ := by
 have hll : (l.map PathL.enc).length = l.length := by simp
 unfold ns
 by_cases c : 64 < l.length
 ·rw [if_pos c]
  have c' : (l.length : Int) > 64 := by omega
  refine aa (F := f498) rfl rfl (ah 300 _ _ _ _ ?_)
  repeat' (first | refine ae ?_ | (refine ab ?_ ?_ <;> intro h))
  refine ag ?_; rfl
 ·rw [if_neg c]
  refine aa (F := f498) rfl rfl (ah 300 _ _ _ _ ?_)
  repeat' (first | refine ae ?_ | (refine ab ?_ ?_ <;> intro h))
  refine am [14, 15, 16, 3] [] ?_
  rw [hll]
  exact rU l hs hl _ rfl l [] [] true _ _ _ 0 rfl rfl rfl
def nr (l : List ComL) : Int := if 64 < l.length then 4 else iJ gY ComL.name ComL.rules l [] true
theorem y5 (l : List ComL) (hl : l.length < 2 ^ 40) (hs : ∀ x ∈ l, x.name.length < 2 ^ 40 ∧ x.rules.length < 2 ^ 40 ∧ (True)) : ax G 499 [.sl 2 (l.map ComL.enc)] [] ⟨.int .i64 (nr l), []⟩ := by
 have hll : (l.map ComL.enc).length = l.length := by simp
 unfold nr
 by_cases c : 64 < l.length
 ·rw [if_pos c]
  have c' : (l.length : Int) > 64 := by omega
  refine aa (F := f499) rfl rfl (ah 300 _ _ _ _ ?_)
  repeat' (first | refine ae ?_ | (refine ab ?_ ?_ <;> intro h))
  refine ag ?_; rfl
 ·rw [if_neg c]
  refine aa (F := f499) rfl rfl (ah 300 _ _ _ _ ?_)
  repeat' (first | refine ae ?_ | (refine ab ?_ ?_ <;> intro h))
  refine am [13, 14, 15, 3] [] ?_
  rw [hll]
  exact rT l hs hl _ rfl l [] [] true _ _ _ 0 rfl rfl rfl
end Go.AM.IR
namespace Go.AM.IR
def vdE (v : Int) : Int := if v ≠ 1 ∧ v ≠ 2 ∧ v ≠ 3 then 15 else 0
def tE3 (t : Trm) : Int := if 64 < t.acts.length then 4 else if bh qQ t.acts = 0 then vdE t.verdict else bh qQ t.acts
def tE2 (s : PSet) (t : Trm) : Int := if 64 < t.mats.length then 4 else if bh (p8 s) t.mats = 0 then tE3 t else bh (p8 s) t.mats
def tE1 (s : PSet) (before : List Trm) (t : Trm) : Int := if nmB t.name = false then 1 else if before.any (fun u => u.name == t.name) then 7 else tE2 s t
theorem DI (l : List Actn) (t : Trm) (g7 : Nat) (hl : l.length < 2 ^ 40) (ln : Int) (hln : ln = l.length) : ∀ (rest done : List Actn)  (T : List (Nat × AV)) (H : aq) (c : Nat) (n : Int) (e : l = done ++ rest) (hn : n = done.length) , Ev G ⟨MO, ⟨(63, .sl 5 (l.map Actn.enc)) :: (64, .int .i64 ln) :: (65, .int .i64 n) :: (7, .ref 71 g7 0) :: T, (71, some (g7, .cells t.enc)) :: H, c⟩, [.t 6], 0⟩ (⟨.int .i64 (if bh qQ rest = 0 then vdE t.verdict else bh qQ rest), []⟩)
 | [], done,  T, H, c, n, e, hn => by
  have hd : l.length = done.length := by simp [e]
  have hll : (l.map Actn.enc).length = l.length := by simp
  rw [bh, if_pos rfl, vdE]
  by_cases v1 : t.verdict = 1
  ·rw [if_neg (fun q => q.1 v1)]
   refine evl ?_
   repeat' (first | refine ae ?_ | (refine ab ?_ ?_ <;> intro h))
   refine ag ?_; rfl
  by_cases v2 : t.verdict = 2
  ·rw [if_neg (fun q => q.2.1 v2)]
   refine evl ?_
   repeat' (first | refine ae ?_ | (refine ab ?_ ?_ <;> intro h))
   refine ag ?_; rfl
  by_cases v3 : t.verdict = 3
  ·rw [if_neg (fun q => q.2.2 v3)]
   refine evl ?_
   repeat' (first | refine ae ?_ | (refine ab ?_ ?_ <;> intro h))
   refine ag ?_; rfl
  rw [if_pos ⟨v1, v2, v3⟩]
  refine evl ?_
  repeat' (first | refine ae ?_ | (refine ab ?_ ?_ <;> intro h))
  refine ag ?_; rfl
 | x :: r, done,  T, H, c, n, e, hn => by
  have hd : l.length = done.length + (r.length + 1) := by simp [e]
  have hll : (l.map Actn.enc).length = l.length := by simp
  have hx : (l.map Actn.enc)[n.toNat]? = some (Actn.enc x) := by simp [e, hn]
  have h1 := Cy x
  rw [bh]
  generalize qQ x = E at *
  by_cases h0 : E = 0
  ·subst h0
   rw [if_pos rfl]
   refine evl ?_
   repeat' (first | refine ae ?_ | (refine ab ?_ ?_ <;> intro h))
   refine am [63, 64, 65, 7] [71] ?_; exact DI l t g7 hl ln hln r (done ++ [x])  _ _ _ (n + 1) (by simp [e]) (by simp [hn] <;> omega)
  ·rw [if_neg h0, if_neg h0]
   refine evl ?_
   repeat' (first | refine ae ?_ | (refine ab ?_ ?_ <;> intro h))
   refine ag ?_; rfl
theorem DH (l : List Mat) (s : PSet) (hs : s.prefixes.length < 2 ^ 40 ∧ s.paths.length < 2 ^ 40 ∧ s.comms.length < 2 ^ 40) (t : Trm) (g7 : Nat) (hk : ∀ m ∈ l, m.pfx.ok) (ha : t.acts.length < 2 ^ 40) (hl : l.length < 2 ^ 40) (ln : Int) (hln : ln = l.length) : ∀ (rest done : List Mat)  (T : List (Nat × AV)) (H : aq) (c : Nat) (n : Int) (e : l = done ++ rest) (hn : n = done.length) , Ev G ⟨MQ, ⟨(45, .sl 6 (l.map Mat.enc)) :: (46, .int .i64 ln) :: (47, .int .i64 n) :: (3, .ref 67 1 0) :: (7, .ref 71 g7 0) :: T, (67, some (1, .cells s.enc)) :: (71, some (g7, .cells t.enc)) :: H, c⟩, [.t 6], 0⟩ (⟨.int .i64 (if bh (p8 s) rest = 0 then tE3 t else bh (p8 s) rest), []⟩)
 | [], done,  T, H, c, n, e, hn => by
  have hd : l.length = done.length := by simp [e]
  have hll : (l.map Mat.enc).length = l.length := by simp
  have m1 : (t.acts.map Actn.enc).length = t.acts.length := by simp
  rw [bh, if_pos rfl, tE3]
  by_cases c : 64 < t.acts.length
  ·rw [if_pos c]
   have c' : (t.acts.length : Int) > 64 := by omega
   refine evl ?_
   repeat' (first | refine ae ?_ | (refine ab ?_ ?_ <;> intro h))
   refine ag ?_; rfl
  ·rw [if_neg c]
   refine evl ?_
   repeat' (first | refine ae ?_ | (refine ab ?_ ?_ <;> intro h))
   refine am [63, 64, 65, 7] [71] ?_
   rw [m1]
   exact DI t.acts t g7 ha _ rfl t.acts [] _ _ _ 0 rfl rfl
 | x :: r, done,  T, H, c, n, e, hn => by
  have hd : l.length = done.length + (r.length + 1) := by simp [e]
  have hll : (l.map Mat.enc).length = l.length := by simp
  have hx : (l.map Mat.enc)[n.toNat]? = some (Mat.enc x) := by simp [e, hn]
  have h1 := yY s hs x (hk x (by simp [e]))
  rw [bh]
  generalize p8 s x = E at *
  by_cases h0 : E = 0
  ·subst h0
   rw [if_pos rfl]
   refine evl ?_
   repeat' (first | refine ae ?_ | (refine ab ?_ ?_ <;> intro h))
   refine am [45, 46, 47, 3, 7] [67, 71] ?_; exact DH l s hs t g7 hk ha hl ln hln r (done ++ [x])  _ _ _ (n + 1) (by simp [e]) (by simp [hn] <;> omega)
  ·rw [if_neg h0, if_neg h0]
   refine evl ?_
   repeat' (first | refine ae ?_ | (refine ab ?_ ?_ <;> intro h))
   refine ag ?_; rfl
theorem LW (l : List Trm) (s : PSet) (hs : s.prefixes.length < 2 ^ 40 ∧ s.paths.length < 2 ^ 40 ∧ s.comms.length < 2 ^ 40) (t : Trm) (g7 : Nat) (hk : ∀ m ∈ t.mats, m.pfx.ok) (ha : t.acts.length < 2 ^ 40) (hm : t.mats.length < 2 ^ 40) (hl : l.length < 2 ^ 40) (ln : Int) (hln : ln = l.length) : ∀ (rest done : List Trm)  (T : List (Nat × AV)) (H : aq) (c : Nat) (n : Int) (e : l = done ++ rest) (hn : n = done.length) , Ev G ⟨MR, ⟨(28, .sl 4 (l.map Trm.enc)) :: (29, .int .i64 ln) :: (30, .int .i64 n) :: (7, .ref 71 g7 0) :: (3, .ref 67 1 0) :: T, (67, some (1, .cells s.enc)) :: (71, some (g7, .cells t.enc)) :: H, c⟩, [.t 6], 0⟩ (⟨.int .i64 (if rest.any (fun u => u.name == t.name) then 7 else tE2 s t), []⟩)
 | [], done,  T, H, c, n, e, hn => by
  have hd : l.length = done.length := by simp [e]
  have hll : (l.map Trm.enc).length = l.length := by simp
  have m1 : (t.mats.map Mat.enc).length = t.mats.length := by simp
  rw [List.any_nil, if_neg (by simp), tE2]
  by_cases c : 64 < t.mats.length
  ·rw [if_pos c]
   have c' : (t.mats.length : Int) > 64 := by omega
   refine evl ?_
   repeat' (first | refine ae ?_ | (refine ab ?_ ?_ <;> intro h))
   refine ag ?_; rfl
  ·rw [if_neg c]
   refine evl ?_
   repeat' (first | refine ae ?_ | (refine ab ?_ ?_ <;> intro h))
   refine am [45, 46, 47, 3, 7] [67, 71] ?_
   rw [m1]
   exact DH t.mats s hs t g7 hk ha hm _ rfl t.mats [] _ _ _ 0 rfl rfl
 | x :: r, done,  T, H, c, n, e, hn => by
  have hd : l.length = done.length + (r.length + 1) := by simp [e]
  have hll : (l.map Trm.enc).length = l.length := by simp
  have hx : (l.map Trm.enc)[n.toNat]? = some (Trm.enc x) := by simp [e, hn]
  rw [List.any_cons]
  by_cases hn : x.name = t.name
  ·rw [show (x.name == t.name) = true from by simp [hn], Bool.true_or, if_pos rfl]
   refine evl ?_
   repeat' (first | refine cg ?_ | (refine ab ?_ ?_ <;> intro h))
   refine ag ?_; rfl
  ·rw [show (x.name == t.name) = false from by simp [hn], Bool.false_or]
   refine evl ?_
   repeat' (first | refine cg ?_ | (refine ab ?_ ?_ <;> intro h))
   refine am [28, 29, 30, 7, 3] [67, 71] ?_; exact LW l s hs t g7 hk ha hm hl ln hln r (done ++ [x])  _ _ _ (n + 1) (by simp [e]) (by simp [hn] <;> omega)
theorem CW (s : PSet) (hs : s.prefixes.length < 2 ^ 40 ∧ s.paths.length < 2 ^ 40 ∧ s.comms.length < 2 ^ 40) (p : Pol) (i : Nat) (t : Trm) (ht : p.terms[i]? = some t) (hp : p.terms.length < 2 ^ 40) (hk : ∀ m ∈ t.mats, m.pfx.ok) (ha : t.acts.length < 2 ^ 40) (hm : t.mats.length < 2 ^ 40) (hn : t.name.length < 2 ^ 40) : ax G 501 [.agg s.enc, .agg p.enc, .int .i64 (i : Int)] [] ⟨.int .i64 (tE1 s (p.terms.take i) t), []⟩ := by
 have hi : i < p.terms.length := (List.getElem?_eq_some_iff.1 ht).1
 have hx : (p.terms.map Trm.enc)[((i : Nat) : Int).toNat]? = some t.enc := by simp [ht]
 have hll : (p.terms.map Trm.enc).length = p.terms.length := by simp
 have h1 := pr t.name hn
 rw [tE1]
 cases hb : nmB t.name with
 | false =>
  rw [hb] at h1
  rw [if_pos rfl]
  refine aa (F := f501) rfl rfl (ah 300 _ _ _ _ ?_)
  repeat' (first | refine ae ?_ | (refine ab ?_ ?_ <;> intro h))
  refine ag ?_; rfl
 | true =>
  rw [hb] at h1
  rw [if_neg (by simp)]
  refine aa (F := f501) rfl rfl (ah 300 _ _ _ _ ?_)
  repeat' (first | refine ae ?_ | (refine ab ?_ ?_ <;> intro h))
  refine am [28, 29, 30, 7, 3] [67, 71] ?_
  have ht2 : ((p.terms.take i).map Trm.enc).length = (p.terms.take i).length := by simp
  have hE : List.take (((i : Nat) : Int).toNat - 0) (List.drop 0 (p.terms.map Trm.enc)) = (p.terms.take i).map Trm.enc := by simp [List.map_take]
  rw [hE, ht2]
  exact LW (p.terms.take i) s hs t _ hk ha hm (by simp; omega) _ rfl (p.terms.take i) [] _ _ _ 0 rfl rfl
end Go.AM.IR
namespace Go.AM.IR
def gy (s : PSet) : List Trm → List Trm → Int
 | _, [] => 0
 | d, t :: r => if tE1 s d t = 0 then gy s (d ++ [t]) r else tE1 s d t
def dfE (d : Int) : Int := if d ≠ 1 ∧ d ≠ 2 then 15 else 0
def xD (s : PSet) : List Pol → List UInt8 → Bool → Int
 | [], _, _ => 0
 | p :: r, b, f => if dz p.name b f p.terms.length = 0 then (if gy s [] p.terms = 0 then (if dfE p.dflt = 0 then xD s r p.name false else dfE p.dflt) else gy s [] p.terms) else dz p.name b f p.terms.length
def ft (s : PSet) : Int := if nt s.prefixes = 0 then (if ns s.paths = 0 then (if nr s.comms = 0 then (if 64 < s.pols.length then 4 else xD s s.pols [] true) else nr s.comms) else ns s.paths) else nt s.prefixes
structure Trm.goodT (t : Trm) : Prop where
 nm : t.name.length < 2 ^ 40
 ms : t.mats.length < 2 ^ 40
 as : t.acts.length < 2 ^ 40
 ok : ∀ m ∈ t.mats, m.pfx.ok
structure PSet.good (s : PSet) : Prop where
 a : s.prefixes.length < 2 ^ 40
 b : s.paths.length < 2 ^ 40
 c : s.comms.length < 2 ^ 40
 d : s.pols.length < 2 ^ 40
 pre : ∀ x ∈ s.prefixes, x.name.length < 2 ^ 40 ∧ x.rules.length < 2 ^ 40 ∧ ∀ r ∈ x.rules, r.ok
 pat : ∀ x ∈ s.paths, x.name.length < 2 ^ 40 ∧ x.rules.length < 2 ^ 40 ∧ ∀ r ∈ x.rules, r.pattern.length < 2 ^ 32
 com : ∀ x ∈ s.comms, x.name.length < 2 ^ 40 ∧ x.rules.length < 2 ^ 40 ∧ True
 pol : ∀ x ∈ s.pols, x.name.length < 2 ^ 40 ∧ x.terms.length < 2 ^ 40 ∧ ∀ t ∈ x.terms, t.goodT
theorem wA (s : PSet) (hs : s.good) (p : Pol) (hp : p.name.length < 2 ^ 40 ∧ p.terms.length < 2 ^ 40 ∧ ∀ t ∈ p.terms, t.goodT) (ls : List (List AV)) (len i : Int) (hi : 0 ≤ i ∧ i < 2 ^ 40) (g8 : Nat) (R : Ret)
  (go : gy s [] p.terms = 0 → dfE p.dflt = 0 → ∀ (T : List (Nat × AV)) (H : aq) (c : Nat), Ev G ⟨v7, ⟨(35, .sl 3 ls) :: (36, .int .i64 len) :: (37, .int .i64 (i + 1)) :: (1, .ref 65 1 0) :: (6, .str p.name) :: T, (65, some (1, .cells s.enc)) :: H, c⟩, [.t 2], 0⟩ R)
  (hR : gy s [] p.terms ≠ 0 → R = ⟨.int .i64 (gy s [] p.terms), []⟩) (hD : gy s [] p.terms = 0 → dfE p.dflt ≠ 0 → R = ⟨.int .i64 (dfE p.dflt), []⟩) :
  ∀ (rest done : List Trm) (T : List (Nat × AV)) (H : aq) (c : Nat) (n : Int) (e : p.terms = done ++ rest) (hn : n = done.length) (hz : gy s done rest = gy s [] p.terms),
  Ev G ⟨Ng, ⟨(59, .int .i64 n) :: (8, .ref 72 g8 0) :: (1, .ref 65 1 0) :: (6, .str p.name) :: (35, .sl 3 ls) :: (36, .int .i64 len) :: (37, .int .i64 i) :: (58, .int .i64 p.terms.length) :: T, (65, some (1, .cells s.enc)) :: (72, some (g8, .cells p.enc)) :: H, c⟩, [.t 2], 0⟩ R
 | [], done, T, H, c, n, e, hn, hz => by
  have hd : p.terms.length = done.length := by simp [e]
  have hz0 : gy s [] p.terms = 0 := by rw [← hz]; rfl
  have go := go hz0
  have hD := hD hz0
  rw [dfE] at go hD
  by_cases v1 : p.dflt = 1
  ·have go := go (if_neg (fun q => q.1 v1))
   refine evl ?_
   repeat' (first | refine ae ?_ | (refine ab ?_ ?_ <;> intro h))
   refine am [35, 36, 37, 1, 6] [65] ?_
   exact go _ _ _
  by_cases v2 : p.dflt = 2
  ·have go := go (if_neg (fun q => q.2 v2))
   refine evl ?_
   repeat' (first | refine ae ?_ | (refine ab ?_ ?_ <;> intro h))
   refine am [35, 36, 37, 1, 6] [65] ?_
   exact go _ _ _
  rw [if_pos ⟨v1, v2⟩] at hD
  rw [hD (by omega)]
  refine evl ?_
  repeat' (first | refine ae ?_ | (refine ab ?_ ?_ <;> intro h))
  refine ag ?_; rfl
 | t :: r, done, T, H, c, n, e, hn, hz => by
  obtain ⟨hp1, hp2, hp3⟩ := hp
  have hd : p.terms.length = done.length + (r.length + 1) := by simp [e]
  have ht := hp3 t (by simp [e])
  have h1 := CW s ⟨hs.a, hs.b, hs.c⟩ p done.length t (by simp [e]) hp2 ht.ok ht.as ht.ms ht.nm
  rw [show p.terms.take done.length = done from by simp [e], ← hn] at h1
  rw [gy] at hz
  generalize tE1 s done t = E at *
  by_cases h0 : E = 0
  ·subst h0
   rw [if_pos rfl] at hz
   refine evl ?_
   repeat' (first | refine ae ?_ | (refine ab ?_ ?_ <;> intro h))
   refine am [59, 8, 1, 6, 35, 36, 37, 58] [65, 72] ?_
   exact wA s hs p ⟨hp1, hp2, hp3⟩ ls len i hi g8 R go hR hD r (done ++ [t]) _ _ _ (n + 1) (by simp [e]) (by simp [hn]) hz
  ·rw [if_neg h0] at hz
   rw [hR (by rw [← hz]; exact h0), ← hz]
   refine evl ?_
   repeat' (first | refine ae ?_ | (refine ab ?_ ?_ <;> intro h))
   refine ag ?_; rfl
theorem wz (l : List Pol) (s : PSet) (hs : s.good) (hl1 : s.pols = l) (hl : l.length < 2 ^ 40) (ln : Int) (hln : ln = l.length) : ∀ (rest done : List Pol) (bf : List UInt8) (fst : Bool) (T : List (Nat × AV)) (H : aq) (c : Nat) (n : Int) (e : l = done ++ rest) (hn : n = done.length) (hf : (n == 0) = fst), Ev G ⟨v7, ⟨(35, .sl 3 (l.map Pol.enc)) :: (36, .int .i64 ln) :: (37, .int .i64 n) :: (1, .ref 65 1 0) :: (6, .str bf) :: T, (65, some (1, .cells s.enc)) :: H, c⟩, [.t 2], 0⟩ (⟨.int .i64 (xD s rest bf fst), []⟩)
 | [], done, bf, fst, T, H, c, n, e, hn, hf => by
  have hd : l.length = done.length := by simp [e]
  have hll : (l.map Pol.enc).length = l.length := by simp
  refine evl ?_
  repeat' (first | refine ae ?_ | (refine ab ?_ ?_ <;> intro h))
  refine ag ?_; rfl
 | x :: r, done, bf, fst, T, H, c, n, e, hn, hf => by
  have hd : l.length = done.length + (r.length + 1) := by simp [e]
  have hll : (l.map Pol.enc).length = l.length := by simp
  have hx : (l.map Pol.enc)[n.toNat]? = some (Pol.enc x) := by simp [e, hn]
  have hp := hs.pol x (by rw [hl1]; simp [e])
  have hp1 := hp.1
  have hp2 := hp.2.1
  have m1 : (x.terms.map Trm.enc).length = x.terms.length := by simp
  have h1 := fQ x.name bf hp1 (n == 0) x.terms.length
  have hE : dz x.name bf (n == 0) x.terms.length = dz x.name bf fst x.terms.length := by rw [hf]
  rw [hE] at h1
  rw [← m1] at h1
  rw [xD, ← m1]
  generalize dz x.name bf fst (x.terms.map Trm.enc).length = E at *
  by_cases h0 : E = 0
  ·rw [if_pos h0]
   subst h0
   refine evl ?_
   repeat' (first | refine ae ?_ | (refine ab ?_ ?_ <;> intro h))
   refine am [59, 8, 1, 6, 35, 36, 37, 58] [65, 72] ?_
   rw [m1]
   have hn1 : (n + 1 == 0) = false := by
    have : ¬ n + 1 = 0 := by omega
    simpa using this
   refine wA s hs x hp _ ln n (by omega) _ _ (fun q1 q2 T H c => ?_) (fun hq => by rw [if_neg hq]) (fun q1 q2 => by rw [if_pos q1, if_neg q2]) x.terms [] _ _ _ 0 rfl rfl rfl
   rw [if_pos q1, if_pos q2]
   exact wz l s hs hl1 hl ln hln r (done ++ [x]) x.name false T H c (n + 1) (by simp [e]) (by simp [hn] <;> omega) hn1
  ·rw [if_neg h0]
   refine evl ?_
   repeat' (first | refine ae ?_ | (refine ab ?_ ?_ <;> intro h))
   refine ag ?_; rfl
theorem jX (s : PSet) (hs : s.good) : ax G 444 [.agg s.enc] [] ⟨.int .i64 (ft s), []⟩ := by
 have h1 := y7 s.prefixes hs.a hs.pre
 have h2 := y6 s.paths hs.b hs.pat
 have h3 := y5 s.comms hs.c hs.com
 have m1 : (s.pols.map Pol.enc).length = s.pols.length := by simp
 have hd := hs.d
 rw [ft]
 generalize nt s.prefixes = A at *
 generalize ns s.paths = B at *
 generalize nr s.comms = C at *
 by_cases a : A = 0
 ·subst a
  rw [if_pos rfl]
  by_cases b : B = 0
  ·subst b
   rw [if_pos rfl]
   by_cases c : C = 0
   ·subst c
    rw [if_pos rfl]
    by_cases d : 64 < s.pols.length
    ·rw [if_pos d]
     have d' : (s.pols.length : Int) > 64 := by omega
     refine aa (F := f444) rfl rfl (ah 300 _ _ _ _ ?_)
     repeat' (first | refine ae ?_ | (refine ab ?_ ?_ <;> intro h))
     refine ag ?_; rfl
    ·rw [if_neg d]
     refine aa (F := f444) rfl rfl (ah 300 _ _ _ _ ?_)
     repeat' (first | refine ae ?_ | (refine ab ?_ ?_ <;> intro h))
     refine am [35, 36, 37, 1, 6] [65] ?_
     rw [m1]
     exact wz s.pols s hs rfl hd _ rfl s.pols [] [] true _ _ _ 0 rfl rfl rfl
   ·rw [if_neg c]
    refine aa (F := f444) rfl rfl (ah 300 _ _ _ _ ?_)
    repeat' (first | refine ae ?_ | (refine ab ?_ ?_ <;> intro h))
    refine ag ?_; rfl
  ·rw [if_neg b]
   refine aa (F := f444) rfl rfl (ah 300 _ _ _ _ ?_)
   repeat' (first | refine ae ?_ | (refine ab ?_ ?_ <;> intro h))
   refine ag ?_; rfl
 ·rw [if_neg a]
  refine aa (F := f444) rfl rfl (ah 300 _ _ _ _ ?_)
  repeat' (first | refine ae ?_ | (refine ab ?_ ?_ <;> intro h))
  refine ag ?_; rfl
end Go.AM.IR
namespace Go.AM.IR
section
variable {k : AV → Prop} {x j : Nat}
theorem QW {J : Int} (hJ : J = (j : Int)) (hj : j ≤ 31) (h : k (.int .u32 ((2 ^ j : Nat) : Int))) : ∃ v, bj .shl (.int .u32 1) (.int .u64 J) = some v ∧ k v := by
 subst hJ
 refine ⟨_, ?_, h⟩
 show (if (j : Int) < 0 then none else some (AV.int .u32 (IntKind.wrap .u32 (1 * 2 ^ (min (j : Int).toNat 32))))) = _
 rw [if_neg (by omega), show min (j : Int).toNat 32 = j by omega, Int.one_mul]
 have h1 : (2 : Nat) ^ j ≤ 2 ^ 31 := Nat.pow_le_pow_right (by omega) hj
 have h2 : ((2 ^ j : Nat) : Int) = (2 : Int) ^ j := by simp
 rw [← h2, n7 _ (by omega)]
theorem QV {J : Int} (hJ : J = (j : Int)) (hj : j ≤ 31) (hx : x < 4294967296) (h : k (.int .u32 ((x / 2 ^ j : Nat) : Int))) : ∃ v, bj .shr (.int .u32 (x : Int)) (.int .u64 J) = some v ∧ k v := by
 subst hJ
 refine ⟨_, ?_, h⟩
 show (if (j : Int) < 0 then none else some (AV.int .u32 ((x : Int).fdiv (2 ^ (min (j : Int).toNat 32))))) = _
 rw [if_neg (by omega), show min (j : Int).toNat 32 = j by omega]
 have h2 : ((2 ^ j : Nat) : Int) = (2 : Int) ^ j := by simp
 have h3 : 0 ≤ ((2 ^ j : Nat) : Int) := Int.natCast_nonneg _
 rw [← h2, Int.fdiv_eq_ediv_of_nonneg _ h3]
 rfl
end
theorem y8 (x m : Nat) : x % 2 ^ (m + 1) = x / 2 ^ m % 2 * 2 ^ m + x % 2 ^ m := by
 rw [Nat.pow_succ, Nat.mod_mul, Nat.mul_comm (2 ^ m)]; omega
theorem ats (q d m b r : Nat) (hb : b < 2) (hr : r < 2 ^ m) : (q * 2 ^ (m + 1 + d) + (b * 2 ^ m + r)) / 2 ^ m % 2 = b := by
 have e : q * 2 ^ (m + 1 + d) + (b * 2 ^ m + r) = r + 2 ^ m * (q * 2 ^ d * 2 + b) := by
  rw [show m + 1 + d = m + (d + 1) by omega, Nat.pow_add, Nat.pow_succ]
  rw [Nat.mul_add]
  have e1 : q * (2 ^ m * (2 ^ d * 2)) = 2 ^ m * (q * 2 ^ d * 2) := by
   rw [Nat.mul_left_comm, Nat.mul_assoc]
  have e2 : b * 2 ^ m = 2 ^ m * b := Nat.mul_comm _ _
  rw [e1, e2]
  generalize 2 ^ m * (q * 2 ^ d * 2) = A
  generalize 2 ^ m * b = B
  omega
 have hp : 0 < 2 ^ m := Nat.pow_pos (by omega)
 rw [e, Nat.add_mul_div_left _ _ hp, Nat.div_eq_of_lt hr]
 generalize q * 2 ^ d = A
 omega
theorem acV (a m : Nat) : a &&& 2 ^ m = a / 2 ^ m % 2 * 2 ^ m := by
 apply Nat.eq_of_testBit_eq
 intro j
 have e1 : ∀ q : Nat, (a / 2 ^ m % 2).testBit q = (decide (q < 1) && (a / 2 ^ m).testBit q) := fun q => by
  have := Nat.testBit_mod_two_pow (a / 2 ^ m) 1 q
  simpa using this
 rw [Nat.testBit_and, Nat.testBit_two_pow, Nat.testBit_mul_two_pow, e1, Nat.testBit_div_two_pow]
 by_cases h : m = j
 ·subst h; simp
 ·by_cases h2 : m ≤ j
  ·have : ¬ j - m < 1 := by omega
   simp [h, h2, this]
  ·simp [h, h2]
theorem jI (x n : Nat) (hx : x < 4294967296) (hn : n ≤ 32) : ∀ (f i : Nat) (hf : i + f = 32) (hi : n ≤ i) (a : Nat) (ha : a = bc x n + x % 2 ^ f) (T : List (Nat × AV)) (H : aq) (c : Nat),
  Ev G ⟨Qk, ⟨(0, .int .u32 (a : Int)) :: (5, .int .i64 (i : Int)) :: T, H, c⟩, [.t 4], 0⟩ ⟨.int .u32 ((bc x n : Nat) : Int), []⟩
 | 0, i, hf, hi, a, ha, T, H, c => by
  obtain rfl : i = 32 := by omega
  obtain rfl : a = bc x n := by rw [ha]; simp [Nat.mod_one]
  refine evl ?_
  repeat' (first | refine ae ?_ | (refine ab ?_ ?_ <;> intro h))
  refine ag ?_; rfl
 | f + 1, i, hf, hi, a, ha, T, H, c => by
  have hi2 : (i : Int) < 32 := by omega
  have e31 : (31 : Int) - (i : Int) = (f : Int) := by omega
  have hfl : f ≤ 31 := by omega
  have h1 := y8 x f
  have hr : x % 2 ^ f < 2 ^ f := Nat.mod_lt _ (Nat.pow_pos (by omega))
  have hk : bc x n = x / 2 ^ (32 - n) * 2 ^ (f + 1 + (i - n)) := by unfold bc; congr 2; omega
  have hb2 := Nat.mod_lt (x / 2 ^ f) (show 2 > 0 by omega)
  have hbit : a / 2 ^ f % 2 = x / 2 ^ f % 2 := by
   rw [ha, h1, hk]
   exact ats _ _ _ _ _ hb2 hr
  have hale : a ≤ x := by
   have hle : bc x n + x % 2 ^ (32 - n) = x := by unfold bc; rw [Nat.mul_comm]; exact Nat.div_add_mod _ _
   have : x % 2 ^ (f + 1) ≤ x % 2 ^ (32 - n) := by
    have e : x % 2 ^ (f + 1) = x % 2 ^ (32 - n) % 2 ^ (f + 1) := by rw [Nat.mod_mod_of_dvd _ (Nat.pow_dvd_pow 2 (by omega))]
    rw [e]; exact Nat.mod_le _ _
   omega
  have hpow : (2 : Nat) ^ f ≤ 2 ^ 31 := Nat.pow_le_pow_right (by omega) hfl
  have hand := acV a f
  rw [hbit] at hand
  have hi3 : ((i : Int) + 1) = ((i + 1 : Nat) : Int) := by omega
  have hal : a < 4294967296 := by omega
  have hpl : (2 : Nat) ^ f < 4294967296 := by omega
  by_cases hz : x / 2 ^ f % 2 = 0
  ·rw [hz, Nat.zero_mul] at hand h1
   have hand' : ((a &&& 2 ^ f : Nat) : Int) = 0 := by rw [hand]; rfl
   have ih := jI x n hx hn f (i + 1) (by omega) (by omega) a (by rw [ha, h1]; omega)
   rw [← hi3] at ih
   refine evl ?_
   repeat' ((conv => whnf); first | refine QW e31 hfl ?_ | refine xU ?_ hal hpl | refine aP ?_ | (refine ab ?_ ?_ <;> intro h))
   refine am [0, 5] [] ?_
   exact ih _ _ _
  ·have hz1 : x / 2 ^ f % 2 = 1 := by omega
   rw [hz1, Nat.one_mul] at hand h1
   have hpa : 2 ^ f ≤ a := by
    have := Nat.div_add_mod a (2 ^ f)
    have h3 : a / 2 ^ f % 2 = 1 := by rw [hbit, hz1]
    have h4 : 1 ≤ a / 2 ^ f := by
     rcases Nat.eq_zero_or_pos (a / 2 ^ f) with q | q
     ·rw [q] at h3; simp at h3
     ·exact q
    have := Nat.mul_le_mul_left (2 ^ f) h4
    omega
   have hpp : 0 < (2 : Nat) ^ f := Nat.pow_pos (by omega)
   have hand' : ¬ ((a &&& 2 ^ f : Nat) : Int) = 0 := by rw [hand]; omega
   have hsub : (a : Int) - ((2 ^ f : Nat) : Int) = ((a - 2 ^ f : Nat) : Int) := by omega
   have ih := jI x n hx hn f (i + 1) (by omega) (by omega) (a - 2 ^ f) (by rw [ha, h1]; omega)
   rw [← hi3, ← hsub] at ih
   have hs0 : 0 ≤ (a : Int) - ((2 ^ f : Nat) : Int) := by omega
   have hs1 : (a : Int) - ((2 ^ f : Nat) : Int) ≤ 4294967295 := by omega
   have zsub : ∀ {kv : AV → Prop}, kv (.int .u32 ((a : Int) - ((2 ^ f : Nat) : Int))) → ∃ v, bj .sub (.int .u32 (a : Int)) (.int .u32 ((2 ^ f : Nat) : Int)) = some v ∧ kv v := fun h => ⟨_, by show some (AV.int .u32 (IntKind.wrap .u32 ((a : Int) - ((2 ^ f : Nat) : Int)))) = _; rw [hsub, n7 _ (by omega)], by rw [hsub] at h; exact h⟩
   refine evl ?_
   repeat' ((conv => whnf); first | refine QW e31 hfl ?_ | refine xU ?_ hal hpl | refine zsub ?_ | refine aP ?_ | (refine ab ?_ ?_ <;> intro h))
   refine am [0, 5] [] ?_
   exact ih _ _ _
theorem ey (x n : Nat) (hx : x < 4294967296) (hn : n ≤ 32) : ax G 569 [.int .u32 (x : Int), .int .i64 (n : Int)] [] ⟨.int .u32 ((bc x n : Nat) : Int), []⟩ := by
 have hle : bc x n + x % 2 ^ (32 - n) = x := by unfold bc; rw [Nat.mul_comm]; exact Nat.div_add_mod _ _
 refine aa (F := f569) rfl rfl (ah 300 _ _ _ _ ?_)
 repeat' (first | refine ae ?_ | (refine ab ?_ ?_ <;> intro h))
 refine am [0, 5] [] ?_
 exact jI x n hx hn (32 - n) n (by omega) (Nat.le_refl _) x hle.symm _ _ _
theorem nA (x n : Nat) (hx : x < 4294967296) (hn : n ≤ 32) : ∀ (f i : Nat) (hf : i + f = 32) (T : List (Nat × AV)) (H : aq) (c : Nat),
  Ev G ⟨Qm, ⟨(0, .int .u32 (x : Int)) :: (5, .int .i64 (i : Int)) :: T, H, c⟩, [.t 4], 0⟩ ⟨.bool (decide (x % 2 ^ f = 0)), []⟩
 | 0, i, hf, T, H, c => by
  obtain rfl : i = 32 := by omega
  rw [show decide (x % 2 ^ 0 = 0) = true from by simp [Nat.mod_one]]
  refine evl ?_
  repeat' (first | refine ae ?_ | (refine ab ?_ ?_ <;> intro h))
  refine ag ?_; rfl
 | f + 1, i, hf, T, H, c => by
  have hi2 : (i : Int) < 32 := by omega
  have e31 : (31 : Int) - (i : Int) = (f : Int) := by omega
  have hfl : f ≤ 31 := by omega
  have h1 := y8 x f
  have hpp : 0 < (2 : Nat) ^ f := Nat.pow_pos (by omega)
  have hi3 : ((i : Int) + 1) = ((i + 1 : Nat) : Int) := by omega
  have hdl : x / 2 ^ f < 4294967296 := Nat.lt_of_le_of_lt (Nat.div_le_self _ _) hx
  have hand : x / 2 ^ f &&& 1 = x / 2 ^ f % 2 := Nat.and_one_is_mod _
  have h1l : 1 < 4294967296 := by omega
  have ih := nA x n hx hn f (i + 1) (by omega)
  rw [← hi3] at ih
  have zand : ∀ {kv : AV → Prop}, kv (.int .u32 ((x / 2 ^ f % 2 : Nat) : Int)) → ∃ v, bj .and (.int .u32 ((x / 2 ^ f : Nat) : Int)) (.int .u32 1) = some v ∧ kv v := fun {kv} h => xU (a := x / 2 ^ f) (b := 1) (k := kv) (by rw [hand]; exact h) hdl h1l
  by_cases hz : x / 2 ^ f % 2 = 0
  ·have hz' : ¬ ((x / 2 ^ f % 2 : Nat) : Int) = 1 := by omega
   rw [show decide (x % 2 ^ (f + 1) = 0) = decide (x % 2 ^ f = 0) from by rw [h1, hz]; simp]
   refine evl ?_
   repeat' ((conv => whnf); first | refine QV e31 hfl hx ?_ | refine zand ?_ | refine aP ?_ | (refine ab ?_ ?_ <;> intro h))
   refine am [0, 5] [] ?_
   exact ih _ _ _
  ·have hz1 : x / 2 ^ f % 2 = 1 := by omega
   have hz' : ((x / 2 ^ f % 2 : Nat) : Int) = 1 := by omega
   rw [show decide (x % 2 ^ (f + 1) = 0) = false from by rw [h1, hz1, decide_eq_false_iff_not]; omega]
   refine evl ?_
   repeat' ((conv => whnf); first | refine QV e31 hfl hx ?_ | refine zand ?_ | refine aP ?_ | (refine ab ?_ ?_ <;> intro h))
   refine ag ?_; rfl
theorem fT (p : Pfx) (h : p.ok) : ax G 495 [.int .u32 p.addr, .int .i64 p.len] [] ⟨.bool (aU p), []⟩ := by
 obtain ⟨a, n⟩ := p
 obtain ⟨x, rfl⟩ : ∃ x : Nat, a = x := ⟨a.toNat, by have := h.addr; unfold okU at this; simp only at this; omega⟩
 have hx : x < 4294967296 := by have := h.addr; unfold okU at this; simp only at this; omega
 by_cases n0 : n < 0
 ·rw [show aU ⟨x, n⟩ = false from by simp [aU]; omega]
  refine aa (F := f495) rfl rfl (ah 300 _ _ _ _ ?_)
  repeat' (first | refine ae ?_ | (refine ab ?_ ?_ <;> intro h))
  refine ag ?_; rfl
 by_cases n1 : n > 32
 ·rw [show aU ⟨x, n⟩ = false from by simp [aU]; omega]
  refine aa (F := f495) rfl rfl (ah 300 _ _ _ _ ?_)
  repeat' (first | refine ae ?_ | (refine ab ?_ ?_ <;> intro h))
  refine ag ?_; rfl
 obtain ⟨m, rfl⟩ : ∃ m : Nat, n = m := ⟨n.toNat, by omega⟩
 have hle : bc x m + x % 2 ^ (32 - m) = x := by unfold bc; rw [Nat.mul_comm]; exact Nat.div_add_mod _ _
 rw [show aU ⟨x, m⟩ = decide (x % 2 ^ (32 - m) = 0) from by
  unfold aU
  rw [Bool.eq_iff_iff]
  simp only [decide_eq_true_eq, Int.toNat_natCast]
  omega]
 refine aa (F := f495) rfl rfl (ah 300 _ _ _ _ ?_)
 repeat' (first | refine ae ?_ | (refine ab ?_ ?_ <;> intro h))
 refine am [0, 5] [] ?_
 exact nA x m hx (by omega) (32 - m) m (by omega) _ _ _
end Go.AM.IR
namespace Go.AM.IR
theorem PJ {a : Int} (h : okU a) : ∃ x : Nat, a = x ∧ x < 4294967296 := ⟨a.toNat, by unfold okU at h; omega, by unfold okU at h; omega⟩
def inP (p : Pfx) (a : Int) : Bool := decide (((bc a.toNat p.len.toNat : Nat) : Int) = p.addr)
theorem Dl (p : Pfx) (a : Int) (ha : okU a) (h0 : 0 ≤ p.len) (h1 : p.len ≤ 32) : ax G 568 [.agg p.enc, .int .u32 a] [] ⟨.bool (inP p a), []⟩ := by
 obtain ⟨x, rfl, hx⟩ := PJ ha
 obtain ⟨q, n⟩ := p
 obtain ⟨m, rfl⟩ : ∃ m : Nat, n = m := ⟨n.toNat, by dsimp only at h0; omega⟩
 have hk := ey x m hx (by dsimp only at h1; omega)
 unfold inP
 simp only [Int.toNat_natCast]
 by_cases e : (bc x m : Int) = q
 ·rw [decide_eq_true e]
  generalize bc x m = y at *
  refine aa (F := f568) rfl rfl (ah 300 _ _ _ _ ?_)
  repeat' (first | refine ae ?_ | (refine ab ?_ ?_ <;> intro h))
  refine ag ?_; simp [e]
 ·rw [decide_eq_false e]
  generalize bc x m = y at *
  refine aa (F := f568) rfl rfl (ah 300 _ _ _ _ ?_)
  repeat' (first | refine ae ?_ | (refine ab ?_ ?_ <;> intro h))
  refine ag ?_; simp [e]
def wi (n a b : Int) : Bool := decide (a ≤ n ∧ n ≤ b)
def ifE (x : Ifc) : Int := if wi x.kind 1 3 = false then 15 else if aU x.pfx = false then 1 else if x.addr = 0 then 1 else if inP x.pfx x.addr = false then 1 else
 if wi x.cost 1 65535 = false then 5 else if wi x.prio 0 255 = false then 5 else if wi x.hello 1 65535 = false then 5 else if wi x.dead x.hello 65535 = false then 5 else 0
theorem Dm (x : Ifc) (hx : x.ok) : ax G 493 [.agg x.enc] [] ⟨.int .i64 (ifE x), []⟩ := by
 obtain ⟨hp, ha⟩ : x.pfx.ok ∧ okU x.addr := ⟨hx.2.1, hx.2.2.1⟩
 have h1 := e9 x.kind 1 3
 have h2 := fT x.pfx hp
 have h4 := e9 x.cost 1 65535
 have h5 := e9 x.prio 0 255
 have h6 := e9 x.hello 1 65535
 have h7 := e9 x.dead x.hello 65535
 unfold ifE
 rw [show decide (1 ≤ x.kind ∧ x.kind ≤ 3) = wi x.kind 1 3 from rfl] at h1
 rw [show decide (1 ≤ x.cost ∧ x.cost ≤ 65535) = wi x.cost 1 65535 from rfl] at h4
 rw [show decide (0 ≤ x.prio ∧ x.prio ≤ 255) = wi x.prio 0 255 from rfl] at h5
 rw [show decide (1 ≤ x.hello ∧ x.hello ≤ 65535) = wi x.hello 1 65535 from rfl] at h6
 rw [show decide (x.hello ≤ x.dead ∧ x.dead ≤ 65535) = wi x.dead x.hello 65535 from rfl] at h7
 generalize wi x.kind 1 3 = b1 at *
 generalize wi x.cost 1 65535 = b4 at *
 generalize wi x.prio 0 255 = b5 at *
 generalize wi x.hello 1 65535 = b6 at *
 generalize wi x.dead x.hello 65535 = b7 at *
 cases b1 with
 | false =>
  rw [if_pos rfl]
  refine aa (F := f493) rfl rfl (ah 300 _ _ _ _ ?_)
  repeat' (first | refine ae ?_ | (refine ab ?_ ?_ <;> intro h))
  refine ag ?_; rfl
 | true =>
 rw [if_neg (by simp)]
 cases hv : aU x.pfx with
 | false =>
  rw [hv] at h2
  rw [if_pos rfl]
  refine aa (F := f493) rfl rfl (ah 300 _ _ _ _ ?_)
  repeat' (first | refine ae ?_ | (refine ab ?_ ?_ <;> intro h))
  refine ag ?_; rfl
 | true =>
 rw [hv] at h2
 rw [if_neg (by simp)]
 have hl : 0 ≤ x.pfx.len ∧ x.pfx.len ≤ 32 := by
  unfold aU at hv
  have := of_decide_eq_true hv
  exact ⟨this.1, this.2.1⟩
 have h3 : ax G 568 [.agg [.int .u32 x.pfx.addr, .int .i64 x.pfx.len], .int .u32 x.addr] [] ⟨.bool (inP x.pfx x.addr), []⟩ := Dl x.pfx x.addr ha hl.1 hl.2
 by_cases az : x.addr = 0
 ·rw [if_pos az]
  refine aa (F := f493) rfl rfl (ah 300 _ _ _ _ ?_)
  repeat' (first | refine ae ?_ | (refine ab ?_ ?_ <;> intro h))
  refine ag ?_; rfl
 rw [if_neg az]
 generalize inP x.pfx x.addr = b3 at *
 cases b3 with
 | false =>
  rw [if_pos rfl]
  refine aa (F := f493) rfl rfl (ah 300 _ _ _ _ ?_)
  repeat' (first | refine ae ?_ | (refine ab ?_ ?_ <;> intro h))
  refine ag ?_; rfl
 | true =>
 rw [if_neg (by simp)]
 cases b4 with
 | false =>
  rw [if_pos rfl]
  refine aa (F := f493) rfl rfl (ah 300 _ _ _ _ ?_)
  repeat' (first | refine ae ?_ | (refine ab ?_ ?_ <;> intro h))
  refine ag ?_; rfl
 | true =>
 rw [if_neg (by simp)]
 cases b5 with
 | false =>
  rw [if_pos rfl]
  refine aa (F := f493) rfl rfl (ah 300 _ _ _ _ ?_)
  repeat' (first | refine ae ?_ | (refine ab ?_ ?_ <;> intro h))
  refine ag ?_; rfl
 | true =>
 rw [if_neg (by simp)]
 cases b6 with
 | false =>
  rw [if_pos rfl]
  refine aa (F := f493) rfl rfl (ah 300 _ _ _ _ ?_)
  repeat' (first | refine ae ?_ | (refine ab ?_ ?_ <;> intro h))
  refine ag ?_; rfl
 | true =>
 rw [if_neg (by simp)]
 cases b7 with
 | false =>
  rw [if_pos rfl]
  refine aa (F := f493) rfl rfl (ah 300 _ _ _ _ ?_)
  repeat' (first | refine ae ?_ | (refine ab ?_ ?_ <;> intro h))
  refine ag ?_; rfl
 | true =>
 rw [if_neg (by simp)]
 refine aa (F := f493) rfl rfl (ah 300 _ _ _ _ ?_)
 repeat' (first | refine ae ?_ | (refine ab ?_ ?_ <;> intro h))
 refine ag ?_; rfl
def ovE (p q : Pfx) : Bool := decide (bc p.addr.toNat (min p.len q.len).toNat = bc q.addr.toNat (min p.len q.len).toNat)
theorem Dg (p q : Pfx) (hp : p.ok) (hq : q.ok) (vp : aU p = true) (vq : aU q = true) : ax G 494 [.agg p.enc, .agg q.enc] [] ⟨.bool (ovE p q), []⟩ := by
 have lp := of_decide_eq_true vp
 have lq := of_decide_eq_true vq
 have l1 := lp.1
 have l2 := lp.2.1
 have l3 := lq.1
 have l4 := lq.2.1
 clear lp lq vp vq
 obtain ⟨a, n⟩ := p
 obtain ⟨b, m⟩ := q
 obtain ⟨x, rfl, hx⟩ := PJ hp.addr
 obtain ⟨y, rfl, hy⟩ := PJ hq.addr
 dsimp only at l1 l2 l3 l4
 obtain ⟨n, rfl⟩ : ∃ k : Nat, n = k := ⟨n.toNat, by omega⟩
 obtain ⟨m, rfl⟩ : ∃ k : Nat, m = k := ⟨m.toNat, by omega⟩
 unfold ovE
 dsimp only
 by_cases h : (m : Int) < (n : Int)
 ·have e : (min (n : Int) (m : Int)).toNat = m := by omega
  rw [e]
  simp only [Int.toNat_natCast]
  have k1 := ey x m hx (by omega)
  have k2 := ey y m hy (by omega)
  by_cases he : bc x m = bc y m
  ·have he' : (bc x m : Int) = (bc y m : Int) := by omega
   rw [decide_eq_true he]
   generalize bc x m = u at *
   generalize bc y m = v at *
   refine aa (F := f494) rfl rfl (ah 300 _ _ _ _ ?_)
   repeat' (first | refine ae ?_ | (refine ab ?_ ?_ <;> intro h))
   refine ag ?_; simp [he, he']
  ·have he' : ¬ (bc x m : Int) = (bc y m : Int) := by omega
   rw [decide_eq_false he]
   generalize bc x m = u at *
   generalize bc y m = v at *
   refine aa (F := f494) rfl rfl (ah 300 _ _ _ _ ?_)
   repeat' (first | refine ae ?_ | (refine ab ?_ ?_ <;> intro h))
   refine ag ?_; simp [he, he']
 ·have e : (min (n : Int) (m : Int)).toNat = n := by omega
  rw [e]
  simp only [Int.toNat_natCast]
  have k1 := ey x n hx (by omega)
  have k2 := ey y n hy (by omega)
  by_cases he : bc x n = bc y n
  ·have he' : (bc x n : Int) = (bc y n : Int) := by omega
   rw [decide_eq_true he]
   generalize bc x n = u at *
   generalize bc y n = v at *
   refine aa (F := f494) rfl rfl (ah 300 _ _ _ _ ?_)
   repeat' (first | refine ae ?_ | (refine ab ?_ ?_ <;> intro h))
   refine ag ?_; simp [he, he']
  ·have he' : ¬ (bc x n : Int) = (bc y n : Int) := by omega
   rw [decide_eq_false he]
   generalize bc x n = u at *
   generalize bc y n = v at *
   refine aa (F := f494) rfl rfl (ah 300 _ _ _ _ ?_)
   repeat' (first | refine ae ?_ | (refine ab ?_ ?_ <;> intro h))
   refine ag ?_; simp [he, he']
end Go.AM.IR
namespace Go.AM.IR
def pkE (c : PVC) (p : PeerC) : Int := if p.kind < 1 then 15 else if 3 < p.kind then 15 else if p.asn < 1 then 5 else if 4294967295 < p.asn then 5 else
 if p.kind = 3 ∧ ¬ p.asn = c.asn then 14 else if ¬ p.kind = 3 ∧ p.asn = c.asn then 14 else if p.asn = c.confed then 14 else if p.kind = 2 ∧ c.confed = 0 then 14 else 0
theorem De (c : PVC) (p : PeerC) : ax G 576 [.agg c.enc, .agg p.enc] [] ⟨.int .i64 (pkE c p), []⟩ := by
 by_cases a1 : p.kind < 1
 ·rw [pkE, if_pos a1]
  refine aa (F := f576) rfl rfl (ah 300 _ _ _ _ ?_)
  repeat' (first | refine ae ?_ | (refine ab ?_ ?_ <;> intro h))
  refine ag ?_; rfl
 by_cases a2 : 3 < p.kind
 ·rw [pkE, if_neg a1, if_pos a2]
  refine aa (F := f576) rfl rfl (ah 300 _ _ _ _ ?_)
  repeat' (first | refine ae ?_ | (refine ab ?_ ?_ <;> intro h))
  refine ag ?_; rfl
 by_cases a3 : p.asn < 1
 ·rw [pkE, if_neg a1, if_neg a2, if_pos a3]
  refine aa (F := f576) rfl rfl (ah 300 _ _ _ _ ?_)
  repeat' (first | refine ae ?_ | (refine ab ?_ ?_ <;> intro h))
  refine ag ?_; rfl
 by_cases a4 : 4294967295 < p.asn
 ·rw [pkE, if_neg a1, if_neg a2, if_neg a3, if_pos a4]
  refine aa (F := f576) rfl rfl (ah 300 _ _ _ _ ?_)
  repeat' (first | refine ae ?_ | (refine ab ?_ ?_ <;> intro h))
  refine ag ?_; rfl
 rw [pkE, if_neg a1, if_neg a2, if_neg a3, if_neg a4]
 by_cases k : p.kind = 3
 ·by_cases e : p.asn = c.asn
  ·rw [if_neg (by simp [e]), if_neg (by simp [k])]
   by_cases f : p.asn = c.confed
   ·rw [if_pos f]
    refine aa (F := f576) rfl rfl (ah 300 _ _ _ _ ?_)
    repeat' ((conv => whnf); first | refine ba k ?_ | refine ba e ?_ | refine aP ?_ | (refine ab ?_ ?_ <;> intro h))
    refine ag ?_; rfl
   ·rw [if_neg f, if_neg (by omega)]
    refine aa (F := f576) rfl rfl (ah 300 _ _ _ _ ?_)
    repeat' ((conv => whnf); first | refine ba k ?_ | refine ba e ?_ | refine aP ?_ | (refine ab ?_ ?_ <;> intro h))
    refine ag ?_; rfl
  ·rw [if_pos ⟨k, e⟩]
   refine aa (F := f576) rfl rfl (ah 300 _ _ _ _ ?_)
   repeat' ((conv => whnf); first | refine ba k ?_ | refine aQ e ?_ | refine aP ?_ | (refine ab ?_ ?_ <;> intro h))
   refine ag ?_; rfl
 ·by_cases e : p.asn = c.asn
  ·rw [if_neg (by simp [k]), if_pos ⟨k, e⟩]
   refine aa (F := f576) rfl rfl (ah 300 _ _ _ _ ?_)
   repeat' ((conv => whnf); first | refine aQ k ?_ | refine ba e ?_ | refine aP ?_ | (refine ab ?_ ?_ <;> intro h))
   refine ag ?_; rfl
  ·rw [if_neg (by simp [k]), if_neg (by simp [e])]
   by_cases f : p.asn = c.confed
   ·rw [if_pos f]
    refine aa (F := f576) rfl rfl (ah 300 _ _ _ _ ?_)
    repeat' ((conv => whnf); first | refine aQ k ?_ | refine aQ e ?_ | refine aP ?_ | (refine ab ?_ ?_ <;> intro h))
    refine ag ?_; rfl
   ·rw [if_neg f]
    by_cases g : p.kind = 2
    ·by_cases h : c.confed = 0
     ·rw [if_pos ⟨g, h⟩]
      refine aa (F := f576) rfl rfl (ah 300 _ _ _ _ ?_)
      repeat' ((conv => whnf); first | refine aQ k ?_ | refine aQ e ?_ | refine aP ?_ | (refine ab ?_ ?_ <;> intro h))
      refine ag ?_; rfl
     ·rw [if_neg (by simp [h])]
      refine aa (F := f576) rfl rfl (ah 300 _ _ _ _ ?_)
      repeat' ((conv => whnf); first | refine aQ k ?_ | refine aQ e ?_ | refine aP ?_ | (refine ab ?_ ?_ <;> intro h))
      refine ag ?_; rfl
    ·rw [if_neg (by simp [g])]
     refine aa (F := f576) rfl rfl (ah 300 _ _ _ _ ?_)
     repeat' ((conv => whnf); first | refine aQ k ?_ | refine aQ e ?_ | refine aP ?_ | (refine ab ?_ ?_ <;> intro h))
     refine ag ?_; rfl
end Go.AM.IR
namespace Go.AM.IR
theorem w9 (a b : Pfx) : ax G 570 [.agg a.enc, .agg b.enc] [] ⟨.bool (decide (a.addr < b.addr ∨ (a.addr = b.addr ∧ a.len < b.len))), []⟩ := by
 by_cases h : a.addr < b.addr
 ·rw [decide_eq_true (.inl h)]
  refine aa (F := f570) rfl rfl (ah 300 _ _ _ _ ?_)
  repeat' (first | refine ae ?_ | (refine ab ?_ ?_ <;> intro h))
  refine ag ?_; simp [h]
 ·by_cases e : a.addr = b.addr
  ·by_cases l : a.len < b.len
   ·rw [decide_eq_true (.inr ⟨e, l⟩)]
    refine aa (F := f570) rfl rfl (ah 300 _ _ _ _ ?_)
    repeat' (first | refine ae ?_ | (refine ab ?_ ?_ <;> intro h))
    refine ag ?_; simp [l]
   ·rw [decide_eq_false (by omega)]
    refine aa (F := f570) rfl rfl (ah 300 _ _ _ _ ?_)
    repeat' (first | refine ae ?_ | (refine ab ?_ ?_ <;> intro h))
    refine ag ?_; simp [l]
  ·rw [decide_eq_false (by omega)]
   refine aa (F := f570) rfl rfl (ah 300 _ _ _ _ ?_)
   repeat' (first | refine ae ?_ | (refine ab ?_ ?_ <;> intro h))
   refine ag ?_; simp [e]
end Go.AM.IR
