/- What the functions of this program give, on the abstract machine. -/
import Derived.Test.YtcieamgbfameoaaGreatDoorDataB
import Derived.Test.YtcieamgbfameoaaGreatDoorDataD
import Derived.Test.YtcieamgbfameoaaGreatDoorMachineC
import Derived.Test.YtcieamgbfameoaaGreatDoorDataE
set_option linter.unusedVariables false
set_option linter.unusedSimpArgs false
set_option maxHeartbeats 4000000
set_option maxRecDepth 20000
namespace Go.AM.IR
theorem awake192_gives : Gives G 192 [] [] ⟨.bool true, []⟩ := gives_run 100000 rfl rfl (by kernel_rfl)
end Go.AM.IR
set_option maxHeartbeats 4000000
set_option maxRecDepth 20000
namespace Go.AM.IR
end Go.AM.IR
set_option maxHeartbeats 4000000
set_option maxRecDepth 20000
namespace Go.AM.IR
theorem msg_small (m : PMsg) (h : bkL m.enc ≤ 1048576) : m.withdrawn.length < 2 ^ 30 ∧ m.reach.length < 2 ^ 30 ∧ (flatS m.attrs.path).length < 2 ^ 39 := by
  have h3 := len_bk Pfx.enc pfx1 m.withdrawn
  have h4 := len_bk Pfx.enc pfx1 m.reach
  have h2 := bkLL_map_le Seg.enc (fun s => s.as.length) (fun s => by have := seg_bk s; omega) m.attrs.path
  rw [← flat_len] at h2
  simp only [PMsg.enc, bkL, AV.bk] at h
  generalize bkLL (m.caps.map Cap.enc) = z1 at *
  generalize bkLL (m.withdrawn.map Pfx.enc) = z2 at *
  generalize bkLL (m.reach.map Pfx.enc) = z3 at *
  generalize bkLL (byteCells m.data) = z4 at *
  generalize bkLL (m.attrs.path.map Seg.enc) = z5 at *
  generalize bkLL (m.attrs.comms.map encU) = z6 at *
  generalize bkLL (m.attrs.clusters.map encU) = z7 at *
  generalize bkLL (m.attrs.unknown.map TLV.enc) = z8 at *
  exact ⟨by omega, by omega, by omega⟩
theorem encMR_cases (m : PMsg) (wide : Bool) : (∃ e, encMR m wide = ⟨.tup [.con (.slice none 0 0), .int .i64 e], []⟩) ∨ encMR m wide = ⟨.tup [.vs 0 0 (msgB m wide).length, .int .i64 0], [(false, .vec 1 (byteCells (msgB m wide)))]⟩ := by
  by_cases h : encE m wide = 0
  · exact .inr (encMR_zero h)
  · exact .inl ⟨_, encMR_ne rfl h⟩
theorem law350_gives (m : PMsg) (h : AM m) (ho : m.ok) (hw : m.withdrawn.length < 2 ^ 30) (hr : m.reach.length < 2 ^ 30) (hfl : (flatS m.attrs.path).length < 2 ^ 39) (wide : Bool) : Gives G 350 [.agg m.enc, .bool wide] [] ⟨.bool true, []⟩ := by
  have l1 := large_gives130 m h
  have h1 := enc_gives193 m h ho hw hr wide
  have h2 := enc_gives353 m h ho hw hr hfl wide
  have aw := awake192_gives
  rcases encMR_cases m wide with ⟨e, he⟩ | he
  · rw [he] at h1 h2
    refine gives_code (F := f350) rfl rfl (W_ok 300 _ _ _ _ ?_)
    repeat' (first | refine stpA ?_ | (refine condS ?_ ?_ <;> intro h))
    all_goals ((first | refine fin1 ?_ | refine fin0 ?_); first | rfl | simp)
  · rw [he] at h1 h2
    generalize msgB m wide = b at *
    refine gives_code (F := f350) rfl rfl (W_ok 300 _ _ _ _ ?_)
    repeat' (first | refine stpA ?_ | (refine condS ?_ ?_ <;> intro h))
    all_goals ((first | refine fin1 ?_ | refine fin0 ?_); first | rfl | simp)
theorem law350_all (ass : List (List AV)) (h : ArgsT [tMsg, .bool] ass) (hb : bkLL ass ≤ 1048576) : Gives G 350 (argsA [tMsg, .bool] ass) [] ⟨.bool true, []⟩ := by
  obtain ⟨x, s1, rfl, h1, h⟩ := argsT_cons h
  obtain ⟨y, s2, rfl, h2, h⟩ := argsT_cons h
  obtain rfl := argsT_nil h
  obtain ⟨m, rfl, ho⟩ := T_msg h1
  obtain ⟨w, rfl⟩ := h2
  simp only [bkLL] at hb
  obtain ⟨q1, q2, q3⟩ := msg_small m (by omega)
  exact law350_gives m (am_of m (by omega)) ho q1 q2 q3 w
end Go.AM.IR
