/- What the functions of this program give, on the abstract machine. -/
import Derived.Test.YtnjmnofdpmginaaDataB
set_option linter.unusedVariables false
set_option linter.unusedSimpArgs false
set_option maxHeartbeats 4000000
set_option maxRecDepth 20000
namespace Go.AM.IR
theorem sendK_gives150 (s : Ses) (now : Int) (acts : List Act) (ha : acts.length < 2 ^ 30) : Gives G 150 [.agg [.int .i64 4, .int .i64 0, .int .i64 0, .int .i64 0, .int .u32 0, nilV, nilV, .int .i64 0, nilV, .int .u32 0, .bool false, .int .i64 0, .bool false, .int .i64 0, .bool false, .bool false, .int .i64 0, .int .u32 0, nilV, .bool false, .int .u32 0, nilV, nilV, nilV, .int .i64 0, .int .i64 0, nilV], .ref 0 0 0] [.cells [.ref 1 0 0], .cells (cellsR s now (.vs 2 0 acts.length)), .vec 28 (acts.map Act.enc)] ⟨.tup [], [(true, .cells [.ref 1 0 0]), (true, .cells (cellsR s now (.vs 2 0 (acts ++ [sendA keepM]).length))), (false, .vec 28 ((acts ++ [sendA keepM]).map Act.enc))]⟩ :=
  gives_le rfl (send_gives150 s now keepM acts ha) ⟨LeP.agg (by repeat' (first | exact trivial | exact LeP.refl _ | exact LeP.nil _ | refine ⟨?_, ?_⟩)), .refl _, trivial⟩
theorem timers_nh (s : Ses) (now : Int) (acts : List Act) (ha : acts.length < 2 ^ 28) (e1 : dueS s.untl now = false) (e2 : dueS s.hold now = true) : Gives G 154 [.ref 1 0 0, .fn 150 [.ref 0 0 0]] [.cells [.ref 1 0 0], .cells (cellsR s now (.vs 2 0 acts.length)), .vec 28 (acts.map Act.enc)] (runRet3 (timersS s now acts) now false) := by
  unfold dueS at e1 e2
  have d1 := due_gives163 (s) now (s.untl) (acts)
  rw [show decide ((s.untl) ≠ 0 ∧ (s.untl) ≤ now) = false from e1] at d1
  have hA : acts.length < 2 ^ 28 + 1 := by omega
  have d2 := due_gives163 (s) now (s.hold) (acts)
  rw [show decide ((s.hold) ≠ 0 ∧ (s.hold) ≤ now) = true from e2] at d2
  have n1 := notify_gives145 4 0
  have l1 := lose_gives165 [holdM] (s) now acts (by simp; omega)
  unfold runRet at l1
  rw [show timersS s now acts = (lostS (s) now, acts ++ [sendA holdM] ++ lostA (s)) from by simp [timersS, tm1, tm3, tm4, dueS, e1, e2]]
  refine gives_code (F := f154) rfl rfl (W_ok 300 _ _ _ _ ?_)
  repeat' ((conv => whnf); first | refine wAdd ?_ | refine wQuo (by decide) ?_ | refine bslP (by first | rfl | (simp [pureL, pureLL, AV.pure]; done) | fail) rfl ?_ | refine TakeC.full (by first | rfl | omega | (simp; done) | (simp; omega) | fail) ?_ | refine zBs ?_ | refine zBn ?_ | refine zBv rfl rfl ?_ | refine zN ?_ | refine zC ?_ | refine zC4 ?_ | refine zOr16 ?_ | refine zC1 ?_ | refine zByte ?_ | refine zMaxL ?_ | refine zMaxR ?_ | refine zMinL ?_ | refine zMinR ?_ | refine zShr ?_ | refine zC8 ?_ | refine zQ ?_ | refine zR ?_ | refine zS ?_ | refine zA ?_ | refine zM ?_ | refine xr rfl ?_ | refine ai rfl ?_ | refine condT ?_ | refine condF ?_ | refine condG1 ?_ | refine condG0 ?_ | refine cD ?_ | refine dD ?_ | refine cB ?_ | refine dB ?_ | refine cN ?_ | refine dN ?_ | refine cV ?_ | refine dV ?_ | refine cE ?_ | refine dE ?_ | refine condX0 ?_ | refine condX1 ?_ | refine condNot ?_ | refine condAnd ?_ | refine condOr ?_ | refine aO ?_ | refine aB ?_ | refine aR ?_ | refine aR ?_ (by simp; omega) | refine xr (by assumption) ?_ | refine ai (by assumption) ?_ | refine kX [(1, _, _), (2, _, _)] [] ⟨rfl, rfl, trivial⟩ trivial (d1) ?_ | refine kX [(1, _, _), (2, _, _)] [] ⟨rfl, rfl, trivial⟩ trivial (d2) ?_ | refine kV (n1) ?_ | refine kX [(1, _, _), (2, _, _)] [(86, _, _)] ⟨rfl, rfl, trivial⟩ ⟨rfl, pz trivial⟩ (l1) ?_ | refine condD (fun h => ?_) (fun h => ?_) | refine condB (fun h => ?_) (fun h => ?_) | refine condN (fun h => ?_) (fun h => ?_) | refine condE (fun h => ?_) (fun h => ?_) | refine condV (fun h => ?_) (fun h => ?_))
  (conv => whnf); first | refine ev_finX [(0, _, _), (1, _, _), (2, _, _)] [] [true, true, false] (Nat.succ_pos _) ⟨rfl, rfl, rfl, trivial⟩ rfl (by repeat' (first | exact trivial | rfl | refine And.intro ?_ ?_ | (simp [pureL, pureLL, AV.pure, Blk.renS, Blk.okS, Blk.okX, AV.okS, AV.okX]; done) | omega | fail)) ⟨(by first | rfl | exact (decide_eq_false (by omega)).symm), (by first | rfl | exact (decide_eq_false (by omega)).symm), (by first | rfl | exact (decide_eq_false (by omega)).symm), trivial⟩ ⟨rfl, (by repeat' (first | exact trivial | rfl | refine And.intro ?_ ?_ | (simp [pureL, pureLL, AV.pure, Blk.renS, Blk.okS, Blk.okX, AV.okS, AV.okX]; done) | omega | fail)), ?_⟩ | refine ev_finX0 [(0, _, _), (1, _, _), (2, _, _)] [] [true, true, false] (Nat.succ_pos _) ⟨rfl, rfl, rfl, trivial⟩ rfl (by repeat' (first | exact trivial | rfl | refine And.intro ?_ ?_ | (simp [pureL, pureLL, AV.pure, Blk.renS, Blk.okS, Blk.okX, AV.okS, AV.okX]; done) | omega | fail)) ⟨(by first | rfl | exact (decide_eq_false (by omega)).symm), (by first | rfl | exact (decide_eq_false (by omega)).symm), (by first | rfl | exact (decide_eq_false (by omega)).symm), trivial⟩ ⟨rfl, (by repeat' (first | exact trivial | rfl | refine And.intro ?_ ?_ | (simp [pureL, pureLL, AV.pure, Blk.renS, Blk.okS, Blk.okX, AV.okS, AV.okX]; done) | omega | fail)), ?_⟩
  rfl
theorem timers_nnr (s : Ses) (now : Int) (acts : List Act) (ha : acts.length < 2 ^ 28) (e1 : dueS s.untl now = false) (e2 : dueS s.hold now = false) (e3 : dueS s.keep now = false) (e4 : dueS s.retry now = true) : Gives G 154 [.ref 1 0 0, .fn 150 [.ref 0 0 0]] [.cells [.ref 1 0 0], .cells (cellsR s now (.vs 2 0 acts.length)), .vec 28 (acts.map Act.enc)] (runRet3 (timersS s now acts) now false) := by
  unfold dueS at e1 e2 e3 e4
  have d1 := due_gives163 (s) now (s.untl) (acts)
  rw [show decide ((s.untl) ≠ 0 ∧ (s.untl) ≤ now) = false from e1] at d1
  have hA : acts.length < 2 ^ 28 + 1 := by omega
  have d2 := due_gives163 (s) now (s.hold) (acts)
  rw [show decide ((s.hold) ≠ 0 ∧ (s.hold) ≤ now) = false from e2] at d2
  have d3 := due_gives163 (s) now (s.keep) (acts)
  rw [show decide ((s.keep) ≠ 0 ∧ (s.keep) ≤ now) = false from e3] at d3
  have hB : acts.length < 2 ^ 28 + 2 := by omega
  have d4 := due_gives163 (s) now (s.retry) (acts)
  rw [show decide ((s.retry) ≠ 0 ∧ (s.retry) ≤ now) = true from e4] at d4
  have o1 := do_gives151 (s) now 1 acts (by omega)
  generalize hC1 : acts ++ [act0 1] = C at *
  rw [show timersS s now acts = ({ s with retry := wr (now + 30) }, C) from by simp [timersS, tm1, tm3, tm4, dueS, e1, e2, e3, e4, ← hC1]]
  refine gives_code (F := f154) rfl rfl (W_ok 300 _ _ _ _ ?_)
  repeat' ((conv => whnf); first | refine wAdd ?_ | refine wQuo (by decide) ?_ | refine bslP (by first | rfl | (simp [pureL, pureLL, AV.pure]; done) | fail) rfl ?_ | refine TakeC.full (by first | rfl | omega | (simp; done) | (simp; omega) | fail) ?_ | refine zBs ?_ | refine zBn ?_ | refine zBv rfl rfl ?_ | refine zN ?_ | refine zC ?_ | refine zC4 ?_ | refine zOr16 ?_ | refine zC1 ?_ | refine zByte ?_ | refine zMaxL ?_ | refine zMaxR ?_ | refine zMinL ?_ | refine zMinR ?_ | refine zShr ?_ | refine zC8 ?_ | refine zQ ?_ | refine zR ?_ | refine zS ?_ | refine zA ?_ | refine zM ?_ | refine xr rfl ?_ | refine ai rfl ?_ | refine condT ?_ | refine condF ?_ | refine condG1 ?_ | refine condG0 ?_ | refine cD ?_ | refine dD ?_ | refine cB ?_ | refine dB ?_ | refine cN ?_ | refine dN ?_ | refine cV ?_ | refine dV ?_ | refine cE ?_ | refine dE ?_ | refine condX0 ?_ | refine condX1 ?_ | refine condNot ?_ | refine condAnd ?_ | refine condOr ?_ | refine aO ?_ | refine aB ?_ | refine aR ?_ | refine aR ?_ (by simp; omega) | refine xr (by assumption) ?_ | refine ai (by assumption) ?_ | refine kX [(1, _, _), (2, _, _)] [] ⟨rfl, rfl, trivial⟩ trivial (d1) ?_ | refine kX [(1, _, _), (2, _, _)] [] ⟨rfl, rfl, trivial⟩ trivial (d2) ?_ | refine kX [(1, _, _), (2, _, _)] [] ⟨rfl, rfl, trivial⟩ trivial (d3) ?_ | refine kX [(1, _, _), (2, _, _)] [] ⟨rfl, rfl, trivial⟩ trivial (d4) ?_ | refine kX [(1, _, _), (2, _, _)] [] ⟨rfl, rfl, trivial⟩ trivial (o1) ?_ | refine condD (fun h => ?_) (fun h => ?_) | refine condB (fun h => ?_) (fun h => ?_) | refine condN (fun h => ?_) (fun h => ?_) | refine condE (fun h => ?_) (fun h => ?_) | refine condV (fun h => ?_) (fun h => ?_))
  (conv => whnf); first | refine ev_finX [(0, _, _), (1, _, _), (2, _, _)] [] [true, true, false] (Nat.succ_pos _) ⟨rfl, rfl, rfl, trivial⟩ rfl (by repeat' (first | exact trivial | rfl | refine And.intro ?_ ?_ | (simp [pureL, pureLL, AV.pure, Blk.renS, Blk.okS, Blk.okX, AV.okS, AV.okX]; done) | omega | fail)) ⟨(by first | rfl | exact (decide_eq_false (by omega)).symm), (by first | rfl | exact (decide_eq_false (by omega)).symm), (by first | rfl | exact (decide_eq_false (by omega)).symm), trivial⟩ ⟨rfl, (by repeat' (first | exact trivial | rfl | refine And.intro ?_ ?_ | (simp [pureL, pureLL, AV.pure, Blk.renS, Blk.okS, Blk.okX, AV.okS, AV.okX]; done) | omega | fail)), ?_⟩ | refine ev_finX0 [(0, _, _), (1, _, _), (2, _, _)] [] [true, true, false] (Nat.succ_pos _) ⟨rfl, rfl, rfl, trivial⟩ rfl (by repeat' (first | exact trivial | rfl | refine And.intro ?_ ?_ | (simp [pureL, pureLL, AV.pure, Blk.renS, Blk.okS, Blk.okX, AV.okS, AV.okX]; done) | omega | fail)) ⟨(by first | rfl | exact (decide_eq_false (by omega)).symm), (by first | rfl | exact (decide_eq_false (by omega)).symm), (by first | rfl | exact (decide_eq_false (by omega)).symm), trivial⟩ ⟨rfl, (by repeat' (first | exact trivial | rfl | refine And.intro ?_ ?_ | (simp [pureL, pureLL, AV.pure, Blk.renS, Blk.okS, Blk.okX, AV.okS, AV.okX]; done) | omega | fail)), ?_⟩
  rfl
theorem timers_nkn (s : Ses) (now : Int) (acts : List Act) (ha : acts.length < 2 ^ 28) (e1 : dueS s.untl now = false) (e2 : dueS s.hold now = false) (e3 : dueS s.keep now = true) (e4 : dueS s.retry now = false) : Gives G 154 [.ref 1 0 0, .fn 150 [.ref 0 0 0]] [.cells [.ref 1 0 0], .cells (cellsR s now (.vs 2 0 acts.length)), .vec 28 (acts.map Act.enc)] (runRet3 (timersS s now acts) now false) := by
  unfold dueS at e1 e2 e3 e4
  have d1 := due_gives163 (s) now (s.untl) (acts)
  rw [show decide ((s.untl) ≠ 0 ∧ (s.untl) ≤ now) = false from e1] at d1
  have hA : acts.length < 2 ^ 28 + 1 := by omega
  have d2 := due_gives163 (s) now (s.hold) (acts)
  rw [show decide ((s.hold) ≠ 0 ∧ (s.hold) ≤ now) = false from e2] at d2
  have d3 := due_gives163 (s) now (s.keep) (acts)
  rw [show decide ((s.keep) ≠ 0 ∧ (s.keep) ≤ now) = true from e3] at d3
  have k1 := sendK_gives150 (s) now (acts) (by omega)
  have hB : (acts ++ [sendA keepM]).length < 2 ^ 28 + 2 := by simp; omega
  generalize hB1 : acts ++ [sendA keepM] = B at *
  have d4 := due_gives163 ({ s with keep := wr (now + wr (s.holdTime.tdiv 3)) }) now (s.retry) (B)
  rw [show decide ((s.retry) ≠ 0 ∧ (s.retry) ≤ now) = false from e4] at d4
  rw [show timersS s now acts = ({ s with keep := wr (now + wr (s.holdTime.tdiv 3)) }, B) from by simp [timersS, tm1, tm3, tm4, dueS, e1, e2, e3, e4, ← hB1]]
  refine gives_code (F := f154) rfl rfl (W_ok 300 _ _ _ _ ?_)
  repeat' ((conv => whnf); first | refine wAdd ?_ | refine wQuo (by decide) ?_ | refine bslP (by first | rfl | (simp [pureL, pureLL, AV.pure]; done) | fail) rfl ?_ | refine TakeC.full (by first | rfl | omega | (simp; done) | (simp; omega) | fail) ?_ | refine zBs ?_ | refine zBn ?_ | refine zBv rfl rfl ?_ | refine zN ?_ | refine zC ?_ | refine zC4 ?_ | refine zOr16 ?_ | refine zC1 ?_ | refine zByte ?_ | refine zMaxL ?_ | refine zMaxR ?_ | refine zMinL ?_ | refine zMinR ?_ | refine zShr ?_ | refine zC8 ?_ | refine zQ ?_ | refine zR ?_ | refine zS ?_ | refine zA ?_ | refine zM ?_ | refine xr rfl ?_ | refine ai rfl ?_ | refine condT ?_ | refine condF ?_ | refine condG1 ?_ | refine condG0 ?_ | refine cD ?_ | refine dD ?_ | refine cB ?_ | refine dB ?_ | refine cN ?_ | refine dN ?_ | refine cV ?_ | refine dV ?_ | refine cE ?_ | refine dE ?_ | refine condX0 ?_ | refine condX1 ?_ | refine condNot ?_ | refine condAnd ?_ | refine condOr ?_ | refine aO ?_ | refine aB ?_ | refine aR ?_ | refine aR ?_ (by simp; omega) | refine xr (by assumption) ?_ | refine ai (by assumption) ?_ | refine kX [(1, _, _), (2, _, _)] [] ⟨rfl, rfl, trivial⟩ trivial (d1) ?_ | refine kX [(1, _, _), (2, _, _)] [] ⟨rfl, rfl, trivial⟩ trivial (d2) ?_ | refine kX [(1, _, _), (2, _, _)] [] ⟨rfl, rfl, trivial⟩ trivial (d3) ?_ | refine kX [(0, _, _), (1, _, _), (2, _, _)] [] ⟨rfl, rfl, rfl, trivial⟩ trivial (k1) ?_ | refine kX [(1, _, _), (2, _, _)] [] ⟨rfl, rfl, trivial⟩ trivial (d4) ?_ | refine condD (fun h => ?_) (fun h => ?_) | refine condB (fun h => ?_) (fun h => ?_) | refine condN (fun h => ?_) (fun h => ?_) | refine condE (fun h => ?_) (fun h => ?_) | refine condV (fun h => ?_) (fun h => ?_))
  (conv => whnf); first | refine ev_finX [(0, _, _), (1, _, _), (2, _, _)] [] [true, true, false] (Nat.succ_pos _) ⟨rfl, rfl, rfl, trivial⟩ rfl (by repeat' (first | exact trivial | rfl | refine And.intro ?_ ?_ | (simp [pureL, pureLL, AV.pure, Blk.renS, Blk.okS, Blk.okX, AV.okS, AV.okX]; done) | omega | fail)) ⟨(by first | rfl | exact (decide_eq_false (by omega)).symm), (by first | rfl | exact (decide_eq_false (by omega)).symm), (by first | rfl | exact (decide_eq_false (by omega)).symm), trivial⟩ ⟨rfl, (by repeat' (first | exact trivial | rfl | refine And.intro ?_ ?_ | (simp [pureL, pureLL, AV.pure, Blk.renS, Blk.okS, Blk.okX, AV.okS, AV.okX]; done) | omega | fail)), ?_⟩ | refine ev_finX0 [(0, _, _), (1, _, _), (2, _, _)] [] [true, true, false] (Nat.succ_pos _) ⟨rfl, rfl, rfl, trivial⟩ rfl (by repeat' (first | exact trivial | rfl | refine And.intro ?_ ?_ | (simp [pureL, pureLL, AV.pure, Blk.renS, Blk.okS, Blk.okX, AV.okS, AV.okX]; done) | omega | fail)) ⟨(by first | rfl | exact (decide_eq_false (by omega)).symm), (by first | rfl | exact (decide_eq_false (by omega)).symm), (by first | rfl | exact (decide_eq_false (by omega)).symm), trivial⟩ ⟨rfl, (by repeat' (first | exact trivial | rfl | refine And.intro ?_ ?_ | (simp [pureL, pureLL, AV.pure, Blk.renS, Blk.okS, Blk.okX, AV.okS, AV.okX]; done) | omega | fail)), ?_⟩
  rfl
theorem timers_nkr (s : Ses) (now : Int) (acts : List Act) (ha : acts.length < 2 ^ 28) (e1 : dueS s.untl now = false) (e2 : dueS s.hold now = false) (e3 : dueS s.keep now = true) (e4 : dueS s.retry now = true) : Gives G 154 [.ref 1 0 0, .fn 150 [.ref 0 0 0]] [.cells [.ref 1 0 0], .cells (cellsR s now (.vs 2 0 acts.length)), .vec 28 (acts.map Act.enc)] (runRet3 (timersS s now acts) now false) := by
  unfold dueS at e1 e2 e3 e4
  have d1 := due_gives163 (s) now (s.untl) (acts)
  rw [show decide ((s.untl) ≠ 0 ∧ (s.untl) ≤ now) = false from e1] at d1
  have hA : acts.length < 2 ^ 28 + 1 := by omega
  have d2 := due_gives163 (s) now (s.hold) (acts)
  rw [show decide ((s.hold) ≠ 0 ∧ (s.hold) ≤ now) = false from e2] at d2
  have d3 := due_gives163 (s) now (s.keep) (acts)
  rw [show decide ((s.keep) ≠ 0 ∧ (s.keep) ≤ now) = true from e3] at d3
  have k1 := sendK_gives150 (s) now (acts) (by omega)
  have hB : (acts ++ [sendA keepM]).length < 2 ^ 28 + 2 := by simp; omega
  generalize hB1 : acts ++ [sendA keepM] = B at *
  have d4 := due_gives163 ({ s with keep := wr (now + wr (s.holdTime.tdiv 3)) }) now (s.retry) (B)
  rw [show decide ((s.retry) ≠ 0 ∧ (s.retry) ≤ now) = true from e4] at d4
  have o1 := do_gives151 ({ s with keep := wr (now + wr (s.holdTime.tdiv 3)) }) now 1 B (by omega)
  generalize hC1 : B ++ [act0 1] = C at *
  rw [show timersS s now acts = ({ s with keep := wr (now + wr (s.holdTime.tdiv 3)), retry := wr (now + 30) }, C) from by simp [timersS, tm1, tm3, tm4, dueS, e1, e2, e3, e4, ← hB1, ← hC1]]
  refine gives_code (F := f154) rfl rfl (W_ok 300 _ _ _ _ ?_)
  repeat' ((conv => whnf); first | refine wAdd ?_ | refine wQuo (by decide) ?_ | refine bslP (by first | rfl | (simp [pureL, pureLL, AV.pure]; done) | fail) rfl ?_ | refine TakeC.full (by first | rfl | omega | (simp; done) | (simp; omega) | fail) ?_ | refine zBs ?_ | refine zBn ?_ | refine zBv rfl rfl ?_ | refine zN ?_ | refine zC ?_ | refine zC4 ?_ | refine zOr16 ?_ | refine zC1 ?_ | refine zByte ?_ | refine zMaxL ?_ | refine zMaxR ?_ | refine zMinL ?_ | refine zMinR ?_ | refine zShr ?_ | refine zC8 ?_ | refine zQ ?_ | refine zR ?_ | refine zS ?_ | refine zA ?_ | refine zM ?_ | refine xr rfl ?_ | refine ai rfl ?_ | refine condT ?_ | refine condF ?_ | refine condG1 ?_ | refine condG0 ?_ | refine cD ?_ | refine dD ?_ | refine cB ?_ | refine dB ?_ | refine cN ?_ | refine dN ?_ | refine cV ?_ | refine dV ?_ | refine cE ?_ | refine dE ?_ | refine condX0 ?_ | refine condX1 ?_ | refine condNot ?_ | refine condAnd ?_ | refine condOr ?_ | refine aO ?_ | refine aB ?_ | refine aR ?_ | refine aR ?_ (by simp; omega) | refine xr (by assumption) ?_ | refine ai (by assumption) ?_ | refine kX [(1, _, _), (2, _, _)] [] ⟨rfl, rfl, trivial⟩ trivial (d1) ?_ | refine kX [(1, _, _), (2, _, _)] [] ⟨rfl, rfl, trivial⟩ trivial (d2) ?_ | refine kX [(1, _, _), (2, _, _)] [] ⟨rfl, rfl, trivial⟩ trivial (d3) ?_ | refine kX [(0, _, _), (1, _, _), (2, _, _)] [] ⟨rfl, rfl, rfl, trivial⟩ trivial (k1) ?_ | refine kX [(1, _, _), (2, _, _)] [] ⟨rfl, rfl, trivial⟩ trivial (d4) ?_ | refine kX [(1, _, _), (2, _, _)] [] ⟨rfl, rfl, trivial⟩ trivial (o1) ?_ | refine condD (fun h => ?_) (fun h => ?_) | refine condB (fun h => ?_) (fun h => ?_) | refine condN (fun h => ?_) (fun h => ?_) | refine condE (fun h => ?_) (fun h => ?_) | refine condV (fun h => ?_) (fun h => ?_))
  (conv => whnf); first | refine ev_finX [(0, _, _), (1, _, _), (2, _, _)] [] [true, true, false] (Nat.succ_pos _) ⟨rfl, rfl, rfl, trivial⟩ rfl (by repeat' (first | exact trivial | rfl | refine And.intro ?_ ?_ | (simp [pureL, pureLL, AV.pure, Blk.renS, Blk.okS, Blk.okX, AV.okS, AV.okX]; done) | omega | fail)) ⟨(by first | rfl | exact (decide_eq_false (by omega)).symm), (by first | rfl | exact (decide_eq_false (by omega)).symm), (by first | rfl | exact (decide_eq_false (by omega)).symm), trivial⟩ ⟨rfl, (by repeat' (first | exact trivial | rfl | refine And.intro ?_ ?_ | (simp [pureL, pureLL, AV.pure, Blk.renS, Blk.okS, Blk.okX, AV.okS, AV.okX]; done) | omega | fail)), ?_⟩ | refine ev_finX0 [(0, _, _), (1, _, _), (2, _, _)] [] [true, true, false] (Nat.succ_pos _) ⟨rfl, rfl, rfl, trivial⟩ rfl (by repeat' (first | exact trivial | rfl | refine And.intro ?_ ?_ | (simp [pureL, pureLL, AV.pure, Blk.renS, Blk.okS, Blk.okX, AV.okS, AV.okX]; done) | omega | fail)) ⟨(by first | rfl | exact (decide_eq_false (by omega)).symm), (by first | rfl | exact (decide_eq_false (by omega)).symm), (by first | rfl | exact (decide_eq_false (by omega)).symm), trivial⟩ ⟨rfl, (by repeat' (first | exact trivial | rfl | refine And.intro ?_ ?_ | (simp [pureL, pureLL, AV.pure, Blk.renS, Blk.okS, Blk.okX, AV.okS, AV.okX]; done) | omega | fail)), ?_⟩
  rfl
theorem timers_uh (s : Ses) (now : Int) (acts : List Act) (ha : acts.length < 2 ^ 28) (e1 : dueS s.untl now = true) (e2 : dueS s.hold now = true) : Gives G 154 [.ref 1 0 0, .fn 150 [.ref 0 0 0]] [.cells [.ref 1 0 0], .cells (cellsR s now (.vs 2 0 acts.length)), .vec 28 (acts.map Act.enc)] (runRet3 (timersS s now acts) now false) := by
  unfold dueS at e1 e2
  have d1 := due_gives163 (s) now (s.untl) (acts)
  rw [show decide ((s.untl) ≠ 0 ∧ (s.untl) ≤ now) = true from e1] at d1
  have w1 := sweep_gives164 s now acts (by omega)
  have hA : (acts ++ [act0 7]).length < 2 ^ 28 + 1 := by simp; omega
  generalize hA1 : acts ++ [act0 7] = A at *
  have d2 := due_gives163 ({ s with untl := 0 }) now (s.hold) (A)
  rw [show decide ((s.hold) ≠ 0 ∧ (s.hold) ≤ now) = true from e2] at d2
  have n1 := notify_gives145 4 0
  have l1 := lose_gives165 [holdM] ({ s with untl := 0 }) now A (by simp; omega)
  unfold runRet at l1
  rw [show timersS s now acts = (lostS ({ s with untl := 0 }) now, A ++ [sendA holdM] ++ lostA ({ s with untl := 0 })) from by simp [timersS, tm1, tm3, tm4, dueS, e1, e2, ← hA1]]
  refine gives_code (F := f154) rfl rfl (W_ok 300 _ _ _ _ ?_)
  repeat' ((conv => whnf); first | refine wAdd ?_ | refine wQuo (by decide) ?_ | refine bslP (by first | rfl | (simp [pureL, pureLL, AV.pure]; done) | fail) rfl ?_ | refine TakeC.full (by first | rfl | omega | (simp; done) | (simp; omega) | fail) ?_ | refine zBs ?_ | refine zBn ?_ | refine zBv rfl rfl ?_ | refine zN ?_ | refine zC ?_ | refine zC4 ?_ | refine zOr16 ?_ | refine zC1 ?_ | refine zByte ?_ | refine zMaxL ?_ | refine zMaxR ?_ | refine zMinL ?_ | refine zMinR ?_ | refine zShr ?_ | refine zC8 ?_ | refine zQ ?_ | refine zR ?_ | refine zS ?_ | refine zA ?_ | refine zM ?_ | refine xr rfl ?_ | refine ai rfl ?_ | refine condT ?_ | refine condF ?_ | refine condG1 ?_ | refine condG0 ?_ | refine cD ?_ | refine dD ?_ | refine cB ?_ | refine dB ?_ | refine cN ?_ | refine dN ?_ | refine cV ?_ | refine dV ?_ | refine cE ?_ | refine dE ?_ | refine condX0 ?_ | refine condX1 ?_ | refine condNot ?_ | refine condAnd ?_ | refine condOr ?_ | refine aO ?_ | refine aB ?_ | refine aR ?_ | refine aR ?_ (by simp; omega) | refine xr (by assumption) ?_ | refine ai (by assumption) ?_ | refine kX [(1, _, _), (2, _, _)] [] ⟨rfl, rfl, trivial⟩ trivial (d1) ?_ | refine kX [(1, _, _), (2, _, _)] [] ⟨rfl, rfl, trivial⟩ trivial (w1) ?_ | refine kX [(1, _, _), (2, _, _)] [] ⟨rfl, rfl, trivial⟩ trivial (d2) ?_ | refine kV (n1) ?_ | refine kX [(1, _, _), (2, _, _)] [(86, _, _)] ⟨rfl, rfl, trivial⟩ ⟨rfl, pz trivial⟩ (l1) ?_ | refine condD (fun h => ?_) (fun h => ?_) | refine condB (fun h => ?_) (fun h => ?_) | refine condN (fun h => ?_) (fun h => ?_) | refine condE (fun h => ?_) (fun h => ?_) | refine condV (fun h => ?_) (fun h => ?_))
  (conv => whnf); first | refine ev_finX [(0, _, _), (1, _, _), (2, _, _)] [] [true, true, false] (Nat.succ_pos _) ⟨rfl, rfl, rfl, trivial⟩ rfl (by repeat' (first | exact trivial | rfl | refine And.intro ?_ ?_ | (simp [pureL, pureLL, AV.pure, Blk.renS, Blk.okS, Blk.okX, AV.okS, AV.okX]; done) | omega | fail)) ⟨(by first | rfl | exact (decide_eq_false (by omega)).symm), (by first | rfl | exact (decide_eq_false (by omega)).symm), (by first | rfl | exact (decide_eq_false (by omega)).symm), trivial⟩ ⟨rfl, (by repeat' (first | exact trivial | rfl | refine And.intro ?_ ?_ | (simp [pureL, pureLL, AV.pure, Blk.renS, Blk.okS, Blk.okX, AV.okS, AV.okX]; done) | omega | fail)), ?_⟩ | refine ev_finX0 [(0, _, _), (1, _, _), (2, _, _)] [] [true, true, false] (Nat.succ_pos _) ⟨rfl, rfl, rfl, trivial⟩ rfl (by repeat' (first | exact trivial | rfl | refine And.intro ?_ ?_ | (simp [pureL, pureLL, AV.pure, Blk.renS, Blk.okS, Blk.okX, AV.okS, AV.okX]; done) | omega | fail)) ⟨(by first | rfl | exact (decide_eq_false (by omega)).symm), (by first | rfl | exact (decide_eq_false (by omega)).symm), (by first | rfl | exact (decide_eq_false (by omega)).symm), trivial⟩ ⟨rfl, (by repeat' (first | exact trivial | rfl | refine And.intro ?_ ?_ | (simp [pureL, pureLL, AV.pure, Blk.renS, Blk.okS, Blk.okX, AV.okS, AV.okX]; done) | omega | fail)), ?_⟩
  rfl
theorem timers_unn (s : Ses) (now : Int) (acts : List Act) (ha : acts.length < 2 ^ 28) (e1 : dueS s.untl now = true) (e2 : dueS s.hold now = false) (e3 : dueS s.keep now = false) (e4 : dueS s.retry now = false) : Gives G 154 [.ref 1 0 0, .fn 150 [.ref 0 0 0]] [.cells [.ref 1 0 0], .cells (cellsR s now (.vs 2 0 acts.length)), .vec 28 (acts.map Act.enc)] (runRet3 (timersS s now acts) now false) := by
  unfold dueS at e1 e2 e3 e4
  have d1 := due_gives163 (s) now (s.untl) (acts)
  rw [show decide ((s.untl) ≠ 0 ∧ (s.untl) ≤ now) = true from e1] at d1
  have w1 := sweep_gives164 s now acts (by omega)
  have hA : (acts ++ [act0 7]).length < 2 ^ 28 + 1 := by simp; omega
  generalize hA1 : acts ++ [act0 7] = A at *
  have d2 := due_gives163 ({ s with untl := 0 }) now (s.hold) (A)
  rw [show decide ((s.hold) ≠ 0 ∧ (s.hold) ≤ now) = false from e2] at d2
  have d3 := due_gives163 ({ s with untl := 0 }) now (s.keep) (A)
  rw [show decide ((s.keep) ≠ 0 ∧ (s.keep) ≤ now) = false from e3] at d3
  have hB : A.length < 2 ^ 28 + 2 := by omega
  have d4 := due_gives163 ({ s with untl := 0 }) now (s.retry) (A)
  rw [show decide ((s.retry) ≠ 0 ∧ (s.retry) ≤ now) = false from e4] at d4
  rw [show timersS s now acts = ({ s with untl := 0 }, A) from by simp [timersS, tm1, tm3, tm4, dueS, e1, e2, e3, e4, ← hA1]]
  refine gives_code (F := f154) rfl rfl (W_ok 300 _ _ _ _ ?_)
  repeat' ((conv => whnf); first | refine wAdd ?_ | refine wQuo (by decide) ?_ | refine bslP (by first | rfl | (simp [pureL, pureLL, AV.pure]; done) | fail) rfl ?_ | refine TakeC.full (by first | rfl | omega | (simp; done) | (simp; omega) | fail) ?_ | refine zBs ?_ | refine zBn ?_ | refine zBv rfl rfl ?_ | refine zN ?_ | refine zC ?_ | refine zC4 ?_ | refine zOr16 ?_ | refine zC1 ?_ | refine zByte ?_ | refine zMaxL ?_ | refine zMaxR ?_ | refine zMinL ?_ | refine zMinR ?_ | refine zShr ?_ | refine zC8 ?_ | refine zQ ?_ | refine zR ?_ | refine zS ?_ | refine zA ?_ | refine zM ?_ | refine xr rfl ?_ | refine ai rfl ?_ | refine condT ?_ | refine condF ?_ | refine condG1 ?_ | refine condG0 ?_ | refine cD ?_ | refine dD ?_ | refine cB ?_ | refine dB ?_ | refine cN ?_ | refine dN ?_ | refine cV ?_ | refine dV ?_ | refine cE ?_ | refine dE ?_ | refine condX0 ?_ | refine condX1 ?_ | refine condNot ?_ | refine condAnd ?_ | refine condOr ?_ | refine aO ?_ | refine aB ?_ | refine aR ?_ | refine aR ?_ (by simp; omega) | refine xr (by assumption) ?_ | refine ai (by assumption) ?_ | refine kX [(1, _, _), (2, _, _)] [] ⟨rfl, rfl, trivial⟩ trivial (d1) ?_ | refine kX [(1, _, _), (2, _, _)] [] ⟨rfl, rfl, trivial⟩ trivial (w1) ?_ | refine kX [(1, _, _), (2, _, _)] [] ⟨rfl, rfl, trivial⟩ trivial (d2) ?_ | refine kX [(1, _, _), (2, _, _)] [] ⟨rfl, rfl, trivial⟩ trivial (d3) ?_ | refine kX [(1, _, _), (2, _, _)] [] ⟨rfl, rfl, trivial⟩ trivial (d4) ?_ | refine condD (fun h => ?_) (fun h => ?_) | refine condB (fun h => ?_) (fun h => ?_) | refine condN (fun h => ?_) (fun h => ?_) | refine condE (fun h => ?_) (fun h => ?_) | refine condV (fun h => ?_) (fun h => ?_))
  (conv => whnf); first | refine ev_finX [(0, _, _), (1, _, _), (2, _, _)] [] [true, true, false] (Nat.succ_pos _) ⟨rfl, rfl, rfl, trivial⟩ rfl (by repeat' (first | exact trivial | rfl | refine And.intro ?_ ?_ | (simp [pureL, pureLL, AV.pure, Blk.renS, Blk.okS, Blk.okX, AV.okS, AV.okX]; done) | omega | fail)) ⟨(by first | rfl | exact (decide_eq_false (by omega)).symm), (by first | rfl | exact (decide_eq_false (by omega)).symm), (by first | rfl | exact (decide_eq_false (by omega)).symm), trivial⟩ ⟨rfl, (by repeat' (first | exact trivial | rfl | refine And.intro ?_ ?_ | (simp [pureL, pureLL, AV.pure, Blk.renS, Blk.okS, Blk.okX, AV.okS, AV.okX]; done) | omega | fail)), ?_⟩ | refine ev_finX0 [(0, _, _), (1, _, _), (2, _, _)] [] [true, true, false] (Nat.succ_pos _) ⟨rfl, rfl, rfl, trivial⟩ rfl (by repeat' (first | exact trivial | rfl | refine And.intro ?_ ?_ | (simp [pureL, pureLL, AV.pure, Blk.renS, Blk.okS, Blk.okX, AV.okS, AV.okX]; done) | omega | fail)) ⟨(by first | rfl | exact (decide_eq_false (by omega)).symm), (by first | rfl | exact (decide_eq_false (by omega)).symm), (by first | rfl | exact (decide_eq_false (by omega)).symm), trivial⟩ ⟨rfl, (by repeat' (first | exact trivial | rfl | refine And.intro ?_ ?_ | (simp [pureL, pureLL, AV.pure, Blk.renS, Blk.okS, Blk.okX, AV.okS, AV.okX]; done) | omega | fail)), ?_⟩
  rfl
theorem timers_unr (s : Ses) (now : Int) (acts : List Act) (ha : acts.length < 2 ^ 28) (e1 : dueS s.untl now = true) (e2 : dueS s.hold now = false) (e3 : dueS s.keep now = false) (e4 : dueS s.retry now = true) : Gives G 154 [.ref 1 0 0, .fn 150 [.ref 0 0 0]] [.cells [.ref 1 0 0], .cells (cellsR s now (.vs 2 0 acts.length)), .vec 28 (acts.map Act.enc)] (runRet3 (timersS s now acts) now false) := by
  unfold dueS at e1 e2 e3 e4
  have d1 := due_gives163 (s) now (s.untl) (acts)
  rw [show decide ((s.untl) ≠ 0 ∧ (s.untl) ≤ now) = true from e1] at d1
  have w1 := sweep_gives164 s now acts (by omega)
  have hA : (acts ++ [act0 7]).length < 2 ^ 28 + 1 := by simp; omega
  generalize hA1 : acts ++ [act0 7] = A at *
  have d2 := due_gives163 ({ s with untl := 0 }) now (s.hold) (A)
  rw [show decide ((s.hold) ≠ 0 ∧ (s.hold) ≤ now) = false from e2] at d2
  have d3 := due_gives163 ({ s with untl := 0 }) now (s.keep) (A)
  rw [show decide ((s.keep) ≠ 0 ∧ (s.keep) ≤ now) = false from e3] at d3
  have hB : A.length < 2 ^ 28 + 2 := by omega
  have d4 := due_gives163 ({ s with untl := 0 }) now (s.retry) (A)
  rw [show decide ((s.retry) ≠ 0 ∧ (s.retry) ≤ now) = true from e4] at d4
  have o1 := do_gives151 ({ s with untl := 0 }) now 1 A (by omega)
  generalize hC1 : A ++ [act0 1] = C at *
  rw [show timersS s now acts = ({ s with untl := 0, retry := wr (now + 30) }, C) from by simp [timersS, tm1, tm3, tm4, dueS, e1, e2, e3, e4, ← hA1, ← hC1]]
  refine gives_code (F := f154) rfl rfl (W_ok 300 _ _ _ _ ?_)
  repeat' ((conv => whnf); first | refine wAdd ?_ | refine wQuo (by decide) ?_ | refine bslP (by first | rfl | (simp [pureL, pureLL, AV.pure]; done) | fail) rfl ?_ | refine TakeC.full (by first | rfl | omega | (simp; done) | (simp; omega) | fail) ?_ | refine zBs ?_ | refine zBn ?_ | refine zBv rfl rfl ?_ | refine zN ?_ | refine zC ?_ | refine zC4 ?_ | refine zOr16 ?_ | refine zC1 ?_ | refine zByte ?_ | refine zMaxL ?_ | refine zMaxR ?_ | refine zMinL ?_ | refine zMinR ?_ | refine zShr ?_ | refine zC8 ?_ | refine zQ ?_ | refine zR ?_ | refine zS ?_ | refine zA ?_ | refine zM ?_ | refine xr rfl ?_ | refine ai rfl ?_ | refine condT ?_ | refine condF ?_ | refine condG1 ?_ | refine condG0 ?_ | refine cD ?_ | refine dD ?_ | refine cB ?_ | refine dB ?_ | refine cN ?_ | refine dN ?_ | refine cV ?_ | refine dV ?_ | refine cE ?_ | refine dE ?_ | refine condX0 ?_ | refine condX1 ?_ | refine condNot ?_ | refine condAnd ?_ | refine condOr ?_ | refine aO ?_ | refine aB ?_ | refine aR ?_ | refine aR ?_ (by simp; omega) | refine xr (by assumption) ?_ | refine ai (by assumption) ?_ | refine kX [(1, _, _), (2, _, _)] [] ⟨rfl, rfl, trivial⟩ trivial (d1) ?_ | refine kX [(1, _, _), (2, _, _)] [] ⟨rfl, rfl, trivial⟩ trivial (w1) ?_ | refine kX [(1, _, _), (2, _, _)] [] ⟨rfl, rfl, trivial⟩ trivial (d2) ?_ | refine kX [(1, _, _), (2, _, _)] [] ⟨rfl, rfl, trivial⟩ trivial (d3) ?_ | refine kX [(1, _, _), (2, _, _)] [] ⟨rfl, rfl, trivial⟩ trivial (d4) ?_ | refine kX [(1, _, _), (2, _, _)] [] ⟨rfl, rfl, trivial⟩ trivial (o1) ?_ | refine condD (fun h => ?_) (fun h => ?_) | refine condB (fun h => ?_) (fun h => ?_) | refine condN (fun h => ?_) (fun h => ?_) | refine condE (fun h => ?_) (fun h => ?_) | refine condV (fun h => ?_) (fun h => ?_))
  (conv => whnf); first | refine ev_finX [(0, _, _), (1, _, _), (2, _, _)] [] [true, true, false] (Nat.succ_pos _) ⟨rfl, rfl, rfl, trivial⟩ rfl (by repeat' (first | exact trivial | rfl | refine And.intro ?_ ?_ | (simp [pureL, pureLL, AV.pure, Blk.renS, Blk.okS, Blk.okX, AV.okS, AV.okX]; done) | omega | fail)) ⟨(by first | rfl | exact (decide_eq_false (by omega)).symm), (by first | rfl | exact (decide_eq_false (by omega)).symm), (by first | rfl | exact (decide_eq_false (by omega)).symm), trivial⟩ ⟨rfl, (by repeat' (first | exact trivial | rfl | refine And.intro ?_ ?_ | (simp [pureL, pureLL, AV.pure, Blk.renS, Blk.okS, Blk.okX, AV.okS, AV.okX]; done) | omega | fail)), ?_⟩ | refine ev_finX0 [(0, _, _), (1, _, _), (2, _, _)] [] [true, true, false] (Nat.succ_pos _) ⟨rfl, rfl, rfl, trivial⟩ rfl (by repeat' (first | exact trivial | rfl | refine And.intro ?_ ?_ | (simp [pureL, pureLL, AV.pure, Blk.renS, Blk.okS, Blk.okX, AV.okS, AV.okX]; done) | omega | fail)) ⟨(by first | rfl | exact (decide_eq_false (by omega)).symm), (by first | rfl | exact (decide_eq_false (by omega)).symm), (by first | rfl | exact (decide_eq_false (by omega)).symm), trivial⟩ ⟨rfl, (by repeat' (first | exact trivial | rfl | refine And.intro ?_ ?_ | (simp [pureL, pureLL, AV.pure, Blk.renS, Blk.okS, Blk.okX, AV.okS, AV.okX]; done) | omega | fail)), ?_⟩
  rfl
theorem timers_ukn (s : Ses) (now : Int) (acts : List Act) (ha : acts.length < 2 ^ 28) (e1 : dueS s.untl now = true) (e2 : dueS s.hold now = false) (e3 : dueS s.keep now = true) (e4 : dueS s.retry now = false) : Gives G 154 [.ref 1 0 0, .fn 150 [.ref 0 0 0]] [.cells [.ref 1 0 0], .cells (cellsR s now (.vs 2 0 acts.length)), .vec 28 (acts.map Act.enc)] (runRet3 (timersS s now acts) now false) := by
  unfold dueS at e1 e2 e3 e4
  have d1 := due_gives163 (s) now (s.untl) (acts)
  rw [show decide ((s.untl) ≠ 0 ∧ (s.untl) ≤ now) = true from e1] at d1
  have w1 := sweep_gives164 s now acts (by omega)
  have hA : (acts ++ [act0 7]).length < 2 ^ 28 + 1 := by simp; omega
  generalize hA1 : acts ++ [act0 7] = A at *
  have d2 := due_gives163 ({ s with untl := 0 }) now (s.hold) (A)
  rw [show decide ((s.hold) ≠ 0 ∧ (s.hold) ≤ now) = false from e2] at d2
  have d3 := due_gives163 ({ s with untl := 0 }) now (s.keep) (A)
  rw [show decide ((s.keep) ≠ 0 ∧ (s.keep) ≤ now) = true from e3] at d3
  have k1 := sendK_gives150 ({ s with untl := 0 }) now (A) (by omega)
  have hB : (A ++ [sendA keepM]).length < 2 ^ 28 + 2 := by simp; omega
  generalize hB1 : A ++ [sendA keepM] = B at *
  have d4 := due_gives163 ({ s with untl := 0, keep := wr (now + wr (s.holdTime.tdiv 3)) }) now (s.retry) (B)
  rw [show decide ((s.retry) ≠ 0 ∧ (s.retry) ≤ now) = false from e4] at d4
  rw [show timersS s now acts = ({ s with untl := 0, keep := wr (now + wr (s.holdTime.tdiv 3)) }, B) from by simp [timersS, tm1, tm3, tm4, dueS, e1, e2, e3, e4, ← hA1, ← hB1]]
  refine gives_code (F := f154) rfl rfl (W_ok 300 _ _ _ _ ?_)
  repeat' ((conv => whnf); first | refine wAdd ?_ | refine wQuo (by decide) ?_ | refine bslP (by first | rfl | (simp [pureL, pureLL, AV.pure]; done) | fail) rfl ?_ | refine TakeC.full (by first | rfl | omega | (simp; done) | (simp; omega) | fail) ?_ | refine zBs ?_ | refine zBn ?_ | refine zBv rfl rfl ?_ | refine zN ?_ | refine zC ?_ | refine zC4 ?_ | refine zOr16 ?_ | refine zC1 ?_ | refine zByte ?_ | refine zMaxL ?_ | refine zMaxR ?_ | refine zMinL ?_ | refine zMinR ?_ | refine zShr ?_ | refine zC8 ?_ | refine zQ ?_ | refine zR ?_ | refine zS ?_ | refine zA ?_ | refine zM ?_ | refine xr rfl ?_ | refine ai rfl ?_ | refine condT ?_ | refine condF ?_ | refine condG1 ?_ | refine condG0 ?_ | refine cD ?_ | refine dD ?_ | refine cB ?_ | refine dB ?_ | refine cN ?_ | refine dN ?_ | refine cV ?_ | refine dV ?_ | refine cE ?_ | refine dE ?_ | refine condX0 ?_ | refine condX1 ?_ | refine condNot ?_ | refine condAnd ?_ | refine condOr ?_ | refine aO ?_ | refine aB ?_ | refine aR ?_ | refine aR ?_ (by simp; omega) | refine xr (by assumption) ?_ | refine ai (by assumption) ?_ | refine kX [(1, _, _), (2, _, _)] [] ⟨rfl, rfl, trivial⟩ trivial (d1) ?_ | refine kX [(1, _, _), (2, _, _)] [] ⟨rfl, rfl, trivial⟩ trivial (w1) ?_ | refine kX [(1, _, _), (2, _, _)] [] ⟨rfl, rfl, trivial⟩ trivial (d2) ?_ | refine kX [(1, _, _), (2, _, _)] [] ⟨rfl, rfl, trivial⟩ trivial (d3) ?_ | refine kX [(0, _, _), (1, _, _), (2, _, _)] [] ⟨rfl, rfl, rfl, trivial⟩ trivial (k1) ?_ | refine kX [(1, _, _), (2, _, _)] [] ⟨rfl, rfl, trivial⟩ trivial (d4) ?_ | refine condD (fun h => ?_) (fun h => ?_) | refine condB (fun h => ?_) (fun h => ?_) | refine condN (fun h => ?_) (fun h => ?_) | refine condE (fun h => ?_) (fun h => ?_) | refine condV (fun h => ?_) (fun h => ?_))
  (conv => whnf); first | refine ev_finX [(0, _, _), (1, _, _), (2, _, _)] [] [true, true, false] (Nat.succ_pos _) ⟨rfl, rfl, rfl, trivial⟩ rfl (by repeat' (first | exact trivial | rfl | refine And.intro ?_ ?_ | (simp [pureL, pureLL, AV.pure, Blk.renS, Blk.okS, Blk.okX, AV.okS, AV.okX]; done) | omega | fail)) ⟨(by first | rfl | exact (decide_eq_false (by omega)).symm), (by first | rfl | exact (decide_eq_false (by omega)).symm), (by first | rfl | exact (decide_eq_false (by omega)).symm), trivial⟩ ⟨rfl, (by repeat' (first | exact trivial | rfl | refine And.intro ?_ ?_ | (simp [pureL, pureLL, AV.pure, Blk.renS, Blk.okS, Blk.okX, AV.okS, AV.okX]; done) | omega | fail)), ?_⟩ | refine ev_finX0 [(0, _, _), (1, _, _), (2, _, _)] [] [true, true, false] (Nat.succ_pos _) ⟨rfl, rfl, rfl, trivial⟩ rfl (by repeat' (first | exact trivial | rfl | refine And.intro ?_ ?_ | (simp [pureL, pureLL, AV.pure, Blk.renS, Blk.okS, Blk.okX, AV.okS, AV.okX]; done) | omega | fail)) ⟨(by first | rfl | exact (decide_eq_false (by omega)).symm), (by first | rfl | exact (decide_eq_false (by omega)).symm), (by first | rfl | exact (decide_eq_false (by omega)).symm), trivial⟩ ⟨rfl, (by repeat' (first | exact trivial | rfl | refine And.intro ?_ ?_ | (simp [pureL, pureLL, AV.pure, Blk.renS, Blk.okS, Blk.okX, AV.okS, AV.okX]; done) | omega | fail)), ?_⟩
  rfl
theorem timers_ukr (s : Ses) (now : Int) (acts : List Act) (ha : acts.length < 2 ^ 28) (e1 : dueS s.untl now = true) (e2 : dueS s.hold now = false) (e3 : dueS s.keep now = true) (e4 : dueS s.retry now = true) : Gives G 154 [.ref 1 0 0, .fn 150 [.ref 0 0 0]] [.cells [.ref 1 0 0], .cells (cellsR s now (.vs 2 0 acts.length)), .vec 28 (acts.map Act.enc)] (runRet3 (timersS s now acts) now false) := by
  unfold dueS at e1 e2 e3 e4
  have d1 := due_gives163 (s) now (s.untl) (acts)
  rw [show decide ((s.untl) ≠ 0 ∧ (s.untl) ≤ now) = true from e1] at d1
  have w1 := sweep_gives164 s now acts (by omega)
  have hA : (acts ++ [act0 7]).length < 2 ^ 28 + 1 := by simp; omega
  generalize hA1 : acts ++ [act0 7] = A at *
  have d2 := due_gives163 ({ s with untl := 0 }) now (s.hold) (A)
  rw [show decide ((s.hold) ≠ 0 ∧ (s.hold) ≤ now) = false from e2] at d2
  have d3 := due_gives163 ({ s with untl := 0 }) now (s.keep) (A)
  rw [show decide ((s.keep) ≠ 0 ∧ (s.keep) ≤ now) = true from e3] at d3
  have k1 := sendK_gives150 ({ s with untl := 0 }) now (A) (by omega)
  have hB : (A ++ [sendA keepM]).length < 2 ^ 28 + 2 := by simp; omega
  generalize hB1 : A ++ [sendA keepM] = B at *
  have d4 := due_gives163 ({ s with untl := 0, keep := wr (now + wr (s.holdTime.tdiv 3)) }) now (s.retry) (B)
  rw [show decide ((s.retry) ≠ 0 ∧ (s.retry) ≤ now) = true from e4] at d4
  have o1 := do_gives151 ({ s with untl := 0, keep := wr (now + wr (s.holdTime.tdiv 3)) }) now 1 B (by omega)
  generalize hC1 : B ++ [act0 1] = C at *
  rw [show timersS s now acts = ({ s with untl := 0, keep := wr (now + wr (s.holdTime.tdiv 3)), retry := wr (now + 30) }, C) from by simp [timersS, tm1, tm3, tm4, dueS, e1, e2, e3, e4, ← hA1, ← hB1, ← hC1]]
  refine gives_code (F := f154) rfl rfl (W_ok 300 _ _ _ _ ?_)
  repeat' ((conv => whnf); first | refine wAdd ?_ | refine wQuo (by decide) ?_ | refine bslP (by first | rfl | (simp [pureL, pureLL, AV.pure]; done) | fail) rfl ?_ | refine TakeC.full (by first | rfl | omega | (simp; done) | (simp; omega) | fail) ?_ | refine zBs ?_ | refine zBn ?_ | refine zBv rfl rfl ?_ | refine zN ?_ | refine zC ?_ | refine zC4 ?_ | refine zOr16 ?_ | refine zC1 ?_ | refine zByte ?_ | refine zMaxL ?_ | refine zMaxR ?_ | refine zMinL ?_ | refine zMinR ?_ | refine zShr ?_ | refine zC8 ?_ | refine zQ ?_ | refine zR ?_ | refine zS ?_ | refine zA ?_ | refine zM ?_ | refine xr rfl ?_ | refine ai rfl ?_ | refine condT ?_ | refine condF ?_ | refine condG1 ?_ | refine condG0 ?_ | refine cD ?_ | refine dD ?_ | refine cB ?_ | refine dB ?_ | refine cN ?_ | refine dN ?_ | refine cV ?_ | refine dV ?_ | refine cE ?_ | refine dE ?_ | refine condX0 ?_ | refine condX1 ?_ | refine condNot ?_ | refine condAnd ?_ | refine condOr ?_ | refine aO ?_ | refine aB ?_ | refine aR ?_ | refine aR ?_ (by simp; omega) | refine xr (by assumption) ?_ | refine ai (by assumption) ?_ | refine kX [(1, _, _), (2, _, _)] [] ⟨rfl, rfl, trivial⟩ trivial (d1) ?_ | refine kX [(1, _, _), (2, _, _)] [] ⟨rfl, rfl, trivial⟩ trivial (w1) ?_ | refine kX [(1, _, _), (2, _, _)] [] ⟨rfl, rfl, trivial⟩ trivial (d2) ?_ | refine kX [(1, _, _), (2, _, _)] [] ⟨rfl, rfl, trivial⟩ trivial (d3) ?_ | refine kX [(0, _, _), (1, _, _), (2, _, _)] [] ⟨rfl, rfl, rfl, trivial⟩ trivial (k1) ?_ | refine kX [(1, _, _), (2, _, _)] [] ⟨rfl, rfl, trivial⟩ trivial (d4) ?_ | refine kX [(1, _, _), (2, _, _)] [] ⟨rfl, rfl, trivial⟩ trivial (o1) ?_ | refine condD (fun h => ?_) (fun h => ?_) | refine condB (fun h => ?_) (fun h => ?_) | refine condN (fun h => ?_) (fun h => ?_) | refine condE (fun h => ?_) (fun h => ?_) | refine condV (fun h => ?_) (fun h => ?_))
  (conv => whnf); first | refine ev_finX [(0, _, _), (1, _, _), (2, _, _)] [] [true, true, false] (Nat.succ_pos _) ⟨rfl, rfl, rfl, trivial⟩ rfl (by repeat' (first | exact trivial | rfl | refine And.intro ?_ ?_ | (simp [pureL, pureLL, AV.pure, Blk.renS, Blk.okS, Blk.okX, AV.okS, AV.okX]; done) | omega | fail)) ⟨(by first | rfl | exact (decide_eq_false (by omega)).symm), (by first | rfl | exact (decide_eq_false (by omega)).symm), (by first | rfl | exact (decide_eq_false (by omega)).symm), trivial⟩ ⟨rfl, (by repeat' (first | exact trivial | rfl | refine And.intro ?_ ?_ | (simp [pureL, pureLL, AV.pure, Blk.renS, Blk.okS, Blk.okX, AV.okS, AV.okX]; done) | omega | fail)), ?_⟩ | refine ev_finX0 [(0, _, _), (1, _, _), (2, _, _)] [] [true, true, false] (Nat.succ_pos _) ⟨rfl, rfl, rfl, trivial⟩ rfl (by repeat' (first | exact trivial | rfl | refine And.intro ?_ ?_ | (simp [pureL, pureLL, AV.pure, Blk.renS, Blk.okS, Blk.okX, AV.okS, AV.okX]; done) | omega | fail)) ⟨(by first | rfl | exact (decide_eq_false (by omega)).symm), (by first | rfl | exact (decide_eq_false (by omega)).symm), (by first | rfl | exact (decide_eq_false (by omega)).symm), trivial⟩ ⟨rfl, (by repeat' (first | exact trivial | rfl | refine And.intro ?_ ?_ | (simp [pureL, pureLL, AV.pure, Blk.renS, Blk.okS, Blk.okX, AV.okS, AV.okX]; done) | omega | fail)), ?_⟩
  rfl
end Go.AM.IR
set_option maxHeartbeats 4000000
set_option maxRecDepth 20000
namespace Go.AM.IR
def leastS (a t : Int) : Int := if t ≠ 0 ∧ (a = 0 ∨ t < a) then t else a
def nextS (s : Ses) : Int := leastS (leastS (leastS (leastS 0 s.retry) s.hold) s.keep) s.untl
theorem next133_4 (a b d e x : Int) (T : List (Nat × AV)) (H : Heap) (c : Nat) :
   Ev G ⟨f133x8LH, ⟨(15, .int .i64 4) :: (3, .int .i64 x) :: (14, .agg [.int .i64 a, .int .i64 b, .int .i64 d, .int .i64 e]) :: T, H, c⟩, [.t 2], 0⟩ (⟨.int .i64 (x), []⟩) := by
  refine ev_loop' (W_ok 300 _ _ _ _ ?_)
  repeat' ((conv => whnf); first | refine bslP (by first | rfl | (simp [pureL, pureLL, AV.pure]; done) | fail) rfl ?_ | refine TakeC.full (by first | rfl | omega | (simp; done) | (simp; omega) | fail) ?_ | refine zBs ?_ | refine zBn ?_ | refine zBv rfl rfl ?_ | refine zN ?_ | refine zC ?_ | refine zC4 ?_ | refine zOr16 ?_ | refine zC1 ?_ | refine zByte ?_ | refine zMaxL ?_ | refine zMaxR ?_ | refine zMinL ?_ | refine zMinR ?_ | refine zShr ?_ | refine zC8 ?_ | refine zQ ?_ | refine zR ?_ | refine zS ?_ | refine zA ?_ | refine zM ?_ | refine xr rfl ?_ | refine ai rfl ?_ | refine condT ?_ | refine condF ?_ | refine condG1 ?_ | refine condG0 ?_ | refine cD ?_ | refine dD ?_ | refine cB ?_ | refine dB ?_ | refine cN ?_ | refine dN ?_ | refine cV ?_ | refine dV ?_ | refine cE ?_ | refine dE ?_ | refine condX0 ?_ | refine condX1 ?_ | refine condNot ?_ | refine condAnd ?_ | refine condOr ?_ | refine aO ?_ | refine aB ?_ | refine aR ?_ | refine aR ?_ (by simp; omega) | refine xr (by assumption) ?_ | refine ai (by assumption) ?_ | refine condD (fun h => ?_) (fun h => ?_) | refine condB (fun h => ?_) (fun h => ?_) | refine condN (fun h => ?_) (fun h => ?_) | refine condE (fun h => ?_) (fun h => ?_) | refine condV (fun h => ?_) (fun h => ?_))
  (first | refine ev_fin (And.intro (by first | rfl | (simp [AV.pure, pureL]; done) | fail) ?_) | refine ev_fin0 (And.intro (by first | rfl | (simp [AV.pure, pureL]; done) | fail) ?_)); rfl
theorem next133_3 (a b d e x : Int) (T : List (Nat × AV)) (H : Heap) (c : Nat) :
   Ev G ⟨f133x8LH, ⟨(15, .int .i64 3) :: (3, .int .i64 x) :: (14, .agg [.int .i64 a, .int .i64 b, .int .i64 d, .int .i64 e]) :: T, H, c⟩, [.t 2], 0⟩ (⟨.int .i64 (leastS (x) e), []⟩) := by
  refine ev_loop' (W_ok 300 _ _ _ _ ?_)
  repeat' ((conv => whnf); first | refine bslP (by first | rfl | (simp [pureL, pureLL, AV.pure]; done) | fail) rfl ?_ | refine TakeC.full (by first | rfl | omega | (simp; done) | (simp; omega) | fail) ?_ | refine zBs ?_ | refine zBn ?_ | refine zBv rfl rfl ?_ | refine zN ?_ | refine zC ?_ | refine zC4 ?_ | refine zOr16 ?_ | refine zC1 ?_ | refine zByte ?_ | refine zMaxL ?_ | refine zMaxR ?_ | refine zMinL ?_ | refine zMinR ?_ | refine zShr ?_ | refine zC8 ?_ | refine zQ ?_ | refine zR ?_ | refine zS ?_ | refine zA ?_ | refine zM ?_ | refine xr rfl ?_ | refine ai rfl ?_ | refine condT ?_ | refine condF ?_ | refine condG1 ?_ | refine condG0 ?_ | refine cD ?_ | refine dD ?_ | refine cB ?_ | refine dB ?_ | refine cN ?_ | refine dN ?_ | refine cV ?_ | refine dV ?_ | refine cE ?_ | refine dE ?_ | refine condX0 ?_ | refine condX1 ?_ | refine condNot ?_ | refine condAnd ?_ | refine condOr ?_ | refine aO ?_ | refine aB ?_ | refine aR ?_ | refine aR ?_ (by simp; omega) | refine xr (by assumption) ?_ | refine ai (by assumption) ?_ | refine condD (fun h => ?_) (fun h => ?_) | refine condB (fun h => ?_) (fun h => ?_) | refine condN (fun h => ?_) (fun h => ?_) | refine condE (fun h => ?_) (fun h => ?_) | refine condV (fun h => ?_) (fun h => ?_))
  all_goals first
   | (rw [show leastS x e = e from by first | (simp [leastS, *]; done) | (simp [leastS]; omega)]
      refine ev_keep [15, 3, 14] [] ?_
      exact next133_4 a b d e e _ _ _)
   | (rw [show leastS x e = x from by first | (simp [leastS, *]; done) | (simp [leastS]; omega)]
      refine ev_keep [15, 3, 14] [] ?_
      exact next133_4 a b d e x _ _ _)
theorem next133_2 (a b d e x : Int) (T : List (Nat × AV)) (H : Heap) (c : Nat) :
   Ev G ⟨f133x8LH, ⟨(15, .int .i64 2) :: (3, .int .i64 x) :: (14, .agg [.int .i64 a, .int .i64 b, .int .i64 d, .int .i64 e]) :: T, H, c⟩, [.t 2], 0⟩ (⟨.int .i64 (leastS (leastS (x) d) e), []⟩) := by
  refine ev_loop' (W_ok 300 _ _ _ _ ?_)
  repeat' ((conv => whnf); first | refine bslP (by first | rfl | (simp [pureL, pureLL, AV.pure]; done) | fail) rfl ?_ | refine TakeC.full (by first | rfl | omega | (simp; done) | (simp; omega) | fail) ?_ | refine zBs ?_ | refine zBn ?_ | refine zBv rfl rfl ?_ | refine zN ?_ | refine zC ?_ | refine zC4 ?_ | refine zOr16 ?_ | refine zC1 ?_ | refine zByte ?_ | refine zMaxL ?_ | refine zMaxR ?_ | refine zMinL ?_ | refine zMinR ?_ | refine zShr ?_ | refine zC8 ?_ | refine zQ ?_ | refine zR ?_ | refine zS ?_ | refine zA ?_ | refine zM ?_ | refine xr rfl ?_ | refine ai rfl ?_ | refine condT ?_ | refine condF ?_ | refine condG1 ?_ | refine condG0 ?_ | refine cD ?_ | refine dD ?_ | refine cB ?_ | refine dB ?_ | refine cN ?_ | refine dN ?_ | refine cV ?_ | refine dV ?_ | refine cE ?_ | refine dE ?_ | refine condX0 ?_ | refine condX1 ?_ | refine condNot ?_ | refine condAnd ?_ | refine condOr ?_ | refine aO ?_ | refine aB ?_ | refine aR ?_ | refine aR ?_ (by simp; omega) | refine xr (by assumption) ?_ | refine ai (by assumption) ?_ | refine condD (fun h => ?_) (fun h => ?_) | refine condB (fun h => ?_) (fun h => ?_) | refine condN (fun h => ?_) (fun h => ?_) | refine condE (fun h => ?_) (fun h => ?_) | refine condV (fun h => ?_) (fun h => ?_))
  all_goals first
   | (rw [show leastS x d = d from by first | (simp [leastS, *]; done) | (simp [leastS]; omega)]
      refine ev_keep [15, 3, 14] [] ?_
      exact next133_3 a b d e d _ _ _)
   | (rw [show leastS x d = x from by first | (simp [leastS, *]; done) | (simp [leastS]; omega)]
      refine ev_keep [15, 3, 14] [] ?_
      exact next133_3 a b d e x _ _ _)
theorem next133_1 (a b d e x : Int) (T : List (Nat × AV)) (H : Heap) (c : Nat) :
   Ev G ⟨f133x8LH, ⟨(15, .int .i64 1) :: (3, .int .i64 x) :: (14, .agg [.int .i64 a, .int .i64 b, .int .i64 d, .int .i64 e]) :: T, H, c⟩, [.t 2], 0⟩ (⟨.int .i64 (leastS (leastS (leastS (x) b) d) e), []⟩) := by
  refine ev_loop' (W_ok 300 _ _ _ _ ?_)
  repeat' ((conv => whnf); first | refine bslP (by first | rfl | (simp [pureL, pureLL, AV.pure]; done) | fail) rfl ?_ | refine TakeC.full (by first | rfl | omega | (simp; done) | (simp; omega) | fail) ?_ | refine zBs ?_ | refine zBn ?_ | refine zBv rfl rfl ?_ | refine zN ?_ | refine zC ?_ | refine zC4 ?_ | refine zOr16 ?_ | refine zC1 ?_ | refine zByte ?_ | refine zMaxL ?_ | refine zMaxR ?_ | refine zMinL ?_ | refine zMinR ?_ | refine zShr ?_ | refine zC8 ?_ | refine zQ ?_ | refine zR ?_ | refine zS ?_ | refine zA ?_ | refine zM ?_ | refine xr rfl ?_ | refine ai rfl ?_ | refine condT ?_ | refine condF ?_ | refine condG1 ?_ | refine condG0 ?_ | refine cD ?_ | refine dD ?_ | refine cB ?_ | refine dB ?_ | refine cN ?_ | refine dN ?_ | refine cV ?_ | refine dV ?_ | refine cE ?_ | refine dE ?_ | refine condX0 ?_ | refine condX1 ?_ | refine condNot ?_ | refine condAnd ?_ | refine condOr ?_ | refine aO ?_ | refine aB ?_ | refine aR ?_ | refine aR ?_ (by simp; omega) | refine xr (by assumption) ?_ | refine ai (by assumption) ?_ | refine condD (fun h => ?_) (fun h => ?_) | refine condB (fun h => ?_) (fun h => ?_) | refine condN (fun h => ?_) (fun h => ?_) | refine condE (fun h => ?_) (fun h => ?_) | refine condV (fun h => ?_) (fun h => ?_))
  all_goals first
   | (rw [show leastS x b = b from by first | (simp [leastS, *]; done) | (simp [leastS]; omega)]
      refine ev_keep [15, 3, 14] [] ?_
      exact next133_2 a b d e b _ _ _)
   | (rw [show leastS x b = x from by first | (simp [leastS, *]; done) | (simp [leastS]; omega)]
      refine ev_keep [15, 3, 14] [] ?_
      exact next133_2 a b d e x _ _ _)
theorem next133_0 (a b d e x : Int) (T : List (Nat × AV)) (H : Heap) (c : Nat) :
   Ev G ⟨f133x8LH, ⟨(15, .int .i64 0) :: (3, .int .i64 x) :: (14, .agg [.int .i64 a, .int .i64 b, .int .i64 d, .int .i64 e]) :: T, H, c⟩, [.t 2], 0⟩ (⟨.int .i64 (leastS (leastS (leastS (leastS (x) a) b) d) e), []⟩) := by
  refine ev_loop' (W_ok 300 _ _ _ _ ?_)
  repeat' ((conv => whnf); first | refine bslP (by first | rfl | (simp [pureL, pureLL, AV.pure]; done) | fail) rfl ?_ | refine TakeC.full (by first | rfl | omega | (simp; done) | (simp; omega) | fail) ?_ | refine zBs ?_ | refine zBn ?_ | refine zBv rfl rfl ?_ | refine zN ?_ | refine zC ?_ | refine zC4 ?_ | refine zOr16 ?_ | refine zC1 ?_ | refine zByte ?_ | refine zMaxL ?_ | refine zMaxR ?_ | refine zMinL ?_ | refine zMinR ?_ | refine zShr ?_ | refine zC8 ?_ | refine zQ ?_ | refine zR ?_ | refine zS ?_ | refine zA ?_ | refine zM ?_ | refine xr rfl ?_ | refine ai rfl ?_ | refine condT ?_ | refine condF ?_ | refine condG1 ?_ | refine condG0 ?_ | refine cD ?_ | refine dD ?_ | refine cB ?_ | refine dB ?_ | refine cN ?_ | refine dN ?_ | refine cV ?_ | refine dV ?_ | refine cE ?_ | refine dE ?_ | refine condX0 ?_ | refine condX1 ?_ | refine condNot ?_ | refine condAnd ?_ | refine condOr ?_ | refine aO ?_ | refine aB ?_ | refine aR ?_ | refine aR ?_ (by simp; omega) | refine xr (by assumption) ?_ | refine ai (by assumption) ?_ | refine condD (fun h => ?_) (fun h => ?_) | refine condB (fun h => ?_) (fun h => ?_) | refine condN (fun h => ?_) (fun h => ?_) | refine condE (fun h => ?_) (fun h => ?_) | refine condV (fun h => ?_) (fun h => ?_))
  all_goals first
   | (rw [show leastS x a = a from by first | (simp [leastS, *]; done) | (simp [leastS]; omega)]
      refine ev_keep [15, 3, 14] [] ?_
      exact next133_1 a b d e a _ _ _)
   | (rw [show leastS x a = x from by first | (simp [leastS, *]; done) | (simp [leastS]; omega)]
      refine ev_keep [15, 3, 14] [] ?_
      exact next133_1 a b d e x _ _ _)
theorem next_gives133 (s : Ses) : Gives G 133 [.agg s.enc] [] ⟨.int .i64 (nextS s), []⟩ := by
  refine gives_code (F := f133) rfl rfl (W_ok 300 _ _ _ _ ?_)
  repeat' ((conv => whnf); first | refine bslP (by first | rfl | (simp [pureL, pureLL, AV.pure]; done) | fail) rfl ?_ | refine TakeC.full (by first | rfl | omega | (simp; done) | (simp; omega) | fail) ?_ | refine zBs ?_ | refine zBn ?_ | refine zBv rfl rfl ?_ | refine zN ?_ | refine zC ?_ | refine zC4 ?_ | refine zOr16 ?_ | refine zC1 ?_ | refine zByte ?_ | refine zMaxL ?_ | refine zMaxR ?_ | refine zMinL ?_ | refine zMinR ?_ | refine zShr ?_ | refine zC8 ?_ | refine zQ ?_ | refine zR ?_ | refine zS ?_ | refine zA ?_ | refine zM ?_ | refine xr rfl ?_ | refine ai rfl ?_ | refine condT ?_ | refine condF ?_ | refine condG1 ?_ | refine condG0 ?_ | refine cD ?_ | refine dD ?_ | refine cB ?_ | refine dB ?_ | refine cN ?_ | refine dN ?_ | refine cV ?_ | refine dV ?_ | refine cE ?_ | refine dE ?_ | refine condX0 ?_ | refine condX1 ?_ | refine condNot ?_ | refine condAnd ?_ | refine condOr ?_ | refine aO ?_ | refine aB ?_ | refine aR ?_ | refine aR ?_ (by simp; omega) | refine xr (by assumption) ?_ | refine ai (by assumption) ?_ | refine condD (fun h => ?_) (fun h => ?_) | refine condB (fun h => ?_) (fun h => ?_) | refine condN (fun h => ?_) (fun h => ?_) | refine condE (fun h => ?_) (fun h => ?_) | refine condV (fun h => ?_) (fun h => ?_))
  refine ev_keep [15, 3, 14] [] ?_
  exact next133_0 s.retry s.hold s.keep s.untl 0 _ _ _
theorem next134_4 (a b d e x : Int) (g : Nat) (T : List (Nat × AV)) (H : Heap) (c : Nat) :
   Ev G ⟨f134x8LH, ⟨(16, .int .i64 4) :: (3, .int .i64 x) :: (14, .vs 78 g 4) :: (15, .int .i64 4) :: T, (78, some (g, .vec 1 [[.int .i64 a], [.int .i64 b], [.int .i64 d], [.int .i64 e]])) :: H, c⟩, [.t 2], 0⟩ (⟨.int .i64 (x), []⟩) := by
  refine ev_loop' (W_ok 300 _ _ _ _ ?_)
  repeat' ((conv => whnf); first | refine bslP (by first | rfl | (simp [pureL, pureLL, AV.pure]; done) | fail) rfl ?_ | refine TakeC.full (by first | rfl | omega | (simp; done) | (simp; omega) | fail) ?_ | refine zBs ?_ | refine zBn ?_ | refine zBv rfl rfl ?_ | refine zN ?_ | refine zC ?_ | refine zC4 ?_ | refine zOr16 ?_ | refine zC1 ?_ | refine zByte ?_ | refine zMaxL ?_ | refine zMaxR ?_ | refine zMinL ?_ | refine zMinR ?_ | refine zShr ?_ | refine zC8 ?_ | refine zQ ?_ | refine zR ?_ | refine zS ?_ | refine zA ?_ | refine zM ?_ | refine xr rfl ?_ | refine ai rfl ?_ | refine condT ?_ | refine condF ?_ | refine condG1 ?_ | refine condG0 ?_ | refine cD ?_ | refine dD ?_ | refine cB ?_ | refine dB ?_ | refine cN ?_ | refine dN ?_ | refine cV ?_ | refine dV ?_ | refine cE ?_ | refine dE ?_ | refine condX0 ?_ | refine condX1 ?_ | refine condNot ?_ | refine condAnd ?_ | refine condOr ?_ | refine aO ?_ | refine aB ?_ | refine aR ?_ | refine aR ?_ (by simp; omega) | refine xr (by assumption) ?_ | refine ai (by assumption) ?_ | refine condD (fun h => ?_) (fun h => ?_) | refine condB (fun h => ?_) (fun h => ?_) | refine condN (fun h => ?_) (fun h => ?_) | refine condE (fun h => ?_) (fun h => ?_) | refine condV (fun h => ?_) (fun h => ?_))
  (first | refine ev_fin (And.intro (by first | rfl | (simp [AV.pure, pureL]; done) | fail) ?_) | refine ev_fin0 (And.intro (by first | rfl | (simp [AV.pure, pureL]; done) | fail) ?_)); rfl
theorem next134_3 (a b d e x : Int) (g : Nat) (T : List (Nat × AV)) (H : Heap) (c : Nat) :
   Ev G ⟨f134x8LH, ⟨(16, .int .i64 3) :: (3, .int .i64 x) :: (14, .vs 78 g 4) :: (15, .int .i64 4) :: T, (78, some (g, .vec 1 [[.int .i64 a], [.int .i64 b], [.int .i64 d], [.int .i64 e]])) :: H, c⟩, [.t 2], 0⟩ (⟨.int .i64 (leastS (x) e), []⟩) := by
  refine ev_loop' (W_ok 300 _ _ _ _ ?_)
  repeat' ((conv => whnf); first | refine bslP (by first | rfl | (simp [pureL, pureLL, AV.pure]; done) | fail) rfl ?_ | refine TakeC.full (by first | rfl | omega | (simp; done) | (simp; omega) | fail) ?_ | refine zBs ?_ | refine zBn ?_ | refine zBv rfl rfl ?_ | refine zN ?_ | refine zC ?_ | refine zC4 ?_ | refine zOr16 ?_ | refine zC1 ?_ | refine zByte ?_ | refine zMaxL ?_ | refine zMaxR ?_ | refine zMinL ?_ | refine zMinR ?_ | refine zShr ?_ | refine zC8 ?_ | refine zQ ?_ | refine zR ?_ | refine zS ?_ | refine zA ?_ | refine zM ?_ | refine xr rfl ?_ | refine ai rfl ?_ | refine condT ?_ | refine condF ?_ | refine condG1 ?_ | refine condG0 ?_ | refine cD ?_ | refine dD ?_ | refine cB ?_ | refine dB ?_ | refine cN ?_ | refine dN ?_ | refine cV ?_ | refine dV ?_ | refine cE ?_ | refine dE ?_ | refine condX0 ?_ | refine condX1 ?_ | refine condNot ?_ | refine condAnd ?_ | refine condOr ?_ | refine aO ?_ | refine aB ?_ | refine aR ?_ | refine aR ?_ (by simp; omega) | refine xr (by assumption) ?_ | refine ai (by assumption) ?_ | refine condD (fun h => ?_) (fun h => ?_) | refine condB (fun h => ?_) (fun h => ?_) | refine condN (fun h => ?_) (fun h => ?_) | refine condE (fun h => ?_) (fun h => ?_) | refine condV (fun h => ?_) (fun h => ?_))
  all_goals first
   | (rw [show leastS x e = e from by first | (simp [leastS, *]; done) | (simp [leastS]; omega)]
      refine ev_keep [16, 3, 14, 15] [78] ?_
      exact next134_4 a b d e e g _ _ _)
   | (rw [show leastS x e = x from by first | (simp [leastS, *]; done) | (simp [leastS]; omega)]
      refine ev_keep [16, 3, 14, 15] [78] ?_
      exact next134_4 a b d e x g _ _ _)
theorem next134_2 (a b d e x : Int) (g : Nat) (T : List (Nat × AV)) (H : Heap) (c : Nat) :
   Ev G ⟨f134x8LH, ⟨(16, .int .i64 2) :: (3, .int .i64 x) :: (14, .vs 78 g 4) :: (15, .int .i64 4) :: T, (78, some (g, .vec 1 [[.int .i64 a], [.int .i64 b], [.int .i64 d], [.int .i64 e]])) :: H, c⟩, [.t 2], 0⟩ (⟨.int .i64 (leastS (leastS (x) d) e), []⟩) := by
  refine ev_loop' (W_ok 300 _ _ _ _ ?_)
  repeat' ((conv => whnf); first | refine bslP (by first | rfl | (simp [pureL, pureLL, AV.pure]; done) | fail) rfl ?_ | refine TakeC.full (by first | rfl | omega | (simp; done) | (simp; omega) | fail) ?_ | refine zBs ?_ | refine zBn ?_ | refine zBv rfl rfl ?_ | refine zN ?_ | refine zC ?_ | refine zC4 ?_ | refine zOr16 ?_ | refine zC1 ?_ | refine zByte ?_ | refine zMaxL ?_ | refine zMaxR ?_ | refine zMinL ?_ | refine zMinR ?_ | refine zShr ?_ | refine zC8 ?_ | refine zQ ?_ | refine zR ?_ | refine zS ?_ | refine zA ?_ | refine zM ?_ | refine xr rfl ?_ | refine ai rfl ?_ | refine condT ?_ | refine condF ?_ | refine condG1 ?_ | refine condG0 ?_ | refine cD ?_ | refine dD ?_ | refine cB ?_ | refine dB ?_ | refine cN ?_ | refine dN ?_ | refine cV ?_ | refine dV ?_ | refine cE ?_ | refine dE ?_ | refine condX0 ?_ | refine condX1 ?_ | refine condNot ?_ | refine condAnd ?_ | refine condOr ?_ | refine aO ?_ | refine aB ?_ | refine aR ?_ | refine aR ?_ (by simp; omega) | refine xr (by assumption) ?_ | refine ai (by assumption) ?_ | refine condD (fun h => ?_) (fun h => ?_) | refine condB (fun h => ?_) (fun h => ?_) | refine condN (fun h => ?_) (fun h => ?_) | refine condE (fun h => ?_) (fun h => ?_) | refine condV (fun h => ?_) (fun h => ?_))
  all_goals first
   | (rw [show leastS x d = d from by first | (simp [leastS, *]; done) | (simp [leastS]; omega)]
      refine ev_keep [16, 3, 14, 15] [78] ?_
      exact next134_3 a b d e d g _ _ _)
   | (rw [show leastS x d = x from by first | (simp [leastS, *]; done) | (simp [leastS]; omega)]
      refine ev_keep [16, 3, 14, 15] [78] ?_
      exact next134_3 a b d e x g _ _ _)
theorem next134_1 (a b d e x : Int) (g : Nat) (T : List (Nat × AV)) (H : Heap) (c : Nat) :
   Ev G ⟨f134x8LH, ⟨(16, .int .i64 1) :: (3, .int .i64 x) :: (14, .vs 78 g 4) :: (15, .int .i64 4) :: T, (78, some (g, .vec 1 [[.int .i64 a], [.int .i64 b], [.int .i64 d], [.int .i64 e]])) :: H, c⟩, [.t 2], 0⟩ (⟨.int .i64 (leastS (leastS (leastS (x) b) d) e), []⟩) := by
  refine ev_loop' (W_ok 300 _ _ _ _ ?_)
  repeat' ((conv => whnf); first | refine bslP (by first | rfl | (simp [pureL, pureLL, AV.pure]; done) | fail) rfl ?_ | refine TakeC.full (by first | rfl | omega | (simp; done) | (simp; omega) | fail) ?_ | refine zBs ?_ | refine zBn ?_ | refine zBv rfl rfl ?_ | refine zN ?_ | refine zC ?_ | refine zC4 ?_ | refine zOr16 ?_ | refine zC1 ?_ | refine zByte ?_ | refine zMaxL ?_ | refine zMaxR ?_ | refine zMinL ?_ | refine zMinR ?_ | refine zShr ?_ | refine zC8 ?_ | refine zQ ?_ | refine zR ?_ | refine zS ?_ | refine zA ?_ | refine zM ?_ | refine xr rfl ?_ | refine ai rfl ?_ | refine condT ?_ | refine condF ?_ | refine condG1 ?_ | refine condG0 ?_ | refine cD ?_ | refine dD ?_ | refine cB ?_ | refine dB ?_ | refine cN ?_ | refine dN ?_ | refine cV ?_ | refine dV ?_ | refine cE ?_ | refine dE ?_ | refine condX0 ?_ | refine condX1 ?_ | refine condNot ?_ | refine condAnd ?_ | refine condOr ?_ | refine aO ?_ | refine aB ?_ | refine aR ?_ | refine aR ?_ (by simp; omega) | refine xr (by assumption) ?_ | refine ai (by assumption) ?_ | refine condD (fun h => ?_) (fun h => ?_) | refine condB (fun h => ?_) (fun h => ?_) | refine condN (fun h => ?_) (fun h => ?_) | refine condE (fun h => ?_) (fun h => ?_) | refine condV (fun h => ?_) (fun h => ?_))
  all_goals first
   | (rw [show leastS x b = b from by first | (simp [leastS, *]; done) | (simp [leastS]; omega)]
      refine ev_keep [16, 3, 14, 15] [78] ?_
      exact next134_2 a b d e b g _ _ _)
   | (rw [show leastS x b = x from by first | (simp [leastS, *]; done) | (simp [leastS]; omega)]
      refine ev_keep [16, 3, 14, 15] [78] ?_
      exact next134_2 a b d e x g _ _ _)
theorem next134_0 (a b d e x : Int) (g : Nat) (T : List (Nat × AV)) (H : Heap) (c : Nat) :
   Ev G ⟨f134x8LH, ⟨(16, .int .i64 0) :: (3, .int .i64 x) :: (14, .vs 78 g 4) :: (15, .int .i64 4) :: T, (78, some (g, .vec 1 [[.int .i64 a], [.int .i64 b], [.int .i64 d], [.int .i64 e]])) :: H, c⟩, [.t 2], 0⟩ (⟨.int .i64 (leastS (leastS (leastS (leastS (x) a) b) d) e), []⟩) := by
  refine ev_loop' (W_ok 300 _ _ _ _ ?_)
  repeat' ((conv => whnf); first | refine bslP (by first | rfl | (simp [pureL, pureLL, AV.pure]; done) | fail) rfl ?_ | refine TakeC.full (by first | rfl | omega | (simp; done) | (simp; omega) | fail) ?_ | refine zBs ?_ | refine zBn ?_ | refine zBv rfl rfl ?_ | refine zN ?_ | refine zC ?_ | refine zC4 ?_ | refine zOr16 ?_ | refine zC1 ?_ | refine zByte ?_ | refine zMaxL ?_ | refine zMaxR ?_ | refine zMinL ?_ | refine zMinR ?_ | refine zShr ?_ | refine zC8 ?_ | refine zQ ?_ | refine zR ?_ | refine zS ?_ | refine zA ?_ | refine zM ?_ | refine xr rfl ?_ | refine ai rfl ?_ | refine condT ?_ | refine condF ?_ | refine condG1 ?_ | refine condG0 ?_ | refine cD ?_ | refine dD ?_ | refine cB ?_ | refine dB ?_ | refine cN ?_ | refine dN ?_ | refine cV ?_ | refine dV ?_ | refine cE ?_ | refine dE ?_ | refine condX0 ?_ | refine condX1 ?_ | refine condNot ?_ | refine condAnd ?_ | refine condOr ?_ | refine aO ?_ | refine aB ?_ | refine aR ?_ | refine aR ?_ (by simp; omega) | refine xr (by assumption) ?_ | refine ai (by assumption) ?_ | refine condD (fun h => ?_) (fun h => ?_) | refine condB (fun h => ?_) (fun h => ?_) | refine condN (fun h => ?_) (fun h => ?_) | refine condE (fun h => ?_) (fun h => ?_) | refine condV (fun h => ?_) (fun h => ?_))
  all_goals first
   | (rw [show leastS x a = a from by first | (simp [leastS, *]; done) | (simp [leastS]; omega)]
      refine ev_keep [16, 3, 14, 15] [78] ?_
      exact next134_1 a b d e a g _ _ _)
   | (rw [show leastS x a = x from by first | (simp [leastS, *]; done) | (simp [leastS]; omega)]
      refine ev_keep [16, 3, 14, 15] [78] ?_
      exact next134_1 a b d e x g _ _ _)
theorem next_gives134 (s : Ses) : Gives G 134 [.agg s.enc] [] ⟨.int .i64 (nextS s), []⟩ := by
  refine gives_code (F := f134) rfl rfl (W_ok 300 _ _ _ _ ?_)
  repeat' ((conv => whnf); first | refine bslP (by first | rfl | (simp [pureL, pureLL, AV.pure]; done) | fail) rfl ?_ | refine TakeC.full (by first | rfl | omega | (simp; done) | (simp; omega) | fail) ?_ | refine zBs ?_ | refine zBn ?_ | refine zBv rfl rfl ?_ | refine zN ?_ | refine zC ?_ | refine zC4 ?_ | refine zOr16 ?_ | refine zC1 ?_ | refine zByte ?_ | refine zMaxL ?_ | refine zMaxR ?_ | refine zMinL ?_ | refine zMinR ?_ | refine zShr ?_ | refine zC8 ?_ | refine zQ ?_ | refine zR ?_ | refine zS ?_ | refine zA ?_ | refine zM ?_ | refine xr rfl ?_ | refine ai rfl ?_ | refine condT ?_ | refine condF ?_ | refine condG1 ?_ | refine condG0 ?_ | refine cD ?_ | refine dD ?_ | refine cB ?_ | refine dB ?_ | refine cN ?_ | refine dN ?_ | refine cV ?_ | refine dV ?_ | refine cE ?_ | refine dE ?_ | refine condX0 ?_ | refine condX1 ?_ | refine condNot ?_ | refine condAnd ?_ | refine condOr ?_ | refine aO ?_ | refine aB ?_ | refine aR ?_ | refine aR ?_ (by simp; omega) | refine xr (by assumption) ?_ | refine ai (by assumption) ?_ | refine condD (fun h => ?_) (fun h => ?_) | refine condB (fun h => ?_) (fun h => ?_) | refine condN (fun h => ?_) (fun h => ?_) | refine condE (fun h => ?_) (fun h => ?_) | refine condV (fun h => ?_) (fun h => ?_))
  refine ev_keep [16, 3, 14, 15] [78] ?_
  exact next134_0 s.retry s.hold s.keep s.untl 0 _ _ _ _
end Go.AM.IR
set_option maxHeartbeats 4000000
set_option maxRecDepth 20000
namespace Go.AM.IR
attribute [local simp] pureLL_bytes
theorem timers_gives154 (s : Ses) (now : Int) (acts : List Act) (ha : acts.length < 2 ^ 28) : ∃ fl, Gives G 154 [.ref 1 0 0, .fn 150 [.ref 0 0 0]] [.cells [.ref 1 0 0], .cells (cellsR s now (.vs 2 0 acts.length)), .vec 28 (acts.map Act.enc)] (runRet3 (timersS s now acts) now fl) := by
  cases e1 : dueS s.untl now <;> cases e2 : dueS s.hold now
  · cases e3 : dueS s.keep now <;> cases e4 : dueS s.retry now
    · refine ⟨true, ?_⟩
      rw [show timersS s now acts = (s, acts) from by simp [timersS, tm1, tm3, tm4, e1, e2, e3, e4]]
      exact timers_none s now acts (by omega) e1 e2 e3 e4
    · exact ⟨false, timers_nnr s now acts ha e1 e2 e3 e4⟩
    · exact ⟨false, timers_nkn s now acts ha e1 e2 e3 e4⟩
    · exact ⟨false, timers_nkr s now acts ha e1 e2 e3 e4⟩
  · exact ⟨false, timers_nh s now acts ha e1 e2⟩
  · cases e3 : dueS s.keep now <;> cases e4 : dueS s.retry now
    · exact ⟨false, timers_unn s now acts ha e1 e2 e3 e4⟩
    · exact ⟨false, timers_unr s now acts ha e1 e2 e3 e4⟩
    · exact ⟨false, timers_ukn s now acts ha e1 e2 e3 e4⟩
    · exact ⟨false, timers_ukr s now acts ha e1 e2 e3 e4⟩
  · exact ⟨false, timers_uh s now acts ha e1 e2⟩
def handleRet (x : Ses × List Act) : Ret := ⟨.tup [.agg x.1.enc, .sl 28 (x.2.map Act.enc)], []⟩
theorem hEnd135 (s : Ses) (now : Int) (A : List Act) (g1 g2 g3 g4 n3 : Nat) (hn3 : n3 = A.length) (es : List (List AV)) (hes : es = A.map Act.enc) (T : List (Nat × AV)) (H : Heap) (c : Nat) :
    Ev G ⟨[.code (sfx 5 f135.body)], ⟨(16, .ref 80 g1 0) :: (14, .ref 78 g4 0) :: T, (78, some (g4, .cells [.int .i64 0, .int .i64 0, .int .i64 0, .int .i64 0, .int .i64 0, .int .u32 0, .int .i64 0, .bool false, .int .i64 0])) :: (80, some (g1, .cells [.ref 90 g2 0])) :: (90, some (g2, .cells (cellsR s now (.vs 500 g3 n3)))) :: (500, some (g3, .vec 28 es)) :: H, c⟩, f135.results, 0⟩ (handleRet (s, A)) := by
  subst hn3 hes
  have hl : (A.map Act.enc).length = A.length := by simp
  refine W_ok 300 _ _ _ _ ?_
  repeat' ((conv => whnf); first | refine bslP (by first | rfl | (simp [pureL, pureLL, AV.pure]; done) | fail) rfl ?_ | refine TakeC.full (by first | rfl | omega | (simp; done) | (simp; omega) | fail) ?_ | refine zBs ?_ | refine zBn ?_ | refine zBv rfl rfl ?_ | refine zN ?_ | refine zC ?_ | refine zC4 ?_ | refine zOr16 ?_ | refine zC1 ?_ | refine zByte ?_ | refine zMaxL ?_ | refine zMaxR ?_ | refine zMinL ?_ | refine zMinR ?_ | refine zShr ?_ | refine zC8 ?_ | refine zQ ?_ | refine zR ?_ | refine zS ?_ | refine zA ?_ | refine zM ?_ | refine xr rfl ?_ | refine ai rfl ?_ | refine condT ?_ | refine condF ?_ | refine condG1 ?_ | refine condG0 ?_ | refine cD ?_ | refine dD ?_ | refine cB ?_ | refine dB ?_ | refine cN ?_ | refine dN ?_ | refine cV ?_ | refine dV ?_ | refine cE ?_ | refine dE ?_ | refine condX0 ?_ | refine condX1 ?_ | refine condNot ?_ | refine condAnd ?_ | refine condOr ?_ | refine aO ?_ | refine aB ?_ | refine aR ?_ | refine aR ?_ (by simp; omega) | refine xr (by assumption) ?_ | refine ai (by assumption) ?_ | refine condD (fun h => ?_) (fun h => ?_) | refine condB (fun h => ?_) (fun h => ?_) | refine condN (fun h => ?_) (fun h => ?_) | refine condE (fun h => ?_) (fun h => ?_) | refine condV (fun h => ?_) (fun h => ?_))
  refine ev_frzk [(500, _, _)] [14, 15] [78] ⟨rfl, (by first | rfl | (simp [Blk.pure, pureL, pureLL, AV.pure, *]; done) | fail), trivial⟩ ?_; repeat ((conv => whnf); first | refine And.intro (by first | rfl | omega | (simp [pureL, pureLL, AV.pure]; done) | (simp; omega) | (simp [pureL, pureLL, AV.pure, *]; done) | assumption | fail) ?_ | intro T H)
  refine ev_fin ?_
  (conv => whnf)
  refine And.intro (by first | rfl | (simp [AV.pure, pureL, pureLL_bytes]; done) | fail) ?_
  (conv => whnf)
  first | exact And.intro rfl rfl | (refine And.intro (by first | rfl | (simp [AV.pure, pureL, pureLL_bytes]; done) | fail) ?_; (conv => whnf); rfl) | rfl
theorem hPre135 (s : Ses) (c : Conf) (hc : c.ok) (peer now ev er : Int) (ml : List AV) (hml : pureL ml = true) (hk : knownS c peer = true) (t : Ret)
    (h : ∀ (g1 g2 g3 g4 g7 g8 g12 : Nat) (T : List (Nat × AV)) (H : Heap) (ct : Nat), Ev G ⟨[.code (sfx 4 f135.body)], ⟨(16, .ref 80 g1 0) :: (17, .fn 150 [.ref 80 g1 0]) :: (14, .ref 78 g4 0) :: (4, .int .i64 ev) :: (2, .int .i64 peer) :: (3, .int .i64 now) :: (6, .int .i64 er) :: (7, .ref 71 g7 0) :: (8, .ref 72 g8 0) :: (12, .ref 76 g12 0) :: T,
      (71, some (g7, .cells s.enc)) :: (72, some (g8, .cells c.enc)) :: (76, some (g12, .cells ml)) :: (78, some (g4, .cells [.int .i64 0, .int .i64 0, .int .i64 0, .int .i64 0, .int .i64 0, .int .u32 0, .int .i64 0, .bool false, .int .i64 0])) :: (80, some (g1, .cells [.ref 90 g2 0])) :: (90, some (g2, .cells (cellsR s now (.vs 500 g3 0)))) :: (500, some (g3, .vec 28 [])) :: H, ct⟩, f135.results, 0⟩ t) :
    Gives G 135 [.agg s.enc, .agg c.enc, .int .i64 peer, .int .i64 now, .int .i64 ev, .agg ml, .int .i64 er] [] t := by
  have hp := hc.nets; have h1 := hc.p1; have h2 := hc.p2; have h3 := hc.p3; have h4 := hc.p4
  have hk0 := known_gives140 c hc hc.len peer
  rw [hk] at hk0
  refine gives_code (F := f135) rfl rfl ?_
  refine ev_seq (b := sfx 1 f135.body) ?_
  refine W_okd 1 300 _ _ _ _ ?_
  repeat' ((conv => whnf); first | refine bslP (by first | rfl | (simp [pureL, pureLL, AV.pure]; done) | fail) rfl ?_ | refine TakeC.full (by first | rfl | omega | (simp; done) | (simp; omega) | fail) ?_ | refine zBs ?_ | refine zBn ?_ | refine zBv rfl rfl ?_ | refine zN ?_ | refine zC ?_ | refine zC4 ?_ | refine zOr16 ?_ | refine zC1 ?_ | refine zByte ?_ | refine zMaxL ?_ | refine zMaxR ?_ | refine zMinL ?_ | refine zMinR ?_ | refine zShr ?_ | refine zC8 ?_ | refine zQ ?_ | refine zR ?_ | refine zS ?_ | refine zA ?_ | refine zM ?_ | refine xr rfl ?_ | refine ai rfl ?_ | refine condT ?_ | refine condF ?_ | refine condG1 ?_ | refine condG0 ?_ | refine cD ?_ | refine dD ?_ | refine cB ?_ | refine dB ?_ | refine cN ?_ | refine dN ?_ | refine cV ?_ | refine dV ?_ | refine cE ?_ | refine dE ?_ | refine condX0 ?_ | refine condX1 ?_ | refine condNot ?_ | refine condAnd ?_ | refine condOr ?_ | refine aO ?_ | refine aB ?_ | refine aR ?_ | refine aR ?_ (by simp; omega) | refine xr (by assumption) ?_ | refine ai (by assumption) ?_ | refine condD (fun h => ?_) (fun h => ?_) | refine condB (fun h => ?_) (fun h => ?_) | refine condN (fun h => ?_) (fun h => ?_) | refine condE (fun h => ?_) (fun h => ?_) | refine condV (fun h => ?_) (fun h => ?_))
  refine ev_seq (b := sfx 2 f135.body) ?_
  refine W_okd 1 300 _ _ _ _ ?_
  repeat' ((conv => whnf); first | refine kV hk0 ?_ (by simp [pureL, AV.pure, hp, h1, h2, h3, h4]) | refine bslP (by first | rfl | (simp [pureL, pureLL, AV.pure]; done) | fail) rfl ?_ | refine TakeC.full (by first | rfl | omega | (simp; done) | (simp; omega) | fail) ?_ | refine zBs ?_ | refine zBn ?_ | refine zBv rfl rfl ?_ | refine zN ?_ | refine zC ?_ | refine zC4 ?_ | refine zOr16 ?_ | refine zC1 ?_ | refine zByte ?_ | refine zMaxL ?_ | refine zMaxR ?_ | refine zMinL ?_ | refine zMinR ?_ | refine zShr ?_ | refine zC8 ?_ | refine zQ ?_ | refine zR ?_ | refine zS ?_ | refine zA ?_ | refine zM ?_ | refine xr rfl ?_ | refine ai rfl ?_ | refine condT ?_ | refine condF ?_ | refine condG1 ?_ | refine condG0 ?_ | refine cD ?_ | refine dD ?_ | refine cB ?_ | refine dB ?_ | refine cN ?_ | refine dN ?_ | refine cV ?_ | refine dV ?_ | refine cE ?_ | refine dE ?_ | refine condX0 ?_ | refine condX1 ?_ | refine condNot ?_ | refine condAnd ?_ | refine condOr ?_ | refine aO ?_ | refine aB ?_ | refine aR ?_ | refine aR ?_ (by simp; omega) | refine xr (by assumption) ?_ | refine ai (by assumption) ?_ | refine condD (fun h => ?_) (fun h => ?_) | refine condB (fun h => ?_) (fun h => ?_) | refine condN (fun h => ?_) (fun h => ?_) | refine condE (fun h => ?_) (fun h => ?_) | refine condV (fun h => ?_) (fun h => ?_))
  refine ev_seq (b := sfx 3 f135.body) ?_
  refine W_okd 1 300 _ _ _ _ ?_
  repeat' ((conv => whnf); first | refine bslP (by first | rfl | (simp [pureL, pureLL, AV.pure]; done) | fail) rfl ?_ | refine TakeC.full (by first | rfl | omega | (simp; done) | (simp; omega) | fail) ?_ | refine zBs ?_ | refine zBn ?_ | refine zBv rfl rfl ?_ | refine zN ?_ | refine zC ?_ | refine zC4 ?_ | refine zOr16 ?_ | refine zC1 ?_ | refine zByte ?_ | refine zMaxL ?_ | refine zMaxR ?_ | refine zMinL ?_ | refine zMinR ?_ | refine zShr ?_ | refine zC8 ?_ | refine zQ ?_ | refine zR ?_ | refine zS ?_ | refine zA ?_ | refine zM ?_ | refine xr rfl ?_ | refine ai rfl ?_ | refine condT ?_ | refine condF ?_ | refine condG1 ?_ | refine condG0 ?_ | refine cD ?_ | refine dD ?_ | refine cB ?_ | refine dB ?_ | refine cN ?_ | refine dN ?_ | refine cV ?_ | refine dV ?_ | refine cE ?_ | refine dE ?_ | refine condX0 ?_ | refine condX1 ?_ | refine condNot ?_ | refine condAnd ?_ | refine condOr ?_ | refine aO ?_ | refine aB ?_ | refine aR ?_ | refine aR ?_ (by simp; omega) | refine xr (by assumption) ?_ | refine ai (by assumption) ?_ | refine condD (fun h => ?_) (fun h => ?_) | refine condB (fun h => ?_) (fun h => ?_) | refine condN (fun h => ?_) (fun h => ?_) | refine condE (fun h => ?_) (fun h => ?_) | refine condV (fun h => ?_) (fun h => ?_))
  refine ev_seq (b := sfx 4 f135.body) ?_
  refine W_okd 1 300 _ _ _ _ ?_
  repeat' ((conv => whnf); first | refine bslP (by first | rfl | (simp [pureL, pureLL, AV.pure]; done) | fail) rfl ?_ | refine TakeC.full (by first | rfl | omega | (simp; done) | (simp; omega) | fail) ?_ | refine zBs ?_ | refine zBn ?_ | refine zBv rfl rfl ?_ | refine zN ?_ | refine zC ?_ | refine zC4 ?_ | refine zOr16 ?_ | refine zC1 ?_ | refine zByte ?_ | refine zMaxL ?_ | refine zMaxR ?_ | refine zMinL ?_ | refine zMinR ?_ | refine zShr ?_ | refine zC8 ?_ | refine zQ ?_ | refine zR ?_ | refine zS ?_ | refine zA ?_ | refine zM ?_ | refine xr rfl ?_ | refine ai rfl ?_ | refine condT ?_ | refine condF ?_ | refine condG1 ?_ | refine condG0 ?_ | refine cD ?_ | refine dD ?_ | refine cB ?_ | refine dB ?_ | refine cN ?_ | refine dN ?_ | refine cV ?_ | refine dV ?_ | refine cE ?_ | refine dE ?_ | refine condX0 ?_ | refine condX1 ?_ | refine condNot ?_ | refine condAnd ?_ | refine condOr ?_ | refine aO ?_ | refine aB ?_ | refine aR ?_ | refine aR ?_ (by simp; omega) | refine xr (by assumption) ?_ | refine ai (by assumption) ?_ | refine condD (fun h => ?_) (fun h => ?_) | refine condB (fun h => ?_) (fun h => ?_) | refine condN (fun h => ?_) (fun h => ?_) | refine condE (fun h => ?_) (fun h => ?_) | refine condV (fun h => ?_) (fun h => ?_))
  refine ev_nil 500 28 [] [(90, some (_, .cells (cellsR s now (.vs 500 _ 0))))] trivial ⟨⟨rfl, (by repeat' (first | exact trivial | exact LeP.refl _ | exact LeP.nilV _ _ _ | refine ⟨?_, ?_⟩))⟩, trivial⟩ ?_
  refine ev_keep [16, 17, 14, 4, 2, 3, 6, 7, 8, 12] [71, 72, 76, 78, 80, 90, 500] ?_
  exact h _ _ _ _ _ _ _ _ _ _
theorem handle5_gives135 (s : Ses) (c : Conf) (hc : c.ok) (peer now er : Int) (ml : List AV) (hml : pureL ml = true) (hk : knownS c peer = true) :
    Gives G 135 [.agg s.enc, .agg c.enc, .int .i64 peer, .int .i64 now, .int .i64 5, .agg ml, .int .i64 er] [] (handleRet (timersS s now [])) := by
  refine hPre135 s c hc peer now 5 er ml hml hk _ ?_
  intro g1 g2 g3 g4 g7 g8 g12 T H ct
  obtain ⟨fl, ht⟩ := timers_gives154 s now [] (by simp)
  unfold runRet3 at ht
  have hx : handleRet (timersS s now []) = handleRet ((timersS s now []).1, (timersS s now []).2) := rfl
  rw [hx]
  generalize (timersS s now []).1 = s' at *
  generalize (timersS s now []).2 = A at *
  refine ev_seq (b := sfx 5 f135.body) ?_
  refine W_okd 1 300 _ _ _ _ ?_
  repeat' ((conv => whnf); first | refine bslP (by first | rfl | (simp [pureL, pureLL, AV.pure]; done) | fail) rfl ?_ | refine TakeC.full (by first | rfl | omega | (simp; done) | (simp; omega) | fail) ?_ | refine zBs ?_ | refine zBn ?_ | refine zBv rfl rfl ?_ | refine zN ?_ | refine zC ?_ | refine zC4 ?_ | refine zOr16 ?_ | refine zC1 ?_ | refine zByte ?_ | refine zMaxL ?_ | refine zMaxR ?_ | refine zMinL ?_ | refine zMinR ?_ | refine zShr ?_ | refine zC8 ?_ | refine zQ ?_ | refine zR ?_ | refine zS ?_ | refine zA ?_ | refine zM ?_ | refine xr rfl ?_ | refine ai rfl ?_ | refine condT ?_ | refine condF ?_ | refine condG1 ?_ | refine condG0 ?_ | refine cD ?_ | refine dD ?_ | refine cB ?_ | refine dB ?_ | refine cN ?_ | refine dN ?_ | refine cV ?_ | refine dV ?_ | refine cE ?_ | refine dE ?_ | refine condX0 ?_ | refine condX1 ?_ | refine condNot ?_ | refine condAnd ?_ | refine condOr ?_ | refine aO ?_ | refine aB ?_ | refine aR ?_ | refine aR ?_ (by simp; omega) | refine xr (by assumption) ?_ | refine ai (by assumption) ?_ | refine kX [(80, _, _), (90, _, _), (500, _, _)] [] ⟨rfl, rfl, rfl, trivial⟩ trivial (ht) ?_ | refine condD (fun h => ?_) (fun h => ?_) | refine condB (fun h => ?_) (fun h => ?_) | refine condN (fun h => ?_) (fun h => ?_) | refine condE (fun h => ?_) (fun h => ?_) | refine condV (fun h => ?_) (fun h => ?_))
  refine ev_keep [16, 14] [78, 80, 90, 500] ?_
  exact hEnd135 s' now A _ _ _ _ _ rfl _ rfl _ _ _
end Go.AM.IR
set_option maxHeartbeats 4000000
set_option maxRecDepth 20000
namespace Go.AM.IR
attribute [local simp] pureLL_bytes
theorem leastS_ok {a t now : Int} (h1 : a = 0 ∨ now < a) (h2 : t = 0 ∨ now < t) : leastS a t = 0 ∨ now < leastS a t := by
  unfold leastS; split
  · exact h2
  · exact h1
theorem nextS_ok {s : Ses} {now : Int} (h1 : s.retry = 0 ∨ now < s.retry) (h2 : s.hold = 0 ∨ now < s.hold) (h3 : s.keep = 0 ∨ now < s.keep) (h4 : s.untl = 0 ∨ now < s.untl) : nextS s = 0 ∨ now < nextS s :=
  leastS_ok (leastS_ok (leastS_ok (leastS_ok (.inl rfl) h1) h2) h3) h4
theorem due_false {t now : Int} (h : dueS t now = false) : t = 0 ∨ now < t := by
  unfold dueS at h; simp at h; omega
theorem timer_law (s : Ses) (now : Int) (h1 : 1 ≤ now) (h2 : now ≤ 1099511627776) (h3 : s.keep = 0 ∨ 3 ≤ s.holdTime) (h4 : s.holdTime ≤ 65535) : nextS (timersS s now []).1 = 0 ∨ now < nextS (timersS s now []).1 := by
  have w30 : wr (now + 30) = now + 30 := wr_eq (by omega) (by omega)
  have hu : (tm1 s now []).1.untl = 0 ∨ now < (tm1 s now []).1.untl := by
    cases h : dueS s.untl now
    · simp only [tm1, h, cond_false]; exact due_false h
    · simp [tm1, h]
  have hr : (tm1 s now []).1.retry = s.retry ∧ (tm1 s now []).1.hold = s.hold ∧ (tm1 s now []).1.keep = s.keep ∧ (tm1 s now []).1.holdTime = s.holdTime := by
    cases h : dueS s.untl now <;> simp [tm1, h]
  obtain ⟨r1, r2, r3, r4⟩ := hr
  unfold timersS
  generalize hx : tm1 s now [] = x at *
  obtain ⟨y, A⟩ := x
  simp only at hu r1 r2 r3 r4 ⊢
  cases hd : dueS y.hold now
  · simp only [cond_false]
    have hk : (tm3 (y, A) now).1.keep = 0 ∨ now < (tm3 (y, A) now).1.keep := by
      cases h : dueS y.keep now
      · simp only [tm3, h, cond_false]; exact due_false h
      · have hk0 : y.keep ≠ 0 := by unfold dueS at h; simp at h; exact h.1
        have hq : wr (y.holdTime.tdiv 3) = y.holdTime / 3 := by
          rw [Int.tdiv_eq_ediv_of_nonneg (by omega)]; exact wr_eq (by omega) (by omega)
        simp only [tm3, h, cond_true, hq]
        rw [wr_eq (by omega) (by omega)]; omega
    have hs : (tm3 (y, A) now).1.retry = y.retry ∧ (tm3 (y, A) now).1.hold = y.hold ∧ (tm3 (y, A) now).1.untl = y.untl := by
      cases h : dueS y.keep now <;> simp [tm3, h]
    obtain ⟨q1, q2, q3⟩ := hs
    generalize tm3 (y, A) now = z at *
    obtain ⟨z, B⟩ := z
    simp only at hk q1 q2 q3 ⊢
    have hh := due_false hd
    cases h : dueS z.retry now
    · simp only [tm4, h, cond_false]
      exact nextS_ok (due_false h) (by omega) (by omega) (by omega)
    · simp only [tm4, h, cond_true]
      exact nextS_ok (by right; simp only; omega) (by simp only; omega) (by simp only; omega) (by simp only; omega)
  · simp only [cond_true]
    refine nextS_ok ?_ (.inl rfl) (.inl rfl) ?_
    · right; simp only [lostS]; omega
    · simp only [lostS]; exact hu
theorem law123_gives (s : Ses) (c : Conf) (hc : c.ok) (now : Int) : Gives G 123 [.agg s.enc, .agg c.enc, .int .i64 now] [] ⟨.bool true, []⟩ := by
  have hp := hc.nets; have h1 := hc.p1; have h2 := hc.p2; have h3 := hc.p3; have h4 := hc.p4
  have hll : (c.peers.map Peer.enc).length = c.peers.length := by simp
  have n1 := next_gives133 s
  have n2 := next_gives134 s
  by_cases hpe : c.peers.length = 0
  · refine gives_code (F := f123) rfl rfl (W_ok 300 _ _ _ _ ?_)
    repeat' ((conv => whnf); first | refine bslP (by first | rfl | (simp [pureL, pureLL, AV.pure]; done) | fail) rfl ?_ | refine TakeC.full (by first | rfl | omega | (simp; done) | (simp; omega) | fail) ?_ | refine zBs ?_ | refine zBn ?_ | refine zBv rfl rfl ?_ | refine zN ?_ | refine zC ?_ | refine zC4 ?_ | refine zOr16 ?_ | refine zC1 ?_ | refine zByte ?_ | refine zMaxL ?_ | refine zMaxR ?_ | refine zMinL ?_ | refine zMinR ?_ | refine zShr ?_ | refine zC8 ?_ | refine zQ ?_ | refine zR ?_ | refine zS ?_ | refine zA ?_ | refine zM ?_ | refine xr rfl ?_ | refine ai rfl ?_ | refine condT ?_ | refine condF ?_ | refine condG1 ?_ | refine condG0 ?_ | refine cD ?_ | refine dD ?_ | refine cB ?_ | refine dB ?_ | refine cN ?_ | refine dN ?_ | refine cV ?_ | refine dV ?_ | refine cE ?_ | refine dE ?_ | refine condX0 ?_ | refine condX1 ?_ | refine condNot ?_ | refine condAnd ?_ | refine condOr ?_ | refine aO ?_ | refine aB ?_ | refine aR ?_ | refine aR ?_ (by simp; omega) | refine xr (by assumption) ?_ | refine ai (by assumption) ?_ | refine kV (n1) ?_ | refine kV (n2) ?_ | refine kV (awake129_gives) ?_ | refine condD (fun h => ?_) (fun h => ?_) | refine condB (fun h => ?_) (fun h => ?_) | refine condN (fun h => ?_) (fun h => ?_) | refine condE (fun h => ?_) (fun h => ?_) | refine condV (fun h => ?_) (fun h => ?_))
    all_goals try ((first | refine ev_fin (And.intro (by first | rfl | (simp [AV.pure, pureL]; done) | fail) ?_) | refine ev_fin0 (And.intro (by first | rfl | (simp [AV.pure, pureL]; done) | fail) ?_)); first | rfl | (simp [Bool.cond_eq_ite, *]; done) | (simp [Bool.cond_eq_ite, *]; omega))
  · have hk : knownS c 0 = true := by simp [knownS]; omega
    have hh := handle5_gives135 s c hc 0 now 0 [.int .i64 0, .int .i64 0, .int .i64 0, .int .i64 0, .int .u32 0, nilV, nilV, .int .i64 0, nilV, .int .u32 0, .bool false, .int .i64 0, .bool false, .int .i64 0, .bool false, .bool false, .int .i64 0, .int .u32 0, nilV, .bool false, .int .u32 0, nilV, nilV, nilV, .int .i64 0, .int .i64 0, nilV] rfl hk
    unfold nilV handleRet at hh
    have hq := timer_law s now
    have n3 := next_gives133 (timersS s now []).1
    generalize (timersS s now []).1 = t at *
    generalize (timersS s now []).2 = A at *
    generalize nextS t = nt at *
    refine gives_code (F := f123) rfl rfl (W_ok 300 _ _ _ _ ?_)
    repeat' ((conv => whnf); first | refine callW hh ?_ (by simp [pureL, AV.pure, hp, h1, h2, h3, h4]) | refine bslP (by first | rfl | (simp [pureL, pureLL, AV.pure]; done) | fail) rfl ?_ | refine TakeC.full (by first | rfl | omega | (simp; done) | (simp; omega) | fail) ?_ | refine zBs ?_ | refine zBn ?_ | refine zBv rfl rfl ?_ | refine zN ?_ | refine zC ?_ | refine zC4 ?_ | refine zOr16 ?_ | refine zC1 ?_ | refine zByte ?_ | refine zMaxL ?_ | refine zMaxR ?_ | refine zMinL ?_ | refine zMinR ?_ | refine zShr ?_ | refine zC8 ?_ | refine zQ ?_ | refine zR ?_ | refine zS ?_ | refine zA ?_ | refine zM ?_ | refine xr rfl ?_ | refine ai rfl ?_ | refine condT ?_ | refine condF ?_ | refine condG1 ?_ | refine condG0 ?_ | refine cD ?_ | refine dD ?_ | refine cB ?_ | refine dB ?_ | refine cN ?_ | refine dN ?_ | refine cV ?_ | refine dV ?_ | refine cE ?_ | refine dE ?_ | refine condX0 ?_ | refine condX1 ?_ | refine condNot ?_ | refine condAnd ?_ | refine condOr ?_ | refine aO ?_ | refine aB ?_ | refine aR ?_ | refine aR ?_ (by simp; omega) | refine xr (by assumption) ?_ | refine ai (by assumption) ?_ | refine kV (n1) ?_ | refine kV (n2) ?_ | refine kV (awake129_gives) ?_ | refine kV (n3) ?_ | refine condD (fun h => ?_) (fun h => ?_) | refine condB (fun h => ?_) (fun h => ?_) | refine condN (fun h => ?_) (fun h => ?_) | refine condE (fun h => ?_) (fun h => ?_) | refine condV (fun h => ?_) (fun h => ?_))
    all_goals (try (first | refine ev_fin (And.intro (by first | rfl | (simp [AV.pure, pureL]; done) | fail) ?_) | refine ev_fin0 (And.intro (by first | rfl | (simp [AV.pure, pureL]; done) | fail) ?_)))
    all_goals first | rfl | (exfalso; omega) | (simp only [*]; done)
theorem law123_all (ass : List (List AV)) (h : ArgsT [tSes, tCnf, .int .i64] ass) : Gives G 123 (argsA [tSes, tCnf, .int .i64] ass) [] ⟨.bool true, []⟩ := by
  obtain ⟨x, s1, rfl, h1, h⟩ := argsT_cons h
  obtain ⟨y, s2, rfl, h2, h⟩ := argsT_cons h
  obtain ⟨z, s3, rfl, h3, h⟩ := argsT_cons h
  obtain rfl := argsT_nil h
  obtain ⟨s, rfl, _⟩ := T_ses h1
  obtain ⟨c, rfl, hc⟩ := T_cnf h2
  obtain ⟨now, rfl, _⟩ := T_i64 h3
  exact law123_gives s c hc now
end Go.AM.IR
