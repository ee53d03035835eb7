/- What the functions of this program give, on the abstract machine. -/
import Derived.Test.YtmegckhnpipdhaaDoorDataA
import Derived.Test.YtmegckhnpipdhaaDoorMachineC
import Derived.KernelRfl
set_option linter.unusedVariables false
set_option linter.unusedSimpArgs false
set_option maxHeartbeats 4000000
set_option maxRecDepth 20000
namespace Go.AM.IR
def setA (w : Nat) (k : Nat) (v : List UInt8) (a : Attrs) : Option Attrs :=
  match k with
  | 1 => match v with
    | [x] => some { a with origin := (x.toNat : Int) }
    | _ => none
  | 2 => (segsD w v).map fun p => { a with path := p }
  | 3 => if v.length = 4 then some { a with nextHop := (rd v : Int) } else none
  | 4 => if v.length = 4 then some { a with hasMED := true, med := (rd v : Int) } else none
  | 5 => if v.length = 4 then some { a with hasPref := true, pref := (rd v : Int) } else none
  | 6 => if v.length = 0 then some { a with atomic := true } else none
  | 7 => if v.length = w + 4 then some { a with hasAggr := true, aggrAS := (rd (v.take w) : Int), aggrAddr := (rd (v.drop w) : Int) } else none
  | 8 => if wordsOk v then some { a with comms := wordsD v } else none
  | 9 => if v.length = 4 then some { a with hasOrig := true, orig := (rd v : Int) } else none
  | 10 => if wordsOk v then some { a with clusters := wordsD v } else none
  | k => some { a with unknown := a.unknown ++ [⟨(k : Int), v⟩] }
theorem setA_other {w k : Nat} {v : List UInt8} {a : Attrs} (h : k = 0 ∨ 11 ≤ k) : setA w k v a = some { a with unknown := a.unknown ++ [⟨(k : Int), v⟩] } := by
  unfold setA; split <;> first | omega | rfl
def badA (k : Nat) (v : List UInt8) (a : Attrs) : Attrs :=
  match k with
  | 2 => { a with path := [] }
  | 3 => { a with nextHop := 0 }
  | 4 => { a with hasMED := true, med := 0 }
  | 5 => { a with hasPref := true, pref := 0 }
  | 6 => { a with atomic := true }
  | 8 => { a with comms := wordsD v }
  | 9 => { a with hasOrig := true, orig := 0 }
  | 10 => { a with clusters := wordsD v }
  | _ => a
def Attrs.cellsV (a : Attrs) (u : AV) : List AV := [.int .i64 a.origin, .sl 2 (a.path.map Seg.enc), .int .u32 a.nextHop, .bool a.hasMED, .int .i64 a.med, .bool a.hasPref, .int .i64 a.pref, .bool a.atomic, .bool a.hasAggr, .int .i64 a.aggrAS, .int .u32 a.aggrAddr,
  .sl 1 (a.comms.map encU), .bool a.hasOrig, .int .u32 a.orig, .sl 1 (a.clusters.map encU), u]
def isKind (k : Nat) : Bool := decide (1 ≤ k ∧ k ≤ 10)
def readRet (ok fl : Bool) (a : Attrs) : Ret := ⟨.bool ok, [(true, .cells (a.cellsV (.vs 1 0 a.unknown.length))), (fl, .vec 2 (a.unknown.map TLV.enc))]⟩
def readR (w k : Nat) (v : List UInt8) (a : Attrs) : Ret :=
  match setA w k v a with
  | some a' => readRet true (isKind k) a'
  | none => readRet false true (badA k v a)
theorem rd_u32 {v : List UInt8} (h : v.length ≤ 4) : (rd v : Int) ≤ 4294967295 := by have := rd_le h; omega
theorem take_drop0 (v : List UInt8) (n : Nat) (h : v.length = n) : (v.drop 0).take n = v := by rw [List.drop_zero, List.take_of_length_le (by omega)]
theorem read1 (a : Attrs) (v : List UInt8) (hv : v.length < 2 ^ 29) (hu : a.unknown.length < 2 ^ 30) (w : Nat) (hw : w ≤ 4) : Gives G 95 [.ref 0 0 0, .int .i64 1, .sl 1 (byteCells v), .int .i64 (w : Int)] [.cells (a.cellsV (.vs 1 0 a.unknown.length)), .vec 2 (a.unknown.map TLV.enc)] (readR w 1 v a) := by
  have hbl := byteCells_length v
  have hg4 : v.length = 4 → Gives G 93 [.sl 1 (byteCells v), .int .i64 0, .int .i64 4] [] ⟨.int .i64 (rd v : Int), []⟩ := fun h => by
    have hget := get_gives93 v (by omega) 0 4 (by omega) (by omega) (by omega) (by omega)
    rwa [show (4 : Int).toNat = 4 from rfl, show (0 : Int).toNat = 0 from rfl, take_drop0 v 4 h] at hget
  match v, hv, hbl, hg4 with
  | [], hv, hbl, hg4 =>
    refine gives_code (F := f95) rfl rfl (W_ok 300 _ _ _ _ ?_)
    repeat' ((conv => whnf); first | refine bslP (by first | rfl | (simp [pureL, pureLL, AV.pure]; done) | fail) rfl ?_ | refine TakeC.full (by first | rfl | omega | (simp; done) | (simp; omega) | fail) ?_ | refine zBs ?_ | refine zBn ?_ | refine zBv rfl rfl ?_ | refine zN ?_ | refine zC ?_ | refine zC4 ?_ | refine zOr16 ?_ | refine zC1 ?_ | refine zByte ?_ | refine zMaxL ?_ | refine zMaxR ?_ | refine zMinL ?_ | refine zMinR ?_ | refine zShr ?_ | refine zC8 ?_ | refine zQ ?_ | refine zR ?_ | refine zS ?_ | refine zA ?_ | refine zM ?_ | refine xr rfl ?_ | refine ai rfl ?_ | refine condT ?_ | refine condF ?_ | refine condG1 ?_ | refine condG0 ?_ | refine cD ?_ | refine dD ?_ | refine cB ?_ | refine dB ?_ | refine cN ?_ | refine dN ?_ | refine cV ?_ | refine dV ?_ | refine cE ?_ | refine dE ?_ | refine condX0 ?_ | refine condX1 ?_ | refine condNot ?_ | refine condAnd ?_ | refine condOr ?_ | refine aO ?_ | refine aB ?_ | refine aR ?_ | refine aR ?_ (by simp; omega) | refine xr (by assumption) ?_ | refine ai (by assumption) ?_ | refine condD (fun h => ?_) (fun h => ?_) | refine condB (fun h => ?_) (fun h => ?_) | refine condN (fun h => ?_) (fun h => ?_) | refine condE (fun h => ?_) (fun h => ?_) | refine condV (fun h => ?_) (fun h => ?_))
    all_goals ((conv => whnf); first | refine ev_finX [(0, _, _), (1, _, _)] [] [true, true] (Nat.succ_pos _) ⟨rfl, rfl, trivial⟩ rfl (by repeat' (first | exact trivial | rfl | refine And.intro ?_ ?_ | (simp [pureL, pureLL, AV.pure, Blk.renS, Blk.okS, Blk.okX, AV.okS, AV.okX]; done) | omega | fail)) ⟨(by first | rfl | exact (decide_eq_false (by omega)).symm), (by first | rfl | exact (decide_eq_false (by omega)).symm), trivial⟩ ⟨rfl, (by repeat' (first | exact trivial | rfl | refine And.intro ?_ ?_ | (simp [pureL, pureLL, AV.pure, Blk.renS, Blk.okS, Blk.okX, AV.okS, AV.okX]; done) | omega | fail)), ?_⟩ | refine ev_finX0 [(0, _, _), (1, _, _)] [] [true, true] (Nat.succ_pos _) ⟨rfl, rfl, trivial⟩ rfl (by repeat' (first | exact trivial | rfl | refine And.intro ?_ ?_ | (simp [pureL, pureLL, AV.pure, Blk.renS, Blk.okS, Blk.okX, AV.okS, AV.okX]; done) | omega | fail)) ⟨(by first | rfl | exact (decide_eq_false (by omega)).symm), (by first | rfl | exact (decide_eq_false (by omega)).symm), trivial⟩ ⟨rfl, (by repeat' (first | exact trivial | rfl | refine And.intro ?_ ?_ | (simp [pureL, pureLL, AV.pure, Blk.renS, Blk.okS, Blk.okX, AV.okS, AV.okX]; done) | omega | fail)), ?_⟩)
    all_goals rfl
  | [x], hv, hbl, hg4 =>
    have hx := x.toNat_lt
    refine gives_code (F := f95) rfl rfl (W_ok 300 _ _ _ _ ?_)
    repeat' ((conv => whnf); first | refine bslP (by first | rfl | (simp [pureL, pureLL, AV.pure]; done) | fail) rfl ?_ | refine TakeC.full (by first | rfl | omega | (simp; done) | (simp; omega) | fail) ?_ | refine zBs ?_ | refine zBn ?_ | refine zBv rfl rfl ?_ | refine zN ?_ | refine zC ?_ | refine zC4 ?_ | refine zOr16 ?_ | refine zC1 ?_ | refine zByte ?_ | refine zMaxL ?_ | refine zMaxR ?_ | refine zMinL ?_ | refine zMinR ?_ | refine zShr ?_ | refine zC8 ?_ | refine zQ ?_ | refine zR ?_ | refine zS ?_ | refine zA ?_ | refine zM ?_ | refine xr rfl ?_ | refine ai rfl ?_ | refine condT ?_ | refine condF ?_ | refine condG1 ?_ | refine condG0 ?_ | refine cD ?_ | refine dD ?_ | refine cB ?_ | refine dB ?_ | refine cN ?_ | refine dN ?_ | refine cV ?_ | refine dV ?_ | refine cE ?_ | refine dE ?_ | refine condX0 ?_ | refine condX1 ?_ | refine condNot ?_ | refine condAnd ?_ | refine condOr ?_ | refine aO ?_ | refine aB ?_ | refine aR ?_ | refine aR ?_ (by simp; omega) | refine xr (by assumption) ?_ | refine ai (by assumption) ?_ | refine condD (fun h => ?_) (fun h => ?_) | refine condB (fun h => ?_) (fun h => ?_) | refine condN (fun h => ?_) (fun h => ?_) | refine condE (fun h => ?_) (fun h => ?_) | refine condV (fun h => ?_) (fun h => ?_))
    all_goals ((conv => whnf); first | refine ev_finX [(0, _, _), (1, _, _)] [] [true, true] (Nat.succ_pos _) ⟨rfl, rfl, trivial⟩ rfl (by repeat' (first | exact trivial | rfl | refine And.intro ?_ ?_ | (simp [pureL, pureLL, AV.pure, Blk.renS, Blk.okS, Blk.okX, AV.okS, AV.okX]; done) | omega | fail)) ⟨(by first | rfl | exact (decide_eq_false (by omega)).symm), (by first | rfl | exact (decide_eq_false (by omega)).symm), trivial⟩ ⟨rfl, (by repeat' (first | exact trivial | rfl | refine And.intro ?_ ?_ | (simp [pureL, pureLL, AV.pure, Blk.renS, Blk.okS, Blk.okX, AV.okS, AV.okX]; done) | omega | fail)), ?_⟩ | refine ev_finX0 [(0, _, _), (1, _, _)] [] [true, true] (Nat.succ_pos _) ⟨rfl, rfl, trivial⟩ rfl (by repeat' (first | exact trivial | rfl | refine And.intro ?_ ?_ | (simp [pureL, pureLL, AV.pure, Blk.renS, Blk.okS, Blk.okX, AV.okS, AV.okX]; done) | omega | fail)) ⟨(by first | rfl | exact (decide_eq_false (by omega)).symm), (by first | rfl | exact (decide_eq_false (by omega)).symm), trivial⟩ ⟨rfl, (by repeat' (first | exact trivial | rfl | refine And.intro ?_ ?_ | (simp [pureL, pureLL, AV.pure, Blk.renS, Blk.okS, Blk.okX, AV.okS, AV.okX]; done) | omega | fail)), ?_⟩)
    all_goals rfl
  | x :: y :: r, hv, hbl, hg4 =>
    simp only [List.length_cons] at hbl
    by_cases h4 : (x :: y :: r).length = 4
    · have hget := hg4 h4
      have hr := rd_u32 (v := x :: y :: r) (by omega)
      simp only [List.length_cons] at h4
      refine gives_code (F := f95) rfl rfl (W_ok 300 _ _ _ _ ?_)
      repeat' ((conv => whnf); first | refine bslP (by first | rfl | (simp [pureL, pureLL, AV.pure]; done) | fail) rfl ?_ | refine TakeC.full (by first | rfl | omega | (simp; done) | (simp; omega) | fail) ?_ | refine zBs ?_ | refine zBn ?_ | refine zBv rfl rfl ?_ | refine zN ?_ | refine zC ?_ | refine zC4 ?_ | refine zOr16 ?_ | refine zC1 ?_ | refine zByte ?_ | refine zMaxL ?_ | refine zMaxR ?_ | refine zMinL ?_ | refine zMinR ?_ | refine zShr ?_ | refine zC8 ?_ | refine zQ ?_ | refine zR ?_ | refine zS ?_ | refine zA ?_ | refine zM ?_ | refine xr rfl ?_ | refine ai rfl ?_ | refine condT ?_ | refine condF ?_ | refine condG1 ?_ | refine condG0 ?_ | refine cD ?_ | refine dD ?_ | refine cB ?_ | refine dB ?_ | refine cN ?_ | refine dN ?_ | refine cV ?_ | refine dV ?_ | refine cE ?_ | refine dE ?_ | refine condX0 ?_ | refine condX1 ?_ | refine condNot ?_ | refine condAnd ?_ | refine condOr ?_ | refine aO ?_ | refine aB ?_ | refine aR ?_ | refine aR ?_ (by simp; omega) | refine xr (by assumption) ?_ | refine ai (by assumption) ?_ | refine kV (hget) ?_ | refine condD (fun h => ?_) (fun h => ?_) | refine condB (fun h => ?_) (fun h => ?_) | refine condN (fun h => ?_) (fun h => ?_) | refine condE (fun h => ?_) (fun h => ?_) | refine condV (fun h => ?_) (fun h => ?_))
      all_goals ((conv => whnf); first | refine ev_finX [(0, _, _), (1, _, _)] [] [true, true] (Nat.succ_pos _) ⟨rfl, rfl, trivial⟩ rfl (by repeat' (first | exact trivial | rfl | refine And.intro ?_ ?_ | (simp [pureL, pureLL, AV.pure, Blk.renS, Blk.okS, Blk.okX, AV.okS, AV.okX]; done) | omega | fail)) ⟨(by first | rfl | exact (decide_eq_false (by omega)).symm), (by first | rfl | exact (decide_eq_false (by omega)).symm), trivial⟩ ⟨rfl, (by repeat' (first | exact trivial | rfl | refine And.intro ?_ ?_ | (simp [pureL, pureLL, AV.pure, Blk.renS, Blk.okS, Blk.okX, AV.okS, AV.okX]; done) | omega | fail)), ?_⟩ | refine ev_finX0 [(0, _, _), (1, _, _)] [] [true, true] (Nat.succ_pos _) ⟨rfl, rfl, trivial⟩ rfl (by repeat' (first | exact trivial | rfl | refine And.intro ?_ ?_ | (simp [pureL, pureLL, AV.pure, Blk.renS, Blk.okS, Blk.okX, AV.okS, AV.okX]; done) | omega | fail)) ⟨(by first | rfl | exact (decide_eq_false (by omega)).symm), (by first | rfl | exact (decide_eq_false (by omega)).symm), trivial⟩ ⟨rfl, (by repeat' (first | exact trivial | rfl | refine And.intro ?_ ?_ | (simp [pureL, pureLL, AV.pure, Blk.renS, Blk.okS, Blk.okX, AV.okS, AV.okX]; done) | omega | fail)), ?_⟩)
      all_goals rfl
    · simp only [List.length_cons] at h4
      refine gives_code (F := f95) rfl rfl (W_ok 300 _ _ _ _ ?_)
      repeat' ((conv => whnf); first | refine bslP (by first | rfl | (simp [pureL, pureLL, AV.pure]; done) | fail) rfl ?_ | refine TakeC.full (by first | rfl | omega | (simp; done) | (simp; omega) | fail) ?_ | refine zBs ?_ | refine zBn ?_ | refine zBv rfl rfl ?_ | refine zN ?_ | refine zC ?_ | refine zC4 ?_ | refine zOr16 ?_ | refine zC1 ?_ | refine zByte ?_ | refine zMaxL ?_ | refine zMaxR ?_ | refine zMinL ?_ | refine zMinR ?_ | refine zShr ?_ | refine zC8 ?_ | refine zQ ?_ | refine zR ?_ | refine zS ?_ | refine zA ?_ | refine zM ?_ | refine xr rfl ?_ | refine ai rfl ?_ | refine condT ?_ | refine condF ?_ | refine condG1 ?_ | refine condG0 ?_ | refine cD ?_ | refine dD ?_ | refine cB ?_ | refine dB ?_ | refine cN ?_ | refine dN ?_ | refine cV ?_ | refine dV ?_ | refine cE ?_ | refine dE ?_ | refine condX0 ?_ | refine condX1 ?_ | refine condNot ?_ | refine condAnd ?_ | refine condOr ?_ | refine aO ?_ | refine aB ?_ | refine aR ?_ | refine aR ?_ (by simp; omega) | refine xr (by assumption) ?_ | refine ai (by assumption) ?_ | refine condD (fun h => ?_) (fun h => ?_) | refine condB (fun h => ?_) (fun h => ?_) | refine condN (fun h => ?_) (fun h => ?_) | refine condE (fun h => ?_) (fun h => ?_) | refine condV (fun h => ?_) (fun h => ?_))
      all_goals ((conv => whnf); first | refine ev_finX [(0, _, _), (1, _, _)] [] [true, true] (Nat.succ_pos _) ⟨rfl, rfl, trivial⟩ rfl (by repeat' (first | exact trivial | rfl | refine And.intro ?_ ?_ | (simp [pureL, pureLL, AV.pure, Blk.renS, Blk.okS, Blk.okX, AV.okS, AV.okX]; done) | omega | fail)) ⟨(by first | rfl | exact (decide_eq_false (by omega)).symm), (by first | rfl | exact (decide_eq_false (by omega)).symm), trivial⟩ ⟨rfl, (by repeat' (first | exact trivial | rfl | refine And.intro ?_ ?_ | (simp [pureL, pureLL, AV.pure, Blk.renS, Blk.okS, Blk.okX, AV.okS, AV.okX]; done) | omega | fail)), ?_⟩ | refine ev_finX0 [(0, _, _), (1, _, _)] [] [true, true] (Nat.succ_pos _) ⟨rfl, rfl, trivial⟩ rfl (by repeat' (first | exact trivial | rfl | refine And.intro ?_ ?_ | (simp [pureL, pureLL, AV.pure, Blk.renS, Blk.okS, Blk.okX, AV.okS, AV.okX]; done) | omega | fail)) ⟨(by first | rfl | exact (decide_eq_false (by omega)).symm), (by first | rfl | exact (decide_eq_false (by omega)).symm), trivial⟩ ⟨rfl, (by repeat' (first | exact trivial | rfl | refine And.intro ?_ ?_ | (simp [pureL, pureLL, AV.pure, Blk.renS, Blk.okS, Blk.okX, AV.okS, AV.okX]; done) | omega | fail)), ?_⟩)
      all_goals rfl
theorem read2 (a : Attrs) (v : List UInt8) (hv : v.length < 2 ^ 29) (hu : a.unknown.length < 2 ^ 30) (w : Nat) (hw : w ≤ 4) : Gives G 95 [.ref 0 0 0, .int .i64 2, .sl 1 (byteCells v), .int .i64 (w : Int)] [.cells (a.cellsV (.vs 1 0 a.unknown.length)), .vec 2 (a.unknown.map TLV.enc)] (readR w 2 v a) := by
  have hbl := byteCells_length v
  have hg4 : v.length = 4 → Gives G 93 [.sl 1 (byteCells v), .int .i64 0, .int .i64 4] [] ⟨.int .i64 (rd v : Int), []⟩ := fun h => by
    have hget := get_gives93 v (by omega) 0 4 (by omega) (by omega) (by omega) (by omega)
    rwa [show (4 : Int).toNat = 4 from rfl, show (0 : Int).toNat = 0 from rfl, take_drop0 v 4 h] at hget
  have hp := path_gives111 v (by omega) w hw
  by_cases h4 : v.length = 4
  · have hget := hg4 h4
    have hr := rd_u32 (v := v) (by omega)
    cases hs : segsD w v with
    | none =>
      rw [hs] at hp
      rw [show readR w 2 v a = readRet false true { a with path := [] } from by simp [readR, setA, hs, badA]]
      refine gives_code (F := f95) rfl rfl (W_ok 300 _ _ _ _ ?_)
      repeat' ((conv => whnf); first | refine bslP (by first | rfl | (simp [pureL, pureLL, AV.pure]; done) | fail) rfl ?_ | refine TakeC.full (by first | rfl | omega | (simp; done) | (simp; omega) | fail) ?_ | refine zBs ?_ | refine zBn ?_ | refine zBv rfl rfl ?_ | refine zN ?_ | refine zC ?_ | refine zC4 ?_ | refine zOr16 ?_ | refine zC1 ?_ | refine zByte ?_ | refine zMaxL ?_ | refine zMaxR ?_ | refine zMinL ?_ | refine zMinR ?_ | refine zShr ?_ | refine zC8 ?_ | refine zQ ?_ | refine zR ?_ | refine zS ?_ | refine zA ?_ | refine zM ?_ | refine xr rfl ?_ | refine ai rfl ?_ | refine condT ?_ | refine condF ?_ | refine condG1 ?_ | refine condG0 ?_ | refine cD ?_ | refine dD ?_ | refine cB ?_ | refine dB ?_ | refine cN ?_ | refine dN ?_ | refine cV ?_ | refine dV ?_ | refine cE ?_ | refine dE ?_ | refine condX0 ?_ | refine condX1 ?_ | refine condNot ?_ | refine condAnd ?_ | refine condOr ?_ | refine aO ?_ | refine aB ?_ | refine aR ?_ | refine aR ?_ (by simp; omega) | refine xr (by assumption) ?_ | refine ai (by assumption) ?_ | refine kV (hget) ?_ | refine callW (hp) ?_ | refine condD (fun h => ?_) (fun h => ?_) | refine condB (fun h => ?_) (fun h => ?_) | refine condN (fun h => ?_) (fun h => ?_) | refine condE (fun h => ?_) (fun h => ?_) | refine condV (fun h => ?_) (fun h => ?_))
      refine ev_le [] [(0, some (_, .cells (Attrs.cellsV { a with path := [] } (.vs 1 0 a.unknown.length))))] trivial ⟨⟨rfl, .refl _, LeP.nil 2, .refl _, .refl _, .refl _, .refl _, .refl _, .refl _, .refl _, .refl _, .refl _, .refl _, .refl _, .refl _, .refl _, .refl _, trivial⟩, trivial⟩ ?_
      (conv => whnf); first | refine ev_finX [(0, _, _), (1, _, _)] [] [true, true] (Nat.succ_pos _) ⟨rfl, rfl, trivial⟩ rfl (by repeat' (first | exact trivial | rfl | refine And.intro ?_ ?_ | (simp [pureL, pureLL, AV.pure, Blk.renS, Blk.okS, Blk.okX, AV.okS, AV.okX]; done) | omega | fail)) ⟨(by first | rfl | exact (decide_eq_false (by omega)).symm), (by first | rfl | exact (decide_eq_false (by omega)).symm), trivial⟩ ⟨rfl, (by repeat' (first | exact trivial | rfl | refine And.intro ?_ ?_ | (simp [pureL, pureLL, AV.pure, Blk.renS, Blk.okS, Blk.okX, AV.okS, AV.okX]; done) | omega | fail)), ?_⟩ | refine ev_finX0 [(0, _, _), (1, _, _)] [] [true, true] (Nat.succ_pos _) ⟨rfl, rfl, trivial⟩ rfl (by repeat' (first | exact trivial | rfl | refine And.intro ?_ ?_ | (simp [pureL, pureLL, AV.pure, Blk.renS, Blk.okS, Blk.okX, AV.okS, AV.okX]; done) | omega | fail)) ⟨(by first | rfl | exact (decide_eq_false (by omega)).symm), (by first | rfl | exact (decide_eq_false (by omega)).symm), trivial⟩ ⟨rfl, (by repeat' (first | exact trivial | rfl | refine And.intro ?_ ?_ | (simp [pureL, pureLL, AV.pure, Blk.renS, Blk.okS, Blk.okX, AV.okS, AV.okX]; done) | omega | fail)), ?_⟩
      rfl
    | some p =>
      rw [hs, pathR] at hp
      rw [show readR w 2 v a = readRet true true { a with path := p } from by simp [readR, setA, hs, isKind]]
      refine gives_code (F := f95) rfl rfl (W_ok 300 _ _ _ _ ?_)
      repeat' ((conv => whnf); first | refine bslP (by first | rfl | (simp [pureL, pureLL, AV.pure]; done) | fail) rfl ?_ | refine TakeC.full (by first | rfl | omega | (simp; done) | (simp; omega) | fail) ?_ | refine zBs ?_ | refine zBn ?_ | refine zBv rfl rfl ?_ | refine zN ?_ | refine zC ?_ | refine zC4 ?_ | refine zOr16 ?_ | refine zC1 ?_ | refine zByte ?_ | refine zMaxL ?_ | refine zMaxR ?_ | refine zMinL ?_ | refine zMinR ?_ | refine zShr ?_ | refine zC8 ?_ | refine zQ ?_ | refine zR ?_ | refine zS ?_ | refine zA ?_ | refine zM ?_ | refine xr rfl ?_ | refine ai rfl ?_ | refine condT ?_ | refine condF ?_ | refine condG1 ?_ | refine condG0 ?_ | refine cD ?_ | refine dD ?_ | refine cB ?_ | refine dB ?_ | refine cN ?_ | refine dN ?_ | refine cV ?_ | refine dV ?_ | refine cE ?_ | refine dE ?_ | refine condX0 ?_ | refine condX1 ?_ | refine condNot ?_ | refine condAnd ?_ | refine condOr ?_ | refine aO ?_ | refine aB ?_ | refine aR ?_ | refine aR ?_ (by simp; omega) | refine xr (by assumption) ?_ | refine ai (by assumption) ?_ | refine kV (hget) ?_ | refine callW (hp) ?_ | refine condD (fun h => ?_) (fun h => ?_) | refine condB (fun h => ?_) (fun h => ?_) | refine condN (fun h => ?_) (fun h => ?_) | refine condE (fun h => ?_) (fun h => ?_) | refine condV (fun h => ?_) (fun h => ?_))
      (conv => whnf); first | refine ev_finX [(0, _, _), (1, _, _)] [] [true, true] (Nat.succ_pos _) ⟨rfl, rfl, trivial⟩ rfl (by repeat' (first | exact trivial | rfl | refine And.intro ?_ ?_ | (simp [pureL, pureLL, AV.pure, Blk.renS, Blk.okS, Blk.okX, AV.okS, AV.okX]; done) | omega | fail)) ⟨(by first | rfl | exact (decide_eq_false (by omega)).symm), (by first | rfl | exact (decide_eq_false (by omega)).symm), trivial⟩ ⟨rfl, (by repeat' (first | exact trivial | rfl | refine And.intro ?_ ?_ | (simp [pureL, pureLL, AV.pure, Blk.renS, Blk.okS, Blk.okX, AV.okS, AV.okX]; done) | omega | fail)), ?_⟩ | refine ev_finX0 [(0, _, _), (1, _, _)] [] [true, true] (Nat.succ_pos _) ⟨rfl, rfl, trivial⟩ rfl (by repeat' (first | exact trivial | rfl | refine And.intro ?_ ?_ | (simp [pureL, pureLL, AV.pure, Blk.renS, Blk.okS, Blk.okX, AV.okS, AV.okX]; done) | omega | fail)) ⟨(by first | rfl | exact (decide_eq_false (by omega)).symm), (by first | rfl | exact (decide_eq_false (by omega)).symm), trivial⟩ ⟨rfl, (by repeat' (first | exact trivial | rfl | refine And.intro ?_ ?_ | (simp [pureL, pureLL, AV.pure, Blk.renS, Blk.okS, Blk.okX, AV.okS, AV.okX]; done) | omega | fail)), ?_⟩
      rfl
  · cases hs : segsD w v with
    | none =>
      rw [hs] at hp
      rw [show readR w 2 v a = readRet false true { a with path := [] } from by simp [readR, setA, hs, badA]]
      refine gives_code (F := f95) rfl rfl (W_ok 300 _ _ _ _ ?_)
      repeat' ((conv => whnf); first | refine bslP (by first | rfl | (simp [pureL, pureLL, AV.pure]; done) | fail) rfl ?_ | refine TakeC.full (by first | rfl | omega | (simp; done) | (simp; omega) | fail) ?_ | refine zBs ?_ | refine zBn ?_ | refine zBv rfl rfl ?_ | refine zN ?_ | refine zC ?_ | refine zC4 ?_ | refine zOr16 ?_ | refine zC1 ?_ | refine zByte ?_ | refine zMaxL ?_ | refine zMaxR ?_ | refine zMinL ?_ | refine zMinR ?_ | refine zShr ?_ | refine zC8 ?_ | refine zQ ?_ | refine zR ?_ | refine zS ?_ | refine zA ?_ | refine zM ?_ | refine xr rfl ?_ | refine ai rfl ?_ | refine condT ?_ | refine condF ?_ | refine condG1 ?_ | refine condG0 ?_ | refine cD ?_ | refine dD ?_ | refine cB ?_ | refine dB ?_ | refine cN ?_ | refine dN ?_ | refine cV ?_ | refine dV ?_ | refine cE ?_ | refine dE ?_ | refine condX0 ?_ | refine condX1 ?_ | refine condNot ?_ | refine condAnd ?_ | refine condOr ?_ | refine aO ?_ | refine aB ?_ | refine aR ?_ | refine aR ?_ (by simp; omega) | refine xr (by assumption) ?_ | refine ai (by assumption) ?_ | refine callW (hp) ?_ | refine condD (fun h => ?_) (fun h => ?_) | refine condB (fun h => ?_) (fun h => ?_) | refine condN (fun h => ?_) (fun h => ?_) | refine condE (fun h => ?_) (fun h => ?_) | refine condV (fun h => ?_) (fun h => ?_))
      refine ev_le [] [(0, some (_, .cells (Attrs.cellsV { a with path := [] } (.vs 1 0 a.unknown.length))))] trivial ⟨⟨rfl, .refl _, LeP.nil 2, .refl _, .refl _, .refl _, .refl _, .refl _, .refl _, .refl _, .refl _, .refl _, .refl _, .refl _, .refl _, .refl _, .refl _, trivial⟩, trivial⟩ ?_
      (conv => whnf); first | refine ev_finX [(0, _, _), (1, _, _)] [] [true, true] (Nat.succ_pos _) ⟨rfl, rfl, trivial⟩ rfl (by repeat' (first | exact trivial | rfl | refine And.intro ?_ ?_ | (simp [pureL, pureLL, AV.pure, Blk.renS, Blk.okS, Blk.okX, AV.okS, AV.okX]; done) | omega | fail)) ⟨(by first | rfl | exact (decide_eq_false (by omega)).symm), (by first | rfl | exact (decide_eq_false (by omega)).symm), trivial⟩ ⟨rfl, (by repeat' (first | exact trivial | rfl | refine And.intro ?_ ?_ | (simp [pureL, pureLL, AV.pure, Blk.renS, Blk.okS, Blk.okX, AV.okS, AV.okX]; done) | omega | fail)), ?_⟩ | refine ev_finX0 [(0, _, _), (1, _, _)] [] [true, true] (Nat.succ_pos _) ⟨rfl, rfl, trivial⟩ rfl (by repeat' (first | exact trivial | rfl | refine And.intro ?_ ?_ | (simp [pureL, pureLL, AV.pure, Blk.renS, Blk.okS, Blk.okX, AV.okS, AV.okX]; done) | omega | fail)) ⟨(by first | rfl | exact (decide_eq_false (by omega)).symm), (by first | rfl | exact (decide_eq_false (by omega)).symm), trivial⟩ ⟨rfl, (by repeat' (first | exact trivial | rfl | refine And.intro ?_ ?_ | (simp [pureL, pureLL, AV.pure, Blk.renS, Blk.okS, Blk.okX, AV.okS, AV.okX]; done) | omega | fail)), ?_⟩
      rfl
    | some p =>
      rw [hs, pathR] at hp
      rw [show readR w 2 v a = readRet true true { a with path := p } from by simp [readR, setA, hs, isKind]]
      refine gives_code (F := f95) rfl rfl (W_ok 300 _ _ _ _ ?_)
      repeat' ((conv => whnf); first | refine bslP (by first | rfl | (simp [pureL, pureLL, AV.pure]; done) | fail) rfl ?_ | refine TakeC.full (by first | rfl | omega | (simp; done) | (simp; omega) | fail) ?_ | refine zBs ?_ | refine zBn ?_ | refine zBv rfl rfl ?_ | refine zN ?_ | refine zC ?_ | refine zC4 ?_ | refine zOr16 ?_ | refine zC1 ?_ | refine zByte ?_ | refine zMaxL ?_ | refine zMaxR ?_ | refine zMinL ?_ | refine zMinR ?_ | refine zShr ?_ | refine zC8 ?_ | refine zQ ?_ | refine zR ?_ | refine zS ?_ | refine zA ?_ | refine zM ?_ | refine xr rfl ?_ | refine ai rfl ?_ | refine condT ?_ | refine condF ?_ | refine condG1 ?_ | refine condG0 ?_ | refine cD ?_ | refine dD ?_ | refine cB ?_ | refine dB ?_ | refine cN ?_ | refine dN ?_ | refine cV ?_ | refine dV ?_ | refine cE ?_ | refine dE ?_ | refine condX0 ?_ | refine condX1 ?_ | refine condNot ?_ | refine condAnd ?_ | refine condOr ?_ | refine aO ?_ | refine aB ?_ | refine aR ?_ | refine aR ?_ (by simp; omega) | refine xr (by assumption) ?_ | refine ai (by assumption) ?_ | refine callW (hp) ?_ | refine condD (fun h => ?_) (fun h => ?_) | refine condB (fun h => ?_) (fun h => ?_) | refine condN (fun h => ?_) (fun h => ?_) | refine condE (fun h => ?_) (fun h => ?_) | refine condV (fun h => ?_) (fun h => ?_))
      (conv => whnf); first | refine ev_finX [(0, _, _), (1, _, _)] [] [true, true] (Nat.succ_pos _) ⟨rfl, rfl, trivial⟩ rfl (by repeat' (first | exact trivial | rfl | refine And.intro ?_ ?_ | (simp [pureL, pureLL, AV.pure, Blk.renS, Blk.okS, Blk.okX, AV.okS, AV.okX]; done) | omega | fail)) ⟨(by first | rfl | exact (decide_eq_false (by omega)).symm), (by first | rfl | exact (decide_eq_false (by omega)).symm), trivial⟩ ⟨rfl, (by repeat' (first | exact trivial | rfl | refine And.intro ?_ ?_ | (simp [pureL, pureLL, AV.pure, Blk.renS, Blk.okS, Blk.okX, AV.okS, AV.okX]; done) | omega | fail)), ?_⟩ | refine ev_finX0 [(0, _, _), (1, _, _)] [] [true, true] (Nat.succ_pos _) ⟨rfl, rfl, trivial⟩ rfl (by repeat' (first | exact trivial | rfl | refine And.intro ?_ ?_ | (simp [pureL, pureLL, AV.pure, Blk.renS, Blk.okS, Blk.okX, AV.okS, AV.okX]; done) | omega | fail)) ⟨(by first | rfl | exact (decide_eq_false (by omega)).symm), (by first | rfl | exact (decide_eq_false (by omega)).symm), trivial⟩ ⟨rfl, (by repeat' (first | exact trivial | rfl | refine And.intro ?_ ?_ | (simp [pureL, pureLL, AV.pure, Blk.renS, Blk.okS, Blk.okX, AV.okS, AV.okX]; done) | omega | fail)), ?_⟩
      rfl
theorem read3 (a : Attrs) (v : List UInt8) (hv : v.length < 2 ^ 29) (hu : a.unknown.length < 2 ^ 30) (w : Nat) (hw : w ≤ 4) : Gives G 95 [.ref 0 0 0, .int .i64 3, .sl 1 (byteCells v), .int .i64 (w : Int)] [.cells (a.cellsV (.vs 1 0 a.unknown.length)), .vec 2 (a.unknown.map TLV.enc)] (readR w 3 v a) := by
  have hbl := byteCells_length v
  have hg4 : v.length = 4 → Gives G 93 [.sl 1 (byteCells v), .int .i64 0, .int .i64 4] [] ⟨.int .i64 (rd v : Int), []⟩ := fun h => by
    have hget := get_gives93 v (by omega) 0 4 (by omega) (by omega) (by omega) (by omega)
    rwa [show (4 : Int).toNat = 4 from rfl, show (0 : Int).toNat = 0 from rfl, take_drop0 v 4 h] at hget
  by_cases h : v.length = 4
  · rw [show readR w 3 v a = readRet true true { a with nextHop := (rd v : Int) } from by simp [readR, setA, h, isKind]]
    have hget := hg4 h
    have hr := rd_u32 (v := v) (by omega)
    refine gives_code (F := f95) rfl rfl (W_ok 300 _ _ _ _ ?_)
    repeat' ((conv => whnf); first | refine bslP (by first | rfl | (simp [pureL, pureLL, AV.pure]; done) | fail) rfl ?_ | refine TakeC.full (by first | rfl | omega | (simp; done) | (simp; omega) | fail) ?_ | refine zBs ?_ | refine zBn ?_ | refine zBv rfl rfl ?_ | refine zN ?_ | refine zC ?_ | refine zC4 ?_ | refine zOr16 ?_ | refine zC1 ?_ | refine zByte ?_ | refine zMaxL ?_ | refine zMaxR ?_ | refine zMinL ?_ | refine zMinR ?_ | refine zShr ?_ | refine zC8 ?_ | refine zQ ?_ | refine zR ?_ | refine zS ?_ | refine zA ?_ | refine zM ?_ | refine xr rfl ?_ | refine ai rfl ?_ | refine condT ?_ | refine condF ?_ | refine condG1 ?_ | refine condG0 ?_ | refine cD ?_ | refine dD ?_ | refine cB ?_ | refine dB ?_ | refine cN ?_ | refine dN ?_ | refine cV ?_ | refine dV ?_ | refine cE ?_ | refine dE ?_ | refine condX0 ?_ | refine condX1 ?_ | refine condNot ?_ | refine condAnd ?_ | refine condOr ?_ | refine aO ?_ | refine aB ?_ | refine aR ?_ | refine aR ?_ (by simp; omega) | refine xr (by assumption) ?_ | refine ai (by assumption) ?_ | refine kV (hget) ?_ | refine condD (fun h => ?_) (fun h => ?_) | refine condB (fun h => ?_) (fun h => ?_) | refine condN (fun h => ?_) (fun h => ?_) | refine condE (fun h => ?_) (fun h => ?_) | refine condV (fun h => ?_) (fun h => ?_))
    (conv => whnf); first | refine ev_finX [(0, _, _), (1, _, _)] [] [true, true] (Nat.succ_pos _) ⟨rfl, rfl, trivial⟩ rfl (by repeat' (first | exact trivial | rfl | refine And.intro ?_ ?_ | (simp [pureL, pureLL, AV.pure, Blk.renS, Blk.okS, Blk.okX, AV.okS, AV.okX]; done) | omega | fail)) ⟨(by first | rfl | exact (decide_eq_false (by omega)).symm), (by first | rfl | exact (decide_eq_false (by omega)).symm), trivial⟩ ⟨rfl, (by repeat' (first | exact trivial | rfl | refine And.intro ?_ ?_ | (simp [pureL, pureLL, AV.pure, Blk.renS, Blk.okS, Blk.okX, AV.okS, AV.okX]; done) | omega | fail)), ?_⟩ | refine ev_finX0 [(0, _, _), (1, _, _)] [] [true, true] (Nat.succ_pos _) ⟨rfl, rfl, trivial⟩ rfl (by repeat' (first | exact trivial | rfl | refine And.intro ?_ ?_ | (simp [pureL, pureLL, AV.pure, Blk.renS, Blk.okS, Blk.okX, AV.okS, AV.okX]; done) | omega | fail)) ⟨(by first | rfl | exact (decide_eq_false (by omega)).symm), (by first | rfl | exact (decide_eq_false (by omega)).symm), trivial⟩ ⟨rfl, (by repeat' (first | exact trivial | rfl | refine And.intro ?_ ?_ | (simp [pureL, pureLL, AV.pure, Blk.renS, Blk.okS, Blk.okX, AV.okS, AV.okX]; done) | omega | fail)), ?_⟩
    simp only [hbl, h]; rfl
  · rw [show readR w 3 v a = readRet false true { a with nextHop := 0 } from by simp [readR, setA, h, badA]]
    have e4 : (((byteCells v).length : Int) == 4) = false := beq_false_of_ne (by omega)
    refine gives_code (F := f95) rfl rfl (W_ok 300 _ _ _ _ ?_)
    repeat' ((conv => whnf); first | refine bslP (by first | rfl | (simp [pureL, pureLL, AV.pure]; done) | fail) rfl ?_ | refine TakeC.full (by first | rfl | omega | (simp; done) | (simp; omega) | fail) ?_ | refine zBs ?_ | refine zBn ?_ | refine zBv rfl rfl ?_ | refine zN ?_ | refine zC ?_ | refine zC4 ?_ | refine zOr16 ?_ | refine zC1 ?_ | refine zByte ?_ | refine zMaxL ?_ | refine zMaxR ?_ | refine zMinL ?_ | refine zMinR ?_ | refine zShr ?_ | refine zC8 ?_ | refine zQ ?_ | refine zR ?_ | refine zS ?_ | refine zA ?_ | refine zM ?_ | refine xr rfl ?_ | refine ai rfl ?_ | refine condT ?_ | refine condF ?_ | refine condG1 ?_ | refine condG0 ?_ | refine cD ?_ | refine dD ?_ | refine cB ?_ | refine dB ?_ | refine cN ?_ | refine dN ?_ | refine cV ?_ | refine dV ?_ | refine cE ?_ | refine dE ?_ | refine condX0 ?_ | refine condX1 ?_ | refine condNot ?_ | refine condAnd ?_ | refine condOr ?_ | refine aO ?_ | refine aB ?_ | refine aR ?_ | refine aR ?_ (by simp; omega) | refine xr (by assumption) ?_ | refine ai (by assumption) ?_ | refine condD (fun h => ?_) (fun h => ?_) | refine condB (fun h => ?_) (fun h => ?_) | refine condN (fun h => ?_) (fun h => ?_) | refine condE (fun h => ?_) (fun h => ?_) | refine condV (fun h => ?_) (fun h => ?_))
    (conv => whnf); first | refine ev_finX [(0, _, _), (1, _, _)] [] [true, true] (Nat.succ_pos _) ⟨rfl, rfl, trivial⟩ rfl (by repeat' (first | exact trivial | rfl | refine And.intro ?_ ?_ | (simp [pureL, pureLL, AV.pure, Blk.renS, Blk.okS, Blk.okX, AV.okS, AV.okX]; done) | omega | fail)) ⟨(by first | rfl | exact (decide_eq_false (by omega)).symm), (by first | rfl | exact (decide_eq_false (by omega)).symm), trivial⟩ ⟨rfl, (by repeat' (first | exact trivial | rfl | refine And.intro ?_ ?_ | (simp [pureL, pureLL, AV.pure, Blk.renS, Blk.okS, Blk.okX, AV.okS, AV.okX]; done) | omega | fail)), ?_⟩ | refine ev_finX0 [(0, _, _), (1, _, _)] [] [true, true] (Nat.succ_pos _) ⟨rfl, rfl, trivial⟩ rfl (by repeat' (first | exact trivial | rfl | refine And.intro ?_ ?_ | (simp [pureL, pureLL, AV.pure, Blk.renS, Blk.okS, Blk.okX, AV.okS, AV.okX]; done) | omega | fail)) ⟨(by first | rfl | exact (decide_eq_false (by omega)).symm), (by first | rfl | exact (decide_eq_false (by omega)).symm), trivial⟩ ⟨rfl, (by repeat' (first | exact trivial | rfl | refine And.intro ?_ ?_ | (simp [pureL, pureLL, AV.pure, Blk.renS, Blk.okS, Blk.okX, AV.okS, AV.okX]; done) | omega | fail)), ?_⟩
    simp only [e4]; rfl
theorem read4 (a : Attrs) (v : List UInt8) (hv : v.length < 2 ^ 29) (hu : a.unknown.length < 2 ^ 30) (w : Nat) (hw : w ≤ 4) : Gives G 95 [.ref 0 0 0, .int .i64 4, .sl 1 (byteCells v), .int .i64 (w : Int)] [.cells (a.cellsV (.vs 1 0 a.unknown.length)), .vec 2 (a.unknown.map TLV.enc)] (readR w 4 v a) := by
  have hbl := byteCells_length v
  have hg4 : v.length = 4 → Gives G 93 [.sl 1 (byteCells v), .int .i64 0, .int .i64 4] [] ⟨.int .i64 (rd v : Int), []⟩ := fun h => by
    have hget := get_gives93 v (by omega) 0 4 (by omega) (by omega) (by omega) (by omega)
    rwa [show (4 : Int).toNat = 4 from rfl, show (0 : Int).toNat = 0 from rfl, take_drop0 v 4 h] at hget
  by_cases h : v.length = 4
  · rw [show readR w 4 v a = readRet true true { a with hasMED := true, med := (rd v : Int) } from by simp [readR, setA, h, isKind]]
    have hget := hg4 h
    have hr := rd_u32 (v := v) (by omega)
    refine gives_code (F := f95) rfl rfl (W_ok 300 _ _ _ _ ?_)
    repeat' ((conv => whnf); first | refine bslP (by first | rfl | (simp [pureL, pureLL, AV.pure]; done) | fail) rfl ?_ | refine TakeC.full (by first | rfl | omega | (simp; done) | (simp; omega) | fail) ?_ | refine zBs ?_ | refine zBn ?_ | refine zBv rfl rfl ?_ | refine zN ?_ | refine zC ?_ | refine zC4 ?_ | refine zOr16 ?_ | refine zC1 ?_ | refine zByte ?_ | refine zMaxL ?_ | refine zMaxR ?_ | refine zMinL ?_ | refine zMinR ?_ | refine zShr ?_ | refine zC8 ?_ | refine zQ ?_ | refine zR ?_ | refine zS ?_ | refine zA ?_ | refine zM ?_ | refine xr rfl ?_ | refine ai rfl ?_ | refine condT ?_ | refine condF ?_ | refine condG1 ?_ | refine condG0 ?_ | refine cD ?_ | refine dD ?_ | refine cB ?_ | refine dB ?_ | refine cN ?_ | refine dN ?_ | refine cV ?_ | refine dV ?_ | refine cE ?_ | refine dE ?_ | refine condX0 ?_ | refine condX1 ?_ | refine condNot ?_ | refine condAnd ?_ | refine condOr ?_ | refine aO ?_ | refine aB ?_ | refine aR ?_ | refine aR ?_ (by simp; omega) | refine xr (by assumption) ?_ | refine ai (by assumption) ?_ | refine kV (hget) ?_ | refine condD (fun h => ?_) (fun h => ?_) | refine condB (fun h => ?_) (fun h => ?_) | refine condN (fun h => ?_) (fun h => ?_) | refine condE (fun h => ?_) (fun h => ?_) | refine condV (fun h => ?_) (fun h => ?_))
    (conv => whnf); first | refine ev_finX [(0, _, _), (1, _, _)] [] [true, true] (Nat.succ_pos _) ⟨rfl, rfl, trivial⟩ rfl (by repeat' (first | exact trivial | rfl | refine And.intro ?_ ?_ | (simp [pureL, pureLL, AV.pure, Blk.renS, Blk.okS, Blk.okX, AV.okS, AV.okX]; done) | omega | fail)) ⟨(by first | rfl | exact (decide_eq_false (by omega)).symm), (by first | rfl | exact (decide_eq_false (by omega)).symm), trivial⟩ ⟨rfl, (by repeat' (first | exact trivial | rfl | refine And.intro ?_ ?_ | (simp [pureL, pureLL, AV.pure, Blk.renS, Blk.okS, Blk.okX, AV.okS, AV.okX]; done) | omega | fail)), ?_⟩ | refine ev_finX0 [(0, _, _), (1, _, _)] [] [true, true] (Nat.succ_pos _) ⟨rfl, rfl, trivial⟩ rfl (by repeat' (first | exact trivial | rfl | refine And.intro ?_ ?_ | (simp [pureL, pureLL, AV.pure, Blk.renS, Blk.okS, Blk.okX, AV.okS, AV.okX]; done) | omega | fail)) ⟨(by first | rfl | exact (decide_eq_false (by omega)).symm), (by first | rfl | exact (decide_eq_false (by omega)).symm), trivial⟩ ⟨rfl, (by repeat' (first | exact trivial | rfl | refine And.intro ?_ ?_ | (simp [pureL, pureLL, AV.pure, Blk.renS, Blk.okS, Blk.okX, AV.okS, AV.okX]; done) | omega | fail)), ?_⟩
    simp only [hbl, h]; rfl
  · rw [show readR w 4 v a = readRet false true { a with hasMED := true, med := 0 } from by simp [readR, setA, h, badA]]
    have e4 : (((byteCells v).length : Int) == 4) = false := beq_false_of_ne (by omega)
    refine gives_code (F := f95) rfl rfl (W_ok 300 _ _ _ _ ?_)
    repeat' ((conv => whnf); first | refine bslP (by first | rfl | (simp [pureL, pureLL, AV.pure]; done) | fail) rfl ?_ | refine TakeC.full (by first | rfl | omega | (simp; done) | (simp; omega) | fail) ?_ | refine zBs ?_ | refine zBn ?_ | refine zBv rfl rfl ?_ | refine zN ?_ | refine zC ?_ | refine zC4 ?_ | refine zOr16 ?_ | refine zC1 ?_ | refine zByte ?_ | refine zMaxL ?_ | refine zMaxR ?_ | refine zMinL ?_ | refine zMinR ?_ | refine zShr ?_ | refine zC8 ?_ | refine zQ ?_ | refine zR ?_ | refine zS ?_ | refine zA ?_ | refine zM ?_ | refine xr rfl ?_ | refine ai rfl ?_ | refine condT ?_ | refine condF ?_ | refine condG1 ?_ | refine condG0 ?_ | refine cD ?_ | refine dD ?_ | refine cB ?_ | refine dB ?_ | refine cN ?_ | refine dN ?_ | refine cV ?_ | refine dV ?_ | refine cE ?_ | refine dE ?_ | refine condX0 ?_ | refine condX1 ?_ | refine condNot ?_ | refine condAnd ?_ | refine condOr ?_ | refine aO ?_ | refine aB ?_ | refine aR ?_ | refine aR ?_ (by simp; omega) | refine xr (by assumption) ?_ | refine ai (by assumption) ?_ | refine condD (fun h => ?_) (fun h => ?_) | refine condB (fun h => ?_) (fun h => ?_) | refine condN (fun h => ?_) (fun h => ?_) | refine condE (fun h => ?_) (fun h => ?_) | refine condV (fun h => ?_) (fun h => ?_))
    (conv => whnf); first | refine ev_finX [(0, _, _), (1, _, _)] [] [true, true] (Nat.succ_pos _) ⟨rfl, rfl, trivial⟩ rfl (by repeat' (first | exact trivial | rfl | refine And.intro ?_ ?_ | (simp [pureL, pureLL, AV.pure, Blk.renS, Blk.okS, Blk.okX, AV.okS, AV.okX]; done) | omega | fail)) ⟨(by first | rfl | exact (decide_eq_false (by omega)).symm), (by first | rfl | exact (decide_eq_false (by omega)).symm), trivial⟩ ⟨rfl, (by repeat' (first | exact trivial | rfl | refine And.intro ?_ ?_ | (simp [pureL, pureLL, AV.pure, Blk.renS, Blk.okS, Blk.okX, AV.okS, AV.okX]; done) | omega | fail)), ?_⟩ | refine ev_finX0 [(0, _, _), (1, _, _)] [] [true, true] (Nat.succ_pos _) ⟨rfl, rfl, trivial⟩ rfl (by repeat' (first | exact trivial | rfl | refine And.intro ?_ ?_ | (simp [pureL, pureLL, AV.pure, Blk.renS, Blk.okS, Blk.okX, AV.okS, AV.okX]; done) | omega | fail)) ⟨(by first | rfl | exact (decide_eq_false (by omega)).symm), (by first | rfl | exact (decide_eq_false (by omega)).symm), trivial⟩ ⟨rfl, (by repeat' (first | exact trivial | rfl | refine And.intro ?_ ?_ | (simp [pureL, pureLL, AV.pure, Blk.renS, Blk.okS, Blk.okX, AV.okS, AV.okX]; done) | omega | fail)), ?_⟩
    simp only [e4]; rfl
theorem read5 (a : Attrs) (v : List UInt8) (hv : v.length < 2 ^ 29) (hu : a.unknown.length < 2 ^ 30) (w : Nat) (hw : w ≤ 4) : Gives G 95 [.ref 0 0 0, .int .i64 5, .sl 1 (byteCells v), .int .i64 (w : Int)] [.cells (a.cellsV (.vs 1 0 a.unknown.length)), .vec 2 (a.unknown.map TLV.enc)] (readR w 5 v a) := by
  have hbl := byteCells_length v
  have hg4 : v.length = 4 → Gives G 93 [.sl 1 (byteCells v), .int .i64 0, .int .i64 4] [] ⟨.int .i64 (rd v : Int), []⟩ := fun h => by
    have hget := get_gives93 v (by omega) 0 4 (by omega) (by omega) (by omega) (by omega)
    rwa [show (4 : Int).toNat = 4 from rfl, show (0 : Int).toNat = 0 from rfl, take_drop0 v 4 h] at hget
  by_cases h : v.length = 4
  · rw [show readR w 5 v a = readRet true true { a with hasPref := true, pref := (rd v : Int) } from by simp [readR, setA, h, isKind]]
    have hget := hg4 h
    have hr := rd_u32 (v := v) (by omega)
    refine gives_code (F := f95) rfl rfl (W_ok 300 _ _ _ _ ?_)
    repeat' ((conv => whnf); first | refine bslP (by first | rfl | (simp [pureL, pureLL, AV.pure]; done) | fail) rfl ?_ | refine TakeC.full (by first | rfl | omega | (simp; done) | (simp; omega) | fail) ?_ | refine zBs ?_ | refine zBn ?_ | refine zBv rfl rfl ?_ | refine zN ?_ | refine zC ?_ | refine zC4 ?_ | refine zOr16 ?_ | refine zC1 ?_ | refine zByte ?_ | refine zMaxL ?_ | refine zMaxR ?_ | refine zMinL ?_ | refine zMinR ?_ | refine zShr ?_ | refine zC8 ?_ | refine zQ ?_ | refine zR ?_ | refine zS ?_ | refine zA ?_ | refine zM ?_ | refine xr rfl ?_ | refine ai rfl ?_ | refine condT ?_ | refine condF ?_ | refine condG1 ?_ | refine condG0 ?_ | refine cD ?_ | refine dD ?_ | refine cB ?_ | refine dB ?_ | refine cN ?_ | refine dN ?_ | refine cV ?_ | refine dV ?_ | refine cE ?_ | refine dE ?_ | refine condX0 ?_ | refine condX1 ?_ | refine condNot ?_ | refine condAnd ?_ | refine condOr ?_ | refine aO ?_ | refine aB ?_ | refine aR ?_ | refine aR ?_ (by simp; omega) | refine xr (by assumption) ?_ | refine ai (by assumption) ?_ | refine kV (hget) ?_ | refine condD (fun h => ?_) (fun h => ?_) | refine condB (fun h => ?_) (fun h => ?_) | refine condN (fun h => ?_) (fun h => ?_) | refine condE (fun h => ?_) (fun h => ?_) | refine condV (fun h => ?_) (fun h => ?_))
    (conv => whnf); first | refine ev_finX [(0, _, _), (1, _, _)] [] [true, true] (Nat.succ_pos _) ⟨rfl, rfl, trivial⟩ rfl (by repeat' (first | exact trivial | rfl | refine And.intro ?_ ?_ | (simp [pureL, pureLL, AV.pure, Blk.renS, Blk.okS, Blk.okX, AV.okS, AV.okX]; done) | omega | fail)) ⟨(by first | rfl | exact (decide_eq_false (by omega)).symm), (by first | rfl | exact (decide_eq_false (by omega)).symm), trivial⟩ ⟨rfl, (by repeat' (first | exact trivial | rfl | refine And.intro ?_ ?_ | (simp [pureL, pureLL, AV.pure, Blk.renS, Blk.okS, Blk.okX, AV.okS, AV.okX]; done) | omega | fail)), ?_⟩ | refine ev_finX0 [(0, _, _), (1, _, _)] [] [true, true] (Nat.succ_pos _) ⟨rfl, rfl, trivial⟩ rfl (by repeat' (first | exact trivial | rfl | refine And.intro ?_ ?_ | (simp [pureL, pureLL, AV.pure, Blk.renS, Blk.okS, Blk.okX, AV.okS, AV.okX]; done) | omega | fail)) ⟨(by first | rfl | exact (decide_eq_false (by omega)).symm), (by first | rfl | exact (decide_eq_false (by omega)).symm), trivial⟩ ⟨rfl, (by repeat' (first | exact trivial | rfl | refine And.intro ?_ ?_ | (simp [pureL, pureLL, AV.pure, Blk.renS, Blk.okS, Blk.okX, AV.okS, AV.okX]; done) | omega | fail)), ?_⟩
    simp only [hbl, h]; rfl
  · rw [show readR w 5 v a = readRet false true { a with hasPref := true, pref := 0 } from by simp [readR, setA, h, badA]]
    have e4 : (((byteCells v).length : Int) == 4) = false := beq_false_of_ne (by omega)
    refine gives_code (F := f95) rfl rfl (W_ok 300 _ _ _ _ ?_)
    repeat' ((conv => whnf); first | refine bslP (by first | rfl | (simp [pureL, pureLL, AV.pure]; done) | fail) rfl ?_ | refine TakeC.full (by first | rfl | omega | (simp; done) | (simp; omega) | fail) ?_ | refine zBs ?_ | refine zBn ?_ | refine zBv rfl rfl ?_ | refine zN ?_ | refine zC ?_ | refine zC4 ?_ | refine zOr16 ?_ | refine zC1 ?_ | refine zByte ?_ | refine zMaxL ?_ | refine zMaxR ?_ | refine zMinL ?_ | refine zMinR ?_ | refine zShr ?_ | refine zC8 ?_ | refine zQ ?_ | refine zR ?_ | refine zS ?_ | refine zA ?_ | refine zM ?_ | refine xr rfl ?_ | refine ai rfl ?_ | refine condT ?_ | refine condF ?_ | refine condG1 ?_ | refine condG0 ?_ | refine cD ?_ | refine dD ?_ | refine cB ?_ | refine dB ?_ | refine cN ?_ | refine dN ?_ | refine cV ?_ | refine dV ?_ | refine cE ?_ | refine dE ?_ | refine condX0 ?_ | refine condX1 ?_ | refine condNot ?_ | refine condAnd ?_ | refine condOr ?_ | refine aO ?_ | refine aB ?_ | refine aR ?_ | refine aR ?_ (by simp; omega) | refine xr (by assumption) ?_ | refine ai (by assumption) ?_ | refine condD (fun h => ?_) (fun h => ?_) | refine condB (fun h => ?_) (fun h => ?_) | refine condN (fun h => ?_) (fun h => ?_) | refine condE (fun h => ?_) (fun h => ?_) | refine condV (fun h => ?_) (fun h => ?_))
    (conv => whnf); first | refine ev_finX [(0, _, _), (1, _, _)] [] [true, true] (Nat.succ_pos _) ⟨rfl, rfl, trivial⟩ rfl (by repeat' (first | exact trivial | rfl | refine And.intro ?_ ?_ | (simp [pureL, pureLL, AV.pure, Blk.renS, Blk.okS, Blk.okX, AV.okS, AV.okX]; done) | omega | fail)) ⟨(by first | rfl | exact (decide_eq_false (by omega)).symm), (by first | rfl | exact (decide_eq_false (by omega)).symm), trivial⟩ ⟨rfl, (by repeat' (first | exact trivial | rfl | refine And.intro ?_ ?_ | (simp [pureL, pureLL, AV.pure, Blk.renS, Blk.okS, Blk.okX, AV.okS, AV.okX]; done) | omega | fail)), ?_⟩ | refine ev_finX0 [(0, _, _), (1, _, _)] [] [true, true] (Nat.succ_pos _) ⟨rfl, rfl, trivial⟩ rfl (by repeat' (first | exact trivial | rfl | refine And.intro ?_ ?_ | (simp [pureL, pureLL, AV.pure, Blk.renS, Blk.okS, Blk.okX, AV.okS, AV.okX]; done) | omega | fail)) ⟨(by first | rfl | exact (decide_eq_false (by omega)).symm), (by first | rfl | exact (decide_eq_false (by omega)).symm), trivial⟩ ⟨rfl, (by repeat' (first | exact trivial | rfl | refine And.intro ?_ ?_ | (simp [pureL, pureLL, AV.pure, Blk.renS, Blk.okS, Blk.okX, AV.okS, AV.okX]; done) | omega | fail)), ?_⟩
    simp only [e4]; rfl
theorem read9 (a : Attrs) (v : List UInt8) (hv : v.length < 2 ^ 29) (hu : a.unknown.length < 2 ^ 30) (w : Nat) (hw : w ≤ 4) : Gives G 95 [.ref 0 0 0, .int .i64 9, .sl 1 (byteCells v), .int .i64 (w : Int)] [.cells (a.cellsV (.vs 1 0 a.unknown.length)), .vec 2 (a.unknown.map TLV.enc)] (readR w 9 v a) := by
  have hbl := byteCells_length v
  have hg4 : v.length = 4 → Gives G 93 [.sl 1 (byteCells v), .int .i64 0, .int .i64 4] [] ⟨.int .i64 (rd v : Int), []⟩ := fun h => by
    have hget := get_gives93 v (by omega) 0 4 (by omega) (by omega) (by omega) (by omega)
    rwa [show (4 : Int).toNat = 4 from rfl, show (0 : Int).toNat = 0 from rfl, take_drop0 v 4 h] at hget
  by_cases h : v.length = 4
  · rw [show readR w 9 v a = readRet true true { a with hasOrig := true, orig := (rd v : Int) } from by simp [readR, setA, h, isKind]]
    have hget := hg4 h
    have hr := rd_u32 (v := v) (by omega)
    refine gives_code (F := f95) rfl rfl (W_ok 300 _ _ _ _ ?_)
    repeat' ((conv => whnf); first | refine bslP (by first | rfl | (simp [pureL, pureLL, AV.pure]; done) | fail) rfl ?_ | refine TakeC.full (by first | rfl | omega | (simp; done) | (simp; omega) | fail) ?_ | refine zBs ?_ | refine zBn ?_ | refine zBv rfl rfl ?_ | refine zN ?_ | refine zC ?_ | refine zC4 ?_ | refine zOr16 ?_ | refine zC1 ?_ | refine zByte ?_ | refine zMaxL ?_ | refine zMaxR ?_ | refine zMinL ?_ | refine zMinR ?_ | refine zShr ?_ | refine zC8 ?_ | refine zQ ?_ | refine zR ?_ | refine zS ?_ | refine zA ?_ | refine zM ?_ | refine xr rfl ?_ | refine ai rfl ?_ | refine condT ?_ | refine condF ?_ | refine condG1 ?_ | refine condG0 ?_ | refine cD ?_ | refine dD ?_ | refine cB ?_ | refine dB ?_ | refine cN ?_ | refine dN ?_ | refine cV ?_ | refine dV ?_ | refine cE ?_ | refine dE ?_ | refine condX0 ?_ | refine condX1 ?_ | refine condNot ?_ | refine condAnd ?_ | refine condOr ?_ | refine aO ?_ | refine aB ?_ | refine aR ?_ | refine aR ?_ (by simp; omega) | refine xr (by assumption) ?_ | refine ai (by assumption) ?_ | refine kV (hget) ?_ | refine condD (fun h => ?_) (fun h => ?_) | refine condB (fun h => ?_) (fun h => ?_) | refine condN (fun h => ?_) (fun h => ?_) | refine condE (fun h => ?_) (fun h => ?_) | refine condV (fun h => ?_) (fun h => ?_))
    (conv => whnf); first | refine ev_finX [(0, _, _), (1, _, _)] [] [true, true] (Nat.succ_pos _) ⟨rfl, rfl, trivial⟩ rfl (by repeat' (first | exact trivial | rfl | refine And.intro ?_ ?_ | (simp [pureL, pureLL, AV.pure, Blk.renS, Blk.okS, Blk.okX, AV.okS, AV.okX]; done) | omega | fail)) ⟨(by first | rfl | exact (decide_eq_false (by omega)).symm), (by first | rfl | exact (decide_eq_false (by omega)).symm), trivial⟩ ⟨rfl, (by repeat' (first | exact trivial | rfl | refine And.intro ?_ ?_ | (simp [pureL, pureLL, AV.pure, Blk.renS, Blk.okS, Blk.okX, AV.okS, AV.okX]; done) | omega | fail)), ?_⟩ | refine ev_finX0 [(0, _, _), (1, _, _)] [] [true, true] (Nat.succ_pos _) ⟨rfl, rfl, trivial⟩ rfl (by repeat' (first | exact trivial | rfl | refine And.intro ?_ ?_ | (simp [pureL, pureLL, AV.pure, Blk.renS, Blk.okS, Blk.okX, AV.okS, AV.okX]; done) | omega | fail)) ⟨(by first | rfl | exact (decide_eq_false (by omega)).symm), (by first | rfl | exact (decide_eq_false (by omega)).symm), trivial⟩ ⟨rfl, (by repeat' (first | exact trivial | rfl | refine And.intro ?_ ?_ | (simp [pureL, pureLL, AV.pure, Blk.renS, Blk.okS, Blk.okX, AV.okS, AV.okX]; done) | omega | fail)), ?_⟩
    simp only [hbl, h]; rfl
  · rw [show readR w 9 v a = readRet false true { a with hasOrig := true, orig := 0 } from by simp [readR, setA, h, badA]]
    have e4 : (((byteCells v).length : Int) == 4) = false := beq_false_of_ne (by omega)
    refine gives_code (F := f95) rfl rfl (W_ok 300 _ _ _ _ ?_)
    repeat' ((conv => whnf); first | refine bslP (by first | rfl | (simp [pureL, pureLL, AV.pure]; done) | fail) rfl ?_ | refine TakeC.full (by first | rfl | omega | (simp; done) | (simp; omega) | fail) ?_ | refine zBs ?_ | refine zBn ?_ | refine zBv rfl rfl ?_ | refine zN ?_ | refine zC ?_ | refine zC4 ?_ | refine zOr16 ?_ | refine zC1 ?_ | refine zByte ?_ | refine zMaxL ?_ | refine zMaxR ?_ | refine zMinL ?_ | refine zMinR ?_ | refine zShr ?_ | refine zC8 ?_ | refine zQ ?_ | refine zR ?_ | refine zS ?_ | refine zA ?_ | refine zM ?_ | refine xr rfl ?_ | refine ai rfl ?_ | refine condT ?_ | refine condF ?_ | refine condG1 ?_ | refine condG0 ?_ | refine cD ?_ | refine dD ?_ | refine cB ?_ | refine dB ?_ | refine cN ?_ | refine dN ?_ | refine cV ?_ | refine dV ?_ | refine cE ?_ | refine dE ?_ | refine condX0 ?_ | refine condX1 ?_ | refine condNot ?_ | refine condAnd ?_ | refine condOr ?_ | refine aO ?_ | refine aB ?_ | refine aR ?_ | refine aR ?_ (by simp; omega) | refine xr (by assumption) ?_ | refine ai (by assumption) ?_ | refine condD (fun h => ?_) (fun h => ?_) | refine condB (fun h => ?_) (fun h => ?_) | refine condN (fun h => ?_) (fun h => ?_) | refine condE (fun h => ?_) (fun h => ?_) | refine condV (fun h => ?_) (fun h => ?_))
    (conv => whnf); first | refine ev_finX [(0, _, _), (1, _, _)] [] [true, true] (Nat.succ_pos _) ⟨rfl, rfl, trivial⟩ rfl (by repeat' (first | exact trivial | rfl | refine And.intro ?_ ?_ | (simp [pureL, pureLL, AV.pure, Blk.renS, Blk.okS, Blk.okX, AV.okS, AV.okX]; done) | omega | fail)) ⟨(by first | rfl | exact (decide_eq_false (by omega)).symm), (by first | rfl | exact (decide_eq_false (by omega)).symm), trivial⟩ ⟨rfl, (by repeat' (first | exact trivial | rfl | refine And.intro ?_ ?_ | (simp [pureL, pureLL, AV.pure, Blk.renS, Blk.okS, Blk.okX, AV.okS, AV.okX]; done) | omega | fail)), ?_⟩ | refine ev_finX0 [(0, _, _), (1, _, _)] [] [true, true] (Nat.succ_pos _) ⟨rfl, rfl, trivial⟩ rfl (by repeat' (first | exact trivial | rfl | refine And.intro ?_ ?_ | (simp [pureL, pureLL, AV.pure, Blk.renS, Blk.okS, Blk.okX, AV.okS, AV.okX]; done) | omega | fail)) ⟨(by first | rfl | exact (decide_eq_false (by omega)).symm), (by first | rfl | exact (decide_eq_false (by omega)).symm), trivial⟩ ⟨rfl, (by repeat' (first | exact trivial | rfl | refine And.intro ?_ ?_ | (simp [pureL, pureLL, AV.pure, Blk.renS, Blk.okS, Blk.okX, AV.okS, AV.okX]; done) | omega | fail)), ?_⟩
    simp only [e4]; rfl
theorem read6 (a : Attrs) (v : List UInt8) (hv : v.length < 2 ^ 29) (hu : a.unknown.length < 2 ^ 30) (w : Nat) (hw : w ≤ 4) : Gives G 95 [.ref 0 0 0, .int .i64 6, .sl 1 (byteCells v), .int .i64 (w : Int)] [.cells (a.cellsV (.vs 1 0 a.unknown.length)), .vec 2 (a.unknown.map TLV.enc)] (readR w 6 v a) := by
  have hbl := byteCells_length v
  have hg4 : v.length = 4 → Gives G 93 [.sl 1 (byteCells v), .int .i64 0, .int .i64 4] [] ⟨.int .i64 (rd v : Int), []⟩ := fun h => by
    have hget := get_gives93 v (by omega) 0 4 (by omega) (by omega) (by omega) (by omega)
    rwa [show (4 : Int).toNat = 4 from rfl, show (0 : Int).toNat = 0 from rfl, take_drop0 v 4 h] at hget
  by_cases h4 : v.length = 4
  · have hget := hg4 h4
    have hr := rd_u32 (v := v) (by omega)
    rw [show readR w 6 v a = readRet false true { a with atomic := true } from by simp [readR, setA, h4, badA]]
    refine gives_code (F := f95) rfl rfl (W_ok 300 _ _ _ _ ?_)
    repeat' ((conv => whnf); first | refine bslP (by first | rfl | (simp [pureL, pureLL, AV.pure]; done) | fail) rfl ?_ | refine TakeC.full (by first | rfl | omega | (simp; done) | (simp; omega) | fail) ?_ | refine zBs ?_ | refine zBn ?_ | refine zBv rfl rfl ?_ | refine zN ?_ | refine zC ?_ | refine zC4 ?_ | refine zOr16 ?_ | refine zC1 ?_ | refine zByte ?_ | refine zMaxL ?_ | refine zMaxR ?_ | refine zMinL ?_ | refine zMinR ?_ | refine zShr ?_ | refine zC8 ?_ | refine zQ ?_ | refine zR ?_ | refine zS ?_ | refine zA ?_ | refine zM ?_ | refine xr rfl ?_ | refine ai rfl ?_ | refine condT ?_ | refine condF ?_ | refine condG1 ?_ | refine condG0 ?_ | refine cD ?_ | refine dD ?_ | refine cB ?_ | refine dB ?_ | refine cN ?_ | refine dN ?_ | refine cV ?_ | refine dV ?_ | refine cE ?_ | refine dE ?_ | refine condX0 ?_ | refine condX1 ?_ | refine condNot ?_ | refine condAnd ?_ | refine condOr ?_ | refine aO ?_ | refine aB ?_ | refine aR ?_ | refine aR ?_ (by simp; omega) | refine xr (by assumption) ?_ | refine ai (by assumption) ?_ | refine kV (hget) ?_ | refine condD (fun h => ?_) (fun h => ?_) | refine condB (fun h => ?_) (fun h => ?_) | refine condN (fun h => ?_) (fun h => ?_) | refine condE (fun h => ?_) (fun h => ?_) | refine condV (fun h => ?_) (fun h => ?_))
    (conv => whnf); first | refine ev_finX [(0, _, _), (1, _, _)] [] [true, true] (Nat.succ_pos _) ⟨rfl, rfl, trivial⟩ rfl (by repeat' (first | exact trivial | rfl | refine And.intro ?_ ?_ | (simp [pureL, pureLL, AV.pure, Blk.renS, Blk.okS, Blk.okX, AV.okS, AV.okX]; done) | omega | fail)) ⟨(by first | rfl | exact (decide_eq_false (by omega)).symm), (by first | rfl | exact (decide_eq_false (by omega)).symm), trivial⟩ ⟨rfl, (by repeat' (first | exact trivial | rfl | refine And.intro ?_ ?_ | (simp [pureL, pureLL, AV.pure, Blk.renS, Blk.okS, Blk.okX, AV.okS, AV.okX]; done) | omega | fail)), ?_⟩ | refine ev_finX0 [(0, _, _), (1, _, _)] [] [true, true] (Nat.succ_pos _) ⟨rfl, rfl, trivial⟩ rfl (by repeat' (first | exact trivial | rfl | refine And.intro ?_ ?_ | (simp [pureL, pureLL, AV.pure, Blk.renS, Blk.okS, Blk.okX, AV.okS, AV.okX]; done) | omega | fail)) ⟨(by first | rfl | exact (decide_eq_false (by omega)).symm), (by first | rfl | exact (decide_eq_false (by omega)).symm), trivial⟩ ⟨rfl, (by repeat' (first | exact trivial | rfl | refine And.intro ?_ ?_ | (simp [pureL, pureLL, AV.pure, Blk.renS, Blk.okS, Blk.okX, AV.okS, AV.okX]; done) | omega | fail)), ?_⟩
    simp only [h4, hbl]; rfl
  · by_cases h : v.length = 0
    · rw [show readR w 6 v a = readRet true true { a with atomic := true } from by simp [readR, setA, h, isKind]]
      refine gives_code (F := f95) rfl rfl (W_ok 300 _ _ _ _ ?_)
      repeat' ((conv => whnf); first | refine bslP (by first | rfl | (simp [pureL, pureLL, AV.pure]; done) | fail) rfl ?_ | refine TakeC.full (by first | rfl | omega | (simp; done) | (simp; omega) | fail) ?_ | refine zBs ?_ | refine zBn ?_ | refine zBv rfl rfl ?_ | refine zN ?_ | refine zC ?_ | refine zC4 ?_ | refine zOr16 ?_ | refine zC1 ?_ | refine zByte ?_ | refine zMaxL ?_ | refine zMaxR ?_ | refine zMinL ?_ | refine zMinR ?_ | refine zShr ?_ | refine zC8 ?_ | refine zQ ?_ | refine zR ?_ | refine zS ?_ | refine zA ?_ | refine zM ?_ | refine xr rfl ?_ | refine ai rfl ?_ | refine condT ?_ | refine condF ?_ | refine condG1 ?_ | refine condG0 ?_ | refine cD ?_ | refine dD ?_ | refine cB ?_ | refine dB ?_ | refine cN ?_ | refine dN ?_ | refine cV ?_ | refine dV ?_ | refine cE ?_ | refine dE ?_ | refine condX0 ?_ | refine condX1 ?_ | refine condNot ?_ | refine condAnd ?_ | refine condOr ?_ | refine aO ?_ | refine aB ?_ | refine aR ?_ | refine aR ?_ (by simp; omega) | refine xr (by assumption) ?_ | refine ai (by assumption) ?_ | refine condD (fun h => ?_) (fun h => ?_) | refine condB (fun h => ?_) (fun h => ?_) | refine condN (fun h => ?_) (fun h => ?_) | refine condE (fun h => ?_) (fun h => ?_) | refine condV (fun h => ?_) (fun h => ?_))
      (conv => whnf); first | refine ev_finX [(0, _, _), (1, _, _)] [] [true, true] (Nat.succ_pos _) ⟨rfl, rfl, trivial⟩ rfl (by repeat' (first | exact trivial | rfl | refine And.intro ?_ ?_ | (simp [pureL, pureLL, AV.pure, Blk.renS, Blk.okS, Blk.okX, AV.okS, AV.okX]; done) | omega | fail)) ⟨(by first | rfl | exact (decide_eq_false (by omega)).symm), (by first | rfl | exact (decide_eq_false (by omega)).symm), trivial⟩ ⟨rfl, (by repeat' (first | exact trivial | rfl | refine And.intro ?_ ?_ | (simp [pureL, pureLL, AV.pure, Blk.renS, Blk.okS, Blk.okX, AV.okS, AV.okX]; done) | omega | fail)), ?_⟩ | refine ev_finX0 [(0, _, _), (1, _, _)] [] [true, true] (Nat.succ_pos _) ⟨rfl, rfl, trivial⟩ rfl (by repeat' (first | exact trivial | rfl | refine And.intro ?_ ?_ | (simp [pureL, pureLL, AV.pure, Blk.renS, Blk.okS, Blk.okX, AV.okS, AV.okX]; done) | omega | fail)) ⟨(by first | rfl | exact (decide_eq_false (by omega)).symm), (by first | rfl | exact (decide_eq_false (by omega)).symm), trivial⟩ ⟨rfl, (by repeat' (first | exact trivial | rfl | refine And.intro ?_ ?_ | (simp [pureL, pureLL, AV.pure, Blk.renS, Blk.okS, Blk.okX, AV.okS, AV.okX]; done) | omega | fail)), ?_⟩
      simp only [h, hbl]; rfl
    · rw [show readR w 6 v a = readRet false true { a with atomic := true } from by simp [readR, setA, h, badA]]
      have hb0 : (((byteCells v).length : Int) == 0) = false := beq_false_of_ne (by omega)
      refine gives_code (F := f95) rfl rfl (W_ok 300 _ _ _ _ ?_)
      repeat' ((conv => whnf); first | refine bslP (by first | rfl | (simp [pureL, pureLL, AV.pure]; done) | fail) rfl ?_ | refine TakeC.full (by first | rfl | omega | (simp; done) | (simp; omega) | fail) ?_ | refine zBs ?_ | refine zBn ?_ | refine zBv rfl rfl ?_ | refine zN ?_ | refine zC ?_ | refine zC4 ?_ | refine zOr16 ?_ | refine zC1 ?_ | refine zByte ?_ | refine zMaxL ?_ | refine zMaxR ?_ | refine zMinL ?_ | refine zMinR ?_ | refine zShr ?_ | refine zC8 ?_ | refine zQ ?_ | refine zR ?_ | refine zS ?_ | refine zA ?_ | refine zM ?_ | refine xr rfl ?_ | refine ai rfl ?_ | refine condT ?_ | refine condF ?_ | refine condG1 ?_ | refine condG0 ?_ | refine cD ?_ | refine dD ?_ | refine cB ?_ | refine dB ?_ | refine cN ?_ | refine dN ?_ | refine cV ?_ | refine dV ?_ | refine cE ?_ | refine dE ?_ | refine condX0 ?_ | refine condX1 ?_ | refine condNot ?_ | refine condAnd ?_ | refine condOr ?_ | refine aO ?_ | refine aB ?_ | refine aR ?_ | refine aR ?_ (by simp; omega) | refine xr (by assumption) ?_ | refine ai (by assumption) ?_ | refine condD (fun h => ?_) (fun h => ?_) | refine condB (fun h => ?_) (fun h => ?_) | refine condN (fun h => ?_) (fun h => ?_) | refine condE (fun h => ?_) (fun h => ?_) | refine condV (fun h => ?_) (fun h => ?_))
      (conv => whnf); first | refine ev_finX [(0, _, _), (1, _, _)] [] [true, true] (Nat.succ_pos _) ⟨rfl, rfl, trivial⟩ rfl (by repeat' (first | exact trivial | rfl | refine And.intro ?_ ?_ | (simp [pureL, pureLL, AV.pure, Blk.renS, Blk.okS, Blk.okX, AV.okS, AV.okX]; done) | omega | fail)) ⟨(by first | rfl | exact (decide_eq_false (by omega)).symm), (by first | rfl | exact (decide_eq_false (by omega)).symm), trivial⟩ ⟨rfl, (by repeat' (first | exact trivial | rfl | refine And.intro ?_ ?_ | (simp [pureL, pureLL, AV.pure, Blk.renS, Blk.okS, Blk.okX, AV.okS, AV.okX]; done) | omega | fail)), ?_⟩ | refine ev_finX0 [(0, _, _), (1, _, _)] [] [true, true] (Nat.succ_pos _) ⟨rfl, rfl, trivial⟩ rfl (by repeat' (first | exact trivial | rfl | refine And.intro ?_ ?_ | (simp [pureL, pureLL, AV.pure, Blk.renS, Blk.okS, Blk.okX, AV.okS, AV.okX]; done) | omega | fail)) ⟨(by first | rfl | exact (decide_eq_false (by omega)).symm), (by first | rfl | exact (decide_eq_false (by omega)).symm), trivial⟩ ⟨rfl, (by repeat' (first | exact trivial | rfl | refine And.intro ?_ ?_ | (simp [pureL, pureLL, AV.pure, Blk.renS, Blk.okS, Blk.okX, AV.okS, AV.okX]; done) | omega | fail)), ?_⟩
      simp only [hb0]; rfl
theorem read7 (a : Attrs) (v : List UInt8) (hv : v.length < 2 ^ 29) (hu : a.unknown.length < 2 ^ 30) (w : Nat) (hw : w ≤ 4) : Gives G 95 [.ref 0 0 0, .int .i64 7, .sl 1 (byteCells v), .int .i64 (w : Int)] [.cells (a.cellsV (.vs 1 0 a.unknown.length)), .vec 2 (a.unknown.map TLV.enc)] (readR w 7 v a) := by
  have hbl := byteCells_length v
  have hg4 : v.length = 4 → Gives G 93 [.sl 1 (byteCells v), .int .i64 0, .int .i64 4] [] ⟨.int .i64 (rd v : Int), []⟩ := fun h => by
    have hget := get_gives93 v (by omega) 0 4 (by omega) (by omega) (by omega) (by omega)
    rwa [show (4 : Int).toNat = 4 from rfl, show (0 : Int).toNat = 0 from rfl, take_drop0 v 4 h] at hget
  by_cases h4 : v.length = 4
  · have hget := hg4 h4
    have hr := rd_u32 (v := v) (by omega)
    by_cases h : v.length = w + 4
    · obtain rfl : w = 0 := by omega
      rw [show readR 0 7 v a = readRet true true { a with hasAggr := true, aggrAS := 0, aggrAddr := (rd v : Int) } from by simp [readR, setA, h, isKind, rd]]
      have hz := get_gives93 v (by omega) 0 0 (by omega) (by omega) (by omega) (by omega)
      simp only [show (0 : Int).toNat = 0 from rfl, List.take_zero, show rd [] = 0 from rfl] at hz
      refine gives_code (F := f95) rfl rfl (W_ok 300 _ _ _ _ ?_)
      repeat' ((conv => whnf); first | refine bslP (by first | rfl | (simp [pureL, pureLL, AV.pure]; done) | fail) rfl ?_ | refine TakeC.full (by first | rfl | omega | (simp; done) | (simp; omega) | fail) ?_ | refine zBs ?_ | refine zBn ?_ | refine zBv rfl rfl ?_ | refine zN ?_ | refine zC ?_ | refine zC4 ?_ | refine zOr16 ?_ | refine zC1 ?_ | refine zByte ?_ | refine zMaxL ?_ | refine zMaxR ?_ | refine zMinL ?_ | refine zMinR ?_ | refine zShr ?_ | refine zC8 ?_ | refine zQ ?_ | refine zR ?_ | refine zS ?_ | refine zA ?_ | refine zM ?_ | refine xr rfl ?_ | refine ai rfl ?_ | refine condT ?_ | refine condF ?_ | refine condG1 ?_ | refine condG0 ?_ | refine cD ?_ | refine dD ?_ | refine cB ?_ | refine dB ?_ | refine cN ?_ | refine dN ?_ | refine cV ?_ | refine dV ?_ | refine cE ?_ | refine dE ?_ | refine condX0 ?_ | refine condX1 ?_ | refine condNot ?_ | refine condAnd ?_ | refine condOr ?_ | refine aO ?_ | refine aB ?_ | refine aR ?_ | refine aR ?_ (by simp; omega) | refine xr (by assumption) ?_ | refine ai (by assumption) ?_ | refine kV (hget) ?_ | refine kV (hz) ?_ | refine condD (fun h => ?_) (fun h => ?_) | refine condB (fun h => ?_) (fun h => ?_) | refine condN (fun h => ?_) (fun h => ?_) | refine condE (fun h => ?_) (fun h => ?_) | refine condV (fun h => ?_) (fun h => ?_))
      (conv => whnf); first | refine ev_finX [(0, _, _), (1, _, _)] [] [true, true] (Nat.succ_pos _) ⟨rfl, rfl, trivial⟩ rfl (by repeat' (first | exact trivial | rfl | refine And.intro ?_ ?_ | (simp [pureL, pureLL, AV.pure, Blk.renS, Blk.okS, Blk.okX, AV.okS, AV.okX]; done) | omega | fail)) ⟨(by first | rfl | exact (decide_eq_false (by omega)).symm), (by first | rfl | exact (decide_eq_false (by omega)).symm), trivial⟩ ⟨rfl, (by repeat' (first | exact trivial | rfl | refine And.intro ?_ ?_ | (simp [pureL, pureLL, AV.pure, Blk.renS, Blk.okS, Blk.okX, AV.okS, AV.okX]; done) | omega | fail)), ?_⟩ | refine ev_finX0 [(0, _, _), (1, _, _)] [] [true, true] (Nat.succ_pos _) ⟨rfl, rfl, trivial⟩ rfl (by repeat' (first | exact trivial | rfl | refine And.intro ?_ ?_ | (simp [pureL, pureLL, AV.pure, Blk.renS, Blk.okS, Blk.okX, AV.okS, AV.okX]; done) | omega | fail)) ⟨(by first | rfl | exact (decide_eq_false (by omega)).symm), (by first | rfl | exact (decide_eq_false (by omega)).symm), trivial⟩ ⟨rfl, (by repeat' (first | exact trivial | rfl | refine And.intro ?_ ?_ | (simp [pureL, pureLL, AV.pure, Blk.renS, Blk.okS, Blk.okX, AV.okS, AV.okX]; done) | omega | fail)), ?_⟩
      rfl
    · rw [show readR w 7 v a = readRet false true a from by simp [readR, setA, h, badA]]
      refine gives_code (F := f95) rfl rfl (W_ok 300 _ _ _ _ ?_)
      repeat' ((conv => whnf); first | refine bslP (by first | rfl | (simp [pureL, pureLL, AV.pure]; done) | fail) rfl ?_ | refine TakeC.full (by first | rfl | omega | (simp; done) | (simp; omega) | fail) ?_ | refine zBs ?_ | refine zBn ?_ | refine zBv rfl rfl ?_ | refine zN ?_ | refine zC ?_ | refine zC4 ?_ | refine zOr16 ?_ | refine zC1 ?_ | refine zByte ?_ | refine zMaxL ?_ | refine zMaxR ?_ | refine zMinL ?_ | refine zMinR ?_ | refine zShr ?_ | refine zC8 ?_ | refine zQ ?_ | refine zR ?_ | refine zS ?_ | refine zA ?_ | refine zM ?_ | refine xr rfl ?_ | refine ai rfl ?_ | refine condT ?_ | refine condF ?_ | refine condG1 ?_ | refine condG0 ?_ | refine cD ?_ | refine dD ?_ | refine cB ?_ | refine dB ?_ | refine cN ?_ | refine dN ?_ | refine cV ?_ | refine dV ?_ | refine cE ?_ | refine dE ?_ | refine condX0 ?_ | refine condX1 ?_ | refine condNot ?_ | refine condAnd ?_ | refine condOr ?_ | refine aO ?_ | refine aB ?_ | refine aR ?_ | refine aR ?_ (by simp; omega) | refine xr (by assumption) ?_ | refine ai (by assumption) ?_ | refine kV (hget) ?_ | refine condD (fun h => ?_) (fun h => ?_) | refine condB (fun h => ?_) (fun h => ?_) | refine condN (fun h => ?_) (fun h => ?_) | refine condE (fun h => ?_) (fun h => ?_) | refine condV (fun h => ?_) (fun h => ?_))
      (conv => whnf); first | refine ev_finX [(0, _, _), (1, _, _)] [] [true, true] (Nat.succ_pos _) ⟨rfl, rfl, trivial⟩ rfl (by repeat' (first | exact trivial | rfl | refine And.intro ?_ ?_ | (simp [pureL, pureLL, AV.pure, Blk.renS, Blk.okS, Blk.okX, AV.okS, AV.okX]; done) | omega | fail)) ⟨(by first | rfl | exact (decide_eq_false (by omega)).symm), (by first | rfl | exact (decide_eq_false (by omega)).symm), trivial⟩ ⟨rfl, (by repeat' (first | exact trivial | rfl | refine And.intro ?_ ?_ | (simp [pureL, pureLL, AV.pure, Blk.renS, Blk.okS, Blk.okX, AV.okS, AV.okX]; done) | omega | fail)), ?_⟩ | refine ev_finX0 [(0, _, _), (1, _, _)] [] [true, true] (Nat.succ_pos _) ⟨rfl, rfl, trivial⟩ rfl (by repeat' (first | exact trivial | rfl | refine And.intro ?_ ?_ | (simp [pureL, pureLL, AV.pure, Blk.renS, Blk.okS, Blk.okX, AV.okS, AV.okX]; done) | omega | fail)) ⟨(by first | rfl | exact (decide_eq_false (by omega)).symm), (by first | rfl | exact (decide_eq_false (by omega)).symm), trivial⟩ ⟨rfl, (by repeat' (first | exact trivial | rfl | refine And.intro ?_ ?_ | (simp [pureL, pureLL, AV.pure, Blk.renS, Blk.okS, Blk.okX, AV.okS, AV.okX]; done) | omega | fail)), ?_⟩
      rfl
  · by_cases h : v.length = w + 4
    · have h1 := get_gives93 v (by omega) 0 w (by omega) (by omega) (by omega) (by omega)
      have h2 := get_gives93 v (by omega) w 4 (by omega) (by omega) (by omega) (by omega)
      simp only [show (0 : Int).toNat = 0 from rfl, Int.toNat_natCast, List.drop_zero] at h1
      rw [show (4 : Int).toNat = 4 from rfl, Int.toNat_natCast, List.take_of_length_le (by simp; omega)] at h2
      have hr := rd_u32 (v := v.drop w) (by simp; omega)
      rw [show readR w 7 v a = readRet true true { a with hasAggr := true, aggrAS := (rd (v.take w) : Int), aggrAddr := (rd (v.drop w) : Int) } from by simp [readR, setA, h, isKind]]
      refine gives_code (F := f95) rfl rfl (W_ok 300 _ _ _ _ ?_)
      repeat' ((conv => whnf); first | refine bslP (by first | rfl | (simp [pureL, pureLL, AV.pure]; done) | fail) rfl ?_ | refine TakeC.full (by first | rfl | omega | (simp; done) | (simp; omega) | fail) ?_ | refine zBs ?_ | refine zBn ?_ | refine zBv rfl rfl ?_ | refine zN ?_ | refine zC ?_ | refine zC4 ?_ | refine zOr16 ?_ | refine zC1 ?_ | refine zByte ?_ | refine zMaxL ?_ | refine zMaxR ?_ | refine zMinL ?_ | refine zMinR ?_ | refine zShr ?_ | refine zC8 ?_ | refine zQ ?_ | refine zR ?_ | refine zS ?_ | refine zA ?_ | refine zM ?_ | refine xr rfl ?_ | refine ai rfl ?_ | refine condT ?_ | refine condF ?_ | refine condG1 ?_ | refine condG0 ?_ | refine cD ?_ | refine dD ?_ | refine cB ?_ | refine dB ?_ | refine cN ?_ | refine dN ?_ | refine cV ?_ | refine dV ?_ | refine cE ?_ | refine dE ?_ | refine condX0 ?_ | refine condX1 ?_ | refine condNot ?_ | refine condAnd ?_ | refine condOr ?_ | refine aO ?_ | refine aB ?_ | refine aR ?_ | refine aR ?_ (by simp; omega) | refine xr (by assumption) ?_ | refine ai (by assumption) ?_ | refine kV (h1) ?_ | refine kV (h2) ?_ | refine condD (fun h => ?_) (fun h => ?_) | refine condB (fun h => ?_) (fun h => ?_) | refine condN (fun h => ?_) (fun h => ?_) | refine condE (fun h => ?_) (fun h => ?_) | refine condV (fun h => ?_) (fun h => ?_))
      (conv => whnf); first | refine ev_finX [(0, _, _), (1, _, _)] [] [true, true] (Nat.succ_pos _) ⟨rfl, rfl, trivial⟩ rfl (by repeat' (first | exact trivial | rfl | refine And.intro ?_ ?_ | (simp [pureL, pureLL, AV.pure, Blk.renS, Blk.okS, Blk.okX, AV.okS, AV.okX]; done) | omega | fail)) ⟨(by first | rfl | exact (decide_eq_false (by omega)).symm), (by first | rfl | exact (decide_eq_false (by omega)).symm), trivial⟩ ⟨rfl, (by repeat' (first | exact trivial | rfl | refine And.intro ?_ ?_ | (simp [pureL, pureLL, AV.pure, Blk.renS, Blk.okS, Blk.okX, AV.okS, AV.okX]; done) | omega | fail)), ?_⟩ | refine ev_finX0 [(0, _, _), (1, _, _)] [] [true, true] (Nat.succ_pos _) ⟨rfl, rfl, trivial⟩ rfl (by repeat' (first | exact trivial | rfl | refine And.intro ?_ ?_ | (simp [pureL, pureLL, AV.pure, Blk.renS, Blk.okS, Blk.okX, AV.okS, AV.okX]; done) | omega | fail)) ⟨(by first | rfl | exact (decide_eq_false (by omega)).symm), (by first | rfl | exact (decide_eq_false (by omega)).symm), trivial⟩ ⟨rfl, (by repeat' (first | exact trivial | rfl | refine And.intro ?_ ?_ | (simp [pureL, pureLL, AV.pure, Blk.renS, Blk.okS, Blk.okX, AV.okS, AV.okX]; done) | omega | fail)), ?_⟩
      rfl
    · rw [show readR w 7 v a = readRet false true a from by simp [readR, setA, h, badA]]
      refine gives_code (F := f95) rfl rfl (W_ok 300 _ _ _ _ ?_)
      repeat' ((conv => whnf); first | refine bslP (by first | rfl | (simp [pureL, pureLL, AV.pure]; done) | fail) rfl ?_ | refine TakeC.full (by first | rfl | omega | (simp; done) | (simp; omega) | fail) ?_ | refine zBs ?_ | refine zBn ?_ | refine zBv rfl rfl ?_ | refine zN ?_ | refine zC ?_ | refine zC4 ?_ | refine zOr16 ?_ | refine zC1 ?_ | refine zByte ?_ | refine zMaxL ?_ | refine zMaxR ?_ | refine zMinL ?_ | refine zMinR ?_ | refine zShr ?_ | refine zC8 ?_ | refine zQ ?_ | refine zR ?_ | refine zS ?_ | refine zA ?_ | refine zM ?_ | refine xr rfl ?_ | refine ai rfl ?_ | refine condT ?_ | refine condF ?_ | refine condG1 ?_ | refine condG0 ?_ | refine cD ?_ | refine dD ?_ | refine cB ?_ | refine dB ?_ | refine cN ?_ | refine dN ?_ | refine cV ?_ | refine dV ?_ | refine cE ?_ | refine dE ?_ | refine condX0 ?_ | refine condX1 ?_ | refine condNot ?_ | refine condAnd ?_ | refine condOr ?_ | refine aO ?_ | refine aB ?_ | refine aR ?_ | refine aR ?_ (by simp; omega) | refine xr (by assumption) ?_ | refine ai (by assumption) ?_ | refine condD (fun h => ?_) (fun h => ?_) | refine condB (fun h => ?_) (fun h => ?_) | refine condN (fun h => ?_) (fun h => ?_) | refine condE (fun h => ?_) (fun h => ?_) | refine condV (fun h => ?_) (fun h => ?_))
      (conv => whnf); first | refine ev_finX [(0, _, _), (1, _, _)] [] [true, true] (Nat.succ_pos _) ⟨rfl, rfl, trivial⟩ rfl (by repeat' (first | exact trivial | rfl | refine And.intro ?_ ?_ | (simp [pureL, pureLL, AV.pure, Blk.renS, Blk.okS, Blk.okX, AV.okS, AV.okX]; done) | omega | fail)) ⟨(by first | rfl | exact (decide_eq_false (by omega)).symm), (by first | rfl | exact (decide_eq_false (by omega)).symm), trivial⟩ ⟨rfl, (by repeat' (first | exact trivial | rfl | refine And.intro ?_ ?_ | (simp [pureL, pureLL, AV.pure, Blk.renS, Blk.okS, Blk.okX, AV.okS, AV.okX]; done) | omega | fail)), ?_⟩ | refine ev_finX0 [(0, _, _), (1, _, _)] [] [true, true] (Nat.succ_pos _) ⟨rfl, rfl, trivial⟩ rfl (by repeat' (first | exact trivial | rfl | refine And.intro ?_ ?_ | (simp [pureL, pureLL, AV.pure, Blk.renS, Blk.okS, Blk.okX, AV.okS, AV.okX]; done) | omega | fail)) ⟨(by first | rfl | exact (decide_eq_false (by omega)).symm), (by first | rfl | exact (decide_eq_false (by omega)).symm), trivial⟩ ⟨rfl, (by repeat' (first | exact trivial | rfl | refine And.intro ?_ ?_ | (simp [pureL, pureLL, AV.pure, Blk.renS, Blk.okS, Blk.okX, AV.okS, AV.okX]; done) | omega | fail)), ?_⟩
      rfl
theorem read8 (a : Attrs) (v : List UInt8) (hv : v.length < 2 ^ 29) (hu : a.unknown.length < 2 ^ 30) (w : Nat) (hw : w ≤ 4) : Gives G 95 [.ref 0 0 0, .int .i64 8, .sl 1 (byteCells v), .int .i64 (w : Int)] [.cells (a.cellsV (.vs 1 0 a.unknown.length)), .vec 2 (a.unknown.map TLV.enc)] (readR w 8 v a) := by
  have hbl := byteCells_length v
  have hg4 : v.length = 4 → Gives G 93 [.sl 1 (byteCells v), .int .i64 0, .int .i64 4] [] ⟨.int .i64 (rd v : Int), []⟩ := fun h => by
    have hget := get_gives93 v (by omega) 0 4 (by omega) (by omega) (by omega) (by omega)
    rwa [show (4 : Int).toNat = 4 from rfl, show (0 : Int).toNat = 0 from rfl, take_drop0 v 4 h] at hget
  have hwg := words_gives112 v (by omega)
  unfold wordsR at hwg
  by_cases h4 : v.length = 4
  · have hget := hg4 h4
    have hr := rd_u32 (v := v) (by omega)
    have hok : wordsOk v = true := by simp [wordsOk, h4]
    rw [hok] at hwg
    rw [show readR w 8 v a = readRet true true { a with comms := wordsD v } from by simp [readR, setA, hok, isKind]]
    refine gives_code (F := f95) rfl rfl (W_ok 300 _ _ _ _ ?_)
    repeat' ((conv => whnf); first | refine bslP (by first | rfl | (simp [pureL, pureLL, AV.pure]; done) | fail) rfl ?_ | refine TakeC.full (by first | rfl | omega | (simp; done) | (simp; omega) | fail) ?_ | refine zBs ?_ | refine zBn ?_ | refine zBv rfl rfl ?_ | refine zN ?_ | refine zC ?_ | refine zC4 ?_ | refine zOr16 ?_ | refine zC1 ?_ | refine zByte ?_ | refine zMaxL ?_ | refine zMaxR ?_ | refine zMinL ?_ | refine zMinR ?_ | refine zShr ?_ | refine zC8 ?_ | refine zQ ?_ | refine zR ?_ | refine zS ?_ | refine zA ?_ | refine zM ?_ | refine xr rfl ?_ | refine ai rfl ?_ | refine condT ?_ | refine condF ?_ | refine condG1 ?_ | refine condG0 ?_ | refine cD ?_ | refine dD ?_ | refine cB ?_ | refine dB ?_ | refine cN ?_ | refine dN ?_ | refine cV ?_ | refine dV ?_ | refine cE ?_ | refine dE ?_ | refine condX0 ?_ | refine condX1 ?_ | refine condNot ?_ | refine condAnd ?_ | refine condOr ?_ | refine aO ?_ | refine aB ?_ | refine aR ?_ | refine aR ?_ (by simp; omega) | refine xr (by assumption) ?_ | refine ai (by assumption) ?_ | refine kV (hget) ?_ | refine callW (hwg) ?_ | refine condD (fun h => ?_) (fun h => ?_) | refine condB (fun h => ?_) (fun h => ?_) | refine condN (fun h => ?_) (fun h => ?_) | refine condE (fun h => ?_) (fun h => ?_) | refine condV (fun h => ?_) (fun h => ?_))
    (conv => whnf); first | refine ev_finX [(0, _, _), (1, _, _)] [] [true, true] (Nat.succ_pos _) ⟨rfl, rfl, trivial⟩ rfl (by repeat' (first | exact trivial | rfl | refine And.intro ?_ ?_ | (simp [pureL, pureLL, AV.pure, Blk.renS, Blk.okS, Blk.okX, AV.okS, AV.okX]; done) | omega | fail)) ⟨(by first | rfl | exact (decide_eq_false (by omega)).symm), (by first | rfl | exact (decide_eq_false (by omega)).symm), trivial⟩ ⟨rfl, (by repeat' (first | exact trivial | rfl | refine And.intro ?_ ?_ | (simp [pureL, pureLL, AV.pure, Blk.renS, Blk.okS, Blk.okX, AV.okS, AV.okX]; done) | omega | fail)), ?_⟩ | refine ev_finX0 [(0, _, _), (1, _, _)] [] [true, true] (Nat.succ_pos _) ⟨rfl, rfl, trivial⟩ rfl (by repeat' (first | exact trivial | rfl | refine And.intro ?_ ?_ | (simp [pureL, pureLL, AV.pure, Blk.renS, Blk.okS, Blk.okX, AV.okS, AV.okX]; done) | omega | fail)) ⟨(by first | rfl | exact (decide_eq_false (by omega)).symm), (by first | rfl | exact (decide_eq_false (by omega)).symm), trivial⟩ ⟨rfl, (by repeat' (first | exact trivial | rfl | refine And.intro ?_ ?_ | (simp [pureL, pureLL, AV.pure, Blk.renS, Blk.okS, Blk.okX, AV.okS, AV.okX]; done) | omega | fail)), ?_⟩
    rfl
  · cases hok : wordsOk v
    · rw [hok] at hwg
      rw [show readR w 8 v a = readRet false true { a with comms := wordsD v } from by simp [readR, setA, hok, badA]]
      refine gives_code (F := f95) rfl rfl (W_ok 300 _ _ _ _ ?_)
      repeat' ((conv => whnf); first | refine bslP (by first | rfl | (simp [pureL, pureLL, AV.pure]; done) | fail) rfl ?_ | refine TakeC.full (by first | rfl | omega | (simp; done) | (simp; omega) | fail) ?_ | refine zBs ?_ | refine zBn ?_ | refine zBv rfl rfl ?_ | refine zN ?_ | refine zC ?_ | refine zC4 ?_ | refine zOr16 ?_ | refine zC1 ?_ | refine zByte ?_ | refine zMaxL ?_ | refine zMaxR ?_ | refine zMinL ?_ | refine zMinR ?_ | refine zShr ?_ | refine zC8 ?_ | refine zQ ?_ | refine zR ?_ | refine zS ?_ | refine zA ?_ | refine zM ?_ | refine xr rfl ?_ | refine ai rfl ?_ | refine condT ?_ | refine condF ?_ | refine condG1 ?_ | refine condG0 ?_ | refine cD ?_ | refine dD ?_ | refine cB ?_ | refine dB ?_ | refine cN ?_ | refine dN ?_ | refine cV ?_ | refine dV ?_ | refine cE ?_ | refine dE ?_ | refine condX0 ?_ | refine condX1 ?_ | refine condNot ?_ | refine condAnd ?_ | refine condOr ?_ | refine aO ?_ | refine aB ?_ | refine aR ?_ | refine aR ?_ (by simp; omega) | refine xr (by assumption) ?_ | refine ai (by assumption) ?_ | refine callW (hwg) ?_ | refine condD (fun h => ?_) (fun h => ?_) | refine condB (fun h => ?_) (fun h => ?_) | refine condN (fun h => ?_) (fun h => ?_) | refine condE (fun h => ?_) (fun h => ?_) | refine condV (fun h => ?_) (fun h => ?_))
      (conv => whnf); first | refine ev_finX [(0, _, _), (1, _, _)] [] [true, true] (Nat.succ_pos _) ⟨rfl, rfl, trivial⟩ rfl (by repeat' (first | exact trivial | rfl | refine And.intro ?_ ?_ | (simp [pureL, pureLL, AV.pure, Blk.renS, Blk.okS, Blk.okX, AV.okS, AV.okX]; done) | omega | fail)) ⟨(by first | rfl | exact (decide_eq_false (by omega)).symm), (by first | rfl | exact (decide_eq_false (by omega)).symm), trivial⟩ ⟨rfl, (by repeat' (first | exact trivial | rfl | refine And.intro ?_ ?_ | (simp [pureL, pureLL, AV.pure, Blk.renS, Blk.okS, Blk.okX, AV.okS, AV.okX]; done) | omega | fail)), ?_⟩ | refine ev_finX0 [(0, _, _), (1, _, _)] [] [true, true] (Nat.succ_pos _) ⟨rfl, rfl, trivial⟩ rfl (by repeat' (first | exact trivial | rfl | refine And.intro ?_ ?_ | (simp [pureL, pureLL, AV.pure, Blk.renS, Blk.okS, Blk.okX, AV.okS, AV.okX]; done) | omega | fail)) ⟨(by first | rfl | exact (decide_eq_false (by omega)).symm), (by first | rfl | exact (decide_eq_false (by omega)).symm), trivial⟩ ⟨rfl, (by repeat' (first | exact trivial | rfl | refine And.intro ?_ ?_ | (simp [pureL, pureLL, AV.pure, Blk.renS, Blk.okS, Blk.okX, AV.okS, AV.okX]; done) | omega | fail)), ?_⟩
      rfl
    · rw [hok] at hwg
      rw [show readR w 8 v a = readRet true true { a with comms := wordsD v } from by simp [readR, setA, hok, isKind]]
      refine gives_code (F := f95) rfl rfl (W_ok 300 _ _ _ _ ?_)
      repeat' ((conv => whnf); first | refine bslP (by first | rfl | (simp [pureL, pureLL, AV.pure]; done) | fail) rfl ?_ | refine TakeC.full (by first | rfl | omega | (simp; done) | (simp; omega) | fail) ?_ | refine zBs ?_ | refine zBn ?_ | refine zBv rfl rfl ?_ | refine zN ?_ | refine zC ?_ | refine zC4 ?_ | refine zOr16 ?_ | refine zC1 ?_ | refine zByte ?_ | refine zMaxL ?_ | refine zMaxR ?_ | refine zMinL ?_ | refine zMinR ?_ | refine zShr ?_ | refine zC8 ?_ | refine zQ ?_ | refine zR ?_ | refine zS ?_ | refine zA ?_ | refine zM ?_ | refine xr rfl ?_ | refine ai rfl ?_ | refine condT ?_ | refine condF ?_ | refine condG1 ?_ | refine condG0 ?_ | refine cD ?_ | refine dD ?_ | refine cB ?_ | refine dB ?_ | refine cN ?_ | refine dN ?_ | refine cV ?_ | refine dV ?_ | refine cE ?_ | refine dE ?_ | refine condX0 ?_ | refine condX1 ?_ | refine condNot ?_ | refine condAnd ?_ | refine condOr ?_ | refine aO ?_ | refine aB ?_ | refine aR ?_ | refine aR ?_ (by simp; omega) | refine xr (by assumption) ?_ | refine ai (by assumption) ?_ | refine callW (hwg) ?_ | refine condD (fun h => ?_) (fun h => ?_) | refine condB (fun h => ?_) (fun h => ?_) | refine condN (fun h => ?_) (fun h => ?_) | refine condE (fun h => ?_) (fun h => ?_) | refine condV (fun h => ?_) (fun h => ?_))
      (conv => whnf); first | refine ev_finX [(0, _, _), (1, _, _)] [] [true, true] (Nat.succ_pos _) ⟨rfl, rfl, trivial⟩ rfl (by repeat' (first | exact trivial | rfl | refine And.intro ?_ ?_ | (simp [pureL, pureLL, AV.pure, Blk.renS, Blk.okS, Blk.okX, AV.okS, AV.okX]; done) | omega | fail)) ⟨(by first | rfl | exact (decide_eq_false (by omega)).symm), (by first | rfl | exact (decide_eq_false (by omega)).symm), trivial⟩ ⟨rfl, (by repeat' (first | exact trivial | rfl | refine And.intro ?_ ?_ | (simp [pureL, pureLL, AV.pure, Blk.renS, Blk.okS, Blk.okX, AV.okS, AV.okX]; done) | omega | fail)), ?_⟩ | refine ev_finX0 [(0, _, _), (1, _, _)] [] [true, true] (Nat.succ_pos _) ⟨rfl, rfl, trivial⟩ rfl (by repeat' (first | exact trivial | rfl | refine And.intro ?_ ?_ | (simp [pureL, pureLL, AV.pure, Blk.renS, Blk.okS, Blk.okX, AV.okS, AV.okX]; done) | omega | fail)) ⟨(by first | rfl | exact (decide_eq_false (by omega)).symm), (by first | rfl | exact (decide_eq_false (by omega)).symm), trivial⟩ ⟨rfl, (by repeat' (first | exact trivial | rfl | refine And.intro ?_ ?_ | (simp [pureL, pureLL, AV.pure, Blk.renS, Blk.okS, Blk.okX, AV.okS, AV.okX]; done) | omega | fail)), ?_⟩
      rfl
theorem read10 (a : Attrs) (v : List UInt8) (hv : v.length < 2 ^ 29) (hu : a.unknown.length < 2 ^ 30) (w : Nat) (hw : w ≤ 4) : Gives G 95 [.ref 0 0 0, .int .i64 10, .sl 1 (byteCells v), .int .i64 (w : Int)] [.cells (a.cellsV (.vs 1 0 a.unknown.length)), .vec 2 (a.unknown.map TLV.enc)] (readR w 10 v a) := by
  have hbl := byteCells_length v
  have hg4 : v.length = 4 → Gives G 93 [.sl 1 (byteCells v), .int .i64 0, .int .i64 4] [] ⟨.int .i64 (rd v : Int), []⟩ := fun h => by
    have hget := get_gives93 v (by omega) 0 4 (by omega) (by omega) (by omega) (by omega)
    rwa [show (4 : Int).toNat = 4 from rfl, show (0 : Int).toNat = 0 from rfl, take_drop0 v 4 h] at hget
  have hwg := words_gives112 v (by omega)
  unfold wordsR at hwg
  by_cases h4 : v.length = 4
  · have hget := hg4 h4
    have hr := rd_u32 (v := v) (by omega)
    have hok : wordsOk v = true := by simp [wordsOk, h4]
    rw [hok] at hwg
    rw [show readR w 10 v a = readRet true true { a with clusters := wordsD v } from by simp [readR, setA, hok, isKind]]
    refine gives_code (F := f95) rfl rfl (W_ok 300 _ _ _ _ ?_)
    repeat' ((conv => whnf); first | refine bslP (by first | rfl | (simp [pureL, pureLL, AV.pure]; done) | fail) rfl ?_ | refine TakeC.full (by first | rfl | omega | (simp; done) | (simp; omega) | fail) ?_ | refine zBs ?_ | refine zBn ?_ | refine zBv rfl rfl ?_ | refine zN ?_ | refine zC ?_ | refine zC4 ?_ | refine zOr16 ?_ | refine zC1 ?_ | refine zByte ?_ | refine zMaxL ?_ | refine zMaxR ?_ | refine zMinL ?_ | refine zMinR ?_ | refine zShr ?_ | refine zC8 ?_ | refine zQ ?_ | refine zR ?_ | refine zS ?_ | refine zA ?_ | refine zM ?_ | refine xr rfl ?_ | refine ai rfl ?_ | refine condT ?_ | refine condF ?_ | refine condG1 ?_ | refine condG0 ?_ | refine cD ?_ | refine dD ?_ | refine cB ?_ | refine dB ?_ | refine cN ?_ | refine dN ?_ | refine cV ?_ | refine dV ?_ | refine cE ?_ | refine dE ?_ | refine condX0 ?_ | refine condX1 ?_ | refine condNot ?_ | refine condAnd ?_ | refine condOr ?_ | refine aO ?_ | refine aB ?_ | refine aR ?_ | refine aR ?_ (by simp; omega) | refine xr (by assumption) ?_ | refine ai (by assumption) ?_ | refine kV (hget) ?_ | refine callW (hwg) ?_ | refine condD (fun h => ?_) (fun h => ?_) | refine condB (fun h => ?_) (fun h => ?_) | refine condN (fun h => ?_) (fun h => ?_) | refine condE (fun h => ?_) (fun h => ?_) | refine condV (fun h => ?_) (fun h => ?_))
    (conv => whnf); first | refine ev_finX [(0, _, _), (1, _, _)] [] [true, true] (Nat.succ_pos _) ⟨rfl, rfl, trivial⟩ rfl (by repeat' (first | exact trivial | rfl | refine And.intro ?_ ?_ | (simp [pureL, pureLL, AV.pure, Blk.renS, Blk.okS, Blk.okX, AV.okS, AV.okX]; done) | omega | fail)) ⟨(by first | rfl | exact (decide_eq_false (by omega)).symm), (by first | rfl | exact (decide_eq_false (by omega)).symm), trivial⟩ ⟨rfl, (by repeat' (first | exact trivial | rfl | refine And.intro ?_ ?_ | (simp [pureL, pureLL, AV.pure, Blk.renS, Blk.okS, Blk.okX, AV.okS, AV.okX]; done) | omega | fail)), ?_⟩ | refine ev_finX0 [(0, _, _), (1, _, _)] [] [true, true] (Nat.succ_pos _) ⟨rfl, rfl, trivial⟩ rfl (by repeat' (first | exact trivial | rfl | refine And.intro ?_ ?_ | (simp [pureL, pureLL, AV.pure, Blk.renS, Blk.okS, Blk.okX, AV.okS, AV.okX]; done) | omega | fail)) ⟨(by first | rfl | exact (decide_eq_false (by omega)).symm), (by first | rfl | exact (decide_eq_false (by omega)).symm), trivial⟩ ⟨rfl, (by repeat' (first | exact trivial | rfl | refine And.intro ?_ ?_ | (simp [pureL, pureLL, AV.pure, Blk.renS, Blk.okS, Blk.okX, AV.okS, AV.okX]; done) | omega | fail)), ?_⟩
    rfl
  · cases hok : wordsOk v
    · rw [hok] at hwg
      rw [show readR w 10 v a = readRet false true { a with clusters := wordsD v } from by simp [readR, setA, hok, badA]]
      refine gives_code (F := f95) rfl rfl (W_ok 300 _ _ _ _ ?_)
      repeat' ((conv => whnf); first | refine bslP (by first | rfl | (simp [pureL, pureLL, AV.pure]; done) | fail) rfl ?_ | refine TakeC.full (by first | rfl | omega | (simp; done) | (simp; omega) | fail) ?_ | refine zBs ?_ | refine zBn ?_ | refine zBv rfl rfl ?_ | refine zN ?_ | refine zC ?_ | refine zC4 ?_ | refine zOr16 ?_ | refine zC1 ?_ | refine zByte ?_ | refine zMaxL ?_ | refine zMaxR ?_ | refine zMinL ?_ | refine zMinR ?_ | refine zShr ?_ | refine zC8 ?_ | refine zQ ?_ | refine zR ?_ | refine zS ?_ | refine zA ?_ | refine zM ?_ | refine xr rfl ?_ | refine ai rfl ?_ | refine condT ?_ | refine condF ?_ | refine condG1 ?_ | refine condG0 ?_ | refine cD ?_ | refine dD ?_ | refine cB ?_ | refine dB ?_ | refine cN ?_ | refine dN ?_ | refine cV ?_ | refine dV ?_ | refine cE ?_ | refine dE ?_ | refine condX0 ?_ | refine condX1 ?_ | refine condNot ?_ | refine condAnd ?_ | refine condOr ?_ | refine aO ?_ | refine aB ?_ | refine aR ?_ | refine aR ?_ (by simp; omega) | refine xr (by assumption) ?_ | refine ai (by assumption) ?_ | refine callW (hwg) ?_ | refine condD (fun h => ?_) (fun h => ?_) | refine condB (fun h => ?_) (fun h => ?_) | refine condN (fun h => ?_) (fun h => ?_) | refine condE (fun h => ?_) (fun h => ?_) | refine condV (fun h => ?_) (fun h => ?_))
      (conv => whnf); first | refine ev_finX [(0, _, _), (1, _, _)] [] [true, true] (Nat.succ_pos _) ⟨rfl, rfl, trivial⟩ rfl (by repeat' (first | exact trivial | rfl | refine And.intro ?_ ?_ | (simp [pureL, pureLL, AV.pure, Blk.renS, Blk.okS, Blk.okX, AV.okS, AV.okX]; done) | omega | fail)) ⟨(by first | rfl | exact (decide_eq_false (by omega)).symm), (by first | rfl | exact (decide_eq_false (by omega)).symm), trivial⟩ ⟨rfl, (by repeat' (first | exact trivial | rfl | refine And.intro ?_ ?_ | (simp [pureL, pureLL, AV.pure, Blk.renS, Blk.okS, Blk.okX, AV.okS, AV.okX]; done) | omega | fail)), ?_⟩ | refine ev_finX0 [(0, _, _), (1, _, _)] [] [true, true] (Nat.succ_pos _) ⟨rfl, rfl, trivial⟩ rfl (by repeat' (first | exact trivial | rfl | refine And.intro ?_ ?_ | (simp [pureL, pureLL, AV.pure, Blk.renS, Blk.okS, Blk.okX, AV.okS, AV.okX]; done) | omega | fail)) ⟨(by first | rfl | exact (decide_eq_false (by omega)).symm), (by first | rfl | exact (decide_eq_false (by omega)).symm), trivial⟩ ⟨rfl, (by repeat' (first | exact trivial | rfl | refine And.intro ?_ ?_ | (simp [pureL, pureLL, AV.pure, Blk.renS, Blk.okS, Blk.okX, AV.okS, AV.okX]; done) | omega | fail)), ?_⟩
      rfl
    · rw [hok] at hwg
      rw [show readR w 10 v a = readRet true true { a with clusters := wordsD v } from by simp [readR, setA, hok, isKind]]
      refine gives_code (F := f95) rfl rfl (W_ok 300 _ _ _ _ ?_)
      repeat' ((conv => whnf); first | refine bslP (by first | rfl | (simp [pureL, pureLL, AV.pure]; done) | fail) rfl ?_ | refine TakeC.full (by first | rfl | omega | (simp; done) | (simp; omega) | fail) ?_ | refine zBs ?_ | refine zBn ?_ | refine zBv rfl rfl ?_ | refine zN ?_ | refine zC ?_ | refine zC4 ?_ | refine zOr16 ?_ | refine zC1 ?_ | refine zByte ?_ | refine zMaxL ?_ | refine zMaxR ?_ | refine zMinL ?_ | refine zMinR ?_ | refine zShr ?_ | refine zC8 ?_ | refine zQ ?_ | refine zR ?_ | refine zS ?_ | refine zA ?_ | refine zM ?_ | refine xr rfl ?_ | refine ai rfl ?_ | refine condT ?_ | refine condF ?_ | refine condG1 ?_ | refine condG0 ?_ | refine cD ?_ | refine dD ?_ | refine cB ?_ | refine dB ?_ | refine cN ?_ | refine dN ?_ | refine cV ?_ | refine dV ?_ | refine cE ?_ | refine dE ?_ | refine condX0 ?_ | refine condX1 ?_ | refine condNot ?_ | refine condAnd ?_ | refine condOr ?_ | refine aO ?_ | refine aB ?_ | refine aR ?_ | refine aR ?_ (by simp; omega) | refine xr (by assumption) ?_ | refine ai (by assumption) ?_ | refine callW (hwg) ?_ | refine condD (fun h => ?_) (fun h => ?_) | refine condB (fun h => ?_) (fun h => ?_) | refine condN (fun h => ?_) (fun h => ?_) | refine condE (fun h => ?_) (fun h => ?_) | refine condV (fun h => ?_) (fun h => ?_))
      (conv => whnf); first | refine ev_finX [(0, _, _), (1, _, _)] [] [true, true] (Nat.succ_pos _) ⟨rfl, rfl, trivial⟩ rfl (by repeat' (first | exact trivial | rfl | refine And.intro ?_ ?_ | (simp [pureL, pureLL, AV.pure, Blk.renS, Blk.okS, Blk.okX, AV.okS, AV.okX]; done) | omega | fail)) ⟨(by first | rfl | exact (decide_eq_false (by omega)).symm), (by first | rfl | exact (decide_eq_false (by omega)).symm), trivial⟩ ⟨rfl, (by repeat' (first | exact trivial | rfl | refine And.intro ?_ ?_ | (simp [pureL, pureLL, AV.pure, Blk.renS, Blk.okS, Blk.okX, AV.okS, AV.okX]; done) | omega | fail)), ?_⟩ | refine ev_finX0 [(0, _, _), (1, _, _)] [] [true, true] (Nat.succ_pos _) ⟨rfl, rfl, trivial⟩ rfl (by repeat' (first | exact trivial | rfl | refine And.intro ?_ ?_ | (simp [pureL, pureLL, AV.pure, Blk.renS, Blk.okS, Blk.okX, AV.okS, AV.okX]; done) | omega | fail)) ⟨(by first | rfl | exact (decide_eq_false (by omega)).symm), (by first | rfl | exact (decide_eq_false (by omega)).symm), trivial⟩ ⟨rfl, (by repeat' (first | exact trivial | rfl | refine And.intro ?_ ?_ | (simp [pureL, pureLL, AV.pure, Blk.renS, Blk.okS, Blk.okX, AV.okS, AV.okX]; done) | omega | fail)), ?_⟩
      rfl
theorem readO (k : Nat) (hk : k = 0 ∨ 11 ≤ k) (hk2 : k ≤ 255) (a : Attrs) (v : List UInt8) (hv : v.length < 2 ^ 29) (hu : a.unknown.length < 2 ^ 30) (w : Nat) (hw : w ≤ 4) : Gives G 95 [.ref 0 0 0, .int .i64 (k : Int), .sl 1 (byteCells v), .int .i64 (w : Int)] [.cells (a.cellsV (.vs 1 0 a.unknown.length)), .vec 2 (a.unknown.map TLV.enc)] (readR w k v a) := by
  have hbl := byteCells_length v
  have hul : (a.unknown.map TLV.enc).length = a.unknown.length := by simp
  have hg4 : v.length = 4 → Gives G 93 [.sl 1 (byteCells v), .int .i64 0, .int .i64 4] [] ⟨.int .i64 (rd v : Int), []⟩ := fun h => by
    have hget := get_gives93 v (by omega) 0 4 (by omega) (by omega) (by omega) (by omega)
    rwa [show (4 : Int).toNat = 4 from rfl, show (0 : Int).toNat = 0 from rfl, take_drop0 v 4 h] at hget
  rw [show readR w k v a = readRet true false { a with unknown := a.unknown ++ [⟨(k : Int), v⟩] } from by rw [readR, setA_other hk]; simp only [show isKind k = false from by simp [isKind]; omega]]
  by_cases h4 : v.length = 4
  · have hget := hg4 h4
    have hr := rd_u32 (v := v) (by omega)
    refine gives_code (F := f95) rfl rfl (W_ok 300 _ _ _ _ ?_)
    repeat' ((conv => whnf); first | refine bslP (by first | rfl | (simp [pureL, pureLL, AV.pure]; done) | fail) rfl ?_ | refine TakeC.full (by first | rfl | omega | (simp; done) | (simp; omega) | fail) ?_ | refine zBs ?_ | refine zBn ?_ | refine zBv rfl rfl ?_ | refine zN ?_ | refine zC ?_ | refine zC4 ?_ | refine zOr16 ?_ | refine zC1 ?_ | refine zByte ?_ | refine zMaxL ?_ | refine zMaxR ?_ | refine zMinL ?_ | refine zMinR ?_ | refine zShr ?_ | refine zC8 ?_ | refine zQ ?_ | refine zR ?_ | refine zS ?_ | refine zA ?_ | refine zM ?_ | refine xr rfl ?_ | refine ai rfl ?_ | refine condT ?_ | refine condF ?_ | refine condG1 ?_ | refine condG0 ?_ | refine cD ?_ | refine dD ?_ | refine cB ?_ | refine dB ?_ | refine cN ?_ | refine dN ?_ | refine cV ?_ | refine dV ?_ | refine cE ?_ | refine dE ?_ | refine condX0 ?_ | refine condX1 ?_ | refine condNot ?_ | refine condAnd ?_ | refine condOr ?_ | refine aO ?_ | refine aB ?_ | refine aR ?_ | refine aR ?_ (by simp; omega) | refine xr (by assumption) ?_ | refine ai (by assumption) ?_ | refine kV (hget) ?_ | refine kB [(90, _, _)] ⟨rfl, pz trivial⟩ ?_ | refine condD (fun h => ?_) (fun h => ?_) | refine condB (fun h => ?_) (fun h => ?_) | refine condN (fun h => ?_) (fun h => ?_) | refine condE (fun h => ?_) (fun h => ?_) | refine condV (fun h => ?_) (fun h => ?_))
    (conv => whnf); first | refine ev_finX [(0, _, _), (1, _, _)] [] [true, false] (Nat.succ_pos _) ⟨rfl, rfl, trivial⟩ rfl (by repeat' (first | exact trivial | rfl | refine And.intro ?_ ?_ | (simp [pureL, pureLL, AV.pure, Blk.renS, Blk.okS, Blk.okX, AV.okS, AV.okX]; done) | omega | fail)) ⟨(by first | rfl | exact (decide_eq_false (by omega)).symm), (by first | rfl | exact (decide_eq_false (by omega)).symm), trivial⟩ ⟨rfl, (by repeat' (first | exact trivial | rfl | refine And.intro ?_ ?_ | (simp [pureL, pureLL, AV.pure, Blk.renS, Blk.okS, Blk.okX, AV.okS, AV.okX]; done) | omega | fail)), ?_⟩ | refine ev_finX0 [(0, _, _), (1, _, _)] [] [true, false] (Nat.succ_pos _) ⟨rfl, rfl, trivial⟩ rfl (by repeat' (first | exact trivial | rfl | refine And.intro ?_ ?_ | (simp [pureL, pureLL, AV.pure, Blk.renS, Blk.okS, Blk.okX, AV.okS, AV.okX]; done) | omega | fail)) ⟨(by first | rfl | exact (decide_eq_false (by omega)).symm), (by first | rfl | exact (decide_eq_false (by omega)).symm), trivial⟩ ⟨rfl, (by repeat' (first | exact trivial | rfl | refine And.intro ?_ ?_ | (simp [pureL, pureLL, AV.pure, Blk.renS, Blk.okS, Blk.okX, AV.okS, AV.okX]; done) | omega | fail)), ?_⟩
    simp [readRet, Attrs.cellsV, TLV.enc, flB, Blk.renX, renXL, AV.renX, zidx]; rfl
  · refine gives_code (F := f95) rfl rfl (W_ok 300 _ _ _ _ ?_)
    repeat' ((conv => whnf); first | refine bslP (by first | rfl | (simp [pureL, pureLL, AV.pure]; done) | fail) rfl ?_ | refine TakeC.full (by first | rfl | omega | (simp; done) | (simp; omega) | fail) ?_ | refine zBs ?_ | refine zBn ?_ | refine zBv rfl rfl ?_ | refine zN ?_ | refine zC ?_ | refine zC4 ?_ | refine zOr16 ?_ | refine zC1 ?_ | refine zByte ?_ | refine zMaxL ?_ | refine zMaxR ?_ | refine zMinL ?_ | refine zMinR ?_ | refine zShr ?_ | refine zC8 ?_ | refine zQ ?_ | refine zR ?_ | refine zS ?_ | refine zA ?_ | refine zM ?_ | refine xr rfl ?_ | refine ai rfl ?_ | refine condT ?_ | refine condF ?_ | refine condG1 ?_ | refine condG0 ?_ | refine cD ?_ | refine dD ?_ | refine cB ?_ | refine dB ?_ | refine cN ?_ | refine dN ?_ | refine cV ?_ | refine dV ?_ | refine cE ?_ | refine dE ?_ | refine condX0 ?_ | refine condX1 ?_ | refine condNot ?_ | refine condAnd ?_ | refine condOr ?_ | refine aO ?_ | refine aB ?_ | refine aR ?_ | refine aR ?_ (by simp; omega) | refine xr (by assumption) ?_ | refine ai (by assumption) ?_ | refine kB [(90, _, _)] ⟨rfl, pz trivial⟩ ?_ | refine condD (fun h => ?_) (fun h => ?_) | refine condB (fun h => ?_) (fun h => ?_) | refine condN (fun h => ?_) (fun h => ?_) | refine condE (fun h => ?_) (fun h => ?_) | refine condV (fun h => ?_) (fun h => ?_))
    (conv => whnf); first | refine ev_finX [(0, _, _), (1, _, _)] [] [true, false] (Nat.succ_pos _) ⟨rfl, rfl, trivial⟩ rfl (by repeat' (first | exact trivial | rfl | refine And.intro ?_ ?_ | (simp [pureL, pureLL, AV.pure, Blk.renS, Blk.okS, Blk.okX, AV.okS, AV.okX]; done) | omega | fail)) ⟨(by first | rfl | exact (decide_eq_false (by omega)).symm), (by first | rfl | exact (decide_eq_false (by omega)).symm), trivial⟩ ⟨rfl, (by repeat' (first | exact trivial | rfl | refine And.intro ?_ ?_ | (simp [pureL, pureLL, AV.pure, Blk.renS, Blk.okS, Blk.okX, AV.okS, AV.okX]; done) | omega | fail)), ?_⟩ | refine ev_finX0 [(0, _, _), (1, _, _)] [] [true, false] (Nat.succ_pos _) ⟨rfl, rfl, trivial⟩ rfl (by repeat' (first | exact trivial | rfl | refine And.intro ?_ ?_ | (simp [pureL, pureLL, AV.pure, Blk.renS, Blk.okS, Blk.okX, AV.okS, AV.okX]; done) | omega | fail)) ⟨(by first | rfl | exact (decide_eq_false (by omega)).symm), (by first | rfl | exact (decide_eq_false (by omega)).symm), trivial⟩ ⟨rfl, (by repeat' (first | exact trivial | rfl | refine And.intro ?_ ?_ | (simp [pureL, pureLL, AV.pure, Blk.renS, Blk.okS, Blk.okX, AV.okS, AV.okX]; done) | omega | fail)), ?_⟩
    simp [readRet, Attrs.cellsV, TLV.enc, flB, Blk.renX, renXL, AV.renX, zidx]; rfl
theorem read_gives95 (k : Nat) (hk2 : k ≤ 255) (a : Attrs) (v : List UInt8) (hv : v.length < 2 ^ 29) (hu : a.unknown.length < 2 ^ 30) (w : Nat) (hw : w ≤ 4) : Gives G 95 [.ref 0 0 0, .int .i64 (k : Int), .sl 1 (byteCells v), .int .i64 (w : Int)] [.cells (a.cellsV (.vs 1 0 a.unknown.length)), .vec 2 (a.unknown.map TLV.enc)] (readR w k v a) := by
  by_cases hk : k = 0 ∨ 11 ≤ k
  · exact readO k hk hk2 a v hv hu w hw
  · have : k = 1 ∨ k = 2 ∨ k = 3 ∨ k = 4 ∨ k = 5 ∨ k = 6 ∨ k = 7 ∨ k = 8 ∨ k = 9 ∨ k = 10 := by omega
    rcases this with rfl | rfl | rfl | rfl | rfl | rfl | rfl | rfl | rfl | rfl
    · exact read1 a v hv hu w hw
    · exact read2 a v hv hu w hw
    · exact read3 a v hv hu w hw
    · exact read4 a v hv hu w hw
    · exact read5 a v hv hu w hw
    · exact read6 a v hv hu w hw
    · exact read7 a v hv hu w hw
    · exact read8 a v hv hu w hw
    · exact read9 a v hv hu w hw
    · exact read10 a v hv hu w hw
end Go.AM.IR
set_option maxHeartbeats 4000000
set_option maxRecDepth 20000
namespace Go.AM.IR
end Go.AM.IR
set_option maxHeartbeats 4000000
set_option maxRecDepth 20000
namespace Go.AM.IR
def flatS (l : List Seg) : List Int := l.flatMap (·.as)
theorem flat_loop57 (l : List Seg) (hs : (flatS l).length < 2 ^ 40) (hl : l.length < 2 ^ 62) (ln : Int) (hln : ln = l.length) : ∀ (rest done : List Seg) (g m : Nat) (es : List (List AV)) (T : List (Nat × AV)) (H : Heap) (c : Nat) (n : Int) (e : l = done ++ rest) (hn : n = done.length) (hm : m = es.length) (hes : es = (flatS done).map encI), Ev G ⟨f57x7LH, ⟨(6, .sl 2 (l.map Seg.enc)) :: (7, .int .i64 ln) :: (8, .int .i64 n) :: (3, .vs 79 g m) :: T, (79, some (g, .vec 1 es)) :: H, c⟩, [.t 2], 0⟩ ⟨.vs 0 0 (flatS l).length, [(false, .vec 1 ((flatS l).map encI))]⟩
  | [], done, g, m, es, T, H, c, n, e, hn, hm, hes => by
    have hd : l.length = done.length := by simp [e]
    have hll : (l.map Seg.enc).length = l.length := by simp
    obtain rfl : l = done := by simpa using e
    refine ev_loop' (W_ok 300 _ _ _ _ ?_)
    repeat ((conv => whnf); first | refine bslP (by first | rfl | (simp [pureL, pureLL, AV.pure]; done) | fail) rfl ?_ | refine TakeC.full (by first | rfl | omega | (simp; done) | (simp; omega) | fail) ?_ | refine zBs ?_ | refine zBn ?_ | refine zBv rfl rfl ?_ | refine zN ?_ | refine zC ?_ | refine zC4 ?_ | refine zOr16 ?_ | refine zC1 ?_ | refine zByte ?_ | refine zMaxL ?_ | refine zMaxR ?_ | refine zMinL ?_ | refine zMinR ?_ | refine zShr ?_ | refine zC8 ?_ | refine zQ ?_ | refine zR ?_ | refine zS ?_ | refine zA ?_ | refine zM ?_ | refine xr rfl ?_ | refine ai rfl ?_ | refine condT ?_ | refine condF ?_ | refine condG1 ?_ | refine condG0 ?_ | refine cD ?_ | refine dD ?_ | refine cB ?_ | refine dB ?_ | refine cN ?_ | refine dN ?_ | refine cV ?_ | refine dV ?_ | refine cE ?_ | refine dE ?_ | refine condX0 ?_ | refine condX1 ?_ | refine condNot ?_ | refine condAnd ?_ | refine condOr ?_ | refine aO ?_ | refine aB ?_ | refine aR ?_ | refine aR ?_ (by simp; omega) | refine xr (by assumption) ?_ | refine ai (by assumption) ?_)
    refine ev_retV 79 g m _ rfl rfl (by simp [Blk.pure, hes]) ?_
    simp [hm, hes]
  | x :: r, done, g, m, es, T, H, c, n, e, hn, hm, hes => by
    have hd : l.length = done.length + (r.length + 1) := by simp [e]
    have hll : (l.map Seg.enc).length = l.length := by simp
    have hx : (l.map Seg.enc)[n.toNat]? = some (Seg.enc x) := by simp [e, hn]
    have hsz : es.length + (x.as.map encI).length < 2 ^ 40 := by
      rw [e] at hs; simp [flatS] at hs; simp [hes, flatS]; omega
    refine ev_loop' (W_ok 300 _ _ _ _ ?_)
    repeat ((conv => whnf); first | refine bslP (by first | rfl | (simp [pureL, pureLL, AV.pure]; done) | fail) rfl ?_ | refine TakeC.full (by first | rfl | omega | (simp; done) | (simp; omega) | fail) ?_ | refine zBs ?_ | refine zBn ?_ | refine zBv rfl rfl ?_ | refine zN ?_ | refine zC ?_ | refine zC4 ?_ | refine zOr16 ?_ | refine zC1 ?_ | refine zByte ?_ | refine zMaxL ?_ | refine zMaxR ?_ | refine zMinL ?_ | refine zMinR ?_ | refine zShr ?_ | refine zC8 ?_ | refine zQ ?_ | refine zR ?_ | refine zS ?_ | refine zA ?_ | refine zM ?_ | refine xr rfl ?_ | refine ai rfl ?_ | refine condT ?_ | refine condF ?_ | refine condG1 ?_ | refine condG0 ?_ | refine cD ?_ | refine dD ?_ | refine cB ?_ | refine dB ?_ | refine cN ?_ | refine dN ?_ | refine cV ?_ | refine dV ?_ | refine cE ?_ | refine dE ?_ | refine condX0 ?_ | refine condX1 ?_ | refine condNot ?_ | refine condAnd ?_ | refine condOr ?_ | refine aO ?_ | refine aB ?_ | refine aR ?_ | refine aR ?_ (by simp; omega) | refine xr (by assumption) ?_ | refine ai (by assumption) ?_)
    refine ev_keep [6, 7, 8, 3] [79] ?_; exact flat_loop57 l hs hl ln hln r (done ++ [x]) _ _ _ _ _ _ (n + 1) (by simp [e]) (by simp [hn] <;> omega) (by simp [hm]) (by rw [hes]; simp [flatS])
theorem flat_gives57 (l : List Seg) (hl : l.length < 2 ^ 62) (hs : (flatS l).length < 2 ^ 40) : Gives G 57 [.sl 2 (l.map Seg.enc)] [] ⟨.vs 0 0 (flatS l).length, [(false, .vec 1 ((flatS l).map encI))]⟩ := by
  refine gives_code (F := f57) rfl rfl (W_ok 300 _ _ _ _ ?_)
  repeat ((conv => whnf); first | refine bslP (by first | rfl | (simp [pureL, pureLL, AV.pure]; done) | fail) rfl ?_ | refine TakeC.full (by first | rfl | omega | (simp; done) | (simp; omega) | fail) ?_ | refine zBs ?_ | refine zBn ?_ | refine zBv rfl rfl ?_ | refine zN ?_ | refine zC ?_ | refine zC4 ?_ | refine zOr16 ?_ | refine zC1 ?_ | refine zByte ?_ | refine zMaxL ?_ | refine zMaxR ?_ | refine zMinL ?_ | refine zMinR ?_ | refine zShr ?_ | refine zC8 ?_ | refine zQ ?_ | refine zR ?_ | refine zS ?_ | refine zA ?_ | refine zM ?_ | refine xr rfl ?_ | refine ai rfl ?_ | refine condT ?_ | refine condF ?_ | refine condG1 ?_ | refine condG0 ?_ | refine cD ?_ | refine dD ?_ | refine cB ?_ | refine dB ?_ | refine cN ?_ | refine dN ?_ | refine cV ?_ | refine dV ?_ | refine cE ?_ | refine dE ?_ | refine condX0 ?_ | refine condX1 ?_ | refine condNot ?_ | refine condAnd ?_ | refine condOr ?_ | refine aO ?_ | refine aB ?_ | refine aR ?_ | refine aR ?_ (by simp; omega) | refine xr (by assumption) ?_ | refine ai (by assumption) ?_)
  refine ev_nil 79 1 [(3, .vs 79 _ 0)] [] ⟨LeP.nilV _ _ _, trivial⟩ trivial ?_
  refine ev_keep [6, 7, 8, 3] [79] ?_
  exact flat_loop57 l hs hl _ (by simp) l [] _ _ _ _ _ _ 0 rfl rfl rfl rfl
theorem size_gives54 (l : List Seg) (hl : l.length < 2 ^ 40) (hs : (flatS l).length < 2 ^ 40) : Gives G 54 [.sl 2 (l.map Seg.enc)] [] ⟨.int .i64 (l.length + (flatS l).length), []⟩ := by
  have hlm : (l.map Seg.enc).length = l.length := by simp
  refine gives_code (F := f54) rfl rfl (W_ok 300 _ _ _ _ ?_)
  repeat ((conv => whnf); first | refine bslP (by first | rfl | (simp [pureL, pureLL, AV.pure]; done) | fail) rfl ?_ | refine TakeC.full (by first | rfl | omega | (simp; done) | (simp; omega) | fail) ?_ | refine zBs ?_ | refine zBn ?_ | refine zBv rfl rfl ?_ | refine zN ?_ | refine zC ?_ | refine zC4 ?_ | refine zOr16 ?_ | refine zC1 ?_ | refine zByte ?_ | refine zMaxL ?_ | refine zMaxR ?_ | refine zMinL ?_ | refine zMinR ?_ | refine zShr ?_ | refine zC8 ?_ | refine zQ ?_ | refine zR ?_ | refine zS ?_ | refine zA ?_ | refine zM ?_ | refine xr rfl ?_ | refine ai rfl ?_ | refine condT ?_ | refine condF ?_ | refine condG1 ?_ | refine condG0 ?_ | refine cD ?_ | refine dD ?_ | refine cB ?_ | refine dB ?_ | refine cN ?_ | refine dN ?_ | refine cV ?_ | refine dV ?_ | refine cE ?_ | refine dE ?_ | refine condX0 ?_ | refine condX1 ?_ | refine condNot ?_ | refine condAnd ?_ | refine condOr ?_ | refine aO ?_ | refine aB ?_ | refine aR ?_ | refine aR ?_ (by simp; omega) | refine xr (by assumption) ?_ | refine ai (by assumption) ?_)
  refine callN (flat_gives57 l (by omega) hs) (by simp [pureL, AV.pure]) rfl (by simp [pureBs, Blk.pure]) rfl ?_
  repeat ((conv => whnf); first | refine bslP (by first | rfl | (simp [pureL, pureLL, AV.pure]; done) | fail) rfl ?_ | refine TakeC.full (by first | rfl | omega | (simp; done) | (simp; omega) | fail) ?_ | refine zBs ?_ | refine zBn ?_ | refine zBv rfl rfl ?_ | refine zN ?_ | refine zC ?_ | refine zC4 ?_ | refine zOr16 ?_ | refine zC1 ?_ | refine zByte ?_ | refine zMaxL ?_ | refine zMaxR ?_ | refine zMinL ?_ | refine zMinR ?_ | refine zShr ?_ | refine zC8 ?_ | refine zQ ?_ | refine zR ?_ | refine zS ?_ | refine zA ?_ | refine zM ?_ | refine xr rfl ?_ | refine ai rfl ?_ | refine condT ?_ | refine condF ?_ | refine condG1 ?_ | refine condG0 ?_ | refine cD ?_ | refine dD ?_ | refine cB ?_ | refine dB ?_ | refine cN ?_ | refine dN ?_ | refine cV ?_ | refine dV ?_ | refine cE ?_ | refine dE ?_ | refine condX0 ?_ | refine condX1 ?_ | refine condNot ?_ | refine condAnd ?_ | refine condOr ?_ | refine aO ?_ | refine aB ?_ | refine aR ?_ | refine aR ?_ (by simp; omega) | refine xr (by assumption) ?_ | refine ai (by assumption) ?_)
  (first | refine ev_fin (And.intro (by first | rfl | (simp [AV.pure, pureL]; done) | fail) ?_) | refine ev_fin0 (And.intro (by first | rfl | (simp [AV.pure, pureL]; done) | fail) ?_))
  simp
def unkS (l : List TLV) : Int := (l.map fun t => (t.value.length : Int) / 8).sum
def sizeS (a : Attrs) : Int := a.path.length + (flatS a.path).length + a.comms.length + a.clusters.length + a.unknown.length + unkS a.unknown
structure AB (a : Attrs) : Prop where
  path : a.path.length < 2 ^ 40
  flat : (flatS a.path).length < 2 ^ 40
  comms : a.comms.length < 2 ^ 40
  clusters : a.clusters.length < 2 ^ 40
  unknown : a.unknown.length < 2 ^ 40
  vals : ∀ t ∈ a.unknown, t.value.length < 2 ^ 40
  unk : unkS a.unknown < 2 ^ 40
theorem unk_nonneg : ∀ l : List TLV, 0 ≤ unkS l
  | [] => by simp [unkS]
  | t :: r => by
    have := unk_nonneg r
    simp only [unkS, List.map_cons, List.sum_cons] at this ⊢
    have h2 : 0 ≤ (t.value.length : Int) / 8 := by omega
    omega
theorem size_loop26 (l : List TLV) (s0 : Int) (hv : ∀ t ∈ l, t.value.length < 2 ^ 40) (hu : unkS l < 2 ^ 40) (hs0 : 0 ≤ s0) (hs1 : s0 < 2 ^ 50) (hl : l.length < 2 ^ 40) (ln : Int) (hln : ln = l.length) : ∀ (rest done : List TLV) (s : Int) (T : List (Nat × AV)) (H : Heap) (c : Nat) (n : Int) (e : l = done ++ rest) (hn : n = done.length) (hs : s = s0 + unkS done), Ev G ⟨f26x7LH, ⟨(22, .sl 2 (l.map TLV.enc)) :: (23, .int .i64 ln) :: (24, .int .i64 n) :: (3, .int .i64 s) :: T, H, c⟩, [.t 2], 0⟩ ⟨.int .i64 (s0 + unkS l), []⟩
  | [], done, s, T, H, c, n, e, hn, hs => by
    have hd : l.length = done.length := by simp [e]
    have hll : (l.map TLV.enc).length = l.length := by simp
    obtain rfl : l = done := by simpa using e
    refine ev_loop' (W_ok 300 _ _ _ _ ?_)
    repeat ((conv => whnf); first | refine bslP (by first | rfl | (simp [pureL, pureLL, AV.pure]; done) | fail) rfl ?_ | refine TakeC.full (by first | rfl | omega | (simp; done) | (simp; omega) | fail) ?_ | refine zBs ?_ | refine zBn ?_ | refine zBv rfl rfl ?_ | refine zN ?_ | refine zC ?_ | refine zC4 ?_ | refine zOr16 ?_ | refine zC1 ?_ | refine zByte ?_ | refine zMaxL ?_ | refine zMaxR ?_ | refine zMinL ?_ | refine zMinR ?_ | refine zShr ?_ | refine zC8 ?_ | refine zQ ?_ | refine zR ?_ | refine zS ?_ | refine zA ?_ | refine zM ?_ | refine xr rfl ?_ | refine ai rfl ?_ | refine condT ?_ | refine condF ?_ | refine condG1 ?_ | refine condG0 ?_ | refine cD ?_ | refine dD ?_ | refine cB ?_ | refine dB ?_ | refine cN ?_ | refine dN ?_ | refine cV ?_ | refine dV ?_ | refine cE ?_ | refine dE ?_ | refine condX0 ?_ | refine condX1 ?_ | refine condNot ?_ | refine condAnd ?_ | refine condOr ?_ | refine aO ?_ | refine aB ?_ | refine aR ?_ | refine aR ?_ (by simp; omega) | refine xr (by assumption) ?_ | refine ai (by assumption) ?_)
    rw [hs]
    first | exact ev_ret rfl | exact ev_end rfl
  | x :: r, done, s, T, H, c, n, e, hn, hs => by
    have hd : l.length = done.length + (r.length + 1) := by simp [e]
    have hll : (l.map TLV.enc).length = l.length := by simp
    have hx : (l.map TLV.enc)[n.toNat]? = some (TLV.enc x) := by simp [e, hn]
    have hxv : x.value.length < 2 ^ 40 := hv x (by simp [e])
    have hbl : (byteCells x.value).length = x.value.length := by simp [byteCells]
    have hsum : unkS l = unkS done + ((x.value.length : Int) / 8 + unkS r) := by rw [e]; simp [unkS]
    have hr := unk_nonneg r
    have hdn := unk_nonneg done
    refine ev_loop' (W_ok 300 _ _ _ _ ?_)
    repeat ((conv => whnf); first | refine bslP (by first | rfl | (simp [pureL, pureLL, AV.pure]; done) | fail) rfl ?_ | refine TakeC.full (by first | rfl | omega | (simp; done) | (simp; omega) | fail) ?_ | refine zBs ?_ | refine zBn ?_ | refine zBv rfl rfl ?_ | refine zN ?_ | refine zC ?_ | refine zC4 ?_ | refine zOr16 ?_ | refine zC1 ?_ | refine zByte ?_ | refine zMaxL ?_ | refine zMaxR ?_ | refine zMinL ?_ | refine zMinR ?_ | refine zShr ?_ | refine zC8 ?_ | refine zQ ?_ | refine zR ?_ | refine zS ?_ | refine zA ?_ | refine zM ?_ | refine xr rfl ?_ | refine ai rfl ?_ | refine condT ?_ | refine condF ?_ | refine condG1 ?_ | refine condG0 ?_ | refine cD ?_ | refine dD ?_ | refine cB ?_ | refine dB ?_ | refine cN ?_ | refine dN ?_ | refine cV ?_ | refine dV ?_ | refine cE ?_ | refine dE ?_ | refine condX0 ?_ | refine condX1 ?_ | refine condNot ?_ | refine condAnd ?_ | refine condOr ?_ | refine aO ?_ | refine aB ?_ | refine aR ?_ | refine aR ?_ (by simp; omega) | refine xr (by assumption) ?_ | refine ai (by assumption) ?_)
    refine ev_keep [22, 23, 24, 3] [] ?_; exact size_loop26 l s0 hv hu hs0 hs1 hl ln hln r (done ++ [x]) _ _ _ _ (n + 1) (by simp [e]) (by simp [hn] <;> omega) (by rw [hs, hbl]; simp [unkS]; omega)
theorem size_gives26 (a : Attrs) (h : AB a) : Gives G 26 [.agg a.enc] [] ⟨.int .i64 (sizeS a), []⟩ := by
  obtain ⟨h1, h2, h3, h4, h5, h6, h7⟩ := h
  have l3 : (a.comms.map encU).length = a.comms.length := by simp
  have l4 : (a.clusters.map encU).length = a.clusters.length := by simp
  have l5 : (a.unknown.map TLV.enc).length = a.unknown.length := by simp
  refine gives_code (F := f26) rfl rfl (W_ok 300 _ _ _ _ ?_)
  repeat ((conv => whnf); first | refine bslP (by first | rfl | (simp [pureL, pureLL, AV.pure]; done) | fail) rfl ?_ | refine TakeC.full (by first | rfl | omega | (simp; done) | (simp; omega) | fail) ?_ | refine zBs ?_ | refine zBn ?_ | refine zBv rfl rfl ?_ | refine zN ?_ | refine zC ?_ | refine zC4 ?_ | refine zOr16 ?_ | refine zC1 ?_ | refine zByte ?_ | refine zMaxL ?_ | refine zMaxR ?_ | refine zMinL ?_ | refine zMinR ?_ | refine zShr ?_ | refine zC8 ?_ | refine zQ ?_ | refine zR ?_ | refine zS ?_ | refine zA ?_ | refine zM ?_ | refine xr rfl ?_ | refine ai rfl ?_ | refine condT ?_ | refine condF ?_ | refine condG1 ?_ | refine condG0 ?_ | refine cD ?_ | refine dD ?_ | refine cB ?_ | refine dB ?_ | refine cN ?_ | refine dN ?_ | refine cV ?_ | refine dV ?_ | refine cE ?_ | refine dE ?_ | refine condX0 ?_ | refine condX1 ?_ | refine condNot ?_ | refine condAnd ?_ | refine condOr ?_ | refine aO ?_ | refine aB ?_ | refine aR ?_ | refine aR ?_ (by simp; omega) | refine xr (by assumption) ?_ | refine ai (by assumption) ?_)
  refine callV (size_gives54 a.path h1 h2) (by first | rfl | (simp [pureL, pureLL, AV.pure]; done) | fail) (by first | rfl | (simp [AV.dry, dryL]; done) | fail) ?_
  repeat ((conv => whnf); first | refine bslP (by first | rfl | (simp [pureL, pureLL, AV.pure]; done) | fail) rfl ?_ | refine TakeC.full (by first | rfl | omega | (simp; done) | (simp; omega) | fail) ?_ | refine zBs ?_ | refine zBn ?_ | refine zBv rfl rfl ?_ | refine zN ?_ | refine zC ?_ | refine zC4 ?_ | refine zOr16 ?_ | refine zC1 ?_ | refine zByte ?_ | refine zMaxL ?_ | refine zMaxR ?_ | refine zMinL ?_ | refine zMinR ?_ | refine zShr ?_ | refine zC8 ?_ | refine zQ ?_ | refine zR ?_ | refine zS ?_ | refine zA ?_ | refine zM ?_ | refine xr rfl ?_ | refine ai rfl ?_ | refine condT ?_ | refine condF ?_ | refine condG1 ?_ | refine condG0 ?_ | refine cD ?_ | refine dD ?_ | refine cB ?_ | refine dB ?_ | refine cN ?_ | refine dN ?_ | refine cV ?_ | refine dV ?_ | refine cE ?_ | refine dE ?_ | refine condX0 ?_ | refine condX1 ?_ | refine condNot ?_ | refine condAnd ?_ | refine condOr ?_ | refine aO ?_ | refine aB ?_ | refine aR ?_ | refine aR ?_ (by simp; omega) | refine xr (by assumption) ?_ | refine ai (by assumption) ?_)
  refine ev_keep [22, 23, 24, 3] [] ?_
  rw [l3, l4, l5]
  refine size_loop26 a.unknown (a.path.length + (flatS a.path).length + a.comms.length + a.clusters.length + a.unknown.length) h6 h7 (by omega) (by omega) h5 _ (by simp) a.unknown [] _ _ _ _ 0 rfl rfl ?_
  simp [unkS]
theorem large_gives21 (a : Attrs) (h : AB a) : Gives G 21 [.agg a.enc] [] ⟨.bool (decide (sizeS a > 3000)), []⟩ := by
  refine gives_code (F := f21) rfl rfl (W_ok 60 _ _ _ _ ?_)
  repeat ((conv => whnf); first | refine bslP (by first | rfl | (simp [pureL, pureLL, AV.pure]; done) | fail) rfl ?_ | refine TakeC.full (by first | rfl | omega | (simp; done) | (simp; omega) | fail) ?_ | refine zBs ?_ | refine zBn ?_ | refine zBv rfl rfl ?_ | refine zN ?_ | refine zC ?_ | refine zC4 ?_ | refine zOr16 ?_ | refine zC1 ?_ | refine zByte ?_ | refine zMaxL ?_ | refine zMaxR ?_ | refine zMinL ?_ | refine zMinR ?_ | refine zShr ?_ | refine zC8 ?_ | refine zQ ?_ | refine zR ?_ | refine zS ?_ | refine zA ?_ | refine zM ?_ | refine xr rfl ?_ | refine ai rfl ?_ | refine condT ?_ | refine condF ?_ | refine condG1 ?_ | refine condG0 ?_ | refine cD ?_ | refine dD ?_ | refine cB ?_ | refine dB ?_ | refine cN ?_ | refine dN ?_ | refine cV ?_ | refine dV ?_ | refine cE ?_ | refine dE ?_ | refine condX0 ?_ | refine condX1 ?_ | refine condNot ?_ | refine condAnd ?_ | refine condOr ?_ | refine aO ?_ | refine aB ?_ | refine aR ?_ | refine aR ?_ (by simp; omega) | refine xr (by assumption) ?_ | refine ai (by assumption) ?_)
  refine callV (size_gives26 a h) (by first | rfl | (simp [pureL, pureLL, AV.pure]; done) | fail) (by first | rfl | (simp [AV.dry, dryL]; done) | fail) ?_
  repeat ((conv => whnf); first | refine bslP (by first | rfl | (simp [pureL, pureLL, AV.pure]; done) | fail) rfl ?_ | refine TakeC.full (by first | rfl | omega | (simp; done) | (simp; omega) | fail) ?_ | refine zBs ?_ | refine zBn ?_ | refine zBv rfl rfl ?_ | refine zN ?_ | refine zC ?_ | refine zC4 ?_ | refine zOr16 ?_ | refine zC1 ?_ | refine zByte ?_ | refine zMaxL ?_ | refine zMaxR ?_ | refine zMinL ?_ | refine zMinR ?_ | refine zShr ?_ | refine zC8 ?_ | refine zQ ?_ | refine zR ?_ | refine zS ?_ | refine zA ?_ | refine zM ?_ | refine xr rfl ?_ | refine ai rfl ?_ | refine condT ?_ | refine condF ?_ | refine condG1 ?_ | refine condG0 ?_ | refine cD ?_ | refine dD ?_ | refine cB ?_ | refine dB ?_ | refine cN ?_ | refine dN ?_ | refine cV ?_ | refine dV ?_ | refine cE ?_ | refine dE ?_ | refine condX0 ?_ | refine condX1 ?_ | refine condNot ?_ | refine condAnd ?_ | refine condOr ?_ | refine aO ?_ | refine aB ?_ | refine aR ?_ | refine aR ?_ (by simp; omega) | refine xr (by assumption) ?_ | refine ai (by assumption) ?_)
  first | exact ev_ret rfl | exact ev_end rfl
end Go.AM.IR
set_option maxHeartbeats 4000000
set_option maxRecDepth 20000
namespace Go.AM.IR
@[irreducible] def setK (k : Int) : Bool := k == 1 || k == 4
@[irreducible] def confK (k : Int) : Bool := k == 3 || k == 4
theorem when_gives74 (b : Bool) (e : Int) : Gives G 74 [.bool b, .int .i64 e] [] ⟨.int .i64 (if b = true then e else 0), []⟩ := by
  refine gives_code (F := f74) rfl rfl (W_ok 300 _ _ _ _ ?_)
  repeat' ((conv => whnf); first | refine bslP (by first | rfl | (simp [pureL, pureLL, AV.pure]; done) | fail) rfl ?_ | refine TakeC.full (by first | rfl | omega | (simp; done) | (simp; omega) | fail) ?_ | refine zBs ?_ | refine zBn ?_ | refine zBv rfl rfl ?_ | refine zN ?_ | refine zC ?_ | refine zC4 ?_ | refine zOr16 ?_ | refine zC1 ?_ | refine zByte ?_ | refine zMaxL ?_ | refine zMaxR ?_ | refine zMinL ?_ | refine zMinR ?_ | refine zShr ?_ | refine zC8 ?_ | refine zQ ?_ | refine zR ?_ | refine zS ?_ | refine zA ?_ | refine zM ?_ | refine xr rfl ?_ | refine ai rfl ?_ | refine condT ?_ | refine condF ?_ | refine condG1 ?_ | refine condG0 ?_ | refine cD ?_ | refine dD ?_ | refine cB ?_ | refine dB ?_ | refine cN ?_ | refine dN ?_ | refine cV ?_ | refine dV ?_ | refine cE ?_ | refine dE ?_ | refine condX0 ?_ | refine condX1 ?_ | refine condNot ?_ | refine condAnd ?_ | refine condOr ?_ | refine aO ?_ | refine aB ?_ | refine aR ?_ | refine aR ?_ (by simp; omega) | refine xr (by assumption) ?_ | refine ai (by assumption) ?_ | refine condD (fun h => ?_) (fun h => ?_) | refine condB (fun h => ?_) (fun h => ?_) | refine condN (fun h => ?_) (fun h => ?_) | refine condE (fun h => ?_) (fun h => ?_) | refine condV (fun h => ?_) (fun h => ?_))
  all_goals try ((first | refine ev_fin (And.intro (by first | rfl | (simp [AV.pure, pureL]; done) | fail) ?_) | refine ev_fin0 (And.intro (by first | rfl | (simp [AV.pure, pureL]; done) | fail) ?_)); first | rfl | (simp [Bool.cond_eq_ite, *]; done) | (simp [Bool.cond_eq_ite, *]; omega))
def optE (has : Bool) (n low : Int) : Int := if has = true then (if n < low ∨ n > 4294967295 then 5 else 0) else (if n = 0 then 0 else 1)
theorem optional_gives76 (has : Bool) (n low : Int) : Gives G 76 [.bool has, .int .i64 n, .int .i64 low] [] ⟨.int .i64 (optE has n low), []⟩ := by
  refine gives_code (F := f76) rfl rfl (W_ok 300 _ _ _ _ ?_)
  repeat' ((conv => whnf); first | refine bslP (by first | rfl | (simp [pureL, pureLL, AV.pure]; done) | fail) rfl ?_ | refine TakeC.full (by first | rfl | omega | (simp; done) | (simp; omega) | fail) ?_ | refine zBs ?_ | refine zBn ?_ | refine zBv rfl rfl ?_ | refine zN ?_ | refine zC ?_ | refine zC4 ?_ | refine zOr16 ?_ | refine zC1 ?_ | refine zByte ?_ | refine zMaxL ?_ | refine zMaxR ?_ | refine zMinL ?_ | refine zMinR ?_ | refine zShr ?_ | refine zC8 ?_ | refine zQ ?_ | refine zR ?_ | refine zS ?_ | refine zA ?_ | refine zM ?_ | refine xr rfl ?_ | refine ai rfl ?_ | refine condT ?_ | refine condF ?_ | refine condG1 ?_ | refine condG0 ?_ | refine cD ?_ | refine dD ?_ | refine cB ?_ | refine dB ?_ | refine cN ?_ | refine dN ?_ | refine cV ?_ | refine dV ?_ | refine cE ?_ | refine dE ?_ | refine condX0 ?_ | refine condX1 ?_ | refine condNot ?_ | refine condAnd ?_ | refine condOr ?_ | refine aO ?_ | refine aB ?_ | refine aR ?_ | refine aR ?_ (by simp; omega) | refine xr (by assumption) ?_ | refine ai (by assumption) ?_ | refine condD (fun h => ?_) (fun h => ?_) | refine condB (fun h => ?_) (fun h => ?_) | refine condN (fun h => ?_) (fun h => ?_) | refine condE (fun h => ?_) (fun h => ?_) | refine condV (fun h => ?_) (fun h => ?_))
  all_goals try ((first | refine ev_fin (And.intro (by first | rfl | (simp [AV.pure, pureL]; done) | fail) ?_) | refine ev_fin0 (And.intro (by first | rfl | (simp [AV.pure, pureL]; done) | fail) ?_)); first | rfl | (simp [optE, Bool.cond_eq_ite, *]; done) | (simp [optE, Bool.cond_eq_ite, *]; omega) | (unfold optE; repeat' split; all_goals first | rfl | (exfalso; omega) | (simp_all; done) | (simp_all; omega)))
end Go.AM.IR
set_option maxHeartbeats 4000000
set_option maxRecDepth 20000
namespace Go.AM.IR
def firstS : List Int → Int
  | [] => 0
  | x :: r => if x = 0 then firstS r else x
theorem first_loop73 (l : List Int)  (hl : l.length < 2 ^ 40) (ln : Int) (hln : ln = l.length) : ∀ (rest done : List Int)  (T : List (Nat × AV)) (H : Heap) (c : Nat) (n : Int) (e : l = done ++ rest) (hn : n = done.length) , Ev G ⟨f73x7LH, ⟨(5, .sl 1 (l.map encI)) :: (6, .int .i64 ln) :: (7, .int .i64 n) :: T, H, c⟩, [.t 2], 0⟩ ⟨.int .i64 (firstS rest), []⟩
  | [], done,  T, H, c, n, e, hn => by
    have hd : l.length = done.length := by simp [e]
    have hll : (l.map encI).length = l.length := by simp
    refine ev_loop' (W_ok 300 _ _ _ _ ?_)
    repeat' ((conv => whnf); first | refine bslP (by first | rfl | (simp [pureL, pureLL, AV.pure]; done) | fail) rfl ?_ | refine TakeC.full (by first | rfl | omega | (simp; done) | (simp; omega) | fail) ?_ | refine zBs ?_ | refine zBn ?_ | refine zBv rfl rfl ?_ | refine zN ?_ | refine zC ?_ | refine zC4 ?_ | refine zOr16 ?_ | refine zC1 ?_ | refine zByte ?_ | refine zMaxL ?_ | refine zMaxR ?_ | refine zMinL ?_ | refine zMinR ?_ | refine zShr ?_ | refine zC8 ?_ | refine zQ ?_ | refine zR ?_ | refine zS ?_ | refine zA ?_ | refine zM ?_ | refine xr rfl ?_ | refine ai rfl ?_ | refine condT ?_ | refine condF ?_ | refine condG1 ?_ | refine condG0 ?_ | refine cD ?_ | refine dD ?_ | refine cB ?_ | refine dB ?_ | refine cN ?_ | refine dN ?_ | refine cV ?_ | refine dV ?_ | refine cE ?_ | refine dE ?_ | refine condX0 ?_ | refine condX1 ?_ | refine condNot ?_ | refine condAnd ?_ | refine condOr ?_ | refine aO ?_ | refine aB ?_ | refine aR ?_ | refine aR ?_ (by simp; omega) | refine xr (by assumption) ?_ | refine ai (by assumption) ?_ | refine condD (fun h => ?_) (fun h => ?_) | refine condB (fun h => ?_) (fun h => ?_) | refine condN (fun h => ?_) (fun h => ?_) | refine condE (fun h => ?_) (fun h => ?_) | refine condV (fun h => ?_) (fun h => ?_))
    all_goals try ((first | refine ev_fin (And.intro (by first | rfl | (simp [AV.pure, pureL]; done) | fail) ?_) | refine ev_fin0 (And.intro (by first | rfl | (simp [AV.pure, pureL]; done) | fail) ?_)); first | rfl | (simp [firstS, Bool.cond_eq_ite, *]; done) | (simp [firstS, Bool.cond_eq_ite, *]; omega) | (unfold firstS; repeat' split; all_goals first | rfl | (exfalso; omega) | (simp_all; done) | (simp_all; omega)))
  | x :: r, done,  T, H, c, n, e, hn => by
    have hd : l.length = done.length + (r.length + 1) := by simp [e]
    have hll : (l.map encI).length = l.length := by simp
    have hx : (l.map encI)[n.toNat]? = some (encI x) := by simp [e, hn]
    refine ev_loop' (W_ok 300 _ _ _ _ ?_)
    repeat' ((conv => whnf); first | refine bslP (by first | rfl | (simp [pureL, pureLL, AV.pure]; done) | fail) rfl ?_ | refine TakeC.full (by first | rfl | omega | (simp; done) | (simp; omega) | fail) ?_ | refine zBs ?_ | refine zBn ?_ | refine zBv rfl rfl ?_ | refine zN ?_ | refine zC ?_ | refine zC4 ?_ | refine zOr16 ?_ | refine zC1 ?_ | refine zByte ?_ | refine zMaxL ?_ | refine zMaxR ?_ | refine zMinL ?_ | refine zMinR ?_ | refine zShr ?_ | refine zC8 ?_ | refine zQ ?_ | refine zR ?_ | refine zS ?_ | refine zA ?_ | refine zM ?_ | refine xr rfl ?_ | refine ai rfl ?_ | refine condT ?_ | refine condF ?_ | refine condG1 ?_ | refine condG0 ?_ | refine cD ?_ | refine dD ?_ | refine cB ?_ | refine dB ?_ | refine cN ?_ | refine dN ?_ | refine cV ?_ | refine dV ?_ | refine cE ?_ | refine dE ?_ | refine condX0 ?_ | refine condX1 ?_ | refine condNot ?_ | refine condAnd ?_ | refine condOr ?_ | refine aO ?_ | refine aB ?_ | refine aR ?_ | refine aR ?_ (by simp; omega) | refine xr (by assumption) ?_ | refine ai (by assumption) ?_ | refine condD (fun h => ?_) (fun h => ?_) | refine condB (fun h => ?_) (fun h => ?_) | refine condN (fun h => ?_) (fun h => ?_) | refine condE (fun h => ?_) (fun h => ?_) | refine condV (fun h => ?_) (fun h => ?_))
    all_goals try ((first | refine ev_fin (And.intro (by first | rfl | (simp [AV.pure, pureL]; done) | fail) ?_) | refine ev_fin0 (And.intro (by first | rfl | (simp [AV.pure, pureL]; done) | fail) ?_)); first | rfl | (simp [firstS, Bool.cond_eq_ite, *]; done) | (simp [firstS, Bool.cond_eq_ite, *]; omega) | (unfold firstS; repeat' split; all_goals first | rfl | (exfalso; omega) | (simp_all; done) | (simp_all; omega)))
    rw [show firstS (x :: r) = firstS r from by simp [firstS, *]]
    refine ev_keep [5, 6, 7] [] ?_; exact first_loop73 l  hl ln hln r (done ++ [x])  _ _ _ (n + 1) (by simp [e]) (by simp [hn] <;> omega)
theorem first_gives73 (l : List Int) (hl : l.length < 2 ^ 40) : Gives G 73 [.sl 1 (l.map encI)] [] ⟨.int .i64 (firstS l), []⟩ := by
  refine gives_code (F := f73) rfl rfl (W_ok 300 _ _ _ _ ?_)
  repeat' ((conv => whnf); first | refine bslP (by first | rfl | (simp [pureL, pureLL, AV.pure]; done) | fail) rfl ?_ | refine TakeC.full (by first | rfl | omega | (simp; done) | (simp; omega) | fail) ?_ | refine zBs ?_ | refine zBn ?_ | refine zBv rfl rfl ?_ | refine zN ?_ | refine zC ?_ | refine zC4 ?_ | refine zOr16 ?_ | refine zC1 ?_ | refine zByte ?_ | refine zMaxL ?_ | refine zMaxR ?_ | refine zMinL ?_ | refine zMinR ?_ | refine zShr ?_ | refine zC8 ?_ | refine zQ ?_ | refine zR ?_ | refine zS ?_ | refine zA ?_ | refine zM ?_ | refine xr rfl ?_ | refine ai rfl ?_ | refine condT ?_ | refine condF ?_ | refine condG1 ?_ | refine condG0 ?_ | refine cD ?_ | refine dD ?_ | refine cB ?_ | refine dB ?_ | refine cN ?_ | refine dN ?_ | refine cV ?_ | refine dV ?_ | refine cE ?_ | refine dE ?_ | refine condX0 ?_ | refine condX1 ?_ | refine condNot ?_ | refine condAnd ?_ | refine condOr ?_ | refine aO ?_ | refine aB ?_ | refine aR ?_ | refine aR ?_ (by simp; omega) | refine xr (by assumption) ?_ | refine ai (by assumption) ?_ | refine condD (fun h => ?_) (fun h => ?_) | refine condB (fun h => ?_) (fun h => ?_) | refine condN (fun h => ?_) (fun h => ?_) | refine condE (fun h => ?_) (fun h => ?_) | refine condV (fun h => ?_) (fun h => ?_))
  refine ev_keep [5, 6, 7] [] ?_
  exact first_loop73 l hl _ (by simp) l [] _ _ _ 0 rfl rfl
theorem among_loop107 (l : List Int) (k : Int) (hl : l.length < 2 ^ 40) (ln : Int) (hln : ln = l.length) : ∀ (rest done : List Int)  (T : List (Nat × AV)) (H : Heap) (c : Nat) (n : Int) (e : l = done ++ rest) (hn : n = done.length) , Ev G ⟨f107x7LH, ⟨(7, .sl 1 (l.map encI)) :: (8, .int .i64 ln) :: (9, .int .i64 n) :: (0, .int .i64 k) :: T, H, c⟩, [.t 4], 0⟩ ⟨.bool (rest.any (· == k)), []⟩
  | [], done,  T, H, c, n, e, hn => by
    have hd : l.length = done.length := by simp [e]
    have hll : (l.map encI).length = l.length := by simp
    refine ev_loop' (W_ok 300 _ _ _ _ ?_)
    repeat' ((conv => whnf); first | refine bslP (by first | rfl | (simp [pureL, pureLL, AV.pure]; done) | fail) rfl ?_ | refine TakeC.full (by first | rfl | omega | (simp; done) | (simp; omega) | fail) ?_ | refine zBs ?_ | refine zBn ?_ | refine zBv rfl rfl ?_ | refine zN ?_ | refine zC ?_ | refine zC4 ?_ | refine zOr16 ?_ | refine zC1 ?_ | refine zByte ?_ | refine zMaxL ?_ | refine zMaxR ?_ | refine zMinL ?_ | refine zMinR ?_ | refine zShr ?_ | refine zC8 ?_ | refine zQ ?_ | refine zR ?_ | refine zS ?_ | refine zA ?_ | refine zM ?_ | refine xr rfl ?_ | refine ai rfl ?_ | refine condT ?_ | refine condF ?_ | refine condG1 ?_ | refine condG0 ?_ | refine cD ?_ | refine dD ?_ | refine cB ?_ | refine dB ?_ | refine cN ?_ | refine dN ?_ | refine cV ?_ | refine dV ?_ | refine cE ?_ | refine dE ?_ | refine condX0 ?_ | refine condX1 ?_ | refine condNot ?_ | refine condAnd ?_ | refine condOr ?_ | refine aO ?_ | refine aB ?_ | refine aR ?_ | refine aR ?_ (by simp; omega) | refine xr (by assumption) ?_ | refine ai (by assumption) ?_ | refine condD (fun h => ?_) (fun h => ?_) | refine condB (fun h => ?_) (fun h => ?_) | refine condN (fun h => ?_) (fun h => ?_) | refine condE (fun h => ?_) (fun h => ?_) | refine condV (fun h => ?_) (fun h => ?_))
    all_goals try ((first | refine ev_fin (And.intro (by first | rfl | (simp [AV.pure, pureL]; done) | fail) ?_) | refine ev_fin0 (And.intro (by first | rfl | (simp [AV.pure, pureL]; done) | fail) ?_)); first | rfl | (simp [Bool.cond_eq_ite, *]; done) | (simp [Bool.cond_eq_ite, *]; omega))
  | x :: r, done,  T, H, c, n, e, hn => by
    have hd : l.length = done.length + (r.length + 1) := by simp [e]
    have hll : (l.map encI).length = l.length := by simp
    have hx : (l.map encI)[n.toNat]? = some (encI x) := by simp [e, hn]
    refine ev_loop' (W_ok 300 _ _ _ _ ?_)
    repeat' ((conv => whnf); first | refine bslP (by first | rfl | (simp [pureL, pureLL, AV.pure]; done) | fail) rfl ?_ | refine TakeC.full (by first | rfl | omega | (simp; done) | (simp; omega) | fail) ?_ | refine zBs ?_ | refine zBn ?_ | refine zBv rfl rfl ?_ | refine zN ?_ | refine zC ?_ | refine zC4 ?_ | refine zOr16 ?_ | refine zC1 ?_ | refine zByte ?_ | refine zMaxL ?_ | refine zMaxR ?_ | refine zMinL ?_ | refine zMinR ?_ | refine zShr ?_ | refine zC8 ?_ | refine zQ ?_ | refine zR ?_ | refine zS ?_ | refine zA ?_ | refine zM ?_ | refine xr rfl ?_ | refine ai rfl ?_ | refine condT ?_ | refine condF ?_ | refine condG1 ?_ | refine condG0 ?_ | refine cD ?_ | refine dD ?_ | refine cB ?_ | refine dB ?_ | refine cN ?_ | refine dN ?_ | refine cV ?_ | refine dV ?_ | refine cE ?_ | refine dE ?_ | refine condX0 ?_ | refine condX1 ?_ | refine condNot ?_ | refine condAnd ?_ | refine condOr ?_ | refine aO ?_ | refine aB ?_ | refine aR ?_ | refine aR ?_ (by simp; omega) | refine xr (by assumption) ?_ | refine ai (by assumption) ?_ | refine condD (fun h => ?_) (fun h => ?_) | refine condB (fun h => ?_) (fun h => ?_) | refine condN (fun h => ?_) (fun h => ?_) | refine condE (fun h => ?_) (fun h => ?_) | refine condV (fun h => ?_) (fun h => ?_))
    all_goals try ((first | refine ev_fin (And.intro (by first | rfl | (simp [AV.pure, pureL]; done) | fail) ?_) | refine ev_fin0 (And.intro (by first | rfl | (simp [AV.pure, pureL]; done) | fail) ?_)); first | rfl | (simp [Bool.cond_eq_ite, *]; done) | (simp [Bool.cond_eq_ite, *]; omega))
    rw [show (x :: r).any (· == k) = r.any (· == k) from by simp [*]]
    refine ev_keep [7, 8, 9, 0] [] ?_; exact among_loop107 l k hl ln hln r (done ++ [x])  _ _ _ (n + 1) (by simp [e]) (by simp [hn] <;> omega)
theorem among_gives107 (k : Int) (l : List Int) (hl : l.length < 2 ^ 40) : Gives G 107 [.int .i64 k, .sl 1 (l.map encI)] [] ⟨.bool (l.any (· == k)), []⟩ := by
  refine gives_code (F := f107) rfl rfl (W_ok 300 _ _ _ _ ?_)
  repeat' ((conv => whnf); first | refine bslP (by first | rfl | (simp [pureL, pureLL, AV.pure]; done) | fail) rfl ?_ | refine TakeC.full (by first | rfl | omega | (simp; done) | (simp; omega) | fail) ?_ | refine zBs ?_ | refine zBn ?_ | refine zBv rfl rfl ?_ | refine zN ?_ | refine zC ?_ | refine zC4 ?_ | refine zOr16 ?_ | refine zC1 ?_ | refine zByte ?_ | refine zMaxL ?_ | refine zMaxR ?_ | refine zMinL ?_ | refine zMinR ?_ | refine zShr ?_ | refine zC8 ?_ | refine zQ ?_ | refine zR ?_ | refine zS ?_ | refine zA ?_ | refine zM ?_ | refine xr rfl ?_ | refine ai rfl ?_ | refine condT ?_ | refine condF ?_ | refine condG1 ?_ | refine condG0 ?_ | refine cD ?_ | refine dD ?_ | refine cB ?_ | refine dB ?_ | refine cN ?_ | refine dN ?_ | refine cV ?_ | refine dV ?_ | refine cE ?_ | refine dE ?_ | refine condX0 ?_ | refine condX1 ?_ | refine condNot ?_ | refine condAnd ?_ | refine condOr ?_ | refine aO ?_ | refine aB ?_ | refine aR ?_ | refine aR ?_ (by simp; omega) | refine xr (by assumption) ?_ | refine ai (by assumption) ?_ | refine condD (fun h => ?_) (fun h => ?_) | refine condB (fun h => ?_) (fun h => ?_) | refine condN (fun h => ?_) (fun h => ?_) | refine condE (fun h => ?_) (fun h => ?_) | refine condV (fun h => ?_) (fun h => ?_))
  refine ev_keep [7, 8, 9, 0] [] ?_
  exact among_loop107 l k hl _ (by simp) l [] _ _ _ 0 rfl rfl
def clS : List Int → Int
  | [] => 0
  | x :: r => if x = 0 then 1 else clS r
theorem clusters_loop78 (l : List Int)  (hl : l.length < 2 ^ 40) (ln : Int) (hln : ln = l.length) : ∀ (rest done : List Int)  (T : List (Nat × AV)) (H : Heap) (c : Nat) (n : Int) (e : l = done ++ rest) (hn : n = done.length) , Ev G ⟨f78x9LH, ⟨(8, .sl 1 (l.map encU)) :: (9, .int .i64 ln) :: (10, .int .i64 n) :: T, H, c⟩, [.t 2], 0⟩ ⟨.int .i64 (clS rest), []⟩
  | [], done,  T, H, c, n, e, hn => by
    have hd : l.length = done.length := by simp [e]
    have hll : (l.map encU).length = l.length := by simp
    refine ev_loop' (W_ok 300 _ _ _ _ ?_)
    repeat' ((conv => whnf); first | refine bslP (by first | rfl | (simp [pureL, pureLL, AV.pure]; done) | fail) rfl ?_ | refine TakeC.full (by first | rfl | omega | (simp; done) | (simp; omega) | fail) ?_ | refine zBs ?_ | refine zBn ?_ | refine zBv rfl rfl ?_ | refine zN ?_ | refine zC ?_ | refine zC4 ?_ | refine zOr16 ?_ | refine zC1 ?_ | refine zByte ?_ | refine zMaxL ?_ | refine zMaxR ?_ | refine zMinL ?_ | refine zMinR ?_ | refine zShr ?_ | refine zC8 ?_ | refine zQ ?_ | refine zR ?_ | refine zS ?_ | refine zA ?_ | refine zM ?_ | refine xr rfl ?_ | refine ai rfl ?_ | refine condT ?_ | refine condF ?_ | refine condG1 ?_ | refine condG0 ?_ | refine cD ?_ | refine dD ?_ | refine cB ?_ | refine dB ?_ | refine cN ?_ | refine dN ?_ | refine cV ?_ | refine dV ?_ | refine cE ?_ | refine dE ?_ | refine condX0 ?_ | refine condX1 ?_ | refine condNot ?_ | refine condAnd ?_ | refine condOr ?_ | refine aO ?_ | refine aB ?_ | refine aR ?_ | refine aR ?_ (by simp; omega) | refine xr (by assumption) ?_ | refine ai (by assumption) ?_ | refine condD (fun h => ?_) (fun h => ?_) | refine condB (fun h => ?_) (fun h => ?_) | refine condN (fun h => ?_) (fun h => ?_) | refine condE (fun h => ?_) (fun h => ?_) | refine condV (fun h => ?_) (fun h => ?_))
    all_goals try ((first | refine ev_fin (And.intro (by first | rfl | (simp [AV.pure, pureL]; done) | fail) ?_) | refine ev_fin0 (And.intro (by first | rfl | (simp [AV.pure, pureL]; done) | fail) ?_)); first | rfl | (simp [clS, Bool.cond_eq_ite, *]; done) | (simp [clS, Bool.cond_eq_ite, *]; omega) | (unfold clS; repeat' split; all_goals first | rfl | (exfalso; omega) | (simp_all; done) | (simp_all; omega)))
  | x :: r, done,  T, H, c, n, e, hn => by
    have hd : l.length = done.length + (r.length + 1) := by simp [e]
    have hll : (l.map encU).length = l.length := by simp
    have hx : (l.map encU)[n.toNat]? = some (encU x) := by simp [e, hn]
    refine ev_loop' (W_ok 300 _ _ _ _ ?_)
    repeat' ((conv => whnf); first | refine bslP (by first | rfl | (simp [pureL, pureLL, AV.pure]; done) | fail) rfl ?_ | refine TakeC.full (by first | rfl | omega | (simp; done) | (simp; omega) | fail) ?_ | refine zBs ?_ | refine zBn ?_ | refine zBv rfl rfl ?_ | refine zN ?_ | refine zC ?_ | refine zC4 ?_ | refine zOr16 ?_ | refine zC1 ?_ | refine zByte ?_ | refine zMaxL ?_ | refine zMaxR ?_ | refine zMinL ?_ | refine zMinR ?_ | refine zShr ?_ | refine zC8 ?_ | refine zQ ?_ | refine zR ?_ | refine zS ?_ | refine zA ?_ | refine zM ?_ | refine xr rfl ?_ | refine ai rfl ?_ | refine condT ?_ | refine condF ?_ | refine condG1 ?_ | refine condG0 ?_ | refine cD ?_ | refine dD ?_ | refine cB ?_ | refine dB ?_ | refine cN ?_ | refine dN ?_ | refine cV ?_ | refine dV ?_ | refine cE ?_ | refine dE ?_ | refine condX0 ?_ | refine condX1 ?_ | refine condNot ?_ | refine condAnd ?_ | refine condOr ?_ | refine aO ?_ | refine aB ?_ | refine aR ?_ | refine aR ?_ (by simp; omega) | refine xr (by assumption) ?_ | refine ai (by assumption) ?_ | refine condD (fun h => ?_) (fun h => ?_) | refine condB (fun h => ?_) (fun h => ?_) | refine condN (fun h => ?_) (fun h => ?_) | refine condE (fun h => ?_) (fun h => ?_) | refine condV (fun h => ?_) (fun h => ?_))
    all_goals try ((first | refine ev_fin (And.intro (by first | rfl | (simp [AV.pure, pureL]; done) | fail) ?_) | refine ev_fin0 (And.intro (by first | rfl | (simp [AV.pure, pureL]; done) | fail) ?_)); first | rfl | (simp [clS, Bool.cond_eq_ite, *]; done) | (simp [clS, Bool.cond_eq_ite, *]; omega) | (unfold clS; repeat' split; all_goals first | rfl | (exfalso; omega) | (simp_all; done) | (simp_all; omega)))
    rw [show clS (x :: r) = clS r from by simp [clS, *]]
    refine ev_keep [8, 9, 10] [] ?_; exact clusters_loop78 l  hl ln hln r (done ++ [x])  _ _ _ (n + 1) (by simp [e]) (by simp [hn] <;> omega)
def clustersE (l : List Int) : Int := if l.length > 64 then 4 else clS l
theorem clusters_gives78 (l : List Int) (hl : l.length < 2 ^ 40) : Gives G 78 [.sl 1 (l.map encU)] [] ⟨.int .i64 (clustersE l), []⟩ := by
  have ll : (l.map encU).length = l.length := by simp
  refine gives_code (F := f78) rfl rfl (W_ok 300 _ _ _ _ ?_)
  repeat' ((conv => whnf); first | refine bslP (by first | rfl | (simp [pureL, pureLL, AV.pure]; done) | fail) rfl ?_ | refine TakeC.full (by first | rfl | omega | (simp; done) | (simp; omega) | fail) ?_ | refine zBs ?_ | refine zBn ?_ | refine zBv rfl rfl ?_ | refine zN ?_ | refine zC ?_ | refine zC4 ?_ | refine zOr16 ?_ | refine zC1 ?_ | refine zByte ?_ | refine zMaxL ?_ | refine zMaxR ?_ | refine zMinL ?_ | refine zMinR ?_ | refine zShr ?_ | refine zC8 ?_ | refine zQ ?_ | refine zR ?_ | refine zS ?_ | refine zA ?_ | refine zM ?_ | refine xr rfl ?_ | refine ai rfl ?_ | refine condT ?_ | refine condF ?_ | refine condG1 ?_ | refine condG0 ?_ | refine cD ?_ | refine dD ?_ | refine cB ?_ | refine dB ?_ | refine cN ?_ | refine dN ?_ | refine cV ?_ | refine dV ?_ | refine cE ?_ | refine dE ?_ | refine condX0 ?_ | refine condX1 ?_ | refine condNot ?_ | refine condAnd ?_ | refine condOr ?_ | refine aO ?_ | refine aB ?_ | refine aR ?_ | refine aR ?_ (by simp; omega) | refine xr (by assumption) ?_ | refine ai (by assumption) ?_ | refine condD (fun h => ?_) (fun h => ?_) | refine condB (fun h => ?_) (fun h => ?_) | refine condN (fun h => ?_) (fun h => ?_) | refine condE (fun h => ?_) (fun h => ?_) | refine condV (fun h => ?_) (fun h => ?_))
  all_goals try ((first | refine ev_fin (And.intro (by first | rfl | (simp [AV.pure, pureL]; done) | fail) ?_) | refine ev_fin0 (And.intro (by first | rfl | (simp [AV.pure, pureL]; done) | fail) ?_)); first | rfl | (simp [clustersE, Bool.cond_eq_ite, *]; done) | (simp [clustersE, Bool.cond_eq_ite, *]; omega) | (unfold clustersE; repeat' split; all_goals first | rfl | (exfalso; omega) | (simp_all; done) | (simp_all; omega)))
  rw [show clustersE l = clS l from by simp [clustersE]; omega]
  refine ev_keep [8, 9, 10] [] ?_
  exact clusters_loop78 l hl _ (by simp) l [] _ _ _ 0 rfl rfl
end Go.AM.IR
set_option maxHeartbeats 4000000
set_option maxRecDepth 20000
namespace Go.AM.IR
theorem confed_gives106 (k : Int) : Gives G 106 [.int .i64 k] [] ⟨.bool (confK k), []⟩ := by
  have hr : ([3, 4] : List Int).any (· == k) = confK k := by
    unfold confK; simp only [List.any_cons, List.any_nil, Bool.or_false]
    rw [Bool.eq_iff_iff]; simp; omega
  have e1 := among_gives107 k [3, 4] (by simp)
  rw [hr] at e1
  refine gives_code (F := f106) rfl rfl (W_ok 300 _ _ _ _ ?_)
  repeat' ((conv => whnf); first | refine bslP (by first | rfl | (simp [pureL, pureLL, AV.pure]; done) | fail) rfl ?_ | refine TakeC.full (by first | rfl | omega | (simp; done) | (simp; omega) | fail) ?_ | refine zBs ?_ | refine zBn ?_ | refine zBv rfl rfl ?_ | refine zN ?_ | refine zC ?_ | refine zC4 ?_ | refine zOr16 ?_ | refine zC1 ?_ | refine zByte ?_ | refine zMaxL ?_ | refine zMaxR ?_ | refine zMinL ?_ | refine zMinR ?_ | refine zShr ?_ | refine zC8 ?_ | refine zQ ?_ | refine zR ?_ | refine zS ?_ | refine zA ?_ | refine zM ?_ | refine xr rfl ?_ | refine ai rfl ?_ | refine condT ?_ | refine condF ?_ | refine condG1 ?_ | refine condG0 ?_ | refine cD ?_ | refine dD ?_ | refine cB ?_ | refine dB ?_ | refine cN ?_ | refine dN ?_ | refine cV ?_ | refine dV ?_ | refine cE ?_ | refine dE ?_ | refine condX0 ?_ | refine condX1 ?_ | refine condNot ?_ | refine condAnd ?_ | refine condOr ?_ | refine aO ?_ | refine aB ?_ | refine aR ?_ | refine aR ?_ (by simp; omega) | refine xr (by assumption) ?_ | refine ai (by assumption) ?_ | refine condD (fun h => ?_) (fun h => ?_) | refine condB (fun h => ?_) (fun h => ?_) | refine condN (fun h => ?_) (fun h => ?_) | refine condE (fun h => ?_) (fun h => ?_) | refine condV (fun h => ?_) (fun h => ?_))
  refine callF [(68, _, .vec 1 [encI 3, encI 4])] ⟨rfl, rfl, trivial⟩ rfl (by simp) rfl rfl e1 rfl ?_
  repeat' ((conv => whnf); first | refine bslP (by first | rfl | (simp [pureL, pureLL, AV.pure]; done) | fail) rfl ?_ | refine TakeC.full (by first | rfl | omega | (simp; done) | (simp; omega) | fail) ?_ | refine zBs ?_ | refine zBn ?_ | refine zBv rfl rfl ?_ | refine zN ?_ | refine zC ?_ | refine zC4 ?_ | refine zOr16 ?_ | refine zC1 ?_ | refine zByte ?_ | refine zMaxL ?_ | refine zMaxR ?_ | refine zMinL ?_ | refine zMinR ?_ | refine zShr ?_ | refine zC8 ?_ | refine zQ ?_ | refine zR ?_ | refine zS ?_ | refine zA ?_ | refine zM ?_ | refine xr rfl ?_ | refine ai rfl ?_ | refine condT ?_ | refine condF ?_ | refine condG1 ?_ | refine condG0 ?_ | refine cD ?_ | refine dD ?_ | refine cB ?_ | refine dB ?_ | refine cN ?_ | refine dN ?_ | refine cV ?_ | refine dV ?_ | refine cE ?_ | refine dE ?_ | refine condX0 ?_ | refine condX1 ?_ | refine condNot ?_ | refine condAnd ?_ | refine condOr ?_ | refine aO ?_ | refine aB ?_ | refine aR ?_ | refine aR ?_ (by simp; omega) | refine xr (by assumption) ?_ | refine ai (by assumption) ?_ | refine condD (fun h => ?_) (fun h => ?_) | refine condB (fun h => ?_) (fun h => ?_) | refine condN (fun h => ?_) (fun h => ?_) | refine condE (fun h => ?_) (fun h => ?_) | refine condV (fun h => ?_) (fun h => ?_))
  all_goals try ((first | refine ev_fin (And.intro (by first | rfl | (simp [AV.pure, pureL]; done) | fail) ?_) | refine ev_fin0 (And.intro (by first | rfl | (simp [AV.pure, pureL]; done) | fail) ?_)); first | rfl | (simp [Bool.cond_eq_ite, *]; done) | (simp [Bool.cond_eq_ite, *]; omega))
def ordS (p : Int) : List Int → Int
  | [] => 0
  | x :: r => if x ≤ p then 16 else ordS x r
def orderS : List Int → Int
  | [] => 0
  | x :: r => ordS x r
theorem order_loop77 (l : List Int) (hl : l.length < 2 ^ 40) (ln : Int) (hln : ln = l.length) : ∀ (rest done : List Int) (p : Int) (T : List (Nat × AV)) (H : Heap) (c : Nat) (n : Int) (e : l = done ++ p :: rest) (hn : n = done.length + 1),
   Ev G ⟨f77x9LH, ⟨(7, .sl 1 (l.map encU)) :: (8, .int .i64 ln) :: (9, .int .i64 n) :: (0, .sl 1 (l.map encU)) :: T, H, c⟩, [.t 2], 0⟩ ⟨.int .i64 (ordS p rest), []⟩
  | [], done, p, T, H, c, n, e, hn => by
    have hd : l.length = done.length + 1 := by simp [e]
    refine ev_loop' (W_ok 300 _ _ _ _ ?_)
    repeat' ((conv => whnf); first | refine bslP (by first | rfl | (simp [pureL, pureLL, AV.pure]; done) | fail) rfl ?_ | refine TakeC.full (by first | rfl | omega | (simp; done) | (simp; omega) | fail) ?_ | refine zBs ?_ | refine zBn ?_ | refine zBv rfl rfl ?_ | refine zN ?_ | refine zC ?_ | refine zC4 ?_ | refine zOr16 ?_ | refine zC1 ?_ | refine zByte ?_ | refine zMaxL ?_ | refine zMaxR ?_ | refine zMinL ?_ | refine zMinR ?_ | refine zShr ?_ | refine zC8 ?_ | refine zQ ?_ | refine zR ?_ | refine zS ?_ | refine zA ?_ | refine zM ?_ | refine xr rfl ?_ | refine ai rfl ?_ | refine condT ?_ | refine condF ?_ | refine condG1 ?_ | refine condG0 ?_ | refine cD ?_ | refine dD ?_ | refine cB ?_ | refine dB ?_ | refine cN ?_ | refine dN ?_ | refine cV ?_ | refine dV ?_ | refine cE ?_ | refine dE ?_ | refine condX0 ?_ | refine condX1 ?_ | refine condNot ?_ | refine condAnd ?_ | refine condOr ?_ | refine aO ?_ | refine aB ?_ | refine aR ?_ | refine aR ?_ (by simp; omega) | refine xr (by assumption) ?_ | refine ai (by assumption) ?_ | refine condD (fun h => ?_) (fun h => ?_) | refine condB (fun h => ?_) (fun h => ?_) | refine condN (fun h => ?_) (fun h => ?_) | refine condE (fun h => ?_) (fun h => ?_) | refine condV (fun h => ?_) (fun h => ?_))
    all_goals try ((first | refine ev_fin (And.intro (by first | rfl | (simp [AV.pure, pureL]; done) | fail) ?_) | refine ev_fin0 (And.intro (by first | rfl | (simp [AV.pure, pureL]; done) | fail) ?_)); first | rfl | (simp [ordS, Bool.cond_eq_ite, *]; done) | (simp [ordS, Bool.cond_eq_ite, *]; omega) | (unfold ordS; repeat' split; all_goals first | rfl | (exfalso; omega) | (simp_all; done) | (simp_all; omega)))
  | x :: r, done, p, T, H, c, n, e, hn => by
    have hd : l.length = done.length + (r.length + 2) := by simp [e]
    have ll : (l.map encU).length = l.length := by simp
    have hn1 : (n - 1).toNat = done.length := by omega
    have hn0 : n.toNat = done.length + 1 := by omega
    have hx : (l.map encU)[n.toNat]? = some (encU x) := by rw [hn0, e]; simp
    have hy : (l.map encU)[(n - 1).toNat]? = some (encU p) := by rw [hn1, e]; simp
    refine ev_loop' (W_ok 300 _ _ _ _ ?_)
    repeat' ((conv => whnf); first | refine bslP (by first | rfl | (simp [pureL, pureLL, AV.pure]; done) | fail) rfl ?_ | refine TakeC.full (by first | rfl | omega | (simp; done) | (simp; omega) | fail) ?_ | refine zBs ?_ | refine zBn ?_ | refine zBv rfl rfl ?_ | refine zN ?_ | refine zC ?_ | refine zC4 ?_ | refine zOr16 ?_ | refine zC1 ?_ | refine zByte ?_ | refine zMaxL ?_ | refine zMaxR ?_ | refine zMinL ?_ | refine zMinR ?_ | refine zShr ?_ | refine zC8 ?_ | refine zQ ?_ | refine zR ?_ | refine zS ?_ | refine zA ?_ | refine zM ?_ | refine xr rfl ?_ | refine ai rfl ?_ | refine condT ?_ | refine condF ?_ | refine condG1 ?_ | refine condG0 ?_ | refine cD ?_ | refine dD ?_ | refine cB ?_ | refine dB ?_ | refine cN ?_ | refine dN ?_ | refine cV ?_ | refine dV ?_ | refine cE ?_ | refine dE ?_ | refine condX0 ?_ | refine condX1 ?_ | refine condNot ?_ | refine condAnd ?_ | refine condOr ?_ | refine aO ?_ | refine aB ?_ | refine aR ?_ | refine aR ?_ (by simp; omega) | refine xr (by assumption) ?_ | refine ai (by assumption) ?_ | refine condD (fun h => ?_) (fun h => ?_) | refine condB (fun h => ?_) (fun h => ?_) | refine condN (fun h => ?_) (fun h => ?_) | refine condE (fun h => ?_) (fun h => ?_) | refine condV (fun h => ?_) (fun h => ?_))
    all_goals try ((first | refine ev_fin (And.intro (by first | rfl | (simp [AV.pure, pureL]; done) | fail) ?_) | refine ev_fin0 (And.intro (by first | rfl | (simp [AV.pure, pureL]; done) | fail) ?_)); first | rfl | (simp [ordS, Bool.cond_eq_ite, *]; done) | (simp [ordS, Bool.cond_eq_ite, *]; omega) | (unfold ordS; repeat' split; all_goals first | rfl | (exfalso; omega) | (simp_all; done) | (simp_all; omega)))
    rw [show ordS p (x :: r) = ordS x r from by simp [ordS, *]]
    refine ev_keep [7, 8, 9, 0] [] ?_
    exact order_loop77 l hl ln hln r (done ++ [p]) x _ _ _ (n + 1) (by simp [e]) (by simp [hn])
def commE (l : List Int) : Int := if l.length > 255 then 4 else orderS l
theorem comm_gives77 (l : List Int) (hl : l.length < 2 ^ 40) : Gives G 77 [.sl 1 (l.map encU)] [] ⟨.int .i64 (commE l), []⟩ := by
  have ll : (l.map encU).length = l.length := by simp
  cases l with
  | nil =>
    refine gives_code (F := f77) rfl rfl (W_ok 300 _ _ _ _ ?_)
    repeat' ((conv => whnf); first | refine bslP (by first | rfl | (simp [pureL, pureLL, AV.pure]; done) | fail) rfl ?_ | refine TakeC.full (by first | rfl | omega | (simp; done) | (simp; omega) | fail) ?_ | refine zBs ?_ | refine zBn ?_ | refine zBv rfl rfl ?_ | refine zN ?_ | refine zC ?_ | refine zC4 ?_ | refine zOr16 ?_ | refine zC1 ?_ | refine zByte ?_ | refine zMaxL ?_ | refine zMaxR ?_ | refine zMinL ?_ | refine zMinR ?_ | refine zShr ?_ | refine zC8 ?_ | refine zQ ?_ | refine zR ?_ | refine zS ?_ | refine zA ?_ | refine zM ?_ | refine xr rfl ?_ | refine ai rfl ?_ | refine condT ?_ | refine condF ?_ | refine condG1 ?_ | refine condG0 ?_ | refine cD ?_ | refine dD ?_ | refine cB ?_ | refine dB ?_ | refine cN ?_ | refine dN ?_ | refine cV ?_ | refine dV ?_ | refine cE ?_ | refine dE ?_ | refine condX0 ?_ | refine condX1 ?_ | refine condNot ?_ | refine condAnd ?_ | refine condOr ?_ | refine aO ?_ | refine aB ?_ | refine aR ?_ | refine aR ?_ (by simp; omega) | refine xr (by assumption) ?_ | refine ai (by assumption) ?_ | refine condD (fun h => ?_) (fun h => ?_) | refine condB (fun h => ?_) (fun h => ?_) | refine condN (fun h => ?_) (fun h => ?_) | refine condE (fun h => ?_) (fun h => ?_) | refine condV (fun h => ?_) (fun h => ?_))
    refine ev_loop' (W_ok 300 _ _ _ _ ?_)
    repeat' ((conv => whnf); first | refine bslP (by first | rfl | (simp [pureL, pureLL, AV.pure]; done) | fail) rfl ?_ | refine TakeC.full (by first | rfl | omega | (simp; done) | (simp; omega) | fail) ?_ | refine zBs ?_ | refine zBn ?_ | refine zBv rfl rfl ?_ | refine zN ?_ | refine zC ?_ | refine zC4 ?_ | refine zOr16 ?_ | refine zC1 ?_ | refine zByte ?_ | refine zMaxL ?_ | refine zMaxR ?_ | refine zMinL ?_ | refine zMinR ?_ | refine zShr ?_ | refine zC8 ?_ | refine zQ ?_ | refine zR ?_ | refine zS ?_ | refine zA ?_ | refine zM ?_ | refine xr rfl ?_ | refine ai rfl ?_ | refine condT ?_ | refine condF ?_ | refine condG1 ?_ | refine condG0 ?_ | refine cD ?_ | refine dD ?_ | refine cB ?_ | refine dB ?_ | refine cN ?_ | refine dN ?_ | refine cV ?_ | refine dV ?_ | refine cE ?_ | refine dE ?_ | refine condX0 ?_ | refine condX1 ?_ | refine condNot ?_ | refine condAnd ?_ | refine condOr ?_ | refine aO ?_ | refine aB ?_ | refine aR ?_ | refine aR ?_ (by simp; omega) | refine xr (by assumption) ?_ | refine ai (by assumption) ?_ | refine condD (fun h => ?_) (fun h => ?_) | refine condB (fun h => ?_) (fun h => ?_) | refine condN (fun h => ?_) (fun h => ?_) | refine condE (fun h => ?_) (fun h => ?_) | refine condV (fun h => ?_) (fun h => ?_))
    all_goals try ((first | refine ev_fin (And.intro (by first | rfl | (simp [AV.pure, pureL]; done) | fail) ?_) | refine ev_fin0 (And.intro (by first | rfl | (simp [AV.pure, pureL]; done) | fail) ?_)); first | rfl | (simp [commE, orderS, Bool.cond_eq_ite, *]; done) | (simp [commE, orderS, Bool.cond_eq_ite, *]; omega) | (unfold commE orderS; repeat' split; all_goals first | rfl | (exfalso; omega) | (simp_all; done) | (simp_all; omega)))
  | cons x r =>
    have hx : ((x :: r).map encU)[(0 : Int).toNat]? = some (encU x) := rfl
    have h2 := ll
    simp only [List.length_cons] at hl
    rw [List.length_cons] at h2
    refine gives_code (F := f77) rfl rfl (W_ok 300 _ _ _ _ ?_)
    repeat' ((conv => whnf); first | refine bslP (by first | rfl | (simp [pureL, pureLL, AV.pure]; done) | fail) rfl ?_ | refine TakeC.full (by first | rfl | omega | (simp; done) | (simp; omega) | fail) ?_ | refine zBs ?_ | refine zBn ?_ | refine zBv rfl rfl ?_ | refine zN ?_ | refine zC ?_ | refine zC4 ?_ | refine zOr16 ?_ | refine zC1 ?_ | refine zByte ?_ | refine zMaxL ?_ | refine zMaxR ?_ | refine zMinL ?_ | refine zMinR ?_ | refine zShr ?_ | refine zC8 ?_ | refine zQ ?_ | refine zR ?_ | refine zS ?_ | refine zA ?_ | refine zM ?_ | refine xr rfl ?_ | refine ai rfl ?_ | refine condT ?_ | refine condF ?_ | refine condG1 ?_ | refine condG0 ?_ | refine cD ?_ | refine dD ?_ | refine cB ?_ | refine dB ?_ | refine cN ?_ | refine dN ?_ | refine cV ?_ | refine dV ?_ | refine cE ?_ | refine dE ?_ | refine condX0 ?_ | refine condX1 ?_ | refine condNot ?_ | refine condAnd ?_ | refine condOr ?_ | refine aO ?_ | refine aB ?_ | refine aR ?_ | refine aR ?_ (by simp; omega) | refine xr (by assumption) ?_ | refine ai (by assumption) ?_ | refine condD (fun h => ?_) (fun h => ?_) | refine condB (fun h => ?_) (fun h => ?_) | refine condN (fun h => ?_) (fun h => ?_) | refine condE (fun h => ?_) (fun h => ?_) | refine condV (fun h => ?_) (fun h => ?_))
    all_goals try ((first | refine ev_fin (And.intro (by first | rfl | (simp [AV.pure, pureL]; done) | fail) ?_) | refine ev_fin0 (And.intro (by first | rfl | (simp [AV.pure, pureL]; done) | fail) ?_)); first | rfl | (simp [commE, Bool.cond_eq_ite, *]; done) | (simp [commE, Bool.cond_eq_ite, *]; omega) | (unfold commE; repeat' split; all_goals first | rfl | (exfalso; omega) | (simp_all; done) | (simp_all; omega)))
    rw [show commE (x :: r) = ordS x r from by simp [commE, orderS]; omega]
    refine ev_loop' (W_ok 300 _ _ _ _ ?_)
    repeat' ((conv => whnf); first | refine bslP (by first | rfl | (simp [pureL, pureLL, AV.pure]; done) | fail) rfl ?_ | refine TakeC.full (by first | rfl | omega | (simp; done) | (simp; omega) | fail) ?_ | refine zBs ?_ | refine zBn ?_ | refine zBv rfl rfl ?_ | refine zN ?_ | refine zC ?_ | refine zC4 ?_ | refine zOr16 ?_ | refine zC1 ?_ | refine zByte ?_ | refine zMaxL ?_ | refine zMaxR ?_ | refine zMinL ?_ | refine zMinR ?_ | refine zShr ?_ | refine zC8 ?_ | refine zQ ?_ | refine zR ?_ | refine zS ?_ | refine zA ?_ | refine zM ?_ | refine xr rfl ?_ | refine ai rfl ?_ | refine condT ?_ | refine condF ?_ | refine condG1 ?_ | refine condG0 ?_ | refine cD ?_ | refine dD ?_ | refine cB ?_ | refine dB ?_ | refine cN ?_ | refine dN ?_ | refine cV ?_ | refine dV ?_ | refine cE ?_ | refine dE ?_ | refine condX0 ?_ | refine condX1 ?_ | refine condNot ?_ | refine condAnd ?_ | refine condOr ?_ | refine aO ?_ | refine aB ?_ | refine aR ?_ | refine aR ?_ (by simp; omega) | refine xr (by assumption) ?_ | refine ai (by assumption) ?_ | refine condD (fun h => ?_) (fun h => ?_) | refine condB (fun h => ?_) (fun h => ?_) | refine condN (fun h => ?_) (fun h => ?_) | refine condE (fun h => ?_) (fun h => ?_) | refine condV (fun h => ?_) (fun h => ?_))
    refine ev_keep [7, 8, 9, 0] [] ?_
    exact order_loop77 (x :: r) hl _ (by simp) r [] x _ _ _ 1 rfl rfl
end Go.AM.IR
set_option maxHeartbeats 4000000
set_option maxRecDepth 20000
namespace Go.AM.IR
def rngS : List Int → Bool
  | [] => true
  | x :: r => decide (1 ≤ x ∧ x ≤ 4294967295) && rngS r
def ordC (k : Int) : Option Int → List Int → Bool
  | _, [] => true
  | none, x :: r => ordC k (some x) r
  | some p, x :: r => !(setK k && decide (x ≤ p)) && ordC k (some x) r
def segE (s : Seg) : Int := if s.kind < 1 ∨ s.kind > 4 then 15 else if s.as.length = 0 then 1 else if s.as.length > 255 then 4 else if rngS s.as = false then 5 else if ordC s.kind none s.as = false then 16 else 0
theorem among1 (k : Int) : Gives G 107 [.int .i64 k, .sl 1 [encI 1, encI 4]] [] ⟨.bool (setK k), []⟩ := by
  have hr : ([1, 4] : List Int).any (· == k) = setK k := by
    unfold setK; simp only [List.any_cons, List.any_nil, Bool.or_false]
    rw [Bool.eq_iff_iff]; simp; omega
  rw [← hr]; exact among_gives107 k [1, 4] (by simp)
theorem among2 (k : Int) : Gives G 107 [.int .i64 k, .sl 1 [encI 1, encI 2, encI 3, encI 4]] [] ⟨.bool (decide (1 ≤ k ∧ k ≤ 4)), []⟩ := by
  have hr : ([1, 2, 3, 4] : List Int).any (· == k) = decide (1 ≤ k ∧ k ≤ 4) := by
    simp only [List.any_cons, List.any_nil, Bool.or_false]
    rw [Bool.eq_iff_iff]; simp; omega
  rw [← hr]; exact among_gives107 k [1, 2, 3, 4] (by simp)
theorem among3 (k : Int) : Gives G 107 [.int .i64 k, .sl 1 [encI 2, encI 3]] [] ⟨.bool (decide (k = 2 ∨ k = 3)), []⟩ := by
  have hr : ([2, 3] : List Int).any (· == k) = decide (k = 2 ∨ k = 3) := by
    simp only [List.any_cons, List.any_nil, Bool.or_false]
    rw [Bool.eq_iff_iff]; simp; omega
  rw [← hr]; exact among_gives107 k [2, 3] (by simp)
theorem ord_loop105 (s : Seg) (hl : s.as.length < 2 ^ 40) : ∀ (rest done : List Int) (p : Option Int) (T : List (Nat × AV)) (H : Heap) (c : Nat) (n : Int) (e : s.as = done ++ rest) (hn : n = done.length) (hp : p = done.getLast?),
   Ev G ⟨f105x20LH, ⟨(39, .int .i64 n) :: (1, .ref 65 1 0) :: (38, .int .i64 s.as.length) :: T, (65, some (1, .cells s.enc)) :: H, c⟩, [.t 2], 0⟩ ⟨.int .i64 (if ordC s.kind p rest = false then 16 else 0), []⟩
  | [], done, p, T, H, c, n, e, hn, hp => by
    have hd : s.as.length = done.length := by simp [e]
    refine ev_loop' (W_ok 300 _ _ _ _ ?_)
    repeat' ((conv => whnf); first | refine bslP (by first | rfl | (simp [pureL, pureLL, AV.pure]; done) | fail) rfl ?_ | refine TakeC.full (by first | rfl | omega | (simp; done) | (simp; omega) | fail) ?_ | refine zBs ?_ | refine zBn ?_ | refine zBv rfl rfl ?_ | refine zN ?_ | refine zC ?_ | refine zC4 ?_ | refine zOr16 ?_ | refine zC1 ?_ | refine zByte ?_ | refine zMaxL ?_ | refine zMaxR ?_ | refine zMinL ?_ | refine zMinR ?_ | refine zShr ?_ | refine zC8 ?_ | refine zQ ?_ | refine zR ?_ | refine zS ?_ | refine zA ?_ | refine zM ?_ | refine xr rfl ?_ | refine ai rfl ?_ | refine condT ?_ | refine condF ?_ | refine condG1 ?_ | refine condG0 ?_ | refine cD ?_ | refine dD ?_ | refine cB ?_ | refine dB ?_ | refine cN ?_ | refine dN ?_ | refine cV ?_ | refine dV ?_ | refine cE ?_ | refine dE ?_ | refine condX0 ?_ | refine condX1 ?_ | refine condNot ?_ | refine condAnd ?_ | refine condOr ?_ | refine aO ?_ | refine aB ?_ | refine aR ?_ | refine aR ?_ (by simp; omega) | refine xr (by assumption) ?_ | refine ai (by assumption) ?_ | refine condD (fun h => ?_) (fun h => ?_) | refine condB (fun h => ?_) (fun h => ?_) | refine condN (fun h => ?_) (fun h => ?_) | refine condE (fun h => ?_) (fun h => ?_) | refine condV (fun h => ?_) (fun h => ?_))
    all_goals try ((first | refine ev_fin (And.intro (by first | rfl | (simp [AV.pure, pureL]; done) | fail) ?_) | refine ev_fin0 (And.intro (by first | rfl | (simp [AV.pure, pureL]; done) | fail) ?_)); first | rfl | (simp [ordC, setK, Bool.cond_eq_ite, *]; done) | (simp [ordC, setK, Bool.cond_eq_ite, *]; omega) | (unfold ordC setK; repeat' split; all_goals first | rfl | (exfalso; omega) | (simp_all; done) | (simp_all; omega)))
  | x :: r, done, p, T, H, c, n, e, hn, hp => by
    have hd : s.as.length = done.length + (r.length + 1) := by simp [e]
    have hx : (s.as.map encI)[n.toNat]? = some (encI x) := by simp [e, hn]
    rcases List.eq_nil_or_concat done with rfl | ⟨d, q, rfl⟩
    · obtain rfl : p = none := by simp [hp]
      simp only [List.length_nil] at hn hd
      refine ev_loop' (W_ok 300 _ _ _ _ ?_)
      repeat' ((conv => whnf); first | refine bslP (by first | rfl | (simp [pureL, pureLL, AV.pure]; done) | fail) rfl ?_ | refine TakeC.full (by first | rfl | omega | (simp; done) | (simp; omega) | fail) ?_ | refine zBs ?_ | refine zBn ?_ | refine zBv rfl rfl ?_ | refine zN ?_ | refine zC ?_ | refine zC4 ?_ | refine zOr16 ?_ | refine zC1 ?_ | refine zByte ?_ | refine zMaxL ?_ | refine zMaxR ?_ | refine zMinL ?_ | refine zMinR ?_ | refine zShr ?_ | refine zC8 ?_ | refine zQ ?_ | refine zR ?_ | refine zS ?_ | refine zA ?_ | refine zM ?_ | refine xr rfl ?_ | refine ai rfl ?_ | refine condT ?_ | refine condF ?_ | refine condG1 ?_ | refine condG0 ?_ | refine cD ?_ | refine dD ?_ | refine cB ?_ | refine dB ?_ | refine cN ?_ | refine dN ?_ | refine cV ?_ | refine dV ?_ | refine cE ?_ | refine dE ?_ | refine condX0 ?_ | refine condX1 ?_ | refine condNot ?_ | refine condAnd ?_ | refine condOr ?_ | refine aO ?_ | refine aB ?_ | refine aR ?_ | refine aR ?_ (by simp; omega) | refine xr (by assumption) ?_ | refine ai (by assumption) ?_ | refine condD (fun h => ?_) (fun h => ?_) | refine condB (fun h => ?_) (fun h => ?_) | refine condN (fun h => ?_) (fun h => ?_) | refine condE (fun h => ?_) (fun h => ?_) | refine condV (fun h => ?_) (fun h => ?_))
      rw [show ordC s.kind none (x :: r) = ordC s.kind (some x) r from rfl]
      refine ev_keep [39, 1, 38] [65] ?_; exact ord_loop105 s hl r [x] _ _ _ _ (n + 1) (by simp [e]) (by simp [hn]) rfl
    · obtain rfl : p = some q := by simp [hp]
      simp only [List.concat_eq_append, List.length_append, List.length_singleton] at hn hd
      have hn1 : (n - 1).toNat = d.length := by omega
      have hy : (s.as.map encI)[(n - 1).toNat]? = some (encI q) := by rw [hn1, e]; simp
      refine ev_loop' (W_ok 300 _ _ _ _ ?_)
      repeat' ((conv => whnf); first | refine bslP (by first | rfl | (simp [pureL, pureLL, AV.pure]; done) | fail) rfl ?_ | refine TakeC.full (by first | rfl | omega | (simp; done) | (simp; omega) | fail) ?_ | refine zBs ?_ | refine zBn ?_ | refine zBv rfl rfl ?_ | refine zN ?_ | refine zC ?_ | refine zC4 ?_ | refine zOr16 ?_ | refine zC1 ?_ | refine zByte ?_ | refine zMaxL ?_ | refine zMaxR ?_ | refine zMinL ?_ | refine zMinR ?_ | refine zShr ?_ | refine zC8 ?_ | refine zQ ?_ | refine zR ?_ | refine zS ?_ | refine zA ?_ | refine zM ?_ | refine xr rfl ?_ | refine ai rfl ?_ | refine condT ?_ | refine condF ?_ | refine condG1 ?_ | refine condG0 ?_ | refine cD ?_ | refine dD ?_ | refine cB ?_ | refine dB ?_ | refine cN ?_ | refine dN ?_ | refine cV ?_ | refine dV ?_ | refine cE ?_ | refine dE ?_ | refine condX0 ?_ | refine condX1 ?_ | refine condNot ?_ | refine condAnd ?_ | refine condOr ?_ | refine aO ?_ | refine aB ?_ | refine aR ?_ | refine aR ?_ (by simp; omega) | refine xr (by assumption) ?_ | refine ai (by assumption) ?_ | refine condD (fun h => ?_) (fun h => ?_) | refine condB (fun h => ?_) (fun h => ?_) | refine condN (fun h => ?_) (fun h => ?_) | refine condE (fun h => ?_) (fun h => ?_) | refine condV (fun h => ?_) (fun h => ?_))
      all_goals refine callF [(111, _, .vec 1 [encI 1, encI 4])] ⟨rfl, rfl, trivial⟩ rfl (by simp) rfl (by simp [renL, AV.ren, φF, encI, encU, kloc, Nat.beq_refl]) (among1 s.kind) rfl ?_
      repeat' ((conv => whnf); first | refine bslP (by first | rfl | (simp [pureL, pureLL, AV.pure]; done) | fail) rfl ?_ | refine TakeC.full (by first | rfl | omega | (simp; done) | (simp; omega) | fail) ?_ | refine zBs ?_ | refine zBn ?_ | refine zBv rfl rfl ?_ | refine zN ?_ | refine zC ?_ | refine zC4 ?_ | refine zOr16 ?_ | refine zC1 ?_ | refine zByte ?_ | refine zMaxL ?_ | refine zMaxR ?_ | refine zMinL ?_ | refine zMinR ?_ | refine zShr ?_ | refine zC8 ?_ | refine zQ ?_ | refine zR ?_ | refine zS ?_ | refine zA ?_ | refine zM ?_ | refine xr rfl ?_ | refine ai rfl ?_ | refine condT ?_ | refine condF ?_ | refine condG1 ?_ | refine condG0 ?_ | refine cD ?_ | refine dD ?_ | refine cB ?_ | refine dB ?_ | refine cN ?_ | refine dN ?_ | refine cV ?_ | refine dV ?_ | refine cE ?_ | refine dE ?_ | refine condX0 ?_ | refine condX1 ?_ | refine condNot ?_ | refine condAnd ?_ | refine condOr ?_ | refine aO ?_ | refine aB ?_ | refine aR ?_ | refine aR ?_ (by simp; omega) | refine xr (by assumption) ?_ | refine ai (by assumption) ?_ | refine condD (fun h => ?_) (fun h => ?_) | refine condB (fun h => ?_) (fun h => ?_) | refine condN (fun h => ?_) (fun h => ?_) | refine condE (fun h => ?_) (fun h => ?_) | refine condV (fun h => ?_) (fun h => ?_))
      all_goals try ((first | refine ev_fin (And.intro (by first | rfl | (simp [AV.pure, pureL]; done) | fail) ?_) | refine ev_fin0 (And.intro (by first | rfl | (simp [AV.pure, pureL]; done) | fail) ?_)); first | rfl | (simp [ordC, setK, Bool.cond_eq_ite, *]; done) | (simp [ordC, setK, Bool.cond_eq_ite, *]; omega) | (unfold ordC setK; repeat' split; all_goals first | rfl | (exfalso; omega) | (simp_all; done) | (simp_all; omega)))
      all_goals (rw [show ordC s.kind (some q) (x :: r) = ordC s.kind (some x) r from by simp [ordC, setK, *]]; refine ev_keep [39, 1, 38] [65] ?_; exact ord_loop105 s hl r (d ++ [q] ++ [x]) _ _ _ _ (n + 1) (by simp [e]) (by simp [hn] <;> omega) (by simp))
end Go.AM.IR
set_option maxHeartbeats 4000000
set_option maxRecDepth 20000
namespace Go.AM.IR
theorem rng_loop105 (l : List Int) (s : Seg) (hs : s.as = l) (hl : l.length < 2 ^ 40) (ln : Int) (hln : ln = l.length) : ∀ (rest done : List Int)  (T : List (Nat × AV)) (H : Heap) (c : Nat) (n : Int) (e : l = done ++ rest) (hn : n = done.length) , Ev G ⟨f105x13LH, ⟨(23, .sl 1 (l.map encI)) :: (24, .int .i64 ln) :: (25, .int .i64 n) :: (1, .ref 65 1 0) :: T, (65, some (1, .cells s.enc)) :: H, c⟩, [.t 2], 0⟩ ⟨.int .i64 (if rngS rest = false then 5 else if ordC s.kind none l = false then 16 else 0), []⟩
  | [], done,  T, H, c, n, e, hn => by
    have hd : l.length = done.length := by simp [e]
    have hll : (l.map encI).length = l.length := by simp
    subst hs
    refine ev_loop' (W_ok 300 _ _ _ _ ?_)
    repeat' ((conv => whnf); first | refine bslP (by first | rfl | (simp [pureL, pureLL, AV.pure]; done) | fail) rfl ?_ | refine TakeC.full (by first | rfl | omega | (simp; done) | (simp; omega) | fail) ?_ | refine zBs ?_ | refine zBn ?_ | refine zBv rfl rfl ?_ | refine zN ?_ | refine zC ?_ | refine zC4 ?_ | refine zOr16 ?_ | refine zC1 ?_ | refine zByte ?_ | refine zMaxL ?_ | refine zMaxR ?_ | refine zMinL ?_ | refine zMinR ?_ | refine zShr ?_ | refine zC8 ?_ | refine zQ ?_ | refine zR ?_ | refine zS ?_ | refine zA ?_ | refine zM ?_ | refine xr rfl ?_ | refine ai rfl ?_ | refine condT ?_ | refine condF ?_ | refine condG1 ?_ | refine condG0 ?_ | refine cD ?_ | refine dD ?_ | refine cB ?_ | refine dB ?_ | refine cN ?_ | refine dN ?_ | refine cV ?_ | refine dV ?_ | refine cE ?_ | refine dE ?_ | refine condX0 ?_ | refine condX1 ?_ | refine condNot ?_ | refine condAnd ?_ | refine condOr ?_ | refine aO ?_ | refine aB ?_ | refine aR ?_ | refine aR ?_ (by simp; omega) | refine xr (by assumption) ?_ | refine ai (by assumption) ?_ | refine condD (fun h => ?_) (fun h => ?_) | refine condB (fun h => ?_) (fun h => ?_) | refine condN (fun h => ?_) (fun h => ?_) | refine condE (fun h => ?_) (fun h => ?_) | refine condV (fun h => ?_) (fun h => ?_))
    refine ev_keep [39, 1, 38] [65] ?_
    rw [show (if rngS [] = false then (5 : Int) else if ordC s.kind none s.as = false then 16 else 0) = if ordC s.kind none s.as = false then 16 else 0 from by simp [rngS]]
    simp only [List.length_map]
    exact ord_loop105 s hl s.as [] none _ _ _ 0 rfl rfl rfl
  | x :: r, done,  T, H, c, n, e, hn => by
    have hd : l.length = done.length + (r.length + 1) := by simp [e]
    have hll : (l.map encI).length = l.length := by simp
    have hx : (l.map encI)[n.toNat]? = some (encI x) := by simp [e, hn]
    refine ev_loop' (W_ok 300 _ _ _ _ ?_)
    repeat' ((conv => whnf); first | refine bslP (by first | rfl | (simp [pureL, pureLL, AV.pure]; done) | fail) rfl ?_ | refine TakeC.full (by first | rfl | omega | (simp; done) | (simp; omega) | fail) ?_ | refine zBs ?_ | refine zBn ?_ | refine zBv rfl rfl ?_ | refine zN ?_ | refine zC ?_ | refine zC4 ?_ | refine zOr16 ?_ | refine zC1 ?_ | refine zByte ?_ | refine zMaxL ?_ | refine zMaxR ?_ | refine zMinL ?_ | refine zMinR ?_ | refine zShr ?_ | refine zC8 ?_ | refine zQ ?_ | refine zR ?_ | refine zS ?_ | refine zA ?_ | refine zM ?_ | refine xr rfl ?_ | refine ai rfl ?_ | refine condT ?_ | refine condF ?_ | refine condG1 ?_ | refine condG0 ?_ | refine cD ?_ | refine dD ?_ | refine cB ?_ | refine dB ?_ | refine cN ?_ | refine dN ?_ | refine cV ?_ | refine dV ?_ | refine cE ?_ | refine dE ?_ | refine condX0 ?_ | refine condX1 ?_ | refine condNot ?_ | refine condAnd ?_ | refine condOr ?_ | refine aO ?_ | refine aB ?_ | refine aR ?_ | refine aR ?_ (by simp; omega) | refine xr (by assumption) ?_ | refine ai (by assumption) ?_ | refine condD (fun h => ?_) (fun h => ?_) | refine condB (fun h => ?_) (fun h => ?_) | refine condN (fun h => ?_) (fun h => ?_) | refine condE (fun h => ?_) (fun h => ?_) | refine condV (fun h => ?_) (fun h => ?_))
    all_goals try ((first | refine ev_fin (And.intro (by first | rfl | (simp [AV.pure, pureL]; done) | fail) ?_) | refine ev_fin0 (And.intro (by first | rfl | (simp [AV.pure, pureL]; done) | fail) ?_)); first | rfl | (simp [rngS, Bool.cond_eq_ite, *]; done) | (simp [rngS, Bool.cond_eq_ite, *]; omega) | (unfold rngS; repeat' split; all_goals first | rfl | (exfalso; omega) | (simp_all; done) | (simp_all; omega)))
    rw [show rngS (x :: r) = rngS r from by simp [rngS]; omega]
    refine ev_keep [23, 24, 25, 1] [65] ?_; exact rng_loop105 l s hs hl ln hln r (done ++ [x])  _ _ _ (n + 1) (by simp [e]) (by simp [hn] <;> omega)
theorem segment_gives105 (s : Seg) (hl : s.as.length < 2 ^ 40) : Gives G 105 [.agg s.enc] [] ⟨.int .i64 (segE s), []⟩ := by
  have ll : (s.as.map encI).length = s.as.length := by simp
  refine gives_code (F := f105) rfl rfl (W_ok 300 _ _ _ _ ?_)
  repeat' ((conv => whnf); first | refine bslP (by first | rfl | (simp [pureL, pureLL, AV.pure]; done) | fail) rfl ?_ | refine TakeC.full (by first | rfl | omega | (simp; done) | (simp; omega) | fail) ?_ | refine zBs ?_ | refine zBn ?_ | refine zBv rfl rfl ?_ | refine zN ?_ | refine zC ?_ | refine zC4 ?_ | refine zOr16 ?_ | refine zC1 ?_ | refine zByte ?_ | refine zMaxL ?_ | refine zMaxR ?_ | refine zMinL ?_ | refine zMinR ?_ | refine zShr ?_ | refine zC8 ?_ | refine zQ ?_ | refine zR ?_ | refine zS ?_ | refine zA ?_ | refine zM ?_ | refine xr rfl ?_ | refine ai rfl ?_ | refine condT ?_ | refine condF ?_ | refine condG1 ?_ | refine condG0 ?_ | refine cD ?_ | refine dD ?_ | refine cB ?_ | refine dB ?_ | refine cN ?_ | refine dN ?_ | refine cV ?_ | refine dV ?_ | refine cE ?_ | refine dE ?_ | refine condX0 ?_ | refine condX1 ?_ | refine condNot ?_ | refine condAnd ?_ | refine condOr ?_ | refine aO ?_ | refine aB ?_ | refine aR ?_ | refine aR ?_ (by simp; omega) | refine xr (by assumption) ?_ | refine ai (by assumption) ?_ | refine callF [(73, _, .vec 1 [encI 1, encI 2, encI 3, encI 4])] ⟨rfl, rfl, trivial⟩ rfl (by simp) rfl (by simp [renL, AV.ren, φF, encI, encU, kloc, Nat.beq_refl]) (among2 s.kind) rfl ?_ | refine condD (fun h => ?_) (fun h => ?_) | refine condB (fun h => ?_) (fun h => ?_) | refine condN (fun h => ?_) (fun h => ?_) | refine condE (fun h => ?_) (fun h => ?_) | refine condV (fun h => ?_) (fun h => ?_))
  all_goals try ((first | refine ev_fin (And.intro (by first | rfl | (simp [AV.pure, pureL]; done) | fail) ?_) | refine ev_fin0 (And.intro (by first | rfl | (simp [AV.pure, pureL]; done) | fail) ?_)); first | rfl | (simp [segE, Bool.cond_eq_ite, *]; done) | (simp [segE, Bool.cond_eq_ite, *]; omega) | (unfold segE; repeat' split; all_goals first | rfl | (exfalso; omega) | (simp_all; done) | (simp_all; omega)))
  rw [show segE s = (if rngS s.as = false then 5 else if ordC s.kind none s.as = false then 16 else 0) from by unfold segE; rw [if_neg (by omega), if_neg (by omega), if_neg (by omega)]]
  refine ev_keep [23, 24, 25, 1] [65] ?_
  exact rng_loop105 s.as s rfl hl _ (by simp) s.as [] _ _ _ 0 rfl rfl
def joinC : Option Seg → Seg → Bool
  | some q, s => (decide (s.kind = 2 ∨ s.kind = 3) && (q.kind == s.kind)) && decide (q.as.length < 255)
  | none, _ => false
def pathC (pl : Bool) (prev : Option Seg) : List Seg → Int
  | [] => 0
  | s :: r => if segE s ≠ 0 then segE s else if (confK s.kind && pl) = true then 1 else if joinC prev s = true then 1 else pathC (pl || !confK s.kind) (some s) r
def pathE (p : List Seg) : Int := if p.length > 64 then 4 else pathC false none p
theorem pathC_next {pl : Bool} {p : Option Seg} {x : Seg} {r : List Seg} (h1 : segE x = 0) (h2 : (confK x.kind && pl) = false) (h3 : joinC p x = false) : pathC pl p (x :: r) = pathC (pl || !confK x.kind) (some x) r := by
  rw [pathC, if_neg (by simp [h1]), if_neg (by simp [h2]), if_neg (by simp [h3])]
theorem check_loop75 (l : List Seg) (hs : ∀ s ∈ l, s.as.length < 2 ^ 40) (hl : l.length < 2 ^ 40) (ln : Int) (hln : ln = l.length) : ∀ (rest done : List Seg) (pl pS : Bool) (p : Option Seg) (T : List (Nat × AV)) (H : Heap) (c : Nat) (n : Int) (e : l = done ++ rest) (hn : n = done.length) (hpl : pl = pS) (hp : p = done.getLast?), Ev G ⟨f75x16LH, ⟨(10, .sl 2 (l.map Seg.enc)) :: (11, .int .i64 ln) :: (12, .int .i64 n) :: (3, .bool pl) :: (0, .sl 2 (l.map Seg.enc)) :: T, H, c⟩, [.t 2], 0⟩ ⟨.int .i64 (pathC pS p rest), []⟩
  | [], done, pl, pS, p, T, H, c, n, e, hn, hpl, hp => by
    have hd : l.length = done.length := by simp [e]
    have hll : (l.map Seg.enc).length = l.length := by simp
    refine ev_loop' (W_ok 300 _ _ _ _ ?_)
    repeat' ((conv => whnf); first | refine bslP (by first | rfl | (simp [pureL, pureLL, AV.pure]; done) | fail) rfl ?_ | refine TakeC.full (by first | rfl | omega | (simp; done) | (simp; omega) | fail) ?_ | refine zBs ?_ | refine zBn ?_ | refine zBv rfl rfl ?_ | refine zN ?_ | refine zC ?_ | refine zC4 ?_ | refine zOr16 ?_ | refine zC1 ?_ | refine zByte ?_ | refine zMaxL ?_ | refine zMaxR ?_ | refine zMinL ?_ | refine zMinR ?_ | refine zShr ?_ | refine zC8 ?_ | refine zQ ?_ | refine zR ?_ | refine zS ?_ | refine zA ?_ | refine zM ?_ | refine xr rfl ?_ | refine ai rfl ?_ | refine condT ?_ | refine condF ?_ | refine condG1 ?_ | refine condG0 ?_ | refine cD ?_ | refine dD ?_ | refine cB ?_ | refine dB ?_ | refine cN ?_ | refine dN ?_ | refine cV ?_ | refine dV ?_ | refine cE ?_ | refine dE ?_ | refine condX0 ?_ | refine condX1 ?_ | refine condNot ?_ | refine condAnd ?_ | refine condOr ?_ | refine aO ?_ | refine aB ?_ | refine aR ?_ | refine aR ?_ (by simp; omega) | refine xr (by assumption) ?_ | refine ai (by assumption) ?_ | refine condD (fun h => ?_) (fun h => ?_) | refine condB (fun h => ?_) (fun h => ?_) | refine condN (fun h => ?_) (fun h => ?_) | refine condE (fun h => ?_) (fun h => ?_) | refine condV (fun h => ?_) (fun h => ?_))
    all_goals try ((first | refine ev_fin (And.intro (by first | rfl | (simp [AV.pure, pureL]; done) | fail) ?_) | refine ev_fin0 (And.intro (by first | rfl | (simp [AV.pure, pureL]; done) | fail) ?_)); first | rfl | (simp [pathC, Bool.cond_eq_ite, *]; done) | (simp [pathC, Bool.cond_eq_ite, *]; omega) | (unfold pathC; repeat' split; all_goals first | rfl | (exfalso; omega) | (simp_all; done) | (simp_all; omega)))
  | x :: r, done, pl, pS, p, T, H, c, n, e, hn, hpl, hp => by
    have hd : l.length = done.length + (r.length + 1) := by simp [e]
    have hll : (l.map Seg.enc).length = l.length := by simp
    have hx : (l.map Seg.enc)[n.toNat]? = some (Seg.enc x) := by simp [e, hn]
    subst hpl
    have hsx := hs x (by simp [e])
    have hxl : (x.as.map encI).length = x.as.length := by simp
    rcases List.eq_nil_or_concat done with rfl | ⟨d, q, rfl⟩
    · obtain rfl : p = none := by simp [hp]
      simp only [List.length_nil] at hn hd
      refine ev_loop' (W_ok 300 _ _ _ _ ?_)
      repeat' ((conv => whnf); first | refine bslP (by first | rfl | (simp [pureL, pureLL, AV.pure]; done) | fail) rfl ?_ | refine TakeC.full (by first | rfl | omega | (simp; done) | (simp; omega) | fail) ?_ | refine zBs ?_ | refine zBn ?_ | refine zBv rfl rfl ?_ | refine zN ?_ | refine zC ?_ | refine zC4 ?_ | refine zOr16 ?_ | refine zC1 ?_ | refine zByte ?_ | refine zMaxL ?_ | refine zMaxR ?_ | refine zMinL ?_ | refine zMinR ?_ | refine zShr ?_ | refine zC8 ?_ | refine zQ ?_ | refine zR ?_ | refine zS ?_ | refine zA ?_ | refine zM ?_ | refine xr rfl ?_ | refine ai rfl ?_ | refine condT ?_ | refine condF ?_ | refine condG1 ?_ | refine condG0 ?_ | refine cD ?_ | refine dD ?_ | refine cB ?_ | refine dB ?_ | refine cN ?_ | refine dN ?_ | refine cV ?_ | refine dV ?_ | refine cE ?_ | refine dE ?_ | refine condX0 ?_ | refine condX1 ?_ | refine condNot ?_ | refine condAnd ?_ | refine condOr ?_ | refine aO ?_ | refine aB ?_ | refine aR ?_ | refine aR ?_ (by simp; omega) | refine xr (by assumption) ?_ | refine ai (by assumption) ?_ | refine kV (segment_gives105 x hsx) ?_ | refine kV (confed_gives106 x.kind) ?_ | refine condD (fun h => ?_) (fun h => ?_) | refine condB (fun h => ?_) (fun h => ?_) | refine condN (fun h => ?_) (fun h => ?_) | refine condE (fun h => ?_) (fun h => ?_) | refine condV (fun h => ?_) (fun h => ?_))
      all_goals try ((first | refine ev_fin (And.intro (by first | rfl | (simp [AV.pure, pureL]; done) | fail) ?_) | refine ev_fin0 (And.intro (by first | rfl | (simp [AV.pure, pureL]; done) | fail) ?_)); first | rfl | (simp [pathC, joinC, Bool.cond_eq_ite, *]; done) | (simp [pathC, joinC, Bool.cond_eq_ite, *]; omega) | (unfold pathC joinC; repeat' split; all_goals first | rfl | (exfalso; omega) | (simp_all; done) | (simp_all; omega)))
      all_goals (rw [pathC_next (by assumption) (by simp [*]) (by simp [joinC, *])]; refine ev_keep [10, 11, 12, 3, 0] [] ?_; exact check_loop75 l hs hl ln hln r [x] _ _ (some x) _ _ _ (n + 1) (by simp [e]) (by simp [hn] <;> omega) (by simp [*]) (by simp))
    · obtain rfl : p = some q := by simp [hp]
      simp only [List.concat_eq_append, List.length_append, List.length_singleton] at hn hd
      have hn1 : (n - 1).toNat = d.length := by omega
      have hy : (l.map Seg.enc)[(n - 1).toNat]? = some (Seg.enc q) := by rw [hn1, e]; simp
      have hql : (q.as.map encI).length = q.as.length := by simp
      refine ev_loop' (W_ok 300 _ _ _ _ ?_)
      repeat' ((conv => whnf); first | refine bslP (by first | rfl | (simp [pureL, pureLL, AV.pure]; done) | fail) rfl ?_ | refine TakeC.full (by first | rfl | omega | (simp; done) | (simp; omega) | fail) ?_ | refine zBs ?_ | refine zBn ?_ | refine zBv rfl rfl ?_ | refine zN ?_ | refine zC ?_ | refine zC4 ?_ | refine zOr16 ?_ | refine zC1 ?_ | refine zByte ?_ | refine zMaxL ?_ | refine zMaxR ?_ | refine zMinL ?_ | refine zMinR ?_ | refine zShr ?_ | refine zC8 ?_ | refine zQ ?_ | refine zR ?_ | refine zS ?_ | refine zA ?_ | refine zM ?_ | refine xr rfl ?_ | refine ai rfl ?_ | refine condT ?_ | refine condF ?_ | refine condG1 ?_ | refine condG0 ?_ | refine cD ?_ | refine dD ?_ | refine cB ?_ | refine dB ?_ | refine cN ?_ | refine dN ?_ | refine cV ?_ | refine dV ?_ | refine cE ?_ | refine dE ?_ | refine condX0 ?_ | refine condX1 ?_ | refine condNot ?_ | refine condAnd ?_ | refine condOr ?_ | refine aO ?_ | refine aB ?_ | refine aR ?_ | refine aR ?_ (by simp; omega) | refine xr (by assumption) ?_ | refine ai (by assumption) ?_ | refine kV (segment_gives105 x hsx) ?_ | refine kV (confed_gives106 x.kind) ?_ | refine callF [(97, _, .vec 1 [encI 2, encI 3])] ⟨rfl, rfl, trivial⟩ rfl (by simp) rfl (by simp [renL, AV.ren, φF, encI, encU, kloc, Nat.beq_refl]) (among3 x.kind) rfl ?_ | refine condD (fun h => ?_) (fun h => ?_) | refine condB (fun h => ?_) (fun h => ?_) | refine condN (fun h => ?_) (fun h => ?_) | refine condE (fun h => ?_) (fun h => ?_) | refine condV (fun h => ?_) (fun h => ?_))
      all_goals try ((first | refine ev_fin (And.intro (by first | rfl | (simp [AV.pure, pureL]; done) | fail) ?_) | refine ev_fin0 (And.intro (by first | rfl | (simp [AV.pure, pureL]; done) | fail) ?_)); first | rfl | (simp [pathC, joinC, Bool.cond_eq_ite, *]; done) | (simp [pathC, joinC, Bool.cond_eq_ite, *]; omega) | (unfold pathC joinC; repeat' split; all_goals first | rfl | (exfalso; omega) | (simp_all; done) | (simp_all; omega)))
      all_goals (rw [pathC_next (by assumption) (by simp [*]) (by simp [joinC, *] <;> omega)]; refine ev_keep [10, 11, 12, 3, 0] [] ?_; exact check_loop75 l hs hl ln hln r (d ++ [q] ++ [x]) _ _ (some x) _ _ _ (n + 1) (by simp [e]) (by simp [hn] <;> omega) (by simp [*]) (by simp))
theorem check_gives75 (l : List Seg) (hl : l.length < 2 ^ 40) (hs : ∀ s ∈ l, s.as.length < 2 ^ 40) : Gives G 75 [.sl 2 (l.map Seg.enc)] [] ⟨.int .i64 (pathE l), []⟩ := by
  have ll : (l.map Seg.enc).length = l.length := by simp
  refine gives_code (F := f75) rfl rfl (W_ok 300 _ _ _ _ ?_)
  repeat' ((conv => whnf); first | refine bslP (by first | rfl | (simp [pureL, pureLL, AV.pure]; done) | fail) rfl ?_ | refine TakeC.full (by first | rfl | omega | (simp; done) | (simp; omega) | fail) ?_ | refine zBs ?_ | refine zBn ?_ | refine zBv rfl rfl ?_ | refine zN ?_ | refine zC ?_ | refine zC4 ?_ | refine zOr16 ?_ | refine zC1 ?_ | refine zByte ?_ | refine zMaxL ?_ | refine zMaxR ?_ | refine zMinL ?_ | refine zMinR ?_ | refine zShr ?_ | refine zC8 ?_ | refine zQ ?_ | refine zR ?_ | refine zS ?_ | refine zA ?_ | refine zM ?_ | refine xr rfl ?_ | refine ai rfl ?_ | refine condT ?_ | refine condF ?_ | refine condG1 ?_ | refine condG0 ?_ | refine cD ?_ | refine dD ?_ | refine cB ?_ | refine dB ?_ | refine cN ?_ | refine dN ?_ | refine cV ?_ | refine dV ?_ | refine cE ?_ | refine dE ?_ | refine condX0 ?_ | refine condX1 ?_ | refine condNot ?_ | refine condAnd ?_ | refine condOr ?_ | refine aO ?_ | refine aB ?_ | refine aR ?_ | refine aR ?_ (by simp; omega) | refine xr (by assumption) ?_ | refine ai (by assumption) ?_ | refine condD (fun h => ?_) (fun h => ?_) | refine condB (fun h => ?_) (fun h => ?_) | refine condN (fun h => ?_) (fun h => ?_) | refine condE (fun h => ?_) (fun h => ?_) | refine condV (fun h => ?_) (fun h => ?_))
  all_goals try ((first | refine ev_fin (And.intro (by first | rfl | (simp [AV.pure, pureL]; done) | fail) ?_) | refine ev_fin0 (And.intro (by first | rfl | (simp [AV.pure, pureL]; done) | fail) ?_)); first | rfl | (simp [pathE, Bool.cond_eq_ite, *]; done) | (simp [pathE, Bool.cond_eq_ite, *]; omega) | (unfold pathE; repeat' split; all_goals first | rfl | (exfalso; omega) | (simp_all; done) | (simp_all; omega)))
  rw [show pathE l = pathC false none l from by simp [pathE]; omega]
  refine ev_keep [10, 11, 12, 3, 0] [] ?_
  exact check_loop75 l hs hl _ (by simp) l [] _ _ _ _ _ _ 0 rfl rfl rfl rfl
end Go.AM.IR
set_option maxHeartbeats 4000000
set_option maxRecDepth 20000
namespace Go.AM.IR
end Go.AM.IR
set_option maxHeartbeats 4000000
set_option maxRecDepth 20000
namespace Go.AM.IR
def unkC : Option Int → List TLV → Int
  | _, [] => 0
  | none, t :: r => if t.kind ≤ 10 ∨ t.kind > 255 then 15 else if t.value.length > 255 then 4 else unkC (some t.kind) r
  | some p, t :: r => if t.kind ≤ 10 ∨ t.kind > 255 then 15 else if t.kind ≤ p then 16 else if t.value.length > 255 then 4 else unkC (some t.kind) r
def unknownE (l : List TLV) : Int := if l.length > 64 then 4 else unkC none l
theorem unknown_loop79 (l : List TLV) (hv : ∀ t ∈ l, t.value.length < 2 ^ 40) (hl : l.length < 2 ^ 40) (ln : Int) (hln : ln = l.length) : ∀ (rest done : List TLV) (p : Option Int) (T : List (Nat × AV)) (H : Heap) (c : Nat) (n : Int) (e : l = done ++ rest) (hn : n = done.length) (hp : p = done.getLast?.map (·.kind)), Ev G ⟨f79x13LH, ⟨(8, .sl 2 (l.map TLV.enc)) :: (9, .int .i64 ln) :: (10, .int .i64 n) :: (0, .sl 2 (l.map TLV.enc)) :: T, H, c⟩, [.t 2], 0⟩ ⟨.int .i64 (unkC p rest), []⟩
  | [], done, p, T, H, c, n, e, hn, hp => by
    have hd : l.length = done.length := by simp [e]
    have hll : (l.map TLV.enc).length = l.length := by simp
    refine ev_loop' (W_ok 300 _ _ _ _ ?_)
    repeat' ((conv => whnf); first | refine bslP (by first | rfl | (simp [pureL, pureLL, AV.pure]; done) | fail) rfl ?_ | refine TakeC.full (by first | rfl | omega | (simp; done) | (simp; omega) | fail) ?_ | refine zBs ?_ | refine zBn ?_ | refine zBv rfl rfl ?_ | refine zN ?_ | refine zC ?_ | refine zC4 ?_ | refine zOr16 ?_ | refine zC1 ?_ | refine zByte ?_ | refine zMaxL ?_ | refine zMaxR ?_ | refine zMinL ?_ | refine zMinR ?_ | refine zShr ?_ | refine zC8 ?_ | refine zQ ?_ | refine zR ?_ | refine zS ?_ | refine zA ?_ | refine zM ?_ | refine xr rfl ?_ | refine ai rfl ?_ | refine condT ?_ | refine condF ?_ | refine condG1 ?_ | refine condG0 ?_ | refine cD ?_ | refine dD ?_ | refine cB ?_ | refine dB ?_ | refine cN ?_ | refine dN ?_ | refine cV ?_ | refine dV ?_ | refine cE ?_ | refine dE ?_ | refine condX0 ?_ | refine condX1 ?_ | refine condNot ?_ | refine condAnd ?_ | refine condOr ?_ | refine aO ?_ | refine aB ?_ | refine aR ?_ | refine aR ?_ (by simp; omega) | refine xr (by assumption) ?_ | refine ai (by assumption) ?_ | refine condD (fun h => ?_) (fun h => ?_) | refine condB (fun h => ?_) (fun h => ?_) | refine condN (fun h => ?_) (fun h => ?_) | refine condE (fun h => ?_) (fun h => ?_) | refine condV (fun h => ?_) (fun h => ?_))
    all_goals try ((first | refine ev_fin (And.intro (by first | rfl | (simp [AV.pure, pureL]; done) | fail) ?_) | refine ev_fin0 (And.intro (by first | rfl | (simp [AV.pure, pureL]; done) | fail) ?_)); first | rfl | (simp [unkC, Bool.cond_eq_ite, *]; done) | (simp [unkC, Bool.cond_eq_ite, *]; omega) | (unfold unkC; repeat' split; all_goals first | rfl | (exfalso; omega) | (simp_all; done) | (simp_all; omega)))
  | x :: r, done, p, T, H, c, n, e, hn, hp => by
    have hd : l.length = done.length + (r.length + 1) := by simp [e]
    have hll : (l.map TLV.enc).length = l.length := by simp
    have hx : (l.map TLV.enc)[n.toNat]? = some (TLV.enc x) := by simp [e, hn]
    have hxv : x.value.length < 2 ^ 40 := hv x (by simp [e])
    have hbl : (byteCells x.value).length = x.value.length := by simp [byteCells]
    rcases List.eq_nil_or_concat done with rfl | ⟨d, q, rfl⟩
    · obtain rfl : p = none := by simp [hp]
      simp only [List.length_nil] at hn hd
      refine ev_loop' (W_ok 300 _ _ _ _ ?_)
      repeat' ((conv => whnf); first | refine bslP (by first | rfl | (simp [pureL, pureLL, AV.pure]; done) | fail) rfl ?_ | refine TakeC.full (by first | rfl | omega | (simp; done) | (simp; omega) | fail) ?_ | refine zBs ?_ | refine zBn ?_ | refine zBv rfl rfl ?_ | refine zN ?_ | refine zC ?_ | refine zC4 ?_ | refine zOr16 ?_ | refine zC1 ?_ | refine zByte ?_ | refine zMaxL ?_ | refine zMaxR ?_ | refine zMinL ?_ | refine zMinR ?_ | refine zShr ?_ | refine zC8 ?_ | refine zQ ?_ | refine zR ?_ | refine zS ?_ | refine zA ?_ | refine zM ?_ | refine xr rfl ?_ | refine ai rfl ?_ | refine condT ?_ | refine condF ?_ | refine condG1 ?_ | refine condG0 ?_ | refine cD ?_ | refine dD ?_ | refine cB ?_ | refine dB ?_ | refine cN ?_ | refine dN ?_ | refine cV ?_ | refine dV ?_ | refine cE ?_ | refine dE ?_ | refine condX0 ?_ | refine condX1 ?_ | refine condNot ?_ | refine condAnd ?_ | refine condOr ?_ | refine aO ?_ | refine aB ?_ | refine aR ?_ | refine aR ?_ (by simp; omega) | refine xr (by assumption) ?_ | refine ai (by assumption) ?_ | refine condD (fun h => ?_) (fun h => ?_) | refine condB (fun h => ?_) (fun h => ?_) | refine condN (fun h => ?_) (fun h => ?_) | refine condE (fun h => ?_) (fun h => ?_) | refine condV (fun h => ?_) (fun h => ?_))
      all_goals try ((first | refine ev_fin (And.intro (by first | rfl | (simp [AV.pure, pureL]; done) | fail) ?_) | refine ev_fin0 (And.intro (by first | rfl | (simp [AV.pure, pureL]; done) | fail) ?_)); first | rfl | (simp [unkC, Bool.cond_eq_ite, *]; done) | (simp [unkC, Bool.cond_eq_ite, *]; omega) | (unfold unkC; repeat' split; all_goals first | rfl | (exfalso; omega) | (simp_all; done) | (simp_all; omega)))
      rw [show unkC none (x :: r) = unkC (some x.kind) r from by simp [unkC]; omega]
      refine ev_keep [8, 9, 10, 0] [] ?_; exact unknown_loop79 l hv hl ln hln r [x] _ _ _ _ (n + 1) (by simp [e]) (by simp [hn] <;> omega) (by simp)
    · obtain rfl : p = some q.kind := by simp [hp]
      simp only [List.concat_eq_append, List.length_append, List.length_singleton] at hn hd
      have hn1 : (n - 1).toNat = d.length := by omega
      have hy : (l.map TLV.enc)[(n - 1).toNat]? = some (TLV.enc q) := by rw [hn1, e]; simp
      refine ev_loop' (W_ok 300 _ _ _ _ ?_)
      repeat' ((conv => whnf); first | refine bslP (by first | rfl | (simp [pureL, pureLL, AV.pure]; done) | fail) rfl ?_ | refine TakeC.full (by first | rfl | omega | (simp; done) | (simp; omega) | fail) ?_ | refine zBs ?_ | refine zBn ?_ | refine zBv rfl rfl ?_ | refine zN ?_ | refine zC ?_ | refine zC4 ?_ | refine zOr16 ?_ | refine zC1 ?_ | refine zByte ?_ | refine zMaxL ?_ | refine zMaxR ?_ | refine zMinL ?_ | refine zMinR ?_ | refine zShr ?_ | refine zC8 ?_ | refine zQ ?_ | refine zR ?_ | refine zS ?_ | refine zA ?_ | refine zM ?_ | refine xr rfl ?_ | refine ai rfl ?_ | refine condT ?_ | refine condF ?_ | refine condG1 ?_ | refine condG0 ?_ | refine cD ?_ | refine dD ?_ | refine cB ?_ | refine dB ?_ | refine cN ?_ | refine dN ?_ | refine cV ?_ | refine dV ?_ | refine cE ?_ | refine dE ?_ | refine condX0 ?_ | refine condX1 ?_ | refine condNot ?_ | refine condAnd ?_ | refine condOr ?_ | refine aO ?_ | refine aB ?_ | refine aR ?_ | refine aR ?_ (by simp; omega) | refine xr (by assumption) ?_ | refine ai (by assumption) ?_ | refine condD (fun h => ?_) (fun h => ?_) | refine condB (fun h => ?_) (fun h => ?_) | refine condN (fun h => ?_) (fun h => ?_) | refine condE (fun h => ?_) (fun h => ?_) | refine condV (fun h => ?_) (fun h => ?_))
      all_goals try ((first | refine ev_fin (And.intro (by first | rfl | (simp [AV.pure, pureL]; done) | fail) ?_) | refine ev_fin0 (And.intro (by first | rfl | (simp [AV.pure, pureL]; done) | fail) ?_)); first | rfl | (simp [unkC, Bool.cond_eq_ite, *]; done) | (simp [unkC, Bool.cond_eq_ite, *]; omega) | (unfold unkC; repeat' split; all_goals first | rfl | (exfalso; omega) | (simp_all; done) | (simp_all; omega)))
      rw [show unkC (some q.kind) (x :: r) = unkC (some x.kind) r from by simp [unkC]; omega]
      refine ev_keep [8, 9, 10, 0] [] ?_; exact unknown_loop79 l hv hl ln hln r (d ++ [q] ++ [x]) _ _ _ _ (n + 1) (by simp [e]) (by simp [hn] <;> omega) (by simp)
theorem unknown_gives79 (l : List TLV) (hl : l.length < 2 ^ 40) (hv : ∀ t ∈ l, t.value.length < 2 ^ 40) : Gives G 79 [.sl 2 (l.map TLV.enc)] [] ⟨.int .i64 (unknownE l), []⟩ := by
  have ll : (l.map TLV.enc).length = l.length := by simp
  refine gives_code (F := f79) rfl rfl (W_ok 300 _ _ _ _ ?_)
  repeat' ((conv => whnf); first | refine bslP (by first | rfl | (simp [pureL, pureLL, AV.pure]; done) | fail) rfl ?_ | refine TakeC.full (by first | rfl | omega | (simp; done) | (simp; omega) | fail) ?_ | refine zBs ?_ | refine zBn ?_ | refine zBv rfl rfl ?_ | refine zN ?_ | refine zC ?_ | refine zC4 ?_ | refine zOr16 ?_ | refine zC1 ?_ | refine zByte ?_ | refine zMaxL ?_ | refine zMaxR ?_ | refine zMinL ?_ | refine zMinR ?_ | refine zShr ?_ | refine zC8 ?_ | refine zQ ?_ | refine zR ?_ | refine zS ?_ | refine zA ?_ | refine zM ?_ | refine xr rfl ?_ | refine ai rfl ?_ | refine condT ?_ | refine condF ?_ | refine condG1 ?_ | refine condG0 ?_ | refine cD ?_ | refine dD ?_ | refine cB ?_ | refine dB ?_ | refine cN ?_ | refine dN ?_ | refine cV ?_ | refine dV ?_ | refine cE ?_ | refine dE ?_ | refine condX0 ?_ | refine condX1 ?_ | refine condNot ?_ | refine condAnd ?_ | refine condOr ?_ | refine aO ?_ | refine aB ?_ | refine aR ?_ | refine aR ?_ (by simp; omega) | refine xr (by assumption) ?_ | refine ai (by assumption) ?_ | refine condD (fun h => ?_) (fun h => ?_) | refine condB (fun h => ?_) (fun h => ?_) | refine condN (fun h => ?_) (fun h => ?_) | refine condE (fun h => ?_) (fun h => ?_) | refine condV (fun h => ?_) (fun h => ?_))
  all_goals try ((first | refine ev_fin (And.intro (by first | rfl | (simp [AV.pure, pureL]; done) | fail) ?_) | refine ev_fin0 (And.intro (by first | rfl | (simp [AV.pure, pureL]; done) | fail) ?_)); first | rfl | (simp [unknownE, Bool.cond_eq_ite, *]; done) | (simp [unknownE, Bool.cond_eq_ite, *]; omega) | (unfold unknownE; repeat' split; all_goals first | rfl | (exfalso; omega) | (simp_all; done) | (simp_all; omega)))
  rw [show unknownE l = unkC none l from by simp [unknownE]; omega]
  refine ev_keep [8, 9, 10, 0] [] ?_
  exact unknown_loop79 l hv hl _ (by simp) l [] _ _ _ _ 0 rfl rfl rfl
end Go.AM.IR
set_option maxHeartbeats 4000000
set_option maxRecDepth 20000
namespace Go.AM.IR
def origE (h : Bool) (x : Int) : Int := if h = (x == 0) then 1 else 0
def checkL (a : Attrs) : List Int := [if a.origin < 0 ∨ a.origin > 2 then 5 else 0, pathE a.path, if a.nextHop = 0 then 1 else 0, optE a.hasMED a.med 0, optE a.hasPref a.pref 0, optE a.hasAggr a.aggrAS 1, if a.hasAggr = false ∧ a.aggrAddr ≠ 0 then 1 else 0, commE a.comms, origE a.hasOrig a.orig, clustersE a.clusters, unknownE a.unknown]
def checkS (a : Attrs) : Int := firstS (checkL a)
structure LenB (a : Attrs) : Prop where
  path : a.path.length < 2 ^ 40
  segs : ∀ s ∈ a.path, s.as.length < 2 ^ 40
  comms : a.comms.length < 2 ^ 40
  clusters : a.clusters.length < 2 ^ 40
  unknown : a.unknown.length < 2 ^ 40
  vals : ∀ t ∈ a.unknown, t.value.length < 2 ^ 40
theorem check_gives65 (a : Attrs) (h : LenB a) : Gives G 65 [.agg a.enc] [] ⟨.int .i64 (checkS a), []⟩ := by
  obtain ⟨h1, h2, h3, h4, h5, h6⟩ := h
  refine gives_code (F := f65) rfl rfl (W_ok 300 _ _ _ _ ?_)
  repeat' ((conv => whnf); first | refine bslP (by first | rfl | (simp [pureL, pureLL, AV.pure]; done) | fail) rfl ?_ | refine TakeC.full (by first | rfl | omega | (simp; done) | (simp; omega) | fail) ?_ | refine zBs ?_ | refine zBn ?_ | refine zBv rfl rfl ?_ | refine zN ?_ | refine zC ?_ | refine zC4 ?_ | refine zOr16 ?_ | refine zC1 ?_ | refine zByte ?_ | refine zMaxL ?_ | refine zMaxR ?_ | refine zMinL ?_ | refine zMinR ?_ | refine zShr ?_ | refine zC8 ?_ | refine zQ ?_ | refine zR ?_ | refine zS ?_ | refine zA ?_ | refine zM ?_ | refine xr rfl ?_ | refine ai rfl ?_ | refine condT ?_ | refine condF ?_ | refine condG1 ?_ | refine condG0 ?_ | refine cD ?_ | refine dD ?_ | refine cB ?_ | refine dB ?_ | refine cN ?_ | refine dN ?_ | refine cV ?_ | refine dV ?_ | refine cE ?_ | refine dE ?_ | refine condX0 ?_ | refine condX1 ?_ | refine condNot ?_ | refine condAnd ?_ | refine condOr ?_ | refine aO ?_ | refine aB ?_ | refine aR ?_ | refine aR ?_ (by simp; omega) | refine xr (by assumption) ?_ | refine ai (by assumption) ?_ | refine kV (when_gives74 _ _) ?_ | refine kV (optional_gives76 _ _ _) ?_ | refine kV (check_gives75 a.path h1 h2) ?_ | refine kV (comm_gives77 a.comms h3) ?_ | refine kV (clusters_gives78 a.clusters h4) ?_ | refine kV (unknown_gives79 a.unknown h5 h6) ?_ | refine condD (fun h => ?_) (fun h => ?_) | refine condB (fun h => ?_) (fun h => ?_) | refine condN (fun h => ?_) (fun h => ?_) | refine condE (fun h => ?_) (fun h => ?_) | refine condV (fun h => ?_) (fun h => ?_))
  all_goals (refine callF [(123, _, .vec 1 _)] ⟨rfl, rfl, trivial⟩ rfl (by simp) rfl rfl (first_gives73 [_, _, _, _, _, _, _, _, _, _, _] (by simp)) rfl ?_)
  repeat' ((conv => whnf); first | refine bslP (by first | rfl | (simp [pureL, pureLL, AV.pure]; done) | fail) rfl ?_ | refine TakeC.full (by first | rfl | omega | (simp; done) | (simp; omega) | fail) ?_ | refine zBs ?_ | refine zBn ?_ | refine zBv rfl rfl ?_ | refine zN ?_ | refine zC ?_ | refine zC4 ?_ | refine zOr16 ?_ | refine zC1 ?_ | refine zByte ?_ | refine zMaxL ?_ | refine zMaxR ?_ | refine zMinL ?_ | refine zMinR ?_ | refine zShr ?_ | refine zC8 ?_ | refine zQ ?_ | refine zR ?_ | refine zS ?_ | refine zA ?_ | refine zM ?_ | refine xr rfl ?_ | refine ai rfl ?_ | refine condT ?_ | refine condF ?_ | refine condG1 ?_ | refine condG0 ?_ | refine cD ?_ | refine dD ?_ | refine cB ?_ | refine dB ?_ | refine cN ?_ | refine dN ?_ | refine cV ?_ | refine dV ?_ | refine cE ?_ | refine dE ?_ | refine condX0 ?_ | refine condX1 ?_ | refine condNot ?_ | refine condAnd ?_ | refine condOr ?_ | refine aO ?_ | refine aB ?_ | refine aR ?_ | refine aR ?_ (by simp; omega) | refine xr (by assumption) ?_ | refine ai (by assumption) ?_ | refine condD (fun h => ?_) (fun h => ?_) | refine condB (fun h => ?_) (fun h => ?_) | refine condN (fun h => ?_) (fun h => ?_) | refine condE (fun h => ?_) (fun h => ?_) | refine condV (fun h => ?_) (fun h => ?_))
  all_goals ((first | refine ev_fin (And.intro (by first | rfl | (simp [AV.pure, pureL]; done) | fail) ?_) | refine ev_fin0 (And.intro (by first | rfl | (simp [AV.pure, pureL]; done) | fail) ?_)); refine congrArg (fun x => Ret.mk (.int .i64 x) []) ?_; unfold checkS; refine congrArg firstS ?_; simp [checkL, origE, *]; try omega)
end Go.AM.IR
set_option maxHeartbeats 4000000
set_option maxRecDepth 20000
namespace Go.AM.IR
end Go.AM.IR
namespace Go.AM.IR
set_option maxRecDepth 1000000
set_option maxHeartbeats 0
theorem awake36_gives : Gives G 64 [] [] ⟨.bool true, []⟩ := by
  refine gives_run 20000 rfl rfl ?_
  kernel_rfl
end Go.AM.IR
namespace Go.AM.IR
theorem lift_enc {α : Type} {e : List AV → Prop} {enc : α → List AV} {Q : α → Prop} (h : ∀ x, e x → ∃ a, x = enc a ∧ Q a) : ∀ es : List (List AV), (∀ x ∈ es, e x) → ∃ l : List α, es = l.map enc ∧ ∀ a ∈ l, Q a
  | [], _ => ⟨[], rfl, by simp⟩
  | x :: r, hx => by
    obtain ⟨a, rfl, ha⟩ := h x (hx x (by simp))
    obtain ⟨l, rfl, hl⟩ := lift_enc h r fun y hy => hx y (by simp [hy])
    exact ⟨a :: l, rfl, by simpa using ⟨ha, hl⟩⟩
def okI (x : Int) : Prop := -9223372036854775808 ≤ x ∧ x ≤ 9223372036854775807
def okU (x : Int) : Prop := 0 ≤ x ∧ x ≤ 4294967295
theorem T_i64 {as : List AV} (h : Ty.T (.int .i64) as) : ∃ x, as = encI x ∧ okI x := by
  obtain ⟨n, rfl, h1, h2⟩ := h
  exact ⟨n, rfl, by simpa [IntKind.min, IntKind.max, IntKind.signed, IntKind.bits, okI] using And.intro h1 h2⟩
theorem T_u32 {as : List AV} (h : Ty.T (.int .u32) as) : ∃ x, as = encU x ∧ okU x := by
  obtain ⟨n, rfl, h1, h2⟩ := h
  exact ⟨n, rfl, by simpa [IntKind.min, IntKind.max, IntKind.signed, IntKind.bits, okU] using And.intro h1 h2⟩
theorem T_u8 {as : List AV} (h : Ty.T (.int .u8) as) : ∃ b : UInt8, as = [.int .u8 b.toNat] ∧ True := by
  obtain ⟨n, rfl, h1, h2⟩ := h
  have h1 : 0 ≤ n := by simpa [IntKind.min, IntKind.signed] using h1
  have h2 : n ≤ 255 := by simpa [IntKind.max, IntKind.signed, IntKind.bits] using h2
  refine ⟨UInt8.ofNat n.toNat, ?_, trivial⟩
  have : ((UInt8.ofNat n.toNat).toNat : Int) = n := by simp; omega
  rw [this]
theorem T_sl {α : Type} {τ : Ty} {enc : α → List AV} {Q : α → Prop} (h : ∀ x, τ.T x → ∃ a, x = enc a ∧ Q a) {as : List AV} (hs : Ty.T (.sl τ) as) : ∃ l : List α, as = [.sl τ.cells (l.map enc)] ∧ ∀ a ∈ l, Q a := by
  obtain ⟨es, rfl, h1, _⟩ := hs
  obtain ⟨l, rfl, h2⟩ := lift_enc h es h1
  exact ⟨l, rfl, h2⟩
theorem T_bytes {as : List AV} (hs : Ty.T (.sl (.int .u8)) as) : ∃ l : List UInt8, as = [.sl 1 (byteCells l)] := by
  obtain ⟨l, rfl, _⟩ := T_sl (fun x => T_u8) hs
  exact ⟨l, rfl⟩
def tSeg : Ty := .st [.int .i64, .sl (.int .i64)]
def tTLV : Ty := .st [.int .i64, .sl (.int .u8)]
def tAttrs : Ty := .st [.int .i64, .sl tSeg, .int .u32, .bool, .int .i64, .bool, .int .i64, .bool, .bool, .int .i64, .int .u32, .sl (.int .u32), .bool, .int .u32, .sl (.int .u32), .sl tTLV]
structure Seg.ok (s : Seg) : Prop where
  kind : okI s.kind
  as : ∀ x ∈ s.as, okI x
theorem T_seg {as : List AV} (h : tSeg.T as) : ∃ s : Seg, as = s.enc ∧ s.ok := by
  simp only [tSeg, Ty.T.eq_5, TT] at h
  obtain ⟨a1, b1, rfl, h1, a2, b2, rfl, h2, rfl⟩ := h
  obtain ⟨x1, rfl, k1⟩ := T_i64 h1
  obtain ⟨x2, rfl, k2⟩ := T_sl (fun x => T_i64) h2
  exact ⟨⟨x1, x2⟩, rfl, k1, k2⟩
structure TLV.ok (s : TLV) : Prop where
  kind : okI s.kind
theorem T_tlv {as : List AV} (h : tTLV.T as) : ∃ s : TLV, as = s.enc ∧ s.ok := by
  simp only [tTLV, Ty.T.eq_5, TT] at h
  obtain ⟨a1, b1, rfl, h1, a2, b2, rfl, h2, rfl⟩ := h
  obtain ⟨x1, rfl, k1⟩ := T_i64 h1
  obtain ⟨x2, rfl⟩ := T_bytes h2
  exact ⟨⟨x1, x2⟩, rfl, ⟨k1⟩⟩
structure IGP.ok (s : IGP) : Prop where
  addr : okU s.addr
  cost : okI s.cost
structure Attrs.ok (a : Attrs) : Prop where
  origin : okI a.origin
  path : ∀ s ∈ a.path, s.ok
  nextHop : okU a.nextHop
  med : okI a.med
  pref : okI a.pref
  aggrAS : okI a.aggrAS
  aggrAddr : okU a.aggrAddr
  comms : ∀ x ∈ a.comms, okU x
  orig : okU a.orig
  clusters : ∀ x ∈ a.clusters, okU x
  unknown : ∀ x ∈ a.unknown, x.ok
theorem T_attrs {as : List AV} (h : tAttrs.T as) : ∃ s : Attrs, as = s.enc ∧ s.ok := by
  simp only [tAttrs, Ty.T.eq_5, TT] at h
  obtain ⟨a1, b1, rfl, h1, a2, b2, rfl, h2, a3, b3, rfl, h3, a4, b4, rfl, h4, a5, b5, rfl, h5, a6, b6, rfl, h6, a7, b7, rfl, h7, a8, b8, rfl, h8, a9, b9, rfl, h9, a10, b10, rfl, h10, a11, b11, rfl, h11, a12, b12, rfl, h12, a13, b13, rfl, h13, a14, b14, rfl, h14, a15, b15, rfl, h15, a16, b16, rfl, h16, rfl⟩ := h
  obtain ⟨x1, rfl, k1⟩ := T_i64 h1
  obtain ⟨x2, rfl, k2⟩ := T_sl (fun x => T_seg) h2
  obtain ⟨x3, rfl, k3⟩ := T_u32 h3
  obtain ⟨x4, rfl⟩ := h4
  obtain ⟨x5, rfl, k5⟩ := T_i64 h5
  obtain ⟨x6, rfl⟩ := h6
  obtain ⟨x7, rfl, k7⟩ := T_i64 h7
  obtain ⟨x8, rfl⟩ := h8
  obtain ⟨x9, rfl⟩ := h9
  obtain ⟨x10, rfl, k10⟩ := T_i64 h10
  obtain ⟨x11, rfl, k11⟩ := T_u32 h11
  obtain ⟨x12, rfl, k12⟩ := T_sl (fun x => T_u32) h12
  obtain ⟨x13, rfl⟩ := h13
  obtain ⟨x14, rfl, k14⟩ := T_u32 h14
  obtain ⟨x15, rfl, k15⟩ := T_sl (fun x => T_u32) h15
  obtain ⟨x16, rfl, k16⟩ := T_sl (fun x => T_tlv) h16
  exact ⟨⟨x1, x2, x3, x4, x5, x6, x7, x8, x9, x10, x11, x12, x13, x14, x15, x16⟩, rfl, k1, k2, k3, k5, k7, k10, k11, k12, k14, k15, k16⟩
structure PVRoute.ok (r : PVRoute) : Prop where
  paddr : okU r.paddr
  plen : okI r.plen
  attrs : r.attrs.ok
  peer : okI r.peer
  kind : okI r.kind
  router : okU r.router
end Go.AM.IR
set_option maxHeartbeats 4000000
set_option maxRecDepth 20000
namespace Go.AM.IR
theorem sizeS_le {a : Attrs} (h : AB a) : LenB a where
  path := h.path
  segs s hs := by
    have h1 := h.flat
    have h2 : s.as.length ≤ (flatS a.path).length := by
      unfold flatS
      obtain ⟨p, q, e⟩ := List.append_of_mem hs
      rw [e]; simp; omega
    omega
  comms := h.comms
  clusters := h.clusters
  unknown := h.unknown
  vals := h.vals
end Go.AM.IR
set_option maxHeartbeats 4000000
set_option maxRecDepth 20000
namespace Go.AM.IR
def zeroA : Attrs := ⟨0, [], 0, false, 0, false, 0, false, false, 0, 0, [], false, 0, [], []⟩
structure Att where
  c : UInt8
  k : UInt8
  long : Bool
  v : List UInt8
  rest : List UInt8
def attD : List UInt8 → Option Att
  | c :: k :: n :: r => bif bit16 c then (match r with
      | m :: r' => if r'.length < n.toNat * 256 + m.toNat then none else some ⟨c, k, true, r'.take (n.toNat * 256 + m.toNat), r'.drop (n.toNat * 256 + m.toNat)⟩
      | [] => none)
    else (if r.length < n.toNat then none else some ⟨c, k, false, r.take n.toNat, r.drop n.toNat⟩)
  | _ => none
def stripB (c : UInt8) : Int := bif bit16 c then (c.toNat : Int) - 16 else c.toNat
def badHead (t : Att) : Prop := ¬ stripB t.c = ((flagS (t.k.toNat : Int)).toNat : Int) ∨ (t.long = true ∧ t.v.length ≤ 255)
instance (t : Att) : Decidable (badHead t) := by unfold badHead; infer_instance
def isReq (k : Nat) : Nat := if 1 ≤ k ∧ k ≤ 3 then 1 else 0
def finD (nd : Nat) (a : Attrs) : Int × Attrs := if nd < 3 then (6, zeroA) else if checkS a = 0 then (0, a) else (checkS a, zeroA)
def decF (w : Nat) : Nat → List UInt8 → Int → Nat → Attrs → Int × Attrs
  | _, [], _, nd, a => finD nd a
  | 0, _ :: _, _, _, _ => (3, zeroA)
  | f + 1, c :: r, last, nd, a => match attD (c :: r) with
    | none => (3, zeroA)
    | some t => if (t.k.toNat : Int) ≤ last then (16, zeroA) else if badHead t then (2, zeroA) else match setA w t.k.toNat t.v a with
      | none => (2, zeroA)
      | some a' => decF w f t.rest (t.k.toNat : Int) (nd + isReq t.k.toNat) a'
def decD (w : Nat) (b : List UInt8) : Int × Attrs := decF w b.length b (-1) 0 zeroA
def decR (x : Int × Attrs) : Ret := ⟨.tup [.agg x.2.enc, .int .i64 x.1], []⟩
structure DB (N : Nat) (a : Attrs) : Prop where
  path : a.path.length ≤ N
  segs : ∀ s ∈ a.path, s.as.length ≤ 255
  comms : a.comms.length ≤ N
  clusters : a.clusters.length ≤ N
  vals : ∀ t ∈ a.unknown, t.value.length ≤ N
theorem segsF_len (w : Nat) : ∀ (f : Nat) (b : List UInt8) (l : List Seg), segsF w f b = some l → l.length ≤ b.length ∧ ∀ s ∈ l, s.as.length ≤ 255
  | f, [], l, h => by
    cases f <;> (simp only [segsF, Option.some.injEq] at h; subst h; simp)
  | 0, _ :: _, l, h => by simp [segsF] at h
  | f + 1, [_], l, h => by simp [segsF] at h
  | f + 1, k :: n :: r, l, h => by
    have hn := n.toNat_lt
    simp only [segsF] at h
    split at h
    · cases h
    · obtain ⟨l', h1, rfl⟩ := Option.map_eq_some_iff.1 h
      obtain ⟨q1, q2⟩ := segsF_len w f _ l' h1
      simp only [List.length_drop] at q1
      refine ⟨by simp only [List.length_cons]; omega, fun s hs => ?_⟩
      rcases List.mem_cons.1 hs with rfl | hs
      · simp; omega
      · exact q2 s hs
theorem setA_DB {N w k : Nat} {v : List UInt8} {a a' : Attrs} (h : DB N a) (hv : v.length ≤ N) (e : setA w k v a = some a') : DB N a' ∧ a'.unknown.length ≤ a.unknown.length + 1 := by
  obtain ⟨h1, h2, h3, h4, h5⟩ := h
  have hw : (wordsD v).length ≤ N := by simp [wordsD]; omega
  unfold setA at e
  split at e
  · split at e
    · cases e; exact ⟨⟨h1, h2, h3, h4, h5⟩, by simp⟩
    · cases e
  · obtain ⟨p, hp, rfl⟩ := Option.map_eq_some_iff.1 e
    obtain ⟨q1, q2⟩ := segsF_len w _ v p hp
    exact ⟨⟨by simp only; omega, q2, h3, h4, h5⟩, by simp⟩
  · split at e
    · cases e; exact ⟨⟨h1, h2, h3, h4, h5⟩, by simp⟩
    · cases e
  · split at e
    · cases e; exact ⟨⟨h1, h2, h3, h4, h5⟩, by simp⟩
    · cases e
  · split at e
    · cases e; exact ⟨⟨h1, h2, h3, h4, h5⟩, by simp⟩
    · cases e
  · split at e
    · cases e; exact ⟨⟨h1, h2, h3, h4, h5⟩, by simp⟩
    · cases e
  · split at e
    · cases e; exact ⟨⟨h1, h2, h3, h4, h5⟩, by simp⟩
    · cases e
  · split at e
    · cases e; exact ⟨⟨h1, h2, hw, h4, h5⟩, by simp⟩
    · cases e
  · split at e
    · cases e; exact ⟨⟨h1, h2, h3, h4, h5⟩, by simp⟩
    · cases e
  · split at e
    · cases e; exact ⟨⟨h1, h2, h3, hw, h5⟩, by simp⟩
    · cases e
  · cases e
    refine ⟨⟨h1, h2, h3, h4, fun t ht => ?_⟩, by simp⟩
    rcases List.mem_append.1 ht with ht | ht
    · exact h5 t ht
    · simp only [List.mem_singleton] at ht; subst ht; exact hv
theorem DB.lenB {N : Nat} {a : Attrs} (h : DB N a) (hN : N < 2 ^ 30) (hu : a.unknown.length ≤ N) : LenB a :=
  ⟨by have := h.path; omega, fun s hs => by have := h.segs s hs; omega, by have := h.comms; omega, by have := h.clusters; omega, by omega, fun t ht => by have := h.vals t ht; omega⟩
theorem decF_none {w f : Nat} {c : UInt8} {r : List UInt8} {last : Int} {nd : Nat} {a : Attrs} (h : attD (c :: r) = none) : decF w (f + 1) (c :: r) last nd a = (3, zeroA) := by
  simp only [decF, h]
theorem decF_some {w f : Nat} {c : UInt8} {r : List UInt8} {last : Int} {nd : Nat} {a : Attrs} {t : Att} (h : attD (c :: r) = some t) : decF w (f + 1) (c :: r) last nd a = if (t.k.toNat : Int) ≤ last then (16, zeroA) else if badHead t then (2, zeroA) else match setA w t.k.toNat t.v a with
      | none => (2, zeroA)
      | some a' => decF w f t.rest (t.k.toNat : Int) (nd + isReq t.k.toNat) a' := by
  simp only [decF, h]
structure MetOk (m : Nat → Bool) (last : Int) (nd : Nat) : Prop where
  cnt : nd = (m 1).toNat + (m 2).toNat + (m 3).toNat
  le : ∀ j, m j = true → (j : Int) ≤ last
def zeroC : List AV := [.int .i64 0, .con (.slice none 0 0), .int .u32 0, .bool false, .int .i64 0, .bool false, .int .i64 0, .bool false, .bool false, .int .i64 0, .int .u32 0, .con (.slice none 0 0), .bool false, .int .u32 0, .con (.slice none 0 0), .con (.slice none 0 0)]
section
variable {k : AV → Prop} {b : UInt8}
theorem zAndT (hb : bit16 b = true) (h : k (.int .u8 16)) : ∃ v, binA .and (.int .u8 (b.toNat : Int)) (.int .u8 16) = some v ∧ k v := zAnd16 (by rw [if_pos hb]; exact h)
theorem zAndF (hb : bit16 b = false) (h : k (.int .u8 0)) : ∃ v, binA .and (.int .u8 (b.toNat : Int)) (.int .u8 16) = some v ∧ k v := zAnd16 (by rw [if_neg (by simp [hb])]; exact h)
theorem strip_if : (if bit16 b = true then (b.toNat : Int) - 16 else b.toNat) = stripB b := by unfold stripB; cases bit16 b <;> rfl
theorem zNotB (h : k (.int .u8 (stripB b))) : ∃ v, binA .andNot (.int .u8 (b.toNat : Int)) (.int .u8 16) = some v ∧ k v := zNot16 (by rw [strip_if]; exact h)
end
@[simp] theorem pureLL_cut (b : List UInt8) (i n : Nat) : pureLL (((byteCells b).drop i).take n) = true := by
  rw [show byteCells b = b.map encY from rfl, ← List.map_drop, ← List.map_take]
  exact pureLL_bytes _
theorem slice_eq (b : List UInt8) (i n m : Nat) (h : m = i + n) : ((byteCells b).drop i).take (m - i) = byteCells ((b.drop i).take n) := by
  subst h
  simp [byteCells, Nat.add_sub_cancel_left]
end Go.AM.IR
set_option maxHeartbeats 4000000
set_option maxRecDepth 20000
namespace Go.AM.IR
def putB (k : Int) (v : List UInt8) : List UInt8 := if v.length > 255 then (flagS k ||| 16) :: UInt8.ofNat k.toNat :: (be 2 v.length ++ v) else flagS k :: UInt8.ofNat k.toNat :: UInt8.ofNat v.length :: v
theorem retW_eq {n n' : Nat} {es es' : List (List AV)} {wide bad : Bool} (hn : n = n') (he : es = es') : (⟨.tup [], [(true, .cells [.vs 1 0 n, .bool wide, .bool bad]), (false, .vec 1 es)]⟩ : Ret) = ⟨.tup [], [(true, .cells [.vs 1 0 n', .bool wide, .bool bad]), (false, .vec 1 es')]⟩ := by subst hn he; rfl
theorem put_loop83 (l : List (List UInt8)) (k : Int) (wide bad : Bool) (b : List UInt8) (hk0 : 0 ≤ k) (hk1 : k ≤ 255) (hb : b.length < 2 ^ 38) (hc : (cat l).length < 2 ^ 38) (hl : l.length < 2 ^ 40) (ln : Int) (hln : ln = l.length) : ∀ (rest done : List (List UInt8)) (g m : Nat) (es : List (List AV)) (T : List (Nat × AV)) (H : Heap) (c : Nat) (n : Int) (e : l = done ++ rest) (hn : n = done.length) (hm : m = (cat done).length) (hes : es = byteCells (cat done)), Ev G ⟨f83x6LH, ⟨(9, .sl 1 (l.map bEnc)) :: (10, .int .i64 ln) :: (11, .int .i64 n) :: (0, .ref 0 0 0) :: (6, .vs 69 g m) :: (1, .int .i64 k) :: T, (0, some (0, .cells [.vs 1 0 b.length, .bool wide, .bool bad])) :: (1, some (0, .vec 1 (byteCells b))) :: (69, some (g, .vec 1 es)) :: H, c⟩, [], 2⟩ ⟨.tup [], [(true, .cells [.vs 1 0 (b ++ putB k (cat l)).length, .bool wide, .bool bad]), (false, .vec 1 (byteCells (b ++ putB k (cat l))))]⟩
  | [], done, g, m, es, T, H, c, n, e, hn, hm, hes => by
    have hd : l.length = done.length := by simp [e]
    have hll : (l.map bEnc).length = l.length := by simp
    obtain rfl : l = done := by simpa using e
    have hbl := byteCells_length b
    have hcl := byteCells_length (cat l)
    subst hes hm
    have e1 := u8_int hk0 hk1
    by_cases hlong : (cat l).length > 255
    · rw [show putB k (cat l) = (flagS k ||| 16) :: UInt8.ofNat k.toNat :: (be 2 (cat l).length ++ cat l) from by simp [putB, hlong]]
      have hput := put_gives109 (b ++ [flagS k ||| 16, UInt8.ofNat k.toNat]) (by simp; omega) 2 (cat l).length (by omega)
      have hB : byteCells (b ++ [flagS k ||| 16, UInt8.ofNat k.toNat]) = byteCells b ++ [[.int .u8 (flagS k ||| 16 : UInt8).toNat], [.int .u8 k]] := by simp [byteCells]; omega
      rw [hB] at hput
      refine ev_loop' (W_ok 300 _ _ _ _ ?_)
      repeat' ((conv => whnf); first | refine bslP (by first | rfl | (simp [pureL, pureLL, AV.pure]; done) | fail) rfl ?_ | refine TakeC.full (by first | rfl | omega | (simp; done) | (simp; omega) | fail) ?_ | refine zBs ?_ | refine zBn ?_ | refine zBv rfl rfl ?_ | refine zN ?_ | refine zC ?_ | refine zC4 ?_ | refine zOr16 ?_ | refine zC1 ?_ | refine zByte ?_ | refine zMaxL ?_ | refine zMaxR ?_ | refine zMinL ?_ | refine zMinR ?_ | refine zShr ?_ | refine zC8 ?_ | refine zQ ?_ | refine zR ?_ | refine zS ?_ | refine zA ?_ | refine zM ?_ | refine xr rfl ?_ | refine ai rfl ?_ | refine condT ?_ | refine condF ?_ | refine condG1 ?_ | refine condG0 ?_ | refine cD ?_ | refine dD ?_ | refine cB ?_ | refine dB ?_ | refine cN ?_ | refine dN ?_ | refine cV ?_ | refine dV ?_ | refine cE ?_ | refine dE ?_ | refine condX0 ?_ | refine condX1 ?_ | refine condNot ?_ | refine condAnd ?_ | refine condOr ?_ | refine aO ?_ | refine aB ?_ | refine aR ?_ | refine aR ?_ (by simp; omega) | refine xr (by assumption) ?_ | refine ai (by assumption) ?_ | refine kV (flag_gives94 k hk0) ?_ | refine kX [] [(1, _, _)] trivial ⟨rfl, pz trivial⟩ (hput) ?_ | refine condD (fun h => ?_) (fun h => ?_) | refine condB (fun h => ?_) (fun h => ?_) | refine condN (fun h => ?_) (fun h => ?_) | refine condE (fun h => ?_) (fun h => ?_) | refine condV (fun h => ?_) (fun h => ?_))
      conv => whnf
      refine ev_mvP 108 1 [] [(0, some (0, .cells [.vs 1 _ _, .bool wide, .bool bad]))] rfl (by first | rfl | (simp [Blk.pure, pureLL, pureL, AV.pure]; done) | fail) (by decide) trivial ⟨⟨by decide, by decide, (by simp only [hlook, Nat.beq_refl, cond_true, Blk.ren, renL, AV.ren, φM, and_self, if_true]; rfl)⟩, trivial⟩ ?_
      intro T H
      (conv => whnf); first | refine ev_finX [(0, _, _), (1, _, _)] [] [true, false] (Nat.succ_pos _) ⟨rfl, rfl, trivial⟩ rfl (by repeat' (first | exact trivial | rfl | refine And.intro ?_ ?_ | (simp [pureL, pureLL, AV.pure, Blk.renS, Blk.okS, Blk.okX, AV.okS, AV.okX]; done) | omega | fail)) ⟨(by first | rfl | exact (decide_eq_false (by omega)).symm), (by first | rfl | exact (decide_eq_false (by omega)).symm), trivial⟩ ⟨rfl, (by repeat' (first | exact trivial | rfl | refine And.intro ?_ ?_ | (simp [pureL, pureLL, AV.pure, Blk.renS, Blk.okS, Blk.okX, AV.okS, AV.okX]; done) | omega | fail)), ?_⟩ | refine ev_finX0 [(0, _, _), (1, _, _)] [] [true, false] (Nat.succ_pos _) ⟨rfl, rfl, trivial⟩ rfl (by repeat' (first | exact trivial | rfl | refine And.intro ?_ ?_ | (simp [pureL, pureLL, AV.pure, Blk.renS, Blk.okS, Blk.okX, AV.okS, AV.okX]; done) | omega | fail)) ⟨(by first | rfl | exact (decide_eq_false (by omega)).symm), (by first | rfl | exact (decide_eq_false (by omega)).symm), trivial⟩ ⟨rfl, (by repeat' (first | exact trivial | rfl | refine And.intro ?_ ?_ | (simp [pureL, pureLL, AV.pure, Blk.renS, Blk.okS, Blk.okX, AV.okS, AV.okX]; done) | omega | fail)), ?_⟩
      exact retW_eq (by simp; omega) (by simp [byteCells])
    · rw [show putB k (cat l) = flagS k :: UInt8.ofNat k.toNat :: UInt8.ofNat (cat l).length :: cat l from by simp [putB, hlong]]
      have e2 := u8_nat (k := (cat l).length) (by omega)
      refine ev_loop' (W_ok 300 _ _ _ _ ?_)
      repeat' ((conv => whnf); first | refine bslP (by first | rfl | (simp [pureL, pureLL, AV.pure]; done) | fail) rfl ?_ | refine TakeC.full (by first | rfl | omega | (simp; done) | (simp; omega) | fail) ?_ | refine zBs ?_ | refine zBn ?_ | refine zBv rfl rfl ?_ | refine zN ?_ | refine zC ?_ | refine zC4 ?_ | refine zOr16 ?_ | refine zC1 ?_ | refine zByte ?_ | refine zMaxL ?_ | refine zMaxR ?_ | refine zMinL ?_ | refine zMinR ?_ | refine zShr ?_ | refine zC8 ?_ | refine zQ ?_ | refine zR ?_ | refine zS ?_ | refine zA ?_ | refine zM ?_ | refine xr rfl ?_ | refine ai rfl ?_ | refine condT ?_ | refine condF ?_ | refine condG1 ?_ | refine condG0 ?_ | refine cD ?_ | refine dD ?_ | refine cB ?_ | refine dB ?_ | refine cN ?_ | refine dN ?_ | refine cV ?_ | refine dV ?_ | refine cE ?_ | refine dE ?_ | refine condX0 ?_ | refine condX1 ?_ | refine condNot ?_ | refine condAnd ?_ | refine condOr ?_ | refine aO ?_ | refine aB ?_ | refine aR ?_ | refine aR ?_ (by simp; omega) | refine xr (by assumption) ?_ | refine ai (by assumption) ?_ | refine kV (flag_gives94 k hk0) ?_ | refine condD (fun h => ?_) (fun h => ?_) | refine condB (fun h => ?_) (fun h => ?_) | refine condN (fun h => ?_) (fun h => ?_) | refine condE (fun h => ?_) (fun h => ?_) | refine condV (fun h => ?_) (fun h => ?_))
      (conv => whnf); first | refine ev_finX [(0, _, _), (1, _, _)] [] [true, false] (Nat.succ_pos _) ⟨rfl, rfl, trivial⟩ rfl (by repeat' (first | exact trivial | rfl | refine And.intro ?_ ?_ | (simp [pureL, pureLL, AV.pure, Blk.renS, Blk.okS, Blk.okX, AV.okS, AV.okX]; done) | omega | fail)) ⟨(by first | rfl | exact (decide_eq_false (by omega)).symm), (by first | rfl | exact (decide_eq_false (by omega)).symm), trivial⟩ ⟨rfl, (by repeat' (first | exact trivial | rfl | refine And.intro ?_ ?_ | (simp [pureL, pureLL, AV.pure, Blk.renS, Blk.okS, Blk.okX, AV.okS, AV.okX]; done) | omega | fail)), ?_⟩ | refine ev_finX0 [(0, _, _), (1, _, _)] [] [true, false] (Nat.succ_pos _) ⟨rfl, rfl, trivial⟩ rfl (by repeat' (first | exact trivial | rfl | refine And.intro ?_ ?_ | (simp [pureL, pureLL, AV.pure, Blk.renS, Blk.okS, Blk.okX, AV.okS, AV.okX]; done) | omega | fail)) ⟨(by first | rfl | exact (decide_eq_false (by omega)).symm), (by first | rfl | exact (decide_eq_false (by omega)).symm), trivial⟩ ⟨rfl, (by repeat' (first | exact trivial | rfl | refine And.intro ?_ ?_ | (simp [pureL, pureLL, AV.pure, Blk.renS, Blk.okS, Blk.okX, AV.okS, AV.okX]; done) | omega | fail)), ?_⟩
      exact retW_eq (by simp; omega) (by simp [byteCells]; omega)
  | x :: r, done, g, m, es, T, H, c, n, e, hn, hm, hes => by
    have hd : l.length = done.length + (r.length + 1) := by simp [e]
    have hll : (l.map bEnc).length = l.length := by simp
    have hx : (l.map bEnc)[n.toNat]? = some (bEnc x) := by simp [e, hn]
    have hcl : (cat l).length = (cat done).length + (x.length + (cat r).length) := by rw [e]; simp [cat]
    have hbl := byteCells_length x
    have hel : m = es.length := by rw [hm, hes]; simp
    refine ev_loop' (W_ok 300 _ _ _ _ ?_)
    repeat' ((conv => whnf); first | refine bslP (by first | rfl | (simp [pureL, pureLL, AV.pure]; done) | fail) rfl ?_ | refine TakeC.full (by first | rfl | omega | (simp; done) | (simp; omega) | fail) ?_ | refine zBs ?_ | refine zBn ?_ | refine zBv rfl rfl ?_ | refine zN ?_ | refine zC ?_ | refine zC4 ?_ | refine zOr16 ?_ | refine zC1 ?_ | refine zByte ?_ | refine zMaxL ?_ | refine zMaxR ?_ | refine zMinL ?_ | refine zMinR ?_ | refine zShr ?_ | refine zC8 ?_ | refine zQ ?_ | refine zR ?_ | refine zS ?_ | refine zA ?_ | refine zM ?_ | refine xr rfl ?_ | refine ai rfl ?_ | refine condT ?_ | refine condF ?_ | refine condG1 ?_ | refine condG0 ?_ | refine cD ?_ | refine dD ?_ | refine cB ?_ | refine dB ?_ | refine cN ?_ | refine dN ?_ | refine cV ?_ | refine dV ?_ | refine cE ?_ | refine dE ?_ | refine condX0 ?_ | refine condX1 ?_ | refine condNot ?_ | refine condAnd ?_ | refine condOr ?_ | refine aO ?_ | refine aB ?_ | refine aR ?_ | refine aR ?_ (by simp; omega) | refine xr (by assumption) ?_ | refine ai (by assumption) ?_ | refine condD (fun h => ?_) (fun h => ?_) | refine condB (fun h => ?_) (fun h => ?_) | refine condN (fun h => ?_) (fun h => ?_) | refine condE (fun h => ?_) (fun h => ?_) | refine condV (fun h => ?_) (fun h => ?_))
    refine ev_keep [9, 10, 11, 0, 6, 1] [0, 1, 69] ?_; exact put_loop83 l k wide bad b hk0 hk1 hb hc hl ln hln r (done ++ [x]) _ _ _ _ _ _ (n + 1) (by simp [e]) (by simp [hn] <;> omega) (by simp [hm, cat]) (by rw [hes]; simp [cat])
theorem put_gives83 (l : List (List UInt8)) (k : Int) (wide bad : Bool) (b : List UInt8) (hl : l.length < 2 ^ 40) (hk0 : 0 ≤ k) (hk1 : k ≤ 255) (hb : b.length < 2 ^ 38) (hc : (cat l).length < 2 ^ 38) : Gives G 83 [.ref 0 0 0, .int .i64 k, .sl 1 (l.map bEnc)] [.cells [.vs 1 0 b.length, .bool wide, .bool bad], .vec 1 (byteCells b)]
    ⟨.tup [], [(true, .cells [.vs 1 0 (b ++ putB k (cat l)).length, .bool wide, .bool bad]), (false, .vec 1 (byteCells (b ++ putB k (cat l))))]⟩ := by
  refine gives_code (F := f83) rfl rfl (W_ok 300 _ _ _ _ ?_)
  repeat' ((conv => whnf); first | refine bslP (by first | rfl | (simp [pureL, pureLL, AV.pure]; done) | fail) rfl ?_ | refine TakeC.full (by first | rfl | omega | (simp; done) | (simp; omega) | fail) ?_ | refine zBs ?_ | refine zBn ?_ | refine zBv rfl rfl ?_ | refine zN ?_ | refine zC ?_ | refine zC4 ?_ | refine zOr16 ?_ | refine zC1 ?_ | refine zByte ?_ | refine zMaxL ?_ | refine zMaxR ?_ | refine zMinL ?_ | refine zMinR ?_ | refine zShr ?_ | refine zC8 ?_ | refine zQ ?_ | refine zR ?_ | refine zS ?_ | refine zA ?_ | refine zM ?_ | refine xr rfl ?_ | refine ai rfl ?_ | refine condT ?_ | refine condF ?_ | refine condG1 ?_ | refine condG0 ?_ | refine cD ?_ | refine dD ?_ | refine cB ?_ | refine dB ?_ | refine cN ?_ | refine dN ?_ | refine cV ?_ | refine dV ?_ | refine cE ?_ | refine dE ?_ | refine condX0 ?_ | refine condX1 ?_ | refine condNot ?_ | refine condAnd ?_ | refine condOr ?_ | refine aO ?_ | refine aB ?_ | refine aR ?_ | refine aR ?_ (by simp; omega) | refine xr (by assumption) ?_ | refine ai (by assumption) ?_ | refine condD (fun h => ?_) (fun h => ?_) | refine condB (fun h => ?_) (fun h => ?_) | refine condN (fun h => ?_) (fun h => ?_) | refine condE (fun h => ?_) (fun h => ?_) | refine condV (fun h => ?_) (fun h => ?_))
  refine ev_nil 69 1 [(6, .vs 69 _ 0)] [] ⟨LeP.nilV _ _ _, trivial⟩ trivial ?_
  refine ev_keep [9, 10, 11, 0, 6, 1] [0, 1, 69] ?_
  exact put_loop83 l k wide bad b hk0 hk1 hb hc hl _ (by simp) l [] _ 0 _ _ _ _ 0 rfl rfl rfl rfl
end Go.AM.IR
set_option maxHeartbeats 4000000
set_option maxRecDepth 20000
namespace Go.AM.IR
def suf : Nat → ACode → ACode
  | 0, c => c
  | n + 1, .seq _ b => suf n b
  | _, c => c
structure EncV (a : Attrs) : Prop where
  origin : 0 ≤ a.origin ∧ a.origin ≤ 255
  segs : ∀ s ∈ a.path, (0 ≤ s.kind ∧ s.kind ≤ 255) ∧ s.as.length ≤ 255 ∧ ∀ x ∈ s.as, 0 ≤ x ∧ x < 2 ^ 63
  path : a.path.length < 2 ^ 20
  nextHop : 0 ≤ a.nextHop ∧ a.nextHop ≤ 4294967295
  med : 0 ≤ a.med ∧ a.med ≤ 4294967295
  pref : 0 ≤ a.pref ∧ a.pref ≤ 4294967295
  aggrAS : 0 ≤ a.aggrAS ∧ a.aggrAS ≤ 4294967295
  aggrAddr : 0 ≤ a.aggrAddr ∧ a.aggrAddr ≤ 4294967295
  comms : ∀ x ∈ a.comms, 0 ≤ x ∧ x ≤ 4294967295
  commsL : a.comms.length ≤ 255
  orig : 0 ≤ a.orig ∧ a.orig ≤ 4294967295
  clusters : ∀ x ∈ a.clusters, 0 ≤ x ∧ x ≤ 4294967295
  clustersL : a.clusters.length ≤ 64
  unknown : ∀ t ∈ a.unknown, (0 ≤ t.kind ∧ t.kind ≤ 255) ∧ t.value.length ≤ 255
  unknownL : a.unknown.length ≤ 64
def wordsB (l : List Int) : List UInt8 := l.flatMap fun x => be 4 x.toNat
def c13 (a : Attrs) : List UInt8 := a.unknown.flatMap fun t => putB t.kind t.value
def c12 (a : Attrs) : List UInt8 := if a.clusters.length > 0 then putB 10 (wordsB a.clusters) else []
def c11 (a : Attrs) : List UInt8 := if a.hasOrig = true then putB 9 (be 4 a.orig.toNat) else []
def c10 (a : Attrs) : List UInt8 := if a.comms.length > 0 then putB 8 (wordsB a.comms) else []
def c9 (a : Attrs) (w : Nat) : List UInt8 := if a.hasAggr = true then putB 7 (be w a.aggrAS.toNat ++ be 4 a.aggrAddr.toNat) else []
def c8 (a : Attrs) : List UInt8 := if a.atomic = true then putB 6 [] else []
def c7 (a : Attrs) : List UInt8 := if a.hasPref = true then putB 5 (be 4 a.pref.toNat) else []
def c6 (a : Attrs) : List UInt8 := if a.hasMED = true then putB 4 (be 4 a.med.toNat) else []
def c5 (a : Attrs) : List UInt8 := putB 3 (be 4 a.nextHop.toNat)
def c4 (a : Attrs) (w : Nat) : List UInt8 := putB 2 (pathB w a.path)
def c3 (a : Attrs) : List UInt8 := putB 1 [UInt8.ofNat a.origin.toNat]
theorem pathL_aux (w : Nat) (hw : w ≤ 4) : ∀ (p : List Seg), (∀ s ∈ p, s.as.length ≤ 255) → (pathB w p).length ≤ 1022 * p.length
  | [], _ => by simp [pathB]
  | s :: r, h => by
    have h1 := pathL_aux w hw r fun x hx => h x (by simp [hx])
    have h2 := h s (by simp)
    have h3 : w * s.as.length ≤ 4 * s.as.length := Nat.mul_le_mul_right _ hw
    simp only [pathB, List.flatMap_cons, List.length_append, segB, List.length_cons, asB_length] at h1 ⊢
    omega
theorem pathL (wide : Bool) (a : Attrs) (hv : EncV a) : (pathB (wd wide) a.path).length < 2 ^ 38 := by
  have := pathL_aux (wd wide) (wd_le wide) a.path fun s hs => (hv.segs s hs).2.1
  have := hv.path
  omega
def bdA (a : Attrs) (wide bad : Bool) : Bool := if a.hasAggr = true then badN wide bad a.aggrAS else bad
def encRet (bad : Bool) (b : List UInt8) : Ret := if bad = true then ⟨.tup [.con (.slice none 0 0), .int .i64 5], []⟩ else ⟨.tup [.vs 0 0 b.length, .int .i64 0], [(false, .vec 1 (byteCells b))]⟩
def r13 (a : Attrs) (w : Nat) : List UInt8 := c13 a
def r12 (a : Attrs) (w : Nat) : List UInt8 := c12 a ++ r13 a w
def r11 (a : Attrs) (w : Nat) : List UInt8 := c11 a ++ r12 a w
def r10 (a : Attrs) (w : Nat) : List UInt8 := c10 a ++ r11 a w
def r9 (a : Attrs) (w : Nat) : List UInt8 := c9 a w ++ r10 a w
def r8 (a : Attrs) (w : Nat) : List UInt8 := c8 a ++ r9 a w
def r7 (a : Attrs) (w : Nat) : List UInt8 := c7 a ++ r8 a w
def r6 (a : Attrs) (w : Nat) : List UInt8 := c6 a ++ r7 a w
def r5 (a : Attrs) (w : Nat) : List UInt8 := c5 a ++ r6 a w
def r4 (a : Attrs) (w : Nat) : List UInt8 := c4 a w ++ r5 a w
def r3 (a : Attrs) (w : Nat) : List UInt8 := c3 a ++ r4 a w
theorem unk_loop67 (l : List TLV) (a : Attrs) (wide bad : Bool) (gw : Nat) (hv : EncV a) (ha : a.unknown = l) (b0 : List UInt8) (hb : (b0 ++ c13 a).length < 2 ^ 37) (hl : l.length < 2 ^ 40) (ln : Int) (hln : ln = l.length) : ∀ (rest done : List TLV) (g n1 : Nat) (es : List (List AV)) (T : List (Nat × AV)) (H : Heap) (c : Nat) (n : Int) (e : l = done ++ rest) (hn : n = done.length) (hn1 : n1 = (b0 ++ done.flatMap fun t => putB t.kind t.value).length) (hes : es = byteCells (b0 ++ done.flatMap fun t => putB t.kind t.value)), Ev G ⟨f67x27LH, ⟨(102, .sl 2 (l.map TLV.enc)) :: (103, .int .i64 ln) :: (104, .int .i64 n) :: (7, .ref 81 gw 0) :: T, (81, some (gw, .cells [.vs 200 g n1, .bool wide, .bool bad])) :: (200, some (g, .vec 1 es)) :: H, c⟩, [.t 4, .t 5], 0⟩ (encRet bad (b0 ++ c13 a))
  | [], done, g, n1, es, T, H, c, n, e, hn, hn1, hes => by
    have hd : l.length = done.length := by simp [e]
    have hll : (l.map TLV.enc).length = l.length := by simp
    obtain rfl : l = done := by simpa using e
    subst hn1 hes
    cases bad
    · refine ev_loop' (W_ok 300 _ _ _ _ ?_)
      repeat' ((conv => whnf); first | refine bslP (by first | rfl | (simp [pureL, pureLL, AV.pure]; done) | fail) rfl ?_ | refine TakeC.full (by first | rfl | omega | (simp; done) | (simp; omega) | fail) ?_ | refine zBs ?_ | refine zBn ?_ | refine zBv rfl rfl ?_ | refine zN ?_ | refine zC ?_ | refine zC4 ?_ | refine zOr16 ?_ | refine zC1 ?_ | refine zByte ?_ | refine zMaxL ?_ | refine zMaxR ?_ | refine zMinL ?_ | refine zMinR ?_ | refine zShr ?_ | refine zC8 ?_ | refine zQ ?_ | refine zR ?_ | refine zS ?_ | refine zA ?_ | refine zM ?_ | refine xr rfl ?_ | refine ai rfl ?_ | refine condT ?_ | refine condF ?_ | refine condG1 ?_ | refine condG0 ?_ | refine cD ?_ | refine dD ?_ | refine cB ?_ | refine dB ?_ | refine cN ?_ | refine dN ?_ | refine cV ?_ | refine dV ?_ | refine cE ?_ | refine dE ?_ | refine condX0 ?_ | refine condX1 ?_ | refine condNot ?_ | refine condAnd ?_ | refine condOr ?_ | refine aO ?_ | refine aB ?_ | refine aR ?_ | refine aR ?_ (by simp; omega) | refine xr (by assumption) ?_ | refine ai (by assumption) ?_ | refine condD (fun h => ?_) (fun h => ?_) | refine condB (fun h => ?_) (fun h => ?_) | refine condN (fun h => ?_) (fun h => ?_) | refine condE (fun h => ?_) (fun h => ?_) | refine condV (fun h => ?_) (fun h => ?_))
      refine ev_finN [(200, g, .vec 1 (byteCells _))] ⟨⟨rfl, (by simp [Blk.pure]), trivial⟩, rfl, rfl, (by simp), ?_⟩
      simp [AV.ren, renL, φR, encRet, c13, ha]
    · refine ev_loop' (W_ok 300 _ _ _ _ ?_)
      repeat' ((conv => whnf); first | refine bslP (by first | rfl | (simp [pureL, pureLL, AV.pure]; done) | fail) rfl ?_ | refine TakeC.full (by first | rfl | omega | (simp; done) | (simp; omega) | fail) ?_ | refine zBs ?_ | refine zBn ?_ | refine zBv rfl rfl ?_ | refine zN ?_ | refine zC ?_ | refine zC4 ?_ | refine zOr16 ?_ | refine zC1 ?_ | refine zByte ?_ | refine zMaxL ?_ | refine zMaxR ?_ | refine zMinL ?_ | refine zMinR ?_ | refine zShr ?_ | refine zC8 ?_ | refine zQ ?_ | refine zR ?_ | refine zS ?_ | refine zA ?_ | refine zM ?_ | refine xr rfl ?_ | refine ai rfl ?_ | refine condT ?_ | refine condF ?_ | refine condG1 ?_ | refine condG0 ?_ | refine cD ?_ | refine dD ?_ | refine cB ?_ | refine dB ?_ | refine cN ?_ | refine dN ?_ | refine cV ?_ | refine dV ?_ | refine cE ?_ | refine dE ?_ | refine condX0 ?_ | refine condX1 ?_ | refine condNot ?_ | refine condAnd ?_ | refine condOr ?_ | refine aO ?_ | refine aB ?_ | refine aR ?_ | refine aR ?_ (by simp; omega) | refine xr (by assumption) ?_ | refine ai (by assumption) ?_ | refine condD (fun h => ?_) (fun h => ?_) | refine condB (fun h => ?_) (fun h => ?_) | refine condN (fun h => ?_) (fun h => ?_) | refine condE (fun h => ?_) (fun h => ?_) | refine condV (fun h => ?_) (fun h => ?_))
      (first | refine ev_fin (And.intro (by first | rfl | (simp [AV.pure, pureL]; done) | fail) ?_) | refine ev_fin0 (And.intro (by first | rfl | (simp [AV.pure, pureL]; done) | fail) ?_))
      rfl
  | x :: r, done, g, n1, es, T, H, c, n, e, hn, hn1, hes => by
    have hd : l.length = done.length + (r.length + 1) := by simp [e]
    have hll : (l.map TLV.enc).length = l.length := by simp
    have hx : (l.map TLV.enc)[n.toNat]? = some (TLV.enc x) := by simp [e, hn]
    obtain ⟨⟨hk0, hk1⟩, hxl⟩ := hv.unknown x (by rw [ha, e]; simp)
    subst hn1 hes
    have hb2 : (b0 ++ done.flatMap fun t => putB t.kind t.value).length ≤ (b0 ++ c13 a).length := by simp [c13, ha, e]
    have hput := put_gives83 [x.value] x.kind wide bad (b0 ++ done.flatMap fun t => putB t.kind t.value) (by simp) hk0 hk1 (by omega) (by simp [cat]; omega)
    rw [show cat [x.value] = x.value from by simp [cat]] at hput
    refine ev_loop' (W_ok 300 _ _ _ _ ?_)
    repeat' ((conv => whnf); first | refine bslP (by first | rfl | (simp [pureL, pureLL, AV.pure]; done) | fail) rfl ?_ | refine TakeC.full (by first | rfl | omega | (simp; done) | (simp; omega) | fail) ?_ | refine zBs ?_ | refine zBn ?_ | refine zBv rfl rfl ?_ | refine zN ?_ | refine zC ?_ | refine zC4 ?_ | refine zOr16 ?_ | refine zC1 ?_ | refine zByte ?_ | refine zMaxL ?_ | refine zMaxR ?_ | refine zMinL ?_ | refine zMinR ?_ | refine zShr ?_ | refine zC8 ?_ | refine zQ ?_ | refine zR ?_ | refine zS ?_ | refine zA ?_ | refine zM ?_ | refine xr rfl ?_ | refine ai rfl ?_ | refine condT ?_ | refine condF ?_ | refine condG1 ?_ | refine condG0 ?_ | refine cD ?_ | refine dD ?_ | refine cB ?_ | refine dB ?_ | refine cN ?_ | refine dN ?_ | refine cV ?_ | refine dV ?_ | refine cE ?_ | refine dE ?_ | refine condX0 ?_ | refine condX1 ?_ | refine condNot ?_ | refine condAnd ?_ | refine condOr ?_ | refine aO ?_ | refine aB ?_ | refine aR ?_ | refine aR ?_ (by simp; omega) | refine xr (by assumption) ?_ | refine ai (by assumption) ?_ | refine kX [(81, _, _), (200, _, _)] [(177, _, _)] ⟨rfl, rfl, trivial⟩ ⟨rfl, pz trivial⟩ (hput) ?_ | refine condD (fun h => ?_) (fun h => ?_) | refine condB (fun h => ?_) (fun h => ?_) | refine condN (fun h => ?_) (fun h => ?_) | refine condE (fun h => ?_) (fun h => ?_) | refine condV (fun h => ?_) (fun h => ?_))
    refine ev_keep [102, 103, 104, 7] [81, 200] ?_; exact unk_loop67 l a wide bad gw hv ha b0 hb hl ln hln r (done ++ [x]) _ _ _ _ _ _ (n + 1) (by simp [e]) (by simp [hn] <;> omega) (by simp) (by simp)
theorem enc67_13 (a : Attrs) (hv : EncV a) (wide bad : Bool) (b : List UInt8) (T : List (Nat × AV)) (H : Heap) (c gw g : Nat) (hb : (b ++ r13 a (wd wide)).length < 2 ^ 37) : Ev G ⟨[.code (suf 13 f67.body)], ⟨(7, .ref 81 gw 0) :: (2, .ref 66 1 0) :: (1, .bool wide) :: T, (66, some (1, .cells a.enc)) :: (81, some (gw, .cells [.vs 200 g b.length, .bool wide, .bool bad])) :: (200, some (g, .vec 1 (byteCells b))) :: H, c⟩, [.t 4, .t 5], 0⟩ (encRet bad (b ++ r13 a (wd wide))) := by
  refine ev_seq (b := suf 14 f67.body) ?_
  refine W_ok 300 _ _ _ _ ?_
  repeat' ((conv => whnf); first | refine bslP (by first | rfl | (simp [pureL, pureLL, AV.pure]; done) | fail) rfl ?_ | refine TakeC.full (by first | rfl | omega | (simp; done) | (simp; omega) | fail) ?_ | refine zBs ?_ | refine zBn ?_ | refine zBv rfl rfl ?_ | refine zN ?_ | refine zC ?_ | refine zC4 ?_ | refine zOr16 ?_ | refine zC1 ?_ | refine zByte ?_ | refine zMaxL ?_ | refine zMaxR ?_ | refine zMinL ?_ | refine zMinR ?_ | refine zShr ?_ | refine zC8 ?_ | refine zQ ?_ | refine zR ?_ | refine zS ?_ | refine zA ?_ | refine zM ?_ | refine xr rfl ?_ | refine ai rfl ?_ | refine condT ?_ | refine condF ?_ | refine condG1 ?_ | refine condG0 ?_ | refine cD ?_ | refine dD ?_ | refine cB ?_ | refine dB ?_ | refine cN ?_ | refine dN ?_ | refine cV ?_ | refine dV ?_ | refine cE ?_ | refine dE ?_ | refine condX0 ?_ | refine condX1 ?_ | refine condNot ?_ | refine condAnd ?_ | refine condOr ?_ | refine aO ?_ | refine aB ?_ | refine aR ?_ | refine aR ?_ (by simp; omega) | refine xr (by assumption) ?_ | refine ai (by assumption) ?_ | refine condD (fun h => ?_) (fun h => ?_) | refine condB (fun h => ?_) (fun h => ?_) | refine condN (fun h => ?_) (fun h => ?_) | refine condE (fun h => ?_) (fun h => ?_) | refine condV (fun h => ?_) (fun h => ?_))
  refine ev_keep [102, 103, 104, 7] [81, 200] ?_
  have hu := hv.unknownL
  exact unk_loop67 a.unknown a wide bad gw hv rfl b hb (by omega) _ (by simp) a.unknown [] g b.length (byteCells b) _ _ _ 0 rfl rfl (by simp) (by simp)
theorem enc67_12 (a : Attrs) (hv : EncV a) (wide bad : Bool) (b : List UInt8) (T : List (Nat × AV)) (H : Heap) (c gw g : Nat) (hb : (b ++ r12 a (wd wide)).length < 2 ^ 37) : Ev G ⟨[.code (suf 12 f67.body)], ⟨(7, .ref 81 gw 0) :: (2, .ref 66 1 0) :: (1, .bool wide) :: T, (66, some (1, .cells a.enc)) :: (81, some (gw, .cells [.vs 200 g b.length, .bool wide, .bool bad])) :: (200, some (g, .vec 1 (byteCells b))) :: H, c⟩, [.t 4, .t 5], 0⟩ (encRet (bad) (b ++ r12 a (wd wide))) := by
  have hf := hv.clusters
  have hcl := hv.clustersL
  have hcm := hv.commsL
  have hll1 : (a.clusters.map encU).length = a.clusters.length := by simp
  have hll2 : (a.comms.map encU).length = a.comms.length := by simp
  have hbl : b.length < 2 ^ 37 := by simp at hb; omega
  by_cases hc : a.clusters.length > 0
  · have hq : b ++ r12 a (wd wide) = (b ++ putB 10 (wordsB a.clusters)) ++ r13 a (wd wide) := by simp [r12, c12, hc]
    have hcat : cat [wordsB a.clusters] = wordsB a.clusters := by simp [cat]
    have hvl : (wordsB a.clusters).length < 2 ^ 38 := by first | (rw [be_length]; omega) | (rw [wordsB, fm_length]; omega)
    have hput := put_gives83 [wordsB a.clusters] 10 wide bad b (by simp) (by omega) (by omega) (by omega) (by rw [hcat]; exact hvl)
    rw [hcat] at hput
    rw [hq] at hb ⊢
    refine ev_seq (b := suf 13 f67.body) ?_
    refine W_okd 1 300 _ _ _ _ ?_
    repeat' ((conv => whnf); first | refine bslP (by first | rfl | (simp [pureL, pureLL, AV.pure]; done) | fail) rfl ?_ | refine TakeC.full (by first | rfl | omega | (simp; done) | (simp; omega) | fail) ?_ | refine zBs ?_ | refine zBn ?_ | refine zBv rfl rfl ?_ | refine zN ?_ | refine zC ?_ | refine zC4 ?_ | refine zOr16 ?_ | refine zC1 ?_ | refine zByte ?_ | refine zMaxL ?_ | refine zMaxR ?_ | refine zMinL ?_ | refine zMinR ?_ | refine zShr ?_ | refine zC8 ?_ | refine zQ ?_ | refine zR ?_ | refine zS ?_ | refine zA ?_ | refine zM ?_ | refine xr rfl ?_ | refine ai rfl ?_ | refine condT ?_ | refine condF ?_ | refine condG1 ?_ | refine condG0 ?_ | refine cD ?_ | refine dD ?_ | refine cB ?_ | refine dB ?_ | refine cN ?_ | refine dN ?_ | refine cV ?_ | refine dV ?_ | refine cE ?_ | refine dE ?_ | refine condX0 ?_ | refine condX1 ?_ | refine condNot ?_ | refine condAnd ?_ | refine condOr ?_ | refine aO ?_ | refine aB ?_ | refine aR ?_ | refine aR ?_ (by simp; omega) | refine xr (by assumption) ?_ | refine ai (by assumption) ?_ | refine kN (words_gives87 a.clusters (by omega) hv.clusters) ?_ | refine kB [(162, _, _)] ⟨rfl, pz trivial⟩ ?_ | refine kX [(81, _, _), (200, _, _)] [(163, _, _)] ⟨rfl, rfl, trivial⟩ ⟨rfl, pz trivial⟩ (hput) ?_ | refine condD (fun h => ?_) (fun h => ?_) | refine condB (fun h => ?_) (fun h => ?_) | refine condN (fun h => ?_) (fun h => ?_) | refine condE (fun h => ?_) (fun h => ?_) | refine condV (fun h => ?_) (fun h => ?_))
    refine ev_keep [7, 2, 1] [66, 81, 200] ?_
    exact enc67_13 a hv wide bad _ _ _ _ _ _ hb
  · have hq : b ++ r12 a (wd wide) = b ++ r13 a (wd wide) := by simp [r12, c12, hc]
    rw [hq] at hb ⊢
    refine ev_seq (b := suf 13 f67.body) ?_
    try simp only [Bool.not_eq_true] at hc
    refine W_okd 1 300 _ _ _ _ ?_
    repeat' ((conv => whnf); first | refine bslP (by first | rfl | (simp [pureL, pureLL, AV.pure]; done) | fail) rfl ?_ | refine TakeC.full (by first | rfl | omega | (simp; done) | (simp; omega) | fail) ?_ | refine zBs ?_ | refine zBn ?_ | refine zBv rfl rfl ?_ | refine zN ?_ | refine zC ?_ | refine zC4 ?_ | refine zOr16 ?_ | refine zC1 ?_ | refine zByte ?_ | refine zMaxL ?_ | refine zMaxR ?_ | refine zMinL ?_ | refine zMinR ?_ | refine zShr ?_ | refine zC8 ?_ | refine zQ ?_ | refine zR ?_ | refine zS ?_ | refine zA ?_ | refine zM ?_ | refine xr rfl ?_ | refine ai rfl ?_ | refine condT ?_ | refine condF ?_ | refine condG1 ?_ | refine condG0 ?_ | refine cD ?_ | refine dD ?_ | refine cB ?_ | refine dB ?_ | refine cN ?_ | refine dN ?_ | refine cV ?_ | refine dV ?_ | refine cE ?_ | refine dE ?_ | refine condX0 ?_ | refine condX1 ?_ | refine condNot ?_ | refine condAnd ?_ | refine condOr ?_ | refine aO ?_ | refine aB ?_ | refine aR ?_ | refine aR ?_ (by simp; omega) | refine xr (by assumption) ?_ | refine ai (by assumption) ?_ | refine condD (fun h => ?_) (fun h => ?_) | refine condB (fun h => ?_) (fun h => ?_) | refine condN (fun h => ?_) (fun h => ?_) | refine condE (fun h => ?_) (fun h => ?_) | refine condV (fun h => ?_) (fun h => ?_))
    refine ev_keep [7, 2, 1] [66, 81, 200] ?_
    exact enc67_13 a hv wide bad _ _ _ _ _ _ hb
theorem enc67_11 (a : Attrs) (hv : EncV a) (wide bad : Bool) (b : List UInt8) (T : List (Nat × AV)) (H : Heap) (c gw g : Nat) (hb : (b ++ r11 a (wd wide)).length < 2 ^ 37) : Ev G ⟨[.code (suf 11 f67.body)], ⟨(7, .ref 81 gw 0) :: (2, .ref 66 1 0) :: (1, .bool wide) :: T, (66, some (1, .cells a.enc)) :: (81, some (gw, .cells [.vs 200 g b.length, .bool wide, .bool bad])) :: (200, some (g, .vec 1 (byteCells b))) :: H, c⟩, [.t 4, .t 5], 0⟩ (encRet (bad) (b ++ r11 a (wd wide))) := by
  have hf := hv.orig
  have hcl := hv.clustersL
  have hcm := hv.commsL
  have hll1 : (a.clusters.map encU).length = a.clusters.length := by simp
  have hll2 : (a.comms.map encU).length = a.comms.length := by simp
  have hbl : b.length < 2 ^ 37 := by simp at hb; omega
  by_cases hc : a.hasOrig = true
  · have hq : b ++ r11 a (wd wide) = (b ++ putB 9 (be 4 a.orig.toNat)) ++ r12 a (wd wide) := by simp [r11, c11, hc]
    have hcat : cat [be 4 a.orig.toNat] = be 4 a.orig.toNat := by simp [cat]
    have hvl : (be 4 a.orig.toNat).length < 2 ^ 38 := by first | (rw [be_length]; omega) | (rw [wordsB, fm_length]; omega)
    have hput := put_gives83 [be 4 a.orig.toNat] 9 wide bad b (by simp) (by omega) (by omega) (by omega) (by rw [hcat]; exact hvl)
    rw [hcat] at hput
    rw [hq] at hb ⊢
    refine ev_seq (b := suf 12 f67.body) ?_
    refine W_okd 1 300 _ _ _ _ ?_
    repeat' ((conv => whnf); first | refine bslP (by first | rfl | (simp [pureL, pureLL, AV.pure]; done) | fail) rfl ?_ | refine TakeC.full (by first | rfl | omega | (simp; done) | (simp; omega) | fail) ?_ | refine zBs ?_ | refine zBn ?_ | refine zBv rfl rfl ?_ | refine zN ?_ | refine zC ?_ | refine zC4 ?_ | refine zOr16 ?_ | refine zC1 ?_ | refine zByte ?_ | refine zMaxL ?_ | refine zMaxR ?_ | refine zMinL ?_ | refine zMinR ?_ | refine zShr ?_ | refine zC8 ?_ | refine zQ ?_ | refine zR ?_ | refine zS ?_ | refine zA ?_ | refine zM ?_ | refine xr rfl ?_ | refine ai rfl ?_ | refine condT ?_ | refine condF ?_ | refine condG1 ?_ | refine condG0 ?_ | refine cD ?_ | refine dD ?_ | refine cB ?_ | refine dB ?_ | refine cN ?_ | refine dN ?_ | refine cV ?_ | refine dV ?_ | refine cE ?_ | refine dE ?_ | refine condX0 ?_ | refine condX1 ?_ | refine condNot ?_ | refine condAnd ?_ | refine condOr ?_ | refine aO ?_ | refine aB ?_ | refine aR ?_ | refine aR ?_ (by simp; omega) | refine xr (by assumption) ?_ | refine ai (by assumption) ?_ | refine kN (number85 a.orig (by omega) (by omega)) ?_ | refine kB [(152, _, _)] ⟨rfl, pz trivial⟩ ?_ | refine kX [(81, _, _), (200, _, _)] [(153, _, _)] ⟨rfl, rfl, trivial⟩ ⟨rfl, pz trivial⟩ (hput) ?_ | refine condD (fun h => ?_) (fun h => ?_) | refine condB (fun h => ?_) (fun h => ?_) | refine condN (fun h => ?_) (fun h => ?_) | refine condE (fun h => ?_) (fun h => ?_) | refine condV (fun h => ?_) (fun h => ?_))
    refine ev_keep [7, 2, 1] [66, 81, 200] ?_
    exact enc67_12 a hv wide bad _ _ _ _ _ _ hb
  · have hq : b ++ r11 a (wd wide) = b ++ r12 a (wd wide) := by simp [r11, c11, hc]
    rw [hq] at hb ⊢
    refine ev_seq (b := suf 12 f67.body) ?_
    try simp only [Bool.not_eq_true] at hc
    refine W_okd 1 300 _ _ _ _ ?_
    repeat' ((conv => whnf); first | refine bslP (by first | rfl | (simp [pureL, pureLL, AV.pure]; done) | fail) rfl ?_ | refine TakeC.full (by first | rfl | omega | (simp; done) | (simp; omega) | fail) ?_ | refine zBs ?_ | refine zBn ?_ | refine zBv rfl rfl ?_ | refine zN ?_ | refine zC ?_ | refine zC4 ?_ | refine zOr16 ?_ | refine zC1 ?_ | refine zByte ?_ | refine zMaxL ?_ | refine zMaxR ?_ | refine zMinL ?_ | refine zMinR ?_ | refine zShr ?_ | refine zC8 ?_ | refine zQ ?_ | refine zR ?_ | refine zS ?_ | refine zA ?_ | refine zM ?_ | refine xr rfl ?_ | refine ai rfl ?_ | refine condT ?_ | refine condF ?_ | refine condG1 ?_ | refine condG0 ?_ | refine cD ?_ | refine dD ?_ | refine cB ?_ | refine dB ?_ | refine cN ?_ | refine dN ?_ | refine cV ?_ | refine dV ?_ | refine cE ?_ | refine dE ?_ | refine condX0 ?_ | refine condX1 ?_ | refine condNot ?_ | refine condAnd ?_ | refine condOr ?_ | refine aO ?_ | refine aB ?_ | refine aR ?_ | refine aR ?_ (by simp; omega) | refine xr (by assumption) ?_ | refine ai (by assumption) ?_ | refine condD (fun h => ?_) (fun h => ?_) | refine condB (fun h => ?_) (fun h => ?_) | refine condN (fun h => ?_) (fun h => ?_) | refine condE (fun h => ?_) (fun h => ?_) | refine condV (fun h => ?_) (fun h => ?_))
    refine ev_keep [7, 2, 1] [66, 81, 200] ?_
    exact enc67_12 a hv wide bad _ _ _ _ _ _ hb
theorem enc67_10 (a : Attrs) (hv : EncV a) (wide bad : Bool) (b : List UInt8) (T : List (Nat × AV)) (H : Heap) (c gw g : Nat) (hb : (b ++ r10 a (wd wide)).length < 2 ^ 37) : Ev G ⟨[.code (suf 10 f67.body)], ⟨(7, .ref 81 gw 0) :: (2, .ref 66 1 0) :: (1, .bool wide) :: T, (66, some (1, .cells a.enc)) :: (81, some (gw, .cells [.vs 200 g b.length, .bool wide, .bool bad])) :: (200, some (g, .vec 1 (byteCells b))) :: H, c⟩, [.t 4, .t 5], 0⟩ (encRet (bad) (b ++ r10 a (wd wide))) := by
  have hf := hv.comms
  have hcl := hv.clustersL
  have hcm := hv.commsL
  have hll1 : (a.clusters.map encU).length = a.clusters.length := by simp
  have hll2 : (a.comms.map encU).length = a.comms.length := by simp
  have hbl : b.length < 2 ^ 37 := by simp at hb; omega
  by_cases hc : a.comms.length > 0
  · have hq : b ++ r10 a (wd wide) = (b ++ putB 8 (wordsB a.comms)) ++ r11 a (wd wide) := by simp [r10, c10, hc]
    have hcat : cat [wordsB a.comms] = wordsB a.comms := by simp [cat]
    have hvl : (wordsB a.comms).length < 2 ^ 38 := by first | (rw [be_length]; omega) | (rw [wordsB, fm_length]; omega)
    have hput := put_gives83 [wordsB a.comms] 8 wide bad b (by simp) (by omega) (by omega) (by omega) (by rw [hcat]; exact hvl)
    rw [hcat] at hput
    rw [hq] at hb ⊢
    refine ev_seq (b := suf 11 f67.body) ?_
    refine W_okd 1 300 _ _ _ _ ?_
    repeat' ((conv => whnf); first | refine bslP (by first | rfl | (simp [pureL, pureLL, AV.pure]; done) | fail) rfl ?_ | refine TakeC.full (by first | rfl | omega | (simp; done) | (simp; omega) | fail) ?_ | refine zBs ?_ | refine zBn ?_ | refine zBv rfl rfl ?_ | refine zN ?_ | refine zC ?_ | refine zC4 ?_ | refine zOr16 ?_ | refine zC1 ?_ | refine zByte ?_ | refine zMaxL ?_ | refine zMaxR ?_ | refine zMinL ?_ | refine zMinR ?_ | refine zShr ?_ | refine zC8 ?_ | refine zQ ?_ | refine zR ?_ | refine zS ?_ | refine zA ?_ | refine zM ?_ | refine xr rfl ?_ | refine ai rfl ?_ | refine condT ?_ | refine condF ?_ | refine condG1 ?_ | refine condG0 ?_ | refine cD ?_ | refine dD ?_ | refine cB ?_ | refine dB ?_ | refine cN ?_ | refine dN ?_ | refine cV ?_ | refine dV ?_ | refine cE ?_ | refine dE ?_ | refine condX0 ?_ | refine condX1 ?_ | refine condNot ?_ | refine condAnd ?_ | refine condOr ?_ | refine aO ?_ | refine aB ?_ | refine aR ?_ | refine aR ?_ (by simp; omega) | refine xr (by assumption) ?_ | refine ai (by assumption) ?_ | refine kN (words_gives87 a.comms (by omega) hv.comms) ?_ | refine kB [(143, _, _)] ⟨rfl, pz trivial⟩ ?_ | refine kX [(81, _, _), (200, _, _)] [(144, _, _)] ⟨rfl, rfl, trivial⟩ ⟨rfl, pz trivial⟩ (hput) ?_ | refine condD (fun h => ?_) (fun h => ?_) | refine condB (fun h => ?_) (fun h => ?_) | refine condN (fun h => ?_) (fun h => ?_) | refine condE (fun h => ?_) (fun h => ?_) | refine condV (fun h => ?_) (fun h => ?_))
    refine ev_keep [7, 2, 1] [66, 81, 200] ?_
    exact enc67_11 a hv wide bad _ _ _ _ _ _ hb
  · have hq : b ++ r10 a (wd wide) = b ++ r11 a (wd wide) := by simp [r10, c10, hc]
    rw [hq] at hb ⊢
    refine ev_seq (b := suf 11 f67.body) ?_
    try simp only [Bool.not_eq_true] at hc
    refine W_okd 1 300 _ _ _ _ ?_
    repeat' ((conv => whnf); first | refine bslP (by first | rfl | (simp [pureL, pureLL, AV.pure]; done) | fail) rfl ?_ | refine TakeC.full (by first | rfl | omega | (simp; done) | (simp; omega) | fail) ?_ | refine zBs ?_ | refine zBn ?_ | refine zBv rfl rfl ?_ | refine zN ?_ | refine zC ?_ | refine zC4 ?_ | refine zOr16 ?_ | refine zC1 ?_ | refine zByte ?_ | refine zMaxL ?_ | refine zMaxR ?_ | refine zMinL ?_ | refine zMinR ?_ | refine zShr ?_ | refine zC8 ?_ | refine zQ ?_ | refine zR ?_ | refine zS ?_ | refine zA ?_ | refine zM ?_ | refine xr rfl ?_ | refine ai rfl ?_ | refine condT ?_ | refine condF ?_ | refine condG1 ?_ | refine condG0 ?_ | refine cD ?_ | refine dD ?_ | refine cB ?_ | refine dB ?_ | refine cN ?_ | refine dN ?_ | refine cV ?_ | refine dV ?_ | refine cE ?_ | refine dE ?_ | refine condX0 ?_ | refine condX1 ?_ | refine condNot ?_ | refine condAnd ?_ | refine condOr ?_ | refine aO ?_ | refine aB ?_ | refine aR ?_ | refine aR ?_ (by simp; omega) | refine xr (by assumption) ?_ | refine ai (by assumption) ?_ | refine condD (fun h => ?_) (fun h => ?_) | refine condB (fun h => ?_) (fun h => ?_) | refine condN (fun h => ?_) (fun h => ?_) | refine condE (fun h => ?_) (fun h => ?_) | refine condV (fun h => ?_) (fun h => ?_))
    refine ev_keep [7, 2, 1] [66, 81, 200] ?_
    exact enc67_11 a hv wide bad _ _ _ _ _ _ hb
theorem enc67_9 (a : Attrs) (hv : EncV a) (wide bad : Bool) (b : List UInt8) (T : List (Nat × AV)) (H : Heap) (c gw g : Nat) (hb : (b ++ r9 a (wd wide)).length < 2 ^ 37) : Ev G ⟨[.code (suf 9 f67.body)], ⟨(7, .ref 81 gw 0) :: (2, .ref 66 1 0) :: (1, .bool wide) :: T, (66, some (1, .cells a.enc)) :: (81, some (gw, .cells [.vs 200 g b.length, .bool wide, .bool bad])) :: (200, some (g, .vec 1 (byteCells b))) :: H, c⟩, [.t 4, .t 5], 0⟩ (encRet (bdA a wide bad) (b ++ r9 a (wd wide))) := by
  have hf := hv.aggrAS
  have hf2 := hv.aggrAddr
  have hbl : b.length < 2 ^ 37 := by simp at hb; omega
  by_cases hc : a.hasAggr = true
  · have hq : b ++ r9 a (wd wide) = (b ++ putB 7 (be (wd wide) a.aggrAS.toNat ++ be 4 a.aggrAddr.toNat)) ++ r10 a (wd wide) := by simp [r9, c9, hc]
    have hbd : bdA a wide bad = badN wide bad a.aggrAS := by simp [bdA, hc]
    have hcat : cat [be (wd wide) a.aggrAS.toNat, be 4 a.aggrAddr.toNat] = be (wd wide) a.aggrAS.toNat ++ be 4 a.aggrAddr.toNat := by simp [cat]
    have has := as_gives86 a.aggrAS.toNat (by omega) wide bad b
    rw [show ((a.aggrAS.toNat : Nat) : Int) = a.aggrAS from by omega] at has
    have hput := put_gives83 [be (wd wide) a.aggrAS.toNat, be 4 a.aggrAddr.toNat] 7 wide (badN wide bad a.aggrAS) b (by simp) (by omega) (by omega) (by omega) (by rw [hcat]; simp; have := wd_le wide; omega)
    rw [hcat] at hput
    rw [hq] at hb ⊢
    rw [hbd]
    refine ev_seq (b := suf 10 f67.body) ?_
    refine W_okd 1 300 _ _ _ _ ?_
    repeat' ((conv => whnf); first | refine bslP (by first | rfl | (simp [pureL, pureLL, AV.pure]; done) | fail) rfl ?_ | refine TakeC.full (by first | rfl | omega | (simp; done) | (simp; omega) | fail) ?_ | refine zBs ?_ | refine zBn ?_ | refine zBv rfl rfl ?_ | refine zN ?_ | refine zC ?_ | refine zC4 ?_ | refine zOr16 ?_ | refine zC1 ?_ | refine zByte ?_ | refine zMaxL ?_ | refine zMaxR ?_ | refine zMinL ?_ | refine zMinR ?_ | refine zShr ?_ | refine zC8 ?_ | refine zQ ?_ | refine zR ?_ | refine zS ?_ | refine zA ?_ | refine zM ?_ | refine xr rfl ?_ | refine ai rfl ?_ | refine condT ?_ | refine condF ?_ | refine condG1 ?_ | refine condG0 ?_ | refine cD ?_ | refine dD ?_ | refine cB ?_ | refine dB ?_ | refine cN ?_ | refine dN ?_ | refine cV ?_ | refine dV ?_ | refine cE ?_ | refine dE ?_ | refine condX0 ?_ | refine condX1 ?_ | refine condNot ?_ | refine condAnd ?_ | refine condOr ?_ | refine aO ?_ | refine aB ?_ | refine aR ?_ | refine aR ?_ (by simp; omega) | refine xr (by assumption) ?_ | refine ai (by assumption) ?_ | refine kX [(81, _, _), (200, _, _)] [] ⟨rfl, rfl, trivial⟩ trivial (has) ?_ | refine kN (number85 a.aggrAddr (by omega) (by omega)) ?_ | refine kB [(129, _, _), (133, _, _)] ⟨rfl, pz ⟨rfl, pz trivial⟩⟩ ?_ | refine kX [(81, _, _), (200, _, _)] [(134, _, _)] ⟨rfl, rfl, trivial⟩ ⟨rfl, pz trivial⟩ (hput) ?_ | refine condD (fun h => ?_) (fun h => ?_) | refine condB (fun h => ?_) (fun h => ?_) | refine condN (fun h => ?_) (fun h => ?_) | refine condE (fun h => ?_) (fun h => ?_) | refine condV (fun h => ?_) (fun h => ?_))
    refine ev_keep [7, 2, 1] [66, 81, 200] ?_
    exact enc67_10 a hv wide _ _ _ _ _ _ _ hb
  · have hq : b ++ r9 a (wd wide) = b ++ r10 a (wd wide) := by simp [r9, c9, hc]
    have hbd : bdA a wide bad = bad := by simp [bdA, hc]
    rw [hq] at hb ⊢
    rw [hbd]
    refine ev_seq (b := suf 10 f67.body) ?_
    try simp only [Bool.not_eq_true] at hc
    refine W_okd 1 300 _ _ _ _ ?_
    repeat' ((conv => whnf); first | refine bslP (by first | rfl | (simp [pureL, pureLL, AV.pure]; done) | fail) rfl ?_ | refine TakeC.full (by first | rfl | omega | (simp; done) | (simp; omega) | fail) ?_ | refine zBs ?_ | refine zBn ?_ | refine zBv rfl rfl ?_ | refine zN ?_ | refine zC ?_ | refine zC4 ?_ | refine zOr16 ?_ | refine zC1 ?_ | refine zByte ?_ | refine zMaxL ?_ | refine zMaxR ?_ | refine zMinL ?_ | refine zMinR ?_ | refine zShr ?_ | refine zC8 ?_ | refine zQ ?_ | refine zR ?_ | refine zS ?_ | refine zA ?_ | refine zM ?_ | refine xr rfl ?_ | refine ai rfl ?_ | refine condT ?_ | refine condF ?_ | refine condG1 ?_ | refine condG0 ?_ | refine cD ?_ | refine dD ?_ | refine cB ?_ | refine dB ?_ | refine cN ?_ | refine dN ?_ | refine cV ?_ | refine dV ?_ | refine cE ?_ | refine dE ?_ | refine condX0 ?_ | refine condX1 ?_ | refine condNot ?_ | refine condAnd ?_ | refine condOr ?_ | refine aO ?_ | refine aB ?_ | refine aR ?_ | refine aR ?_ (by simp; omega) | refine xr (by assumption) ?_ | refine ai (by assumption) ?_ | refine condD (fun h => ?_) (fun h => ?_) | refine condB (fun h => ?_) (fun h => ?_) | refine condN (fun h => ?_) (fun h => ?_) | refine condE (fun h => ?_) (fun h => ?_) | refine condV (fun h => ?_) (fun h => ?_))
    refine ev_keep [7, 2, 1] [66, 81, 200] ?_
    exact enc67_10 a hv wide _ _ _ _ _ _ _ hb
theorem enc67_8 (a : Attrs) (hv : EncV a) (wide bad : Bool) (b : List UInt8) (T : List (Nat × AV)) (H : Heap) (c gw g : Nat) (hb : (b ++ r8 a (wd wide)).length < 2 ^ 37) : Ev G ⟨[.code (suf 8 f67.body)], ⟨(7, .ref 81 gw 0) :: (2, .ref 66 1 0) :: (1, .bool wide) :: T, (66, some (1, .cells a.enc)) :: (81, some (gw, .cells [.vs 200 g b.length, .bool wide, .bool bad])) :: (200, some (g, .vec 1 (byteCells b))) :: H, c⟩, [.t 4, .t 5], 0⟩ (encRet (bdA a wide bad) (b ++ r8 a (wd wide))) := by
  have hbl : b.length < 2 ^ 37 := by simp at hb; omega
  by_cases hc : a.atomic = true
  · have hq : b ++ r8 a (wd wide) = (b ++ putB 6 []) ++ r9 a (wd wide) := by simp [r8, c8, hc]
    have hput := gives_le rfl (put_gives83 [] 6 wide bad b (by simp) (by omega) (by omega) (by omega) (by simp [cat])) (show LLe Any [.ref 0 0 0, .int .i64 6, .con (.slice none 0 0)] _ from ⟨.refl _, .refl _, LeP.nil 1, trivial⟩)
    rw [show cat [] = [] from rfl] at hput
    rw [hq] at hb ⊢
    refine ev_seq (b := suf 9 f67.body) ?_
    refine W_okd 1 300 _ _ _ _ ?_
    repeat' ((conv => whnf); first | refine bslP (by first | rfl | (simp [pureL, pureLL, AV.pure]; done) | fail) rfl ?_ | refine TakeC.full (by first | rfl | omega | (simp; done) | (simp; omega) | fail) ?_ | refine zBs ?_ | refine zBn ?_ | refine zBv rfl rfl ?_ | refine zN ?_ | refine zC ?_ | refine zC4 ?_ | refine zOr16 ?_ | refine zC1 ?_ | refine zByte ?_ | refine zMaxL ?_ | refine zMaxR ?_ | refine zMinL ?_ | refine zMinR ?_ | refine zShr ?_ | refine zC8 ?_ | refine zQ ?_ | refine zR ?_ | refine zS ?_ | refine zA ?_ | refine zM ?_ | refine xr rfl ?_ | refine ai rfl ?_ | refine condT ?_ | refine condF ?_ | refine condG1 ?_ | refine condG0 ?_ | refine cD ?_ | refine dD ?_ | refine cB ?_ | refine dB ?_ | refine cN ?_ | refine dN ?_ | refine cV ?_ | refine dV ?_ | refine cE ?_ | refine dE ?_ | refine condX0 ?_ | refine condX1 ?_ | refine condNot ?_ | refine condAnd ?_ | refine condOr ?_ | refine aO ?_ | refine aB ?_ | refine aR ?_ | refine aR ?_ (by simp; omega) | refine xr (by assumption) ?_ | refine ai (by assumption) ?_ | refine kX [(81, _, _), (200, _, _)] [] ⟨rfl, rfl, trivial⟩ trivial (hput) ?_ | refine condD (fun h => ?_) (fun h => ?_) | refine condB (fun h => ?_) (fun h => ?_) | refine condN (fun h => ?_) (fun h => ?_) | refine condE (fun h => ?_) (fun h => ?_) | refine condV (fun h => ?_) (fun h => ?_))
    refine ev_keep [7, 2, 1] [66, 81, 200] ?_
    exact enc67_9 a hv wide bad _ _ _ _ _ _ hb
  · have hq : b ++ r8 a (wd wide) = b ++ r9 a (wd wide) := by simp [r8, c8, hc]
    rw [hq] at hb ⊢
    refine ev_seq (b := suf 9 f67.body) ?_
    try simp only [Bool.not_eq_true] at hc
    refine W_okd 1 300 _ _ _ _ ?_
    repeat' ((conv => whnf); first | refine bslP (by first | rfl | (simp [pureL, pureLL, AV.pure]; done) | fail) rfl ?_ | refine TakeC.full (by first | rfl | omega | (simp; done) | (simp; omega) | fail) ?_ | refine zBs ?_ | refine zBn ?_ | refine zBv rfl rfl ?_ | refine zN ?_ | refine zC ?_ | refine zC4 ?_ | refine zOr16 ?_ | refine zC1 ?_ | refine zByte ?_ | refine zMaxL ?_ | refine zMaxR ?_ | refine zMinL ?_ | refine zMinR ?_ | refine zShr ?_ | refine zC8 ?_ | refine zQ ?_ | refine zR ?_ | refine zS ?_ | refine zA ?_ | refine zM ?_ | refine xr rfl ?_ | refine ai rfl ?_ | refine condT ?_ | refine condF ?_ | refine condG1 ?_ | refine condG0 ?_ | refine cD ?_ | refine dD ?_ | refine cB ?_ | refine dB ?_ | refine cN ?_ | refine dN ?_ | refine cV ?_ | refine dV ?_ | refine cE ?_ | refine dE ?_ | refine condX0 ?_ | refine condX1 ?_ | refine condNot ?_ | refine condAnd ?_ | refine condOr ?_ | refine aO ?_ | refine aB ?_ | refine aR ?_ | refine aR ?_ (by simp; omega) | refine xr (by assumption) ?_ | refine ai (by assumption) ?_ | refine condD (fun h => ?_) (fun h => ?_) | refine condB (fun h => ?_) (fun h => ?_) | refine condN (fun h => ?_) (fun h => ?_) | refine condE (fun h => ?_) (fun h => ?_) | refine condV (fun h => ?_) (fun h => ?_))
    refine ev_keep [7, 2, 1] [66, 81, 200] ?_
    exact enc67_9 a hv wide bad _ _ _ _ _ _ hb
theorem enc67_7 (a : Attrs) (hv : EncV a) (wide bad : Bool) (b : List UInt8) (T : List (Nat × AV)) (H : Heap) (c gw g : Nat) (hb : (b ++ r7 a (wd wide)).length < 2 ^ 37) : Ev G ⟨[.code (suf 7 f67.body)], ⟨(7, .ref 81 gw 0) :: (2, .ref 66 1 0) :: (1, .bool wide) :: T, (66, some (1, .cells a.enc)) :: (81, some (gw, .cells [.vs 200 g b.length, .bool wide, .bool bad])) :: (200, some (g, .vec 1 (byteCells b))) :: H, c⟩, [.t 4, .t 5], 0⟩ (encRet (bdA a wide bad) (b ++ r7 a (wd wide))) := by
  have hf := hv.pref
  have hcl := hv.clustersL
  have hcm := hv.commsL
  have hll1 : (a.clusters.map encU).length = a.clusters.length := by simp
  have hll2 : (a.comms.map encU).length = a.comms.length := by simp
  have hbl : b.length < 2 ^ 37 := by simp at hb; omega
  by_cases hc : a.hasPref = true
  · have hq : b ++ r7 a (wd wide) = (b ++ putB 5 (be 4 a.pref.toNat)) ++ r8 a (wd wide) := by simp [r7, c7, hc]
    have hcat : cat [be 4 a.pref.toNat] = be 4 a.pref.toNat := by simp [cat]
    have hvl : (be 4 a.pref.toNat).length < 2 ^ 38 := by first | (rw [be_length]; omega) | (rw [wordsB, fm_length]; omega)
    have hput := put_gives83 [be 4 a.pref.toNat] 5 wide bad b (by simp) (by omega) (by omega) (by omega) (by rw [hcat]; exact hvl)
    rw [hcat] at hput
    rw [hq] at hb ⊢
    refine ev_seq (b := suf 8 f67.body) ?_
    refine W_okd 1 300 _ _ _ _ ?_
    repeat' ((conv => whnf); first | refine bslP (by first | rfl | (simp [pureL, pureLL, AV.pure]; done) | fail) rfl ?_ | refine TakeC.full (by first | rfl | omega | (simp; done) | (simp; omega) | fail) ?_ | refine zBs ?_ | refine zBn ?_ | refine zBv rfl rfl ?_ | refine zN ?_ | refine zC ?_ | refine zC4 ?_ | refine zOr16 ?_ | refine zC1 ?_ | refine zByte ?_ | refine zMaxL ?_ | refine zMaxR ?_ | refine zMinL ?_ | refine zMinR ?_ | refine zShr ?_ | refine zC8 ?_ | refine zQ ?_ | refine zR ?_ | refine zS ?_ | refine zA ?_ | refine zM ?_ | refine xr rfl ?_ | refine ai rfl ?_ | refine condT ?_ | refine condF ?_ | refine condG1 ?_ | refine condG0 ?_ | refine cD ?_ | refine dD ?_ | refine cB ?_ | refine dB ?_ | refine cN ?_ | refine dN ?_ | refine cV ?_ | refine dV ?_ | refine cE ?_ | refine dE ?_ | refine condX0 ?_ | refine condX1 ?_ | refine condNot ?_ | refine condAnd ?_ | refine condOr ?_ | refine aO ?_ | refine aB ?_ | refine aR ?_ | refine aR ?_ (by simp; omega) | refine xr (by assumption) ?_ | refine ai (by assumption) ?_ | refine kN (number85 a.pref (by omega) (by omega)) ?_ | refine kB [(116, _, _)] ⟨rfl, pz trivial⟩ ?_ | refine kX [(81, _, _), (200, _, _)] [(117, _, _)] ⟨rfl, rfl, trivial⟩ ⟨rfl, pz trivial⟩ (hput) ?_ | refine condD (fun h => ?_) (fun h => ?_) | refine condB (fun h => ?_) (fun h => ?_) | refine condN (fun h => ?_) (fun h => ?_) | refine condE (fun h => ?_) (fun h => ?_) | refine condV (fun h => ?_) (fun h => ?_))
    refine ev_keep [7, 2, 1] [66, 81, 200] ?_
    exact enc67_8 a hv wide bad _ _ _ _ _ _ hb
  · have hq : b ++ r7 a (wd wide) = b ++ r8 a (wd wide) := by simp [r7, c7, hc]
    rw [hq] at hb ⊢
    refine ev_seq (b := suf 8 f67.body) ?_
    try simp only [Bool.not_eq_true] at hc
    refine W_okd 1 300 _ _ _ _ ?_
    repeat' ((conv => whnf); first | refine bslP (by first | rfl | (simp [pureL, pureLL, AV.pure]; done) | fail) rfl ?_ | refine TakeC.full (by first | rfl | omega | (simp; done) | (simp; omega) | fail) ?_ | refine zBs ?_ | refine zBn ?_ | refine zBv rfl rfl ?_ | refine zN ?_ | refine zC ?_ | refine zC4 ?_ | refine zOr16 ?_ | refine zC1 ?_ | refine zByte ?_ | refine zMaxL ?_ | refine zMaxR ?_ | refine zMinL ?_ | refine zMinR ?_ | refine zShr ?_ | refine zC8 ?_ | refine zQ ?_ | refine zR ?_ | refine zS ?_ | refine zA ?_ | refine zM ?_ | refine xr rfl ?_ | refine ai rfl ?_ | refine condT ?_ | refine condF ?_ | refine condG1 ?_ | refine condG0 ?_ | refine cD ?_ | refine dD ?_ | refine cB ?_ | refine dB ?_ | refine cN ?_ | refine dN ?_ | refine cV ?_ | refine dV ?_ | refine cE ?_ | refine dE ?_ | refine condX0 ?_ | refine condX1 ?_ | refine condNot ?_ | refine condAnd ?_ | refine condOr ?_ | refine aO ?_ | refine aB ?_ | refine aR ?_ | refine aR ?_ (by simp; omega) | refine xr (by assumption) ?_ | refine ai (by assumption) ?_ | refine condD (fun h => ?_) (fun h => ?_) | refine condB (fun h => ?_) (fun h => ?_) | refine condN (fun h => ?_) (fun h => ?_) | refine condE (fun h => ?_) (fun h => ?_) | refine condV (fun h => ?_) (fun h => ?_))
    refine ev_keep [7, 2, 1] [66, 81, 200] ?_
    exact enc67_8 a hv wide bad _ _ _ _ _ _ hb
theorem enc67_6 (a : Attrs) (hv : EncV a) (wide bad : Bool) (b : List UInt8) (T : List (Nat × AV)) (H : Heap) (c gw g : Nat) (hb : (b ++ r6 a (wd wide)).length < 2 ^ 37) : Ev G ⟨[.code (suf 6 f67.body)], ⟨(7, .ref 81 gw 0) :: (2, .ref 66 1 0) :: (1, .bool wide) :: T, (66, some (1, .cells a.enc)) :: (81, some (gw, .cells [.vs 200 g b.length, .bool wide, .bool bad])) :: (200, some (g, .vec 1 (byteCells b))) :: H, c⟩, [.t 4, .t 5], 0⟩ (encRet (bdA a wide bad) (b ++ r6 a (wd wide))) := by
  have hf := hv.med
  have hcl := hv.clustersL
  have hcm := hv.commsL
  have hll1 : (a.clusters.map encU).length = a.clusters.length := by simp
  have hll2 : (a.comms.map encU).length = a.comms.length := by simp
  have hbl : b.length < 2 ^ 37 := by simp at hb; omega
  by_cases hc : a.hasMED = true
  · have hq : b ++ r6 a (wd wide) = (b ++ putB 4 (be 4 a.med.toNat)) ++ r7 a (wd wide) := by simp [r6, c6, hc]
    have hcat : cat [be 4 a.med.toNat] = be 4 a.med.toNat := by simp [cat]
    have hvl : (be 4 a.med.toNat).length < 2 ^ 38 := by first | (rw [be_length]; omega) | (rw [wordsB, fm_length]; omega)
    have hput := put_gives83 [be 4 a.med.toNat] 4 wide bad b (by simp) (by omega) (by omega) (by omega) (by rw [hcat]; exact hvl)
    rw [hcat] at hput
    rw [hq] at hb ⊢
    refine ev_seq (b := suf 7 f67.body) ?_
    refine W_okd 1 300 _ _ _ _ ?_
    repeat' ((conv => whnf); first | refine bslP (by first | rfl | (simp [pureL, pureLL, AV.pure]; done) | fail) rfl ?_ | refine TakeC.full (by first | rfl | omega | (simp; done) | (simp; omega) | fail) ?_ | refine zBs ?_ | refine zBn ?_ | refine zBv rfl rfl ?_ | refine zN ?_ | refine zC ?_ | refine zC4 ?_ | refine zOr16 ?_ | refine zC1 ?_ | refine zByte ?_ | refine zMaxL ?_ | refine zMaxR ?_ | refine zMinL ?_ | refine zMinR ?_ | refine zShr ?_ | refine zC8 ?_ | refine zQ ?_ | refine zR ?_ | refine zS ?_ | refine zA ?_ | refine zM ?_ | refine xr rfl ?_ | refine ai rfl ?_ | refine condT ?_ | refine condF ?_ | refine condG1 ?_ | refine condG0 ?_ | refine cD ?_ | refine dD ?_ | refine cB ?_ | refine dB ?_ | refine cN ?_ | refine dN ?_ | refine cV ?_ | refine dV ?_ | refine cE ?_ | refine dE ?_ | refine condX0 ?_ | refine condX1 ?_ | refine condNot ?_ | refine condAnd ?_ | refine condOr ?_ | refine aO ?_ | refine aB ?_ | refine aR ?_ | refine aR ?_ (by simp; omega) | refine xr (by assumption) ?_ | refine ai (by assumption) ?_ | refine kN (number85 a.med (by omega) (by omega)) ?_ | refine kB [(108, _, _)] ⟨rfl, pz trivial⟩ ?_ | refine kX [(81, _, _), (200, _, _)] [(109, _, _)] ⟨rfl, rfl, trivial⟩ ⟨rfl, pz trivial⟩ (hput) ?_ | refine condD (fun h => ?_) (fun h => ?_) | refine condB (fun h => ?_) (fun h => ?_) | refine condN (fun h => ?_) (fun h => ?_) | refine condE (fun h => ?_) (fun h => ?_) | refine condV (fun h => ?_) (fun h => ?_))
    refine ev_keep [7, 2, 1] [66, 81, 200] ?_
    exact enc67_7 a hv wide bad _ _ _ _ _ _ hb
  · have hq : b ++ r6 a (wd wide) = b ++ r7 a (wd wide) := by simp [r6, c6, hc]
    rw [hq] at hb ⊢
    refine ev_seq (b := suf 7 f67.body) ?_
    try simp only [Bool.not_eq_true] at hc
    refine W_okd 1 300 _ _ _ _ ?_
    repeat' ((conv => whnf); first | refine bslP (by first | rfl | (simp [pureL, pureLL, AV.pure]; done) | fail) rfl ?_ | refine TakeC.full (by first | rfl | omega | (simp; done) | (simp; omega) | fail) ?_ | refine zBs ?_ | refine zBn ?_ | refine zBv rfl rfl ?_ | refine zN ?_ | refine zC ?_ | refine zC4 ?_ | refine zOr16 ?_ | refine zC1 ?_ | refine zByte ?_ | refine zMaxL ?_ | refine zMaxR ?_ | refine zMinL ?_ | refine zMinR ?_ | refine zShr ?_ | refine zC8 ?_ | refine zQ ?_ | refine zR ?_ | refine zS ?_ | refine zA ?_ | refine zM ?_ | refine xr rfl ?_ | refine ai rfl ?_ | refine condT ?_ | refine condF ?_ | refine condG1 ?_ | refine condG0 ?_ | refine cD ?_ | refine dD ?_ | refine cB ?_ | refine dB ?_ | refine cN ?_ | refine dN ?_ | refine cV ?_ | refine dV ?_ | refine cE ?_ | refine dE ?_ | refine condX0 ?_ | refine condX1 ?_ | refine condNot ?_ | refine condAnd ?_ | refine condOr ?_ | refine aO ?_ | refine aB ?_ | refine aR ?_ | refine aR ?_ (by simp; omega) | refine xr (by assumption) ?_ | refine ai (by assumption) ?_ | refine condD (fun h => ?_) (fun h => ?_) | refine condB (fun h => ?_) (fun h => ?_) | refine condN (fun h => ?_) (fun h => ?_) | refine condE (fun h => ?_) (fun h => ?_) | refine condV (fun h => ?_) (fun h => ?_))
    refine ev_keep [7, 2, 1] [66, 81, 200] ?_
    exact enc67_7 a hv wide bad _ _ _ _ _ _ hb
theorem enc67_5 (a : Attrs) (hv : EncV a) (wide bad : Bool) (b : List UInt8) (T : List (Nat × AV)) (H : Heap) (c gw g : Nat) (hb : (b ++ r5 a (wd wide)).length < 2 ^ 37) : Ev G ⟨[.code (suf 5 f67.body)], ⟨(7, .ref 81 gw 0) :: (2, .ref 66 1 0) :: (1, .bool wide) :: T, (66, some (1, .cells a.enc)) :: (81, some (gw, .cells [.vs 200 g b.length, .bool wide, .bool bad])) :: (200, some (g, .vec 1 (byteCells b))) :: H, c⟩, [.t 4, .t 5], 0⟩ (encRet (bdA a wide bad) (b ++ r5 a (wd wide))) := by
  have hf := hv.nextHop
  have hf2 := hv.origin
  have hf3 := u8_int hf2.1 hf2.2
  have hbl : b.length < 2 ^ 37 := by simp at hb; omega
  have hq : b ++ r5 a (wd wide) = (b ++ putB 3 (be 4 a.nextHop.toNat)) ++ r6 a (wd wide) := by simp [r5, c5]
  have hcat : cat [be 4 a.nextHop.toNat] = be 4 a.nextHop.toNat := by simp [cat]
  have hvl : (be 4 a.nextHop.toNat).length < 2 ^ 38 := by
    have hpl := pathL wide a hv
    first | (rw [be_length]; omega) | (simp; done) | omega
  have hput := put_gives83 [be 4 a.nextHop.toNat] 3 wide bad b (by simp) (by omega) (by omega) (by omega) (by rw [hcat]; exact hvl)
  rw [hcat] at hput
  rw [hq] at hb ⊢
  refine ev_seq (b := suf 6 f67.body) ?_
  refine W_okd 1 300 _ _ _ _ ?_
  repeat' ((conv => whnf); first | refine bslP (by first | rfl | (simp [pureL, pureLL, AV.pure]; done) | fail) rfl ?_ | refine TakeC.full (by first | rfl | omega | (simp; done) | (simp; omega) | fail) ?_ | refine zBs ?_ | refine zBn ?_ | refine zBv rfl rfl ?_ | refine zN ?_ | refine zC ?_ | refine zC4 ?_ | refine zOr16 ?_ | refine zC1 ?_ | refine zByte ?_ | refine zMaxL ?_ | refine zMaxR ?_ | refine zMinL ?_ | refine zMinR ?_ | refine zShr ?_ | refine zC8 ?_ | refine zQ ?_ | refine zR ?_ | refine zS ?_ | refine zA ?_ | refine zM ?_ | refine xr rfl ?_ | refine ai rfl ?_ | refine condT ?_ | refine condF ?_ | refine condG1 ?_ | refine condG0 ?_ | refine cD ?_ | refine dD ?_ | refine cB ?_ | refine dB ?_ | refine cN ?_ | refine dN ?_ | refine cV ?_ | refine dV ?_ | refine cE ?_ | refine dE ?_ | refine condX0 ?_ | refine condX1 ?_ | refine condNot ?_ | refine condAnd ?_ | refine condOr ?_ | refine aO ?_ | refine aB ?_ | refine aR ?_ | refine aR ?_ (by simp; omega) | refine xr (by assumption) ?_ | refine ai (by assumption) ?_ | refine kN (number85 a.nextHop (by omega) (by omega)) ?_ | refine kB [(100, _, _)] ⟨rfl, pz trivial⟩ ?_ | refine kX [(81, _, _), (200, _, _)] [(101, _, _)] ⟨rfl, rfl, trivial⟩ ⟨rfl, pz trivial⟩ (hput) ?_ | refine condD (fun h => ?_) (fun h => ?_) | refine condB (fun h => ?_) (fun h => ?_) | refine condN (fun h => ?_) (fun h => ?_) | refine condE (fun h => ?_) (fun h => ?_) | refine condV (fun h => ?_) (fun h => ?_))
  refine ev_keep [7, 2, 1] [66, 81, 200] ?_
  exact enc67_6 a hv wide _ _ _ _ _ _ _ hb
theorem enc67_4 (a : Attrs) (hv : EncV a) (wide bad : Bool) (b : List UInt8) (T : List (Nat × AV)) (H : Heap) (c gw g : Nat) (hb : (b ++ r4 a (wd wide)).length < 2 ^ 37) : Ev G ⟨[.code (suf 4 f67.body)], ⟨(7, .ref 81 gw 0) :: (2, .ref 66 1 0) :: (1, .bool wide) :: T, (66, some (1, .cells a.enc)) :: (81, some (gw, .cells [.vs 200 g b.length, .bool wide, .bool bad])) :: (200, some (g, .vec 1 (byteCells b))) :: H, c⟩, [.t 4, .t 5], 0⟩ (encRet (bdA a wide (badP wide bad a.path)) (b ++ r4 a (wd wide))) := by
  have hf := hv.nextHop
  have hf2 := hv.origin
  have hf3 := u8_int hf2.1 hf2.2
  have hbl : b.length < 2 ^ 37 := by simp at hb; omega
  have hq : b ++ r4 a (wd wide) = (b ++ putB 2 (pathB (wd wide) a.path)) ++ r5 a (wd wide) := by simp [r4, c4]
  have hcat : cat [pathB (wd wide) a.path] = pathB (wd wide) a.path := by simp [cat]
  have hvl : (pathB (wd wide) a.path).length < 2 ^ 38 := by
    have hpl := pathL wide a hv
    first | (rw [be_length]; omega) | (simp; done) | omega
  have hput := put_gives83 [pathB (wd wide) a.path] 2 wide (badP wide bad a.path) b (by simp) (by omega) (by omega) (by omega) (by rw [hcat]; exact hvl)
  rw [hcat] at hput
  rw [hq] at hb ⊢
  refine ev_seq (b := suf 5 f67.body) ?_
  refine W_okd 1 300 _ _ _ _ ?_
  repeat' ((conv => whnf); first | refine bslP (by first | rfl | (simp [pureL, pureLL, AV.pure]; done) | fail) rfl ?_ | refine TakeC.full (by first | rfl | omega | (simp; done) | (simp; omega) | fail) ?_ | refine zBs ?_ | refine zBn ?_ | refine zBv rfl rfl ?_ | refine zN ?_ | refine zC ?_ | refine zC4 ?_ | refine zOr16 ?_ | refine zC1 ?_ | refine zByte ?_ | refine zMaxL ?_ | refine zMaxR ?_ | refine zMinL ?_ | refine zMinR ?_ | refine zShr ?_ | refine zC8 ?_ | refine zQ ?_ | refine zR ?_ | refine zS ?_ | refine zA ?_ | refine zM ?_ | refine xr rfl ?_ | refine ai rfl ?_ | refine condT ?_ | refine condF ?_ | refine condG1 ?_ | refine condG0 ?_ | refine cD ?_ | refine dD ?_ | refine cB ?_ | refine dB ?_ | refine cN ?_ | refine dN ?_ | refine cV ?_ | refine dV ?_ | refine cE ?_ | refine dE ?_ | refine condX0 ?_ | refine condX1 ?_ | refine condNot ?_ | refine condAnd ?_ | refine condOr ?_ | refine aO ?_ | refine aB ?_ | refine aR ?_ | refine aR ?_ (by simp; omega) | refine xr (by assumption) ?_ | refine ai (by assumption) ?_ | refine kX [(81, _, _), (200, _, _)] [] ⟨rfl, rfl, trivial⟩ trivial ((path_gives84 a.path wide bad b hv.segs hv.path)) ?_ | refine kB [(93, _, _)] ⟨rfl, pz trivial⟩ ?_ | refine kX [(81, _, _), (200, _, _)] [(94, _, _)] ⟨rfl, rfl, trivial⟩ ⟨rfl, pz trivial⟩ (hput) ?_ | refine condD (fun h => ?_) (fun h => ?_) | refine condB (fun h => ?_) (fun h => ?_) | refine condN (fun h => ?_) (fun h => ?_) | refine condE (fun h => ?_) (fun h => ?_) | refine condV (fun h => ?_) (fun h => ?_))
  refine ev_keep [7, 2, 1] [66, 81, 200] ?_
  exact enc67_5 a hv wide _ _ _ _ _ _ _ hb
theorem enc67_3 (a : Attrs) (hv : EncV a) (wide bad : Bool) (b : List UInt8) (T : List (Nat × AV)) (H : Heap) (c gw g : Nat) (hb : (b ++ r3 a (wd wide)).length < 2 ^ 37) : Ev G ⟨[.code (suf 3 f67.body)], ⟨(7, .ref 81 gw 0) :: (2, .ref 66 1 0) :: (1, .bool wide) :: T, (66, some (1, .cells a.enc)) :: (81, some (gw, .cells [.vs 200 g b.length, .bool wide, .bool bad])) :: (200, some (g, .vec 1 (byteCells b))) :: H, c⟩, [.t 4, .t 5], 0⟩ (encRet (bdA a wide (badP wide bad a.path)) (b ++ r3 a (wd wide))) := by
  have hf := hv.nextHop
  have hf2 := hv.origin
  have hf3 := u8_int hf2.1 hf2.2
  have hbl : b.length < 2 ^ 37 := by simp at hb; omega
  have hq : b ++ r3 a (wd wide) = (b ++ putB 1 ([UInt8.ofNat a.origin.toNat])) ++ r4 a (wd wide) := by simp [r3, c3]
  have hcat : cat [[UInt8.ofNat a.origin.toNat]] = [UInt8.ofNat a.origin.toNat] := by simp [cat]
  have hvl : ([UInt8.ofNat a.origin.toNat]).length < 2 ^ 38 := by
    have hpl := pathL wide a hv
    first | (rw [be_length]; omega) | (simp; done) | omega
  have hput := put_gives83 [[UInt8.ofNat a.origin.toNat]] 1 wide bad b (by simp) (by omega) (by omega) (by omega) (by rw [hcat]; exact hvl)
  rw [hcat] at hput
  rw [show List.map bEnc [[UInt8.ofNat a.origin.toNat]] = [[.sl 1 [[.int .u8 a.origin]]]] from by simp only [List.map_cons, List.map_nil, bEnc, byteCells, hf3]] at hput
  rw [hq] at hb ⊢
  refine ev_seq (b := suf 4 f67.body) ?_
  refine W_okd 1 300 _ _ _ _ ?_
  repeat' ((conv => whnf); first | refine bslP (by first | rfl | (simp [pureL, pureLL, AV.pure]; done) | fail) rfl ?_ | refine TakeC.full (by first | rfl | omega | (simp; done) | (simp; omega) | fail) ?_ | refine zBs ?_ | refine zBn ?_ | refine zBv rfl rfl ?_ | refine zN ?_ | refine zC ?_ | refine zC4 ?_ | refine zOr16 ?_ | refine zC1 ?_ | refine zByte ?_ | refine zMaxL ?_ | refine zMaxR ?_ | refine zMinL ?_ | refine zMinR ?_ | refine zShr ?_ | refine zC8 ?_ | refine zQ ?_ | refine zR ?_ | refine zS ?_ | refine zA ?_ | refine zM ?_ | refine xr rfl ?_ | refine ai rfl ?_ | refine condT ?_ | refine condF ?_ | refine condG1 ?_ | refine condG0 ?_ | refine cD ?_ | refine dD ?_ | refine cB ?_ | refine dB ?_ | refine cN ?_ | refine dN ?_ | refine cV ?_ | refine dV ?_ | refine cE ?_ | refine dE ?_ | refine condX0 ?_ | refine condX1 ?_ | refine condNot ?_ | refine condAnd ?_ | refine condOr ?_ | refine aO ?_ | refine aB ?_ | refine aR ?_ | refine aR ?_ (by simp; omega) | refine xr (by assumption) ?_ | refine ai (by assumption) ?_ | refine kB [(86, _, _)] ⟨rfl, pz trivial⟩ ?_ | refine kX [(81, _, _), (200, _, _)] [(87, _, _)] ⟨rfl, rfl, trivial⟩ ⟨rfl, pz trivial⟩ (hput) ?_ | refine condD (fun h => ?_) (fun h => ?_) | refine condB (fun h => ?_) (fun h => ?_) | refine condN (fun h => ?_) (fun h => ?_) | refine condE (fun h => ?_) (fun h => ?_) | refine condV (fun h => ?_) (fun h => ?_))
  refine ev_keep [7, 2, 1] [66, 81, 200] ?_
  exact enc67_4 a hv wide _ _ _ _ _ _ _ hb
def encB (a : Attrs) (wide : Bool) : List UInt8 := r3 a (wd wide)
def encBad (a : Attrs) (wide : Bool) : Bool := bdA a wide (badP wide false a.path)
theorem encode_gives67 (a : Attrs) (wide : Bool) (hb : LenB a) (hv : checkS a = 0 → EncV a ∧ (encB a wide).length < 2 ^ 37) : Gives G 67 [.agg a.enc, .bool wide] [] (if checkS a = 0 then encRet (encBad a wide) (encB a wide) else ⟨.tup [.con (.slice none 0 0), .int .i64 (checkS a)], []⟩) := by
  by_cases hc : checkS a = 0
  · obtain ⟨h1, h2⟩ := hv hc
    have h65 := check_gives65 a hb
    rw [hc] at h65
    rw [if_pos hc]
    refine gives_code (F := f67) rfl rfl ?_
    refine ev_seq (b := suf 1 f67.body) ?_
    refine W_okd 1 300 _ _ _ _ ?_
    repeat' ((conv => whnf); first | refine bslP (by first | rfl | (simp [pureL, pureLL, AV.pure]; done) | fail) rfl ?_ | refine TakeC.full (by first | rfl | omega | (simp; done) | (simp; omega) | fail) ?_ | refine zBs ?_ | refine zBn ?_ | refine zBv rfl rfl ?_ | refine zN ?_ | refine zC ?_ | refine zC4 ?_ | refine zOr16 ?_ | refine zC1 ?_ | refine zByte ?_ | refine zMaxL ?_ | refine zMaxR ?_ | refine zMinL ?_ | refine zMinR ?_ | refine zShr ?_ | refine zC8 ?_ | refine zQ ?_ | refine zR ?_ | refine zS ?_ | refine zA ?_ | refine zM ?_ | refine xr rfl ?_ | refine ai rfl ?_ | refine condT ?_ | refine condF ?_ | refine condG1 ?_ | refine condG0 ?_ | refine cD ?_ | refine dD ?_ | refine cB ?_ | refine dB ?_ | refine cN ?_ | refine dN ?_ | refine cV ?_ | refine dV ?_ | refine cE ?_ | refine dE ?_ | refine condX0 ?_ | refine condX1 ?_ | refine condNot ?_ | refine condAnd ?_ | refine condOr ?_ | refine aO ?_ | refine aB ?_ | refine aR ?_ | refine aR ?_ (by simp; omega) | refine xr (by assumption) ?_ | refine ai (by assumption) ?_ | refine condD (fun h => ?_) (fun h => ?_) | refine condB (fun h => ?_) (fun h => ?_) | refine condN (fun h => ?_) (fun h => ?_) | refine condE (fun h => ?_) (fun h => ?_) | refine condV (fun h => ?_) (fun h => ?_))
    refine ev_seq (b := suf 2 f67.body) ?_
    refine W_okd 1 300 _ _ _ _ ?_
    repeat' ((conv => whnf); first | refine bslP (by first | rfl | (simp [pureL, pureLL, AV.pure]; done) | fail) rfl ?_ | refine TakeC.full (by first | rfl | omega | (simp; done) | (simp; omega) | fail) ?_ | refine zBs ?_ | refine zBn ?_ | refine zBv rfl rfl ?_ | refine zN ?_ | refine zC ?_ | refine zC4 ?_ | refine zOr16 ?_ | refine zC1 ?_ | refine zByte ?_ | refine zMaxL ?_ | refine zMaxR ?_ | refine zMinL ?_ | refine zMinR ?_ | refine zShr ?_ | refine zC8 ?_ | refine zQ ?_ | refine zR ?_ | refine zS ?_ | refine zA ?_ | refine zM ?_ | refine xr rfl ?_ | refine ai rfl ?_ | refine condT ?_ | refine condF ?_ | refine condG1 ?_ | refine condG0 ?_ | refine cD ?_ | refine dD ?_ | refine cB ?_ | refine dB ?_ | refine cN ?_ | refine dN ?_ | refine cV ?_ | refine dV ?_ | refine cE ?_ | refine dE ?_ | refine condX0 ?_ | refine condX1 ?_ | refine condNot ?_ | refine condAnd ?_ | refine condOr ?_ | refine aO ?_ | refine aB ?_ | refine aR ?_ | refine aR ?_ (by simp; omega) | refine xr (by assumption) ?_ | refine ai (by assumption) ?_ | refine kV (h65) ?_ | refine condD (fun h => ?_) (fun h => ?_) | refine condB (fun h => ?_) (fun h => ?_) | refine condN (fun h => ?_) (fun h => ?_) | refine condE (fun h => ?_) (fun h => ?_) | refine condV (fun h => ?_) (fun h => ?_))
    refine ev_seq (b := suf 3 f67.body) ?_
    refine W_okd 1 300 _ _ _ _ ?_
    repeat' ((conv => whnf); first | refine bslP (by first | rfl | (simp [pureL, pureLL, AV.pure]; done) | fail) rfl ?_ | refine TakeC.full (by first | rfl | omega | (simp; done) | (simp; omega) | fail) ?_ | refine zBs ?_ | refine zBn ?_ | refine zBv rfl rfl ?_ | refine zN ?_ | refine zC ?_ | refine zC4 ?_ | refine zOr16 ?_ | refine zC1 ?_ | refine zByte ?_ | refine zMaxL ?_ | refine zMaxR ?_ | refine zMinL ?_ | refine zMinR ?_ | refine zShr ?_ | refine zC8 ?_ | refine zQ ?_ | refine zR ?_ | refine zS ?_ | refine zA ?_ | refine zM ?_ | refine xr rfl ?_ | refine ai rfl ?_ | refine condT ?_ | refine condF ?_ | refine condG1 ?_ | refine condG0 ?_ | refine cD ?_ | refine dD ?_ | refine cB ?_ | refine dB ?_ | refine cN ?_ | refine dN ?_ | refine cV ?_ | refine dV ?_ | refine cE ?_ | refine dE ?_ | refine condX0 ?_ | refine condX1 ?_ | refine condNot ?_ | refine condAnd ?_ | refine condOr ?_ | refine aO ?_ | refine aB ?_ | refine aR ?_ | refine aR ?_ (by simp; omega) | refine xr (by assumption) ?_ | refine ai (by assumption) ?_ | refine condD (fun h => ?_) (fun h => ?_) | refine condB (fun h => ?_) (fun h => ?_) | refine condN (fun h => ?_) (fun h => ?_) | refine condE (fun h => ?_) (fun h => ?_) | refine condV (fun h => ?_) (fun h => ?_))
    refine ev_nil 200 1 [] [(81, some (_, .cells [.vs 200 _ 0, .bool wide, .bool false]))] trivial ⟨⟨rfl, LeP.nilV _ _ _, .refl _, .refl _, trivial⟩, trivial⟩ ?_
    refine ev_keep [7, 2, 1] [66, 81, 200] ?_
    exact enc67_3 a h1 wide false [] _ _ _ _ _ h2
  · rw [if_neg hc]
    refine gives_code (F := f67) rfl rfl (W_ok 300 _ _ _ _ ?_)
    repeat' ((conv => whnf); first | refine bslP (by first | rfl | (simp [pureL, pureLL, AV.pure]; done) | fail) rfl ?_ | refine TakeC.full (by first | rfl | omega | (simp; done) | (simp; omega) | fail) ?_ | refine zBs ?_ | refine zBn ?_ | refine zBv rfl rfl ?_ | refine zN ?_ | refine zC ?_ | refine zC4 ?_ | refine zOr16 ?_ | refine zC1 ?_ | refine zByte ?_ | refine zMaxL ?_ | refine zMaxR ?_ | refine zMinL ?_ | refine zMinR ?_ | refine zShr ?_ | refine zC8 ?_ | refine zQ ?_ | refine zR ?_ | refine zS ?_ | refine zA ?_ | refine zM ?_ | refine xr rfl ?_ | refine ai rfl ?_ | refine condT ?_ | refine condF ?_ | refine condG1 ?_ | refine condG0 ?_ | refine cD ?_ | refine dD ?_ | refine cB ?_ | refine dB ?_ | refine cN ?_ | refine dN ?_ | refine cV ?_ | refine dV ?_ | refine cE ?_ | refine dE ?_ | refine condX0 ?_ | refine condX1 ?_ | refine condNot ?_ | refine condAnd ?_ | refine condOr ?_ | refine aO ?_ | refine aB ?_ | refine aR ?_ | refine aR ?_ (by simp; omega) | refine xr (by assumption) ?_ | refine ai (by assumption) ?_ | refine kV (check_gives65 a hb) ?_ | refine condD (fun h => ?_) (fun h => ?_) | refine condB (fun h => ?_) (fun h => ?_) | refine condN (fun h => ?_) (fun h => ?_) | refine condE (fun h => ?_) (fun h => ?_) | refine condV (fun h => ?_) (fun h => ?_))
    all_goals ((first | refine ev_fin (And.intro (by first | rfl | (simp [AV.pure, pureL]; done) | fail) ?_) | refine ev_fin0 (And.intro (by first | rfl | (simp [AV.pure, pureL]; done) | fail) ?_)); rfl)
end Go.AM.IR
set_option maxHeartbeats 4000000
set_option maxRecDepth 20000
namespace Go.AM.IR
theorem rd_cons (x : UInt8) (l : List UInt8) : rd (x :: l) = x.toNat * 256 ^ l.length + rd l := by
  suffices h : ∀ (l : List UInt8) (a : Nat), l.foldl (fun x b => x * 256 + b.toNat) a = a * 256 ^ l.length + rd l by
    have := h l x.toNat; simpa [rd] using this
  intro l
  induction l with
  | nil => intro a; simp [rd]
  | cons y r ih =>
    intro a
    have h1 := ih (a * 256 + y.toNat)
    have h2 := ih y.toNat
    simp only [List.foldl_cons, rd, Nat.zero_mul, Nat.zero_add, List.length_cons, Nat.pow_succ] at h1 h2 ⊢
    rw [h1, h2, Nat.add_mul, Nat.mul_assoc, Nat.mul_comm 256 _]
    omega
theorem be_add : ∀ (j y x : Nat), be j (y * 256 ^ j + x) = be j x
  | 0, _, _ => rfl
  | j + 1, y, x => by
    have h := be_add j (y * 256) x
    rw [show y * 256 ^ (j + 1) = y * 256 * 256 ^ j from by rw [Nat.pow_succ, Nat.mul_comm (256 ^ j) 256, Nat.mul_assoc]]
    simp only [be]
    rw [h]
    congr 1
    rw [Nat.add_comm, Nat.add_mul_div_right _ _ (Nat.pow_pos (by omega))]
    apply UInt8.toNat_inj.1
    simp
theorem or16' (k : Int) (h0 : 0 ≤ k) : (flagS k ||| 16 : UInt8).toNat = (flagS k).toNat + 16 ∧ bit16 (flagS k) = false ∧ bit16 (flagS k ||| 16) = true := by
  by_cases h : k > 10
  · rw [show flagS k = 224 from by simp [flagS, h]]; decide
  · have h2 : k = 0 ∨ k = 1 ∨ k = 2 ∨ k = 3 ∨ k = 4 ∨ k = 5 ∨ k = 6 ∨ k = 7 ∨ k = 8 ∨ k = 9 ∨ k = 10 := by omega
    rcases h2 with rfl | rfl | rfl | rfl | rfl | rfl | rfl | rfl | rfl | rfl | rfl <;> decide
end Go.AM.IR
namespace Go.AM.IR
set_option maxHeartbeats 2000000
theorem bkLL_map_le {α : Type} (f : α → List AV) (g : α → Nat) (h : ∀ x, g x ≤ bkL (f x)) : ∀ l : List α, (l.map g).sum ≤ bkLL (l.map f)
  | [] => by simp
  | x :: r => by
    have := bkLL_map_le f g h r
    have := h x
    simp only [List.map_cons, List.sum_cons, bkLL]
    omega
theorem sum_one {α : Type} : ∀ l : List α, (l.map fun _ => 1).sum = l.length
  | [] => rfl
  | x :: r => by simp only [List.map_cons, List.sum_cons, List.length_cons, sum_one r]; omega
theorem len_bk {α : Type} (f : α → List AV) (h : ∀ x, 1 ≤ bkL (f x)) (l : List α) : l.length ≤ bkLL (l.map f) := by
  have := bkLL_map_le f (fun _ => 1) h l
  rwa [sum_one] at this
theorem mem_bk {α : Type} (f : α → List AV) : ∀ (l : List α) (x : α), x ∈ l → bkL (f x) ≤ bkLL (l.map f)
  | y :: r, x, h => by
    simp only [List.map_cons, bkLL]
    rcases List.mem_cons.1 h with rfl | h
    · omega
    · have := mem_bk f r x h; omega
theorem bk_bytes (l : List UInt8) : l.length ≤ bkLL (byteCells l) := len_bk (f := fun b : UInt8 => [AV.int .u8 (b.toNat : Int)]) (fun _ => by simp [bkL, AV.bk]) l
theorem seg_bk (s : Seg) : s.as.length + 1 ≤ bkL s.enc := by
  have := len_bk encI (fun _ => by simp [encI, bkL, AV.bk]) s.as
  simp only [Seg.enc, bkL, AV.bk]; omega
theorem tlv_bk (s : TLV) : s.value.length + 1 ≤ bkL s.enc := by
  have := bk_bytes s.value
  simp only [TLV.enc, bkL, AV.bk]; omega
theorem flat_len : ∀ l : List Seg, (flatS l).length = (l.map fun s => s.as.length).sum
  | [] => rfl
  | s :: r => by
    have := flat_len r
    simp only [flatS, List.flatMap_cons, List.length_append, List.map_cons, List.sum_cons] at this ⊢
    omega
theorem unk_le : ∀ l : List TLV, unkS l ≤ ((l.map fun t => t.value.length).sum : Nat)
  | [] => by simp [unkS]
  | t :: r => by
    have := unk_le r
    simp only [unkS, List.map_cons, List.sum_cons] at this ⊢
    omega
theorem ab_of (a : Attrs) (h : bkL a.enc ≤ 1048576) : AB a := by
  simp only [Attrs.enc, bkL, AV.bk] at h
  have h1 := len_bk Seg.enc (fun s => by have := seg_bk s; omega) a.path
  have h2 := bkLL_map_le Seg.enc (fun s => s.as.length) (fun s => by have := seg_bk s; omega) a.path
  have h3 := len_bk encU (fun _ => by simp [encU, bkL, AV.bk]) a.comms
  have h4 := len_bk encU (fun _ => by simp [encU, bkL, AV.bk]) a.clusters
  have h5 := len_bk TLV.enc (fun s => by have := tlv_bk s; omega) a.unknown
  have h6 := bkLL_map_le TLV.enc (fun t => t.value.length) (fun s => by have := tlv_bk s; omega) a.unknown
  have h7 := unk_le a.unknown
  rw [← flat_len] at h2
  generalize bkLL (a.path.map Seg.enc) = z1 at *
  generalize bkLL (a.comms.map encU) = z2 at *
  generalize bkLL (a.clusters.map encU) = z3 at *
  refine ⟨by omega, by omega, by omega, by omega, by omega, fun t ht => ?_, by omega⟩
  have := mem_bk TLV.enc a.unknown t ht
  have := tlv_bk t
  omega
end Go.AM.IR
