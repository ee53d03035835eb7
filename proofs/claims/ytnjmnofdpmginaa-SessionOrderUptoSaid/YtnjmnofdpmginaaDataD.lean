/- What the functions of this program give, on the abstract machine. -/
import Derived.Test.YtnjmnofdpmginaaDataC
set_option linter.unusedVariables false
set_option linter.unusedSimpArgs false
set_option maxHeartbeats 4000000
set_option maxRecDepth 20000
namespace Go.AM.IR
attribute [local simp] pureLL_bytes
def capBad (c : Cap) : Bool := decide ((c.code = 2 ∧ ¬ (c.value.length : Int) = 0) ∨ (c.code = 64 ∧ ¬ (c.value.length : Int) = 2) ∨ (c.code = 65 ∧ ¬ (c.value.length : Int) = 4))
def capsE (as : Int) : Option Int → Int → Bool → List Cap → Int
  | _, n, w, [] => if n > 253 then 4 else if as > 65535 ∧ w = false then 22 else 0
  | p, n, w, c :: r =>
    if c.code < 1 ∨ c.code > 255 then 5
    else if p.any (fun q => decide (c.code ≤ q)) then 16
    else if capBad c then 1
    else if c.code = 65 ∧ c.value ≠ be 4 (u64 as) then 14
    else capsE as (some c.code) (n + (2 + c.value.length)) (if c.code = 65 then true else w) r
def capT : List Cap → Int
  | [] => 0
  | c :: r => (2 + c.value.length) + capT r
theorem capT_nonneg : ∀ l, 0 ≤ capT l
  | [] => by simp [capT]
  | c :: r => by have := capT_nonneg r; simp only [capT]; omega
theorem caps_loop170 (l : List Cap) (m : PMsg) (hl1 : m.caps = l) (hl : l.length < 2 ^ 40) (ln : Int) (hln : ln = l.length) : ∀ (rest done : List Cap) (p : Option Int) (k : Int) (w : Bool) (T : List (Nat × AV)) (H : Heap) (c : Nat) (n : Int) (e : l = done ++ rest) (hn : n = done.length) (hp : p = done.getLast?.map Cap.code) (hk : 0 ≤ k) (hk2 : k + capT rest < 2 ^ 50), Ev G ⟨f170x24LH, ⟨(9, .sl 2 (l.map Cap.enc)) :: (10, .int .i64 ln) :: (11, .int .i64 n) :: (3, .int .i64 k) :: (1, .ref 65 1 0) :: (4, .bool w) :: T, (65, some (1, .cells m.enc)) :: H, c⟩, [.t 2], 0⟩ (⟨.int .i64 (capsE m.as p k w rest), []⟩)
  | [], done, p, k, w, T, H, c, n, e, hn, hp, hk, hk2 => by
    have hd : l.length = done.length := by simp [e]
    have hll : (l.map Cap.enc).length = l.length := by simp
    refine ev_loop' (W_ok 300 _ _ _ _ ?_)
    repeat' ((conv => whnf); first | refine bslP (by first | rfl | (simp [pureL, pureLL, AV.pure]; done) | fail) rfl ?_ | refine TakeC.full (by first | rfl | omega | (simp; done) | (simp; omega) | fail) ?_ | refine zBs ?_ | refine zBn ?_ | refine zBv rfl rfl ?_ | refine zN ?_ | refine zC ?_ | refine zC4 ?_ | refine zOr16 ?_ | refine zC1 ?_ | refine zByte ?_ | refine zMaxL ?_ | refine zMaxR ?_ | refine zMinL ?_ | refine zMinR ?_ | refine zShr ?_ | refine zC8 ?_ | refine zQ ?_ | refine zR ?_ | refine zS ?_ | refine zA ?_ | refine zM ?_ | refine xr rfl ?_ | refine ai rfl ?_ | refine condT ?_ | refine condF ?_ | refine condG1 ?_ | refine condG0 ?_ | refine cD ?_ | refine dD ?_ | refine cB ?_ | refine dB ?_ | refine cN ?_ | refine dN ?_ | refine cV ?_ | refine dV ?_ | refine cE ?_ | refine dE ?_ | refine condX0 ?_ | refine condX1 ?_ | refine condNot ?_ | refine condAnd ?_ | refine condOr ?_ | refine aO ?_ | refine aB ?_ | refine aR ?_ | refine aR ?_ (by simp; omega) | refine xr (by assumption) ?_ | refine ai (by assumption) ?_ | refine condD (fun h => ?_) (fun h => ?_) | refine condB (fun h => ?_) (fun h => ?_) | refine condN (fun h => ?_) (fun h => ?_) | refine condE (fun h => ?_) (fun h => ?_) | refine condV (fun h => ?_) (fun h => ?_))
    all_goals try ((first | refine ev_fin (And.intro (by first | rfl | (simp [AV.pure, pureL]; done) | fail) ?_) | refine ev_fin0 (And.intro (by first | rfl | (simp [AV.pure, pureL]; done) | fail) ?_)); first | rfl | (simp [capsE, Bool.cond_eq_ite, *]; done) | (simp [capsE, Bool.cond_eq_ite, *]; omega) | (unfold capsE; repeat' split; all_goals first | rfl | (exfalso; omega) | (simp_all; done) | (simp_all; omega)))
  | x :: r, done, p, k, w, T, H, c, n, e, hn, hp, hk, hk2 => by
    have hd : l.length = done.length + (r.length + 1) := by simp [e]
    have hll : (l.map Cap.enc).length = l.length := by simp
    have hx : (l.map Cap.enc)[n.toNat]? = some (Cap.enc x) := by simp [e, hn]
    have hbl := byteCells_length x.value
    have hct : capT (x :: r) = (2 + x.value.length) + capT r := rfl
    have hcr := capT_nonneg r
    rcases List.eq_nil_or_concat done with hd0 | ⟨d, q, hd1⟩
    · have hn' : n = 0 := by rw [hn, hd0]; rfl
      obtain rfl : p = none := by rw [hp, hd0]; rfl
      clear hp
      refine ev_loop' (W_ok 300 _ _ _ _ ?_)
      repeat' ((conv => whnf); first | refine zCU ?_ | refine bslP (by first | rfl | (simp [pureL, pureLL, AV.pure]; done) | fail) rfl ?_ | refine TakeC.full (by first | rfl | omega | (simp; done) | (simp; omega) | fail) ?_ | refine zBs ?_ | refine zBn ?_ | refine zBv rfl rfl ?_ | refine zN ?_ | refine zC ?_ | refine zC4 ?_ | refine zOr16 ?_ | refine zC1 ?_ | refine zByte ?_ | refine zMaxL ?_ | refine zMaxR ?_ | refine zMinL ?_ | refine zMinR ?_ | refine zShr ?_ | refine zC8 ?_ | refine zQ ?_ | refine zR ?_ | refine zS ?_ | refine zA ?_ | refine zM ?_ | refine xr rfl ?_ | refine ai rfl ?_ | refine condT ?_ | refine condF ?_ | refine condG1 ?_ | refine condG0 ?_ | refine cD ?_ | refine dD ?_ | refine cB ?_ | refine dB ?_ | refine cN ?_ | refine dN ?_ | refine cV ?_ | refine dV ?_ | refine cE ?_ | refine dE ?_ | refine condX0 ?_ | refine condX1 ?_ | refine condNot ?_ | refine condAnd ?_ | refine condOr ?_ | refine aO ?_ | refine aB ?_ | refine aR ?_ | refine aR ?_ (by simp; omega) | refine xr (by assumption) ?_ | refine ai (by assumption) ?_ | refine kN (put0_gives109 4 (u64 m.as) (by omega)) ?_ | refine condD (fun h => ?_) (fun h => ?_) | refine condB (fun h => ?_) (fun h => ?_) | refine condN (fun h => ?_) (fun h => ?_) | refine condE (fun h => ?_) (fun h => ?_) | refine condV (fun h => ?_) (fun h => ?_))
      clear hd hd0
      all_goals (try simp only [hbl] at *)
      all_goals try ((first | refine ev_fin (And.intro (by first | rfl | (simp [AV.pure, pureL]; done) | fail) ?_) | refine ev_fin0 (And.intro (by first | rfl | (simp [AV.pure, pureL]; done) | fail) ?_)); first | rfl | (simp [capsE, capBad, Bool.cond_eq_ite, *]; done) | (simp [capsE, capBad, Bool.cond_eq_ite, *]; omega) | (unfold capsE capBad; repeat' split; all_goals first | rfl | (exfalso; omega) | (simp_all; done) | (simp_all; omega)))
      all_goals first
       | (rw [show capsE m.as none k w (x :: r) = capsE m.as (some x.code) (k + (2 + x.value.length)) w r from by first | (simp [capsE, capBad, *]; done) | (simp [capsE, capBad, *]; omega)]
          refine ev_keep [9, 10, 11, 3, 1, 4] [65] ?_; exact caps_loop170 l m hl1 hl ln hln r (done ++ [x]) (some x.code) (k + (2 + x.value.length)) w _ _ _ (n + 1) (by simp [e]) (by simp [hn] <;> omega) (by simp) (by omega) (by omega)
          )
       | (rw [show capsE m.as none k w (x :: r) = capsE m.as (some x.code) (k + (2 + x.value.length)) true r from by first | (simp [capsE, capBad, *]; done) | (simp [capsE, capBad, *]; omega)]
          refine ev_keep [9, 10, 11, 3, 1, 4] [65] ?_; exact caps_loop170 l m hl1 hl ln hln r (done ++ [x]) (some x.code) (k + (2 + x.value.length)) true _ _ _ (n + 1) (by simp [e]) (by simp [hn] <;> omega) (by simp) (by omega) (by omega)
          )
    · have hn' : n - 1 = d.length := by rw [hn, hd1]; simp
      have hn2 : n > 0 := by omega
      obtain rfl : p = some q.code := by rw [hp, hd1]; simp
      clear hp
      have hml : (m.caps.map Cap.enc).length = l.length := by rw [hl1]; simp
      have hy : (m.caps.map Cap.enc)[(n - 1).toNat]? = some (Cap.enc q) := by rw [hl1, e, hd1, hn']; simp
      have hb : (n - 1).toNat < (m.caps.map Cap.enc).length := by rw [hml, hd, hd1]; simp; omega
      refine ev_loop' (W_ok 300 _ _ _ _ ?_)
      repeat' ((conv => whnf); first | refine zCU ?_ | refine bslP (by first | rfl | (simp [pureL, pureLL, AV.pure]; done) | fail) rfl ?_ | refine TakeC.full (by first | rfl | omega | (simp; done) | (simp; omega) | fail) ?_ | refine zBs ?_ | refine zBn ?_ | refine zBv rfl rfl ?_ | refine zN ?_ | refine zC ?_ | refine zC4 ?_ | refine zOr16 ?_ | refine zC1 ?_ | refine zByte ?_ | refine zMaxL ?_ | refine zMaxR ?_ | refine zMinL ?_ | refine zMinR ?_ | refine zShr ?_ | refine zC8 ?_ | refine zQ ?_ | refine zR ?_ | refine zS ?_ | refine zA ?_ | refine zM ?_ | refine xr rfl ?_ | refine ai rfl ?_ | refine condT ?_ | refine condF ?_ | refine condG1 ?_ | refine condG0 ?_ | refine cD ?_ | refine dD ?_ | refine cB ?_ | refine dB ?_ | refine cN ?_ | refine dN ?_ | refine cV ?_ | refine dV ?_ | refine cE ?_ | refine dE ?_ | refine condX0 ?_ | refine condX1 ?_ | refine condNot ?_ | refine condAnd ?_ | refine condOr ?_ | refine aO ?_ | refine aB ?_ | refine aR ?_ | refine aR ?_ (by simp; omega) | refine xr (by assumption) ?_ | refine ai (by assumption) ?_ | refine kN (put0_gives109 4 (u64 m.as) (by omega)) ?_ | refine condD (fun h => ?_) (fun h => ?_) | refine condB (fun h => ?_) (fun h => ?_) | refine condN (fun h => ?_) (fun h => ?_) | refine condE (fun h => ?_) (fun h => ?_) | refine condV (fun h => ?_) (fun h => ?_))
      clear hd hd1
      all_goals (try simp only [hbl] at *)
      all_goals try ((first | refine ev_fin (And.intro (by first | rfl | (simp [AV.pure, pureL]; done) | fail) ?_) | refine ev_fin0 (And.intro (by first | rfl | (simp [AV.pure, pureL]; done) | fail) ?_)); first | rfl | (simp [capsE, capBad, Bool.cond_eq_ite, *]; done) | (simp [capsE, capBad, Bool.cond_eq_ite, *]; omega) | (unfold capsE capBad; repeat' split; all_goals first | rfl | (exfalso; omega) | (simp_all; done) | (simp_all; omega)))
      all_goals first
       | (rw [show capsE m.as (some q.code) k w (x :: r) = capsE m.as (some x.code) (k + (2 + x.value.length)) w r from by first | (simp [capsE, capBad, *]; done) | (simp [capsE, capBad, *]; omega)]
          refine ev_keep [9, 10, 11, 3, 1, 4] [65] ?_; exact caps_loop170 l m hl1 hl ln hln r (done ++ [x]) (some x.code) (k + (2 + x.value.length)) w _ _ _ (n + 1) (by simp [e]) (by simp [hn] <;> omega) (by simp) (by omega) (by omega)
          )
       | (rw [show capsE m.as (some q.code) k w (x :: r) = capsE m.as (some x.code) (k + (2 + x.value.length)) true r from by first | (simp [capsE, capBad, *]; done) | (simp [capsE, capBad, *]; omega)]
          refine ev_keep [9, 10, 11, 3, 1, 4] [65] ?_; exact caps_loop170 l m hl1 hl ln hln r (done ++ [x]) (some x.code) (k + (2 + x.value.length)) true _ _ _ (n + 1) (by simp [e]) (by simp [hn] <;> omega) (by simp) (by omega) (by omega)
          )
end Go.AM.IR
set_option maxHeartbeats 4000000
set_option maxRecDepth 20000
namespace Go.AM.IR
attribute [local simp] pureLL_bytes
def onlyO (m : PMsg) : Bool := decide (m.withdrawn = [] ∧ m.reach = [] ∧ m.attrs = zeroA ∧ m.code = 0 ∧ m.sub = 0 ∧ m.data = [])
theorem onlyO_eq (m : PMsg) : decide (m = usedO m) = onlyO m := by
  rw [onlyO, Bool.eq_iff_iff, decide_eq_true_iff, decide_eq_true_iff, PMsg.eq_iff]
  simp only [usedO, zeroM, true_and]
  constructor
  · rintro ⟨h1, h2, h3, h4, h5, h6⟩; exact ⟨h4, h6, h5, h1, h2, h3⟩
  · rintro ⟨h1, h2, h3, h4, h5, h6⟩; exact ⟨h4, h5, h6, h1, h3, h2⟩
end Go.AM.IR
set_option maxHeartbeats 4000000
set_option maxRecDepth 20000
namespace Go.AM.IR
attribute [local simp] pureLL_bytes
theorem lenC_zero : LenC zeroA := lenM_zero.attrs
end Go.AM.IR
set_option maxHeartbeats 4000000
set_option maxRecDepth 20000
namespace Go.AM.IR
attribute [local simp] pureLL_bytes
theorem caps_gives170 (m : PMsg) (hm : m.caps.length < 2 ^ 40) (ht : capT m.caps < 2 ^ 50) : Gives G 170 [.agg m.enc] [] ⟨.int .i64 (capsE m.as none 0 false m.caps), []⟩ := by
  have l1 : (m.caps.map Cap.enc).length = m.caps.length := by simp
  refine gives_code (F := f170) rfl rfl (W_ok 300 _ _ _ _ ?_)
  repeat' ((conv => whnf); first | refine bslP (by first | rfl | (simp [pureL, pureLL, AV.pure]; done) | fail) rfl ?_ | refine TakeC.full (by first | rfl | omega | (simp; done) | (simp; omega) | fail) ?_ | refine zBs ?_ | refine zBn ?_ | refine zBv rfl rfl ?_ | refine zN ?_ | refine zC ?_ | refine zC4 ?_ | refine zOr16 ?_ | refine zC1 ?_ | refine zByte ?_ | refine zMaxL ?_ | refine zMaxR ?_ | refine zMinL ?_ | refine zMinR ?_ | refine zShr ?_ | refine zC8 ?_ | refine zQ ?_ | refine zR ?_ | refine zS ?_ | refine zA ?_ | refine zM ?_ | refine xr rfl ?_ | refine ai rfl ?_ | refine condT ?_ | refine condF ?_ | refine condG1 ?_ | refine condG0 ?_ | refine cD ?_ | refine dD ?_ | refine cB ?_ | refine dB ?_ | refine cN ?_ | refine dN ?_ | refine cV ?_ | refine dV ?_ | refine cE ?_ | refine dE ?_ | refine condX0 ?_ | refine condX1 ?_ | refine condNot ?_ | refine condAnd ?_ | refine condOr ?_ | refine aO ?_ | refine aB ?_ | refine aR ?_ | refine aR ?_ (by simp; omega) | refine xr (by assumption) ?_ | refine ai (by assumption) ?_ | refine condD (fun h => ?_) (fun h => ?_) | refine condB (fun h => ?_) (fun h => ?_) | refine condN (fun h => ?_) (fun h => ?_) | refine condE (fun h => ?_) (fun h => ?_) | refine condV (fun h => ?_) (fun h => ?_))
  refine ev_keep [9, 10, 11, 3, 1, 4] [65] ?_
  rw [l1]
  exact caps_loop170 m.caps m rfl hm _ rfl m.caps [] none 0 false _ _ _ 0 rfl rfl rfl (by omega) (by omega)
theorem zCR {k : Eff → Prop} {y : Opd} {g key : Nat} {hg : Nat → Option (Nat × Blk)} {x : List UInt8} (hx : x.length ≤ 4) (h : k { res := .int .i64 ((rd x : Nat) : Int) }) : ∃ e, aopV (.conv .i64 y) g key [.int .u64 ((rd x : Nat) : Int)] hg = some e ∧ k e := by
  have h1 := rd_le hx
  exact zC h (by omega) (by omega)
theorem get2_gives110 (v : List UInt8) (hv : v.length = 2) : Gives G 110 [.sl 1 (byteCells v), .int .i64 0, .int .i64 2] [] ⟨.tup [.int .u64 (rd v : Nat), .bool true], []⟩ := by
  have h := get_gives110 v (by omega) 0 2 (by omega) (by omega) (by omega) (by omega)
  rw [show (v.drop (0 : Int).toNat).take (2 : Int).toNat = v from by rw [show (0 : Int).toNat = 0 from rfl, List.drop_zero, List.take_of_length_le (by rw [hv]; decide)]] at h
  exact h
end Go.AM.IR
