/- What the functions of this program give, on the abstract machine. -/
import Derived.Test.YtnjmnofdpmginaaDataC
import Derived.Test.YtnjmnofdpmginaaDataA
set_option linter.unusedVariables false
set_option linter.unusedSimpArgs false
set_option maxHeartbeats 4000000
set_option maxRecDepth 20000
namespace Go.AM.IR
attribute [local simp] pureLL_bytes
def lzA : AV := .agg [.int .i64 0, nilV, .int .u32 0, .bool false, .int .i64 0, .bool false, .int .i64 0, .bool false, .bool false, .int .i64 0, .int .u32 0, nilV, .bool false, .int .u32 0, nilV, nilV]
theorem lenC_zero : LenC zeroA := lenM_zero.attrs
theorem sameZ_gives70 (a : Attrs) (ha : LenC a) : Gives G 70 [.agg a.enc, lzA] [] ⟨.bool (decide (a = zeroA)), []⟩ :=
  gives_le rfl (same_gives70 a zeroA ha lenC_zero) ⟨.refl _, LeP.agg (by repeat' (first | exact trivial | exact LeP.refl _ | exact LeP.nil _ | refine LeP.sl ?_ | refine ⟨?_, ?_⟩)), trivial⟩
theorem unused_gives160 (m : PMsg) (hm : LenM m) (hk : m.kind = 1) : Gives G 160 [.agg m.enc] [] ⟨.bool (onlyO m), []⟩ := by
  have h1 := sameZ_gives70 m.attrs hm.attrs
  unfold lzA nilV at h1
  have hb := byteCells_length m.data
  have hl1 : (m.withdrawn.map Pfx.enc).length = m.withdrawn.length := by simp
  have hl2 : (m.reach.map Pfx.enc).length = m.reach.length := by simp
  have hl3 : (m.caps.map Cap.enc).length = m.caps.length := by simp
  have heq : onlyO m = decide ((m.withdrawn.length : Int) = 0 ∧ (m.reach.length : Int) = 0 ∧ m.attrs = zeroA ∧ m.code = 0 ∧ m.sub = 0 ∧ (m.data.length : Int) = 0) := by simp [onlyO]
  rw [heq]
  have hk2 : (m.kind == 2) = false := by rw [hk]; rfl
  have hk3 : (m.kind == 3) = false := by rw [hk]; rfl
  refine gives_code (F := f160) rfl rfl (W_ok 300 _ _ _ _ ?_)
  repeat' ((conv => whnf); first | refine bslP (by first | rfl | (simp [pureL, pureLL, AV.pure]; done) | fail) rfl ?_ | refine TakeC.full (by first | rfl | omega | (simp; done) | (simp; omega) | fail) ?_ | refine zBs ?_ | refine zBn ?_ | refine zBv rfl rfl ?_ | refine zN ?_ | refine zC ?_ | refine zC4 ?_ | refine zOr16 ?_ | refine zC1 ?_ | refine zByte ?_ | refine zMaxL ?_ | refine zMaxR ?_ | refine zMinL ?_ | refine zMinR ?_ | refine zShr ?_ | refine zC8 ?_ | refine zQ ?_ | refine zR ?_ | refine zS ?_ | refine zA ?_ | refine zM ?_ | refine xr rfl ?_ | refine ai rfl ?_ | refine condT ?_ | refine condF ?_ | refine condG1 ?_ | refine condG0 ?_ | refine cD ?_ | refine dD ?_ | refine cB ?_ | refine dB ?_ | refine cN ?_ | refine dN ?_ | refine cV ?_ | refine dV ?_ | refine cE ?_ | refine dE ?_ | refine condX0 ?_ | refine condX1 ?_ | refine condNot ?_ | refine condAnd ?_ | refine condOr ?_ | refine aO ?_ | refine aB ?_ | refine aR ?_ | refine aR ?_ (by simp; omega) | refine xr (by assumption) ?_ | refine ai (by assumption) ?_ | refine kV (h1) ?_ | refine condD (fun h => ?_) (fun h => ?_) | refine condB (fun h => ?_) (fun h => ?_) | refine condN (fun h => ?_) (fun h => ?_) | refine condE (fun h => ?_) (fun h => ?_) | refine condV (fun h => ?_) (fun h => ?_))
  all_goals (try simp only [hb, hl1, hl2, hl3] at *)
  clear h1
  all_goals (try (first | refine ev_fin (And.intro (by first | rfl | (simp [AV.pure, pureL]; done) | fail) ?_) | refine ev_fin0 (And.intro (by first | rfl | (simp [AV.pure, pureL]; done) | fail) ?_)))
  all_goals first | rfl | (refine rBl ?_; first | (simp [*]; done) | (symm; (try rw [hk3]); (try rw [hk2]); rw [decide_eq_false_iff_not]; omega) | (symm; (try rw [hk3]); (try rw [hk2]); rw [decide_eq_false_iff_not]; rintro ⟨_, _, _, _, _, _⟩; contradiction))
end Go.AM.IR
set_option maxHeartbeats 4000000
set_option maxRecDepth 20000
namespace Go.AM.IR
attribute [local simp] pureLL_bytes
theorem caps_gives170 (m : PMsg) (hm : m.caps.length < 2 ^ 40) (ht : capT m.caps < 2 ^ 50) : Gives G 170 [.agg m.enc] [] ⟨.int .i64 (capsE m.as none 0 false m.caps), []⟩ := by
  have l1 : (m.caps.map Cap.enc).length = m.caps.length := by simp
  refine gives_code (F := f170) rfl rfl (W_ok 300 _ _ _ _ ?_)
  repeat' ((conv => whnf); first | refine bslP (by first | rfl | (simp [pureL, pureLL, AV.pure]; done) | fail) rfl ?_ | refine TakeC.full (by first | rfl | omega | (simp; done) | (simp; omega) | fail) ?_ | refine zBs ?_ | refine zBn ?_ | refine zBv rfl rfl ?_ | refine zN ?_ | refine zC ?_ | refine zC4 ?_ | refine zOr16 ?_ | refine zC1 ?_ | refine zByte ?_ | refine zMaxL ?_ | refine zMaxR ?_ | refine zMinL ?_ | refine zMinR ?_ | refine zShr ?_ | refine zC8 ?_ | refine zQ ?_ | refine zR ?_ | refine zS ?_ | refine zA ?_ | refine zM ?_ | refine xr rfl ?_ | refine ai rfl ?_ | refine condT ?_ | refine condF ?_ | refine condG1 ?_ | refine condG0 ?_ | refine cD ?_ | refine dD ?_ | refine cB ?_ | refine dB ?_ | refine cN ?_ | refine dN ?_ | refine cV ?_ | refine dV ?_ | refine cE ?_ | refine dE ?_ | refine condX0 ?_ | refine condX1 ?_ | refine condNot ?_ | refine condAnd ?_ | refine condOr ?_ | refine aO ?_ | refine aB ?_ | refine aR ?_ | refine aR ?_ (by simp; omega) | refine xr (by assumption) ?_ | refine ai (by assumption) ?_ | refine condD (fun h => ?_) (fun h => ?_) | refine condB (fun h => ?_) (fun h => ?_) | refine condN (fun h => ?_) (fun h => ?_) | refine condE (fun h => ?_) (fun h => ?_) | refine condV (fun h => ?_) (fun h => ?_))
  refine ev_keep [9, 10, 11, 3, 1, 4] [65] ?_
  rw [l1]
  exact caps_loop170 m.caps m rfl hm _ rfl m.caps [] none 0 false _ _ _ 0 rfl rfl rfl (by omega) (by omega)
theorem be_rd4 {v : List UInt8} {as : Int} (hv : v.length = 4) (h1 : 0 ≤ as) (h2 : as ≤ 4294967295) : ((rd v : Nat) : Int) = as ↔ v = be 4 (u64 as) := by
  have hu : ((u64 as : Nat) : Int) = as := by unfold u64; omega
  constructor
  · intro h
    have : rd v = u64 as := by omega
    rw [← this, be_rd' hv]
  · intro h
    rw [h, rd_be 4 _ (by omega), hu]
theorem zCR {k : Eff → Prop} {y : Opd} {g key : Nat} {hg : Nat → Option (Nat × Blk)} {x : List UInt8} (hx : x.length ≤ 4) (h : k { res := .int .i64 ((rd x : Nat) : Int) }) : ∃ e, aopV (.conv .i64 y) g key [.int .u64 ((rd x : Nat) : Int)] hg = some e ∧ k e := by
  have h1 := rd_le hx
  exact zC h (by omega) (by omega)
theorem get4_gives113 (v : List UInt8) (hv : v.length = 4) : Gives G 113 [.sl 1 (byteCells v), .int .i64 0, .int .i64 4] [] ⟨.tup [.int .u64 (rd v : Nat), .bool true], []⟩ := by
  have h := get_gives113 v (by omega) 0 4 (by omega) (by omega) (by omega) (by omega)
  rw [show (v.drop (0 : Int).toNat).take (4 : Int).toNat = v from by rw [show (0 : Int).toNat = 0 from rfl, List.drop_zero, List.take_of_length_le (by rw [hv]; decide)]] at h
  exact h
theorem get2_gives113 (v : List UInt8) (hv : v.length = 2) : Gives G 113 [.sl 1 (byteCells v), .int .i64 0, .int .i64 2] [] ⟨.tup [.int .u64 (rd v : Nat), .bool true], []⟩ := by
  have h := get_gives113 v (by omega) 0 2 (by omega) (by omega) (by omega) (by omega)
  rw [show (v.drop (0 : Int).toNat).take (2 : Int).toNat = v from by rw [show (0 : Int).toNat = 0 from rfl, List.drop_zero, List.take_of_length_le (by rw [hv]; decide)]] at h
  exact h
theorem get2_gives110 (v : List UInt8) (hv : v.length = 2) : Gives G 110 [.sl 1 (byteCells v), .int .i64 0, .int .i64 2] [] ⟨.tup [.int .u64 (rd v : Nat), .bool true], []⟩ := by
  have h := get_gives110 v (by omega) 0 2 (by omega) (by omega) (by omega) (by omega)
  rw [show (v.drop (0 : Int).toNat).take (2 : Int).toNat = v from by rw [show (0 : Int).toNat = 0 from rfl, List.drop_zero, List.take_of_length_le (by rw [hv]; decide)]] at h
  exact h
theorem caps_loop173 (l : List Cap) (m : PMsg) (hl1 : m.caps = l) (ha1 : 0 ≤ m.as) (ha2 : m.as ≤ 4294967295) (hl : l.length < 2 ^ 40) (ln : Int) (hln : ln = l.length) : ∀ (rest done : List Cap) (p : Option Int) (k : Int) (w : Bool) (T : List (Nat × AV)) (H : Heap) (c : Nat) (n : Int) (e : l = done ++ rest) (hn : n = done.length) (hp : p = done.getLast?.map Cap.code) (hk : 0 ≤ k) (hk2 : k + capT rest < 2 ^ 50), Ev G ⟨f173x19LH, ⟨(10, .sl 2 (l.map Cap.enc)) :: (11, .int .i64 ln) :: (12, .int .i64 n) :: (3, .int .i64 k) :: (1, .ref 65 1 0) :: (4, .bool w) :: T, (65, some (1, .cells m.enc)) :: H, c⟩, [.t 2], 0⟩ (⟨.int .i64 (capsE m.as p k w rest), []⟩)
  | [], done, p, k, w, T, H, c, n, e, hn, hp, hk, hk2 => by
    have hd : l.length = done.length := by simp [e]
    have hll : (l.map Cap.enc).length = l.length := by simp
    refine ev_loop' (W_ok 300 _ _ _ _ ?_)
    repeat' ((conv => whnf); first | refine bslP (by first | rfl | (simp [pureL, pureLL, AV.pure]; done) | fail) rfl ?_ | refine TakeC.full (by first | rfl | omega | (simp; done) | (simp; omega) | fail) ?_ | refine zBs ?_ | refine zBn ?_ | refine zBv rfl rfl ?_ | refine zN ?_ | refine zC ?_ | refine zC4 ?_ | refine zOr16 ?_ | refine zC1 ?_ | refine zByte ?_ | refine zMaxL ?_ | refine zMaxR ?_ | refine zMinL ?_ | refine zMinR ?_ | refine zShr ?_ | refine zC8 ?_ | refine zQ ?_ | refine zR ?_ | refine zS ?_ | refine zA ?_ | refine zM ?_ | refine xr rfl ?_ | refine ai rfl ?_ | refine condT ?_ | refine condF ?_ | refine condG1 ?_ | refine condG0 ?_ | refine cD ?_ | refine dD ?_ | refine cB ?_ | refine dB ?_ | refine cN ?_ | refine dN ?_ | refine cV ?_ | refine dV ?_ | refine cE ?_ | refine dE ?_ | refine condX0 ?_ | refine condX1 ?_ | refine condNot ?_ | refine condAnd ?_ | refine condOr ?_ | refine aO ?_ | refine aB ?_ | refine aR ?_ | refine aR ?_ (by simp; omega) | refine xr (by assumption) ?_ | refine ai (by assumption) ?_ | refine condD (fun h => ?_) (fun h => ?_) | refine condB (fun h => ?_) (fun h => ?_) | refine condN (fun h => ?_) (fun h => ?_) | refine condE (fun h => ?_) (fun h => ?_) | refine condV (fun h => ?_) (fun h => ?_))
    all_goals try ((first | refine ev_fin (And.intro (by first | rfl | (simp [AV.pure, pureL]; done) | fail) ?_) | refine ev_fin0 (And.intro (by first | rfl | (simp [AV.pure, pureL]; done) | fail) ?_)); first | rfl | (simp [capsE, Bool.cond_eq_ite, *]; done) | (simp [capsE, Bool.cond_eq_ite, *]; omega) | (unfold capsE; repeat' split; all_goals first | rfl | (exfalso; omega) | (simp_all; done) | (simp_all; omega)))
  | x :: r, done, p, k, w, T, H, c, n, e, hn, hp, hk, hk2 => by
    have hd : l.length = done.length + (r.length + 1) := by simp [e]
    have hll : (l.map Cap.enc).length = l.length := by simp
    have hx : (l.map Cap.enc)[n.toNat]? = some (Cap.enc x) := by simp [e, hn]
    have hbl := byteCells_length x.value
    have hct : capT (x :: r) = (2 + x.value.length) + capT r := rfl
    have hcr := capT_nonneg r
    have hbr : (x.value.length : Int) = 4 → ((x.value = be 4 (u64 m.as)) = (((rd x.value : Nat) : Int) = m.as)) := fun hv => propext (be_rd4 (by omega) ha1 ha2).symm
    have hrd := rd_lt x.value
    rcases List.eq_nil_or_concat done with hd0 | ⟨d, q, hd1⟩
    · have hn' : n = 0 := by rw [hn, hd0]; rfl
      obtain rfl : p = none := by rw [hp, hd0]; rfl
      clear hp
      refine ev_loop' (W_ok 300 _ _ _ _ ?_)
      repeat' ((conv => whnf); first | refine kV (get4_gives113 x.value (by omega)) ?_ | refine zCR (x := x.value) (by omega) ?_ | refine bslP (by first | rfl | (simp [pureL, pureLL, AV.pure]; done) | fail) rfl ?_ | refine TakeC.full (by first | rfl | omega | (simp; done) | (simp; omega) | fail) ?_ | refine zBs ?_ | refine zBn ?_ | refine zBv rfl rfl ?_ | refine zN ?_ | refine zC ?_ | refine zC4 ?_ | refine zOr16 ?_ | refine zC1 ?_ | refine zByte ?_ | refine zMaxL ?_ | refine zMaxR ?_ | refine zMinL ?_ | refine zMinR ?_ | refine zShr ?_ | refine zC8 ?_ | refine zQ ?_ | refine zR ?_ | refine zS ?_ | refine zA ?_ | refine zM ?_ | refine xr rfl ?_ | refine ai rfl ?_ | refine condT ?_ | refine condF ?_ | refine condG1 ?_ | refine condG0 ?_ | refine cD ?_ | refine dD ?_ | refine cB ?_ | refine dB ?_ | refine cN ?_ | refine dN ?_ | refine cV ?_ | refine dV ?_ | refine cE ?_ | refine dE ?_ | refine condX0 ?_ | refine condX1 ?_ | refine condNot ?_ | refine condAnd ?_ | refine condOr ?_ | refine aO ?_ | refine aB ?_ | refine aR ?_ | refine aR ?_ (by simp; omega) | refine xr (by assumption) ?_ | refine ai (by assumption) ?_ | refine condD (fun h => ?_) (fun h => ?_) | refine condB (fun h => ?_) (fun h => ?_) | refine condN (fun h => ?_) (fun h => ?_) | refine condE (fun h => ?_) (fun h => ?_) | refine condV (fun h => ?_) (fun h => ?_))
      all_goals (try simp only [hbl] at *)
      all_goals try ((first | refine ev_fin (And.intro (by first | rfl | (simp [AV.pure, pureL]; done) | fail) ?_) | refine ev_fin0 (And.intro (by first | rfl | (simp [AV.pure, pureL]; done) | fail) ?_)); first | rfl | (simp [capsE, capBad, Bool.cond_eq_ite, *]; done) | (simp [capsE, capBad, Bool.cond_eq_ite, *]; omega) | (unfold capsE capBad; repeat' split; all_goals first | rfl | (exfalso; omega) | (simp_all; done) | (simp_all; omega)))
      all_goals first
       | (rw [show capsE m.as none k w (x :: r) = capsE m.as (some x.code) (k + (2 + x.value.length)) w r from by first | (simp [capsE, capBad, *]; done) | (simp [capsE, capBad, *]; omega)]
          refine ev_keep [10, 11, 12, 3, 1, 4] [65] ?_; exact caps_loop173 l m hl1 ha1 ha2 hl ln hln r (done ++ [x]) (some x.code) (k + (2 + x.value.length)) w _ _ _ (n + 1) (by simp [e]) (by simp [hn] <;> omega) (by simp) (by omega) (by omega)
          )
       | (rw [show capsE m.as none k w (x :: r) = capsE m.as (some x.code) (k + (2 + x.value.length)) true r from by first | (simp [capsE, capBad, *]; done) | (simp [capsE, capBad, *]; omega)]
          refine ev_keep [10, 11, 12, 3, 1, 4] [65] ?_; exact caps_loop173 l m hl1 ha1 ha2 hl ln hln r (done ++ [x]) (some x.code) (k + (2 + x.value.length)) true _ _ _ (n + 1) (by simp [e]) (by simp [hn] <;> omega) (by simp) (by omega) (by omega)
          )
    · have hn' : n - 1 = d.length := by rw [hn, hd1]; simp
      have hn2 : n > 0 := by omega
      obtain rfl : p = some q.code := by rw [hp, hd1]; simp
      clear hp
      have hml : (m.caps.map Cap.enc).length = l.length := by rw [hl1]; simp
      have hy : (m.caps.map Cap.enc)[(n - 1).toNat]? = some (Cap.enc q) := by rw [hl1, e, hd1, hn']; simp
      have hb : (n - 1).toNat < (m.caps.map Cap.enc).length := by rw [hml, hd, hd1]; simp; omega
      refine ev_loop' (W_ok 300 _ _ _ _ ?_)
      repeat' ((conv => whnf); first | refine kV (get4_gives113 x.value (by omega)) ?_ | refine zCR (x := x.value) (by omega) ?_ | refine bslP (by first | rfl | (simp [pureL, pureLL, AV.pure]; done) | fail) rfl ?_ | refine TakeC.full (by first | rfl | omega | (simp; done) | (simp; omega) | fail) ?_ | refine zBs ?_ | refine zBn ?_ | refine zBv rfl rfl ?_ | refine zN ?_ | refine zC ?_ | refine zC4 ?_ | refine zOr16 ?_ | refine zC1 ?_ | refine zByte ?_ | refine zMaxL ?_ | refine zMaxR ?_ | refine zMinL ?_ | refine zMinR ?_ | refine zShr ?_ | refine zC8 ?_ | refine zQ ?_ | refine zR ?_ | refine zS ?_ | refine zA ?_ | refine zM ?_ | refine xr rfl ?_ | refine ai rfl ?_ | refine condT ?_ | refine condF ?_ | refine condG1 ?_ | refine condG0 ?_ | refine cD ?_ | refine dD ?_ | refine cB ?_ | refine dB ?_ | refine cN ?_ | refine dN ?_ | refine cV ?_ | refine dV ?_ | refine cE ?_ | refine dE ?_ | refine condX0 ?_ | refine condX1 ?_ | refine condNot ?_ | refine condAnd ?_ | refine condOr ?_ | refine aO ?_ | refine aB ?_ | refine aR ?_ | refine aR ?_ (by simp; omega) | refine xr (by assumption) ?_ | refine ai (by assumption) ?_ | refine condD (fun h => ?_) (fun h => ?_) | refine condB (fun h => ?_) (fun h => ?_) | refine condN (fun h => ?_) (fun h => ?_) | refine condE (fun h => ?_) (fun h => ?_) | refine condV (fun h => ?_) (fun h => ?_))
      all_goals (try simp only [hbl] at *)
      all_goals try ((first | refine ev_fin (And.intro (by first | rfl | (simp [AV.pure, pureL]; done) | fail) ?_) | refine ev_fin0 (And.intro (by first | rfl | (simp [AV.pure, pureL]; done) | fail) ?_)); first | rfl | (simp [capsE, capBad, Bool.cond_eq_ite, *]; done) | (simp [capsE, capBad, Bool.cond_eq_ite, *]; omega) | (unfold capsE capBad; repeat' split; all_goals first | rfl | (exfalso; omega) | (simp_all; done) | (simp_all; omega)))
      all_goals first
       | (rw [show capsE m.as (some q.code) k w (x :: r) = capsE m.as (some x.code) (k + (2 + x.value.length)) w r from by first | (simp [capsE, capBad, *]; done) | (simp [capsE, capBad, *]; omega)]
          refine ev_keep [10, 11, 12, 3, 1, 4] [65] ?_; exact caps_loop173 l m hl1 ha1 ha2 hl ln hln r (done ++ [x]) (some x.code) (k + (2 + x.value.length)) w _ _ _ (n + 1) (by simp [e]) (by simp [hn] <;> omega) (by simp) (by omega) (by omega)
          )
       | (rw [show capsE m.as (some q.code) k w (x :: r) = capsE m.as (some x.code) (k + (2 + x.value.length)) true r from by first | (simp [capsE, capBad, *]; done) | (simp [capsE, capBad, *]; omega)]
          refine ev_keep [10, 11, 12, 3, 1, 4] [65] ?_; exact caps_loop173 l m hl1 ha1 ha2 hl ln hln r (done ++ [x]) (some x.code) (k + (2 + x.value.length)) true _ _ _ (n + 1) (by simp [e]) (by simp [hn] <;> omega) (by simp) (by omega) (by omega)
          )
theorem caps_gives173 (m : PMsg) (hm : m.caps.length < 2 ^ 40) (ht : capT m.caps < 2 ^ 50) (ha1 : 0 ≤ m.as) (ha2 : m.as ≤ 4294967295) : Gives G 173 [.agg m.enc] [] ⟨.int .i64 (capsE m.as none 0 false m.caps), []⟩ := by
  have l1 : (m.caps.map Cap.enc).length = m.caps.length := by simp
  refine gives_code (F := f173) rfl rfl (W_ok 300 _ _ _ _ ?_)
  repeat' ((conv => whnf); first | refine bslP (by first | rfl | (simp [pureL, pureLL, AV.pure]; done) | fail) rfl ?_ | refine TakeC.full (by first | rfl | omega | (simp; done) | (simp; omega) | fail) ?_ | refine zBs ?_ | refine zBn ?_ | refine zBv rfl rfl ?_ | refine zN ?_ | refine zC ?_ | refine zC4 ?_ | refine zOr16 ?_ | refine zC1 ?_ | refine zByte ?_ | refine zMaxL ?_ | refine zMaxR ?_ | refine zMinL ?_ | refine zMinR ?_ | refine zShr ?_ | refine zC8 ?_ | refine zQ ?_ | refine zR ?_ | refine zS ?_ | refine zA ?_ | refine zM ?_ | refine xr rfl ?_ | refine ai rfl ?_ | refine condT ?_ | refine condF ?_ | refine condG1 ?_ | refine condG0 ?_ | refine cD ?_ | refine dD ?_ | refine cB ?_ | refine dB ?_ | refine cN ?_ | refine dN ?_ | refine cV ?_ | refine dV ?_ | refine cE ?_ | refine dE ?_ | refine condX0 ?_ | refine condX1 ?_ | refine condNot ?_ | refine condAnd ?_ | refine condOr ?_ | refine aO ?_ | refine aB ?_ | refine aR ?_ | refine aR ?_ (by simp; omega) | refine xr (by assumption) ?_ | refine ai (by assumption) ?_ | refine condD (fun h => ?_) (fun h => ?_) | refine condB (fun h => ?_) (fun h => ?_) | refine condN (fun h => ?_) (fun h => ?_) | refine condE (fun h => ?_) (fun h => ?_) | refine condV (fun h => ?_) (fun h => ?_))
  refine ev_keep [10, 11, 12, 3, 1, 4] [65] ?_
  rw [l1]
  exact caps_loop173 m.caps m rfl ha1 ha2 hm _ rfl m.caps [] none 0 false _ _ _ 0 rfl rfl rfl (by omega) (by omega)
end Go.AM.IR
set_option maxHeartbeats 4000000
set_option maxRecDepth 20000
namespace Go.AM.IR
theorem notify_gives145 (a b : Int) : Gives G 145 [.int .i64 a, .int .i64 b] [] ⟨.agg (PMsg.enc { zeroM with kind := 3, code := a, sub := b }), []⟩ := by
  refine gives_code (F := f145) rfl rfl (W_ok 300 _ _ _ _ ?_)
  repeat' ((conv => whnf); first | refine bslP (by first | rfl | (simp [pureL, pureLL, AV.pure]; done) | fail) rfl ?_ | refine TakeC.full (by first | rfl | omega | (simp; done) | (simp; omega) | fail) ?_ | refine zBs ?_ | refine zBn ?_ | refine zBv rfl rfl ?_ | refine zN ?_ | refine zC ?_ | refine zC4 ?_ | refine zOr16 ?_ | refine zC1 ?_ | refine zByte ?_ | refine zMaxL ?_ | refine zMaxR ?_ | refine zMinL ?_ | refine zMinR ?_ | refine zShr ?_ | refine zC8 ?_ | refine zQ ?_ | refine zR ?_ | refine zS ?_ | refine zA ?_ | refine zM ?_ | refine xr rfl ?_ | refine ai rfl ?_ | refine condT ?_ | refine condF ?_ | refine condG1 ?_ | refine condG0 ?_ | refine cD ?_ | refine dD ?_ | refine cB ?_ | refine dB ?_ | refine cN ?_ | refine dN ?_ | refine cV ?_ | refine dV ?_ | refine cE ?_ | refine dE ?_ | refine condX0 ?_ | refine condX1 ?_ | refine condNot ?_ | refine condAnd ?_ | refine condOr ?_ | refine aO ?_ | refine aB ?_ | refine aR ?_ | refine aR ?_ (by simp; omega) | refine xr (by assumption) ?_ | refine ai (by assumption) ?_ | refine condD (fun h => ?_) (fun h => ?_) | refine condB (fun h => ?_) (fun h => ?_) | refine condN (fun h => ?_) (fun h => ?_) | refine condE (fun h => ?_) (fun h => ?_) | refine condV (fun h => ?_) (fun h => ?_))
  refine ev_le [] [(68, some (_, .cells ((PMsg.enc { zeroM with kind := 3, code := a, sub := b }))))] trivial ⟨⟨rfl, (by repeat' (first | exact trivial | exact LeP.refl _ | exact LeP.nil _ | refine LeP.sl ?_ | refine ⟨?_, ?_⟩))⟩, trivial⟩ ?_
  (first | refine ev_fin (And.intro (by first | rfl | (simp [AV.pure, pureL]; done) | fail) ?_) | refine ev_fin0 (And.intro (by first | rfl | (simp [AV.pure, pureL]; done) | fail) ?_)); (conv => whnf); refine And.intro (by first | rfl | (simp [AV.pure, pureL, pureLL, *]; done) | fail) ?_
  rfl
end Go.AM.IR
set_option maxHeartbeats 4000000
set_option maxRecDepth 20000
namespace Go.AM.IR
attribute [local simp] pureLL_bytes
def openX (m : PMsg) : Int :=
  if m.version ≠ 4 then 12 else if m.as < 1 ∨ m.as > 4294967295 then 5 else if m.hold ≠ 0 ∧ (m.hold < 3 ∨ m.hold > 65535) then 21 else if m.router = 0 then 1 else capsE m.as none 0 false m.caps
structure LenO (m : PMsg) : Prop where
  len : LenM m
  capT : capT m.caps < 2 ^ 50
theorem lenM_used (m : PMsg) (h : LenM m) : LenM (usedO m) := ⟨h.caps, by simp [usedO, zeroM], by simp [usedO, zeroM], lenC_zero⟩
theorem open_gives158 (m : PMsg) (h : LenO m) : Gives G 158 [.agg m.enc] [] ⟨.int .i64 (openX m), []⟩ := by
  have hc := caps_gives170 m h.len.caps h.capT
  generalize hce : capsE m.as none 0 false m.caps = ce at hc
  refine gives_code (F := f158) rfl rfl (W_ok 300 _ _ _ _ ?_)
  repeat' ((conv => whnf); first | refine bslP (by first | rfl | (simp [pureL, pureLL, AV.pure]; done) | fail) rfl ?_ | refine TakeC.full (by first | rfl | omega | (simp; done) | (simp; omega) | fail) ?_ | refine zBs ?_ | refine zBn ?_ | refine zBv rfl rfl ?_ | refine zN ?_ | refine zC ?_ | refine zC4 ?_ | refine zOr16 ?_ | refine zC1 ?_ | refine zByte ?_ | refine zMaxL ?_ | refine zMaxR ?_ | refine zMinL ?_ | refine zMinR ?_ | refine zShr ?_ | refine zC8 ?_ | refine zQ ?_ | refine zR ?_ | refine zS ?_ | refine zA ?_ | refine zM ?_ | refine xr rfl ?_ | refine ai rfl ?_ | refine condT ?_ | refine condF ?_ | refine condG1 ?_ | refine condG0 ?_ | refine cD ?_ | refine dD ?_ | refine cB ?_ | refine dB ?_ | refine cN ?_ | refine dN ?_ | refine cV ?_ | refine dV ?_ | refine cE ?_ | refine dE ?_ | refine condX0 ?_ | refine condX1 ?_ | refine condNot ?_ | refine condAnd ?_ | refine condOr ?_ | refine aO ?_ | refine aB ?_ | refine aR ?_ | refine aR ?_ (by simp; omega) | refine xr (by assumption) ?_ | refine ai (by assumption) ?_ | refine kV (hc) ?_ | refine condD (fun h => ?_) (fun h => ?_) | refine condB (fun h => ?_) (fun h => ?_) | refine condN (fun h => ?_) (fun h => ?_) | refine condE (fun h => ?_) (fun h => ?_) | refine condV (fun h => ?_) (fun h => ?_))
  all_goals try ((first | refine ev_fin (And.intro (by first | rfl | (simp [AV.pure, pureL]; done) | fail) ?_) | refine ev_fin0 (And.intro (by first | rfl | (simp [AV.pure, pureL]; done) | fail) ?_)); first | rfl | (simp [openX, Bool.cond_eq_ite, *]; done) | (simp [openX, Bool.cond_eq_ite, *]; omega) | (unfold openX; repeat' split; all_goals first | rfl | (exfalso; omega) | (simp_all; done) | (simp_all; omega)))
theorem open_gives161 (m : PMsg) (h : LenO m) : Gives G 161 [.agg m.enc] [] ⟨.int .i64 (openX m), []⟩ := by
  have hc := caps_gives173 m h.len.caps h.capT
  generalize hce : capsE m.as none 0 false m.caps = ce at hc
  refine gives_code (F := f161) rfl rfl (W_ok 300 _ _ _ _ ?_)
  repeat' ((conv => whnf); first | refine bslP (by first | rfl | (simp [pureL, pureLL, AV.pure]; done) | fail) rfl ?_ | refine TakeC.full (by first | rfl | omega | (simp; done) | (simp; omega) | fail) ?_ | refine zBs ?_ | refine zBn ?_ | refine zBv rfl rfl ?_ | refine zN ?_ | refine zC ?_ | refine zC4 ?_ | refine zOr16 ?_ | refine zC1 ?_ | refine zByte ?_ | refine zMaxL ?_ | refine zMaxR ?_ | refine zMinL ?_ | refine zMinR ?_ | refine zShr ?_ | refine zC8 ?_ | refine zQ ?_ | refine zR ?_ | refine zS ?_ | refine zA ?_ | refine zM ?_ | refine xr rfl ?_ | refine ai rfl ?_ | refine condT ?_ | refine condF ?_ | refine condG1 ?_ | refine condG0 ?_ | refine cD ?_ | refine dD ?_ | refine cB ?_ | refine dB ?_ | refine cN ?_ | refine dN ?_ | refine cV ?_ | refine dV ?_ | refine cE ?_ | refine dE ?_ | refine condX0 ?_ | refine condX1 ?_ | refine condNot ?_ | refine condAnd ?_ | refine condOr ?_ | refine aO ?_ | refine aB ?_ | refine aR ?_ | refine aR ?_ (by simp; omega) | refine xr (by assumption) ?_ | refine ai (by assumption) ?_ | refine kV (hc (by omega) (by omega)) ?_ | refine condD (fun h => ?_) (fun h => ?_) | refine condB (fun h => ?_) (fun h => ?_) | refine condN (fun h => ?_) (fun h => ?_) | refine condE (fun h => ?_) (fun h => ?_) | refine condV (fun h => ?_) (fun h => ?_))
  all_goals try ((first | refine ev_fin (And.intro (by first | rfl | (simp [AV.pure, pureL]; done) | fail) ?_) | refine ev_fin0 (And.intro (by first | rfl | (simp [AV.pure, pureL]; done) | fail) ?_)); first | rfl | (simp [openX, Bool.cond_eq_ite, *]; done) | (simp [openX, Bool.cond_eq_ite, *]; omega) | (unfold openX; repeat' split; all_goals first | rfl | (exfalso; omega) | (simp_all; done) | (simp_all; omega)))
def checkO (m : PMsg) : Int := if onlyO m = true then openX m else 1
theorem check_gives144 (m : PMsg) (h : LenO m) (hk : m.kind = 1) : Gives G 144 [.agg m.enc] [] ⟨.int .i64 (checkO m), []⟩ := by
  have h1 := used_gives157 m hk
  have h2 := same_gives156 m (usedO m) h.len (lenM_used m h.len)
  rw [onlyO_eq m] at h2
  have h3 := open_gives158 m h
  generalize hoe : openX m = oe at h3
  generalize hon : onlyO m = b at h2
  refine gives_code (F := f144) rfl rfl (W_ok 300 _ _ _ _ ?_)
  repeat' ((conv => whnf); first | refine bslP (by first | rfl | (simp [pureL, pureLL, AV.pure]; done) | fail) rfl ?_ | refine TakeC.full (by first | rfl | omega | (simp; done) | (simp; omega) | fail) ?_ | refine zBs ?_ | refine zBn ?_ | refine zBv rfl rfl ?_ | refine zN ?_ | refine zC ?_ | refine zC4 ?_ | refine zOr16 ?_ | refine zC1 ?_ | refine zByte ?_ | refine zMaxL ?_ | refine zMaxR ?_ | refine zMinL ?_ | refine zMinR ?_ | refine zShr ?_ | refine zC8 ?_ | refine zQ ?_ | refine zR ?_ | refine zS ?_ | refine zA ?_ | refine zM ?_ | refine xr rfl ?_ | refine ai rfl ?_ | refine condT ?_ | refine condF ?_ | refine condG1 ?_ | refine condG0 ?_ | refine cD ?_ | refine dD ?_ | refine cB ?_ | refine dB ?_ | refine cN ?_ | refine dN ?_ | refine cV ?_ | refine dV ?_ | refine cE ?_ | refine dE ?_ | refine condX0 ?_ | refine condX1 ?_ | refine condNot ?_ | refine condAnd ?_ | refine condOr ?_ | refine aO ?_ | refine aB ?_ | refine aR ?_ | refine aR ?_ (by simp; omega) | refine xr (by assumption) ?_ | refine ai (by assumption) ?_ | refine callW (h1) ?_ | refine kV (h2) ?_ | refine kV (h3) ?_ | refine condD (fun h => ?_) (fun h => ?_) | refine condB (fun h => ?_) (fun h => ?_) | refine condN (fun h => ?_) (fun h => ?_) | refine condE (fun h => ?_) (fun h => ?_) | refine condV (fun h => ?_) (fun h => ?_))
  all_goals try ((first | refine ev_fin (And.intro (by first | rfl | (simp [AV.pure, pureL]; done) | fail) ?_) | refine ev_fin0 (And.intro (by first | rfl | (simp [AV.pure, pureL]; done) | fail) ?_)); first | rfl | (simp [checkO, Bool.cond_eq_ite, *]; done) | (simp [checkO, Bool.cond_eq_ite, *]; omega) | (unfold checkO; repeat' split; all_goals first | rfl | (exfalso; omega) | (simp_all; done) | (simp_all; omega)))
theorem check_gives148 (m : PMsg) (h : LenO m) (hk : m.kind = 1) : Gives G 148 [.agg m.enc] [] ⟨.int .i64 (checkO m), []⟩ := by
  have h2 := unused_gives160 m h.len hk
  have h3 := open_gives161 m h
  generalize hoe : openX m = oe at h3
  generalize hon : onlyO m = b at h2
  refine gives_code (F := f148) rfl rfl (W_ok 300 _ _ _ _ ?_)
  repeat' ((conv => whnf); first | refine bslP (by first | rfl | (simp [pureL, pureLL, AV.pure]; done) | fail) rfl ?_ | refine TakeC.full (by first | rfl | omega | (simp; done) | (simp; omega) | fail) ?_ | refine zBs ?_ | refine zBn ?_ | refine zBv rfl rfl ?_ | refine zN ?_ | refine zC ?_ | refine zC4 ?_ | refine zOr16 ?_ | refine zC1 ?_ | refine zByte ?_ | refine zMaxL ?_ | refine zMaxR ?_ | refine zMinL ?_ | refine zMinR ?_ | refine zShr ?_ | refine zC8 ?_ | refine zQ ?_ | refine zR ?_ | refine zS ?_ | refine zA ?_ | refine zM ?_ | refine xr rfl ?_ | refine ai rfl ?_ | refine condT ?_ | refine condF ?_ | refine condG1 ?_ | refine condG0 ?_ | refine cD ?_ | refine dD ?_ | refine cB ?_ | refine dB ?_ | refine cN ?_ | refine dN ?_ | refine cV ?_ | refine dV ?_ | refine cE ?_ | refine dE ?_ | refine condX0 ?_ | refine condX1 ?_ | refine condNot ?_ | refine condAnd ?_ | refine condOr ?_ | refine aO ?_ | refine aB ?_ | refine aR ?_ | refine aR ?_ (by simp; omega) | refine xr (by assumption) ?_ | refine ai (by assumption) ?_ | refine kV (h2) ?_ | refine kV (h3) ?_ | refine condD (fun h => ?_) (fun h => ?_) | refine condB (fun h => ?_) (fun h => ?_) | refine condN (fun h => ?_) (fun h => ?_) | refine condE (fun h => ?_) (fun h => ?_) | refine condV (fun h => ?_) (fun h => ?_))
  all_goals try ((first | refine ev_fin (And.intro (by first | rfl | (simp [AV.pure, pureL]; done) | fail) ?_) | refine ev_fin0 (And.intro (by first | rfl | (simp [AV.pure, pureL]; done) | fail) ?_)); first | rfl | (simp [checkO, Bool.cond_eq_ite, *]; done) | (simp [checkO, Bool.cond_eq_ite, *]; omega) | (unfold checkO; repeat' split; all_goals first | rfl | (exfalso; omega) | (simp_all; done) | (simp_all; omega)))
theorem notify_gives149 (a b : Int) : Gives G 149 [.int .i64 a, .int .i64 b] [] ⟨.agg (PMsg.enc { zeroM with kind := 3, code := a, sub := b }), []⟩ := by
  refine gives_code (F := f149) rfl rfl (W_ok 300 _ _ _ _ ?_)
  repeat' ((conv => whnf); first | refine bslP (by first | rfl | (simp [pureL, pureLL, AV.pure]; done) | fail) rfl ?_ | refine TakeC.full (by first | rfl | omega | (simp; done) | (simp; omega) | fail) ?_ | refine zBs ?_ | refine zBn ?_ | refine zBv rfl rfl ?_ | refine zN ?_ | refine zC ?_ | refine zC4 ?_ | refine zOr16 ?_ | refine zC1 ?_ | refine zByte ?_ | refine zMaxL ?_ | refine zMaxR ?_ | refine zMinL ?_ | refine zMinR ?_ | refine zShr ?_ | refine zC8 ?_ | refine zQ ?_ | refine zR ?_ | refine zS ?_ | refine zA ?_ | refine zM ?_ | refine xr rfl ?_ | refine ai rfl ?_ | refine condT ?_ | refine condF ?_ | refine condG1 ?_ | refine condG0 ?_ | refine cD ?_ | refine dD ?_ | refine cB ?_ | refine dB ?_ | refine cN ?_ | refine dN ?_ | refine cV ?_ | refine dV ?_ | refine cE ?_ | refine dE ?_ | refine condX0 ?_ | refine condX1 ?_ | refine condNot ?_ | refine condAnd ?_ | refine condOr ?_ | refine aO ?_ | refine aB ?_ | refine aR ?_ | refine aR ?_ (by simp; omega) | refine xr (by assumption) ?_ | refine ai (by assumption) ?_ | refine condD (fun h => ?_) (fun h => ?_) | refine condB (fun h => ?_) (fun h => ?_) | refine condN (fun h => ?_) (fun h => ?_) | refine condE (fun h => ?_) (fun h => ?_) | refine condV (fun h => ?_) (fun h => ?_))
  refine ev_le [] [(68, some (_, .cells ((PMsg.enc { zeroM with kind := 3, code := a, sub := b }))))] trivial ⟨⟨rfl, (by repeat' (first | exact trivial | exact LeP.refl _ | exact LeP.nil _ | refine LeP.sl ?_ | refine ⟨?_, ?_⟩))⟩, trivial⟩ ?_
  (first | refine ev_fin (And.intro (by first | rfl | (simp [AV.pure, pureL]; done) | fail) ?_) | refine ev_fin0 (And.intro (by first | rfl | (simp [AV.pure, pureL]; done) | fail) ?_)); (conv => whnf); refine And.intro (by first | rfl | (simp [AV.pure, pureL, pureLL, *]; done) | fail) ?_
  rfl
end Go.AM.IR
set_option maxHeartbeats 4000000
set_option maxRecDepth 20000
namespace Go.AM.IR
def zeroS : Ses := ⟨0, 0, 0, 0, 0, 0, 0, false, 0⟩
def notM (a b : Int) : PMsg := { zeroM with kind := 3, code := a, sub := b }
def agreeP (c : Conf) (p : Peer) (m : PMsg) : Ses × PMsg × Int :=
  if m.kind ≠ 1 then (zeroS, notM 2 0, 15) else if checkO m ≠ 0 then (zeroS, notM 2 0, 15) else if m.as ≠ p.as then (zeroS, notM 2 2, 14)
  else if m.router = c.router then (zeroS, notM 2 3, 1) else if capB m.caps 65 = false then (zeroS, notM 2 7, 22)
  else ({ zeroS with state := 3, holdTime := if p.hold ≤ m.hold then p.hold else m.hold, router := m.router, restart := if capB m.caps 64 = true ∧ p.restart > 0 then ((rd (capV m.caps 64) : Nat) : Int) else 0, refresh := capB m.caps 2 }, zeroM, 0)
def agreeS (c : Conf) (peer : Int) (m : PMsg) : Ses × PMsg × Int := match bif knownS c peer then c.peers[peer.toNat]? else none with
  | none => (zeroS, zeroM, 5)
  | some p => agreeP c p m
def agreeRet (x : Ses × PMsg × Int) : Ret := ⟨.tup [.agg x.1.enc, .agg x.2.1.enc, .int .i64 x.2.2], []⟩
theorem capsE_64 (as : Int) : ∀ (l : List Cap) (p : Option Int) (n : Int) (w : Bool), capsE as p n w l = 0 → capB l 64 = true → (capV l 64).length = 2
  | [], _, _, _, _, h => by simp [capB] at h
  | c :: r, p, n, w, h, hb => by
    have ih := capsE_64 as r (some c.code) (n + (2 + c.value.length)) (if c.code = 65 then true else w)
    simp only [capsE] at h
    by_cases h1 : c.code = 64
    · have hbad : ¬ capBad c = true → c.value.length = 2 := by
        intro hh; simp [capBad, h1] at hh; omega
      simp only [capV, h1, if_true]
      repeat' split at h
      all_goals first | omega | (exact hbad (by assumption)) | (exfalso; simp_all; done)
    · simp only [capB, capV, h1, if_false] at hb ⊢
      repeat' split at h
      all_goals first | omega | (exfalso; simp at h; done) | exact ih (by first | exact h | (rw [if_pos (by assumption)]; exact h) | (rw [if_neg (by assumption)]; exact h)) hb
theorem check64 (m : PMsg) (h : checkO m = 0) (hb : capB m.caps 64 = true) : (capV m.caps 64).length = 2 := by
  unfold checkO openX at h
  repeat' split at h
  all_goals first | omega | exact capsE_64 _ _ _ _ _ h hb
end Go.AM.IR
set_option maxHeartbeats 4000000
set_option maxRecDepth 20000
namespace Go.AM.IR
theorem agree_gives131 (c : Conf) (hc : c.ok) (hl : c.peers.length ≤ maxLen) (peer : Int) (m : PMsg) (h : LenO m) : Gives G 131 [.agg c.enc, .int .i64 peer, .agg m.enc] [] (agreeRet (agreeS c peer m)) := by
  have hp := hc.nets; have h1 := hc.p1; have h2 := hc.p2; have h3 := hc.p3; have h4 := hc.p4
  have hll : (c.peers.map Peer.enc).length = c.peers.length := by simp
  have hk := known_gives140 c hc hl peer
  have n0 := notify_gives145 2 0; have n2 := notify_gives145 2 2; have n3 := notify_gives145 2 3; have n7 := notify_gives145 2 7
  have q65 := cap_gives146 m h.len.caps 65; have q64 := cap_gives146 m h.len.caps 64; have q2 := cap_gives146 m h.len.caps 2
  unfold capRet at q65 q64 q2
  cases hkn : knownS c peer
  · rw [hkn] at hk
    rw [show agreeS c peer m = (zeroS, zeroM, 5) from by simp [agreeS, hkn]]
    refine gives_code (F := f131) rfl rfl (W_ok 300 _ _ _ _ ?_)
    repeat' ((conv => whnf); first | refine kV hk ?_ (by simp [pureL, AV.pure, hp, h1, h2, h3, h4]) | refine bslP (by first | rfl | (simp [pureL, pureLL, AV.pure]; done) | fail) rfl ?_ | refine TakeC.full (by first | rfl | omega | (simp; done) | (simp; omega) | fail) ?_ | refine zBs ?_ | refine zBn ?_ | refine zBv rfl rfl ?_ | refine zN ?_ | refine zC ?_ | refine zC4 ?_ | refine zOr16 ?_ | refine zC1 ?_ | refine zByte ?_ | refine zMaxL ?_ | refine zMaxR ?_ | refine zMinL ?_ | refine zMinR ?_ | refine zShr ?_ | refine zC8 ?_ | refine zQ ?_ | refine zR ?_ | refine zS ?_ | refine zA ?_ | refine zM ?_ | refine xr rfl ?_ | refine ai rfl ?_ | refine condT ?_ | refine condF ?_ | refine condG1 ?_ | refine condG0 ?_ | refine cD ?_ | refine dD ?_ | refine cB ?_ | refine dB ?_ | refine cN ?_ | refine dN ?_ | refine cV ?_ | refine dV ?_ | refine cE ?_ | refine dE ?_ | refine condX0 ?_ | refine condX1 ?_ | refine condNot ?_ | refine condAnd ?_ | refine condOr ?_ | refine aO ?_ | refine aB ?_ | refine aR ?_ | refine aR ?_ (by simp; omega) | refine xr (by assumption) ?_ | refine ai (by assumption) ?_ | refine condD (fun h => ?_) (fun h => ?_) | refine condB (fun h => ?_) (fun h => ?_) | refine condN (fun h => ?_) (fun h => ?_) | refine condE (fun h => ?_) (fun h => ?_) | refine condV (fun h => ?_) (fun h => ?_))
    refine ev_le [] [(71, some (_, .cells (zeroM.enc)))] trivial ⟨⟨rfl, (by repeat' (first | exact trivial | exact LeP.refl _ | exact LeP.nil _ | refine LeP.sl ?_ | refine ⟨?_, ?_⟩))⟩, trivial⟩ ?_
    refine ev_fin ?_
    (conv => whnf)
    refine And.intro (by first | rfl | (simp [AV.pure, pureL, pureLL_bytes]; done) | fail) ?_
    (conv => whnf)
    refine And.intro (by first | rfl | (simp [AV.pure, pureL, pureLL_bytes]; done) | fail) ?_
    (conv => whnf)
    first | exact And.intro rfl rfl | (refine And.intro (by first | rfl | (simp [AV.pure, pureL, pureLL_bytes]; done) | fail) ?_; (conv => whnf); rfl) | rfl
  · have h0 : 0 ≤ peer ∧ peer < c.peers.length := by simpa [knownS] using hkn
    have hlt : peer.toNat < c.peers.length := by omega
    generalize hpe : c.peers[peer.toNat] = p
    have hx : (c.peers.map Peer.enc)[peer.toNat]? = some p.enc := by simp [hlt, hpe]
    rw [show agreeS c peer m = agreeP c p m from by simp [agreeS, hkn, hlt, hpe]]
    rw [hkn] at hk
    by_cases hki : m.kind = 1
    · have hch := check_gives144 m h hki
      have h64 := check64 m
      by_cases hz : checkO m = 0
      · rw [hz] at hch
        have h64 := h64 hz
        by_cases has : m.as = p.as
        · by_cases hro : m.router = c.router
          ·
            rw [show agreeP c p m = (zeroS, notM 2 3, 1) from by first | (simp [agreeP, *]; done) | (simp [agreeP, *]; rfl)]
            refine gives_code (F := f131) rfl rfl (W_ok 300 _ _ _ _ ?_)
            repeat' ((conv => whnf); first | refine zCR (x := capV m.caps 64) (by omega) ?_ | refine kV hk ?_ (by simp [pureL, AV.pure, hp, h1, h2, h3, h4]) | refine bslP (by first | rfl | (simp [pureL, pureLL, AV.pure]; done) | fail) rfl ?_ | refine TakeC.full (by first | rfl | omega | (simp; done) | (simp; omega) | fail) ?_ | refine zBs ?_ | refine zBn ?_ | refine zBv rfl rfl ?_ | refine zN ?_ | refine zC ?_ | refine zC4 ?_ | refine zOr16 ?_ | refine zC1 ?_ | refine zByte ?_ | refine zMaxL ?_ | refine zMaxR ?_ | refine zMinL ?_ | refine zMinR ?_ | refine zShr ?_ | refine zC8 ?_ | refine zQ ?_ | refine zR ?_ | refine zS ?_ | refine zA ?_ | refine zM ?_ | refine xr rfl ?_ | refine ai rfl ?_ | refine condT ?_ | refine condF ?_ | refine condG1 ?_ | refine condG0 ?_ | refine cD ?_ | refine dD ?_ | refine cB ?_ | refine dB ?_ | refine cN ?_ | refine dN ?_ | refine cV ?_ | refine dV ?_ | refine cE ?_ | refine dE ?_ | refine condX0 ?_ | refine condX1 ?_ | refine condNot ?_ | refine condAnd ?_ | refine condOr ?_ | refine aO ?_ | refine aB ?_ | refine aR ?_ | refine aR ?_ (by simp; omega) | refine xr (by assumption) ?_ | refine ai (by assumption) ?_ | refine callW (q65) ?_ | refine callW (q64) ?_ | refine callW (q2) ?_ | refine kV (n0) ?_ | refine kV (n2) ?_ | refine kV (n3) ?_ | refine kV (n7) ?_ | refine kV (hch) ?_ | refine condD (fun h => ?_) (fun h => ?_) | refine condB (fun h => ?_) (fun h => ?_) | refine condN (fun h => ?_) (fun h => ?_) | refine condE (fun h => ?_) (fun h => ?_) | refine condV (fun h => ?_) (fun h => ?_))
            refine ev_fin ?_
            (conv => whnf)
            refine And.intro (by first | rfl | (simp [AV.pure, pureL, pureLL_bytes]; done) | fail) ?_
            (conv => whnf)
            refine And.intro (by first | rfl | (simp [AV.pure, pureL, pureLL_bytes]; done) | fail) ?_
            (conv => whnf)
            first | exact And.intro rfl rfl | (refine And.intro (by first | rfl | (simp [AV.pure, pureL, pureLL_bytes]; done) | fail) ?_; (conv => whnf); rfl) | rfl
          · cases h65 : capB m.caps 65
            · rw [h65] at q65
              rw [show agreeP c p m = (zeroS, notM 2 7, 22) from by first | (simp [agreeP, *]; done) | (simp [agreeP, *]; rfl)]
              refine gives_code (F := f131) rfl rfl (W_ok 300 _ _ _ _ ?_)
              repeat' ((conv => whnf); first | refine zCR (x := capV m.caps 64) (by omega) ?_ | refine kV hk ?_ (by simp [pureL, AV.pure, hp, h1, h2, h3, h4]) | refine bslP (by first | rfl | (simp [pureL, pureLL, AV.pure]; done) | fail) rfl ?_ | refine TakeC.full (by first | rfl | omega | (simp; done) | (simp; omega) | fail) ?_ | refine zBs ?_ | refine zBn ?_ | refine zBv rfl rfl ?_ | refine zN ?_ | refine zC ?_ | refine zC4 ?_ | refine zOr16 ?_ | refine zC1 ?_ | refine zByte ?_ | refine zMaxL ?_ | refine zMaxR ?_ | refine zMinL ?_ | refine zMinR ?_ | refine zShr ?_ | refine zC8 ?_ | refine zQ ?_ | refine zR ?_ | refine zS ?_ | refine zA ?_ | refine zM ?_ | refine xr rfl ?_ | refine ai rfl ?_ | refine condT ?_ | refine condF ?_ | refine condG1 ?_ | refine condG0 ?_ | refine cD ?_ | refine dD ?_ | refine cB ?_ | refine dB ?_ | refine cN ?_ | refine dN ?_ | refine cV ?_ | refine dV ?_ | refine cE ?_ | refine dE ?_ | refine condX0 ?_ | refine condX1 ?_ | refine condNot ?_ | refine condAnd ?_ | refine condOr ?_ | refine aO ?_ | refine aB ?_ | refine aR ?_ | refine aR ?_ (by simp; omega) | refine xr (by assumption) ?_ | refine ai (by assumption) ?_ | refine callW (q65) ?_ | refine callW (q64) ?_ | refine callW (q2) ?_ | refine kV (n0) ?_ | refine kV (n2) ?_ | refine kV (n3) ?_ | refine kV (n7) ?_ | refine kV (hch) ?_ | refine condD (fun h => ?_) (fun h => ?_) | refine condB (fun h => ?_) (fun h => ?_) | refine condN (fun h => ?_) (fun h => ?_) | refine condE (fun h => ?_) (fun h => ?_) | refine condV (fun h => ?_) (fun h => ?_))
              refine ev_fin ?_
              (conv => whnf)
              refine And.intro (by first | rfl | (simp [AV.pure, pureL, pureLL_bytes]; done) | fail) ?_
              (conv => whnf)
              refine And.intro (by first | rfl | (simp [AV.pure, pureL, pureLL_bytes]; done) | fail) ?_
              (conv => whnf)
              first | exact And.intro rfl rfl | (refine And.intro (by first | rfl | (simp [AV.pure, pureL, pureLL_bytes]; done) | fail) ?_; (conv => whnf); rfl) | rfl
            · rw [h65] at q65
              cases hb64 : capB m.caps 64
              · rw [hb64] at q64
                by_cases hmin : p.hold ≤ m.hold
                ·
                  rw [show agreeP c p m = ({ zeroS with state := 3, holdTime := p.hold, router := m.router, refresh := capB m.caps 2 }, zeroM, 0) from by first | (simp [agreeP, *]; done) | (simp [agreeP, *]; rfl)]
                  refine gives_code (F := f131) rfl rfl (W_ok 300 _ _ _ _ ?_)
                  repeat' ((conv => whnf); first | refine zCR (x := capV m.caps 64) (by omega) ?_ | refine kV hk ?_ (by simp [pureL, AV.pure, hp, h1, h2, h3, h4]) | refine bslP (by first | rfl | (simp [pureL, pureLL, AV.pure]; done) | fail) rfl ?_ | refine TakeC.full (by first | rfl | omega | (simp; done) | (simp; omega) | fail) ?_ | refine zBs ?_ | refine zBn ?_ | refine zBv rfl rfl ?_ | refine zN ?_ | refine zC ?_ | refine zC4 ?_ | refine zOr16 ?_ | refine zC1 ?_ | refine zByte ?_ | refine zMaxL ?_ | refine zMaxR ?_ | refine zMinL ?_ | refine zMinR ?_ | refine zShr ?_ | refine zC8 ?_ | refine zQ ?_ | refine zR ?_ | refine zS ?_ | refine zA ?_ | refine zM ?_ | refine xr rfl ?_ | refine ai rfl ?_ | refine condT ?_ | refine condF ?_ | refine condG1 ?_ | refine condG0 ?_ | refine cD ?_ | refine dD ?_ | refine cB ?_ | refine dB ?_ | refine cN ?_ | refine dN ?_ | refine cV ?_ | refine dV ?_ | refine cE ?_ | refine dE ?_ | refine condX0 ?_ | refine condX1 ?_ | refine condNot ?_ | refine condAnd ?_ | refine condOr ?_ | refine aO ?_ | refine aB ?_ | refine aR ?_ | refine aR ?_ (by simp; omega) | refine xr (by assumption) ?_ | refine ai (by assumption) ?_ | refine callW (q65) ?_ | refine callW (q64) ?_ | refine callW (q2) ?_ | refine kV (n0) ?_ | refine kV (n2) ?_ | refine kV (n3) ?_ | refine kV (n7) ?_ | refine kV (hch) ?_ | refine condD (fun h => ?_) (fun h => ?_) | refine condB (fun h => ?_) (fun h => ?_) | refine condN (fun h => ?_) (fun h => ?_) | refine condE (fun h => ?_) (fun h => ?_) | refine condV (fun h => ?_) (fun h => ?_))
                  refine ev_le [] [(71, some (_, .cells (zeroM.enc)))] trivial ⟨⟨rfl, (by repeat' (first | exact trivial | exact LeP.refl _ | exact LeP.nil _ | refine LeP.sl ?_ | refine ⟨?_, ?_⟩))⟩, trivial⟩ ?_
                  refine ev_fin ?_
                  (conv => whnf)
                  refine And.intro (by first | rfl | (simp [AV.pure, pureL, pureLL_bytes]; done) | fail) ?_
                  (conv => whnf)
                  refine And.intro (by first | rfl | (simp [AV.pure, pureL, pureLL_bytes]; done) | fail) ?_
                  (conv => whnf)
                  first | exact And.intro rfl rfl | (refine And.intro (by first | rfl | (simp [AV.pure, pureL, pureLL_bytes]; done) | fail) ?_; (conv => whnf); rfl) | rfl
                ·
                  rw [show agreeP c p m = ({ zeroS with state := 3, holdTime := m.hold, router := m.router, refresh := capB m.caps 2 }, zeroM, 0) from by first | (simp [agreeP, *]; done) | (simp [agreeP, *]; rfl)]
                  refine gives_code (F := f131) rfl rfl (W_ok 300 _ _ _ _ ?_)
                  repeat' ((conv => whnf); first | refine zCR (x := capV m.caps 64) (by omega) ?_ | refine kV hk ?_ (by simp [pureL, AV.pure, hp, h1, h2, h3, h4]) | refine bslP (by first | rfl | (simp [pureL, pureLL, AV.pure]; done) | fail) rfl ?_ | refine TakeC.full (by first | rfl | omega | (simp; done) | (simp; omega) | fail) ?_ | refine zBs ?_ | refine zBn ?_ | refine zBv rfl rfl ?_ | refine zN ?_ | refine zC ?_ | refine zC4 ?_ | refine zOr16 ?_ | refine zC1 ?_ | refine zByte ?_ | refine zMaxL ?_ | refine zMaxR ?_ | refine zMinL ?_ | refine zMinR ?_ | refine zShr ?_ | refine zC8 ?_ | refine zQ ?_ | refine zR ?_ | refine zS ?_ | refine zA ?_ | refine zM ?_ | refine xr rfl ?_ | refine ai rfl ?_ | refine condT ?_ | refine condF ?_ | refine condG1 ?_ | refine condG0 ?_ | refine cD ?_ | refine dD ?_ | refine cB ?_ | refine dB ?_ | refine cN ?_ | refine dN ?_ | refine cV ?_ | refine dV ?_ | refine cE ?_ | refine dE ?_ | refine condX0 ?_ | refine condX1 ?_ | refine condNot ?_ | refine condAnd ?_ | refine condOr ?_ | refine aO ?_ | refine aB ?_ | refine aR ?_ | refine aR ?_ (by simp; omega) | refine xr (by assumption) ?_ | refine ai (by assumption) ?_ | refine callW (q65) ?_ | refine callW (q64) ?_ | refine callW (q2) ?_ | refine kV (n0) ?_ | refine kV (n2) ?_ | refine kV (n3) ?_ | refine kV (n7) ?_ | refine kV (hch) ?_ | refine condD (fun h => ?_) (fun h => ?_) | refine condB (fun h => ?_) (fun h => ?_) | refine condN (fun h => ?_) (fun h => ?_) | refine condE (fun h => ?_) (fun h => ?_) | refine condV (fun h => ?_) (fun h => ?_))
                  refine ev_le [] [(71, some (_, .cells (zeroM.enc)))] trivial ⟨⟨rfl, (by repeat' (first | exact trivial | exact LeP.refl _ | exact LeP.nil _ | refine LeP.sl ?_ | refine ⟨?_, ?_⟩))⟩, trivial⟩ ?_
                  refine ev_fin ?_
                  (conv => whnf)
                  refine And.intro (by first | rfl | (simp [AV.pure, pureL, pureLL_bytes]; done) | fail) ?_
                  (conv => whnf)
                  refine And.intro (by first | rfl | (simp [AV.pure, pureL, pureLL_bytes]; done) | fail) ?_
                  (conv => whnf)
                  first | exact And.intro rfl rfl | (refine And.intro (by first | rfl | (simp [AV.pure, pureL, pureLL_bytes]; done) | fail) ?_; (conv => whnf); rfl) | rfl
              · rw [hb64] at q64
                have hg := get2_gives110 (capV m.caps 64) (h64 hb64)
                have hv2 := h64 hb64
                by_cases hre : p.restart > 0
                · by_cases hmin : p.hold ≤ m.hold
                  ·
                    rw [show agreeP c p m = ({ zeroS with state := 3, holdTime := p.hold, router := m.router, restart := (rd (capV m.caps 64) : Nat), refresh := capB m.caps 2 }, zeroM, 0) from by first | (simp [agreeP, *]; done) | (simp [agreeP, *]; rfl)]
                    refine gives_code (F := f131) rfl rfl (W_ok 300 _ _ _ _ ?_)
                    repeat' ((conv => whnf); first | refine zCR (x := capV m.caps 64) (by omega) ?_ | refine kV hk ?_ (by simp [pureL, AV.pure, hp, h1, h2, h3, h4]) | refine kV hg ?_ (by simp [pureL, AV.pure, pureLL_bytes]) | refine bslP (by first | rfl | (simp [pureL, pureLL, AV.pure]; done) | fail) rfl ?_ | refine TakeC.full (by first | rfl | omega | (simp; done) | (simp; omega) | fail) ?_ | refine zBs ?_ | refine zBn ?_ | refine zBv rfl rfl ?_ | refine zN ?_ | refine zC ?_ | refine zC4 ?_ | refine zOr16 ?_ | refine zC1 ?_ | refine zByte ?_ | refine zMaxL ?_ | refine zMaxR ?_ | refine zMinL ?_ | refine zMinR ?_ | refine zShr ?_ | refine zC8 ?_ | refine zQ ?_ | refine zR ?_ | refine zS ?_ | refine zA ?_ | refine zM ?_ | refine xr rfl ?_ | refine ai rfl ?_ | refine condT ?_ | refine condF ?_ | refine condG1 ?_ | refine condG0 ?_ | refine cD ?_ | refine dD ?_ | refine cB ?_ | refine dB ?_ | refine cN ?_ | refine dN ?_ | refine cV ?_ | refine dV ?_ | refine cE ?_ | refine dE ?_ | refine condX0 ?_ | refine condX1 ?_ | refine condNot ?_ | refine condAnd ?_ | refine condOr ?_ | refine aO ?_ | refine aB ?_ | refine aR ?_ | refine aR ?_ (by simp; omega) | refine xr (by assumption) ?_ | refine ai (by assumption) ?_ | refine callW (q65) ?_ | refine callW (q64) ?_ | refine callW (q2) ?_ | refine kV (n0) ?_ | refine kV (n2) ?_ | refine kV (n3) ?_ | refine kV (n7) ?_ | refine kV (hch) ?_ | refine condD (fun h => ?_) (fun h => ?_) | refine condB (fun h => ?_) (fun h => ?_) | refine condN (fun h => ?_) (fun h => ?_) | refine condE (fun h => ?_) (fun h => ?_) | refine condV (fun h => ?_) (fun h => ?_))
                    refine ev_le [] [(71, some (_, .cells (zeroM.enc)))] trivial ⟨⟨rfl, (by repeat' (first | exact trivial | exact LeP.refl _ | exact LeP.nil _ | refine LeP.sl ?_ | refine ⟨?_, ?_⟩))⟩, trivial⟩ ?_
                    refine ev_fin ?_
                    (conv => whnf)
                    refine And.intro (by first | rfl | (simp [AV.pure, pureL, pureLL_bytes]; done) | fail) ?_
                    (conv => whnf)
                    refine And.intro (by first | rfl | (simp [AV.pure, pureL, pureLL_bytes]; done) | fail) ?_
                    (conv => whnf)
                    first | exact And.intro rfl rfl | (refine And.intro (by first | rfl | (simp [AV.pure, pureL, pureLL_bytes]; done) | fail) ?_; (conv => whnf); rfl) | rfl
                  ·
                    rw [show agreeP c p m = ({ zeroS with state := 3, holdTime := m.hold, router := m.router, restart := (rd (capV m.caps 64) : Nat), refresh := capB m.caps 2 }, zeroM, 0) from by first | (simp [agreeP, *]; done) | (simp [agreeP, *]; rfl)]
                    refine gives_code (F := f131) rfl rfl (W_ok 300 _ _ _ _ ?_)
                    repeat' ((conv => whnf); first | refine zCR (x := capV m.caps 64) (by omega) ?_ | refine kV hk ?_ (by simp [pureL, AV.pure, hp, h1, h2, h3, h4]) | refine kV hg ?_ (by simp [pureL, AV.pure, pureLL_bytes]) | refine bslP (by first | rfl | (simp [pureL, pureLL, AV.pure]; done) | fail) rfl ?_ | refine TakeC.full (by first | rfl | omega | (simp; done) | (simp; omega) | fail) ?_ | refine zBs ?_ | refine zBn ?_ | refine zBv rfl rfl ?_ | refine zN ?_ | refine zC ?_ | refine zC4 ?_ | refine zOr16 ?_ | refine zC1 ?_ | refine zByte ?_ | refine zMaxL ?_ | refine zMaxR ?_ | refine zMinL ?_ | refine zMinR ?_ | refine zShr ?_ | refine zC8 ?_ | refine zQ ?_ | refine zR ?_ | refine zS ?_ | refine zA ?_ | refine zM ?_ | refine xr rfl ?_ | refine ai rfl ?_ | refine condT ?_ | refine condF ?_ | refine condG1 ?_ | refine condG0 ?_ | refine cD ?_ | refine dD ?_ | refine cB ?_ | refine dB ?_ | refine cN ?_ | refine dN ?_ | refine cV ?_ | refine dV ?_ | refine cE ?_ | refine dE ?_ | refine condX0 ?_ | refine condX1 ?_ | refine condNot ?_ | refine condAnd ?_ | refine condOr ?_ | refine aO ?_ | refine aB ?_ | refine aR ?_ | refine aR ?_ (by simp; omega) | refine xr (by assumption) ?_ | refine ai (by assumption) ?_ | refine callW (q65) ?_ | refine callW (q64) ?_ | refine callW (q2) ?_ | refine kV (n0) ?_ | refine kV (n2) ?_ | refine kV (n3) ?_ | refine kV (n7) ?_ | refine kV (hch) ?_ | refine condD (fun h => ?_) (fun h => ?_) | refine condB (fun h => ?_) (fun h => ?_) | refine condN (fun h => ?_) (fun h => ?_) | refine condE (fun h => ?_) (fun h => ?_) | refine condV (fun h => ?_) (fun h => ?_))
                    refine ev_le [] [(71, some (_, .cells (zeroM.enc)))] trivial ⟨⟨rfl, (by repeat' (first | exact trivial | exact LeP.refl _ | exact LeP.nil _ | refine LeP.sl ?_ | refine ⟨?_, ?_⟩))⟩, trivial⟩ ?_
                    refine ev_fin ?_
                    (conv => whnf)
                    refine And.intro (by first | rfl | (simp [AV.pure, pureL, pureLL_bytes]; done) | fail) ?_
                    (conv => whnf)
                    refine And.intro (by first | rfl | (simp [AV.pure, pureL, pureLL_bytes]; done) | fail) ?_
                    (conv => whnf)
                    first | exact And.intro rfl rfl | (refine And.intro (by first | rfl | (simp [AV.pure, pureL, pureLL_bytes]; done) | fail) ?_; (conv => whnf); rfl) | rfl
                · by_cases hmin : p.hold ≤ m.hold
                  ·
                    rw [show agreeP c p m = ({ zeroS with state := 3, holdTime := p.hold, router := m.router, refresh := capB m.caps 2 }, zeroM, 0) from by first | (simp [agreeP, *]; done) | (simp [agreeP, *]; rfl)]
                    refine gives_code (F := f131) rfl rfl (W_ok 300 _ _ _ _ ?_)
                    repeat' ((conv => whnf); first | refine zCR (x := capV m.caps 64) (by omega) ?_ | refine kV hk ?_ (by simp [pureL, AV.pure, hp, h1, h2, h3, h4]) | refine bslP (by first | rfl | (simp [pureL, pureLL, AV.pure]; done) | fail) rfl ?_ | refine TakeC.full (by first | rfl | omega | (simp; done) | (simp; omega) | fail) ?_ | refine zBs ?_ | refine zBn ?_ | refine zBv rfl rfl ?_ | refine zN ?_ | refine zC ?_ | refine zC4 ?_ | refine zOr16 ?_ | refine zC1 ?_ | refine zByte ?_ | refine zMaxL ?_ | refine zMaxR ?_ | refine zMinL ?_ | refine zMinR ?_ | refine zShr ?_ | refine zC8 ?_ | refine zQ ?_ | refine zR ?_ | refine zS ?_ | refine zA ?_ | refine zM ?_ | refine xr rfl ?_ | refine ai rfl ?_ | refine condT ?_ | refine condF ?_ | refine condG1 ?_ | refine condG0 ?_ | refine cD ?_ | refine dD ?_ | refine cB ?_ | refine dB ?_ | refine cN ?_ | refine dN ?_ | refine cV ?_ | refine dV ?_ | refine cE ?_ | refine dE ?_ | refine condX0 ?_ | refine condX1 ?_ | refine condNot ?_ | refine condAnd ?_ | refine condOr ?_ | refine aO ?_ | refine aB ?_ | refine aR ?_ | refine aR ?_ (by simp; omega) | refine xr (by assumption) ?_ | refine ai (by assumption) ?_ | refine callW (q65) ?_ | refine callW (q64) ?_ | refine callW (q2) ?_ | refine kV (n0) ?_ | refine kV (n2) ?_ | refine kV (n3) ?_ | refine kV (n7) ?_ | refine kV (hch) ?_ | refine condD (fun h => ?_) (fun h => ?_) | refine condB (fun h => ?_) (fun h => ?_) | refine condN (fun h => ?_) (fun h => ?_) | refine condE (fun h => ?_) (fun h => ?_) | refine condV (fun h => ?_) (fun h => ?_))
                    refine ev_le [] [(71, some (_, .cells (zeroM.enc)))] trivial ⟨⟨rfl, (by repeat' (first | exact trivial | exact LeP.refl _ | exact LeP.nil _ | refine LeP.sl ?_ | refine ⟨?_, ?_⟩))⟩, trivial⟩ ?_
                    refine ev_fin ?_
                    (conv => whnf)
                    refine And.intro (by first | rfl | (simp [AV.pure, pureL, pureLL_bytes]; done) | fail) ?_
                    (conv => whnf)
                    refine And.intro (by first | rfl | (simp [AV.pure, pureL, pureLL_bytes]; done) | fail) ?_
                    (conv => whnf)
                    first | exact And.intro rfl rfl | (refine And.intro (by first | rfl | (simp [AV.pure, pureL, pureLL_bytes]; done) | fail) ?_; (conv => whnf); rfl) | rfl
                  ·
                    rw [show agreeP c p m = ({ zeroS with state := 3, holdTime := m.hold, router := m.router, refresh := capB m.caps 2 }, zeroM, 0) from by first | (simp [agreeP, *]; done) | (simp [agreeP, *]; rfl)]
                    refine gives_code (F := f131) rfl rfl (W_ok 300 _ _ _ _ ?_)
                    repeat' ((conv => whnf); first | refine zCR (x := capV m.caps 64) (by omega) ?_ | refine kV hk ?_ (by simp [pureL, AV.pure, hp, h1, h2, h3, h4]) | refine bslP (by first | rfl | (simp [pureL, pureLL, AV.pure]; done) | fail) rfl ?_ | refine TakeC.full (by first | rfl | omega | (simp; done) | (simp; omega) | fail) ?_ | refine zBs ?_ | refine zBn ?_ | refine zBv rfl rfl ?_ | refine zN ?_ | refine zC ?_ | refine zC4 ?_ | refine zOr16 ?_ | refine zC1 ?_ | refine zByte ?_ | refine zMaxL ?_ | refine zMaxR ?_ | refine zMinL ?_ | refine zMinR ?_ | refine zShr ?_ | refine zC8 ?_ | refine zQ ?_ | refine zR ?_ | refine zS ?_ | refine zA ?_ | refine zM ?_ | refine xr rfl ?_ | refine ai rfl ?_ | refine condT ?_ | refine condF ?_ | refine condG1 ?_ | refine condG0 ?_ | refine cD ?_ | refine dD ?_ | refine cB ?_ | refine dB ?_ | refine cN ?_ | refine dN ?_ | refine cV ?_ | refine dV ?_ | refine cE ?_ | refine dE ?_ | refine condX0 ?_ | refine condX1 ?_ | refine condNot ?_ | refine condAnd ?_ | refine condOr ?_ | refine aO ?_ | refine aB ?_ | refine aR ?_ | refine aR ?_ (by simp; omega) | refine xr (by assumption) ?_ | refine ai (by assumption) ?_ | refine callW (q65) ?_ | refine callW (q64) ?_ | refine callW (q2) ?_ | refine kV (n0) ?_ | refine kV (n2) ?_ | refine kV (n3) ?_ | refine kV (n7) ?_ | refine kV (hch) ?_ | refine condD (fun h => ?_) (fun h => ?_) | refine condB (fun h => ?_) (fun h => ?_) | refine condN (fun h => ?_) (fun h => ?_) | refine condE (fun h => ?_) (fun h => ?_) | refine condV (fun h => ?_) (fun h => ?_))
                    refine ev_le [] [(71, some (_, .cells (zeroM.enc)))] trivial ⟨⟨rfl, (by repeat' (first | exact trivial | exact LeP.refl _ | exact LeP.nil _ | refine LeP.sl ?_ | refine ⟨?_, ?_⟩))⟩, trivial⟩ ?_
                    refine ev_fin ?_
                    (conv => whnf)
                    refine And.intro (by first | rfl | (simp [AV.pure, pureL, pureLL_bytes]; done) | fail) ?_
                    (conv => whnf)
                    refine And.intro (by first | rfl | (simp [AV.pure, pureL, pureLL_bytes]; done) | fail) ?_
                    (conv => whnf)
                    first | exact And.intro rfl rfl | (refine And.intro (by first | rfl | (simp [AV.pure, pureL, pureLL_bytes]; done) | fail) ?_; (conv => whnf); rfl) | rfl
        ·
          rw [show agreeP c p m = (zeroS, notM 2 2, 14) from by first | (simp [agreeP, *]; done) | (simp [agreeP, *]; rfl)]
          refine gives_code (F := f131) rfl rfl (W_ok 300 _ _ _ _ ?_)
          repeat' ((conv => whnf); first | refine zCR (x := capV m.caps 64) (by omega) ?_ | refine kV hk ?_ (by simp [pureL, AV.pure, hp, h1, h2, h3, h4]) | refine bslP (by first | rfl | (simp [pureL, pureLL, AV.pure]; done) | fail) rfl ?_ | refine TakeC.full (by first | rfl | omega | (simp; done) | (simp; omega) | fail) ?_ | refine zBs ?_ | refine zBn ?_ | refine zBv rfl rfl ?_ | refine zN ?_ | refine zC ?_ | refine zC4 ?_ | refine zOr16 ?_ | refine zC1 ?_ | refine zByte ?_ | refine zMaxL ?_ | refine zMaxR ?_ | refine zMinL ?_ | refine zMinR ?_ | refine zShr ?_ | refine zC8 ?_ | refine zQ ?_ | refine zR ?_ | refine zS ?_ | refine zA ?_ | refine zM ?_ | refine xr rfl ?_ | refine ai rfl ?_ | refine condT ?_ | refine condF ?_ | refine condG1 ?_ | refine condG0 ?_ | refine cD ?_ | refine dD ?_ | refine cB ?_ | refine dB ?_ | refine cN ?_ | refine dN ?_ | refine cV ?_ | refine dV ?_ | refine cE ?_ | refine dE ?_ | refine condX0 ?_ | refine condX1 ?_ | refine condNot ?_ | refine condAnd ?_ | refine condOr ?_ | refine aO ?_ | refine aB ?_ | refine aR ?_ | refine aR ?_ (by simp; omega) | refine xr (by assumption) ?_ | refine ai (by assumption) ?_ | refine callW (q65) ?_ | refine callW (q64) ?_ | refine callW (q2) ?_ | refine kV (n0) ?_ | refine kV (n2) ?_ | refine kV (n3) ?_ | refine kV (n7) ?_ | refine kV (hch) ?_ | refine condD (fun h => ?_) (fun h => ?_) | refine condB (fun h => ?_) (fun h => ?_) | refine condN (fun h => ?_) (fun h => ?_) | refine condE (fun h => ?_) (fun h => ?_) | refine condV (fun h => ?_) (fun h => ?_))
          refine ev_fin ?_
          (conv => whnf)
          refine And.intro (by first | rfl | (simp [AV.pure, pureL, pureLL_bytes]; done) | fail) ?_
          (conv => whnf)
          refine And.intro (by first | rfl | (simp [AV.pure, pureL, pureLL_bytes]; done) | fail) ?_
          (conv => whnf)
          first | exact And.intro rfl rfl | (refine And.intro (by first | rfl | (simp [AV.pure, pureL, pureLL_bytes]; done) | fail) ?_; (conv => whnf); rfl) | rfl
      · generalize hze : checkO m = ze at hch hz
        rw [show agreeP c p m = (zeroS, notM 2 0, 15) from by first | (simp [agreeP, *]; done) | (simp [agreeP, *]; rfl)]
        refine gives_code (F := f131) rfl rfl (W_ok 300 _ _ _ _ ?_)
        repeat' ((conv => whnf); first | refine zCR (x := capV m.caps 64) (by omega) ?_ | refine kV hk ?_ (by simp [pureL, AV.pure, hp, h1, h2, h3, h4]) | refine bslP (by first | rfl | (simp [pureL, pureLL, AV.pure]; done) | fail) rfl ?_ | refine TakeC.full (by first | rfl | omega | (simp; done) | (simp; omega) | fail) ?_ | refine zBs ?_ | refine zBn ?_ | refine zBv rfl rfl ?_ | refine zN ?_ | refine zC ?_ | refine zC4 ?_ | refine zOr16 ?_ | refine zC1 ?_ | refine zByte ?_ | refine zMaxL ?_ | refine zMaxR ?_ | refine zMinL ?_ | refine zMinR ?_ | refine zShr ?_ | refine zC8 ?_ | refine zQ ?_ | refine zR ?_ | refine zS ?_ | refine zA ?_ | refine zM ?_ | refine xr rfl ?_ | refine ai rfl ?_ | refine condT ?_ | refine condF ?_ | refine condG1 ?_ | refine condG0 ?_ | refine cD ?_ | refine dD ?_ | refine cB ?_ | refine dB ?_ | refine cN ?_ | refine dN ?_ | refine cV ?_ | refine dV ?_ | refine cE ?_ | refine dE ?_ | refine condX0 ?_ | refine condX1 ?_ | refine condNot ?_ | refine condAnd ?_ | refine condOr ?_ | refine aO ?_ | refine aB ?_ | refine aR ?_ | refine aR ?_ (by simp; omega) | refine xr (by assumption) ?_ | refine ai (by assumption) ?_ | refine callW (q65) ?_ | refine callW (q64) ?_ | refine callW (q2) ?_ | refine kV (n0) ?_ | refine kV (n2) ?_ | refine kV (n3) ?_ | refine kV (n7) ?_ | refine kV (hch) ?_ | refine condD (fun h => ?_) (fun h => ?_) | refine condB (fun h => ?_) (fun h => ?_) | refine condN (fun h => ?_) (fun h => ?_) | refine condE (fun h => ?_) (fun h => ?_) | refine condV (fun h => ?_) (fun h => ?_))
        refine ev_fin ?_
        (conv => whnf)
        refine And.intro (by first | rfl | (simp [AV.pure, pureL, pureLL_bytes]; done) | fail) ?_
        (conv => whnf)
        refine And.intro (by first | rfl | (simp [AV.pure, pureL, pureLL_bytes]; done) | fail) ?_
        (conv => whnf)
        first | exact And.intro rfl rfl | (refine And.intro (by first | rfl | (simp [AV.pure, pureL, pureLL_bytes]; done) | fail) ?_; (conv => whnf); rfl) | rfl
    ·
      rw [show agreeP c p m = (zeroS, notM 2 0, 15) from by first | (simp [agreeP, *]; done) | (simp [agreeP, *]; rfl)]
      refine gives_code (F := f131) rfl rfl (W_ok 300 _ _ _ _ ?_)
      repeat' ((conv => whnf); first | refine zCR (x := capV m.caps 64) (by omega) ?_ | refine kV hk ?_ (by simp [pureL, AV.pure, hp, h1, h2, h3, h4]) | refine bslP (by first | rfl | (simp [pureL, pureLL, AV.pure]; done) | fail) rfl ?_ | refine TakeC.full (by first | rfl | omega | (simp; done) | (simp; omega) | fail) ?_ | refine zBs ?_ | refine zBn ?_ | refine zBv rfl rfl ?_ | refine zN ?_ | refine zC ?_ | refine zC4 ?_ | refine zOr16 ?_ | refine zC1 ?_ | refine zByte ?_ | refine zMaxL ?_ | refine zMaxR ?_ | refine zMinL ?_ | refine zMinR ?_ | refine zShr ?_ | refine zC8 ?_ | refine zQ ?_ | refine zR ?_ | refine zS ?_ | refine zA ?_ | refine zM ?_ | refine xr rfl ?_ | refine ai rfl ?_ | refine condT ?_ | refine condF ?_ | refine condG1 ?_ | refine condG0 ?_ | refine cD ?_ | refine dD ?_ | refine cB ?_ | refine dB ?_ | refine cN ?_ | refine dN ?_ | refine cV ?_ | refine dV ?_ | refine cE ?_ | refine dE ?_ | refine condX0 ?_ | refine condX1 ?_ | refine condNot ?_ | refine condAnd ?_ | refine condOr ?_ | refine aO ?_ | refine aB ?_ | refine aR ?_ | refine aR ?_ (by simp; omega) | refine xr (by assumption) ?_ | refine ai (by assumption) ?_ | refine callW (q65) ?_ | refine callW (q64) ?_ | refine callW (q2) ?_ | refine kV (n0) ?_ | refine kV (n2) ?_ | refine kV (n3) ?_ | refine kV (n7) ?_ | refine condD (fun h => ?_) (fun h => ?_) | refine condB (fun h => ?_) (fun h => ?_) | refine condN (fun h => ?_) (fun h => ?_) | refine condE (fun h => ?_) (fun h => ?_) | refine condV (fun h => ?_) (fun h => ?_))
      refine ev_fin ?_
      (conv => whnf)
      refine And.intro (by first | rfl | (simp [AV.pure, pureL, pureLL_bytes]; done) | fail) ?_
      (conv => whnf)
      refine And.intro (by first | rfl | (simp [AV.pure, pureL, pureLL_bytes]; done) | fail) ?_
      (conv => whnf)
      first | exact And.intro rfl rfl | (refine And.intro (by first | rfl | (simp [AV.pure, pureL, pureLL_bytes]; done) | fail) ?_; (conv => whnf); rfl) | rfl
end Go.AM.IR
set_option maxHeartbeats 4000000
set_option maxRecDepth 20000
namespace Go.AM.IR
theorem agree_gives132 (c : Conf) (hc : c.ok) (hl : c.peers.length ≤ maxLen) (peer : Int) (m : PMsg) (h : LenO m) : Gives G 132 [.agg c.enc, .int .i64 peer, .agg m.enc] [] (agreeRet (agreeS c peer m)) := by
  have hp := hc.nets; have h1 := hc.p1; have h2 := hc.p2; have h3 := hc.p3; have h4 := hc.p4
  have hll : (c.peers.map Peer.enc).length = c.peers.length := by simp
  have hk := has_gives142 c hc hl peer
  have n0 := notify_gives149 2 0; have n2 := notify_gives149 2 2; have n3 := notify_gives149 2 3; have n7 := notify_gives149 2 7
  have q65 := cap_gives147 m h.len.caps 65; have q64 := cap_gives147 m h.len.caps 64; have q2 := cap_gives147 m h.len.caps 2
  unfold capRet at q65 q64 q2
  cases hkn : knownS c peer
  · rw [hkn] at hk
    rw [show agreeS c peer m = (zeroS, zeroM, 5) from by simp [agreeS, hkn]]
    refine gives_code (F := f132) rfl rfl (W_ok 300 _ _ _ _ ?_)
    repeat' ((conv => whnf); first | refine kV hk ?_ (by simp [pureL, AV.pure, hp, h1, h2, h3, h4]) | refine bslP (by first | rfl | (simp [pureL, pureLL, AV.pure]; done) | fail) rfl ?_ | refine TakeC.full (by first | rfl | omega | (simp; done) | (simp; omega) | fail) ?_ | refine zBs ?_ | refine zBn ?_ | refine zBv rfl rfl ?_ | refine zN ?_ | refine zC ?_ | refine zC4 ?_ | refine zOr16 ?_ | refine zC1 ?_ | refine zByte ?_ | refine zMaxL ?_ | refine zMaxR ?_ | refine zMinL ?_ | refine zMinR ?_ | refine zShr ?_ | refine zC8 ?_ | refine zQ ?_ | refine zR ?_ | refine zS ?_ | refine zA ?_ | refine zM ?_ | refine xr rfl ?_ | refine ai rfl ?_ | refine condT ?_ | refine condF ?_ | refine condG1 ?_ | refine condG0 ?_ | refine cD ?_ | refine dD ?_ | refine cB ?_ | refine dB ?_ | refine cN ?_ | refine dN ?_ | refine cV ?_ | refine dV ?_ | refine cE ?_ | refine dE ?_ | refine condX0 ?_ | refine condX1 ?_ | refine condNot ?_ | refine condAnd ?_ | refine condOr ?_ | refine aO ?_ | refine aB ?_ | refine aR ?_ | refine aR ?_ (by simp; omega) | refine xr (by assumption) ?_ | refine ai (by assumption) ?_ | refine condD (fun h => ?_) (fun h => ?_) | refine condB (fun h => ?_) (fun h => ?_) | refine condN (fun h => ?_) (fun h => ?_) | refine condE (fun h => ?_) (fun h => ?_) | refine condV (fun h => ?_) (fun h => ?_))
    refine ev_le [] [(71, some (_, .cells (zeroM.enc)))] trivial ⟨⟨rfl, (by repeat' (first | exact trivial | exact LeP.refl _ | exact LeP.nil _ | refine LeP.sl ?_ | refine ⟨?_, ?_⟩))⟩, trivial⟩ ?_
    refine ev_fin ?_
    (conv => whnf)
    refine And.intro (by first | rfl | (simp [AV.pure, pureL, pureLL_bytes]; done) | fail) ?_
    (conv => whnf)
    refine And.intro (by first | rfl | (simp [AV.pure, pureL, pureLL_bytes]; done) | fail) ?_
    (conv => whnf)
    first | exact And.intro rfl rfl | (refine And.intro (by first | rfl | (simp [AV.pure, pureL, pureLL_bytes]; done) | fail) ?_; (conv => whnf); rfl) | rfl
  · have h0 : 0 ≤ peer ∧ peer < c.peers.length := by simpa [knownS] using hkn
    have hlt : peer.toNat < c.peers.length := by omega
    generalize hpe : c.peers[peer.toNat] = p
    have hx : (c.peers.map Peer.enc)[peer.toNat]? = some p.enc := by simp [hlt, hpe]
    rw [show agreeS c peer m = agreeP c p m from by simp [agreeS, hkn, hlt, hpe]]
    rw [hkn] at hk
    by_cases hki : m.kind = 1
    · have hch := check_gives148 m h hki
      have h64 := check64 m
      by_cases hz : checkO m = 0
      · rw [hz] at hch
        have h64 := h64 hz
        by_cases has : m.as = p.as
        · by_cases hro : m.router = c.router
          ·
            rw [show agreeP c p m = (zeroS, notM 2 3, 1) from by first | (simp [agreeP, *]; done) | (simp [agreeP, *]; rfl)]
            refine gives_code (F := f132) rfl rfl (W_ok 300 _ _ _ _ ?_)
            repeat' ((conv => whnf); first | refine zCR (x := capV m.caps 64) (by omega) ?_ | refine kV hk ?_ (by simp [pureL, AV.pure, hp, h1, h2, h3, h4]) | refine bslP (by first | rfl | (simp [pureL, pureLL, AV.pure]; done) | fail) rfl ?_ | refine TakeC.full (by first | rfl | omega | (simp; done) | (simp; omega) | fail) ?_ | refine zBs ?_ | refine zBn ?_ | refine zBv rfl rfl ?_ | refine zN ?_ | refine zC ?_ | refine zC4 ?_ | refine zOr16 ?_ | refine zC1 ?_ | refine zByte ?_ | refine zMaxL ?_ | refine zMaxR ?_ | refine zMinL ?_ | refine zMinR ?_ | refine zShr ?_ | refine zC8 ?_ | refine zQ ?_ | refine zR ?_ | refine zS ?_ | refine zA ?_ | refine zM ?_ | refine xr rfl ?_ | refine ai rfl ?_ | refine condT ?_ | refine condF ?_ | refine condG1 ?_ | refine condG0 ?_ | refine cD ?_ | refine dD ?_ | refine cB ?_ | refine dB ?_ | refine cN ?_ | refine dN ?_ | refine cV ?_ | refine dV ?_ | refine cE ?_ | refine dE ?_ | refine condX0 ?_ | refine condX1 ?_ | refine condNot ?_ | refine condAnd ?_ | refine condOr ?_ | refine aO ?_ | refine aB ?_ | refine aR ?_ | refine aR ?_ (by simp; omega) | refine xr (by assumption) ?_ | refine ai (by assumption) ?_ | refine callW (q65) ?_ | refine callW (q64) ?_ | refine callW (q2) ?_ | refine kV (n0) ?_ | refine kV (n2) ?_ | refine kV (n3) ?_ | refine kV (n7) ?_ | refine kV (hch) ?_ | refine condD (fun h => ?_) (fun h => ?_) | refine condB (fun h => ?_) (fun h => ?_) | refine condN (fun h => ?_) (fun h => ?_) | refine condE (fun h => ?_) (fun h => ?_) | refine condV (fun h => ?_) (fun h => ?_))
            refine ev_fin ?_
            (conv => whnf)
            refine And.intro (by first | rfl | (simp [AV.pure, pureL, pureLL_bytes]; done) | fail) ?_
            (conv => whnf)
            refine And.intro (by first | rfl | (simp [AV.pure, pureL, pureLL_bytes]; done) | fail) ?_
            (conv => whnf)
            first | exact And.intro rfl rfl | (refine And.intro (by first | rfl | (simp [AV.pure, pureL, pureLL_bytes]; done) | fail) ?_; (conv => whnf); rfl) | rfl
          · cases h65 : capB m.caps 65
            · rw [h65] at q65
              rw [show agreeP c p m = (zeroS, notM 2 7, 22) from by first | (simp [agreeP, *]; done) | (simp [agreeP, *]; rfl)]
              refine gives_code (F := f132) rfl rfl (W_ok 300 _ _ _ _ ?_)
              repeat' ((conv => whnf); first | refine zCR (x := capV m.caps 64) (by omega) ?_ | refine kV hk ?_ (by simp [pureL, AV.pure, hp, h1, h2, h3, h4]) | refine bslP (by first | rfl | (simp [pureL, pureLL, AV.pure]; done) | fail) rfl ?_ | refine TakeC.full (by first | rfl | omega | (simp; done) | (simp; omega) | fail) ?_ | refine zBs ?_ | refine zBn ?_ | refine zBv rfl rfl ?_ | refine zN ?_ | refine zC ?_ | refine zC4 ?_ | refine zOr16 ?_ | refine zC1 ?_ | refine zByte ?_ | refine zMaxL ?_ | refine zMaxR ?_ | refine zMinL ?_ | refine zMinR ?_ | refine zShr ?_ | refine zC8 ?_ | refine zQ ?_ | refine zR ?_ | refine zS ?_ | refine zA ?_ | refine zM ?_ | refine xr rfl ?_ | refine ai rfl ?_ | refine condT ?_ | refine condF ?_ | refine condG1 ?_ | refine condG0 ?_ | refine cD ?_ | refine dD ?_ | refine cB ?_ | refine dB ?_ | refine cN ?_ | refine dN ?_ | refine cV ?_ | refine dV ?_ | refine cE ?_ | refine dE ?_ | refine condX0 ?_ | refine condX1 ?_ | refine condNot ?_ | refine condAnd ?_ | refine condOr ?_ | refine aO ?_ | refine aB ?_ | refine aR ?_ | refine aR ?_ (by simp; omega) | refine xr (by assumption) ?_ | refine ai (by assumption) ?_ | refine callW (q65) ?_ | refine callW (q64) ?_ | refine callW (q2) ?_ | refine kV (n0) ?_ | refine kV (n2) ?_ | refine kV (n3) ?_ | refine kV (n7) ?_ | refine kV (hch) ?_ | refine condD (fun h => ?_) (fun h => ?_) | refine condB (fun h => ?_) (fun h => ?_) | refine condN (fun h => ?_) (fun h => ?_) | refine condE (fun h => ?_) (fun h => ?_) | refine condV (fun h => ?_) (fun h => ?_))
              refine ev_fin ?_
              (conv => whnf)
              refine And.intro (by first | rfl | (simp [AV.pure, pureL, pureLL_bytes]; done) | fail) ?_
              (conv => whnf)
              refine And.intro (by first | rfl | (simp [AV.pure, pureL, pureLL_bytes]; done) | fail) ?_
              (conv => whnf)
              first | exact And.intro rfl rfl | (refine And.intro (by first | rfl | (simp [AV.pure, pureL, pureLL_bytes]; done) | fail) ?_; (conv => whnf); rfl) | rfl
            · rw [h65] at q65
              cases hb64 : capB m.caps 64
              · rw [hb64] at q64
                by_cases hmin : p.hold ≤ m.hold
                ·
                  rw [show agreeP c p m = ({ zeroS with state := 3, holdTime := p.hold, router := m.router, refresh := capB m.caps 2 }, zeroM, 0) from by first | (simp [agreeP, *]; done) | (simp [agreeP, *]; rfl)]
                  refine gives_code (F := f132) rfl rfl (W_ok 300 _ _ _ _ ?_)
                  repeat' ((conv => whnf); first | refine zCR (x := capV m.caps 64) (by omega) ?_ | refine kV hk ?_ (by simp [pureL, AV.pure, hp, h1, h2, h3, h4]) | refine bslP (by first | rfl | (simp [pureL, pureLL, AV.pure]; done) | fail) rfl ?_ | refine TakeC.full (by first | rfl | omega | (simp; done) | (simp; omega) | fail) ?_ | refine zBs ?_ | refine zBn ?_ | refine zBv rfl rfl ?_ | refine zN ?_ | refine zC ?_ | refine zC4 ?_ | refine zOr16 ?_ | refine zC1 ?_ | refine zByte ?_ | refine zMaxL ?_ | refine zMaxR ?_ | refine zMinL ?_ | refine zMinR ?_ | refine zShr ?_ | refine zC8 ?_ | refine zQ ?_ | refine zR ?_ | refine zS ?_ | refine zA ?_ | refine zM ?_ | refine xr rfl ?_ | refine ai rfl ?_ | refine condT ?_ | refine condF ?_ | refine condG1 ?_ | refine condG0 ?_ | refine cD ?_ | refine dD ?_ | refine cB ?_ | refine dB ?_ | refine cN ?_ | refine dN ?_ | refine cV ?_ | refine dV ?_ | refine cE ?_ | refine dE ?_ | refine condX0 ?_ | refine condX1 ?_ | refine condNot ?_ | refine condAnd ?_ | refine condOr ?_ | refine aO ?_ | refine aB ?_ | refine aR ?_ | refine aR ?_ (by simp; omega) | refine xr (by assumption) ?_ | refine ai (by assumption) ?_ | refine callW (q65) ?_ | refine callW (q64) ?_ | refine callW (q2) ?_ | refine kV (n0) ?_ | refine kV (n2) ?_ | refine kV (n3) ?_ | refine kV (n7) ?_ | refine kV (hch) ?_ | refine condD (fun h => ?_) (fun h => ?_) | refine condB (fun h => ?_) (fun h => ?_) | refine condN (fun h => ?_) (fun h => ?_) | refine condE (fun h => ?_) (fun h => ?_) | refine condV (fun h => ?_) (fun h => ?_))
                  refine ev_le [] [(71, some (_, .cells (zeroM.enc)))] trivial ⟨⟨rfl, (by repeat' (first | exact trivial | exact LeP.refl _ | exact LeP.nil _ | refine LeP.sl ?_ | refine ⟨?_, ?_⟩))⟩, trivial⟩ ?_
                  refine ev_fin ?_
                  (conv => whnf)
                  refine And.intro (by first | rfl | (simp [AV.pure, pureL, pureLL_bytes]; done) | fail) ?_
                  (conv => whnf)
                  refine And.intro (by first | rfl | (simp [AV.pure, pureL, pureLL_bytes]; done) | fail) ?_
                  (conv => whnf)
                  first | exact And.intro rfl rfl | (refine And.intro (by first | rfl | (simp [AV.pure, pureL, pureLL_bytes]; done) | fail) ?_; (conv => whnf); rfl) | rfl
                ·
                  rw [show agreeP c p m = ({ zeroS with state := 3, holdTime := m.hold, router := m.router, refresh := capB m.caps 2 }, zeroM, 0) from by first | (simp [agreeP, *]; done) | (simp [agreeP, *]; rfl)]
                  refine gives_code (F := f132) rfl rfl (W_ok 300 _ _ _ _ ?_)
                  repeat' ((conv => whnf); first | refine zCR (x := capV m.caps 64) (by omega) ?_ | refine kV hk ?_ (by simp [pureL, AV.pure, hp, h1, h2, h3, h4]) | refine bslP (by first | rfl | (simp [pureL, pureLL, AV.pure]; done) | fail) rfl ?_ | refine TakeC.full (by first | rfl | omega | (simp; done) | (simp; omega) | fail) ?_ | refine zBs ?_ | refine zBn ?_ | refine zBv rfl rfl ?_ | refine zN ?_ | refine zC ?_ | refine zC4 ?_ | refine zOr16 ?_ | refine zC1 ?_ | refine zByte ?_ | refine zMaxL ?_ | refine zMaxR ?_ | refine zMinL ?_ | refine zMinR ?_ | refine zShr ?_ | refine zC8 ?_ | refine zQ ?_ | refine zR ?_ | refine zS ?_ | refine zA ?_ | refine zM ?_ | refine xr rfl ?_ | refine ai rfl ?_ | refine condT ?_ | refine condF ?_ | refine condG1 ?_ | refine condG0 ?_ | refine cD ?_ | refine dD ?_ | refine cB ?_ | refine dB ?_ | refine cN ?_ | refine dN ?_ | refine cV ?_ | refine dV ?_ | refine cE ?_ | refine dE ?_ | refine condX0 ?_ | refine condX1 ?_ | refine condNot ?_ | refine condAnd ?_ | refine condOr ?_ | refine aO ?_ | refine aB ?_ | refine aR ?_ | refine aR ?_ (by simp; omega) | refine xr (by assumption) ?_ | refine ai (by assumption) ?_ | refine callW (q65) ?_ | refine callW (q64) ?_ | refine callW (q2) ?_ | refine kV (n0) ?_ | refine kV (n2) ?_ | refine kV (n3) ?_ | refine kV (n7) ?_ | refine kV (hch) ?_ | refine condD (fun h => ?_) (fun h => ?_) | refine condB (fun h => ?_) (fun h => ?_) | refine condN (fun h => ?_) (fun h => ?_) | refine condE (fun h => ?_) (fun h => ?_) | refine condV (fun h => ?_) (fun h => ?_))
                  refine ev_le [] [(71, some (_, .cells (zeroM.enc)))] trivial ⟨⟨rfl, (by repeat' (first | exact trivial | exact LeP.refl _ | exact LeP.nil _ | refine LeP.sl ?_ | refine ⟨?_, ?_⟩))⟩, trivial⟩ ?_
                  refine ev_fin ?_
                  (conv => whnf)
                  refine And.intro (by first | rfl | (simp [AV.pure, pureL, pureLL_bytes]; done) | fail) ?_
                  (conv => whnf)
                  refine And.intro (by first | rfl | (simp [AV.pure, pureL, pureLL_bytes]; done) | fail) ?_
                  (conv => whnf)
                  first | exact And.intro rfl rfl | (refine And.intro (by first | rfl | (simp [AV.pure, pureL, pureLL_bytes]; done) | fail) ?_; (conv => whnf); rfl) | rfl
              · rw [hb64] at q64
                have hg := get2_gives113 (capV m.caps 64) (h64 hb64)
                have hv2 := h64 hb64
                by_cases hre : p.restart > 0
                · by_cases hmin : p.hold ≤ m.hold
                  ·
                    rw [show agreeP c p m = ({ zeroS with state := 3, holdTime := p.hold, router := m.router, restart := (rd (capV m.caps 64) : Nat), refresh := capB m.caps 2 }, zeroM, 0) from by first | (simp [agreeP, *]; done) | (simp [agreeP, *]; rfl)]
                    refine gives_code (F := f132) rfl rfl (W_ok 300 _ _ _ _ ?_)
                    repeat' ((conv => whnf); first | refine zCR (x := capV m.caps 64) (by omega) ?_ | refine kV hk ?_ (by simp [pureL, AV.pure, hp, h1, h2, h3, h4]) | refine kV hg ?_ (by simp [pureL, AV.pure, pureLL_bytes]) | refine bslP (by first | rfl | (simp [pureL, pureLL, AV.pure]; done) | fail) rfl ?_ | refine TakeC.full (by first | rfl | omega | (simp; done) | (simp; omega) | fail) ?_ | refine zBs ?_ | refine zBn ?_ | refine zBv rfl rfl ?_ | refine zN ?_ | refine zC ?_ | refine zC4 ?_ | refine zOr16 ?_ | refine zC1 ?_ | refine zByte ?_ | refine zMaxL ?_ | refine zMaxR ?_ | refine zMinL ?_ | refine zMinR ?_ | refine zShr ?_ | refine zC8 ?_ | refine zQ ?_ | refine zR ?_ | refine zS ?_ | refine zA ?_ | refine zM ?_ | refine xr rfl ?_ | refine ai rfl ?_ | refine condT ?_ | refine condF ?_ | refine condG1 ?_ | refine condG0 ?_ | refine cD ?_ | refine dD ?_ | refine cB ?_ | refine dB ?_ | refine cN ?_ | refine dN ?_ | refine cV ?_ | refine dV ?_ | refine cE ?_ | refine dE ?_ | refine condX0 ?_ | refine condX1 ?_ | refine condNot ?_ | refine condAnd ?_ | refine condOr ?_ | refine aO ?_ | refine aB ?_ | refine aR ?_ | refine aR ?_ (by simp; omega) | refine xr (by assumption) ?_ | refine ai (by assumption) ?_ | refine callW (q65) ?_ | refine callW (q64) ?_ | refine callW (q2) ?_ | refine kV (n0) ?_ | refine kV (n2) ?_ | refine kV (n3) ?_ | refine kV (n7) ?_ | refine kV (hch) ?_ | refine condD (fun h => ?_) (fun h => ?_) | refine condB (fun h => ?_) (fun h => ?_) | refine condN (fun h => ?_) (fun h => ?_) | refine condE (fun h => ?_) (fun h => ?_) | refine condV (fun h => ?_) (fun h => ?_))
                    refine ev_le [] [(71, some (_, .cells (zeroM.enc)))] trivial ⟨⟨rfl, (by repeat' (first | exact trivial | exact LeP.refl _ | exact LeP.nil _ | refine LeP.sl ?_ | refine ⟨?_, ?_⟩))⟩, trivial⟩ ?_
                    refine ev_fin ?_
                    (conv => whnf)
                    refine And.intro (by first | rfl | (simp [AV.pure, pureL, pureLL_bytes]; done) | fail) ?_
                    (conv => whnf)
                    refine And.intro (by first | rfl | (simp [AV.pure, pureL, pureLL_bytes]; done) | fail) ?_
                    (conv => whnf)
                    first | exact And.intro rfl rfl | (refine And.intro (by first | rfl | (simp [AV.pure, pureL, pureLL_bytes]; done) | fail) ?_; (conv => whnf); rfl) | rfl
                  ·
                    rw [show agreeP c p m = ({ zeroS with state := 3, holdTime := m.hold, router := m.router, restart := (rd (capV m.caps 64) : Nat), refresh := capB m.caps 2 }, zeroM, 0) from by first | (simp [agreeP, *]; done) | (simp [agreeP, *]; rfl)]
                    refine gives_code (F := f132) rfl rfl (W_ok 300 _ _ _ _ ?_)
                    repeat' ((conv => whnf); first | refine zCR (x := capV m.caps 64) (by omega) ?_ | refine kV hk ?_ (by simp [pureL, AV.pure, hp, h1, h2, h3, h4]) | refine kV hg ?_ (by simp [pureL, AV.pure, pureLL_bytes]) | refine bslP (by first | rfl | (simp [pureL, pureLL, AV.pure]; done) | fail) rfl ?_ | refine TakeC.full (by first | rfl | omega | (simp; done) | (simp; omega) | fail) ?_ | refine zBs ?_ | refine zBn ?_ | refine zBv rfl rfl ?_ | refine zN ?_ | refine zC ?_ | refine zC4 ?_ | refine zOr16 ?_ | refine zC1 ?_ | refine zByte ?_ | refine zMaxL ?_ | refine zMaxR ?_ | refine zMinL ?_ | refine zMinR ?_ | refine zShr ?_ | refine zC8 ?_ | refine zQ ?_ | refine zR ?_ | refine zS ?_ | refine zA ?_ | refine zM ?_ | refine xr rfl ?_ | refine ai rfl ?_ | refine condT ?_ | refine condF ?_ | refine condG1 ?_ | refine condG0 ?_ | refine cD ?_ | refine dD ?_ | refine cB ?_ | refine dB ?_ | refine cN ?_ | refine dN ?_ | refine cV ?_ | refine dV ?_ | refine cE ?_ | refine dE ?_ | refine condX0 ?_ | refine condX1 ?_ | refine condNot ?_ | refine condAnd ?_ | refine condOr ?_ | refine aO ?_ | refine aB ?_ | refine aR ?_ | refine aR ?_ (by simp; omega) | refine xr (by assumption) ?_ | refine ai (by assumption) ?_ | refine callW (q65) ?_ | refine callW (q64) ?_ | refine callW (q2) ?_ | refine kV (n0) ?_ | refine kV (n2) ?_ | refine kV (n3) ?_ | refine kV (n7) ?_ | refine kV (hch) ?_ | refine condD (fun h => ?_) (fun h => ?_) | refine condB (fun h => ?_) (fun h => ?_) | refine condN (fun h => ?_) (fun h => ?_) | refine condE (fun h => ?_) (fun h => ?_) | refine condV (fun h => ?_) (fun h => ?_))
                    refine ev_le [] [(71, some (_, .cells (zeroM.enc)))] trivial ⟨⟨rfl, (by repeat' (first | exact trivial | exact LeP.refl _ | exact LeP.nil _ | refine LeP.sl ?_ | refine ⟨?_, ?_⟩))⟩, trivial⟩ ?_
                    refine ev_fin ?_
                    (conv => whnf)
                    refine And.intro (by first | rfl | (simp [AV.pure, pureL, pureLL_bytes]; done) | fail) ?_
                    (conv => whnf)
                    refine And.intro (by first | rfl | (simp [AV.pure, pureL, pureLL_bytes]; done) | fail) ?_
                    (conv => whnf)
                    first | exact And.intro rfl rfl | (refine And.intro (by first | rfl | (simp [AV.pure, pureL, pureLL_bytes]; done) | fail) ?_; (conv => whnf); rfl) | rfl
                · by_cases hmin : p.hold ≤ m.hold
                  ·
                    rw [show agreeP c p m = ({ zeroS with state := 3, holdTime := p.hold, router := m.router, refresh := capB m.caps 2 }, zeroM, 0) from by first | (simp [agreeP, *]; done) | (simp [agreeP, *]; rfl)]
                    refine gives_code (F := f132) rfl rfl (W_ok 300 _ _ _ _ ?_)
                    repeat' ((conv => whnf); first | refine zCR (x := capV m.caps 64) (by omega) ?_ | refine kV hk ?_ (by simp [pureL, AV.pure, hp, h1, h2, h3, h4]) | refine bslP (by first | rfl | (simp [pureL, pureLL, AV.pure]; done) | fail) rfl ?_ | refine TakeC.full (by first | rfl | omega | (simp; done) | (simp; omega) | fail) ?_ | refine zBs ?_ | refine zBn ?_ | refine zBv rfl rfl ?_ | refine zN ?_ | refine zC ?_ | refine zC4 ?_ | refine zOr16 ?_ | refine zC1 ?_ | refine zByte ?_ | refine zMaxL ?_ | refine zMaxR ?_ | refine zMinL ?_ | refine zMinR ?_ | refine zShr ?_ | refine zC8 ?_ | refine zQ ?_ | refine zR ?_ | refine zS ?_ | refine zA ?_ | refine zM ?_ | refine xr rfl ?_ | refine ai rfl ?_ | refine condT ?_ | refine condF ?_ | refine condG1 ?_ | refine condG0 ?_ | refine cD ?_ | refine dD ?_ | refine cB ?_ | refine dB ?_ | refine cN ?_ | refine dN ?_ | refine cV ?_ | refine dV ?_ | refine cE ?_ | refine dE ?_ | refine condX0 ?_ | refine condX1 ?_ | refine condNot ?_ | refine condAnd ?_ | refine condOr ?_ | refine aO ?_ | refine aB ?_ | refine aR ?_ | refine aR ?_ (by simp; omega) | refine xr (by assumption) ?_ | refine ai (by assumption) ?_ | refine callW (q65) ?_ | refine callW (q64) ?_ | refine callW (q2) ?_ | refine kV (n0) ?_ | refine kV (n2) ?_ | refine kV (n3) ?_ | refine kV (n7) ?_ | refine kV (hch) ?_ | refine condD (fun h => ?_) (fun h => ?_) | refine condB (fun h => ?_) (fun h => ?_) | refine condN (fun h => ?_) (fun h => ?_) | refine condE (fun h => ?_) (fun h => ?_) | refine condV (fun h => ?_) (fun h => ?_))
                    refine ev_le [] [(71, some (_, .cells (zeroM.enc)))] trivial ⟨⟨rfl, (by repeat' (first | exact trivial | exact LeP.refl _ | exact LeP.nil _ | refine LeP.sl ?_ | refine ⟨?_, ?_⟩))⟩, trivial⟩ ?_
                    refine ev_fin ?_
                    (conv => whnf)
                    refine And.intro (by first | rfl | (simp [AV.pure, pureL, pureLL_bytes]; done) | fail) ?_
                    (conv => whnf)
                    refine And.intro (by first | rfl | (simp [AV.pure, pureL, pureLL_bytes]; done) | fail) ?_
                    (conv => whnf)
                    first | exact And.intro rfl rfl | (refine And.intro (by first | rfl | (simp [AV.pure, pureL, pureLL_bytes]; done) | fail) ?_; (conv => whnf); rfl) | rfl
                  ·
                    rw [show agreeP c p m = ({ zeroS with state := 3, holdTime := m.hold, router := m.router, refresh := capB m.caps 2 }, zeroM, 0) from by first | (simp [agreeP, *]; done) | (simp [agreeP, *]; rfl)]
                    refine gives_code (F := f132) rfl rfl (W_ok 300 _ _ _ _ ?_)
                    repeat' ((conv => whnf); first | refine zCR (x := capV m.caps 64) (by omega) ?_ | refine kV hk ?_ (by simp [pureL, AV.pure, hp, h1, h2, h3, h4]) | refine bslP (by first | rfl | (simp [pureL, pureLL, AV.pure]; done) | fail) rfl ?_ | refine TakeC.full (by first | rfl | omega | (simp; done) | (simp; omega) | fail) ?_ | refine zBs ?_ | refine zBn ?_ | refine zBv rfl rfl ?_ | refine zN ?_ | refine zC ?_ | refine zC4 ?_ | refine zOr16 ?_ | refine zC1 ?_ | refine zByte ?_ | refine zMaxL ?_ | refine zMaxR ?_ | refine zMinL ?_ | refine zMinR ?_ | refine zShr ?_ | refine zC8 ?_ | refine zQ ?_ | refine zR ?_ | refine zS ?_ | refine zA ?_ | refine zM ?_ | refine xr rfl ?_ | refine ai rfl ?_ | refine condT ?_ | refine condF ?_ | refine condG1 ?_ | refine condG0 ?_ | refine cD ?_ | refine dD ?_ | refine cB ?_ | refine dB ?_ | refine cN ?_ | refine dN ?_ | refine cV ?_ | refine dV ?_ | refine cE ?_ | refine dE ?_ | refine condX0 ?_ | refine condX1 ?_ | refine condNot ?_ | refine condAnd ?_ | refine condOr ?_ | refine aO ?_ | refine aB ?_ | refine aR ?_ | refine aR ?_ (by simp; omega) | refine xr (by assumption) ?_ | refine ai (by assumption) ?_ | refine callW (q65) ?_ | refine callW (q64) ?_ | refine callW (q2) ?_ | refine kV (n0) ?_ | refine kV (n2) ?_ | refine kV (n3) ?_ | refine kV (n7) ?_ | refine kV (hch) ?_ | refine condD (fun h => ?_) (fun h => ?_) | refine condB (fun h => ?_) (fun h => ?_) | refine condN (fun h => ?_) (fun h => ?_) | refine condE (fun h => ?_) (fun h => ?_) | refine condV (fun h => ?_) (fun h => ?_))
                    refine ev_le [] [(71, some (_, .cells (zeroM.enc)))] trivial ⟨⟨rfl, (by repeat' (first | exact trivial | exact LeP.refl _ | exact LeP.nil _ | refine LeP.sl ?_ | refine ⟨?_, ?_⟩))⟩, trivial⟩ ?_
                    refine ev_fin ?_
                    (conv => whnf)
                    refine And.intro (by first | rfl | (simp [AV.pure, pureL, pureLL_bytes]; done) | fail) ?_
                    (conv => whnf)
                    refine And.intro (by first | rfl | (simp [AV.pure, pureL, pureLL_bytes]; done) | fail) ?_
                    (conv => whnf)
                    first | exact And.intro rfl rfl | (refine And.intro (by first | rfl | (simp [AV.pure, pureL, pureLL_bytes]; done) | fail) ?_; (conv => whnf); rfl) | rfl
        ·
          rw [show agreeP c p m = (zeroS, notM 2 2, 14) from by first | (simp [agreeP, *]; done) | (simp [agreeP, *]; rfl)]
          refine gives_code (F := f132) rfl rfl (W_ok 300 _ _ _ _ ?_)
          repeat' ((conv => whnf); first | refine zCR (x := capV m.caps 64) (by omega) ?_ | refine kV hk ?_ (by simp [pureL, AV.pure, hp, h1, h2, h3, h4]) | refine bslP (by first | rfl | (simp [pureL, pureLL, AV.pure]; done) | fail) rfl ?_ | refine TakeC.full (by first | rfl | omega | (simp; done) | (simp; omega) | fail) ?_ | refine zBs ?_ | refine zBn ?_ | refine zBv rfl rfl ?_ | refine zN ?_ | refine zC ?_ | refine zC4 ?_ | refine zOr16 ?_ | refine zC1 ?_ | refine zByte ?_ | refine zMaxL ?_ | refine zMaxR ?_ | refine zMinL ?_ | refine zMinR ?_ | refine zShr ?_ | refine zC8 ?_ | refine zQ ?_ | refine zR ?_ | refine zS ?_ | refine zA ?_ | refine zM ?_ | refine xr rfl ?_ | refine ai rfl ?_ | refine condT ?_ | refine condF ?_ | refine condG1 ?_ | refine condG0 ?_ | refine cD ?_ | refine dD ?_ | refine cB ?_ | refine dB ?_ | refine cN ?_ | refine dN ?_ | refine cV ?_ | refine dV ?_ | refine cE ?_ | refine dE ?_ | refine condX0 ?_ | refine condX1 ?_ | refine condNot ?_ | refine condAnd ?_ | refine condOr ?_ | refine aO ?_ | refine aB ?_ | refine aR ?_ | refine aR ?_ (by simp; omega) | refine xr (by assumption) ?_ | refine ai (by assumption) ?_ | refine callW (q65) ?_ | refine callW (q64) ?_ | refine callW (q2) ?_ | refine kV (n0) ?_ | refine kV (n2) ?_ | refine kV (n3) ?_ | refine kV (n7) ?_ | refine kV (hch) ?_ | refine condD (fun h => ?_) (fun h => ?_) | refine condB (fun h => ?_) (fun h => ?_) | refine condN (fun h => ?_) (fun h => ?_) | refine condE (fun h => ?_) (fun h => ?_) | refine condV (fun h => ?_) (fun h => ?_))
          refine ev_fin ?_
          (conv => whnf)
          refine And.intro (by first | rfl | (simp [AV.pure, pureL, pureLL_bytes]; done) | fail) ?_
          (conv => whnf)
          refine And.intro (by first | rfl | (simp [AV.pure, pureL, pureLL_bytes]; done) | fail) ?_
          (conv => whnf)
          first | exact And.intro rfl rfl | (refine And.intro (by first | rfl | (simp [AV.pure, pureL, pureLL_bytes]; done) | fail) ?_; (conv => whnf); rfl) | rfl
      · generalize hze : checkO m = ze at hch hz
        rw [show agreeP c p m = (zeroS, notM 2 0, 15) from by first | (simp [agreeP, *]; done) | (simp [agreeP, *]; rfl)]
        refine gives_code (F := f132) rfl rfl (W_ok 300 _ _ _ _ ?_)
        repeat' ((conv => whnf); first | refine zCR (x := capV m.caps 64) (by omega) ?_ | refine kV hk ?_ (by simp [pureL, AV.pure, hp, h1, h2, h3, h4]) | refine bslP (by first | rfl | (simp [pureL, pureLL, AV.pure]; done) | fail) rfl ?_ | refine TakeC.full (by first | rfl | omega | (simp; done) | (simp; omega) | fail) ?_ | refine zBs ?_ | refine zBn ?_ | refine zBv rfl rfl ?_ | refine zN ?_ | refine zC ?_ | refine zC4 ?_ | refine zOr16 ?_ | refine zC1 ?_ | refine zByte ?_ | refine zMaxL ?_ | refine zMaxR ?_ | refine zMinL ?_ | refine zMinR ?_ | refine zShr ?_ | refine zC8 ?_ | refine zQ ?_ | refine zR ?_ | refine zS ?_ | refine zA ?_ | refine zM ?_ | refine xr rfl ?_ | refine ai rfl ?_ | refine condT ?_ | refine condF ?_ | refine condG1 ?_ | refine condG0 ?_ | refine cD ?_ | refine dD ?_ | refine cB ?_ | refine dB ?_ | refine cN ?_ | refine dN ?_ | refine cV ?_ | refine dV ?_ | refine cE ?_ | refine dE ?_ | refine condX0 ?_ | refine condX1 ?_ | refine condNot ?_ | refine condAnd ?_ | refine condOr ?_ | refine aO ?_ | refine aB ?_ | refine aR ?_ | refine aR ?_ (by simp; omega) | refine xr (by assumption) ?_ | refine ai (by assumption) ?_ | refine callW (q65) ?_ | refine callW (q64) ?_ | refine callW (q2) ?_ | refine kV (n0) ?_ | refine kV (n2) ?_ | refine kV (n3) ?_ | refine kV (n7) ?_ | refine kV (hch) ?_ | refine condD (fun h => ?_) (fun h => ?_) | refine condB (fun h => ?_) (fun h => ?_) | refine condN (fun h => ?_) (fun h => ?_) | refine condE (fun h => ?_) (fun h => ?_) | refine condV (fun h => ?_) (fun h => ?_))
        refine ev_fin ?_
        (conv => whnf)
        refine And.intro (by first | rfl | (simp [AV.pure, pureL, pureLL_bytes]; done) | fail) ?_
        (conv => whnf)
        refine And.intro (by first | rfl | (simp [AV.pure, pureL, pureLL_bytes]; done) | fail) ?_
        (conv => whnf)
        first | exact And.intro rfl rfl | (refine And.intro (by first | rfl | (simp [AV.pure, pureL, pureLL_bytes]; done) | fail) ?_; (conv => whnf); rfl) | rfl
    ·
      rw [show agreeP c p m = (zeroS, notM 2 0, 15) from by first | (simp [agreeP, *]; done) | (simp [agreeP, *]; rfl)]
      refine gives_code (F := f132) rfl rfl (W_ok 300 _ _ _ _ ?_)
      repeat' ((conv => whnf); first | refine zCR (x := capV m.caps 64) (by omega) ?_ | refine kV hk ?_ (by simp [pureL, AV.pure, hp, h1, h2, h3, h4]) | refine bslP (by first | rfl | (simp [pureL, pureLL, AV.pure]; done) | fail) rfl ?_ | refine TakeC.full (by first | rfl | omega | (simp; done) | (simp; omega) | fail) ?_ | refine zBs ?_ | refine zBn ?_ | refine zBv rfl rfl ?_ | refine zN ?_ | refine zC ?_ | refine zC4 ?_ | refine zOr16 ?_ | refine zC1 ?_ | refine zByte ?_ | refine zMaxL ?_ | refine zMaxR ?_ | refine zMinL ?_ | refine zMinR ?_ | refine zShr ?_ | refine zC8 ?_ | refine zQ ?_ | refine zR ?_ | refine zS ?_ | refine zA ?_ | refine zM ?_ | refine xr rfl ?_ | refine ai rfl ?_ | refine condT ?_ | refine condF ?_ | refine condG1 ?_ | refine condG0 ?_ | refine cD ?_ | refine dD ?_ | refine cB ?_ | refine dB ?_ | refine cN ?_ | refine dN ?_ | refine cV ?_ | refine dV ?_ | refine cE ?_ | refine dE ?_ | refine condX0 ?_ | refine condX1 ?_ | refine condNot ?_ | refine condAnd ?_ | refine condOr ?_ | refine aO ?_ | refine aB ?_ | refine aR ?_ | refine aR ?_ (by simp; omega) | refine xr (by assumption) ?_ | refine ai (by assumption) ?_ | refine callW (q65) ?_ | refine callW (q64) ?_ | refine callW (q2) ?_ | refine kV (n0) ?_ | refine kV (n2) ?_ | refine kV (n3) ?_ | refine kV (n7) ?_ | refine condD (fun h => ?_) (fun h => ?_) | refine condB (fun h => ?_) (fun h => ?_) | refine condN (fun h => ?_) (fun h => ?_) | refine condE (fun h => ?_) (fun h => ?_) | refine condV (fun h => ?_) (fun h => ?_))
      refine ev_fin ?_
      (conv => whnf)
      refine And.intro (by first | rfl | (simp [AV.pure, pureL, pureLL_bytes]; done) | fail) ?_
      (conv => whnf)
      refine And.intro (by first | rfl | (simp [AV.pure, pureL, pureLL_bytes]; done) | fail) ?_
      (conv => whnf)
      first | exact And.intro rfl rfl | (refine And.intro (by first | rfl | (simp [AV.pure, pureL, pureLL_bytes]; done) | fail) ?_; (conv => whnf); rfl) | rfl
end Go.AM.IR
namespace Go.AM.IR
set_option maxHeartbeats 2000000
theorem bkLL_map_le {α : Type} (f : α → List AV) (g : α → Nat) (h : ∀ x, g x ≤ bkL (f x)) : ∀ l : List α, (l.map g).sum ≤ bkLL (l.map f)
  | [] => by simp
  | x :: r => by
    have := bkLL_map_le f g h r
    have := h x
    simp only [List.map_cons, List.sum_cons, bkLL]
    omega
theorem sum_one {α : Type} : ∀ l : List α, (l.map fun _ => 1).sum = l.length
  | [] => rfl
  | x :: r => by simp only [List.map_cons, List.sum_cons, List.length_cons, sum_one r]; omega
theorem len_bk {α : Type} (f : α → List AV) (h : ∀ x, 1 ≤ bkL (f x)) (l : List α) : l.length ≤ bkLL (l.map f) := by
  have := bkLL_map_le f (fun _ => 1) h l
  rwa [sum_one] at this
theorem mem_bk {α : Type} (f : α → List AV) : ∀ (l : List α) (x : α), x ∈ l → bkL (f x) ≤ bkLL (l.map f)
  | y :: r, x, h => by
    simp only [List.map_cons, bkLL]
    rcases List.mem_cons.1 h with rfl | h
    · omega
    · have := mem_bk f r x h; omega
theorem bk_bytes (l : List UInt8) : l.length ≤ bkLL (byteCells l) := len_bk (f := fun b : UInt8 => [AV.int .u8 (b.toNat : Int)]) (fun _ => by simp [bkL, AV.bk]) l
theorem seg_bk (s : Seg) : s.as.length + 1 ≤ bkL s.enc := by
  have := len_bk encI (fun _ => by simp [encI, bkL, AV.bk]) s.as
  simp only [Seg.enc, bkL, AV.bk]; omega
theorem tlv_bk (s : TLV) : s.value.length + 1 ≤ bkL s.enc := by
  have := bk_bytes s.value
  simp only [TLV.enc, bkL, AV.bk]; omega
theorem flat_len : ∀ l : List Seg, (flatS l).length = (l.map fun s => s.as.length).sum
  | [] => rfl
  | s :: r => by
    have := flat_len r
    simp only [flatS, List.flatMap_cons, List.length_append, List.map_cons, List.sum_cons] at this ⊢
    omega
theorem unk_le : ∀ l : List TLV, unkS l ≤ ((l.map fun t => t.value.length).sum : Nat)
  | [] => by simp [unkS]
  | t :: r => by
    have := unk_le r
    simp only [unkS, List.map_cons, List.sum_cons] at this ⊢
    omega
theorem ab_of (a : Attrs) (h : bkL a.enc ≤ 1048576) : AB a := by
  simp only [Attrs.enc, bkL, AV.bk] at h
  have h1 := len_bk Seg.enc (fun s => by have := seg_bk s; omega) a.path
  have h2 := bkLL_map_le Seg.enc (fun s => s.as.length) (fun s => by have := seg_bk s; omega) a.path
  have h3 := len_bk encU (fun _ => by simp [encU, bkL, AV.bk]) a.comms
  have h4 := len_bk encU (fun _ => by simp [encU, bkL, AV.bk]) a.clusters
  have h5 := len_bk TLV.enc (fun s => by have := tlv_bk s; omega) a.unknown
  have h6 := bkLL_map_le TLV.enc (fun t => t.value.length) (fun s => by have := tlv_bk s; omega) a.unknown
  have h7 := unk_le a.unknown
  rw [← flat_len] at h2
  generalize bkLL (a.path.map Seg.enc) = z1 at *
  generalize bkLL (a.comms.map encU) = z2 at *
  generalize bkLL (a.clusters.map encU) = z3 at *
  refine ⟨by omega, by omega, by omega, by omega, by omega, fun t ht => ?_, by omega⟩
  have := mem_bk TLV.enc a.unknown t ht
  have := tlv_bk t
  omega
end Go.AM.IR
