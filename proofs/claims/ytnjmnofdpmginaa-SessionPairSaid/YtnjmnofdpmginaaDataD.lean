/- What the functions of this program give, on the abstract machine. -/
import Derived.Test.YtnjmnofdpmginaaDataC
import Derived.Test.YtnjmnofdpmginaaDataB
set_option linter.unusedVariables false
set_option linter.unusedSimpArgs false
set_option maxHeartbeats 4000000
set_option maxRecDepth 20000
namespace Go.AM.IR
attribute [local simp] pureLL_bytes
theorem lenC_zero : LenC zeroA := lenM_zero.attrs
end Go.AM.IR
set_option maxHeartbeats 4000000
set_option maxRecDepth 20000
namespace Go.AM.IR
attribute [local simp] pureLL_bytes
theorem caps_gives170 (m : PMsg) (hm : m.caps.length < 2 ^ 40) (ht : capT m.caps < 2 ^ 50) : Gives G 170 [.agg m.enc] [] ⟨.int .i64 (capsE m.as none 0 false m.caps), []⟩ := by
  have l1 : (m.caps.map Cap.enc).length = m.caps.length := by simp
  refine gives_code (F := f170) rfl rfl (W_ok 300 _ _ _ _ ?_)
  repeat' ((conv => whnf); first | refine bslP (by first | rfl | (simp [pureL, pureLL, AV.pure]; done) | fail) rfl ?_ | refine TakeC.full (by first | rfl | omega | (simp; done) | (simp; omega) | fail) ?_ | refine zBs ?_ | refine zBn ?_ | refine zBv rfl rfl ?_ | refine zN ?_ | refine zC ?_ | refine zC4 ?_ | refine zOr16 ?_ | refine zC1 ?_ | refine zByte ?_ | refine zMaxL ?_ | refine zMaxR ?_ | refine zMinL ?_ | refine zMinR ?_ | refine zShr ?_ | refine zC8 ?_ | refine zQ ?_ | refine zR ?_ | refine zS ?_ | refine zA ?_ | refine zM ?_ | refine xr rfl ?_ | refine ai rfl ?_ | refine condT ?_ | refine condF ?_ | refine condG1 ?_ | refine condG0 ?_ | refine cD ?_ | refine dD ?_ | refine cB ?_ | refine dB ?_ | refine cN ?_ | refine dN ?_ | refine cV ?_ | refine dV ?_ | refine cE ?_ | refine dE ?_ | refine condX0 ?_ | refine condX1 ?_ | refine condNot ?_ | refine condAnd ?_ | refine condOr ?_ | refine aO ?_ | refine aB ?_ | refine aR ?_ | refine aR ?_ (by simp; omega) | refine xr (by assumption) ?_ | refine ai (by assumption) ?_ | refine condD (fun h => ?_) (fun h => ?_) | refine condB (fun h => ?_) (fun h => ?_) | refine condN (fun h => ?_) (fun h => ?_) | refine condE (fun h => ?_) (fun h => ?_) | refine condV (fun h => ?_) (fun h => ?_))
  refine ev_keep [9, 10, 11, 3, 1, 4] [65] ?_
  rw [l1]
  exact caps_loop170 m.caps m rfl hm _ rfl m.caps [] none 0 false _ _ _ 0 rfl rfl rfl (by omega) (by omega)
theorem zCR {k : Eff → Prop} {y : Opd} {g key : Nat} {hg : Nat → Option (Nat × Blk)} {x : List UInt8} (hx : x.length ≤ 4) (h : k { res := .int .i64 ((rd x : Nat) : Int) }) : ∃ e, aopV (.conv .i64 y) g key [.int .u64 ((rd x : Nat) : Int)] hg = some e ∧ k e := by
  have h1 := rd_le hx
  exact zC h (by omega) (by omega)
theorem get2_gives110 (v : List UInt8) (hv : v.length = 2) : Gives G 110 [.sl 1 (byteCells v), .int .i64 0, .int .i64 2] [] ⟨.tup [.int .u64 (rd v : Nat), .bool true], []⟩ := by
  have h := get_gives110 v (by omega) 0 2 (by omega) (by omega) (by omega) (by omega)
  rw [show (v.drop (0 : Int).toNat).take (2 : Int).toNat = v from by rw [show (0 : Int).toNat = 0 from rfl, List.drop_zero, List.take_of_length_le (by rw [hv]; decide)]] at h
  exact h
end Go.AM.IR
set_option maxHeartbeats 4000000
set_option maxRecDepth 20000
namespace Go.AM.IR
attribute [local simp] pureLL_bytes
def openX (m : PMsg) : Int :=
  if m.version ≠ 4 then 12 else if m.as < 1 ∨ m.as > 4294967295 then 5 else if m.hold ≠ 0 ∧ (m.hold < 3 ∨ m.hold > 65535) then 21 else if m.router = 0 then 1 else capsE m.as none 0 false m.caps
structure LenO (m : PMsg) : Prop where
  len : LenM m
  capT : capT m.caps < 2 ^ 50
theorem lenM_used (m : PMsg) (h : LenM m) : LenM (usedO m) := ⟨h.caps, by simp [usedO, zeroM], by simp [usedO, zeroM], lenC_zero⟩
theorem open_gives158 (m : PMsg) (h : LenO m) : Gives G 158 [.agg m.enc] [] ⟨.int .i64 (openX m), []⟩ := by
  have hc := caps_gives170 m h.len.caps h.capT
  generalize hce : capsE m.as none 0 false m.caps = ce at hc
  refine gives_code (F := f158) rfl rfl (W_ok 300 _ _ _ _ ?_)
  repeat' ((conv => whnf); first | refine bslP (by first | rfl | (simp [pureL, pureLL, AV.pure]; done) | fail) rfl ?_ | refine TakeC.full (by first | rfl | omega | (simp; done) | (simp; omega) | fail) ?_ | refine zBs ?_ | refine zBn ?_ | refine zBv rfl rfl ?_ | refine zN ?_ | refine zC ?_ | refine zC4 ?_ | refine zOr16 ?_ | refine zC1 ?_ | refine zByte ?_ | refine zMaxL ?_ | refine zMaxR ?_ | refine zMinL ?_ | refine zMinR ?_ | refine zShr ?_ | refine zC8 ?_ | refine zQ ?_ | refine zR ?_ | refine zS ?_ | refine zA ?_ | refine zM ?_ | refine xr rfl ?_ | refine ai rfl ?_ | refine condT ?_ | refine condF ?_ | refine condG1 ?_ | refine condG0 ?_ | refine cD ?_ | refine dD ?_ | refine cB ?_ | refine dB ?_ | refine cN ?_ | refine dN ?_ | refine cV ?_ | refine dV ?_ | refine cE ?_ | refine dE ?_ | refine condX0 ?_ | refine condX1 ?_ | refine condNot ?_ | refine condAnd ?_ | refine condOr ?_ | refine aO ?_ | refine aB ?_ | refine aR ?_ | refine aR ?_ (by simp; omega) | refine xr (by assumption) ?_ | refine ai (by assumption) ?_ | refine kV (hc) ?_ | refine condD (fun h => ?_) (fun h => ?_) | refine condB (fun h => ?_) (fun h => ?_) | refine condN (fun h => ?_) (fun h => ?_) | refine condE (fun h => ?_) (fun h => ?_) | refine condV (fun h => ?_) (fun h => ?_))
  all_goals try ((first | refine ev_fin (And.intro (by first | rfl | (simp [AV.pure, pureL]; done) | fail) ?_) | refine ev_fin0 (And.intro (by first | rfl | (simp [AV.pure, pureL]; done) | fail) ?_)); first | rfl | (simp [openX, Bool.cond_eq_ite, *]; done) | (simp [openX, Bool.cond_eq_ite, *]; omega) | (unfold openX; repeat' split; all_goals first | rfl | (exfalso; omega) | (simp_all; done) | (simp_all; omega)))
def checkO (m : PMsg) : Int := if onlyO m = true then openX m else 1
theorem check_gives144 (m : PMsg) (h : LenO m) (hk : m.kind = 1) : Gives G 144 [.agg m.enc] [] ⟨.int .i64 (checkO m), []⟩ := by
  have h1 := used_gives157 m hk
  have h2 := same_gives156 m (usedO m) h.len (lenM_used m h.len)
  rw [onlyO_eq m] at h2
  have h3 := open_gives158 m h
  generalize hoe : openX m = oe at h3
  generalize hon : onlyO m = b at h2
  refine gives_code (F := f144) rfl rfl (W_ok 300 _ _ _ _ ?_)
  repeat' ((conv => whnf); first | refine bslP (by first | rfl | (simp [pureL, pureLL, AV.pure]; done) | fail) rfl ?_ | refine TakeC.full (by first | rfl | omega | (simp; done) | (simp; omega) | fail) ?_ | refine zBs ?_ | refine zBn ?_ | refine zBv rfl rfl ?_ | refine zN ?_ | refine zC ?_ | refine zC4 ?_ | refine zOr16 ?_ | refine zC1 ?_ | refine zByte ?_ | refine zMaxL ?_ | refine zMaxR ?_ | refine zMinL ?_ | refine zMinR ?_ | refine zShr ?_ | refine zC8 ?_ | refine zQ ?_ | refine zR ?_ | refine zS ?_ | refine zA ?_ | refine zM ?_ | refine xr rfl ?_ | refine ai rfl ?_ | refine condT ?_ | refine condF ?_ | refine condG1 ?_ | refine condG0 ?_ | refine cD ?_ | refine dD ?_ | refine cB ?_ | refine dB ?_ | refine cN ?_ | refine dN ?_ | refine cV ?_ | refine dV ?_ | refine cE ?_ | refine dE ?_ | refine condX0 ?_ | refine condX1 ?_ | refine condNot ?_ | refine condAnd ?_ | refine condOr ?_ | refine aO ?_ | refine aB ?_ | refine aR ?_ | refine aR ?_ (by simp; omega) | refine xr (by assumption) ?_ | refine ai (by assumption) ?_ | refine callW (h1) ?_ | refine kV (h2) ?_ | refine kV (h3) ?_ | refine condD (fun h => ?_) (fun h => ?_) | refine condB (fun h => ?_) (fun h => ?_) | refine condN (fun h => ?_) (fun h => ?_) | refine condE (fun h => ?_) (fun h => ?_) | refine condV (fun h => ?_) (fun h => ?_))
  all_goals try ((first | refine ev_fin (And.intro (by first | rfl | (simp [AV.pure, pureL]; done) | fail) ?_) | refine ev_fin0 (And.intro (by first | rfl | (simp [AV.pure, pureL]; done) | fail) ?_)); first | rfl | (simp [checkO, Bool.cond_eq_ite, *]; done) | (simp [checkO, Bool.cond_eq_ite, *]; omega) | (unfold checkO; repeat' split; all_goals first | rfl | (exfalso; omega) | (simp_all; done) | (simp_all; omega)))
end Go.AM.IR
set_option maxHeartbeats 4000000
set_option maxRecDepth 20000
namespace Go.AM.IR
def zeroS : Ses := ⟨0, 0, 0, 0, 0, 0, 0, false, 0⟩
def notM (a b : Int) : PMsg := { zeroM with kind := 3, code := a, sub := b }
def agreeP (c : Conf) (p : Peer) (m : PMsg) : Ses × PMsg × Int :=
  if m.kind ≠ 1 then (zeroS, notM 2 0, 15) else if checkO m ≠ 0 then (zeroS, notM 2 0, 15) else if m.as ≠ p.as then (zeroS, notM 2 2, 14)
  else if m.router = c.router then (zeroS, notM 2 3, 1) else if capB m.caps 65 = false then (zeroS, notM 2 7, 22)
  else ({ zeroS with state := 3, holdTime := if p.hold ≤ m.hold then p.hold else m.hold, router := m.router, restart := if capB m.caps 64 = true ∧ p.restart > 0 then ((rd (capV m.caps 64) : Nat) : Int) else 0, refresh := capB m.caps 2 }, zeroM, 0)
def agreeS (c : Conf) (peer : Int) (m : PMsg) : Ses × PMsg × Int := match bif knownS c peer then c.peers[peer.toNat]? else none with
  | none => (zeroS, zeroM, 5)
  | some p => agreeP c p m
def agreeRet (x : Ses × PMsg × Int) : Ret := ⟨.tup [.agg x.1.enc, .agg x.2.1.enc, .int .i64 x.2.2], []⟩
theorem capsE_64 (as : Int) : ∀ (l : List Cap) (p : Option Int) (n : Int) (w : Bool), capsE as p n w l = 0 → capB l 64 = true → (capV l 64).length = 2
  | [], _, _, _, _, h => by simp [capB] at h
  | c :: r, p, n, w, h, hb => by
    have ih := capsE_64 as r (some c.code) (n + (2 + c.value.length)) (if c.code = 65 then true else w)
    simp only [capsE] at h
    by_cases h1 : c.code = 64
    · have hbad : ¬ capBad c = true → c.value.length = 2 := by
        intro hh; simp [capBad, h1] at hh; omega
      simp only [capV, h1, if_true]
      repeat' split at h
      all_goals first | omega | (exact hbad (by assumption)) | (exfalso; simp_all; done)
    · simp only [capB, capV, h1, if_false] at hb ⊢
      repeat' split at h
      all_goals first | omega | (exfalso; simp at h; done) | exact ih (by first | exact h | (rw [if_pos (by assumption)]; exact h) | (rw [if_neg (by assumption)]; exact h)) hb
theorem check64 (m : PMsg) (h : checkO m = 0) (hb : capB m.caps 64 = true) : (capV m.caps 64).length = 2 := by
  unfold checkO openX at h
  repeat' split at h
  all_goals first | omega | exact capsE_64 _ _ _ _ _ h hb
end Go.AM.IR
set_option maxHeartbeats 4000000
set_option maxRecDepth 20000
namespace Go.AM.IR
theorem agree_gives131 (c : Conf) (hc : c.ok) (hl : c.peers.length ≤ maxLen) (peer : Int) (m : PMsg) (h : LenO m) : Gives G 131 [.agg c.enc, .int .i64 peer, .agg m.enc] [] (agreeRet (agreeS c peer m)) := by
  have hp := hc.nets; have h1 := hc.p1; have h2 := hc.p2; have h3 := hc.p3; have h4 := hc.p4
  have hll : (c.peers.map Peer.enc).length = c.peers.length := by simp
  have hk := known_gives140 c hc hl peer
  have n0 := notify_gives145 2 0; have n2 := notify_gives145 2 2; have n3 := notify_gives145 2 3; have n7 := notify_gives145 2 7
  have q65 := cap_gives146 m h.len.caps 65; have q64 := cap_gives146 m h.len.caps 64; have q2 := cap_gives146 m h.len.caps 2
  unfold capRet at q65 q64 q2
  cases hkn : knownS c peer
  · rw [hkn] at hk
    rw [show agreeS c peer m = (zeroS, zeroM, 5) from by simp [agreeS, hkn]]
    refine gives_code (F := f131) rfl rfl (W_ok 300 _ _ _ _ ?_)
    repeat' ((conv => whnf); first | refine kV hk ?_ (by simp [pureL, AV.pure, hp, h1, h2, h3, h4]) | refine bslP (by first | rfl | (simp [pureL, pureLL, AV.pure]; done) | fail) rfl ?_ | refine TakeC.full (by first | rfl | omega | (simp; done) | (simp; omega) | fail) ?_ | refine zBs ?_ | refine zBn ?_ | refine zBv rfl rfl ?_ | refine zN ?_ | refine zC ?_ | refine zC4 ?_ | refine zOr16 ?_ | refine zC1 ?_ | refine zByte ?_ | refine zMaxL ?_ | refine zMaxR ?_ | refine zMinL ?_ | refine zMinR ?_ | refine zShr ?_ | refine zC8 ?_ | refine zQ ?_ | refine zR ?_ | refine zS ?_ | refine zA ?_ | refine zM ?_ | refine xr rfl ?_ | refine ai rfl ?_ | refine condT ?_ | refine condF ?_ | refine condG1 ?_ | refine condG0 ?_ | refine cD ?_ | refine dD ?_ | refine cB ?_ | refine dB ?_ | refine cN ?_ | refine dN ?_ | refine cV ?_ | refine dV ?_ | refine cE ?_ | refine dE ?_ | refine condX0 ?_ | refine condX1 ?_ | refine condNot ?_ | refine condAnd ?_ | refine condOr ?_ | refine aO ?_ | refine aB ?_ | refine aR ?_ | refine aR ?_ (by simp; omega) | refine xr (by assumption) ?_ | refine ai (by assumption) ?_ | refine condD (fun h => ?_) (fun h => ?_) | refine condB (fun h => ?_) (fun h => ?_) | refine condN (fun h => ?_) (fun h => ?_) | refine condE (fun h => ?_) (fun h => ?_) | refine condV (fun h => ?_) (fun h => ?_))
    refine ev_le [] [(71, some (_, .cells (zeroM.enc)))] trivial ⟨⟨rfl, (by repeat' (first | exact trivial | exact LeP.refl _ | exact LeP.nil _ | refine LeP.sl ?_ | refine ⟨?_, ?_⟩))⟩, trivial⟩ ?_
    refine ev_fin ?_
    (conv => whnf)
    refine And.intro (by first | rfl | (simp [AV.pure, pureL, pureLL_bytes]; done) | fail) ?_
    (conv => whnf)
    refine And.intro (by first | rfl | (simp [AV.pure, pureL, pureLL_bytes]; done) | fail) ?_
    (conv => whnf)
    first | exact And.intro rfl rfl | (refine And.intro (by first | rfl | (simp [AV.pure, pureL, pureLL_bytes]; done) | fail) ?_; (conv => whnf); rfl) | rfl
  · have h0 : 0 ≤ peer ∧ peer < c.peers.length := by simpa [knownS] using hkn
    have hlt : peer.toNat < c.peers.length := by omega
    generalize hpe : c.peers[peer.toNat] = p
    have hx : (c.peers.map Peer.enc)[peer.toNat]? = some p.enc := by simp [hlt, hpe]
    rw [show agreeS c peer m = agreeP c p m from by simp [agreeS, hkn, hlt, hpe]]
    rw [hkn] at hk
    by_cases hki : m.kind = 1
    · have hch := check_gives144 m h hki
      have h64 := check64 m
      by_cases hz : checkO m = 0
      · rw [hz] at hch
        have h64 := h64 hz
        by_cases has : m.as = p.as
        · by_cases hro : m.router = c.router
          ·
            rw [show agreeP c p m = (zeroS, notM 2 3, 1) from by first | (simp [agreeP, *]; done) | (simp [agreeP, *]; rfl)]
            refine gives_code (F := f131) rfl rfl (W_ok 300 _ _ _ _ ?_)
            repeat' ((conv => whnf); first | refine zCR (x := capV m.caps 64) (by omega) ?_ | refine kV hk ?_ (by simp [pureL, AV.pure, hp, h1, h2, h3, h4]) | refine bslP (by first | rfl | (simp [pureL, pureLL, AV.pure]; done) | fail) rfl ?_ | refine TakeC.full (by first | rfl | omega | (simp; done) | (simp; omega) | fail) ?_ | refine zBs ?_ | refine zBn ?_ | refine zBv rfl rfl ?_ | refine zN ?_ | refine zC ?_ | refine zC4 ?_ | refine zOr16 ?_ | refine zC1 ?_ | refine zByte ?_ | refine zMaxL ?_ | refine zMaxR ?_ | refine zMinL ?_ | refine zMinR ?_ | refine zShr ?_ | refine zC8 ?_ | refine zQ ?_ | refine zR ?_ | refine zS ?_ | refine zA ?_ | refine zM ?_ | refine xr rfl ?_ | refine ai rfl ?_ | refine condT ?_ | refine condF ?_ | refine condG1 ?_ | refine condG0 ?_ | refine cD ?_ | refine dD ?_ | refine cB ?_ | refine dB ?_ | refine cN ?_ | refine dN ?_ | refine cV ?_ | refine dV ?_ | refine cE ?_ | refine dE ?_ | refine condX0 ?_ | refine condX1 ?_ | refine condNot ?_ | refine condAnd ?_ | refine condOr ?_ | refine aO ?_ | refine aB ?_ | refine aR ?_ | refine aR ?_ (by simp; omega) | refine xr (by assumption) ?_ | refine ai (by assumption) ?_ | refine callW (q65) ?_ | refine callW (q64) ?_ | refine callW (q2) ?_ | refine kV (n0) ?_ | refine kV (n2) ?_ | refine kV (n3) ?_ | refine kV (n7) ?_ | refine kV (hch) ?_ | refine condD (fun h => ?_) (fun h => ?_) | refine condB (fun h => ?_) (fun h => ?_) | refine condN (fun h => ?_) (fun h => ?_) | refine condE (fun h => ?_) (fun h => ?_) | refine condV (fun h => ?_) (fun h => ?_))
            refine ev_fin ?_
            (conv => whnf)
            refine And.intro (by first | rfl | (simp [AV.pure, pureL, pureLL_bytes]; done) | fail) ?_
            (conv => whnf)
            refine And.intro (by first | rfl | (simp [AV.pure, pureL, pureLL_bytes]; done) | fail) ?_
            (conv => whnf)
            first | exact And.intro rfl rfl | (refine And.intro (by first | rfl | (simp [AV.pure, pureL, pureLL_bytes]; done) | fail) ?_; (conv => whnf); rfl) | rfl
          · cases h65 : capB m.caps 65
            · rw [h65] at q65
              rw [show agreeP c p m = (zeroS, notM 2 7, 22) from by first | (simp [agreeP, *]; done) | (simp [agreeP, *]; rfl)]
              refine gives_code (F := f131) rfl rfl (W_ok 300 _ _ _ _ ?_)
              repeat' ((conv => whnf); first | refine zCR (x := capV m.caps 64) (by omega) ?_ | refine kV hk ?_ (by simp [pureL, AV.pure, hp, h1, h2, h3, h4]) | refine bslP (by first | rfl | (simp [pureL, pureLL, AV.pure]; done) | fail) rfl ?_ | refine TakeC.full (by first | rfl | omega | (simp; done) | (simp; omega) | fail) ?_ | refine zBs ?_ | refine zBn ?_ | refine zBv rfl rfl ?_ | refine zN ?_ | refine zC ?_ | refine zC4 ?_ | refine zOr16 ?_ | refine zC1 ?_ | refine zByte ?_ | refine zMaxL ?_ | refine zMaxR ?_ | refine zMinL ?_ | refine zMinR ?_ | refine zShr ?_ | refine zC8 ?_ | refine zQ ?_ | refine zR ?_ | refine zS ?_ | refine zA ?_ | refine zM ?_ | refine xr rfl ?_ | refine ai rfl ?_ | refine condT ?_ | refine condF ?_ | refine condG1 ?_ | refine condG0 ?_ | refine cD ?_ | refine dD ?_ | refine cB ?_ | refine dB ?_ | refine cN ?_ | refine dN ?_ | refine cV ?_ | refine dV ?_ | refine cE ?_ | refine dE ?_ | refine condX0 ?_ | refine condX1 ?_ | refine condNot ?_ | refine condAnd ?_ | refine condOr ?_ | refine aO ?_ | refine aB ?_ | refine aR ?_ | refine aR ?_ (by simp; omega) | refine xr (by assumption) ?_ | refine ai (by assumption) ?_ | refine callW (q65) ?_ | refine callW (q64) ?_ | refine callW (q2) ?_ | refine kV (n0) ?_ | refine kV (n2) ?_ | refine kV (n3) ?_ | refine kV (n7) ?_ | refine kV (hch) ?_ | refine condD (fun h => ?_) (fun h => ?_) | refine condB (fun h => ?_) (fun h => ?_) | refine condN (fun h => ?_) (fun h => ?_) | refine condE (fun h => ?_) (fun h => ?_) | refine condV (fun h => ?_) (fun h => ?_))
              refine ev_fin ?_
              (conv => whnf)
              refine And.intro (by first | rfl | (simp [AV.pure, pureL, pureLL_bytes]; done) | fail) ?_
              (conv => whnf)
              refine And.intro (by first | rfl | (simp [AV.pure, pureL, pureLL_bytes]; done) | fail) ?_
              (conv => whnf)
              first | exact And.intro rfl rfl | (refine And.intro (by first | rfl | (simp [AV.pure, pureL, pureLL_bytes]; done) | fail) ?_; (conv => whnf); rfl) | rfl
            · rw [h65] at q65
              cases hb64 : capB m.caps 64
              · rw [hb64] at q64
                by_cases hmin : p.hold ≤ m.hold
                ·
                  rw [show agreeP c p m = ({ zeroS with state := 3, holdTime := p.hold, router := m.router, refresh := capB m.caps 2 }, zeroM, 0) from by first | (simp [agreeP, *]; done) | (simp [agreeP, *]; rfl)]
                  refine gives_code (F := f131) rfl rfl (W_ok 300 _ _ _ _ ?_)
                  repeat' ((conv => whnf); first | refine zCR (x := capV m.caps 64) (by omega) ?_ | refine kV hk ?_ (by simp [pureL, AV.pure, hp, h1, h2, h3, h4]) | refine bslP (by first | rfl | (simp [pureL, pureLL, AV.pure]; done) | fail) rfl ?_ | refine TakeC.full (by first | rfl | omega | (simp; done) | (simp; omega) | fail) ?_ | refine zBs ?_ | refine zBn ?_ | refine zBv rfl rfl ?_ | refine zN ?_ | refine zC ?_ | refine zC4 ?_ | refine zOr16 ?_ | refine zC1 ?_ | refine zByte ?_ | refine zMaxL ?_ | refine zMaxR ?_ | refine zMinL ?_ | refine zMinR ?_ | refine zShr ?_ | refine zC8 ?_ | refine zQ ?_ | refine zR ?_ | refine zS ?_ | refine zA ?_ | refine zM ?_ | refine xr rfl ?_ | refine ai rfl ?_ | refine condT ?_ | refine condF ?_ | refine condG1 ?_ | refine condG0 ?_ | refine cD ?_ | refine dD ?_ | refine cB ?_ | refine dB ?_ | refine cN ?_ | refine dN ?_ | refine cV ?_ | refine dV ?_ | refine cE ?_ | refine dE ?_ | refine condX0 ?_ | refine condX1 ?_ | refine condNot ?_ | refine condAnd ?_ | refine condOr ?_ | refine aO ?_ | refine aB ?_ | refine aR ?_ | refine aR ?_ (by simp; omega) | refine xr (by assumption) ?_ | refine ai (by assumption) ?_ | refine callW (q65) ?_ | refine callW (q64) ?_ | refine callW (q2) ?_ | refine kV (n0) ?_ | refine kV (n2) ?_ | refine kV (n3) ?_ | refine kV (n7) ?_ | refine kV (hch) ?_ | refine condD (fun h => ?_) (fun h => ?_) | refine condB (fun h => ?_) (fun h => ?_) | refine condN (fun h => ?_) (fun h => ?_) | refine condE (fun h => ?_) (fun h => ?_) | refine condV (fun h => ?_) (fun h => ?_))
                  refine ev_le [] [(71, some (_, .cells (zeroM.enc)))] trivial ⟨⟨rfl, (by repeat' (first | exact trivial | exact LeP.refl _ | exact LeP.nil _ | refine LeP.sl ?_ | refine ⟨?_, ?_⟩))⟩, trivial⟩ ?_
                  refine ev_fin ?_
                  (conv => whnf)
                  refine And.intro (by first | rfl | (simp [AV.pure, pureL, pureLL_bytes]; done) | fail) ?_
                  (conv => whnf)
                  refine And.intro (by first | rfl | (simp [AV.pure, pureL, pureLL_bytes]; done) | fail) ?_
                  (conv => whnf)
                  first | exact And.intro rfl rfl | (refine And.intro (by first | rfl | (simp [AV.pure, pureL, pureLL_bytes]; done) | fail) ?_; (conv => whnf); rfl) | rfl
                ·
                  rw [show agreeP c p m = ({ zeroS with state := 3, holdTime := m.hold, router := m.router, refresh := capB m.caps 2 }, zeroM, 0) from by first | (simp [agreeP, *]; done) | (simp [agreeP, *]; rfl)]
                  refine gives_code (F := f131) rfl rfl (W_ok 300 _ _ _ _ ?_)
                  repeat' ((conv => whnf); first | refine zCR (x := capV m.caps 64) (by omega) ?_ | refine kV hk ?_ (by simp [pureL, AV.pure, hp, h1, h2, h3, h4]) | refine bslP (by first | rfl | (simp [pureL, pureLL, AV.pure]; done) | fail) rfl ?_ | refine TakeC.full (by first | rfl | omega | (simp; done) | (simp; omega) | fail) ?_ | refine zBs ?_ | refine zBn ?_ | refine zBv rfl rfl ?_ | refine zN ?_ | refine zC ?_ | refine zC4 ?_ | refine zOr16 ?_ | refine zC1 ?_ | refine zByte ?_ | refine zMaxL ?_ | refine zMaxR ?_ | refine zMinL ?_ | refine zMinR ?_ | refine zShr ?_ | refine zC8 ?_ | refine zQ ?_ | refine zR ?_ | refine zS ?_ | refine zA ?_ | refine zM ?_ | refine xr rfl ?_ | refine ai rfl ?_ | refine condT ?_ | refine condF ?_ | refine condG1 ?_ | refine condG0 ?_ | refine cD ?_ | refine dD ?_ | refine cB ?_ | refine dB ?_ | refine cN ?_ | refine dN ?_ | refine cV ?_ | refine dV ?_ | refine cE ?_ | refine dE ?_ | refine condX0 ?_ | refine condX1 ?_ | refine condNot ?_ | refine condAnd ?_ | refine condOr ?_ | refine aO ?_ | refine aB ?_ | refine aR ?_ | refine aR ?_ (by simp; omega) | refine xr (by assumption) ?_ | refine ai (by assumption) ?_ | refine callW (q65) ?_ | refine callW (q64) ?_ | refine callW (q2) ?_ | refine kV (n0) ?_ | refine kV (n2) ?_ | refine kV (n3) ?_ | refine kV (n7) ?_ | refine kV (hch) ?_ | refine condD (fun h => ?_) (fun h => ?_) | refine condB (fun h => ?_) (fun h => ?_) | refine condN (fun h => ?_) (fun h => ?_) | refine condE (fun h => ?_) (fun h => ?_) | refine condV (fun h => ?_) (fun h => ?_))
                  refine ev_le [] [(71, some (_, .cells (zeroM.enc)))] trivial ⟨⟨rfl, (by repeat' (first | exact trivial | exact LeP.refl _ | exact LeP.nil _ | refine LeP.sl ?_ | refine ⟨?_, ?_⟩))⟩, trivial⟩ ?_
                  refine ev_fin ?_
                  (conv => whnf)
                  refine And.intro (by first | rfl | (simp [AV.pure, pureL, pureLL_bytes]; done) | fail) ?_
                  (conv => whnf)
                  refine And.intro (by first | rfl | (simp [AV.pure, pureL, pureLL_bytes]; done) | fail) ?_
                  (conv => whnf)
                  first | exact And.intro rfl rfl | (refine And.intro (by first | rfl | (simp [AV.pure, pureL, pureLL_bytes]; done) | fail) ?_; (conv => whnf); rfl) | rfl
              · rw [hb64] at q64
                have hg := get2_gives110 (capV m.caps 64) (h64 hb64)
                have hv2 := h64 hb64
                by_cases hre : p.restart > 0
                · by_cases hmin : p.hold ≤ m.hold
                  ·
                    rw [show agreeP c p m = ({ zeroS with state := 3, holdTime := p.hold, router := m.router, restart := (rd (capV m.caps 64) : Nat), refresh := capB m.caps 2 }, zeroM, 0) from by first | (simp [agreeP, *]; done) | (simp [agreeP, *]; rfl)]
                    refine gives_code (F := f131) rfl rfl (W_ok 300 _ _ _ _ ?_)
                    repeat' ((conv => whnf); first | refine zCR (x := capV m.caps 64) (by omega) ?_ | refine kV hk ?_ (by simp [pureL, AV.pure, hp, h1, h2, h3, h4]) | refine kV hg ?_ (by simp [pureL, AV.pure, pureLL_bytes]) | refine bslP (by first | rfl | (simp [pureL, pureLL, AV.pure]; done) | fail) rfl ?_ | refine TakeC.full (by first | rfl | omega | (simp; done) | (simp; omega) | fail) ?_ | refine zBs ?_ | refine zBn ?_ | refine zBv rfl rfl ?_ | refine zN ?_ | refine zC ?_ | refine zC4 ?_ | refine zOr16 ?_ | refine zC1 ?_ | refine zByte ?_ | refine zMaxL ?_ | refine zMaxR ?_ | refine zMinL ?_ | refine zMinR ?_ | refine zShr ?_ | refine zC8 ?_ | refine zQ ?_ | refine zR ?_ | refine zS ?_ | refine zA ?_ | refine zM ?_ | refine xr rfl ?_ | refine ai rfl ?_ | refine condT ?_ | refine condF ?_ | refine condG1 ?_ | refine condG0 ?_ | refine cD ?_ | refine dD ?_ | refine cB ?_ | refine dB ?_ | refine cN ?_ | refine dN ?_ | refine cV ?_ | refine dV ?_ | refine cE ?_ | refine dE ?_ | refine condX0 ?_ | refine condX1 ?_ | refine condNot ?_ | refine condAnd ?_ | refine condOr ?_ | refine aO ?_ | refine aB ?_ | refine aR ?_ | refine aR ?_ (by simp; omega) | refine xr (by assumption) ?_ | refine ai (by assumption) ?_ | refine callW (q65) ?_ | refine callW (q64) ?_ | refine callW (q2) ?_ | refine kV (n0) ?_ | refine kV (n2) ?_ | refine kV (n3) ?_ | refine kV (n7) ?_ | refine kV (hch) ?_ | refine condD (fun h => ?_) (fun h => ?_) | refine condB (fun h => ?_) (fun h => ?_) | refine condN (fun h => ?_) (fun h => ?_) | refine condE (fun h => ?_) (fun h => ?_) | refine condV (fun h => ?_) (fun h => ?_))
                    refine ev_le [] [(71, some (_, .cells (zeroM.enc)))] trivial ⟨⟨rfl, (by repeat' (first | exact trivial | exact LeP.refl _ | exact LeP.nil _ | refine LeP.sl ?_ | refine ⟨?_, ?_⟩))⟩, trivial⟩ ?_
                    refine ev_fin ?_
                    (conv => whnf)
                    refine And.intro (by first | rfl | (simp [AV.pure, pureL, pureLL_bytes]; done) | fail) ?_
                    (conv => whnf)
                    refine And.intro (by first | rfl | (simp [AV.pure, pureL, pureLL_bytes]; done) | fail) ?_
                    (conv => whnf)
                    first | exact And.intro rfl rfl | (refine And.intro (by first | rfl | (simp [AV.pure, pureL, pureLL_bytes]; done) | fail) ?_; (conv => whnf); rfl) | rfl
                  ·
                    rw [show agreeP c p m = ({ zeroS with state := 3, holdTime := m.hold, router := m.router, restart := (rd (capV m.caps 64) : Nat), refresh := capB m.caps 2 }, zeroM, 0) from by first | (simp [agreeP, *]; done) | (simp [agreeP, *]; rfl)]
                    refine gives_code (F := f131) rfl rfl (W_ok 300 _ _ _ _ ?_)
                    repeat' ((conv => whnf); first | refine zCR (x := capV m.caps 64) (by omega) ?_ | refine kV hk ?_ (by simp [pureL, AV.pure, hp, h1, h2, h3, h4]) | refine kV hg ?_ (by simp [pureL, AV.pure, pureLL_bytes]) | refine bslP (by first | rfl | (simp [pureL, pureLL, AV.pure]; done) | fail) rfl ?_ | refine TakeC.full (by first | rfl | omega | (simp; done) | (simp; omega) | fail) ?_ | refine zBs ?_ | refine zBn ?_ | refine zBv rfl rfl ?_ | refine zN ?_ | refine zC ?_ | refine zC4 ?_ | refine zOr16 ?_ | refine zC1 ?_ | refine zByte ?_ | refine zMaxL ?_ | refine zMaxR ?_ | refine zMinL ?_ | refine zMinR ?_ | refine zShr ?_ | refine zC8 ?_ | refine zQ ?_ | refine zR ?_ | refine zS ?_ | refine zA ?_ | refine zM ?_ | refine xr rfl ?_ | refine ai rfl ?_ | refine condT ?_ | refine condF ?_ | refine condG1 ?_ | refine condG0 ?_ | refine cD ?_ | refine dD ?_ | refine cB ?_ | refine dB ?_ | refine cN ?_ | refine dN ?_ | refine cV ?_ | refine dV ?_ | refine cE ?_ | refine dE ?_ | refine condX0 ?_ | refine condX1 ?_ | refine condNot ?_ | refine condAnd ?_ | refine condOr ?_ | refine aO ?_ | refine aB ?_ | refine aR ?_ | refine aR ?_ (by simp; omega) | refine xr (by assumption) ?_ | refine ai (by assumption) ?_ | refine callW (q65) ?_ | refine callW (q64) ?_ | refine callW (q2) ?_ | refine kV (n0) ?_ | refine kV (n2) ?_ | refine kV (n3) ?_ | refine kV (n7) ?_ | refine kV (hch) ?_ | refine condD (fun h => ?_) (fun h => ?_) | refine condB (fun h => ?_) (fun h => ?_) | refine condN (fun h => ?_) (fun h => ?_) | refine condE (fun h => ?_) (fun h => ?_) | refine condV (fun h => ?_) (fun h => ?_))
                    refine ev_le [] [(71, some (_, .cells (zeroM.enc)))] trivial ⟨⟨rfl, (by repeat' (first | exact trivial | exact LeP.refl _ | exact LeP.nil _ | refine LeP.sl ?_ | refine ⟨?_, ?_⟩))⟩, trivial⟩ ?_
                    refine ev_fin ?_
                    (conv => whnf)
                    refine And.intro (by first | rfl | (simp [AV.pure, pureL, pureLL_bytes]; done) | fail) ?_
                    (conv => whnf)
                    refine And.intro (by first | rfl | (simp [AV.pure, pureL, pureLL_bytes]; done) | fail) ?_
                    (conv => whnf)
                    first | exact And.intro rfl rfl | (refine And.intro (by first | rfl | (simp [AV.pure, pureL, pureLL_bytes]; done) | fail) ?_; (conv => whnf); rfl) | rfl
                · by_cases hmin : p.hold ≤ m.hold
                  ·
                    rw [show agreeP c p m = ({ zeroS with state := 3, holdTime := p.hold, router := m.router, refresh := capB m.caps 2 }, zeroM, 0) from by first | (simp [agreeP, *]; done) | (simp [agreeP, *]; rfl)]
                    refine gives_code (F := f131) rfl rfl (W_ok 300 _ _ _ _ ?_)
                    repeat' ((conv => whnf); first | refine zCR (x := capV m.caps 64) (by omega) ?_ | refine kV hk ?_ (by simp [pureL, AV.pure, hp, h1, h2, h3, h4]) | refine bslP (by first | rfl | (simp [pureL, pureLL, AV.pure]; done) | fail) rfl ?_ | refine TakeC.full (by first | rfl | omega | (simp; done) | (simp; omega) | fail) ?_ | refine zBs ?_ | refine zBn ?_ | refine zBv rfl rfl ?_ | refine zN ?_ | refine zC ?_ | refine zC4 ?_ | refine zOr16 ?_ | refine zC1 ?_ | refine zByte ?_ | refine zMaxL ?_ | refine zMaxR ?_ | refine zMinL ?_ | refine zMinR ?_ | refine zShr ?_ | refine zC8 ?_ | refine zQ ?_ | refine zR ?_ | refine zS ?_ | refine zA ?_ | refine zM ?_ | refine xr rfl ?_ | refine ai rfl ?_ | refine condT ?_ | refine condF ?_ | refine condG1 ?_ | refine condG0 ?_ | refine cD ?_ | refine dD ?_ | refine cB ?_ | refine dB ?_ | refine cN ?_ | refine dN ?_ | refine cV ?_ | refine dV ?_ | refine cE ?_ | refine dE ?_ | refine condX0 ?_ | refine condX1 ?_ | refine condNot ?_ | refine condAnd ?_ | refine condOr ?_ | refine aO ?_ | refine aB ?_ | refine aR ?_ | refine aR ?_ (by simp; omega) | refine xr (by assumption) ?_ | refine ai (by assumption) ?_ | refine callW (q65) ?_ | refine callW (q64) ?_ | refine callW (q2) ?_ | refine kV (n0) ?_ | refine kV (n2) ?_ | refine kV (n3) ?_ | refine kV (n7) ?_ | refine kV (hch) ?_ | refine condD (fun h => ?_) (fun h => ?_) | refine condB (fun h => ?_) (fun h => ?_) | refine condN (fun h => ?_) (fun h => ?_) | refine condE (fun h => ?_) (fun h => ?_) | refine condV (fun h => ?_) (fun h => ?_))
                    refine ev_le [] [(71, some (_, .cells (zeroM.enc)))] trivial ⟨⟨rfl, (by repeat' (first | exact trivial | exact LeP.refl _ | exact LeP.nil _ | refine LeP.sl ?_ | refine ⟨?_, ?_⟩))⟩, trivial⟩ ?_
                    refine ev_fin ?_
                    (conv => whnf)
                    refine And.intro (by first | rfl | (simp [AV.pure, pureL, pureLL_bytes]; done) | fail) ?_
                    (conv => whnf)
                    refine And.intro (by first | rfl | (simp [AV.pure, pureL, pureLL_bytes]; done) | fail) ?_
                    (conv => whnf)
                    first | exact And.intro rfl rfl | (refine And.intro (by first | rfl | (simp [AV.pure, pureL, pureLL_bytes]; done) | fail) ?_; (conv => whnf); rfl) | rfl
                  ·
                    rw [show agreeP c p m = ({ zeroS with state := 3, holdTime := m.hold, router := m.router, refresh := capB m.caps 2 }, zeroM, 0) from by first | (simp [agreeP, *]; done) | (simp [agreeP, *]; rfl)]
                    refine gives_code (F := f131) rfl rfl (W_ok 300 _ _ _ _ ?_)
                    repeat' ((conv => whnf); first | refine zCR (x := capV m.caps 64) (by omega) ?_ | refine kV hk ?_ (by simp [pureL, AV.pure, hp, h1, h2, h3, h4]) | refine bslP (by first | rfl | (simp [pureL, pureLL, AV.pure]; done) | fail) rfl ?_ | refine TakeC.full (by first | rfl | omega | (simp; done) | (simp; omega) | fail) ?_ | refine zBs ?_ | refine zBn ?_ | refine zBv rfl rfl ?_ | refine zN ?_ | refine zC ?_ | refine zC4 ?_ | refine zOr16 ?_ | refine zC1 ?_ | refine zByte ?_ | refine zMaxL ?_ | refine zMaxR ?_ | refine zMinL ?_ | refine zMinR ?_ | refine zShr ?_ | refine zC8 ?_ | refine zQ ?_ | refine zR ?_ | refine zS ?_ | refine zA ?_ | refine zM ?_ | refine xr rfl ?_ | refine ai rfl ?_ | refine condT ?_ | refine condF ?_ | refine condG1 ?_ | refine condG0 ?_ | refine cD ?_ | refine dD ?_ | refine cB ?_ | refine dB ?_ | refine cN ?_ | refine dN ?_ | refine cV ?_ | refine dV ?_ | refine cE ?_ | refine dE ?_ | refine condX0 ?_ | refine condX1 ?_ | refine condNot ?_ | refine condAnd ?_ | refine condOr ?_ | refine aO ?_ | refine aB ?_ | refine aR ?_ | refine aR ?_ (by simp; omega) | refine xr (by assumption) ?_ | refine ai (by assumption) ?_ | refine callW (q65) ?_ | refine callW (q64) ?_ | refine callW (q2) ?_ | refine kV (n0) ?_ | refine kV (n2) ?_ | refine kV (n3) ?_ | refine kV (n7) ?_ | refine kV (hch) ?_ | refine condD (fun h => ?_) (fun h => ?_) | refine condB (fun h => ?_) (fun h => ?_) | refine condN (fun h => ?_) (fun h => ?_) | refine condE (fun h => ?_) (fun h => ?_) | refine condV (fun h => ?_) (fun h => ?_))
                    refine ev_le [] [(71, some (_, .cells (zeroM.enc)))] trivial ⟨⟨rfl, (by repeat' (first | exact trivial | exact LeP.refl _ | exact LeP.nil _ | refine LeP.sl ?_ | refine ⟨?_, ?_⟩))⟩, trivial⟩ ?_
                    refine ev_fin ?_
                    (conv => whnf)
                    refine And.intro (by first | rfl | (simp [AV.pure, pureL, pureLL_bytes]; done) | fail) ?_
                    (conv => whnf)
                    refine And.intro (by first | rfl | (simp [AV.pure, pureL, pureLL_bytes]; done) | fail) ?_
                    (conv => whnf)
                    first | exact And.intro rfl rfl | (refine And.intro (by first | rfl | (simp [AV.pure, pureL, pureLL_bytes]; done) | fail) ?_; (conv => whnf); rfl) | rfl
        ·
          rw [show agreeP c p m = (zeroS, notM 2 2, 14) from by first | (simp [agreeP, *]; done) | (simp [agreeP, *]; rfl)]
          refine gives_code (F := f131) rfl rfl (W_ok 300 _ _ _ _ ?_)
          repeat' ((conv => whnf); first | refine zCR (x := capV m.caps 64) (by omega) ?_ | refine kV hk ?_ (by simp [pureL, AV.pure, hp, h1, h2, h3, h4]) | refine bslP (by first | rfl | (simp [pureL, pureLL, AV.pure]; done) | fail) rfl ?_ | refine TakeC.full (by first | rfl | omega | (simp; done) | (simp; omega) | fail) ?_ | refine zBs ?_ | refine zBn ?_ | refine zBv rfl rfl ?_ | refine zN ?_ | refine zC ?_ | refine zC4 ?_ | refine zOr16 ?_ | refine zC1 ?_ | refine zByte ?_ | refine zMaxL ?_ | refine zMaxR ?_ | refine zMinL ?_ | refine zMinR ?_ | refine zShr ?_ | refine zC8 ?_ | refine zQ ?_ | refine zR ?_ | refine zS ?_ | refine zA ?_ | refine zM ?_ | refine xr rfl ?_ | refine ai rfl ?_ | refine condT ?_ | refine condF ?_ | refine condG1 ?_ | refine condG0 ?_ | refine cD ?_ | refine dD ?_ | refine cB ?_ | refine dB ?_ | refine cN ?_ | refine dN ?_ | refine cV ?_ | refine dV ?_ | refine cE ?_ | refine dE ?_ | refine condX0 ?_ | refine condX1 ?_ | refine condNot ?_ | refine condAnd ?_ | refine condOr ?_ | refine aO ?_ | refine aB ?_ | refine aR ?_ | refine aR ?_ (by simp; omega) | refine xr (by assumption) ?_ | refine ai (by assumption) ?_ | refine callW (q65) ?_ | refine callW (q64) ?_ | refine callW (q2) ?_ | refine kV (n0) ?_ | refine kV (n2) ?_ | refine kV (n3) ?_ | refine kV (n7) ?_ | refine kV (hch) ?_ | refine condD (fun h => ?_) (fun h => ?_) | refine condB (fun h => ?_) (fun h => ?_) | refine condN (fun h => ?_) (fun h => ?_) | refine condE (fun h => ?_) (fun h => ?_) | refine condV (fun h => ?_) (fun h => ?_))
          refine ev_fin ?_
          (conv => whnf)
          refine And.intro (by first | rfl | (simp [AV.pure, pureL, pureLL_bytes]; done) | fail) ?_
          (conv => whnf)
          refine And.intro (by first | rfl | (simp [AV.pure, pureL, pureLL_bytes]; done) | fail) ?_
          (conv => whnf)
          first | exact And.intro rfl rfl | (refine And.intro (by first | rfl | (simp [AV.pure, pureL, pureLL_bytes]; done) | fail) ?_; (conv => whnf); rfl) | rfl
      · generalize hze : checkO m = ze at hch hz
        rw [show agreeP c p m = (zeroS, notM 2 0, 15) from by first | (simp [agreeP, *]; done) | (simp [agreeP, *]; rfl)]
        refine gives_code (F := f131) rfl rfl (W_ok 300 _ _ _ _ ?_)
        repeat' ((conv => whnf); first | refine zCR (x := capV m.caps 64) (by omega) ?_ | refine kV hk ?_ (by simp [pureL, AV.pure, hp, h1, h2, h3, h4]) | refine bslP (by first | rfl | (simp [pureL, pureLL, AV.pure]; done) | fail) rfl ?_ | refine TakeC.full (by first | rfl | omega | (simp; done) | (simp; omega) | fail) ?_ | refine zBs ?_ | refine zBn ?_ | refine zBv rfl rfl ?_ | refine zN ?_ | refine zC ?_ | refine zC4 ?_ | refine zOr16 ?_ | refine zC1 ?_ | refine zByte ?_ | refine zMaxL ?_ | refine zMaxR ?_ | refine zMinL ?_ | refine zMinR ?_ | refine zShr ?_ | refine zC8 ?_ | refine zQ ?_ | refine zR ?_ | refine zS ?_ | refine zA ?_ | refine zM ?_ | refine xr rfl ?_ | refine ai rfl ?_ | refine condT ?_ | refine condF ?_ | refine condG1 ?_ | refine condG0 ?_ | refine cD ?_ | refine dD ?_ | refine cB ?_ | refine dB ?_ | refine cN ?_ | refine dN ?_ | refine cV ?_ | refine dV ?_ | refine cE ?_ | refine dE ?_ | refine condX0 ?_ | refine condX1 ?_ | refine condNot ?_ | refine condAnd ?_ | refine condOr ?_ | refine aO ?_ | refine aB ?_ | refine aR ?_ | refine aR ?_ (by simp; omega) | refine xr (by assumption) ?_ | refine ai (by assumption) ?_ | refine callW (q65) ?_ | refine callW (q64) ?_ | refine callW (q2) ?_ | refine kV (n0) ?_ | refine kV (n2) ?_ | refine kV (n3) ?_ | refine kV (n7) ?_ | refine kV (hch) ?_ | refine condD (fun h => ?_) (fun h => ?_) | refine condB (fun h => ?_) (fun h => ?_) | refine condN (fun h => ?_) (fun h => ?_) | refine condE (fun h => ?_) (fun h => ?_) | refine condV (fun h => ?_) (fun h => ?_))
        refine ev_fin ?_
        (conv => whnf)
        refine And.intro (by first | rfl | (simp [AV.pure, pureL, pureLL_bytes]; done) | fail) ?_
        (conv => whnf)
        refine And.intro (by first | rfl | (simp [AV.pure, pureL, pureLL_bytes]; done) | fail) ?_
        (conv => whnf)
        first | exact And.intro rfl rfl | (refine And.intro (by first | rfl | (simp [AV.pure, pureL, pureLL_bytes]; done) | fail) ?_; (conv => whnf); rfl) | rfl
    ·
      rw [show agreeP c p m = (zeroS, notM 2 0, 15) from by first | (simp [agreeP, *]; done) | (simp [agreeP, *]; rfl)]
      refine gives_code (F := f131) rfl rfl (W_ok 300 _ _ _ _ ?_)
      repeat' ((conv => whnf); first | refine zCR (x := capV m.caps 64) (by omega) ?_ | refine kV hk ?_ (by simp [pureL, AV.pure, hp, h1, h2, h3, h4]) | refine bslP (by first | rfl | (simp [pureL, pureLL, AV.pure]; done) | fail) rfl ?_ | refine TakeC.full (by first | rfl | omega | (simp; done) | (simp; omega) | fail) ?_ | refine zBs ?_ | refine zBn ?_ | refine zBv rfl rfl ?_ | refine zN ?_ | refine zC ?_ | refine zC4 ?_ | refine zOr16 ?_ | refine zC1 ?_ | refine zByte ?_ | refine zMaxL ?_ | refine zMaxR ?_ | refine zMinL ?_ | refine zMinR ?_ | refine zShr ?_ | refine zC8 ?_ | refine zQ ?_ | refine zR ?_ | refine zS ?_ | refine zA ?_ | refine zM ?_ | refine xr rfl ?_ | refine ai rfl ?_ | refine condT ?_ | refine condF ?_ | refine condG1 ?_ | refine condG0 ?_ | refine cD ?_ | refine dD ?_ | refine cB ?_ | refine dB ?_ | refine cN ?_ | refine dN ?_ | refine cV ?_ | refine dV ?_ | refine cE ?_ | refine dE ?_ | refine condX0 ?_ | refine condX1 ?_ | refine condNot ?_ | refine condAnd ?_ | refine condOr ?_ | refine aO ?_ | refine aB ?_ | refine aR ?_ | refine aR ?_ (by simp; omega) | refine xr (by assumption) ?_ | refine ai (by assumption) ?_ | refine callW (q65) ?_ | refine callW (q64) ?_ | refine callW (q2) ?_ | refine kV (n0) ?_ | refine kV (n2) ?_ | refine kV (n3) ?_ | refine kV (n7) ?_ | refine condD (fun h => ?_) (fun h => ?_) | refine condB (fun h => ?_) (fun h => ?_) | refine condN (fun h => ?_) (fun h => ?_) | refine condE (fun h => ?_) (fun h => ?_) | refine condV (fun h => ?_) (fun h => ?_))
      refine ev_fin ?_
      (conv => whnf)
      refine And.intro (by first | rfl | (simp [AV.pure, pureL, pureLL_bytes]; done) | fail) ?_
      (conv => whnf)
      refine And.intro (by first | rfl | (simp [AV.pure, pureL, pureLL_bytes]; done) | fail) ?_
      (conv => whnf)
      first | exact And.intro rfl rfl | (refine And.intro (by first | rfl | (simp [AV.pure, pureL, pureLL_bytes]; done) | fail) ?_; (conv => whnf); rfl) | rfl
end Go.AM.IR
set_option maxHeartbeats 4000000
set_option maxRecDepth 20000
namespace Go.AM.IR
attribute [local simp] pureLL_bytes
def openedS (c : Conf) (peer : Int) (s : Ses) (m : PMsg) (now : Int) (acts : List Act) : Ses × List Act :=
  if m.kind ≠ 1 then (lostS s now, acts ++ [sendA stateM] ++ lostA s)
  else if (agreeS c peer m).2.2 ≠ 0 then (lostS s now, acts ++ [sendA (agreeS c peer m).2.1] ++ lostA s)
  else if (agreeS c peer m).1.holdTime ≠ 0 then ({ (agreeS c peer m).1 with untl := s.untl, hold := wr (now + (agreeS c peer m).1.holdTime), keep := wr (now + wr ((agreeS c peer m).1.holdTime.tdiv 3)) }, acts ++ [sendA keepM])
  else ({ (agreeS c peer m).1 with untl := s.untl }, acts ++ [sendA keepM])
theorem opened_1 (c : Conf) (hc : c.ok) (peer : Int) (m : PMsg) (h : LenO m) (s : Ses) (now : Int) (acts : List Act) (h1 : ¬ m.kind = 1) (ha : acts.length < 2 ^ 28) : Gives G 166 [.ref 1 0 0, .agg c.enc, .int .i64 peer, .agg m.enc, .fn 150 [.ref 0 0 0]] [.cells [.ref 1 0 0], .cells (cellsR s now (.vs 2 0 acts.length)), .vec 28 (acts.map Act.enc)] (runRet3 (openedS c peer s m now acts) now false) := by
  have hp := hc.nets; have p1 := hc.p1; have p2 := hc.p2; have p3 := hc.p3; have p4 := hc.p4
  have q2 := lose_gives165 [stateM] (s) now acts (by simp; omega)
  unfold runRet at q2
  rw [show openedS c peer s m now acts = (lostS s now, acts ++ [sendA stateM] ++ lostA s) from by rw [openedS, if_pos h1]]
  refine gives_code (F := f166) rfl rfl (W_ok 300 _ _ _ _ ?_)
  repeat' ((conv => whnf); first | refine zA ?_ | refine wAdd ?_ | refine wQuo (by decide) ?_ | refine bslP (by first | rfl | (simp [pureL, pureLL, AV.pure]; done) | fail) rfl ?_ | refine TakeC.full (by first | rfl | omega | (simp; done) | (simp; omega) | fail) ?_ | refine zBs ?_ | refine zBn ?_ | refine zBv rfl rfl ?_ | refine zN ?_ | refine zC ?_ | refine zC4 ?_ | refine zOr16 ?_ | refine zC1 ?_ | refine zByte ?_ | refine zMaxL ?_ | refine zMaxR ?_ | refine zMinL ?_ | refine zMinR ?_ | refine zShr ?_ | refine zC8 ?_ | refine zQ ?_ | refine zR ?_ | refine zS ?_ | refine zA ?_ | refine zM ?_ | refine xr rfl ?_ | refine ai rfl ?_ | refine condT ?_ | refine condF ?_ | refine condG1 ?_ | refine condG0 ?_ | refine cD ?_ | refine dD ?_ | refine cB ?_ | refine dB ?_ | refine cN ?_ | refine dN ?_ | refine cV ?_ | refine dV ?_ | refine cE ?_ | refine dE ?_ | refine condX0 ?_ | refine condX1 ?_ | refine condNot ?_ | refine condAnd ?_ | refine condOr ?_ | refine aO ?_ | refine aB ?_ | refine aR ?_ | refine aR ?_ (by simp; omega) | refine xr (by assumption) ?_ | refine ai (by assumption) ?_ | refine kV ((notify_gives145 5 0)) ?_ | refine kX [(1, _, _), (2, _, _)] [(82, _, _)] ⟨rfl, rfl, trivial⟩ ⟨rfl, pz trivial⟩ (q2) ?_ | refine condD (fun h => ?_) (fun h => ?_) | refine condB (fun h => ?_) (fun h => ?_) | refine condN (fun h => ?_) (fun h => ?_) | refine condE (fun h => ?_) (fun h => ?_) | refine condV (fun h => ?_) (fun h => ?_))
  (conv => whnf); first | refine ev_finX [(0, _, _), (1, _, _), (2, _, _)] [] [true, true, false] (Nat.succ_pos _) ⟨rfl, rfl, rfl, trivial⟩ rfl (by repeat' (first | exact trivial | rfl | refine And.intro ?_ ?_ | (simp [pureL, pureLL, AV.pure, Blk.renS, Blk.okS, Blk.okX, AV.okS, AV.okX]; done) | omega | fail)) ⟨(by first | rfl | exact (decide_eq_false (by omega)).symm), (by first | rfl | exact (decide_eq_false (by omega)).symm), (by first | rfl | exact (decide_eq_false (by omega)).symm), trivial⟩ ⟨rfl, (by repeat' (first | exact trivial | rfl | refine And.intro ?_ ?_ | (simp [pureL, pureLL, AV.pure, Blk.renS, Blk.okS, Blk.okX, AV.okS, AV.okX]; done) | omega | fail)), ?_⟩ | refine ev_finX0 [(0, _, _), (1, _, _), (2, _, _)] [] [true, true, false] (Nat.succ_pos _) ⟨rfl, rfl, rfl, trivial⟩ rfl (by repeat' (first | exact trivial | rfl | refine And.intro ?_ ?_ | (simp [pureL, pureLL, AV.pure, Blk.renS, Blk.okS, Blk.okX, AV.okS, AV.okX]; done) | omega | fail)) ⟨(by first | rfl | exact (decide_eq_false (by omega)).symm), (by first | rfl | exact (decide_eq_false (by omega)).symm), (by first | rfl | exact (decide_eq_false (by omega)).symm), trivial⟩ ⟨rfl, (by repeat' (first | exact trivial | rfl | refine And.intro ?_ ?_ | (simp [pureL, pureLL, AV.pure, Blk.renS, Blk.okS, Blk.okX, AV.okS, AV.okX]; done) | omega | fail)), ?_⟩
  rfl
theorem opened_2 (c : Conf) (hc : c.ok) (peer : Int) (m : PMsg) (h : LenO m) (s : Ses) (now : Int) (acts : List Act) (h1 : m.kind = 1) (h2 : ¬ (agreeS c peer m).2.2 = 0) (ha : acts.length < 2 ^ 28) : Gives G 166 [.ref 1 0 0, .agg c.enc, .int .i64 peer, .agg m.enc, .fn 150 [.ref 0 0 0]] [.cells [.ref 1 0 0], .cells (cellsR s now (.vs 2 0 acts.length)), .vec 28 (acts.map Act.enc)] (runRet3 (openedS c peer s m now acts) now false) := by
  have hp := hc.nets; have p1 := hc.p1; have p2 := hc.p2; have p3 := hc.p3; have p4 := hc.p4
  have o1 := agree_gives131 c hc hc.len peer m h
  unfold agreeRet at o1
  generalize hag : agreeS c peer m = x at *
  obtain ⟨t, f, e⟩ := x
  simp only at h2
  have q2 := lose_gives165 [f] (s) now acts (by simp; omega)
  unfold runRet at q2
  rw [show openedS c peer s m now acts = (lostS s now, acts ++ [sendA f] ++ lostA s) from by rw [openedS, hag, if_neg (by simp [h1]), if_pos h2]]
  refine gives_code (F := f166) rfl rfl (W_ok 300 _ _ _ _ ?_)
  repeat' ((conv => whnf); first | refine zA ?_ | refine wAdd ?_ | refine wQuo (by decide) ?_ | refine callW o1 ?_ (by simp [pureL, AV.pure, hp, p1, p2, p3, p4]) | refine bslP (by first | rfl | (simp [pureL, pureLL, AV.pure]; done) | fail) rfl ?_ | refine TakeC.full (by first | rfl | omega | (simp; done) | (simp; omega) | fail) ?_ | refine zBs ?_ | refine zBn ?_ | refine zBv rfl rfl ?_ | refine zN ?_ | refine zC ?_ | refine zC4 ?_ | refine zOr16 ?_ | refine zC1 ?_ | refine zByte ?_ | refine zMaxL ?_ | refine zMaxR ?_ | refine zMinL ?_ | refine zMinR ?_ | refine zShr ?_ | refine zC8 ?_ | refine zQ ?_ | refine zR ?_ | refine zS ?_ | refine zA ?_ | refine zM ?_ | refine xr rfl ?_ | refine ai rfl ?_ | refine condT ?_ | refine condF ?_ | refine condG1 ?_ | refine condG0 ?_ | refine cD ?_ | refine dD ?_ | refine cB ?_ | refine dB ?_ | refine cN ?_ | refine dN ?_ | refine cV ?_ | refine dV ?_ | refine cE ?_ | refine dE ?_ | refine condX0 ?_ | refine condX1 ?_ | refine condNot ?_ | refine condAnd ?_ | refine condOr ?_ | refine aO ?_ | refine aB ?_ | refine aR ?_ | refine aR ?_ (by simp; omega) | refine xr (by assumption) ?_ | refine ai (by assumption) ?_ | refine kX [(1, _, _), (2, _, _)] [(96, _, _)] ⟨rfl, rfl, trivial⟩ ⟨rfl, pz trivial⟩ (q2) ?_ | refine condD (fun h => ?_) (fun h => ?_) | refine condB (fun h => ?_) (fun h => ?_) | refine condN (fun h => ?_) (fun h => ?_) | refine condE (fun h => ?_) (fun h => ?_) | refine condV (fun h => ?_) (fun h => ?_))
  (conv => whnf); first | refine ev_finX [(0, _, _), (1, _, _), (2, _, _)] [] [true, true, false] (Nat.succ_pos _) ⟨rfl, rfl, rfl, trivial⟩ rfl (by repeat' (first | exact trivial | rfl | refine And.intro ?_ ?_ | (simp [pureL, pureLL, AV.pure, Blk.renS, Blk.okS, Blk.okX, AV.okS, AV.okX]; done) | omega | fail)) ⟨(by first | rfl | exact (decide_eq_false (by omega)).symm), (by first | rfl | exact (decide_eq_false (by omega)).symm), (by first | rfl | exact (decide_eq_false (by omega)).symm), trivial⟩ ⟨rfl, (by repeat' (first | exact trivial | rfl | refine And.intro ?_ ?_ | (simp [pureL, pureLL, AV.pure, Blk.renS, Blk.okS, Blk.okX, AV.okS, AV.okX]; done) | omega | fail)), ?_⟩ | refine ev_finX0 [(0, _, _), (1, _, _), (2, _, _)] [] [true, true, false] (Nat.succ_pos _) ⟨rfl, rfl, rfl, trivial⟩ rfl (by repeat' (first | exact trivial | rfl | refine And.intro ?_ ?_ | (simp [pureL, pureLL, AV.pure, Blk.renS, Blk.okS, Blk.okX, AV.okS, AV.okX]; done) | omega | fail)) ⟨(by first | rfl | exact (decide_eq_false (by omega)).symm), (by first | rfl | exact (decide_eq_false (by omega)).symm), (by first | rfl | exact (decide_eq_false (by omega)).symm), trivial⟩ ⟨rfl, (by repeat' (first | exact trivial | rfl | refine And.intro ?_ ?_ | (simp [pureL, pureLL, AV.pure, Blk.renS, Blk.okS, Blk.okX, AV.okS, AV.okX]; done) | omega | fail)), ?_⟩
  rfl
theorem opened_3 (c : Conf) (hc : c.ok) (peer : Int) (m : PMsg) (h : LenO m) (s : Ses) (now : Int) (acts : List Act) (h1 : m.kind = 1) (h2 : (agreeS c peer m).2.2 = 0) (h3 : ¬ (agreeS c peer m).1.holdTime = 0) (ha : acts.length < 2 ^ 28) : Gives G 166 [.ref 1 0 0, .agg c.enc, .int .i64 peer, .agg m.enc, .fn 150 [.ref 0 0 0]] [.cells [.ref 1 0 0], .cells (cellsR s now (.vs 2 0 acts.length)), .vec 28 (acts.map Act.enc)] (runRet3 (openedS c peer s m now acts) now false) := by
  have hp := hc.nets; have p1 := hc.p1; have p2 := hc.p2; have p3 := hc.p3; have p4 := hc.p4
  have o1 := agree_gives131 c hc hc.len peer m h
  unfold agreeRet at o1
  generalize hag : agreeS c peer m = x at *
  obtain ⟨t, f, e⟩ := x
  simp only at h2 h3
  have q2 := sendK_gives150 ({ t with untl := s.untl, hold := wr (now + t.holdTime), keep := wr (now + wr (t.holdTime.tdiv 3)) }) now acts (by omega)
  have b2 : (acts ++ [sendA keepM]).length < 2 ^ 28 + 2 := by simp; omega
  generalize h2 : acts ++ [sendA keepM] = A2 at *
  rw [show openedS c peer s m now acts = ({ t with untl := s.untl, hold := wr (now + t.holdTime), keep := wr (now + wr (t.holdTime.tdiv 3)) }, A2) from by subst h2; rw [openedS, hag, if_neg (by simp [h1]), if_neg (by simp [h2]), if_pos h3]]
  refine gives_code (F := f166) rfl rfl (W_ok 300 _ _ _ _ ?_)
  repeat' ((conv => whnf); first | refine zA ?_ | refine wAdd ?_ | refine wQuo (by decide) ?_ | refine callW o1 ?_ (by simp [pureL, AV.pure, hp, p1, p2, p3, p4]) | refine bslP (by first | rfl | (simp [pureL, pureLL, AV.pure]; done) | fail) rfl ?_ | refine TakeC.full (by first | rfl | omega | (simp; done) | (simp; omega) | fail) ?_ | refine zBs ?_ | refine zBn ?_ | refine zBv rfl rfl ?_ | refine zN ?_ | refine zC ?_ | refine zC4 ?_ | refine zOr16 ?_ | refine zC1 ?_ | refine zByte ?_ | refine zMaxL ?_ | refine zMaxR ?_ | refine zMinL ?_ | refine zMinR ?_ | refine zShr ?_ | refine zC8 ?_ | refine zQ ?_ | refine zR ?_ | refine zS ?_ | refine zA ?_ | refine zM ?_ | refine xr rfl ?_ | refine ai rfl ?_ | refine condT ?_ | refine condF ?_ | refine condG1 ?_ | refine condG0 ?_ | refine cD ?_ | refine dD ?_ | refine cB ?_ | refine dB ?_ | refine cN ?_ | refine dN ?_ | refine cV ?_ | refine dV ?_ | refine cE ?_ | refine dE ?_ | refine condX0 ?_ | refine condX1 ?_ | refine condNot ?_ | refine condAnd ?_ | refine condOr ?_ | refine aO ?_ | refine aB ?_ | refine aR ?_ | refine aR ?_ (by simp; omega) | refine xr (by assumption) ?_ | refine ai (by assumption) ?_ | refine kX [(0, _, _), (1, _, _), (2, _, _)] [] ⟨rfl, rfl, rfl, trivial⟩ trivial (q2) ?_ | refine condD (fun h => ?_) (fun h => ?_) | refine condB (fun h => ?_) (fun h => ?_) | refine condN (fun h => ?_) (fun h => ?_) | refine condE (fun h => ?_) (fun h => ?_) | refine condV (fun h => ?_) (fun h => ?_))
  (conv => whnf); first | refine ev_finX [(0, _, _), (1, _, _), (2, _, _)] [] [true, true, false] (Nat.succ_pos _) ⟨rfl, rfl, rfl, trivial⟩ rfl (by repeat' (first | exact trivial | rfl | refine And.intro ?_ ?_ | (simp [pureL, pureLL, AV.pure, Blk.renS, Blk.okS, Blk.okX, AV.okS, AV.okX]; done) | omega | fail)) ⟨(by first | rfl | exact (decide_eq_false (by omega)).symm), (by first | rfl | exact (decide_eq_false (by omega)).symm), (by first | rfl | exact (decide_eq_false (by omega)).symm), trivial⟩ ⟨rfl, (by repeat' (first | exact trivial | rfl | refine And.intro ?_ ?_ | (simp [pureL, pureLL, AV.pure, Blk.renS, Blk.okS, Blk.okX, AV.okS, AV.okX]; done) | omega | fail)), ?_⟩ | refine ev_finX0 [(0, _, _), (1, _, _), (2, _, _)] [] [true, true, false] (Nat.succ_pos _) ⟨rfl, rfl, rfl, trivial⟩ rfl (by repeat' (first | exact trivial | rfl | refine And.intro ?_ ?_ | (simp [pureL, pureLL, AV.pure, Blk.renS, Blk.okS, Blk.okX, AV.okS, AV.okX]; done) | omega | fail)) ⟨(by first | rfl | exact (decide_eq_false (by omega)).symm), (by first | rfl | exact (decide_eq_false (by omega)).symm), (by first | rfl | exact (decide_eq_false (by omega)).symm), trivial⟩ ⟨rfl, (by repeat' (first | exact trivial | rfl | refine And.intro ?_ ?_ | (simp [pureL, pureLL, AV.pure, Blk.renS, Blk.okS, Blk.okX, AV.okS, AV.okX]; done) | omega | fail)), ?_⟩
  rfl
theorem opened_4 (c : Conf) (hc : c.ok) (peer : Int) (m : PMsg) (h : LenO m) (s : Ses) (now : Int) (acts : List Act) (h1 : m.kind = 1) (h2 : (agreeS c peer m).2.2 = 0) (h3 : (agreeS c peer m).1.holdTime = 0) (ha : acts.length < 2 ^ 28) : Gives G 166 [.ref 1 0 0, .agg c.enc, .int .i64 peer, .agg m.enc, .fn 150 [.ref 0 0 0]] [.cells [.ref 1 0 0], .cells (cellsR s now (.vs 2 0 acts.length)), .vec 28 (acts.map Act.enc)] (runRet3 (openedS c peer s m now acts) now false) := by
  have hp := hc.nets; have p1 := hc.p1; have p2 := hc.p2; have p3 := hc.p3; have p4 := hc.p4
  have o1 := agree_gives131 c hc hc.len peer m h
  unfold agreeRet at o1
  generalize hag : agreeS c peer m = x at *
  obtain ⟨t, f, e⟩ := x
  simp only at h2 h3
  have q2 := sendK_gives150 ({ t with untl := s.untl }) now acts (by omega)
  have b2 : (acts ++ [sendA keepM]).length < 2 ^ 28 + 2 := by simp; omega
  generalize h2 : acts ++ [sendA keepM] = A2 at *
  rw [show openedS c peer s m now acts = ({ t with untl := s.untl }, A2) from by subst h2; rw [openedS, hag, if_neg (by simp [h1]), if_neg (by simp [h2]), if_neg (by simp [h3])]]
  refine gives_code (F := f166) rfl rfl (W_ok 300 _ _ _ _ ?_)
  repeat' ((conv => whnf); first | refine zA ?_ | refine wAdd ?_ | refine wQuo (by decide) ?_ | refine callW o1 ?_ (by simp [pureL, AV.pure, hp, p1, p2, p3, p4]) | refine bslP (by first | rfl | (simp [pureL, pureLL, AV.pure]; done) | fail) rfl ?_ | refine TakeC.full (by first | rfl | omega | (simp; done) | (simp; omega) | fail) ?_ | refine zBs ?_ | refine zBn ?_ | refine zBv rfl rfl ?_ | refine zN ?_ | refine zC ?_ | refine zC4 ?_ | refine zOr16 ?_ | refine zC1 ?_ | refine zByte ?_ | refine zMaxL ?_ | refine zMaxR ?_ | refine zMinL ?_ | refine zMinR ?_ | refine zShr ?_ | refine zC8 ?_ | refine zQ ?_ | refine zR ?_ | refine zS ?_ | refine zA ?_ | refine zM ?_ | refine xr rfl ?_ | refine ai rfl ?_ | refine condT ?_ | refine condF ?_ | refine condG1 ?_ | refine condG0 ?_ | refine cD ?_ | refine dD ?_ | refine cB ?_ | refine dB ?_ | refine cN ?_ | refine dN ?_ | refine cV ?_ | refine dV ?_ | refine cE ?_ | refine dE ?_ | refine condX0 ?_ | refine condX1 ?_ | refine condNot ?_ | refine condAnd ?_ | refine condOr ?_ | refine aO ?_ | refine aB ?_ | refine aR ?_ | refine aR ?_ (by simp; omega) | refine xr (by assumption) ?_ | refine ai (by assumption) ?_ | refine kX [(0, _, _), (1, _, _), (2, _, _)] [] ⟨rfl, rfl, rfl, trivial⟩ trivial (q2) ?_ | refine condD (fun h => ?_) (fun h => ?_) | refine condB (fun h => ?_) (fun h => ?_) | refine condN (fun h => ?_) (fun h => ?_) | refine condE (fun h => ?_) (fun h => ?_) | refine condV (fun h => ?_) (fun h => ?_))
  (conv => whnf); first | refine ev_finX [(0, _, _), (1, _, _), (2, _, _)] [] [true, true, false] (Nat.succ_pos _) ⟨rfl, rfl, rfl, trivial⟩ rfl (by repeat' (first | exact trivial | rfl | refine And.intro ?_ ?_ | (simp [pureL, pureLL, AV.pure, Blk.renS, Blk.okS, Blk.okX, AV.okS, AV.okX]; done) | omega | fail)) ⟨(by first | rfl | exact (decide_eq_false (by omega)).symm), (by first | rfl | exact (decide_eq_false (by omega)).symm), (by first | rfl | exact (decide_eq_false (by omega)).symm), trivial⟩ ⟨rfl, (by repeat' (first | exact trivial | rfl | refine And.intro ?_ ?_ | (simp [pureL, pureLL, AV.pure, Blk.renS, Blk.okS, Blk.okX, AV.okS, AV.okX]; done) | omega | fail)), ?_⟩ | refine ev_finX0 [(0, _, _), (1, _, _), (2, _, _)] [] [true, true, false] (Nat.succ_pos _) ⟨rfl, rfl, rfl, trivial⟩ rfl (by repeat' (first | exact trivial | rfl | refine And.intro ?_ ?_ | (simp [pureL, pureLL, AV.pure, Blk.renS, Blk.okS, Blk.okX, AV.okS, AV.okX]; done) | omega | fail)) ⟨(by first | rfl | exact (decide_eq_false (by omega)).symm), (by first | rfl | exact (decide_eq_false (by omega)).symm), (by first | rfl | exact (decide_eq_false (by omega)).symm), trivial⟩ ⟨rfl, (by repeat' (first | exact trivial | rfl | refine And.intro ?_ ?_ | (simp [pureL, pureLL, AV.pure, Blk.renS, Blk.okS, Blk.okX, AV.okS, AV.okX]; done) | omega | fail)), ?_⟩
  rfl
theorem opened_gives166 (c : Conf) (hc : c.ok) (peer : Int) (m : PMsg) (h : LenO m) (s : Ses) (now : Int) (acts : List Act) (ha : acts.length < 2 ^ 28) : Gives G 166 [.ref 1 0 0, .agg c.enc, .int .i64 peer, .agg m.enc, .fn 150 [.ref 0 0 0]] [.cells [.ref 1 0 0], .cells (cellsR s now (.vs 2 0 acts.length)), .vec 28 (acts.map Act.enc)] (runRet3 (openedS c peer s m now acts) now false) := by
  by_cases h1 : m.kind = 1
  · by_cases h2 : (agreeS c peer m).2.2 = 0
    · by_cases h3 : (agreeS c peer m).1.holdTime = 0
      · exact opened_4 c hc peer m h s now acts h1 h2 h3 ha
      · exact opened_3 c hc peer m h s now acts h1 h2 h3 ha
    · exact opened_2 c hc peer m h s now acts h1 h2 ha
  · exact opened_1 c hc peer m h s now acts h1 ha
theorem conf_gives167 (s : Ses) (m : PMsg) (now : Int) (acts : List Act) (ha : acts.length < 2 ^ 28) : Gives G 167 [.ref 0 0 0, .agg m.enc] [.cells (cellsR s now (.vs 1 0 acts.length)), .vec 28 (acts.map Act.enc)] (runRet2 (confS s m now acts) now false) := by
  by_cases h1 : m.kind = 4
  · by_cases h2 : s.untl = 0
    · exact conf_n s m now acts h1 h2 ha
    · by_cases h3 : s.restart = 0
      · exact conf_u s m now acts h1 h2 h3 ha
      · exact conf_v s m now acts h1 h2 h3 ha
  · exact conf_l s m now acts h1 ha
theorem est_gives168 (s : Ses) (m : PMsg) (hb : m.withdrawn.length < 2 ^ 40 ∧ m.reach.length < 2 ^ 40) (now : Int) (acts : List Act) (ha : acts.length < 2 ^ 28) : ∃ fl, Gives G 168 [.ref 0 0 0, .agg m.enc] [.cells (cellsR s now (.vs 1 0 acts.length)), .vec 28 (acts.map Act.enc)] (runRet2 (estS s m now acts) now fl) := by
  by_cases h1 : m.kind = 4
  · exact ⟨_, est_k s m now acts h1 ha⟩
  · by_cases h2 : m.kind = 2
    · by_cases h3 : (m.withdrawn.length : Int) + m.reach.length = 0
      · by_cases h4 : s.untl = 0
        · exact ⟨_, est_u1 s m now acts h2 hb h3 h4 ha⟩
        · exact ⟨_, est_us s m now acts h2 hb h3 h4 ha⟩
      · exact ⟨_, est_u0 s m now acts h2 hb h3 ha⟩
    · by_cases h3 : m.kind = 5
      · cases h4 : s.refresh
        · exact ⟨_, est_r0 s m now acts h3 h4 ha⟩
        · exact ⟨_, est_r1 s m now acts h3 h4 ha⟩
      · by_cases h4 : m.kind = 1
        · exact ⟨_, est_o s m now acts h4 ha⟩
        · exact ⟨_, est_x s m now acts h1 h2 h3 h4 ha⟩
end Go.AM.IR
set_option maxHeartbeats 4000000
set_option maxRecDepth 20000
namespace Go.AM.IR
mutual
theorem kS_pure {all : Bool} : ∀ {a : AV}, a.pure = true → a.kS all = []
  | .any, _ | .int _ _, _ | .bool _, _ | .str _, _ | .con _, _ => by simp [AV.kS]
  | .agg cs, h | .fn _ cs, h | .tup cs, h => by simp only [AV.kS]; exact kSL_pure (by simpa [AV.pure] using h)
  | .sl _ _, _ | .rp _, _ | .ifc _ _, _ => by simp [AV.kS]
  | .ref _ _ _, h | .er _ _ _ _, h | .vs _ _ _, h | .vw _ _ _ _, h => by simp [AV.pure] at h
theorem kSL_pure {all : Bool} : ∀ {l : List AV}, pureL l = true → kSL all l = []
  | [], _ => rfl
  | a :: r, h => by
    simp only [pureL, Bool.and_eq_true] at h
    simp only [kSL]; rw [kS_pure h.1, kSL_pure h.2]; rfl
end
mutual
theorem okX_pure {Dz Fz : Fzs} : ∀ {a : AV}, a.pure = true → a.okX Dz Fz
  | .any, _ | .int _ _, _ | .bool _, _ | .str _, _ | .con _, _ => by simp [AV.okX]
  | .agg cs, h | .fn _ cs, h | .tup cs, h => by simp only [AV.okX]; exact okXL_pure (by simpa [AV.pure] using h)
  | .sl _ _, h | .rp _, h | .ifc _ _, h => by simpa [AV.okX, AV.pure] using h
  | .ref _ _ _, h | .er _ _ _ _, h | .vs _ _ _, h | .vw _ _ _ _, h => by simp [AV.pure] at h
theorem okXL_pure {Dz Fz : Fzs} : ∀ {l : List AV}, pureL l = true → okXL Dz Fz l
  | [], _ => by simp [okXL]
  | a :: r, h => by
    simp only [pureL, Bool.and_eq_true] at h
    simp only [okXL]; exact ⟨okX_pure h.1, okXL_pure h.2⟩
end
mutual
theorem renX_pure {Dz Fz : Fzs} : ∀ {a : AV}, a.pure = true → a.renX Dz Fz = a
  | .any, _ | .int _ _, _ | .bool _, _ | .str _, _ | .con _, _ => by simp [AV.renX]
  | .agg cs, h | .fn _ cs, h | .tup cs, h => by simp only [AV.renX]; rw [renXL_pure (by simpa [AV.pure] using h)]
  | .sl _ _, h | .rp _, h | .ifc _ _, h => by simp [AV.renX]
  | .ref _ _ _, h | .er _ _ _ _, h | .vs _ _ _, h | .vw _ _ _ _, h => by simp [AV.pure] at h
theorem renXL_pure {Dz Fz : Fzs} : ∀ {l : List AV}, pureL l = true → renXL Dz Fz l = l
  | [], _ => by simp [renXL]
  | a :: r, h => by
    simp only [pureL, Bool.and_eq_true] at h
    simp only [renXL]; rw [renX_pure h.1, renXL_pure h.2]
end
def extL (hp : Heap) (D : List Nat) : List Nat := match D with | [] => [] | D => dedup ((D ++ contS hp D) ++ contS hp (D ++ contS hp D))
theorem extS_of {hp : Heap} {raw : Bool} {args : List AV} {D R : List Nat} (hk : kSL raw args = D) (h : extL hp D = R) : extS hp raw args = R := by
  subst hk; exact h
theorem filt_of {args : List AV} {D : List Nat} {p : Nat → Bool} {R : List Nat} (hk : kSL true args = D) (h : D.filter p = R) : (kSL true args).filter p = R := by rw [hk]; exact h
section
variable {G : Nat → Fun} {hp : Heap} {f : Nat} {args : List AV} {g dst : Nat} {E : Prop} {k : Eff → Prop} {r : AV} {R : List (Bool × Blk)}
theorem kXp (Dz : Fzs) (args' : List AV) (D : List Nat) (hD : AtOk hp Dz) (hG : Gives G f args' (bX Dz [] Dz) ⟨r, R⟩)
    (h : fA (r.renS (ψX (keysX Dz dst 0 R) (gensX Dz R g))) fun r' => fW (wS (ψX (keysX Dz dst 0 R) (gensX Dz R g)) (keysX Dz dst 0 R) (gensX Dz R g) R) fun w' => k { res := r', wr := w' ++ dropW [], rd := [] ++ Dz.map (·.1) })
    (hr : renXL Dz [] args = args') (hok : okXL Dz [] args) (hk1 : kSL (G f).raw args = D) (hk2 : kSL true args = D) (hne : D ≠ [])
    (hE : extL hp D = Dz.map (·.1) := by rfl) (hK : D.filter (fun k => !(Dz.map (·.1)).contains k) = [] := by rfl)
    (hbok : bokX Dz [] Dz := by repeat' (first | exact trivial | rfl | refine And.intro ?_ ?_ | (simp [pureL, pureLL, AV.pure, Blk.renS, Blk.okS, Blk.okX, AV.okS, AV.okX]; done) | omega | fail))
    (hd : (R.isEmpty && r.dry) = false := by rfl) (hl : Nat.ble Dz.length R.length = true := by rfl) (hn : nodupB (keysX Dz dst 0 R) = true := by rfl)
    (hro : r.okS := by repeat' (first | exact trivial | rfl | refine And.intro ?_ ?_ | (simp [pureL, pureLL, AV.pure, Blk.renS, Blk.okS, Blk.okX, AV.okS, AV.okX]; done) | omega | fail))
    (hRo : bokS R := by repeat' (first | exact trivial | rfl | refine And.intro ?_ ?_ | (simp [pureL, pureLL, AV.pure, Blk.renS, Blk.okS, Blk.okX, AV.okS, AV.okX]; done) | omega | fail)) : CallG G hp f args g dst E k := by
  subst hr
  exact callX Dz [] hD trivial (extS_of hk1 hE) (filt_of hk2 hK) (by rw [hk2]; exact hne) hok hbok hG hd hl hn hro hRo h
end
end Go.AM.IR
