/- What the functions of this program give, on the abstract machine. -/
import Derived.Test.YtnjmnofdpmginaaDataC
import Derived.Test.YtnjmnofdpmginaaDataD
import Derived.Test.YtnjmnofdpmginaaDataA
import Derived.Test.YtnjmnofdpmginaaDataB
set_option linter.unusedVariables false
set_option linter.unusedSimpArgs false
set_option maxHeartbeats 4000000
set_option maxRecDepth 20000
namespace Go.AM.IR
attribute [local simp] pureLL_bytes
def openX (m : PMsg) : Int :=
  if m.version ≠ 4 then 12 else if m.as < 1 ∨ m.as > 4294967295 then 5 else if m.hold ≠ 0 ∧ (m.hold < 3 ∨ m.hold > 65535) then 21 else if m.router = 0 then 1 else capsE m.as none 0 false m.caps
structure LenO (m : PMsg) : Prop where
  len : LenM m
  capT : capT m.caps < 2 ^ 50
theorem lenM_used (m : PMsg) (h : LenM m) : LenM (usedO m) := ⟨h.caps, by simp [usedO, zeroM], by simp [usedO, zeroM], lenC_zero⟩
theorem open_gives158 (m : PMsg) (h : LenO m) : Gives G 158 [.agg m.enc] [] ⟨.int .i64 (openX m), []⟩ := by
  have hc := caps_gives170 m h.len.caps h.capT
  generalize hce : capsE m.as none 0 false m.caps = ce at hc
  refine gives_code (F := f158) rfl rfl (W_ok 300 _ _ _ _ ?_)
  repeat' ((conv => whnf); first | refine bslP (by first | rfl | (simp [pureL, pureLL, AV.pure]; done) | fail) rfl ?_ | refine TakeC.full (by first | rfl | omega | (simp; done) | (simp; omega) | fail) ?_ | refine zBs ?_ | refine zBn ?_ | refine zBv rfl rfl ?_ | refine zN ?_ | refine zC ?_ | refine zC4 ?_ | refine zOr16 ?_ | refine zC1 ?_ | refine zByte ?_ | refine zMaxL ?_ | refine zMaxR ?_ | refine zMinL ?_ | refine zMinR ?_ | refine zShr ?_ | refine zC8 ?_ | refine zQ ?_ | refine zR ?_ | refine zS ?_ | refine zA ?_ | refine zM ?_ | refine xr rfl ?_ | refine ai rfl ?_ | refine condT ?_ | refine condF ?_ | refine condG1 ?_ | refine condG0 ?_ | refine cD ?_ | refine dD ?_ | refine cB ?_ | refine dB ?_ | refine cN ?_ | refine dN ?_ | refine cV ?_ | refine dV ?_ | refine cE ?_ | refine dE ?_ | refine condX0 ?_ | refine condX1 ?_ | refine condNot ?_ | refine condAnd ?_ | refine condOr ?_ | refine aO ?_ | refine aB ?_ | refine aR ?_ | refine aR ?_ (by simp; omega) | refine xr (by assumption) ?_ | refine ai (by assumption) ?_ | refine kV (hc) ?_ | refine condD (fun h => ?_) (fun h => ?_) | refine condB (fun h => ?_) (fun h => ?_) | refine condN (fun h => ?_) (fun h => ?_) | refine condE (fun h => ?_) (fun h => ?_) | refine condV (fun h => ?_) (fun h => ?_))
  all_goals try ((first | refine ev_fin (And.intro (by first | rfl | (simp [AV.pure, pureL]; done) | fail) ?_) | refine ev_fin0 (And.intro (by first | rfl | (simp [AV.pure, pureL]; done) | fail) ?_)); first | rfl | (simp [openX, Bool.cond_eq_ite, *]; done) | (simp [openX, Bool.cond_eq_ite, *]; omega) | (unfold openX; repeat' split; all_goals first | rfl | (exfalso; omega) | (simp_all; done) | (simp_all; omega)))
def checkO (m : PMsg) : Int := if onlyO m = true then openX m else 1
theorem check_gives144 (m : PMsg) (h : LenO m) (hk : m.kind = 1) : Gives G 144 [.agg m.enc] [] ⟨.int .i64 (checkO m), []⟩ := by
  have h1 := used_gives157 m hk
  have h2 := same_gives156 m (usedO m) h.len (lenM_used m h.len)
  rw [onlyO_eq m] at h2
  have h3 := open_gives158 m h
  generalize hoe : openX m = oe at h3
  generalize hon : onlyO m = b at h2
  refine gives_code (F := f144) rfl rfl (W_ok 300 _ _ _ _ ?_)
  repeat' ((conv => whnf); first | refine bslP (by first | rfl | (simp [pureL, pureLL, AV.pure]; done) | fail) rfl ?_ | refine TakeC.full (by first | rfl | omega | (simp; done) | (simp; omega) | fail) ?_ | refine zBs ?_ | refine zBn ?_ | refine zBv rfl rfl ?_ | refine zN ?_ | refine zC ?_ | refine zC4 ?_ | refine zOr16 ?_ | refine zC1 ?_ | refine zByte ?_ | refine zMaxL ?_ | refine zMaxR ?_ | refine zMinL ?_ | refine zMinR ?_ | refine zShr ?_ | refine zC8 ?_ | refine zQ ?_ | refine zR ?_ | refine zS ?_ | refine zA ?_ | refine zM ?_ | refine xr rfl ?_ | refine ai rfl ?_ | refine condT ?_ | refine condF ?_ | refine condG1 ?_ | refine condG0 ?_ | refine cD ?_ | refine dD ?_ | refine cB ?_ | refine dB ?_ | refine cN ?_ | refine dN ?_ | refine cV ?_ | refine dV ?_ | refine cE ?_ | refine dE ?_ | refine condX0 ?_ | refine condX1 ?_ | refine condNot ?_ | refine condAnd ?_ | refine condOr ?_ | refine aO ?_ | refine aB ?_ | refine aR ?_ | refine aR ?_ (by simp; omega) | refine xr (by assumption) ?_ | refine ai (by assumption) ?_ | refine callW (h1) ?_ | refine kV (h2) ?_ | refine kV (h3) ?_ | refine condD (fun h => ?_) (fun h => ?_) | refine condB (fun h => ?_) (fun h => ?_) | refine condN (fun h => ?_) (fun h => ?_) | refine condE (fun h => ?_) (fun h => ?_) | refine condV (fun h => ?_) (fun h => ?_))
  all_goals try ((first | refine ev_fin (And.intro (by first | rfl | (simp [AV.pure, pureL]; done) | fail) ?_) | refine ev_fin0 (And.intro (by first | rfl | (simp [AV.pure, pureL]; done) | fail) ?_)); first | rfl | (simp [checkO, Bool.cond_eq_ite, *]; done) | (simp [checkO, Bool.cond_eq_ite, *]; omega) | (unfold checkO; repeat' split; all_goals first | rfl | (exfalso; omega) | (simp_all; done) | (simp_all; omega)))
end Go.AM.IR
set_option maxHeartbeats 4000000
set_option maxRecDepth 20000
namespace Go.AM.IR
def zeroS : Ses := ⟨0, 0, 0, 0, 0, 0, 0, false, 0⟩
def notM (a b : Int) : PMsg := { zeroM with kind := 3, code := a, sub := b }
def agreeP (c : Conf) (p : Peer) (m : PMsg) : Ses × PMsg × Int :=
  if m.kind ≠ 1 then (zeroS, notM 2 0, 15) else if checkO m ≠ 0 then (zeroS, notM 2 0, 15) else if m.as ≠ p.as then (zeroS, notM 2 2, 14)
  else if m.router = c.router then (zeroS, notM 2 3, 1) else if capB m.caps 65 = false then (zeroS, notM 2 7, 22)
  else ({ zeroS with state := 3, holdTime := if p.hold ≤ m.hold then p.hold else m.hold, router := m.router, restart := if capB m.caps 64 = true ∧ p.restart > 0 then ((rd (capV m.caps 64) : Nat) : Int) else 0, refresh := capB m.caps 2 }, zeroM, 0)
def agreeS (c : Conf) (peer : Int) (m : PMsg) : Ses × PMsg × Int := match bif knownS c peer then c.peers[peer.toNat]? else none with
  | none => (zeroS, zeroM, 5)
  | some p => agreeP c p m
def agreeRet (x : Ses × PMsg × Int) : Ret := ⟨.tup [.agg x.1.enc, .agg x.2.1.enc, .int .i64 x.2.2], []⟩
theorem capsE_64 (as : Int) : ∀ (l : List Cap) (p : Option Int) (n : Int) (w : Bool), capsE as p n w l = 0 → capB l 64 = true → (capV l 64).length = 2
  | [], _, _, _, _, h => by simp [capB] at h
  | c :: r, p, n, w, h, hb => by
    have ih := capsE_64 as r (some c.code) (n + (2 + c.value.length)) (if c.code = 65 then true else w)
    simp only [capsE] at h
    by_cases h1 : c.code = 64
    · have hbad : ¬ capBad c = true → c.value.length = 2 := by
        intro hh; simp [capBad, h1] at hh; omega
      simp only [capV, h1, if_true]
      repeat' split at h
      all_goals first | omega | (exact hbad (by assumption)) | (exfalso; simp_all; done)
    · simp only [capB, capV, h1, if_false] at hb ⊢
      repeat' split at h
      all_goals first | omega | (exfalso; simp at h; done) | exact ih (by first | exact h | (rw [if_pos (by assumption)]; exact h) | (rw [if_neg (by assumption)]; exact h)) hb
theorem check64 (m : PMsg) (h : checkO m = 0) (hb : capB m.caps 64 = true) : (capV m.caps 64).length = 2 := by
  unfold checkO openX at h
  repeat' split at h
  all_goals first | omega | exact capsE_64 _ _ _ _ _ h hb
end Go.AM.IR
set_option maxHeartbeats 4000000
set_option maxRecDepth 20000
namespace Go.AM.IR
theorem agree_gives131 (c : Conf) (hc : c.ok) (hl : c.peers.length ≤ maxLen) (peer : Int) (m : PMsg) (h : LenO m) : Gives G 131 [.agg c.enc, .int .i64 peer, .agg m.enc] [] (agreeRet (agreeS c peer m)) := by
  have hp := hc.nets; have h1 := hc.p1; have h2 := hc.p2; have h3 := hc.p3; have h4 := hc.p4
  have hll : (c.peers.map Peer.enc).length = c.peers.length := by simp
  have hk := known_gives140 c hc hl peer
  have n0 := notify_gives145 2 0; have n2 := notify_gives145 2 2; have n3 := notify_gives145 2 3; have n7 := notify_gives145 2 7
  have q65 := cap_gives146 m h.len.caps 65; have q64 := cap_gives146 m h.len.caps 64; have q2 := cap_gives146 m h.len.caps 2
  unfold capRet at q65 q64 q2
  cases hkn : knownS c peer
  · rw [hkn] at hk
    rw [show agreeS c peer m = (zeroS, zeroM, 5) from by simp [agreeS, hkn]]
    refine gives_code (F := f131) rfl rfl (W_ok 300 _ _ _ _ ?_)
    repeat' ((conv => whnf); first | refine kV hk ?_ (by simp [pureL, AV.pure, hp, h1, h2, h3, h4]) | refine bslP (by first | rfl | (simp [pureL, pureLL, AV.pure]; done) | fail) rfl ?_ | refine TakeC.full (by first | rfl | omega | (simp; done) | (simp; omega) | fail) ?_ | refine zBs ?_ | refine zBn ?_ | refine zBv rfl rfl ?_ | refine zN ?_ | refine zC ?_ | refine zC4 ?_ | refine zOr16 ?_ | refine zC1 ?_ | refine zByte ?_ | refine zMaxL ?_ | refine zMaxR ?_ | refine zMinL ?_ | refine zMinR ?_ | refine zShr ?_ | refine zC8 ?_ | refine zQ ?_ | refine zR ?_ | refine zS ?_ | refine zA ?_ | refine zM ?_ | refine xr rfl ?_ | refine ai rfl ?_ | refine condT ?_ | refine condF ?_ | refine condG1 ?_ | refine condG0 ?_ | refine cD ?_ | refine dD ?_ | refine cB ?_ | refine dB ?_ | refine cN ?_ | refine dN ?_ | refine cV ?_ | refine dV ?_ | refine cE ?_ | refine dE ?_ | refine condX0 ?_ | refine condX1 ?_ | refine condNot ?_ | refine condAnd ?_ | refine condOr ?_ | refine aO ?_ | refine aB ?_ | refine aR ?_ | refine aR ?_ (by simp; omega) | refine xr (by assumption) ?_ | refine ai (by assumption) ?_ | refine condD (fun h => ?_) (fun h => ?_) | refine condB (fun h => ?_) (fun h => ?_) | refine condN (fun h => ?_) (fun h => ?_) | refine condE (fun h => ?_) (fun h => ?_) | refine condV (fun h => ?_) (fun h => ?_))
    refine ev_le [] [(71, some (_, .cells (zeroM.enc)))] trivial ⟨⟨rfl, (by repeat' (first | exact trivial | exact LeP.refl _ | exact LeP.nil _ | refine LeP.sl ?_ | refine ⟨?_, ?_⟩))⟩, trivial⟩ ?_
    refine ev_fin ?_
    (conv => whnf)
    refine And.intro (by first | rfl | (simp [AV.pure, pureL, pureLL_bytes]; done) | fail) ?_
    (conv => whnf)
    refine And.intro (by first | rfl | (simp [AV.pure, pureL, pureLL_bytes]; done) | fail) ?_
    (conv => whnf)
    first | exact And.intro rfl rfl | (refine And.intro (by first | rfl | (simp [AV.pure, pureL, pureLL_bytes]; done) | fail) ?_; (conv => whnf); rfl) | rfl
  · have h0 : 0 ≤ peer ∧ peer < c.peers.length := by simpa [knownS] using hkn
    have hlt : peer.toNat < c.peers.length := by omega
    generalize hpe : c.peers[peer.toNat] = p
    have hx : (c.peers.map Peer.enc)[peer.toNat]? = some p.enc := by simp [hlt, hpe]
    rw [show agreeS c peer m = agreeP c p m from by simp [agreeS, hkn, hlt, hpe]]
    rw [hkn] at hk
    by_cases hki : m.kind = 1
    · have hch := check_gives144 m h hki
      have h64 := check64 m
      by_cases hz : checkO m = 0
      · rw [hz] at hch
        have h64 := h64 hz
        by_cases has : m.as = p.as
        · by_cases hro : m.router = c.router
          ·
            rw [show agreeP c p m = (zeroS, notM 2 3, 1) from by first | (simp [agreeP, *]; done) | (simp [agreeP, *]; rfl)]
            refine gives_code (F := f131) rfl rfl (W_ok 300 _ _ _ _ ?_)
            repeat' ((conv => whnf); first | refine zCR (x := capV m.caps 64) (by omega) ?_ | refine kV hk ?_ (by simp [pureL, AV.pure, hp, h1, h2, h3, h4]) | refine bslP (by first | rfl | (simp [pureL, pureLL, AV.pure]; done) | fail) rfl ?_ | refine TakeC.full (by first | rfl | omega | (simp; done) | (simp; omega) | fail) ?_ | refine zBs ?_ | refine zBn ?_ | refine zBv rfl rfl ?_ | refine zN ?_ | refine zC ?_ | refine zC4 ?_ | refine zOr16 ?_ | refine zC1 ?_ | refine zByte ?_ | refine zMaxL ?_ | refine zMaxR ?_ | refine zMinL ?_ | refine zMinR ?_ | refine zShr ?_ | refine zC8 ?_ | refine zQ ?_ | refine zR ?_ | refine zS ?_ | refine zA ?_ | refine zM ?_ | refine xr rfl ?_ | refine ai rfl ?_ | refine condT ?_ | refine condF ?_ | refine condG1 ?_ | refine condG0 ?_ | refine cD ?_ | refine dD ?_ | refine cB ?_ | refine dB ?_ | refine cN ?_ | refine dN ?_ | refine cV ?_ | refine dV ?_ | refine cE ?_ | refine dE ?_ | refine condX0 ?_ | refine condX1 ?_ | refine condNot ?_ | refine condAnd ?_ | refine condOr ?_ | refine aO ?_ | refine aB ?_ | refine aR ?_ | refine aR ?_ (by simp; omega) | refine xr (by assumption) ?_ | refine ai (by assumption) ?_ | refine callW (q65) ?_ | refine callW (q64) ?_ | refine callW (q2) ?_ | refine kV (n0) ?_ | refine kV (n2) ?_ | refine kV (n3) ?_ | refine kV (n7) ?_ | refine kV (hch) ?_ | refine condD (fun h => ?_) (fun h => ?_) | refine condB (fun h => ?_) (fun h => ?_) | refine condN (fun h => ?_) (fun h => ?_) | refine condE (fun h => ?_) (fun h => ?_) | refine condV (fun h => ?_) (fun h => ?_))
            refine ev_fin ?_
            (conv => whnf)
            refine And.intro (by first | rfl | (simp [AV.pure, pureL, pureLL_bytes]; done) | fail) ?_
            (conv => whnf)
            refine And.intro (by first | rfl | (simp [AV.pure, pureL, pureLL_bytes]; done) | fail) ?_
            (conv => whnf)
            first | exact And.intro rfl rfl | (refine And.intro (by first | rfl | (simp [AV.pure, pureL, pureLL_bytes]; done) | fail) ?_; (conv => whnf); rfl) | rfl
          · cases h65 : capB m.caps 65
            · rw [h65] at q65
              rw [show agreeP c p m = (zeroS, notM 2 7, 22) from by first | (simp [agreeP, *]; done) | (simp [agreeP, *]; rfl)]
              refine gives_code (F := f131) rfl rfl (W_ok 300 _ _ _ _ ?_)
              repeat' ((conv => whnf); first | refine zCR (x := capV m.caps 64) (by omega) ?_ | refine kV hk ?_ (by simp [pureL, AV.pure, hp, h1, h2, h3, h4]) | refine bslP (by first | rfl | (simp [pureL, pureLL, AV.pure]; done) | fail) rfl ?_ | refine TakeC.full (by first | rfl | omega | (simp; done) | (simp; omega) | fail) ?_ | refine zBs ?_ | refine zBn ?_ | refine zBv rfl rfl ?_ | refine zN ?_ | refine zC ?_ | refine zC4 ?_ | refine zOr16 ?_ | refine zC1 ?_ | refine zByte ?_ | refine zMaxL ?_ | refine zMaxR ?_ | refine zMinL ?_ | refine zMinR ?_ | refine zShr ?_ | refine zC8 ?_ | refine zQ ?_ | refine zR ?_ | refine zS ?_ | refine zA ?_ | refine zM ?_ | refine xr rfl ?_ | refine ai rfl ?_ | refine condT ?_ | refine condF ?_ | refine condG1 ?_ | refine condG0 ?_ | refine cD ?_ | refine dD ?_ | refine cB ?_ | refine dB ?_ | refine cN ?_ | refine dN ?_ | refine cV ?_ | refine dV ?_ | refine cE ?_ | refine dE ?_ | refine condX0 ?_ | refine condX1 ?_ | refine condNot ?_ | refine condAnd ?_ | refine condOr ?_ | refine aO ?_ | refine aB ?_ | refine aR ?_ | refine aR ?_ (by simp; omega) | refine xr (by assumption) ?_ | refine ai (by assumption) ?_ | refine callW (q65) ?_ | refine callW (q64) ?_ | refine callW (q2) ?_ | refine kV (n0) ?_ | refine kV (n2) ?_ | refine kV (n3) ?_ | refine kV (n7) ?_ | refine kV (hch) ?_ | refine condD (fun h => ?_) (fun h => ?_) | refine condB (fun h => ?_) (fun h => ?_) | refine condN (fun h => ?_) (fun h => ?_) | refine condE (fun h => ?_) (fun h => ?_) | refine condV (fun h => ?_) (fun h => ?_))
              refine ev_fin ?_
              (conv => whnf)
              refine And.intro (by first | rfl | (simp [AV.pure, pureL, pureLL_bytes]; done) | fail) ?_
              (conv => whnf)
              refine And.intro (by first | rfl | (simp [AV.pure, pureL, pureLL_bytes]; done) | fail) ?_
              (conv => whnf)
              first | exact And.intro rfl rfl | (refine And.intro (by first | rfl | (simp [AV.pure, pureL, pureLL_bytes]; done) | fail) ?_; (conv => whnf); rfl) | rfl
            · rw [h65] at q65
              cases hb64 : capB m.caps 64
              · rw [hb64] at q64
                by_cases hmin : p.hold ≤ m.hold
                ·
                  rw [show agreeP c p m = ({ zeroS with state := 3, holdTime := p.hold, router := m.router, refresh := capB m.caps 2 }, zeroM, 0) from by first | (simp [agreeP, *]; done) | (simp [agreeP, *]; rfl)]
                  refine gives_code (F := f131) rfl rfl (W_ok 300 _ _ _ _ ?_)
                  repeat' ((conv => whnf); first | refine zCR (x := capV m.caps 64) (by omega) ?_ | refine kV hk ?_ (by simp [pureL, AV.pure, hp, h1, h2, h3, h4]) | refine bslP (by first | rfl | (simp [pureL, pureLL, AV.pure]; done) | fail) rfl ?_ | refine TakeC.full (by first | rfl | omega | (simp; done) | (simp; omega) | fail) ?_ | refine zBs ?_ | refine zBn ?_ | refine zBv rfl rfl ?_ | refine zN ?_ | refine zC ?_ | refine zC4 ?_ | refine zOr16 ?_ | refine zC1 ?_ | refine zByte ?_ | refine zMaxL ?_ | refine zMaxR ?_ | refine zMinL ?_ | refine zMinR ?_ | refine zShr ?_ | refine zC8 ?_ | refine zQ ?_ | refine zR ?_ | refine zS ?_ | refine zA ?_ | refine zM ?_ | refine xr rfl ?_ | refine ai rfl ?_ | refine condT ?_ | refine condF ?_ | refine condG1 ?_ | refine condG0 ?_ | refine cD ?_ | refine dD ?_ | refine cB ?_ | refine dB ?_ | refine cN ?_ | refine dN ?_ | refine cV ?_ | refine dV ?_ | refine cE ?_ | refine dE ?_ | refine condX0 ?_ | refine condX1 ?_ | refine condNot ?_ | refine condAnd ?_ | refine condOr ?_ | refine aO ?_ | refine aB ?_ | refine aR ?_ | refine aR ?_ (by simp; omega) | refine xr (by assumption) ?_ | refine ai (by assumption) ?_ | refine callW (q65) ?_ | refine callW (q64) ?_ | refine callW (q2) ?_ | refine kV (n0) ?_ | refine kV (n2) ?_ | refine kV (n3) ?_ | refine kV (n7) ?_ | refine kV (hch) ?_ | refine condD (fun h => ?_) (fun h => ?_) | refine condB (fun h => ?_) (fun h => ?_) | refine condN (fun h => ?_) (fun h => ?_) | refine condE (fun h => ?_) (fun h => ?_) | refine condV (fun h => ?_) (fun h => ?_))
                  refine ev_le [] [(71, some (_, .cells (zeroM.enc)))] trivial ⟨⟨rfl, (by repeat' (first | exact trivial | exact LeP.refl _ | exact LeP.nil _ | refine LeP.sl ?_ | refine ⟨?_, ?_⟩))⟩, trivial⟩ ?_
                  refine ev_fin ?_
                  (conv => whnf)
                  refine And.intro (by first | rfl | (simp [AV.pure, pureL, pureLL_bytes]; done) | fail) ?_
                  (conv => whnf)
                  refine And.intro (by first | rfl | (simp [AV.pure, pureL, pureLL_bytes]; done) | fail) ?_
                  (conv => whnf)
                  first | exact And.intro rfl rfl | (refine And.intro (by first | rfl | (simp [AV.pure, pureL, pureLL_bytes]; done) | fail) ?_; (conv => whnf); rfl) | rfl
                ·
                  rw [show agreeP c p m = ({ zeroS with state := 3, holdTime := m.hold, router := m.router, refresh := capB m.caps 2 }, zeroM, 0) from by first | (simp [agreeP, *]; done) | (simp [agreeP, *]; rfl)]
                  refine gives_code (F := f131) rfl rfl (W_ok 300 _ _ _ _ ?_)
                  repeat' ((conv => whnf); first | refine zCR (x := capV m.caps 64) (by omega) ?_ | refine kV hk ?_ (by simp [pureL, AV.pure, hp, h1, h2, h3, h4]) | refine bslP (by first | rfl | (simp [pureL, pureLL, AV.pure]; done) | fail) rfl ?_ | refine TakeC.full (by first | rfl | omega | (simp; done) | (simp; omega) | fail) ?_ | refine zBs ?_ | refine zBn ?_ | refine zBv rfl rfl ?_ | refine zN ?_ | refine zC ?_ | refine zC4 ?_ | refine zOr16 ?_ | refine zC1 ?_ | refine zByte ?_ | refine zMaxL ?_ | refine zMaxR ?_ | refine zMinL ?_ | refine zMinR ?_ | refine zShr ?_ | refine zC8 ?_ | refine zQ ?_ | refine zR ?_ | refine zS ?_ | refine zA ?_ | refine zM ?_ | refine xr rfl ?_ | refine ai rfl ?_ | refine condT ?_ | refine condF ?_ | refine condG1 ?_ | refine condG0 ?_ | refine cD ?_ | refine dD ?_ | refine cB ?_ | refine dB ?_ | refine cN ?_ | refine dN ?_ | refine cV ?_ | refine dV ?_ | refine cE ?_ | refine dE ?_ | refine condX0 ?_ | refine condX1 ?_ | refine condNot ?_ | refine condAnd ?_ | refine condOr ?_ | refine aO ?_ | refine aB ?_ | refine aR ?_ | refine aR ?_ (by simp; omega) | refine xr (by assumption) ?_ | refine ai (by assumption) ?_ | refine callW (q65) ?_ | refine callW (q64) ?_ | refine callW (q2) ?_ | refine kV (n0) ?_ | refine kV (n2) ?_ | refine kV (n3) ?_ | refine kV (n7) ?_ | refine kV (hch) ?_ | refine condD (fun h => ?_) (fun h => ?_) | refine condB (fun h => ?_) (fun h => ?_) | refine condN (fun h => ?_) (fun h => ?_) | refine condE (fun h => ?_) (fun h => ?_) | refine condV (fun h => ?_) (fun h => ?_))
                  refine ev_le [] [(71, some (_, .cells (zeroM.enc)))] trivial ⟨⟨rfl, (by repeat' (first | exact trivial | exact LeP.refl _ | exact LeP.nil _ | refine LeP.sl ?_ | refine ⟨?_, ?_⟩))⟩, trivial⟩ ?_
                  refine ev_fin ?_
                  (conv => whnf)
                  refine And.intro (by first | rfl | (simp [AV.pure, pureL, pureLL_bytes]; done) | fail) ?_
                  (conv => whnf)
                  refine And.intro (by first | rfl | (simp [AV.pure, pureL, pureLL_bytes]; done) | fail) ?_
                  (conv => whnf)
                  first | exact And.intro rfl rfl | (refine And.intro (by first | rfl | (simp [AV.pure, pureL, pureLL_bytes]; done) | fail) ?_; (conv => whnf); rfl) | rfl
              · rw [hb64] at q64
                have hg := get2_gives110 (capV m.caps 64) (h64 hb64)
                have hv2 := h64 hb64
                by_cases hre : p.restart > 0
                · by_cases hmin : p.hold ≤ m.hold
                  ·
                    rw [show agreeP c p m = ({ zeroS with state := 3, holdTime := p.hold, router := m.router, restart := (rd (capV m.caps 64) : Nat), refresh := capB m.caps 2 }, zeroM, 0) from by first | (simp [agreeP, *]; done) | (simp [agreeP, *]; rfl)]
                    refine gives_code (F := f131) rfl rfl (W_ok 300 _ _ _ _ ?_)
                    repeat' ((conv => whnf); first | refine zCR (x := capV m.caps 64) (by omega) ?_ | refine kV hk ?_ (by simp [pureL, AV.pure, hp, h1, h2, h3, h4]) | refine kV hg ?_ (by simp [pureL, AV.pure, pureLL_bytes]) | refine bslP (by first | rfl | (simp [pureL, pureLL, AV.pure]; done) | fail) rfl ?_ | refine TakeC.full (by first | rfl | omega | (simp; done) | (simp; omega) | fail) ?_ | refine zBs ?_ | refine zBn ?_ | refine zBv rfl rfl ?_ | refine zN ?_ | refine zC ?_ | refine zC4 ?_ | refine zOr16 ?_ | refine zC1 ?_ | refine zByte ?_ | refine zMaxL ?_ | refine zMaxR ?_ | refine zMinL ?_ | refine zMinR ?_ | refine zShr ?_ | refine zC8 ?_ | refine zQ ?_ | refine zR ?_ | refine zS ?_ | refine zA ?_ | refine zM ?_ | refine xr rfl ?_ | refine ai rfl ?_ | refine condT ?_ | refine condF ?_ | refine condG1 ?_ | refine condG0 ?_ | refine cD ?_ | refine dD ?_ | refine cB ?_ | refine dB ?_ | refine cN ?_ | refine dN ?_ | refine cV ?_ | refine dV ?_ | refine cE ?_ | refine dE ?_ | refine condX0 ?_ | refine condX1 ?_ | refine condNot ?_ | refine condAnd ?_ | refine condOr ?_ | refine aO ?_ | refine aB ?_ | refine aR ?_ | refine aR ?_ (by simp; omega) | refine xr (by assumption) ?_ | refine ai (by assumption) ?_ | refine callW (q65) ?_ | refine callW (q64) ?_ | refine callW (q2) ?_ | refine kV (n0) ?_ | refine kV (n2) ?_ | refine kV (n3) ?_ | refine kV (n7) ?_ | refine kV (hch) ?_ | refine condD (fun h => ?_) (fun h => ?_) | refine condB (fun h => ?_) (fun h => ?_) | refine condN (fun h => ?_) (fun h => ?_) | refine condE (fun h => ?_) (fun h => ?_) | refine condV (fun h => ?_) (fun h => ?_))
                    refine ev_le [] [(71, some (_, .cells (zeroM.enc)))] trivial ⟨⟨rfl, (by repeat' (first | exact trivial | exact LeP.refl _ | exact LeP.nil _ | refine LeP.sl ?_ | refine ⟨?_, ?_⟩))⟩, trivial⟩ ?_
                    refine ev_fin ?_
                    (conv => whnf)
                    refine And.intro (by first | rfl | (simp [AV.pure, pureL, pureLL_bytes]; done) | fail) ?_
                    (conv => whnf)
                    refine And.intro (by first | rfl | (simp [AV.pure, pureL, pureLL_bytes]; done) | fail) ?_
                    (conv => whnf)
                    first | exact And.intro rfl rfl | (refine And.intro (by first | rfl | (simp [AV.pure, pureL, pureLL_bytes]; done) | fail) ?_; (conv => whnf); rfl) | rfl
                  ·
                    rw [show agreeP c p m = ({ zeroS with state := 3, holdTime := m.hold, router := m.router, restart := (rd (capV m.caps 64) : Nat), refresh := capB m.caps 2 }, zeroM, 0) from by first | (simp [agreeP, *]; done) | (simp [agreeP, *]; rfl)]
                    refine gives_code (F := f131) rfl rfl (W_ok 300 _ _ _ _ ?_)
                    repeat' ((conv => whnf); first | refine zCR (x := capV m.caps 64) (by omega) ?_ | refine kV hk ?_ (by simp [pureL, AV.pure, hp, h1, h2, h3, h4]) | refine kV hg ?_ (by simp [pureL, AV.pure, pureLL_bytes]) | refine bslP (by first | rfl | (simp [pureL, pureLL, AV.pure]; done) | fail) rfl ?_ | refine TakeC.full (by first | rfl | omega | (simp; done) | (simp; omega) | fail) ?_ | refine zBs ?_ | refine zBn ?_ | refine zBv rfl rfl ?_ | refine zN ?_ | refine zC ?_ | refine zC4 ?_ | refine zOr16 ?_ | refine zC1 ?_ | refine zByte ?_ | refine zMaxL ?_ | refine zMaxR ?_ | refine zMinL ?_ | refine zMinR ?_ | refine zShr ?_ | refine zC8 ?_ | refine zQ ?_ | refine zR ?_ | refine zS ?_ | refine zA ?_ | refine zM ?_ | refine xr rfl ?_ | refine ai rfl ?_ | refine condT ?_ | refine condF ?_ | refine condG1 ?_ | refine condG0 ?_ | refine cD ?_ | refine dD ?_ | refine cB ?_ | refine dB ?_ | refine cN ?_ | refine dN ?_ | refine cV ?_ | refine dV ?_ | refine cE ?_ | refine dE ?_ | refine condX0 ?_ | refine condX1 ?_ | refine condNot ?_ | refine condAnd ?_ | refine condOr ?_ | refine aO ?_ | refine aB ?_ | refine aR ?_ | refine aR ?_ (by simp; omega) | refine xr (by assumption) ?_ | refine ai (by assumption) ?_ | refine callW (q65) ?_ | refine callW (q64) ?_ | refine callW (q2) ?_ | refine kV (n0) ?_ | refine kV (n2) ?_ | refine kV (n3) ?_ | refine kV (n7) ?_ | refine kV (hch) ?_ | refine condD (fun h => ?_) (fun h => ?_) | refine condB (fun h => ?_) (fun h => ?_) | refine condN (fun h => ?_) (fun h => ?_) | refine condE (fun h => ?_) (fun h => ?_) | refine condV (fun h => ?_) (fun h => ?_))
                    refine ev_le [] [(71, some (_, .cells (zeroM.enc)))] trivial ⟨⟨rfl, (by repeat' (first | exact trivial | exact LeP.refl _ | exact LeP.nil _ | refine LeP.sl ?_ | refine ⟨?_, ?_⟩))⟩, trivial⟩ ?_
                    refine ev_fin ?_
                    (conv => whnf)
                    refine And.intro (by first | rfl | (simp [AV.pure, pureL, pureLL_bytes]; done) | fail) ?_
                    (conv => whnf)
                    refine And.intro (by first | rfl | (simp [AV.pure, pureL, pureLL_bytes]; done) | fail) ?_
                    (conv => whnf)
                    first | exact And.intro rfl rfl | (refine And.intro (by first | rfl | (simp [AV.pure, pureL, pureLL_bytes]; done) | fail) ?_; (conv => whnf); rfl) | rfl
                · by_cases hmin : p.hold ≤ m.hold
                  ·
                    rw [show agreeP c p m = ({ zeroS with state := 3, holdTime := p.hold, router := m.router, refresh := capB m.caps 2 }, zeroM, 0) from by first | (simp [agreeP, *]; done) | (simp [agreeP, *]; rfl)]
                    refine gives_code (F := f131) rfl rfl (W_ok 300 _ _ _ _ ?_)
                    repeat' ((conv => whnf); first | refine zCR (x := capV m.caps 64) (by omega) ?_ | refine kV hk ?_ (by simp [pureL, AV.pure, hp, h1, h2, h3, h4]) | refine bslP (by first | rfl | (simp [pureL, pureLL, AV.pure]; done) | fail) rfl ?_ | refine TakeC.full (by first | rfl | omega | (simp; done) | (simp; omega) | fail) ?_ | refine zBs ?_ | refine zBn ?_ | refine zBv rfl rfl ?_ | refine zN ?_ | refine zC ?_ | refine zC4 ?_ | refine zOr16 ?_ | refine zC1 ?_ | refine zByte ?_ | refine zMaxL ?_ | refine zMaxR ?_ | refine zMinL ?_ | refine zMinR ?_ | refine zShr ?_ | refine zC8 ?_ | refine zQ ?_ | refine zR ?_ | refine zS ?_ | refine zA ?_ | refine zM ?_ | refine xr rfl ?_ | refine ai rfl ?_ | refine condT ?_ | refine condF ?_ | refine condG1 ?_ | refine condG0 ?_ | refine cD ?_ | refine dD ?_ | refine cB ?_ | refine dB ?_ | refine cN ?_ | refine dN ?_ | refine cV ?_ | refine dV ?_ | refine cE ?_ | refine dE ?_ | refine condX0 ?_ | refine condX1 ?_ | refine condNot ?_ | refine condAnd ?_ | refine condOr ?_ | refine aO ?_ | refine aB ?_ | refine aR ?_ | refine aR ?_ (by simp; omega) | refine xr (by assumption) ?_ | refine ai (by assumption) ?_ | refine callW (q65) ?_ | refine callW (q64) ?_ | refine callW (q2) ?_ | refine kV (n0) ?_ | refine kV (n2) ?_ | refine kV (n3) ?_ | refine kV (n7) ?_ | refine kV (hch) ?_ | refine condD (fun h => ?_) (fun h => ?_) | refine condB (fun h => ?_) (fun h => ?_) | refine condN (fun h => ?_) (fun h => ?_) | refine condE (fun h => ?_) (fun h => ?_) | refine condV (fun h => ?_) (fun h => ?_))
                    refine ev_le [] [(71, some (_, .cells (zeroM.enc)))] trivial ⟨⟨rfl, (by repeat' (first | exact trivial | exact LeP.refl _ | exact LeP.nil _ | refine LeP.sl ?_ | refine ⟨?_, ?_⟩))⟩, trivial⟩ ?_
                    refine ev_fin ?_
                    (conv => whnf)
                    refine And.intro (by first | rfl | (simp [AV.pure, pureL, pureLL_bytes]; done) | fail) ?_
                    (conv => whnf)
                    refine And.intro (by first | rfl | (simp [AV.pure, pureL, pureLL_bytes]; done) | fail) ?_
                    (conv => whnf)
                    first | exact And.intro rfl rfl | (refine And.intro (by first | rfl | (simp [AV.pure, pureL, pureLL_bytes]; done) | fail) ?_; (conv => whnf); rfl) | rfl
                  ·
                    rw [show agreeP c p m = ({ zeroS with state := 3, holdTime := m.hold, router := m.router, refresh := capB m.caps 2 }, zeroM, 0) from by first | (simp [agreeP, *]; done) | (simp [agreeP, *]; rfl)]
                    refine gives_code (F := f131) rfl rfl (W_ok 300 _ _ _ _ ?_)
                    repeat' ((conv => whnf); first | refine zCR (x := capV m.caps 64) (by omega) ?_ | refine kV hk ?_ (by simp [pureL, AV.pure, hp, h1, h2, h3, h4]) | refine bslP (by first | rfl | (simp [pureL, pureLL, AV.pure]; done) | fail) rfl ?_ | refine TakeC.full (by first | rfl | omega | (simp; done) | (simp; omega) | fail) ?_ | refine zBs ?_ | refine zBn ?_ | refine zBv rfl rfl ?_ | refine zN ?_ | refine zC ?_ | refine zC4 ?_ | refine zOr16 ?_ | refine zC1 ?_ | refine zByte ?_ | refine zMaxL ?_ | refine zMaxR ?_ | refine zMinL ?_ | refine zMinR ?_ | refine zShr ?_ | refine zC8 ?_ | refine zQ ?_ | refine zR ?_ | refine zS ?_ | refine zA ?_ | refine zM ?_ | refine xr rfl ?_ | refine ai rfl ?_ | refine condT ?_ | refine condF ?_ | refine condG1 ?_ | refine condG0 ?_ | refine cD ?_ | refine dD ?_ | refine cB ?_ | refine dB ?_ | refine cN ?_ | refine dN ?_ | refine cV ?_ | refine dV ?_ | refine cE ?_ | refine dE ?_ | refine condX0 ?_ | refine condX1 ?_ | refine condNot ?_ | refine condAnd ?_ | refine condOr ?_ | refine aO ?_ | refine aB ?_ | refine aR ?_ | refine aR ?_ (by simp; omega) | refine xr (by assumption) ?_ | refine ai (by assumption) ?_ | refine callW (q65) ?_ | refine callW (q64) ?_ | refine callW (q2) ?_ | refine kV (n0) ?_ | refine kV (n2) ?_ | refine kV (n3) ?_ | refine kV (n7) ?_ | refine kV (hch) ?_ | refine condD (fun h => ?_) (fun h => ?_) | refine condB (fun h => ?_) (fun h => ?_) | refine condN (fun h => ?_) (fun h => ?_) | refine condE (fun h => ?_) (fun h => ?_) | refine condV (fun h => ?_) (fun h => ?_))
                    refine ev_le [] [(71, some (_, .cells (zeroM.enc)))] trivial ⟨⟨rfl, (by repeat' (first | exact trivial | exact LeP.refl _ | exact LeP.nil _ | refine LeP.sl ?_ | refine ⟨?_, ?_⟩))⟩, trivial⟩ ?_
                    refine ev_fin ?_
                    (conv => whnf)
                    refine And.intro (by first | rfl | (simp [AV.pure, pureL, pureLL_bytes]; done) | fail) ?_
                    (conv => whnf)
                    refine And.intro (by first | rfl | (simp [AV.pure, pureL, pureLL_bytes]; done) | fail) ?_
                    (conv => whnf)
                    first | exact And.intro rfl rfl | (refine And.intro (by first | rfl | (simp [AV.pure, pureL, pureLL_bytes]; done) | fail) ?_; (conv => whnf); rfl) | rfl
        ·
          rw [show agreeP c p m = (zeroS, notM 2 2, 14) from by first | (simp [agreeP, *]; done) | (simp [agreeP, *]; rfl)]
          refine gives_code (F := f131) rfl rfl (W_ok 300 _ _ _ _ ?_)
          repeat' ((conv => whnf); first | refine zCR (x := capV m.caps 64) (by omega) ?_ | refine kV hk ?_ (by simp [pureL, AV.pure, hp, h1, h2, h3, h4]) | refine bslP (by first | rfl | (simp [pureL, pureLL, AV.pure]; done) | fail) rfl ?_ | refine TakeC.full (by first | rfl | omega | (simp; done) | (simp; omega) | fail) ?_ | refine zBs ?_ | refine zBn ?_ | refine zBv rfl rfl ?_ | refine zN ?_ | refine zC ?_ | refine zC4 ?_ | refine zOr16 ?_ | refine zC1 ?_ | refine zByte ?_ | refine zMaxL ?_ | refine zMaxR ?_ | refine zMinL ?_ | refine zMinR ?_ | refine zShr ?_ | refine zC8 ?_ | refine zQ ?_ | refine zR ?_ | refine zS ?_ | refine zA ?_ | refine zM ?_ | refine xr rfl ?_ | refine ai rfl ?_ | refine condT ?_ | refine condF ?_ | refine condG1 ?_ | refine condG0 ?_ | refine cD ?_ | refine dD ?_ | refine cB ?_ | refine dB ?_ | refine cN ?_ | refine dN ?_ | refine cV ?_ | refine dV ?_ | refine cE ?_ | refine dE ?_ | refine condX0 ?_ | refine condX1 ?_ | refine condNot ?_ | refine condAnd ?_ | refine condOr ?_ | refine aO ?_ | refine aB ?_ | refine aR ?_ | refine aR ?_ (by simp; omega) | refine xr (by assumption) ?_ | refine ai (by assumption) ?_ | refine callW (q65) ?_ | refine callW (q64) ?_ | refine callW (q2) ?_ | refine kV (n0) ?_ | refine kV (n2) ?_ | refine kV (n3) ?_ | refine kV (n7) ?_ | refine kV (hch) ?_ | refine condD (fun h => ?_) (fun h => ?_) | refine condB (fun h => ?_) (fun h => ?_) | refine condN (fun h => ?_) (fun h => ?_) | refine condE (fun h => ?_) (fun h => ?_) | refine condV (fun h => ?_) (fun h => ?_))
          refine ev_fin ?_
          (conv => whnf)
          refine And.intro (by first | rfl | (simp [AV.pure, pureL, pureLL_bytes]; done) | fail) ?_
          (conv => whnf)
          refine And.intro (by first | rfl | (simp [AV.pure, pureL, pureLL_bytes]; done) | fail) ?_
          (conv => whnf)
          first | exact And.intro rfl rfl | (refine And.intro (by first | rfl | (simp [AV.pure, pureL, pureLL_bytes]; done) | fail) ?_; (conv => whnf); rfl) | rfl
      · generalize hze : checkO m = ze at hch hz
        rw [show agreeP c p m = (zeroS, notM 2 0, 15) from by first | (simp [agreeP, *]; done) | (simp [agreeP, *]; rfl)]
        refine gives_code (F := f131) rfl rfl (W_ok 300 _ _ _ _ ?_)
        repeat' ((conv => whnf); first | refine zCR (x := capV m.caps 64) (by omega) ?_ | refine kV hk ?_ (by simp [pureL, AV.pure, hp, h1, h2, h3, h4]) | refine bslP (by first | rfl | (simp [pureL, pureLL, AV.pure]; done) | fail) rfl ?_ | refine TakeC.full (by first | rfl | omega | (simp; done) | (simp; omega) | fail) ?_ | refine zBs ?_ | refine zBn ?_ | refine zBv rfl rfl ?_ | refine zN ?_ | refine zC ?_ | refine zC4 ?_ | refine zOr16 ?_ | refine zC1 ?_ | refine zByte ?_ | refine zMaxL ?_ | refine zMaxR ?_ | refine zMinL ?_ | refine zMinR ?_ | refine zShr ?_ | refine zC8 ?_ | refine zQ ?_ | refine zR ?_ | refine zS ?_ | refine zA ?_ | refine zM ?_ | refine xr rfl ?_ | refine ai rfl ?_ | refine condT ?_ | refine condF ?_ | refine condG1 ?_ | refine condG0 ?_ | refine cD ?_ | refine dD ?_ | refine cB ?_ | refine dB ?_ | refine cN ?_ | refine dN ?_ | refine cV ?_ | refine dV ?_ | refine cE ?_ | refine dE ?_ | refine condX0 ?_ | refine condX1 ?_ | refine condNot ?_ | refine condAnd ?_ | refine condOr ?_ | refine aO ?_ | refine aB ?_ | refine aR ?_ | refine aR ?_ (by simp; omega) | refine xr (by assumption) ?_ | refine ai (by assumption) ?_ | refine callW (q65) ?_ | refine callW (q64) ?_ | refine callW (q2) ?_ | refine kV (n0) ?_ | refine kV (n2) ?_ | refine kV (n3) ?_ | refine kV (n7) ?_ | refine kV (hch) ?_ | refine condD (fun h => ?_) (fun h => ?_) | refine condB (fun h => ?_) (fun h => ?_) | refine condN (fun h => ?_) (fun h => ?_) | refine condE (fun h => ?_) (fun h => ?_) | refine condV (fun h => ?_) (fun h => ?_))
        refine ev_fin ?_
        (conv => whnf)
        refine And.intro (by first | rfl | (simp [AV.pure, pureL, pureLL_bytes]; done) | fail) ?_
        (conv => whnf)
        refine And.intro (by first | rfl | (simp [AV.pure, pureL, pureLL_bytes]; done) | fail) ?_
        (conv => whnf)
        first | exact And.intro rfl rfl | (refine And.intro (by first | rfl | (simp [AV.pure, pureL, pureLL_bytes]; done) | fail) ?_; (conv => whnf); rfl) | rfl
    ·
      rw [show agreeP c p m = (zeroS, notM 2 0, 15) from by first | (simp [agreeP, *]; done) | (simp [agreeP, *]; rfl)]
      refine gives_code (F := f131) rfl rfl (W_ok 300 _ _ _ _ ?_)
      repeat' ((conv => whnf); first | refine zCR (x := capV m.caps 64) (by omega) ?_ | refine kV hk ?_ (by simp [pureL, AV.pure, hp, h1, h2, h3, h4]) | refine bslP (by first | rfl | (simp [pureL, pureLL, AV.pure]; done) | fail) rfl ?_ | refine TakeC.full (by first | rfl | omega | (simp; done) | (simp; omega) | fail) ?_ | refine zBs ?_ | refine zBn ?_ | refine zBv rfl rfl ?_ | refine zN ?_ | refine zC ?_ | refine zC4 ?_ | refine zOr16 ?_ | refine zC1 ?_ | refine zByte ?_ | refine zMaxL ?_ | refine zMaxR ?_ | refine zMinL ?_ | refine zMinR ?_ | refine zShr ?_ | refine zC8 ?_ | refine zQ ?_ | refine zR ?_ | refine zS ?_ | refine zA ?_ | refine zM ?_ | refine xr rfl ?_ | refine ai rfl ?_ | refine condT ?_ | refine condF ?_ | refine condG1 ?_ | refine condG0 ?_ | refine cD ?_ | refine dD ?_ | refine cB ?_ | refine dB ?_ | refine cN ?_ | refine dN ?_ | refine cV ?_ | refine dV ?_ | refine cE ?_ | refine dE ?_ | refine condX0 ?_ | refine condX1 ?_ | refine condNot ?_ | refine condAnd ?_ | refine condOr ?_ | refine aO ?_ | refine aB ?_ | refine aR ?_ | refine aR ?_ (by simp; omega) | refine xr (by assumption) ?_ | refine ai (by assumption) ?_ | refine callW (q65) ?_ | refine callW (q64) ?_ | refine callW (q2) ?_ | refine kV (n0) ?_ | refine kV (n2) ?_ | refine kV (n3) ?_ | refine kV (n7) ?_ | refine condD (fun h => ?_) (fun h => ?_) | refine condB (fun h => ?_) (fun h => ?_) | refine condN (fun h => ?_) (fun h => ?_) | refine condE (fun h => ?_) (fun h => ?_) | refine condV (fun h => ?_) (fun h => ?_))
      refine ev_fin ?_
      (conv => whnf)
      refine And.intro (by first | rfl | (simp [AV.pure, pureL, pureLL_bytes]; done) | fail) ?_
      (conv => whnf)
      refine And.intro (by first | rfl | (simp [AV.pure, pureL, pureLL_bytes]; done) | fail) ?_
      (conv => whnf)
      first | exact And.intro rfl rfl | (refine And.intro (by first | rfl | (simp [AV.pure, pureL, pureLL_bytes]; done) | fail) ?_; (conv => whnf); rfl) | rfl
end Go.AM.IR
set_option maxHeartbeats 4000000
set_option maxRecDepth 20000
namespace Go.AM.IR
attribute [local simp] pureLL_bytes
def openedS (c : Conf) (peer : Int) (s : Ses) (m : PMsg) (now : Int) (acts : List Act) : Ses × List Act :=
  if m.kind ≠ 1 then (lostS s now, acts ++ [sendA stateM] ++ lostA s)
  else if (agreeS c peer m).2.2 ≠ 0 then (lostS s now, acts ++ [sendA (agreeS c peer m).2.1] ++ lostA s)
  else if (agreeS c peer m).1.holdTime ≠ 0 then ({ (agreeS c peer m).1 with untl := s.untl, hold := wr (now + (agreeS c peer m).1.holdTime), keep := wr (now + wr ((agreeS c peer m).1.holdTime.tdiv 3)) }, acts ++ [sendA keepM])
  else ({ (agreeS c peer m).1 with untl := s.untl }, acts ++ [sendA keepM])
theorem opened_1 (c : Conf) (hc : c.ok) (peer : Int) (m : PMsg) (h : LenO m) (s : Ses) (now : Int) (acts : List Act) (h1 : ¬ m.kind = 1) (ha : acts.length < 2 ^ 28) : Gives G 166 [.ref 1 0 0, .agg c.enc, .int .i64 peer, .agg m.enc, .fn 150 [.ref 0 0 0]] [.cells [.ref 1 0 0], .cells (cellsR s now (.vs 2 0 acts.length)), .vec 28 (acts.map Act.enc)] (runRet3 (openedS c peer s m now acts) now false) := by
  have hp := hc.nets; have p1 := hc.p1; have p2 := hc.p2; have p3 := hc.p3; have p4 := hc.p4
  have q2 := lose_gives165 [stateM] (s) now acts (by simp; omega)
  unfold runRet at q2
  rw [show openedS c peer s m now acts = (lostS s now, acts ++ [sendA stateM] ++ lostA s) from by rw [openedS, if_pos h1]]
  refine gives_code (F := f166) rfl rfl (W_ok 300 _ _ _ _ ?_)
  repeat' ((conv => whnf); first | refine zA ?_ | refine wAdd ?_ | refine wQuo (by decide) ?_ | refine bslP (by first | rfl | (simp [pureL, pureLL, AV.pure]; done) | fail) rfl ?_ | refine TakeC.full (by first | rfl | omega | (simp; done) | (simp; omega) | fail) ?_ | refine zBs ?_ | refine zBn ?_ | refine zBv rfl rfl ?_ | refine zN ?_ | refine zC ?_ | refine zC4 ?_ | refine zOr16 ?_ | refine zC1 ?_ | refine zByte ?_ | refine zMaxL ?_ | refine zMaxR ?_ | refine zMinL ?_ | refine zMinR ?_ | refine zShr ?_ | refine zC8 ?_ | refine zQ ?_ | refine zR ?_ | refine zS ?_ | refine zA ?_ | refine zM ?_ | refine xr rfl ?_ | refine ai rfl ?_ | refine condT ?_ | refine condF ?_ | refine condG1 ?_ | refine condG0 ?_ | refine cD ?_ | refine dD ?_ | refine cB ?_ | refine dB ?_ | refine cN ?_ | refine dN ?_ | refine cV ?_ | refine dV ?_ | refine cE ?_ | refine dE ?_ | refine condX0 ?_ | refine condX1 ?_ | refine condNot ?_ | refine condAnd ?_ | refine condOr ?_ | refine aO ?_ | refine aB ?_ | refine aR ?_ | refine aR ?_ (by simp; omega) | refine xr (by assumption) ?_ | refine ai (by assumption) ?_ | refine kV ((notify_gives145 5 0)) ?_ | refine kX [(1, _, _), (2, _, _)] [(82, _, _)] ⟨rfl, rfl, trivial⟩ ⟨rfl, pz trivial⟩ (q2) ?_ | refine condD (fun h => ?_) (fun h => ?_) | refine condB (fun h => ?_) (fun h => ?_) | refine condN (fun h => ?_) (fun h => ?_) | refine condE (fun h => ?_) (fun h => ?_) | refine condV (fun h => ?_) (fun h => ?_))
  (conv => whnf); first | refine ev_finX [(0, _, _), (1, _, _), (2, _, _)] [] [true, true, false] (Nat.succ_pos _) ⟨rfl, rfl, rfl, trivial⟩ rfl (by repeat' (first | exact trivial | rfl | refine And.intro ?_ ?_ | (simp [pureL, pureLL, AV.pure, Blk.renS, Blk.okS, Blk.okX, AV.okS, AV.okX]; done) | omega | fail)) ⟨(by first | rfl | exact (decide_eq_false (by omega)).symm), (by first | rfl | exact (decide_eq_false (by omega)).symm), (by first | rfl | exact (decide_eq_false (by omega)).symm), trivial⟩ ⟨rfl, (by repeat' (first | exact trivial | rfl | refine And.intro ?_ ?_ | (simp [pureL, pureLL, AV.pure, Blk.renS, Blk.okS, Blk.okX, AV.okS, AV.okX]; done) | omega | fail)), ?_⟩ | refine ev_finX0 [(0, _, _), (1, _, _), (2, _, _)] [] [true, true, false] (Nat.succ_pos _) ⟨rfl, rfl, rfl, trivial⟩ rfl (by repeat' (first | exact trivial | rfl | refine And.intro ?_ ?_ | (simp [pureL, pureLL, AV.pure, Blk.renS, Blk.okS, Blk.okX, AV.okS, AV.okX]; done) | omega | fail)) ⟨(by first | rfl | exact (decide_eq_false (by omega)).symm), (by first | rfl | exact (decide_eq_false (by omega)).symm), (by first | rfl | exact (decide_eq_false (by omega)).symm), trivial⟩ ⟨rfl, (by repeat' (first | exact trivial | rfl | refine And.intro ?_ ?_ | (simp [pureL, pureLL, AV.pure, Blk.renS, Blk.okS, Blk.okX, AV.okS, AV.okX]; done) | omega | fail)), ?_⟩
  rfl
theorem opened_2 (c : Conf) (hc : c.ok) (peer : Int) (m : PMsg) (h : LenO m) (s : Ses) (now : Int) (acts : List Act) (h1 : m.kind = 1) (h2 : ¬ (agreeS c peer m).2.2 = 0) (ha : acts.length < 2 ^ 28) : Gives G 166 [.ref 1 0 0, .agg c.enc, .int .i64 peer, .agg m.enc, .fn 150 [.ref 0 0 0]] [.cells [.ref 1 0 0], .cells (cellsR s now (.vs 2 0 acts.length)), .vec 28 (acts.map Act.enc)] (runRet3 (openedS c peer s m now acts) now false) := by
  have hp := hc.nets; have p1 := hc.p1; have p2 := hc.p2; have p3 := hc.p3; have p4 := hc.p4
  have o1 := agree_gives131 c hc hc.len peer m h
  unfold agreeRet at o1
  generalize hag : agreeS c peer m = x at *
  obtain ⟨t, f, e⟩ := x
  simp only at h2
  have q2 := lose_gives165 [f] (s) now acts (by simp; omega)
  unfold runRet at q2
  rw [show openedS c peer s m now acts = (lostS s now, acts ++ [sendA f] ++ lostA s) from by rw [openedS, hag, if_neg (by simp [h1]), if_pos h2]]
  refine gives_code (F := f166) rfl rfl (W_ok 300 _ _ _ _ ?_)
  repeat' ((conv => whnf); first | refine zA ?_ | refine wAdd ?_ | refine wQuo (by decide) ?_ | refine callW o1 ?_ (by simp [pureL, AV.pure, hp, p1, p2, p3, p4]) | refine bslP (by first | rfl | (simp [pureL, pureLL, AV.pure]; done) | fail) rfl ?_ | refine TakeC.full (by first | rfl | omega | (simp; done) | (simp; omega) | fail) ?_ | refine zBs ?_ | refine zBn ?_ | refine zBv rfl rfl ?_ | refine zN ?_ | refine zC ?_ | refine zC4 ?_ | refine zOr16 ?_ | refine zC1 ?_ | refine zByte ?_ | refine zMaxL ?_ | refine zMaxR ?_ | refine zMinL ?_ | refine zMinR ?_ | refine zShr ?_ | refine zC8 ?_ | refine zQ ?_ | refine zR ?_ | refine zS ?_ | refine zA ?_ | refine zM ?_ | refine xr rfl ?_ | refine ai rfl ?_ | refine condT ?_ | refine condF ?_ | refine condG1 ?_ | refine condG0 ?_ | refine cD ?_ | refine dD ?_ | refine cB ?_ | refine dB ?_ | refine cN ?_ | refine dN ?_ | refine cV ?_ | refine dV ?_ | refine cE ?_ | refine dE ?_ | refine condX0 ?_ | refine condX1 ?_ | refine condNot ?_ | refine condAnd ?_ | refine condOr ?_ | refine aO ?_ | refine aB ?_ | refine aR ?_ | refine aR ?_ (by simp; omega) | refine xr (by assumption) ?_ | refine ai (by assumption) ?_ | refine kX [(1, _, _), (2, _, _)] [(96, _, _)] ⟨rfl, rfl, trivial⟩ ⟨rfl, pz trivial⟩ (q2) ?_ | refine condD (fun h => ?_) (fun h => ?_) | refine condB (fun h => ?_) (fun h => ?_) | refine condN (fun h => ?_) (fun h => ?_) | refine condE (fun h => ?_) (fun h => ?_) | refine condV (fun h => ?_) (fun h => ?_))
  (conv => whnf); first | refine ev_finX [(0, _, _), (1, _, _), (2, _, _)] [] [true, true, false] (Nat.succ_pos _) ⟨rfl, rfl, rfl, trivial⟩ rfl (by repeat' (first | exact trivial | rfl | refine And.intro ?_ ?_ | (simp [pureL, pureLL, AV.pure, Blk.renS, Blk.okS, Blk.okX, AV.okS, AV.okX]; done) | omega | fail)) ⟨(by first | rfl | exact (decide_eq_false (by omega)).symm), (by first | rfl | exact (decide_eq_false (by omega)).symm), (by first | rfl | exact (decide_eq_false (by omega)).symm), trivial⟩ ⟨rfl, (by repeat' (first | exact trivial | rfl | refine And.intro ?_ ?_ | (simp [pureL, pureLL, AV.pure, Blk.renS, Blk.okS, Blk.okX, AV.okS, AV.okX]; done) | omega | fail)), ?_⟩ | refine ev_finX0 [(0, _, _), (1, _, _), (2, _, _)] [] [true, true, false] (Nat.succ_pos _) ⟨rfl, rfl, rfl, trivial⟩ rfl (by repeat' (first | exact trivial | rfl | refine And.intro ?_ ?_ | (simp [pureL, pureLL, AV.pure, Blk.renS, Blk.okS, Blk.okX, AV.okS, AV.okX]; done) | omega | fail)) ⟨(by first | rfl | exact (decide_eq_false (by omega)).symm), (by first | rfl | exact (decide_eq_false (by omega)).symm), (by first | rfl | exact (decide_eq_false (by omega)).symm), trivial⟩ ⟨rfl, (by repeat' (first | exact trivial | rfl | refine And.intro ?_ ?_ | (simp [pureL, pureLL, AV.pure, Blk.renS, Blk.okS, Blk.okX, AV.okS, AV.okX]; done) | omega | fail)), ?_⟩
  rfl
theorem opened_3 (c : Conf) (hc : c.ok) (peer : Int) (m : PMsg) (h : LenO m) (s : Ses) (now : Int) (acts : List Act) (h1 : m.kind = 1) (h2 : (agreeS c peer m).2.2 = 0) (h3 : ¬ (agreeS c peer m).1.holdTime = 0) (ha : acts.length < 2 ^ 28) : Gives G 166 [.ref 1 0 0, .agg c.enc, .int .i64 peer, .agg m.enc, .fn 150 [.ref 0 0 0]] [.cells [.ref 1 0 0], .cells (cellsR s now (.vs 2 0 acts.length)), .vec 28 (acts.map Act.enc)] (runRet3 (openedS c peer s m now acts) now false) := by
  have hp := hc.nets; have p1 := hc.p1; have p2 := hc.p2; have p3 := hc.p3; have p4 := hc.p4
  have o1 := agree_gives131 c hc hc.len peer m h
  unfold agreeRet at o1
  generalize hag : agreeS c peer m = x at *
  obtain ⟨t, f, e⟩ := x
  simp only at h2 h3
  have q2 := sendK_gives150 ({ t with untl := s.untl, hold := wr (now + t.holdTime), keep := wr (now + wr (t.holdTime.tdiv 3)) }) now acts (by omega)
  have b2 : (acts ++ [sendA keepM]).length < 2 ^ 28 + 2 := by simp; omega
  generalize h2 : acts ++ [sendA keepM] = A2 at *
  rw [show openedS c peer s m now acts = ({ t with untl := s.untl, hold := wr (now + t.holdTime), keep := wr (now + wr (t.holdTime.tdiv 3)) }, A2) from by subst h2; rw [openedS, hag, if_neg (by simp [h1]), if_neg (by simp [h2]), if_pos h3]]
  refine gives_code (F := f166) rfl rfl (W_ok 300 _ _ _ _ ?_)
  repeat' ((conv => whnf); first | refine zA ?_ | refine wAdd ?_ | refine wQuo (by decide) ?_ | refine callW o1 ?_ (by simp [pureL, AV.pure, hp, p1, p2, p3, p4]) | refine bslP (by first | rfl | (simp [pureL, pureLL, AV.pure]; done) | fail) rfl ?_ | refine TakeC.full (by first | rfl | omega | (simp; done) | (simp; omega) | fail) ?_ | refine zBs ?_ | refine zBn ?_ | refine zBv rfl rfl ?_ | refine zN ?_ | refine zC ?_ | refine zC4 ?_ | refine zOr16 ?_ | refine zC1 ?_ | refine zByte ?_ | refine zMaxL ?_ | refine zMaxR ?_ | refine zMinL ?_ | refine zMinR ?_ | refine zShr ?_ | refine zC8 ?_ | refine zQ ?_ | refine zR ?_ | refine zS ?_ | refine zA ?_ | refine zM ?_ | refine xr rfl ?_ | refine ai rfl ?_ | refine condT ?_ | refine condF ?_ | refine condG1 ?_ | refine condG0 ?_ | refine cD ?_ | refine dD ?_ | refine cB ?_ | refine dB ?_ | refine cN ?_ | refine dN ?_ | refine cV ?_ | refine dV ?_ | refine cE ?_ | refine dE ?_ | refine condX0 ?_ | refine condX1 ?_ | refine condNot ?_ | refine condAnd ?_ | refine condOr ?_ | refine aO ?_ | refine aB ?_ | refine aR ?_ | refine aR ?_ (by simp; omega) | refine xr (by assumption) ?_ | refine ai (by assumption) ?_ | refine kX [(0, _, _), (1, _, _), (2, _, _)] [] ⟨rfl, rfl, rfl, trivial⟩ trivial (q2) ?_ | refine condD (fun h => ?_) (fun h => ?_) | refine condB (fun h => ?_) (fun h => ?_) | refine condN (fun h => ?_) (fun h => ?_) | refine condE (fun h => ?_) (fun h => ?_) | refine condV (fun h => ?_) (fun h => ?_))
  (conv => whnf); first | refine ev_finX [(0, _, _), (1, _, _), (2, _, _)] [] [true, true, false] (Nat.succ_pos _) ⟨rfl, rfl, rfl, trivial⟩ rfl (by repeat' (first | exact trivial | rfl | refine And.intro ?_ ?_ | (simp [pureL, pureLL, AV.pure, Blk.renS, Blk.okS, Blk.okX, AV.okS, AV.okX]; done) | omega | fail)) ⟨(by first | rfl | exact (decide_eq_false (by omega)).symm), (by first | rfl | exact (decide_eq_false (by omega)).symm), (by first | rfl | exact (decide_eq_false (by omega)).symm), trivial⟩ ⟨rfl, (by repeat' (first | exact trivial | rfl | refine And.intro ?_ ?_ | (simp [pureL, pureLL, AV.pure, Blk.renS, Blk.okS, Blk.okX, AV.okS, AV.okX]; done) | omega | fail)), ?_⟩ | refine ev_finX0 [(0, _, _), (1, _, _), (2, _, _)] [] [true, true, false] (Nat.succ_pos _) ⟨rfl, rfl, rfl, trivial⟩ rfl (by repeat' (first | exact trivial | rfl | refine And.intro ?_ ?_ | (simp [pureL, pureLL, AV.pure, Blk.renS, Blk.okS, Blk.okX, AV.okS, AV.okX]; done) | omega | fail)) ⟨(by first | rfl | exact (decide_eq_false (by omega)).symm), (by first | rfl | exact (decide_eq_false (by omega)).symm), (by first | rfl | exact (decide_eq_false (by omega)).symm), trivial⟩ ⟨rfl, (by repeat' (first | exact trivial | rfl | refine And.intro ?_ ?_ | (simp [pureL, pureLL, AV.pure, Blk.renS, Blk.okS, Blk.okX, AV.okS, AV.okX]; done) | omega | fail)), ?_⟩
  rfl
theorem opened_4 (c : Conf) (hc : c.ok) (peer : Int) (m : PMsg) (h : LenO m) (s : Ses) (now : Int) (acts : List Act) (h1 : m.kind = 1) (h2 : (agreeS c peer m).2.2 = 0) (h3 : (agreeS c peer m).1.holdTime = 0) (ha : acts.length < 2 ^ 28) : Gives G 166 [.ref 1 0 0, .agg c.enc, .int .i64 peer, .agg m.enc, .fn 150 [.ref 0 0 0]] [.cells [.ref 1 0 0], .cells (cellsR s now (.vs 2 0 acts.length)), .vec 28 (acts.map Act.enc)] (runRet3 (openedS c peer s m now acts) now false) := by
  have hp := hc.nets; have p1 := hc.p1; have p2 := hc.p2; have p3 := hc.p3; have p4 := hc.p4
  have o1 := agree_gives131 c hc hc.len peer m h
  unfold agreeRet at o1
  generalize hag : agreeS c peer m = x at *
  obtain ⟨t, f, e⟩ := x
  simp only at h2 h3
  have q2 := sendK_gives150 ({ t with untl := s.untl }) now acts (by omega)
  have b2 : (acts ++ [sendA keepM]).length < 2 ^ 28 + 2 := by simp; omega
  generalize h2 : acts ++ [sendA keepM] = A2 at *
  rw [show openedS c peer s m now acts = ({ t with untl := s.untl }, A2) from by subst h2; rw [openedS, hag, if_neg (by simp [h1]), if_neg (by simp [h2]), if_neg (by simp [h3])]]
  refine gives_code (F := f166) rfl rfl (W_ok 300 _ _ _ _ ?_)
  repeat' ((conv => whnf); first | refine zA ?_ | refine wAdd ?_ | refine wQuo (by decide) ?_ | refine callW o1 ?_ (by simp [pureL, AV.pure, hp, p1, p2, p3, p4]) | refine bslP (by first | rfl | (simp [pureL, pureLL, AV.pure]; done) | fail) rfl ?_ | refine TakeC.full (by first | rfl | omega | (simp; done) | (simp; omega) | fail) ?_ | refine zBs ?_ | refine zBn ?_ | refine zBv rfl rfl ?_ | refine zN ?_ | refine zC ?_ | refine zC4 ?_ | refine zOr16 ?_ | refine zC1 ?_ | refine zByte ?_ | refine zMaxL ?_ | refine zMaxR ?_ | refine zMinL ?_ | refine zMinR ?_ | refine zShr ?_ | refine zC8 ?_ | refine zQ ?_ | refine zR ?_ | refine zS ?_ | refine zA ?_ | refine zM ?_ | refine xr rfl ?_ | refine ai rfl ?_ | refine condT ?_ | refine condF ?_ | refine condG1 ?_ | refine condG0 ?_ | refine cD ?_ | refine dD ?_ | refine cB ?_ | refine dB ?_ | refine cN ?_ | refine dN ?_ | refine cV ?_ | refine dV ?_ | refine cE ?_ | refine dE ?_ | refine condX0 ?_ | refine condX1 ?_ | refine condNot ?_ | refine condAnd ?_ | refine condOr ?_ | refine aO ?_ | refine aB ?_ | refine aR ?_ | refine aR ?_ (by simp; omega) | refine xr (by assumption) ?_ | refine ai (by assumption) ?_ | refine kX [(0, _, _), (1, _, _), (2, _, _)] [] ⟨rfl, rfl, rfl, trivial⟩ trivial (q2) ?_ | refine condD (fun h => ?_) (fun h => ?_) | refine condB (fun h => ?_) (fun h => ?_) | refine condN (fun h => ?_) (fun h => ?_) | refine condE (fun h => ?_) (fun h => ?_) | refine condV (fun h => ?_) (fun h => ?_))
  (conv => whnf); first | refine ev_finX [(0, _, _), (1, _, _), (2, _, _)] [] [true, true, false] (Nat.succ_pos _) ⟨rfl, rfl, rfl, trivial⟩ rfl (by repeat' (first | exact trivial | rfl | refine And.intro ?_ ?_ | (simp [pureL, pureLL, AV.pure, Blk.renS, Blk.okS, Blk.okX, AV.okS, AV.okX]; done) | omega | fail)) ⟨(by first | rfl | exact (decide_eq_false (by omega)).symm), (by first | rfl | exact (decide_eq_false (by omega)).symm), (by first | rfl | exact (decide_eq_false (by omega)).symm), trivial⟩ ⟨rfl, (by repeat' (first | exact trivial | rfl | refine And.intro ?_ ?_ | (simp [pureL, pureLL, AV.pure, Blk.renS, Blk.okS, Blk.okX, AV.okS, AV.okX]; done) | omega | fail)), ?_⟩ | refine ev_finX0 [(0, _, _), (1, _, _), (2, _, _)] [] [true, true, false] (Nat.succ_pos _) ⟨rfl, rfl, rfl, trivial⟩ rfl (by repeat' (first | exact trivial | rfl | refine And.intro ?_ ?_ | (simp [pureL, pureLL, AV.pure, Blk.renS, Blk.okS, Blk.okX, AV.okS, AV.okX]; done) | omega | fail)) ⟨(by first | rfl | exact (decide_eq_false (by omega)).symm), (by first | rfl | exact (decide_eq_false (by omega)).symm), (by first | rfl | exact (decide_eq_false (by omega)).symm), trivial⟩ ⟨rfl, (by repeat' (first | exact trivial | rfl | refine And.intro ?_ ?_ | (simp [pureL, pureLL, AV.pure, Blk.renS, Blk.okS, Blk.okX, AV.okS, AV.okX]; done) | omega | fail)), ?_⟩
  rfl
theorem opened_gives166 (c : Conf) (hc : c.ok) (peer : Int) (m : PMsg) (h : LenO m) (s : Ses) (now : Int) (acts : List Act) (ha : acts.length < 2 ^ 28) : Gives G 166 [.ref 1 0 0, .agg c.enc, .int .i64 peer, .agg m.enc, .fn 150 [.ref 0 0 0]] [.cells [.ref 1 0 0], .cells (cellsR s now (.vs 2 0 acts.length)), .vec 28 (acts.map Act.enc)] (runRet3 (openedS c peer s m now acts) now false) := by
  by_cases h1 : m.kind = 1
  · by_cases h2 : (agreeS c peer m).2.2 = 0
    · by_cases h3 : (agreeS c peer m).1.holdTime = 0
      · exact opened_4 c hc peer m h s now acts h1 h2 h3 ha
      · exact opened_3 c hc peer m h s now acts h1 h2 h3 ha
    · exact opened_2 c hc peer m h s now acts h1 h2 ha
  · exact opened_1 c hc peer m h s now acts h1 ha
theorem conf_gives167 (s : Ses) (m : PMsg) (now : Int) (acts : List Act) (ha : acts.length < 2 ^ 28) : Gives G 167 [.ref 0 0 0, .agg m.enc] [.cells (cellsR s now (.vs 1 0 acts.length)), .vec 28 (acts.map Act.enc)] (runRet2 (confS s m now acts) now false) := by
  by_cases h1 : m.kind = 4
  · by_cases h2 : s.untl = 0
    · exact conf_n s m now acts h1 h2 ha
    · by_cases h3 : s.restart = 0
      · exact conf_u s m now acts h1 h2 h3 ha
      · exact conf_v s m now acts h1 h2 h3 ha
  · exact conf_l s m now acts h1 ha
theorem est_gives168 (s : Ses) (m : PMsg) (hb : m.withdrawn.length < 2 ^ 40 ∧ m.reach.length < 2 ^ 40) (now : Int) (acts : List Act) (ha : acts.length < 2 ^ 28) : ∃ fl, Gives G 168 [.ref 0 0 0, .agg m.enc] [.cells (cellsR s now (.vs 1 0 acts.length)), .vec 28 (acts.map Act.enc)] (runRet2 (estS s m now acts) now fl) := by
  by_cases h1 : m.kind = 4
  · exact ⟨_, est_k s m now acts h1 ha⟩
  · by_cases h2 : m.kind = 2
    · by_cases h3 : (m.withdrawn.length : Int) + m.reach.length = 0
      · by_cases h4 : s.untl = 0
        · exact ⟨_, est_u1 s m now acts h2 hb h3 h4 ha⟩
        · exact ⟨_, est_us s m now acts h2 hb h3 h4 ha⟩
      · exact ⟨_, est_u0 s m now acts h2 hb h3 ha⟩
    · by_cases h3 : m.kind = 5
      · cases h4 : s.refresh
        · exact ⟨_, est_r0 s m now acts h3 h4 ha⟩
        · exact ⟨_, est_r1 s m now acts h3 h4 ha⟩
      · by_cases h4 : m.kind = 1
        · exact ⟨_, est_o s m now acts h4 ha⟩
        · exact ⟨_, est_x s m now acts h1 h2 h3 h4 ha⟩
end Go.AM.IR
set_option maxHeartbeats 4000000
set_option maxRecDepth 20000
namespace Go.AM.IR
mutual
theorem kS_pure {all : Bool} : ∀ {a : AV}, a.pure = true → a.kS all = []
  | .any, _ | .int _ _, _ | .bool _, _ | .str _, _ | .con _, _ => by simp [AV.kS]
  | .agg cs, h | .fn _ cs, h | .tup cs, h => by simp only [AV.kS]; exact kSL_pure (by simpa [AV.pure] using h)
  | .sl _ _, _ | .rp _, _ | .ifc _ _, _ => by simp [AV.kS]
  | .ref _ _ _, h | .er _ _ _ _, h | .vs _ _ _, h | .vw _ _ _ _, h => by simp [AV.pure] at h
theorem kSL_pure {all : Bool} : ∀ {l : List AV}, pureL l = true → kSL all l = []
  | [], _ => rfl
  | a :: r, h => by
    simp only [pureL, Bool.and_eq_true] at h
    simp only [kSL]; rw [kS_pure h.1, kSL_pure h.2]; rfl
end
mutual
theorem okX_pure {Dz Fz : Fzs} : ∀ {a : AV}, a.pure = true → a.okX Dz Fz
  | .any, _ | .int _ _, _ | .bool _, _ | .str _, _ | .con _, _ => by simp [AV.okX]
  | .agg cs, h | .fn _ cs, h | .tup cs, h => by simp only [AV.okX]; exact okXL_pure (by simpa [AV.pure] using h)
  | .sl _ _, h | .rp _, h | .ifc _ _, h => by simpa [AV.okX, AV.pure] using h
  | .ref _ _ _, h | .er _ _ _ _, h | .vs _ _ _, h | .vw _ _ _ _, h => by simp [AV.pure] at h
theorem okXL_pure {Dz Fz : Fzs} : ∀ {l : List AV}, pureL l = true → okXL Dz Fz l
  | [], _ => by simp [okXL]
  | a :: r, h => by
    simp only [pureL, Bool.and_eq_true] at h
    simp only [okXL]; exact ⟨okX_pure h.1, okXL_pure h.2⟩
end
mutual
theorem renX_pure {Dz Fz : Fzs} : ∀ {a : AV}, a.pure = true → a.renX Dz Fz = a
  | .any, _ | .int _ _, _ | .bool _, _ | .str _, _ | .con _, _ => by simp [AV.renX]
  | .agg cs, h | .fn _ cs, h | .tup cs, h => by simp only [AV.renX]; rw [renXL_pure (by simpa [AV.pure] using h)]
  | .sl _ _, h | .rp _, h | .ifc _ _, h => by simp [AV.renX]
  | .ref _ _ _, h | .er _ _ _ _, h | .vs _ _ _, h | .vw _ _ _ _, h => by simp [AV.pure] at h
theorem renXL_pure {Dz Fz : Fzs} : ∀ {l : List AV}, pureL l = true → renXL Dz Fz l = l
  | [], _ => by simp [renXL]
  | a :: r, h => by
    simp only [pureL, Bool.and_eq_true] at h
    simp only [renXL]; rw [renX_pure h.1, renXL_pure h.2]
end
def extL (hp : Heap) (D : List Nat) : List Nat := match D with | [] => [] | D => dedup ((D ++ contS hp D) ++ contS hp (D ++ contS hp D))
theorem extS_of {hp : Heap} {raw : Bool} {args : List AV} {D R : List Nat} (hk : kSL raw args = D) (h : extL hp D = R) : extS hp raw args = R := by
  subst hk; exact h
theorem filt_of {args : List AV} {D : List Nat} {p : Nat → Bool} {R : List Nat} (hk : kSL true args = D) (h : D.filter p = R) : (kSL true args).filter p = R := by rw [hk]; exact h
section
variable {G : Nat → Fun} {hp : Heap} {f : Nat} {args : List AV} {g dst : Nat} {E : Prop} {k : Eff → Prop} {r : AV} {R : List (Bool × Blk)}
theorem kXp (Dz : Fzs) (args' : List AV) (D : List Nat) (hD : AtOk hp Dz) (hG : Gives G f args' (bX Dz [] Dz) ⟨r, R⟩)
    (h : fA (r.renS (ψX (keysX Dz dst 0 R) (gensX Dz R g))) fun r' => fW (wS (ψX (keysX Dz dst 0 R) (gensX Dz R g)) (keysX Dz dst 0 R) (gensX Dz R g) R) fun w' => k { res := r', wr := w' ++ dropW [], rd := [] ++ Dz.map (·.1) })
    (hr : renXL Dz [] args = args') (hok : okXL Dz [] args) (hk1 : kSL (G f).raw args = D) (hk2 : kSL true args = D) (hne : D ≠ [])
    (hE : extL hp D = Dz.map (·.1) := by rfl) (hK : D.filter (fun k => !(Dz.map (·.1)).contains k) = [] := by rfl)
    (hbok : bokX Dz [] Dz := by repeat' (first | exact trivial | rfl | refine And.intro ?_ ?_ | (simp [pureL, pureLL, AV.pure, Blk.renS, Blk.okS, Blk.okX, AV.okS, AV.okX]; done) | omega | fail))
    (hd : (R.isEmpty && r.dry) = false := by rfl) (hl : Nat.ble Dz.length R.length = true := by rfl) (hn : nodupB (keysX Dz dst 0 R) = true := by rfl)
    (hro : r.okS := by repeat' (first | exact trivial | rfl | refine And.intro ?_ ?_ | (simp [pureL, pureLL, AV.pure, Blk.renS, Blk.okS, Blk.okX, AV.okS, AV.okX]; done) | omega | fail))
    (hRo : bokS R := by repeat' (first | exact trivial | rfl | refine And.intro ?_ ?_ | (simp [pureL, pureLL, AV.pure, Blk.renS, Blk.okS, Blk.okX, AV.okS, AV.okX]; done) | omega | fail)) : CallG G hp f args g dst E k := by
  subst hr
  exact callX Dz [] hD trivial (extS_of hk1 hE) (filt_of hk2 hK) (by rw [hk2]; exact hne) hok hbok hG hd hl hn hro hRo h
end
end Go.AM.IR
set_option maxHeartbeats 4000000
set_option maxRecDepth 20000
namespace Go.AM.IR
attribute [local simp] pureLL_bytes
def dataS (c : Conf) (peer : Int) (s : Ses) (m : PMsg) (er now : Int) (acts : List Act) : Ses × List Act :=
  if s.state < 2 ∨ s.state > 4 then (s, acts)
  else if er ≠ 0 then (if m = zeroM then (lostS s now, acts ++ lostA s) else (lostS s now, acts ++ [sendA m] ++ lostA s))
  else if m.kind = 3 then (lostS s now, acts ++ lostA s)
  else if s.state = 2 then openedS c peer s m now acts else if s.state = 3 then confS s m now acts else estS s m now acts
theorem loseN_gives165 (s : Ses) (now : Int) (acts : List Act) (hA : acts.length < 2 ^ 29) : Gives G 165 [.ref 0 0 0, .con (.slice none 0 0)] [.cells (cellsR s now (.vs 1 0 acts.length)), .vec 28 (acts.map Act.enc)] (runRet (lostS s now) now (acts ++ lostA s)) := by
  have h := lose_gives165 [] s now acts (by simpa using hA)
  simp only [List.map_nil, List.append_nil] at h
  exact gives_le rfl h ⟨.refl _, LeP.nil 27, trivial⟩
theorem sameZ_gives156 (m : PMsg) (h : LenM m) : Gives G 156 [.agg m.enc, .agg [.int .i64 0, .int .i64 0, .int .i64 0, .int .i64 0, .int .u32 0, nilV, nilV, .int .i64 0, nilV, .int .u32 0, .bool false, .int .i64 0, .bool false, .int .i64 0, .bool false, .bool false, .int .i64 0, .int .u32 0, nilV, .bool false, .int .u32 0, nilV, nilV, nilV, .int .i64 0, .int .i64 0, nilV]] [] ⟨.bool (decide (m = zeroM)), []⟩ :=
  gives_le rfl (same_gives156 m zeroM h lenM_zero) ⟨.refl _, LeP.agg (by repeat' (first | exact trivial | exact LeP.refl _ | exact LeP.nil _ | refine LeP.sl ?_ | refine ⟨?_, ?_⟩)), trivial⟩
theorem data_a (c : Conf) (hc : c.ok) (peer : Int) (m : PMsg) (h : LenO m) (s : Ses) (er now : Int) (acts : List Act) (h1 : s.state < 2) (ha : acts.length < 2 ^ 28) : Gives G 155 [.ref 1 0 0, .agg c.enc, .int .i64 peer, .agg m.enc, .int .i64 er, .fn 150 [.ref 0 0 0]] [.cells [.ref 1 0 0], .cells (cellsR s now (.vs 2 0 acts.length)), .vec 28 (acts.map Act.enc)] (runRet3 (dataS c peer s m er now acts) now true) := by
  have hp := hc.nets; have p1 := hc.p1; have p2 := hc.p2; have p3 := hc.p3; have p4 := hc.p4
  rw [show dataS c peer s m er now acts = (s, acts) from by rw [dataS, if_pos (Or.inl h1)]]
  refine gives_code (F := f155) rfl rfl (W_ok 300 _ _ _ _ ?_)
  repeat' ((conv => whnf); first | refine bslP (by first | rfl | (simp [pureL, pureLL, AV.pure]; done) | fail) rfl ?_ | refine TakeC.full (by first | rfl | omega | (simp; done) | (simp; omega) | fail) ?_ | refine zBs ?_ | refine zBn ?_ | refine zBv rfl rfl ?_ | refine zN ?_ | refine zC ?_ | refine zC4 ?_ | refine zOr16 ?_ | refine zC1 ?_ | refine zByte ?_ | refine zMaxL ?_ | refine zMaxR ?_ | refine zMinL ?_ | refine zMinR ?_ | refine zShr ?_ | refine zC8 ?_ | refine zQ ?_ | refine zR ?_ | refine zS ?_ | refine zA ?_ | refine zM ?_ | refine xr rfl ?_ | refine ai rfl ?_ | refine condT ?_ | refine condF ?_ | refine condG1 ?_ | refine condG0 ?_ | refine cD ?_ | refine dD ?_ | refine cB ?_ | refine dB ?_ | refine cN ?_ | refine dN ?_ | refine cV ?_ | refine dV ?_ | refine cE ?_ | refine dE ?_ | refine condX0 ?_ | refine condX1 ?_ | refine condNot ?_ | refine condAnd ?_ | refine condOr ?_ | refine aO ?_ | refine aB ?_ | refine aR ?_ | refine aR ?_ (by simp; omega) | refine xr (by assumption) ?_ | refine ai (by assumption) ?_ | refine condD (fun h => ?_) (fun h => ?_) | refine condB (fun h => ?_) (fun h => ?_) | refine condN (fun h => ?_) (fun h => ?_) | refine condE (fun h => ?_) (fun h => ?_) | refine condV (fun h => ?_) (fun h => ?_))
  (conv => whnf); first | refine ev_finX [(0, _, _), (1, _, _), (2, _, _)] [] [true, true, true] (Nat.succ_pos _) ⟨rfl, rfl, rfl, trivial⟩ rfl (by repeat' (first | exact trivial | rfl | refine And.intro ?_ ?_ | (simp [pureL, pureLL, AV.pure, Blk.renS, Blk.okS, Blk.okX, AV.okS, AV.okX]; done) | omega | fail)) ⟨(by first | rfl | exact (decide_eq_false (by omega)).symm), (by first | rfl | exact (decide_eq_false (by omega)).symm), (by first | rfl | exact (decide_eq_false (by omega)).symm), trivial⟩ ⟨rfl, (by repeat' (first | exact trivial | rfl | refine And.intro ?_ ?_ | (simp [pureL, pureLL, AV.pure, Blk.renS, Blk.okS, Blk.okX, AV.okS, AV.okX]; done) | omega | fail)), ?_⟩ | refine ev_finX0 [(0, _, _), (1, _, _), (2, _, _)] [] [true, true, true] (Nat.succ_pos _) ⟨rfl, rfl, rfl, trivial⟩ rfl (by repeat' (first | exact trivial | rfl | refine And.intro ?_ ?_ | (simp [pureL, pureLL, AV.pure, Blk.renS, Blk.okS, Blk.okX, AV.okS, AV.okX]; done) | omega | fail)) ⟨(by first | rfl | exact (decide_eq_false (by omega)).symm), (by first | rfl | exact (decide_eq_false (by omega)).symm), (by first | rfl | exact (decide_eq_false (by omega)).symm), trivial⟩ ⟨rfl, (by repeat' (first | exact trivial | rfl | refine And.intro ?_ ?_ | (simp [pureL, pureLL, AV.pure, Blk.renS, Blk.okS, Blk.okX, AV.okS, AV.okX]; done) | omega | fail)), ?_⟩
  rfl
theorem data_b (c : Conf) (hc : c.ok) (peer : Int) (m : PMsg) (h : LenO m) (s : Ses) (er now : Int) (acts : List Act) (h1 : s.state > 4) (ha : acts.length < 2 ^ 28) : Gives G 155 [.ref 1 0 0, .agg c.enc, .int .i64 peer, .agg m.enc, .int .i64 er, .fn 150 [.ref 0 0 0]] [.cells [.ref 1 0 0], .cells (cellsR s now (.vs 2 0 acts.length)), .vec 28 (acts.map Act.enc)] (runRet3 (dataS c peer s m er now acts) now true) := by
  have hp := hc.nets; have p1 := hc.p1; have p2 := hc.p2; have p3 := hc.p3; have p4 := hc.p4
  rw [show dataS c peer s m er now acts = (s, acts) from by rw [dataS, if_pos (Or.inr h1)]]
  refine gives_code (F := f155) rfl rfl (W_ok 300 _ _ _ _ ?_)
  repeat' ((conv => whnf); first | refine bslP (by first | rfl | (simp [pureL, pureLL, AV.pure]; done) | fail) rfl ?_ | refine TakeC.full (by first | rfl | omega | (simp; done) | (simp; omega) | fail) ?_ | refine zBs ?_ | refine zBn ?_ | refine zBv rfl rfl ?_ | refine zN ?_ | refine zC ?_ | refine zC4 ?_ | refine zOr16 ?_ | refine zC1 ?_ | refine zByte ?_ | refine zMaxL ?_ | refine zMaxR ?_ | refine zMinL ?_ | refine zMinR ?_ | refine zShr ?_ | refine zC8 ?_ | refine zQ ?_ | refine zR ?_ | refine zS ?_ | refine zA ?_ | refine zM ?_ | refine xr rfl ?_ | refine ai rfl ?_ | refine condT ?_ | refine condF ?_ | refine condG1 ?_ | refine condG0 ?_ | refine cD ?_ | refine dD ?_ | refine cB ?_ | refine dB ?_ | refine cN ?_ | refine dN ?_ | refine cV ?_ | refine dV ?_ | refine cE ?_ | refine dE ?_ | refine condX0 ?_ | refine condX1 ?_ | refine condNot ?_ | refine condAnd ?_ | refine condOr ?_ | refine aO ?_ | refine aB ?_ | refine aR ?_ | refine aR ?_ (by simp; omega) | refine xr (by assumption) ?_ | refine ai (by assumption) ?_ | refine condD (fun h => ?_) (fun h => ?_) | refine condB (fun h => ?_) (fun h => ?_) | refine condN (fun h => ?_) (fun h => ?_) | refine condE (fun h => ?_) (fun h => ?_) | refine condV (fun h => ?_) (fun h => ?_))
  (conv => whnf); first | refine ev_finX [(0, _, _), (1, _, _), (2, _, _)] [] [true, true, true] (Nat.succ_pos _) ⟨rfl, rfl, rfl, trivial⟩ rfl (by repeat' (first | exact trivial | rfl | refine And.intro ?_ ?_ | (simp [pureL, pureLL, AV.pure, Blk.renS, Blk.okS, Blk.okX, AV.okS, AV.okX]; done) | omega | fail)) ⟨(by first | rfl | exact (decide_eq_false (by omega)).symm), (by first | rfl | exact (decide_eq_false (by omega)).symm), (by first | rfl | exact (decide_eq_false (by omega)).symm), trivial⟩ ⟨rfl, (by repeat' (first | exact trivial | rfl | refine And.intro ?_ ?_ | (simp [pureL, pureLL, AV.pure, Blk.renS, Blk.okS, Blk.okX, AV.okS, AV.okX]; done) | omega | fail)), ?_⟩ | refine ev_finX0 [(0, _, _), (1, _, _), (2, _, _)] [] [true, true, true] (Nat.succ_pos _) ⟨rfl, rfl, rfl, trivial⟩ rfl (by repeat' (first | exact trivial | rfl | refine And.intro ?_ ?_ | (simp [pureL, pureLL, AV.pure, Blk.renS, Blk.okS, Blk.okX, AV.okS, AV.okX]; done) | omega | fail)) ⟨(by first | rfl | exact (decide_eq_false (by omega)).symm), (by first | rfl | exact (decide_eq_false (by omega)).symm), (by first | rfl | exact (decide_eq_false (by omega)).symm), trivial⟩ ⟨rfl, (by repeat' (first | exact trivial | rfl | refine And.intro ?_ ?_ | (simp [pureL, pureLL, AV.pure, Blk.renS, Blk.okS, Blk.okX, AV.okS, AV.okX]; done) | omega | fail)), ?_⟩
  rfl
theorem data_c (c : Conf) (hc : c.ok) (peer : Int) (m : PMsg) (h : LenO m) (s : Ses) (er now : Int) (acts : List Act) (h1 : 2 ≤ s.state) (h2 : s.state ≤ 4) (h3 : ¬ er = 0) (h4 : m = zeroM) (ha : acts.length < 2 ^ 28) : Gives G 155 [.ref 1 0 0, .agg c.enc, .int .i64 peer, .agg m.enc, .int .i64 er, .fn 150 [.ref 0 0 0]] [.cells [.ref 1 0 0], .cells (cellsR s now (.vs 2 0 acts.length)), .vec 28 (acts.map Act.enc)] (runRet3 (dataS c peer s m er now acts) now false) := by
  have hp := hc.nets; have p1 := hc.p1; have p2 := hc.p2; have p3 := hc.p3; have p4 := hc.p4
  have z1 := sameZ_gives156 m h.len
  unfold nilV at z1
  rw [show decide (m = zeroM) = true from by simp [h4]] at z1
  have l1 := loseN_gives165 s now acts (by omega)
  unfold runRet at l1
  rw [show dataS c peer s m er now acts = (lostS s now, acts ++ lostA s) from by rw [dataS, if_neg (by omega), if_pos h3, if_pos h4]]
  refine gives_code (F := f155) rfl rfl (W_ok 300 _ _ _ _ ?_)
  repeat' ((conv => whnf); first | refine zA ?_ | refine bslP (by first | rfl | (simp [pureL, pureLL, AV.pure]; done) | fail) rfl ?_ | refine TakeC.full (by first | rfl | omega | (simp; done) | (simp; omega) | fail) ?_ | refine zBs ?_ | refine zBn ?_ | refine zBv rfl rfl ?_ | refine zN ?_ | refine zC ?_ | refine zC4 ?_ | refine zOr16 ?_ | refine zC1 ?_ | refine zByte ?_ | refine zMaxL ?_ | refine zMaxR ?_ | refine zMinL ?_ | refine zMinR ?_ | refine zShr ?_ | refine zC8 ?_ | refine zQ ?_ | refine zR ?_ | refine zS ?_ | refine zA ?_ | refine zM ?_ | refine xr rfl ?_ | refine ai rfl ?_ | refine condT ?_ | refine condF ?_ | refine condG1 ?_ | refine condG0 ?_ | refine cD ?_ | refine dD ?_ | refine cB ?_ | refine dB ?_ | refine cN ?_ | refine dN ?_ | refine cV ?_ | refine dV ?_ | refine cE ?_ | refine dE ?_ | refine condX0 ?_ | refine condX1 ?_ | refine condNot ?_ | refine condAnd ?_ | refine condOr ?_ | refine aO ?_ | refine aB ?_ | refine aR ?_ | refine aR ?_ (by simp; omega) | refine xr (by assumption) ?_ | refine ai (by assumption) ?_ | refine kV (z1) ?_ | refine kX [(1, _, _), (2, _, _)] [] ⟨rfl, rfl, trivial⟩ trivial (l1) ?_ | refine condD (fun h => ?_) (fun h => ?_) | refine condB (fun h => ?_) (fun h => ?_) | refine condN (fun h => ?_) (fun h => ?_) | refine condE (fun h => ?_) (fun h => ?_) | refine condV (fun h => ?_) (fun h => ?_))
  (conv => whnf); first | refine ev_finX [(0, _, _), (1, _, _), (2, _, _)] [] [true, true, false] (Nat.succ_pos _) ⟨rfl, rfl, rfl, trivial⟩ rfl (by repeat' (first | exact trivial | rfl | refine And.intro ?_ ?_ | (simp [pureL, pureLL, AV.pure, Blk.renS, Blk.okS, Blk.okX, AV.okS, AV.okX]; done) | omega | fail)) ⟨(by first | rfl | exact (decide_eq_false (by omega)).symm), (by first | rfl | exact (decide_eq_false (by omega)).symm), (by first | rfl | exact (decide_eq_false (by omega)).symm), trivial⟩ ⟨rfl, (by repeat' (first | exact trivial | rfl | refine And.intro ?_ ?_ | (simp [pureL, pureLL, AV.pure, Blk.renS, Blk.okS, Blk.okX, AV.okS, AV.okX]; done) | omega | fail)), ?_⟩ | refine ev_finX0 [(0, _, _), (1, _, _), (2, _, _)] [] [true, true, false] (Nat.succ_pos _) ⟨rfl, rfl, rfl, trivial⟩ rfl (by repeat' (first | exact trivial | rfl | refine And.intro ?_ ?_ | (simp [pureL, pureLL, AV.pure, Blk.renS, Blk.okS, Blk.okX, AV.okS, AV.okX]; done) | omega | fail)) ⟨(by first | rfl | exact (decide_eq_false (by omega)).symm), (by first | rfl | exact (decide_eq_false (by omega)).symm), (by first | rfl | exact (decide_eq_false (by omega)).symm), trivial⟩ ⟨rfl, (by repeat' (first | exact trivial | rfl | refine And.intro ?_ ?_ | (simp [pureL, pureLL, AV.pure, Blk.renS, Blk.okS, Blk.okX, AV.okS, AV.okX]; done) | omega | fail)), ?_⟩
  rfl
theorem data_d (c : Conf) (hc : c.ok) (peer : Int) (m : PMsg) (h : LenO m) (s : Ses) (er now : Int) (acts : List Act) (h1 : 2 ≤ s.state) (h2 : s.state ≤ 4) (h3 : ¬ er = 0) (h4 : ¬ m = zeroM) (ha : acts.length < 2 ^ 28) : Gives G 155 [.ref 1 0 0, .agg c.enc, .int .i64 peer, .agg m.enc, .int .i64 er, .fn 150 [.ref 0 0 0]] [.cells [.ref 1 0 0], .cells (cellsR s now (.vs 2 0 acts.length)), .vec 28 (acts.map Act.enc)] (runRet3 (dataS c peer s m er now acts) now false) := by
  have hp := hc.nets; have p1 := hc.p1; have p2 := hc.p2; have p3 := hc.p3; have p4 := hc.p4
  have z1 := sameZ_gives156 m h.len
  unfold nilV at z1
  rw [show decide (m = zeroM) = false from by simp [h4]] at z1
  have l1 := lose_gives165 [m] s now acts (by simp; omega)
  unfold runRet at l1
  rw [show dataS c peer s m er now acts = (lostS s now, acts ++ [sendA m] ++ lostA s) from by rw [dataS, if_neg (by omega), if_pos h3, if_neg h4]]
  refine gives_code (F := f155) rfl rfl (W_ok 300 _ _ _ _ ?_)
  repeat' ((conv => whnf); first | refine zA ?_ | refine bslP (by first | rfl | (simp [pureL, pureLL, AV.pure]; done) | fail) rfl ?_ | refine TakeC.full (by first | rfl | omega | (simp; done) | (simp; omega) | fail) ?_ | refine zBs ?_ | refine zBn ?_ | refine zBv rfl rfl ?_ | refine zN ?_ | refine zC ?_ | refine zC4 ?_ | refine zOr16 ?_ | refine zC1 ?_ | refine zByte ?_ | refine zMaxL ?_ | refine zMaxR ?_ | refine zMinL ?_ | refine zMinR ?_ | refine zShr ?_ | refine zC8 ?_ | refine zQ ?_ | refine zR ?_ | refine zS ?_ | refine zA ?_ | refine zM ?_ | refine xr rfl ?_ | refine ai rfl ?_ | refine condT ?_ | refine condF ?_ | refine condG1 ?_ | refine condG0 ?_ | refine cD ?_ | refine dD ?_ | refine cB ?_ | refine dB ?_ | refine cN ?_ | refine dN ?_ | refine cV ?_ | refine dV ?_ | refine cE ?_ | refine dE ?_ | refine condX0 ?_ | refine condX1 ?_ | refine condNot ?_ | refine condAnd ?_ | refine condOr ?_ | refine aO ?_ | refine aB ?_ | refine aR ?_ | refine aR ?_ (by simp; omega) | refine xr (by assumption) ?_ | refine ai (by assumption) ?_ | refine kV (z1) ?_ | refine kX [(1, _, _), (2, _, _)] [(109, _, _)] ⟨rfl, rfl, trivial⟩ ⟨rfl, pz trivial⟩ (l1) ?_ | refine condD (fun h => ?_) (fun h => ?_) | refine condB (fun h => ?_) (fun h => ?_) | refine condN (fun h => ?_) (fun h => ?_) | refine condE (fun h => ?_) (fun h => ?_) | refine condV (fun h => ?_) (fun h => ?_))
  (conv => whnf); first | refine ev_finX [(0, _, _), (1, _, _), (2, _, _)] [] [true, true, false] (Nat.succ_pos _) ⟨rfl, rfl, rfl, trivial⟩ rfl (by repeat' (first | exact trivial | rfl | refine And.intro ?_ ?_ | (simp [pureL, pureLL, AV.pure, Blk.renS, Blk.okS, Blk.okX, AV.okS, AV.okX]; done) | omega | fail)) ⟨(by first | rfl | exact (decide_eq_false (by omega)).symm), (by first | rfl | exact (decide_eq_false (by omega)).symm), (by first | rfl | exact (decide_eq_false (by omega)).symm), trivial⟩ ⟨rfl, (by repeat' (first | exact trivial | rfl | refine And.intro ?_ ?_ | (simp [pureL, pureLL, AV.pure, Blk.renS, Blk.okS, Blk.okX, AV.okS, AV.okX]; done) | omega | fail)), ?_⟩ | refine ev_finX0 [(0, _, _), (1, _, _), (2, _, _)] [] [true, true, false] (Nat.succ_pos _) ⟨rfl, rfl, rfl, trivial⟩ rfl (by repeat' (first | exact trivial | rfl | refine And.intro ?_ ?_ | (simp [pureL, pureLL, AV.pure, Blk.renS, Blk.okS, Blk.okX, AV.okS, AV.okX]; done) | omega | fail)) ⟨(by first | rfl | exact (decide_eq_false (by omega)).symm), (by first | rfl | exact (decide_eq_false (by omega)).symm), (by first | rfl | exact (decide_eq_false (by omega)).symm), trivial⟩ ⟨rfl, (by repeat' (first | exact trivial | rfl | refine And.intro ?_ ?_ | (simp [pureL, pureLL, AV.pure, Blk.renS, Blk.okS, Blk.okX, AV.okS, AV.okX]; done) | omega | fail)), ?_⟩
  rfl
theorem data_e (c : Conf) (hc : c.ok) (peer : Int) (m : PMsg) (h : LenO m) (s : Ses) (er now : Int) (acts : List Act) (h1 : 2 ≤ s.state) (h2 : s.state ≤ 4)(h3 : er = 0) (h4 : m.kind = 3) (ha : acts.length < 2 ^ 28) : Gives G 155 [.ref 1 0 0, .agg c.enc, .int .i64 peer, .agg m.enc, .int .i64 er, .fn 150 [.ref 0 0 0]] [.cells [.ref 1 0 0], .cells (cellsR s now (.vs 2 0 acts.length)), .vec 28 (acts.map Act.enc)] (runRet3 (dataS c peer s m er now acts) now false) := by
  have hp := hc.nets; have p1 := hc.p1; have p2 := hc.p2; have p3 := hc.p3; have p4 := hc.p4
  have l1 := loseN_gives165 s now acts (by omega)
  unfold runRet at l1
  rw [show dataS c peer s m er now acts = (lostS s now, acts ++ lostA s) from by rw [dataS, if_neg (by omega), if_neg (by omega), if_pos h4]]
  refine gives_code (F := f155) rfl rfl (W_ok 300 _ _ _ _ ?_)
  repeat' ((conv => whnf); first | refine zA ?_ | refine bslP (by first | rfl | (simp [pureL, pureLL, AV.pure]; done) | fail) rfl ?_ | refine TakeC.full (by first | rfl | omega | (simp; done) | (simp; omega) | fail) ?_ | refine zBs ?_ | refine zBn ?_ | refine zBv rfl rfl ?_ | refine zN ?_ | refine zC ?_ | refine zC4 ?_ | refine zOr16 ?_ | refine zC1 ?_ | refine zByte ?_ | refine zMaxL ?_ | refine zMaxR ?_ | refine zMinL ?_ | refine zMinR ?_ | refine zShr ?_ | refine zC8 ?_ | refine zQ ?_ | refine zR ?_ | refine zS ?_ | refine zA ?_ | refine zM ?_ | refine xr rfl ?_ | refine ai rfl ?_ | refine condT ?_ | refine condF ?_ | refine condG1 ?_ | refine condG0 ?_ | refine cD ?_ | refine dD ?_ | refine cB ?_ | refine dB ?_ | refine cN ?_ | refine dN ?_ | refine cV ?_ | refine dV ?_ | refine cE ?_ | refine dE ?_ | refine condX0 ?_ | refine condX1 ?_ | refine condNot ?_ | refine condAnd ?_ | refine condOr ?_ | refine aO ?_ | refine aB ?_ | refine aR ?_ | refine aR ?_ (by simp; omega) | refine xr (by assumption) ?_ | refine ai (by assumption) ?_ | refine kX [(1, _, _), (2, _, _)] [] ⟨rfl, rfl, trivial⟩ trivial (l1) ?_ | refine condD (fun h => ?_) (fun h => ?_) | refine condB (fun h => ?_) (fun h => ?_) | refine condN (fun h => ?_) (fun h => ?_) | refine condE (fun h => ?_) (fun h => ?_) | refine condV (fun h => ?_) (fun h => ?_))
  (conv => whnf); first | refine ev_finX [(0, _, _), (1, _, _), (2, _, _)] [] [true, true, false] (Nat.succ_pos _) ⟨rfl, rfl, rfl, trivial⟩ rfl (by repeat' (first | exact trivial | rfl | refine And.intro ?_ ?_ | (simp [pureL, pureLL, AV.pure, Blk.renS, Blk.okS, Blk.okX, AV.okS, AV.okX]; done) | omega | fail)) ⟨(by first | rfl | exact (decide_eq_false (by omega)).symm), (by first | rfl | exact (decide_eq_false (by omega)).symm), (by first | rfl | exact (decide_eq_false (by omega)).symm), trivial⟩ ⟨rfl, (by repeat' (first | exact trivial | rfl | refine And.intro ?_ ?_ | (simp [pureL, pureLL, AV.pure, Blk.renS, Blk.okS, Blk.okX, AV.okS, AV.okX]; done) | omega | fail)), ?_⟩ | refine ev_finX0 [(0, _, _), (1, _, _), (2, _, _)] [] [true, true, false] (Nat.succ_pos _) ⟨rfl, rfl, rfl, trivial⟩ rfl (by repeat' (first | exact trivial | rfl | refine And.intro ?_ ?_ | (simp [pureL, pureLL, AV.pure, Blk.renS, Blk.okS, Blk.okX, AV.okS, AV.okX]; done) | omega | fail)) ⟨(by first | rfl | exact (decide_eq_false (by omega)).symm), (by first | rfl | exact (decide_eq_false (by omega)).symm), (by first | rfl | exact (decide_eq_false (by omega)).symm), trivial⟩ ⟨rfl, (by repeat' (first | exact trivial | rfl | refine And.intro ?_ ?_ | (simp [pureL, pureLL, AV.pure, Blk.renS, Blk.okS, Blk.okX, AV.okS, AV.okX]; done) | omega | fail)), ?_⟩
  rfl
theorem data_f (c : Conf) (hc : c.ok) (peer : Int) (m : PMsg) (h : LenO m) (s : Ses) (er now : Int) (acts : List Act) (h1 : s.state = 2)(h3 : er = 0) (h4 : ¬ m.kind = 3) (ha : acts.length < 2 ^ 28) : Gives G 155 [.ref 1 0 0, .agg c.enc, .int .i64 peer, .agg m.enc, .int .i64 er, .fn 150 [.ref 0 0 0]] [.cells [.ref 1 0 0], .cells (cellsR s now (.vs 2 0 acts.length)), .vec 28 (acts.map Act.enc)] (runRet3 (dataS c peer s m er now acts) now false) := by
  have hp := hc.nets; have p1 := hc.p1; have p2 := hc.p2; have p3 := hc.p3; have p4 := hc.p4
  have l1 := opened_gives166 c hc peer m h s now acts ha
  unfold runRet3 at l1
  rw [show dataS c peer s m er now acts = openedS c peer s m now acts from by rw [dataS, if_neg (by omega), if_neg (by omega), if_neg (by omega), if_pos h1]]
  refine gives_code (F := f155) rfl rfl (W_ok 300 _ _ _ _ ?_)
  repeat' ((conv => whnf); first | refine zA ?_ | refine kXp [(0, _, _), (1, _, _), (2, _, _)] _ [1, 0] ⟨rfl, rfl, rfl, trivial⟩ l1 ?_ (by simp [renXL, AV.renX, renX_pure hp, renX_pure p1, renX_pure p2, renX_pure p3, renX_pure p4, Conf.enc, PMsg.enc, zidx, show Nat.beq 0 1 = false from rfl, show Nat.beq 1 0 = false from rfl]) (by simp [okXL, AV.okX, okX_pure hp, okX_pure p1, okX_pure p2, okX_pure p3, okX_pure p4, pureLL_bytes, zidx]) (by simp [kSL, AV.kS, kS_pure hp, kS_pure p1, kS_pure p2, kS_pure p3, kS_pure p4]) (by simp [kSL, AV.kS, kS_pure hp, kS_pure p1, kS_pure p2, kS_pure p3, kS_pure p4]) (by simp) | refine bslP (by first | rfl | (simp [pureL, pureLL, AV.pure]; done) | fail) rfl ?_ | refine TakeC.full (by first | rfl | omega | (simp; done) | (simp; omega) | fail) ?_ | refine zBs ?_ | refine zBn ?_ | refine zBv rfl rfl ?_ | refine zN ?_ | refine zC ?_ | refine zC4 ?_ | refine zOr16 ?_ | refine zC1 ?_ | refine zByte ?_ | refine zMaxL ?_ | refine zMaxR ?_ | refine zMinL ?_ | refine zMinR ?_ | refine zShr ?_ | refine zC8 ?_ | refine zQ ?_ | refine zR ?_ | refine zS ?_ | refine zA ?_ | refine zM ?_ | refine xr rfl ?_ | refine ai rfl ?_ | refine condT ?_ | refine condF ?_ | refine condG1 ?_ | refine condG0 ?_ | refine cD ?_ | refine dD ?_ | refine cB ?_ | refine dB ?_ | refine cN ?_ | refine dN ?_ | refine cV ?_ | refine dV ?_ | refine cE ?_ | refine dE ?_ | refine condX0 ?_ | refine condX1 ?_ | refine condNot ?_ | refine condAnd ?_ | refine condOr ?_ | refine aO ?_ | refine aB ?_ | refine aR ?_ | refine aR ?_ (by simp; omega) | refine xr (by assumption) ?_ | refine ai (by assumption) ?_ | refine condD (fun h => ?_) (fun h => ?_) | refine condB (fun h => ?_) (fun h => ?_) | refine condN (fun h => ?_) (fun h => ?_) | refine condE (fun h => ?_) (fun h => ?_) | refine condV (fun h => ?_) (fun h => ?_))
  (conv => whnf); first | refine ev_finX [(0, _, _), (1, _, _), (2, _, _)] [] [true, true, false] (Nat.succ_pos _) ⟨rfl, rfl, rfl, trivial⟩ rfl (by repeat' (first | exact trivial | rfl | refine And.intro ?_ ?_ | (simp [pureL, pureLL, AV.pure, Blk.renS, Blk.okS, Blk.okX, AV.okS, AV.okX]; done) | omega | fail)) ⟨(by first | rfl | exact (decide_eq_false (by omega)).symm), (by first | rfl | exact (decide_eq_false (by omega)).symm), (by first | rfl | exact (decide_eq_false (by omega)).symm), trivial⟩ ⟨rfl, (by repeat' (first | exact trivial | rfl | refine And.intro ?_ ?_ | (simp [pureL, pureLL, AV.pure, Blk.renS, Blk.okS, Blk.okX, AV.okS, AV.okX]; done) | omega | fail)), ?_⟩ | refine ev_finX0 [(0, _, _), (1, _, _), (2, _, _)] [] [true, true, false] (Nat.succ_pos _) ⟨rfl, rfl, rfl, trivial⟩ rfl (by repeat' (first | exact trivial | rfl | refine And.intro ?_ ?_ | (simp [pureL, pureLL, AV.pure, Blk.renS, Blk.okS, Blk.okX, AV.okS, AV.okX]; done) | omega | fail)) ⟨(by first | rfl | exact (decide_eq_false (by omega)).symm), (by first | rfl | exact (decide_eq_false (by omega)).symm), (by first | rfl | exact (decide_eq_false (by omega)).symm), trivial⟩ ⟨rfl, (by repeat' (first | exact trivial | rfl | refine And.intro ?_ ?_ | (simp [pureL, pureLL, AV.pure, Blk.renS, Blk.okS, Blk.okX, AV.okS, AV.okX]; done) | omega | fail)), ?_⟩
  rfl
theorem data_g (c : Conf) (hc : c.ok) (peer : Int) (m : PMsg) (h : LenO m) (s : Ses) (er now : Int) (acts : List Act) (h1 : s.state = 3)(h3 : er = 0) (h4 : ¬ m.kind = 3) (ha : acts.length < 2 ^ 28) : Gives G 155 [.ref 1 0 0, .agg c.enc, .int .i64 peer, .agg m.enc, .int .i64 er, .fn 150 [.ref 0 0 0]] [.cells [.ref 1 0 0], .cells (cellsR s now (.vs 2 0 acts.length)), .vec 28 (acts.map Act.enc)] (runRet3 (dataS c peer s m er now acts) now false) := by
  have hp := hc.nets; have p1 := hc.p1; have p2 := hc.p2; have p3 := hc.p3; have p4 := hc.p4
  have l1 := conf_gives167 s m now acts ha
  unfold runRet2 at l1
  rw [show dataS c peer s m er now acts = confS s m now acts from by rw [dataS, if_neg (by omega), if_neg (by omega), if_neg (by omega), if_neg (by omega), if_pos h1]]
  refine gives_code (F := f155) rfl rfl (W_ok 300 _ _ _ _ ?_)
  repeat' ((conv => whnf); first | refine zA ?_ | refine bslP (by first | rfl | (simp [pureL, pureLL, AV.pure]; done) | fail) rfl ?_ | refine TakeC.full (by first | rfl | omega | (simp; done) | (simp; omega) | fail) ?_ | refine zBs ?_ | refine zBn ?_ | refine zBv rfl rfl ?_ | refine zN ?_ | refine zC ?_ | refine zC4 ?_ | refine zOr16 ?_ | refine zC1 ?_ | refine zByte ?_ | refine zMaxL ?_ | refine zMaxR ?_ | refine zMinL ?_ | refine zMinR ?_ | refine zShr ?_ | refine zC8 ?_ | refine zQ ?_ | refine zR ?_ | refine zS ?_ | refine zA ?_ | refine zM ?_ | refine xr rfl ?_ | refine ai rfl ?_ | refine condT ?_ | refine condF ?_ | refine condG1 ?_ | refine condG0 ?_ | refine cD ?_ | refine dD ?_ | refine cB ?_ | refine dB ?_ | refine cN ?_ | refine dN ?_ | refine cV ?_ | refine dV ?_ | refine cE ?_ | refine dE ?_ | refine condX0 ?_ | refine condX1 ?_ | refine condNot ?_ | refine condAnd ?_ | refine condOr ?_ | refine aO ?_ | refine aB ?_ | refine aR ?_ | refine aR ?_ (by simp; omega) | refine xr (by assumption) ?_ | refine ai (by assumption) ?_ | refine kX [(1, _, _), (2, _, _)] [] ⟨rfl, rfl, trivial⟩ trivial (l1) ?_ | refine condD (fun h => ?_) (fun h => ?_) | refine condB (fun h => ?_) (fun h => ?_) | refine condN (fun h => ?_) (fun h => ?_) | refine condE (fun h => ?_) (fun h => ?_) | refine condV (fun h => ?_) (fun h => ?_))
  (conv => whnf); first | refine ev_finX [(0, _, _), (1, _, _), (2, _, _)] [] [true, true, false] (Nat.succ_pos _) ⟨rfl, rfl, rfl, trivial⟩ rfl (by repeat' (first | exact trivial | rfl | refine And.intro ?_ ?_ | (simp [pureL, pureLL, AV.pure, Blk.renS, Blk.okS, Blk.okX, AV.okS, AV.okX]; done) | omega | fail)) ⟨(by first | rfl | exact (decide_eq_false (by omega)).symm), (by first | rfl | exact (decide_eq_false (by omega)).symm), (by first | rfl | exact (decide_eq_false (by omega)).symm), trivial⟩ ⟨rfl, (by repeat' (first | exact trivial | rfl | refine And.intro ?_ ?_ | (simp [pureL, pureLL, AV.pure, Blk.renS, Blk.okS, Blk.okX, AV.okS, AV.okX]; done) | omega | fail)), ?_⟩ | refine ev_finX0 [(0, _, _), (1, _, _), (2, _, _)] [] [true, true, false] (Nat.succ_pos _) ⟨rfl, rfl, rfl, trivial⟩ rfl (by repeat' (first | exact trivial | rfl | refine And.intro ?_ ?_ | (simp [pureL, pureLL, AV.pure, Blk.renS, Blk.okS, Blk.okX, AV.okS, AV.okX]; done) | omega | fail)) ⟨(by first | rfl | exact (decide_eq_false (by omega)).symm), (by first | rfl | exact (decide_eq_false (by omega)).symm), (by first | rfl | exact (decide_eq_false (by omega)).symm), trivial⟩ ⟨rfl, (by repeat' (first | exact trivial | rfl | refine And.intro ?_ ?_ | (simp [pureL, pureLL, AV.pure, Blk.renS, Blk.okS, Blk.okX, AV.okS, AV.okX]; done) | omega | fail)), ?_⟩
  rfl
theorem data_ht (c : Conf) (hc : c.ok) (peer : Int) (m : PMsg) (h : LenO m) (s : Ses) (er now : Int) (acts : List Act) (h1 : s.state = 4)(h3 : er = 0) (h4 : ¬ m.kind = 3) (l1 : Gives G 168 [.ref 0 0 0, .agg m.enc] [.cells (cellsR s now (.vs 1 0 acts.length)), .vec 28 (acts.map Act.enc)] (runRet2 (estS s m now acts) now true)) (ha : acts.length < 2 ^ 28) : Gives G 155 [.ref 1 0 0, .agg c.enc, .int .i64 peer, .agg m.enc, .int .i64 er, .fn 150 [.ref 0 0 0]] [.cells [.ref 1 0 0], .cells (cellsR s now (.vs 2 0 acts.length)), .vec 28 (acts.map Act.enc)] (runRet3 (dataS c peer s m er now acts) now true) := by
  have hp := hc.nets; have p1 := hc.p1; have p2 := hc.p2; have p3 := hc.p3; have p4 := hc.p4
  unfold runRet2 at l1
  rw [show dataS c peer s m er now acts = estS s m now acts from by rw [dataS, if_neg (by omega), if_neg (by omega), if_neg (by omega), if_neg (by omega), if_neg (by omega)]]
  refine gives_code (F := f155) rfl rfl (W_ok 300 _ _ _ _ ?_)
  repeat' ((conv => whnf); first | refine zA ?_ | refine bslP (by first | rfl | (simp [pureL, pureLL, AV.pure]; done) | fail) rfl ?_ | refine TakeC.full (by first | rfl | omega | (simp; done) | (simp; omega) | fail) ?_ | refine zBs ?_ | refine zBn ?_ | refine zBv rfl rfl ?_ | refine zN ?_ | refine zC ?_ | refine zC4 ?_ | refine zOr16 ?_ | refine zC1 ?_ | refine zByte ?_ | refine zMaxL ?_ | refine zMaxR ?_ | refine zMinL ?_ | refine zMinR ?_ | refine zShr ?_ | refine zC8 ?_ | refine zQ ?_ | refine zR ?_ | refine zS ?_ | refine zA ?_ | refine zM ?_ | refine xr rfl ?_ | refine ai rfl ?_ | refine condT ?_ | refine condF ?_ | refine condG1 ?_ | refine condG0 ?_ | refine cD ?_ | refine dD ?_ | refine cB ?_ | refine dB ?_ | refine cN ?_ | refine dN ?_ | refine cV ?_ | refine dV ?_ | refine cE ?_ | refine dE ?_ | refine condX0 ?_ | refine condX1 ?_ | refine condNot ?_ | refine condAnd ?_ | refine condOr ?_ | refine aO ?_ | refine aB ?_ | refine aR ?_ | refine aR ?_ (by simp; omega) | refine xr (by assumption) ?_ | refine ai (by assumption) ?_ | refine kX [(1, _, _), (2, _, _)] [] ⟨rfl, rfl, trivial⟩ trivial (l1) ?_ | refine condD (fun h => ?_) (fun h => ?_) | refine condB (fun h => ?_) (fun h => ?_) | refine condN (fun h => ?_) (fun h => ?_) | refine condE (fun h => ?_) (fun h => ?_) | refine condV (fun h => ?_) (fun h => ?_))
  (conv => whnf); first | refine ev_finX [(0, _, _), (1, _, _), (2, _, _)] [] [true, true, true] (Nat.succ_pos _) ⟨rfl, rfl, rfl, trivial⟩ rfl (by repeat' (first | exact trivial | rfl | refine And.intro ?_ ?_ | (simp [pureL, pureLL, AV.pure, Blk.renS, Blk.okS, Blk.okX, AV.okS, AV.okX]; done) | omega | fail)) ⟨(by first | rfl | exact (decide_eq_false (by omega)).symm), (by first | rfl | exact (decide_eq_false (by omega)).symm), (by first | rfl | exact (decide_eq_false (by omega)).symm), trivial⟩ ⟨rfl, (by repeat' (first | exact trivial | rfl | refine And.intro ?_ ?_ | (simp [pureL, pureLL, AV.pure, Blk.renS, Blk.okS, Blk.okX, AV.okS, AV.okX]; done) | omega | fail)), ?_⟩ | refine ev_finX0 [(0, _, _), (1, _, _), (2, _, _)] [] [true, true, true] (Nat.succ_pos _) ⟨rfl, rfl, rfl, trivial⟩ rfl (by repeat' (first | exact trivial | rfl | refine And.intro ?_ ?_ | (simp [pureL, pureLL, AV.pure, Blk.renS, Blk.okS, Blk.okX, AV.okS, AV.okX]; done) | omega | fail)) ⟨(by first | rfl | exact (decide_eq_false (by omega)).symm), (by first | rfl | exact (decide_eq_false (by omega)).symm), (by first | rfl | exact (decide_eq_false (by omega)).symm), trivial⟩ ⟨rfl, (by repeat' (first | exact trivial | rfl | refine And.intro ?_ ?_ | (simp [pureL, pureLL, AV.pure, Blk.renS, Blk.okS, Blk.okX, AV.okS, AV.okX]; done) | omega | fail)), ?_⟩
  rfl
theorem data_hf (c : Conf) (hc : c.ok) (peer : Int) (m : PMsg) (h : LenO m) (s : Ses) (er now : Int) (acts : List Act) (h1 : s.state = 4)(h3 : er = 0) (h4 : ¬ m.kind = 3) (l1 : Gives G 168 [.ref 0 0 0, .agg m.enc] [.cells (cellsR s now (.vs 1 0 acts.length)), .vec 28 (acts.map Act.enc)] (runRet2 (estS s m now acts) now false)) (ha : acts.length < 2 ^ 28) : Gives G 155 [.ref 1 0 0, .agg c.enc, .int .i64 peer, .agg m.enc, .int .i64 er, .fn 150 [.ref 0 0 0]] [.cells [.ref 1 0 0], .cells (cellsR s now (.vs 2 0 acts.length)), .vec 28 (acts.map Act.enc)] (runRet3 (dataS c peer s m er now acts) now false) := by
  have hp := hc.nets; have p1 := hc.p1; have p2 := hc.p2; have p3 := hc.p3; have p4 := hc.p4
  unfold runRet2 at l1
  rw [show dataS c peer s m er now acts = estS s m now acts from by rw [dataS, if_neg (by omega), if_neg (by omega), if_neg (by omega), if_neg (by omega), if_neg (by omega)]]
  refine gives_code (F := f155) rfl rfl (W_ok 300 _ _ _ _ ?_)
  repeat' ((conv => whnf); first | refine zA ?_ | refine bslP (by first | rfl | (simp [pureL, pureLL, AV.pure]; done) | fail) rfl ?_ | refine TakeC.full (by first | rfl | omega | (simp; done) | (simp; omega) | fail) ?_ | refine zBs ?_ | refine zBn ?_ | refine zBv rfl rfl ?_ | refine zN ?_ | refine zC ?_ | refine zC4 ?_ | refine zOr16 ?_ | refine zC1 ?_ | refine zByte ?_ | refine zMaxL ?_ | refine zMaxR ?_ | refine zMinL ?_ | refine zMinR ?_ | refine zShr ?_ | refine zC8 ?_ | refine zQ ?_ | refine zR ?_ | refine zS ?_ | refine zA ?_ | refine zM ?_ | refine xr rfl ?_ | refine ai rfl ?_ | refine condT ?_ | refine condF ?_ | refine condG1 ?_ | refine condG0 ?_ | refine cD ?_ | refine dD ?_ | refine cB ?_ | refine dB ?_ | refine cN ?_ | refine dN ?_ | refine cV ?_ | refine dV ?_ | refine cE ?_ | refine dE ?_ | refine condX0 ?_ | refine condX1 ?_ | refine condNot ?_ | refine condAnd ?_ | refine condOr ?_ | refine aO ?_ | refine aB ?_ | refine aR ?_ | refine aR ?_ (by simp; omega) | refine xr (by assumption) ?_ | refine ai (by assumption) ?_ | refine kX [(1, _, _), (2, _, _)] [] ⟨rfl, rfl, trivial⟩ trivial (l1) ?_ | refine condD (fun h => ?_) (fun h => ?_) | refine condB (fun h => ?_) (fun h => ?_) | refine condN (fun h => ?_) (fun h => ?_) | refine condE (fun h => ?_) (fun h => ?_) | refine condV (fun h => ?_) (fun h => ?_))
  (conv => whnf); first | refine ev_finX [(0, _, _), (1, _, _), (2, _, _)] [] [true, true, false] (Nat.succ_pos _) ⟨rfl, rfl, rfl, trivial⟩ rfl (by repeat' (first | exact trivial | rfl | refine And.intro ?_ ?_ | (simp [pureL, pureLL, AV.pure, Blk.renS, Blk.okS, Blk.okX, AV.okS, AV.okX]; done) | omega | fail)) ⟨(by first | rfl | exact (decide_eq_false (by omega)).symm), (by first | rfl | exact (decide_eq_false (by omega)).symm), (by first | rfl | exact (decide_eq_false (by omega)).symm), trivial⟩ ⟨rfl, (by repeat' (first | exact trivial | rfl | refine And.intro ?_ ?_ | (simp [pureL, pureLL, AV.pure, Blk.renS, Blk.okS, Blk.okX, AV.okS, AV.okX]; done) | omega | fail)), ?_⟩ | refine ev_finX0 [(0, _, _), (1, _, _), (2, _, _)] [] [true, true, false] (Nat.succ_pos _) ⟨rfl, rfl, rfl, trivial⟩ rfl (by repeat' (first | exact trivial | rfl | refine And.intro ?_ ?_ | (simp [pureL, pureLL, AV.pure, Blk.renS, Blk.okS, Blk.okX, AV.okS, AV.okX]; done) | omega | fail)) ⟨(by first | rfl | exact (decide_eq_false (by omega)).symm), (by first | rfl | exact (decide_eq_false (by omega)).symm), (by first | rfl | exact (decide_eq_false (by omega)).symm), trivial⟩ ⟨rfl, (by repeat' (first | exact trivial | rfl | refine And.intro ?_ ?_ | (simp [pureL, pureLL, AV.pure, Blk.renS, Blk.okS, Blk.okX, AV.okS, AV.okX]; done) | omega | fail)), ?_⟩
  rfl
theorem data_gives155 (c : Conf) (hc : c.ok) (peer : Int) (m : PMsg) (h : LenO m) (s : Ses) (er now : Int) (acts : List Act) (ha : acts.length < 2 ^ 28) : ∃ fl, Gives G 155 [.ref 1 0 0, .agg c.enc, .int .i64 peer, .agg m.enc, .int .i64 er, .fn 150 [.ref 0 0 0]] [.cells [.ref 1 0 0], .cells (cellsR s now (.vs 2 0 acts.length)), .vec 28 (acts.map Act.enc)] (runRet3 (dataS c peer s m er now acts) now fl) := by
  by_cases h1 : s.state < 2
  · exact ⟨_, data_a c hc peer m h s er now acts h1 ha⟩
  by_cases h2 : s.state > 4
  · exact ⟨_, data_b c hc peer m h s er now acts h2 ha⟩
  by_cases h3 : er = 0
  · by_cases h4 : m.kind = 3
    · exact ⟨_, data_e c hc peer m h s er now acts (by omega) (by omega) h3 h4 ha⟩
    · by_cases h5 : s.state = 2
      · exact ⟨_, data_f c hc peer m h s er now acts h5 h3 h4 ha⟩
      · by_cases h6 : s.state = 3
        · exact ⟨_, data_g c hc peer m h s er now acts h6 h3 h4 ha⟩
        · obtain ⟨fl, l1⟩ := est_gives168 s m ⟨h.len.withdrawn, h.len.reach⟩ now acts ha
          cases fl
          · exact ⟨_, data_hf c hc peer m h s er now acts (by omega) h3 h4 l1 ha⟩
          · exact ⟨_, data_ht c hc peer m h s er now acts (by omega) h3 h4 l1 ha⟩
  · by_cases h4 : m = zeroM
    · exact ⟨_, data_c c hc peer m h s er now acts (by omega) (by omega) h3 h4 ha⟩
    · exact ⟨_, data_d c hc peer m h s er now acts (by omega) (by omega) h3 h4 ha⟩
end Go.AM.IR
set_option maxHeartbeats 4000000
set_option maxRecDepth 20000
namespace Go.AM.IR
attribute [local simp] pureLL_bytes
theorem stop_gives153 (s : Ses) (now : Int) (acts : List Act) (ha : acts.length < 2 ^ 28) : ∃ fl, Gives G 153 [.ref 1 0 0, .fn 150 [.ref 0 0 0]] [.cells [.ref 1 0 0], .cells (cellsR s now (.vs 2 0 acts.length)), .vec 28 (acts.map Act.enc)] (runRet3 (noS, acts ++ stopA s) now fl) := by
  by_cases h2 : s.untl = 0
  · by_cases h4 : s.state = 4
    · exact ⟨_, stop_4n s now acts h4 h2 ha⟩
    · by_cases h3 : s.state = 3
      · exact ⟨_, stop_3n s now acts h3 h2 ha⟩
      · by_cases h5 : s.state = 2
        · exact ⟨_, stop_2n s now acts h5 h2 ha⟩
        · exact ⟨_, stop_on s now acts h4 h3 h5 h2 ha⟩
  · by_cases h4 : s.state = 4
    · exact ⟨_, stop_4u s now acts h4 h2 ha⟩
    · by_cases h3 : s.state = 3
      · exact ⟨_, stop_3u s now acts h3 h2 ha⟩
      · by_cases h5 : s.state = 2
        · exact ⟨_, stop_2u s now acts h5 h2 ha⟩
        · exact ⟨_, stop_ou s now acts h4 h3 h5 h2 ha⟩
theorem down_gives152 (s : Ses) (p : Peer) (now : Int) (acts : List Act) (ha : acts.length < 2 ^ 28) : ∃ fl, Gives G 152 [.ref 0 0 0, .agg p.enc] [.cells (cellsR s now (.vs 1 0 acts.length)), .vec 28 (acts.map Act.enc)] (runRet2 (downS s p now acts) now fl) := by
  by_cases h1 : s.state = 4
  · by_cases h2 : s.restart > 0
    · by_cases h3 : p.restart > 0
      · exact ⟨_, down_a s p now acts h1 h2 h3 ha⟩
      · exact ⟨_, down_c s p now acts h1 h2 h3 ha⟩
    · exact ⟨_, down_b s p now acts h1 h2 ha⟩
  · exact ⟨_, down_d s p now acts h1 ha⟩
def downE (c : Conf) (peer : Int) (s : Ses) (now : Int) : Ses × List Act := match c.peers[peer.toNat]? with
  | none => (s, [])
  | some p => if s.state < 2 ∨ s.state > 4 then (s, []) else downS s p now []
def handleS (c : Conf) (peer : Int) (s : Ses) (m : PMsg) (er ev now : Int) : Ses × List Act :=
  if knownS c peer = false then (s, [])
  else if ev = 1 then (if s.state = 0 then ({ s with state := 1, retry := wr (now + 30) }, [act0 1]) else (s, []))
  else if ev = 2 then (if s.state = 1 then ({ s with state := 2, retry := 0, hold := wr (now + 240) }, [sendA (openS c peer)]) else if s.state = 0 then (s, [act0 2]) else (s, []))
  else if ev = 3 then downE c peer s now
  else if ev = 6 then (noS, stopA s)
  else if ev = 5 then timersS s now []
  else if ev = 4 then dataS c peer s m er now []
  else (s, [])
theorem handle_u (s : Ses) (c : Conf) (hc : c.ok) (peer now ev er : Int) (m : PMsg) (hk : knownS c peer = false) : Gives G 135 [.agg s.enc, .agg c.enc, .int .i64 peer, .int .i64 now, .int .i64 ev, .agg m.enc, .int .i64 er] [] (handleRet (s, [])) := by
  have hp := hc.nets; have h1 := hc.p1; have h2 := hc.p2; have h3 := hc.p3; have h4 := hc.p4
  have hk0 := known_gives140 c hc hc.len peer
  rw [hk] at hk0
  refine gives_code (F := f135) rfl rfl (W_ok 300 _ _ _ _ ?_)
  repeat' ((conv => whnf); first | refine kV hk0 ?_ (by simp [pureL, AV.pure, hp, h1, h2, h3, h4]) | refine bslP (by first | rfl | (simp [pureL, pureLL, AV.pure]; done) | fail) rfl ?_ | refine TakeC.full (by first | rfl | omega | (simp; done) | (simp; omega) | fail) ?_ | refine zBs ?_ | refine zBn ?_ | refine zBv rfl rfl ?_ | refine zN ?_ | refine zC ?_ | refine zC4 ?_ | refine zOr16 ?_ | refine zC1 ?_ | refine zByte ?_ | refine zMaxL ?_ | refine zMaxR ?_ | refine zMinL ?_ | refine zMinR ?_ | refine zShr ?_ | refine zC8 ?_ | refine zQ ?_ | refine zR ?_ | refine zS ?_ | refine zA ?_ | refine zM ?_ | refine xr rfl ?_ | refine ai rfl ?_ | refine condT ?_ | refine condF ?_ | refine condG1 ?_ | refine condG0 ?_ | refine cD ?_ | refine dD ?_ | refine cB ?_ | refine dB ?_ | refine cN ?_ | refine dN ?_ | refine cV ?_ | refine dV ?_ | refine cE ?_ | refine dE ?_ | refine condX0 ?_ | refine condX1 ?_ | refine condNot ?_ | refine condAnd ?_ | refine condOr ?_ | refine aO ?_ | refine aB ?_ | refine aR ?_ | refine aR ?_ (by simp; omega) | refine xr (by assumption) ?_ | refine ai (by assumption) ?_ | refine condD (fun h => ?_) (fun h => ?_) | refine condB (fun h => ?_) (fun h => ?_) | refine condN (fun h => ?_) (fun h => ?_) | refine condE (fun h => ?_) (fun h => ?_) | refine condV (fun h => ?_) (fun h => ?_))
  refine ev_le [(15, .sl 28 [])] [] ⟨LeP.nil 28, trivial⟩ trivial ?_
  refine ev_fin ?_
  (conv => whnf)
  refine And.intro (by first | rfl | (simp [AV.pure, pureL, pureLL_bytes]; done) | fail) ?_
  (conv => whnf)
  first | exact And.intro rfl rfl | (refine And.intro (by first | rfl | (simp [AV.pure, pureL, pureLL_bytes]; done) | fail) ?_; (conv => whnf); rfl) | rfl
theorem h1a (s : Ses) (c : Conf) (hc : c.ok) (peer now er : Int) (m : PMsg) (hk : knownS c peer = true) (h1 : s.state = 0) : Gives G 135 [.agg s.enc, .agg c.enc, .int .i64 peer, .int .i64 now, .int .i64 1, .agg m.enc, .int .i64 er] [] (handleRet ({ s with state := 1, retry := wr (now + 30) }, [act0 1])) := by
  have hp := hc.nets; have p1 := hc.p1; have p2 := hc.p2; have p3 := hc.p3; have p4 := hc.p4
  have hpl : (c.peers.map Peer.enc).length = c.peers.length := by simp
  have d1 := do_gives151 { s with state := 1, retry := wr (now + 30) } now 1 [] (by simp)
  refine hPre135 s c hc peer now 1 er m.enc (PMsg.pure m) hk _ ?_
  intro g1 g2 g3 g4 g7 g8 g12 T H ct
  refine ev_seq (b := sfx 5 f135.body) ?_
  refine W_okd 1 300 _ _ _ _ ?_
  repeat' ((conv => whnf); first | refine zA ?_ | refine wAdd ?_ | refine bslP (by first | rfl | (simp [pureL, pureLL, AV.pure]; done) | fail) rfl ?_ | refine TakeC.full (by first | rfl | omega | (simp; done) | (simp; omega) | fail) ?_ | refine zBs ?_ | refine zBn ?_ | refine zBv rfl rfl ?_ | refine zN ?_ | refine zC ?_ | refine zC4 ?_ | refine zOr16 ?_ | refine zC1 ?_ | refine zByte ?_ | refine zMaxL ?_ | refine zMaxR ?_ | refine zMinL ?_ | refine zMinR ?_ | refine zShr ?_ | refine zC8 ?_ | refine zQ ?_ | refine zR ?_ | refine zS ?_ | refine zA ?_ | refine zM ?_ | refine xr rfl ?_ | refine ai rfl ?_ | refine condT ?_ | refine condF ?_ | refine condG1 ?_ | refine condG0 ?_ | refine cD ?_ | refine dD ?_ | refine cB ?_ | refine dB ?_ | refine cN ?_ | refine dN ?_ | refine cV ?_ | refine dV ?_ | refine cE ?_ | refine dE ?_ | refine condX0 ?_ | refine condX1 ?_ | refine condNot ?_ | refine condAnd ?_ | refine condOr ?_ | refine aO ?_ | refine aB ?_ | refine aR ?_ | refine aR ?_ (by simp; omega) | refine xr (by assumption) ?_ | refine ai (by assumption) ?_ | refine kX [(90, _, _), (500, _, _)] [] ⟨rfl, rfl, trivial⟩ trivial (d1) ?_ | refine condD (fun h => ?_) (fun h => ?_) | refine condB (fun h => ?_) (fun h => ?_) | refine condN (fun h => ?_) (fun h => ?_) | refine condE (fun h => ?_) (fun h => ?_) | refine condV (fun h => ?_) (fun h => ?_))
  refine ev_keep [16, 14] [78, 80, 90, 500] ?_
  exact hEnd135 ({ s with state := 1, retry := wr (now + 30) }) now ([act0 1]) _ _ _ _ _ rfl _ rfl _ _ _
theorem h1b (s : Ses) (c : Conf) (hc : c.ok) (peer now er : Int) (m : PMsg) (hk : knownS c peer = true) (h1 : ¬ s.state = 0) : Gives G 135 [.agg s.enc, .agg c.enc, .int .i64 peer, .int .i64 now, .int .i64 1, .agg m.enc, .int .i64 er] [] (handleRet (s, [])) := by
  have hp := hc.nets; have p1 := hc.p1; have p2 := hc.p2; have p3 := hc.p3; have p4 := hc.p4
  have hpl : (c.peers.map Peer.enc).length = c.peers.length := by simp
  refine hPre135 s c hc peer now 1 er m.enc (PMsg.pure m) hk _ ?_
  intro g1 g2 g3 g4 g7 g8 g12 T H ct
  refine ev_seq (b := sfx 5 f135.body) ?_
  refine W_okd 1 300 _ _ _ _ ?_
  repeat' ((conv => whnf); first | refine zA ?_ | refine wAdd ?_ | refine bslP (by first | rfl | (simp [pureL, pureLL, AV.pure]; done) | fail) rfl ?_ | refine TakeC.full (by first | rfl | omega | (simp; done) | (simp; omega) | fail) ?_ | refine zBs ?_ | refine zBn ?_ | refine zBv rfl rfl ?_ | refine zN ?_ | refine zC ?_ | refine zC4 ?_ | refine zOr16 ?_ | refine zC1 ?_ | refine zByte ?_ | refine zMaxL ?_ | refine zMaxR ?_ | refine zMinL ?_ | refine zMinR ?_ | refine zShr ?_ | refine zC8 ?_ | refine zQ ?_ | refine zR ?_ | refine zS ?_ | refine zA ?_ | refine zM ?_ | refine xr rfl ?_ | refine ai rfl ?_ | refine condT ?_ | refine condF ?_ | refine condG1 ?_ | refine condG0 ?_ | refine cD ?_ | refine dD ?_ | refine cB ?_ | refine dB ?_ | refine cN ?_ | refine dN ?_ | refine cV ?_ | refine dV ?_ | refine cE ?_ | refine dE ?_ | refine condX0 ?_ | refine condX1 ?_ | refine condNot ?_ | refine condAnd ?_ | refine condOr ?_ | refine aO ?_ | refine aB ?_ | refine aR ?_ | refine aR ?_ (by simp; omega) | refine xr (by assumption) ?_ | refine ai (by assumption) ?_ | refine condD (fun h => ?_) (fun h => ?_) | refine condB (fun h => ?_) (fun h => ?_) | refine condN (fun h => ?_) (fun h => ?_) | refine condE (fun h => ?_) (fun h => ?_) | refine condV (fun h => ?_) (fun h => ?_))
  refine ev_keep [16, 14] [78, 80, 90, 500] ?_
  exact hEnd135 (s) now ([]) _ _ _ _ _ rfl _ rfl _ _ _
theorem h2a (s : Ses) (c : Conf) (hc : c.ok) (peer now er : Int) (m : PMsg) (hk : knownS c peer = true) (h1 : s.state = 1) : Gives G 135 [.agg s.enc, .agg c.enc, .int .i64 peer, .int .i64 now, .int .i64 2, .agg m.enc, .int .i64 er] [] (handleRet ({ s with state := 2, retry := 0, hold := wr (now + 240) }, [sendA (openS c peer)])) := by
  have hp := hc.nets; have p1 := hc.p1; have p2 := hc.p2; have p3 := hc.p3; have p4 := hc.p4
  have hpl : (c.peers.map Peer.enc).length = c.peers.length := by simp
  have d1 := send_gives150 { s with state := 2, retry := 0, hold := wr (now + 240) } now (openS c peer) [] (by simp)
  have o1 := open_gives127 c hc hc.len peer
  generalize openS c peer = om at *
  refine hPre135 s c hc peer now 2 er m.enc (PMsg.pure m) hk _ ?_
  intro g1 g2 g3 g4 g7 g8 g12 T H ct
  refine ev_seq (b := sfx 5 f135.body) ?_
  refine W_okd 1 300 _ _ _ _ ?_
  repeat' ((conv => whnf); first | refine zA ?_ | refine wAdd ?_ | refine callW o1 ?_ (by simp [pureL, AV.pure, hp, p1, p2, p3, p4]) | refine bslP (by first | rfl | (simp [pureL, pureLL, AV.pure]; done) | fail) rfl ?_ | refine TakeC.full (by first | rfl | omega | (simp; done) | (simp; omega) | fail) ?_ | refine zBs ?_ | refine zBn ?_ | refine zBv rfl rfl ?_ | refine zN ?_ | refine zC ?_ | refine zC4 ?_ | refine zOr16 ?_ | refine zC1 ?_ | refine zByte ?_ | refine zMaxL ?_ | refine zMaxR ?_ | refine zMinL ?_ | refine zMinR ?_ | refine zShr ?_ | refine zC8 ?_ | refine zQ ?_ | refine zR ?_ | refine zS ?_ | refine zA ?_ | refine zM ?_ | refine xr rfl ?_ | refine ai rfl ?_ | refine condT ?_ | refine condF ?_ | refine condG1 ?_ | refine condG0 ?_ | refine cD ?_ | refine dD ?_ | refine cB ?_ | refine dB ?_ | refine cN ?_ | refine dN ?_ | refine cV ?_ | refine dV ?_ | refine cE ?_ | refine dE ?_ | refine condX0 ?_ | refine condX1 ?_ | refine condNot ?_ | refine condAnd ?_ | refine condOr ?_ | refine aO ?_ | refine aB ?_ | refine aR ?_ | refine aR ?_ (by simp; omega) | refine xr (by assumption) ?_ | refine ai (by assumption) ?_ | refine kX [(80, _, _), (90, _, _), (500, _, _)] [] ⟨rfl, rfl, rfl, trivial⟩ trivial (d1) ?_ | refine condD (fun h => ?_) (fun h => ?_) | refine condB (fun h => ?_) (fun h => ?_) | refine condN (fun h => ?_) (fun h => ?_) | refine condE (fun h => ?_) (fun h => ?_) | refine condV (fun h => ?_) (fun h => ?_))
  refine ev_keep [16, 14] [78, 80, 90, 500] ?_
  exact hEnd135 ({ s with state := 2, retry := 0, hold := wr (now + 240) }) now ([sendA om]) _ _ _ _ _ rfl _ rfl _ _ _
theorem h2b (s : Ses) (c : Conf) (hc : c.ok) (peer now er : Int) (m : PMsg) (hk : knownS c peer = true) (h1 : s.state = 0) : Gives G 135 [.agg s.enc, .agg c.enc, .int .i64 peer, .int .i64 now, .int .i64 2, .agg m.enc, .int .i64 er] [] (handleRet (s, [act0 2])) := by
  have hp := hc.nets; have p1 := hc.p1; have p2 := hc.p2; have p3 := hc.p3; have p4 := hc.p4
  have hpl : (c.peers.map Peer.enc).length = c.peers.length := by simp
  have d1 := do_gives151 s now 2 [] (by simp)
  refine hPre135 s c hc peer now 2 er m.enc (PMsg.pure m) hk _ ?_
  intro g1 g2 g3 g4 g7 g8 g12 T H ct
  refine ev_seq (b := sfx 5 f135.body) ?_
  refine W_okd 1 300 _ _ _ _ ?_
  repeat' ((conv => whnf); first | refine zA ?_ | refine wAdd ?_ | refine bslP (by first | rfl | (simp [pureL, pureLL, AV.pure]; done) | fail) rfl ?_ | refine TakeC.full (by first | rfl | omega | (simp; done) | (simp; omega) | fail) ?_ | refine zBs ?_ | refine zBn ?_ | refine zBv rfl rfl ?_ | refine zN ?_ | refine zC ?_ | refine zC4 ?_ | refine zOr16 ?_ | refine zC1 ?_ | refine zByte ?_ | refine zMaxL ?_ | refine zMaxR ?_ | refine zMinL ?_ | refine zMinR ?_ | refine zShr ?_ | refine zC8 ?_ | refine zQ ?_ | refine zR ?_ | refine zS ?_ | refine zA ?_ | refine zM ?_ | refine xr rfl ?_ | refine ai rfl ?_ | refine condT ?_ | refine condF ?_ | refine condG1 ?_ | refine condG0 ?_ | refine cD ?_ | refine dD ?_ | refine cB ?_ | refine dB ?_ | refine cN ?_ | refine dN ?_ | refine cV ?_ | refine dV ?_ | refine cE ?_ | refine dE ?_ | refine condX0 ?_ | refine condX1 ?_ | refine condNot ?_ | refine condAnd ?_ | refine condOr ?_ | refine aO ?_ | refine aB ?_ | refine aR ?_ | refine aR ?_ (by simp; omega) | refine xr (by assumption) ?_ | refine ai (by assumption) ?_ | refine kX [(90, _, _), (500, _, _)] [] ⟨rfl, rfl, trivial⟩ trivial (d1) ?_ | refine condD (fun h => ?_) (fun h => ?_) | refine condB (fun h => ?_) (fun h => ?_) | refine condN (fun h => ?_) (fun h => ?_) | refine condE (fun h => ?_) (fun h => ?_) | refine condV (fun h => ?_) (fun h => ?_))
  refine ev_keep [16, 14] [78, 80, 90, 500] ?_
  exact hEnd135 (s) now ([act0 2]) _ _ _ _ _ rfl _ rfl _ _ _
theorem h2c (s : Ses) (c : Conf) (hc : c.ok) (peer now er : Int) (m : PMsg) (hk : knownS c peer = true) (h1 : ¬ s.state = 1) (h2 : ¬ s.state = 0) : Gives G 135 [.agg s.enc, .agg c.enc, .int .i64 peer, .int .i64 now, .int .i64 2, .agg m.enc, .int .i64 er] [] (handleRet (s, [])) := by
  have hp := hc.nets; have p1 := hc.p1; have p2 := hc.p2; have p3 := hc.p3; have p4 := hc.p4
  have hpl : (c.peers.map Peer.enc).length = c.peers.length := by simp
  refine hPre135 s c hc peer now 2 er m.enc (PMsg.pure m) hk _ ?_
  intro g1 g2 g3 g4 g7 g8 g12 T H ct
  refine ev_seq (b := sfx 5 f135.body) ?_
  refine W_okd 1 300 _ _ _ _ ?_
  repeat' ((conv => whnf); first | refine zA ?_ | refine wAdd ?_ | refine bslP (by first | rfl | (simp [pureL, pureLL, AV.pure]; done) | fail) rfl ?_ | refine TakeC.full (by first | rfl | omega | (simp; done) | (simp; omega) | fail) ?_ | refine zBs ?_ | refine zBn ?_ | refine zBv rfl rfl ?_ | refine zN ?_ | refine zC ?_ | refine zC4 ?_ | refine zOr16 ?_ | refine zC1 ?_ | refine zByte ?_ | refine zMaxL ?_ | refine zMaxR ?_ | refine zMinL ?_ | refine zMinR ?_ | refine zShr ?_ | refine zC8 ?_ | refine zQ ?_ | refine zR ?_ | refine zS ?_ | refine zA ?_ | refine zM ?_ | refine xr rfl ?_ | refine ai rfl ?_ | refine condT ?_ | refine condF ?_ | refine condG1 ?_ | refine condG0 ?_ | refine cD ?_ | refine dD ?_ | refine cB ?_ | refine dB ?_ | refine cN ?_ | refine dN ?_ | refine cV ?_ | refine dV ?_ | refine cE ?_ | refine dE ?_ | refine condX0 ?_ | refine condX1 ?_ | refine condNot ?_ | refine condAnd ?_ | refine condOr ?_ | refine aO ?_ | refine aB ?_ | refine aR ?_ | refine aR ?_ (by simp; omega) | refine xr (by assumption) ?_ | refine ai (by assumption) ?_ | refine condD (fun h => ?_) (fun h => ?_) | refine condB (fun h => ?_) (fun h => ?_) | refine condN (fun h => ?_) (fun h => ?_) | refine condE (fun h => ?_) (fun h => ?_) | refine condV (fun h => ?_) (fun h => ?_))
  refine ev_keep [16, 14] [78, 80, 90, 500] ?_
  exact hEnd135 (s) now ([]) _ _ _ _ _ rfl _ rfl _ _ _
theorem h3a (s : Ses) (c : Conf) (hc : c.ok) (peer now er : Int) (m : PMsg) (hk : knownS c peer = true) (h1 : s.state < 2) : Gives G 135 [.agg s.enc, .agg c.enc, .int .i64 peer, .int .i64 now, .int .i64 3, .agg m.enc, .int .i64 er] [] (handleRet (s, [])) := by
  have hp := hc.nets; have p1 := hc.p1; have p2 := hc.p2; have p3 := hc.p3; have p4 := hc.p4
  have hpl : (c.peers.map Peer.enc).length = c.peers.length := by simp
  refine hPre135 s c hc peer now 3 er m.enc (PMsg.pure m) hk _ ?_
  intro g1 g2 g3 g4 g7 g8 g12 T H ct
  refine ev_seq (b := sfx 5 f135.body) ?_
  refine W_okd 1 300 _ _ _ _ ?_
  repeat' ((conv => whnf); first | refine zA ?_ | refine wAdd ?_ | refine bslP (by first | rfl | (simp [pureL, pureLL, AV.pure]; done) | fail) rfl ?_ | refine TakeC.full (by first | rfl | omega | (simp; done) | (simp; omega) | fail) ?_ | refine zBs ?_ | refine zBn ?_ | refine zBv rfl rfl ?_ | refine zN ?_ | refine zC ?_ | refine zC4 ?_ | refine zOr16 ?_ | refine zC1 ?_ | refine zByte ?_ | refine zMaxL ?_ | refine zMaxR ?_ | refine zMinL ?_ | refine zMinR ?_ | refine zShr ?_ | refine zC8 ?_ | refine zQ ?_ | refine zR ?_ | refine zS ?_ | refine zA ?_ | refine zM ?_ | refine xr rfl ?_ | refine ai rfl ?_ | refine condT ?_ | refine condF ?_ | refine condG1 ?_ | refine condG0 ?_ | refine cD ?_ | refine dD ?_ | refine cB ?_ | refine dB ?_ | refine cN ?_ | refine dN ?_ | refine cV ?_ | refine dV ?_ | refine cE ?_ | refine dE ?_ | refine condX0 ?_ | refine condX1 ?_ | refine condNot ?_ | refine condAnd ?_ | refine condOr ?_ | refine aO ?_ | refine aB ?_ | refine aR ?_ | refine aR ?_ (by simp; omega) | refine xr (by assumption) ?_ | refine ai (by assumption) ?_ | refine condD (fun h => ?_) (fun h => ?_) | refine condB (fun h => ?_) (fun h => ?_) | refine condN (fun h => ?_) (fun h => ?_) | refine condE (fun h => ?_) (fun h => ?_) | refine condV (fun h => ?_) (fun h => ?_))
  refine ev_keep [16, 14] [78, 80, 90, 500] ?_
  exact hEnd135 (s) now ([]) _ _ _ _ _ rfl _ rfl _ _ _
theorem h3b (s : Ses) (c : Conf) (hc : c.ok) (peer now er : Int) (m : PMsg) (hk : knownS c peer = true) (h1 : s.state > 4) : Gives G 135 [.agg s.enc, .agg c.enc, .int .i64 peer, .int .i64 now, .int .i64 3, .agg m.enc, .int .i64 er] [] (handleRet (s, [])) := by
  have hp := hc.nets; have p1 := hc.p1; have p2 := hc.p2; have p3 := hc.p3; have p4 := hc.p4
  have hpl : (c.peers.map Peer.enc).length = c.peers.length := by simp
  refine hPre135 s c hc peer now 3 er m.enc (PMsg.pure m) hk _ ?_
  intro g1 g2 g3 g4 g7 g8 g12 T H ct
  refine ev_seq (b := sfx 5 f135.body) ?_
  refine W_okd 1 300 _ _ _ _ ?_
  repeat' ((conv => whnf); first | refine zA ?_ | refine wAdd ?_ | refine bslP (by first | rfl | (simp [pureL, pureLL, AV.pure]; done) | fail) rfl ?_ | refine TakeC.full (by first | rfl | omega | (simp; done) | (simp; omega) | fail) ?_ | refine zBs ?_ | refine zBn ?_ | refine zBv rfl rfl ?_ | refine zN ?_ | refine zC ?_ | refine zC4 ?_ | refine zOr16 ?_ | refine zC1 ?_ | refine zByte ?_ | refine zMaxL ?_ | refine zMaxR ?_ | refine zMinL ?_ | refine zMinR ?_ | refine zShr ?_ | refine zC8 ?_ | refine zQ ?_ | refine zR ?_ | refine zS ?_ | refine zA ?_ | refine zM ?_ | refine xr rfl ?_ | refine ai rfl ?_ | refine condT ?_ | refine condF ?_ | refine condG1 ?_ | refine condG0 ?_ | refine cD ?_ | refine dD ?_ | refine cB ?_ | refine dB ?_ | refine cN ?_ | refine dN ?_ | refine cV ?_ | refine dV ?_ | refine cE ?_ | refine dE ?_ | refine condX0 ?_ | refine condX1 ?_ | refine condNot ?_ | refine condAnd ?_ | refine condOr ?_ | refine aO ?_ | refine aB ?_ | refine aR ?_ | refine aR ?_ (by simp; omega) | refine xr (by assumption) ?_ | refine ai (by assumption) ?_ | refine condD (fun h => ?_) (fun h => ?_) | refine condB (fun h => ?_) (fun h => ?_) | refine condN (fun h => ?_) (fun h => ?_) | refine condE (fun h => ?_) (fun h => ?_) | refine condV (fun h => ?_) (fun h => ?_))
  refine ev_keep [16, 14] [78, 80, 90, 500] ?_
  exact hEnd135 (s) now ([]) _ _ _ _ _ rfl _ rfl _ _ _
theorem h3c (s : Ses) (c : Conf) (hc : c.ok) (peer now er : Int) (m : PMsg) (hk : knownS c peer = true) (h1 : 2 ≤ s.state) (h2 : s.state ≤ 4) (p : Peer) (hx : (c.peers.map Peer.enc)[peer.toNat]? = some p.enc) : Gives G 135 [.agg s.enc, .agg c.enc, .int .i64 peer, .int .i64 now, .int .i64 3, .agg m.enc, .int .i64 er] [] (handleRet ((downS s p now []).1, (downS s p now []).2)) := by
  have hp := hc.nets; have p1 := hc.p1; have p2 := hc.p2; have p3 := hc.p3; have p4 := hc.p4
  have hpl : (c.peers.map Peer.enc).length = c.peers.length := by simp
  obtain ⟨fl, d1⟩ := down_gives152 s p now [] (by simp)
  unfold runRet2 at d1
  have hx0 : 0 ≤ peer ∧ peer.toNat < (c.peers.map Peer.enc).length := by rw [hpl]; have := hk; simp [knownS] at this; omega
  obtain ⟨hx1, hx2⟩ := hx0
  have hx3 : peer < c.peers.length := by rw [hpl] at hx2; omega
  refine hPre135 s c hc peer now 3 er m.enc (PMsg.pure m) hk _ ?_
  intro g1 g2 g3 g4 g7 g8 g12 T H ct
  refine ev_seq (b := sfx 5 f135.body) ?_
  refine W_okd 1 300 _ _ _ _ ?_
  repeat' ((conv => whnf); first | refine zA ?_ | refine wAdd ?_ | refine bslP (by first | rfl | (simp [pureL, pureLL, AV.pure]; done) | fail) rfl ?_ | refine TakeC.full (by first | rfl | omega | (simp; done) | (simp; omega) | fail) ?_ | refine zBs ?_ | refine zBn ?_ | refine zBv rfl rfl ?_ | refine zN ?_ | refine zC ?_ | refine zC4 ?_ | refine zOr16 ?_ | refine zC1 ?_ | refine zByte ?_ | refine zMaxL ?_ | refine zMaxR ?_ | refine zMinL ?_ | refine zMinR ?_ | refine zShr ?_ | refine zC8 ?_ | refine zQ ?_ | refine zR ?_ | refine zS ?_ | refine zA ?_ | refine zM ?_ | refine xr rfl ?_ | refine ai rfl ?_ | refine condT ?_ | refine condF ?_ | refine condG1 ?_ | refine condG0 ?_ | refine cD ?_ | refine dD ?_ | refine cB ?_ | refine dB ?_ | refine cN ?_ | refine dN ?_ | refine cV ?_ | refine dV ?_ | refine cE ?_ | refine dE ?_ | refine condX0 ?_ | refine condX1 ?_ | refine condNot ?_ | refine condAnd ?_ | refine condOr ?_ | refine aO ?_ | refine aB ?_ | refine aR ?_ | refine aR ?_ (by simp; omega) | refine xr (by assumption) ?_ | refine ai (by assumption) ?_ | refine kX [(90, _, _), (500, _, _)] [] ⟨rfl, rfl, trivial⟩ trivial (d1) ?_ | refine condD (fun h => ?_) (fun h => ?_) | refine condB (fun h => ?_) (fun h => ?_) | refine condN (fun h => ?_) (fun h => ?_) | refine condE (fun h => ?_) (fun h => ?_) | refine condV (fun h => ?_) (fun h => ?_))
  refine ev_keep [16, 14] [78, 80, 90, 500] ?_
  exact hEnd135 ((downS s p now []).1) now ((downS s p now []).2) _ _ _ _ _ rfl _ rfl _ _ _
theorem h6 (s : Ses) (c : Conf) (hc : c.ok) (peer now er : Int) (m : PMsg) (hk : knownS c peer = true)  : Gives G 135 [.agg s.enc, .agg c.enc, .int .i64 peer, .int .i64 now, .int .i64 6, .agg m.enc, .int .i64 er] [] (handleRet (noS, stopA s)) := by
  have hp := hc.nets; have p1 := hc.p1; have p2 := hc.p2; have p3 := hc.p3; have p4 := hc.p4
  have hpl : (c.peers.map Peer.enc).length = c.peers.length := by simp
  obtain ⟨fl, d1⟩ := stop_gives153 s now [] (by simp)
  unfold runRet3 at d1
  refine hPre135 s c hc peer now 6 er m.enc (PMsg.pure m) hk _ ?_
  intro g1 g2 g3 g4 g7 g8 g12 T H ct
  refine ev_seq (b := sfx 5 f135.body) ?_
  refine W_okd 1 300 _ _ _ _ ?_
  repeat' ((conv => whnf); first | refine zA ?_ | refine wAdd ?_ | refine bslP (by first | rfl | (simp [pureL, pureLL, AV.pure]; done) | fail) rfl ?_ | refine TakeC.full (by first | rfl | omega | (simp; done) | (simp; omega) | fail) ?_ | refine zBs ?_ | refine zBn ?_ | refine zBv rfl rfl ?_ | refine zN ?_ | refine zC ?_ | refine zC4 ?_ | refine zOr16 ?_ | refine zC1 ?_ | refine zByte ?_ | refine zMaxL ?_ | refine zMaxR ?_ | refine zMinL ?_ | refine zMinR ?_ | refine zShr ?_ | refine zC8 ?_ | refine zQ ?_ | refine zR ?_ | refine zS ?_ | refine zA ?_ | refine zM ?_ | refine xr rfl ?_ | refine ai rfl ?_ | refine condT ?_ | refine condF ?_ | refine condG1 ?_ | refine condG0 ?_ | refine cD ?_ | refine dD ?_ | refine cB ?_ | refine dB ?_ | refine cN ?_ | refine dN ?_ | refine cV ?_ | refine dV ?_ | refine cE ?_ | refine dE ?_ | refine condX0 ?_ | refine condX1 ?_ | refine condNot ?_ | refine condAnd ?_ | refine condOr ?_ | refine aO ?_ | refine aB ?_ | refine aR ?_ | refine aR ?_ (by simp; omega) | refine xr (by assumption) ?_ | refine ai (by assumption) ?_ | refine kX [(80, _, _), (90, _, _), (500, _, _)] [] ⟨rfl, rfl, rfl, trivial⟩ trivial (d1) ?_ | refine condD (fun h => ?_) (fun h => ?_) | refine condB (fun h => ?_) (fun h => ?_) | refine condN (fun h => ?_) (fun h => ?_) | refine condE (fun h => ?_) (fun h => ?_) | refine condV (fun h => ?_) (fun h => ?_))
  refine ev_keep [16, 14] [78, 80, 90, 500] ?_
  exact hEnd135 (noS) now (stopA s) _ _ _ _ _ rfl _ rfl _ _ _
theorem h4 (s : Ses) (c : Conf) (hc : c.ok) (peer now er : Int) (m : PMsg) (hk : knownS c peer = true) (hm : LenO m) : Gives G 135 [.agg s.enc, .agg c.enc, .int .i64 peer, .int .i64 now, .int .i64 4, .agg m.enc, .int .i64 er] [] (handleRet ((dataS c peer s m er now []).1, (dataS c peer s m er now []).2)) := by
  have hp := hc.nets; have p1 := hc.p1; have p2 := hc.p2; have p3 := hc.p3; have p4 := hc.p4
  have hpl : (c.peers.map Peer.enc).length = c.peers.length := by simp
  obtain ⟨fl, d1⟩ := data_gives155 c hc peer m hm s er now [] (by simp)
  unfold runRet3 at d1
  generalize hdz : dataS c peer s m er now [] = dz at *
  refine hPre135 s c hc peer now 4 er m.enc (PMsg.pure m) hk _ ?_
  intro g1 g2 g3 g4 g7 g8 g12 T H ct
  refine ev_seq (b := sfx 5 f135.body) ?_
  refine W_okd 1 300 _ _ _ _ ?_
  repeat' ((conv => whnf); first | refine zA ?_ | refine wAdd ?_ | refine kXp [(80, _, _), (90, _, _), (500, _, _)] _ [90, 80] ⟨rfl, rfl, rfl, trivial⟩ d1 ?_ (by simp [renXL, AV.renX, renX_pure hp, renX_pure p1, renX_pure p2, renX_pure p3, renX_pure p4, Conf.enc, PMsg.enc, zidx, show Nat.beq 90 80 = false from rfl, show Nat.beq 80 90 = false from rfl]) (by simp [okXL, AV.okX, okX_pure hp, okX_pure p1, okX_pure p2, okX_pure p3, okX_pure p4, pureLL_bytes, zidx]) (by simp [kSL, AV.kS, kS_pure hp, kS_pure p1, kS_pure p2, kS_pure p3, kS_pure p4]) (by simp [kSL, AV.kS, kS_pure hp, kS_pure p1, kS_pure p2, kS_pure p3, kS_pure p4]) (by simp) | refine bslP (by first | rfl | (simp [pureL, pureLL, AV.pure]; done) | fail) rfl ?_ | refine TakeC.full (by first | rfl | omega | (simp; done) | (simp; omega) | fail) ?_ | refine zBs ?_ | refine zBn ?_ | refine zBv rfl rfl ?_ | refine zN ?_ | refine zC ?_ | refine zC4 ?_ | refine zOr16 ?_ | refine zC1 ?_ | refine zByte ?_ | refine zMaxL ?_ | refine zMaxR ?_ | refine zMinL ?_ | refine zMinR ?_ | refine zShr ?_ | refine zC8 ?_ | refine zQ ?_ | refine zR ?_ | refine zS ?_ | refine zA ?_ | refine zM ?_ | refine xr rfl ?_ | refine ai rfl ?_ | refine condT ?_ | refine condF ?_ | refine condG1 ?_ | refine condG0 ?_ | refine cD ?_ | refine dD ?_ | refine cB ?_ | refine dB ?_ | refine cN ?_ | refine dN ?_ | refine cV ?_ | refine dV ?_ | refine cE ?_ | refine dE ?_ | refine condX0 ?_ | refine condX1 ?_ | refine condNot ?_ | refine condAnd ?_ | refine condOr ?_ | refine aO ?_ | refine aB ?_ | refine aR ?_ | refine aR ?_ (by simp; omega) | refine xr (by assumption) ?_ | refine ai (by assumption) ?_ | refine condD (fun h => ?_) (fun h => ?_) | refine condB (fun h => ?_) (fun h => ?_) | refine condN (fun h => ?_) (fun h => ?_) | refine condE (fun h => ?_) (fun h => ?_) | refine condV (fun h => ?_) (fun h => ?_))
  refine ev_keep [16, 14] [78, 80, 90, 500] ?_
  exact hEnd135 (dz.1) now (dz.2) _ _ _ _ _ rfl _ rfl _ _ _
theorem h0 (s : Ses) (c : Conf) (hc : c.ok) (peer now ev er : Int) (m : PMsg) (hk : knownS c peer = true) (e1 : ¬ ev = 1) (e2 : ¬ ev = 2) (e3 : ¬ ev = 3) (e4 : ¬ ev = 4) (e5 : ¬ ev = 5) (e6 : ¬ ev = 6) : Gives G 135 [.agg s.enc, .agg c.enc, .int .i64 peer, .int .i64 now, .int .i64 ev, .agg m.enc, .int .i64 er] [] (handleRet (s, [])) := by
  have hp := hc.nets; have p1 := hc.p1; have p2 := hc.p2; have p3 := hc.p3; have p4 := hc.p4
  have hpl : (c.peers.map Peer.enc).length = c.peers.length := by simp
  refine hPre135 s c hc peer now ev er m.enc (PMsg.pure m) hk _ ?_
  intro g1 g2 g3 g4 g7 g8 g12 T H ct
  refine ev_seq (b := sfx 5 f135.body) ?_
  refine W_okd 1 300 _ _ _ _ ?_
  repeat' ((conv => whnf); first | refine zA ?_ | refine wAdd ?_ | refine bslP (by first | rfl | (simp [pureL, pureLL, AV.pure]; done) | fail) rfl ?_ | refine TakeC.full (by first | rfl | omega | (simp; done) | (simp; omega) | fail) ?_ | refine zBs ?_ | refine zBn ?_ | refine zBv rfl rfl ?_ | refine zN ?_ | refine zC ?_ | refine zC4 ?_ | refine zOr16 ?_ | refine zC1 ?_ | refine zByte ?_ | refine zMaxL ?_ | refine zMaxR ?_ | refine zMinL ?_ | refine zMinR ?_ | refine zShr ?_ | refine zC8 ?_ | refine zQ ?_ | refine zR ?_ | refine zS ?_ | refine zA ?_ | refine zM ?_ | refine xr rfl ?_ | refine ai rfl ?_ | refine condT ?_ | refine condF ?_ | refine condG1 ?_ | refine condG0 ?_ | refine cD ?_ | refine dD ?_ | refine cB ?_ | refine dB ?_ | refine cN ?_ | refine dN ?_ | refine cV ?_ | refine dV ?_ | refine cE ?_ | refine dE ?_ | refine condX0 ?_ | refine condX1 ?_ | refine condNot ?_ | refine condAnd ?_ | refine condOr ?_ | refine aO ?_ | refine aB ?_ | refine aR ?_ | refine aR ?_ (by simp; omega) | refine xr (by assumption) ?_ | refine ai (by assumption) ?_ | refine condD (fun h => ?_) (fun h => ?_) | refine condB (fun h => ?_) (fun h => ?_) | refine condN (fun h => ?_) (fun h => ?_) | refine condE (fun h => ?_) (fun h => ?_) | refine condV (fun h => ?_) (fun h => ?_))
  refine ev_keep [16, 14] [78, 80, 90, 500] ?_
  exact hEnd135 (s) now ([]) _ _ _ _ _ rfl _ rfl _ _ _
theorem handle_gives135 (s : Ses) (c : Conf) (hc : c.ok) (peer now ev er : Int) (m : PMsg) (hm : LenO m) : Gives G 135 [.agg s.enc, .agg c.enc, .int .i64 peer, .int .i64 now, .int .i64 ev, .agg m.enc, .int .i64 er] [] (handleRet (handleS c peer s m er ev now)) := by
  unfold handleS
  cases hk : knownS c peer
  · rw [if_pos rfl]; exact handle_u s c hc peer now ev er m hk
  rw [if_neg (by simp)]
  by_cases e1 : ev = 1
  · rw [if_pos e1]; subst e1
    by_cases h1 : s.state = 0
    · rw [if_pos h1]; exact h1a s c hc peer now er m hk h1
    · rw [if_neg h1]; exact h1b s c hc peer now er m hk h1
  rw [if_neg e1]
  by_cases e2 : ev = 2
  · rw [if_pos e2]; subst e2
    by_cases h1 : s.state = 1
    · rw [if_pos h1]; exact h2a s c hc peer now er m hk h1
    rw [if_neg h1]
    by_cases h2 : s.state = 0
    · rw [if_pos h2]; exact h2b s c hc peer now er m hk h2
    · rw [if_neg h2]; exact h2c s c hc peer now er m hk h1 h2
  rw [if_neg e2]
  by_cases e3 : ev = 3
  · rw [if_pos e3]; subst e3
    have h0 : 0 ≤ peer ∧ peer < c.peers.length := by simpa [knownS] using hk
    have hlt : peer.toNat < c.peers.length := by omega
    have hx : (c.peers.map Peer.enc)[peer.toNat]? = some (Peer.enc c.peers[peer.toNat]) := by simp [hlt]
    have hd : downE c peer s now = (if s.state < 2 ∨ s.state > 4 then (s, []) else downS s c.peers[peer.toNat] now []) := by simp [downE, hlt]
    rw [hd]
    by_cases h1 : s.state < 2
    · rw [if_pos (Or.inl h1)]; exact h3a s c hc peer now er m hk h1
    by_cases h2 : s.state > 4
    · rw [if_pos (Or.inr h2)]; exact h3b s c hc peer now er m hk h2
    rw [if_neg (by omega)]; exact h3c s c hc peer now er m hk (by omega) (by omega) _ hx
  rw [if_neg e3]
  by_cases e6 : ev = 6
  · rw [if_pos e6]; subst e6; exact h6 s c hc peer now er m hk
  rw [if_neg e6]
  by_cases e5 : ev = 5
  · rw [if_pos e5]; subst e5; exact handle5_gives135 s c hc peer now er m.enc (PMsg.pure m) hk
  rw [if_neg e5]
  by_cases e4 : ev = 4
  · rw [if_pos e4]; subst e4; exact h4 s c hc peer now er m hk hm
  rw [if_neg e4]; exact h0 s c hc peer now ev er m hk e1 e2 e3 e4 e5 e6
end Go.AM.IR
set_option maxHeartbeats 4000000
set_option maxRecDepth 20000
namespace Go.AM.IR
end Go.AM.IR
namespace Go.AM.IR
set_option maxHeartbeats 2000000
theorem bkLL_map_le {α : Type} (f : α → List AV) (g : α → Nat) (h : ∀ x, g x ≤ bkL (f x)) : ∀ l : List α, (l.map g).sum ≤ bkLL (l.map f)
  | [] => by simp
  | x :: r => by
    have := bkLL_map_le f g h r
    have := h x
    simp only [List.map_cons, List.sum_cons, bkLL]
    omega
theorem sum_one {α : Type} : ∀ l : List α, (l.map fun _ => 1).sum = l.length
  | [] => rfl
  | x :: r => by simp only [List.map_cons, List.sum_cons, List.length_cons, sum_one r]; omega
theorem len_bk {α : Type} (f : α → List AV) (h : ∀ x, 1 ≤ bkL (f x)) (l : List α) : l.length ≤ bkLL (l.map f) := by
  have := bkLL_map_le f (fun _ => 1) h l
  rwa [sum_one] at this
theorem mem_bk {α : Type} (f : α → List AV) : ∀ (l : List α) (x : α), x ∈ l → bkL (f x) ≤ bkLL (l.map f)
  | y :: r, x, h => by
    simp only [List.map_cons, bkLL]
    rcases List.mem_cons.1 h with rfl | h
    · omega
    · have := mem_bk f r x h; omega
theorem bk_bytes (l : List UInt8) : l.length ≤ bkLL (byteCells l) := len_bk (f := fun b : UInt8 => [AV.int .u8 (b.toNat : Int)]) (fun _ => by simp [bkL, AV.bk]) l
theorem seg_bk (s : Seg) : s.as.length + 1 ≤ bkL s.enc := by
  have := len_bk encI (fun _ => by simp [encI, bkL, AV.bk]) s.as
  simp only [Seg.enc, bkL, AV.bk]; omega
theorem tlv_bk (s : TLV) : s.value.length + 1 ≤ bkL s.enc := by
  have := bk_bytes s.value
  simp only [TLV.enc, bkL, AV.bk]; omega
theorem flat_len : ∀ l : List Seg, (flatS l).length = (l.map fun s => s.as.length).sum
  | [] => rfl
  | s :: r => by
    have := flat_len r
    simp only [flatS, List.flatMap_cons, List.length_append, List.map_cons, List.sum_cons] at this ⊢
    omega
theorem unk_le : ∀ l : List TLV, unkS l ≤ ((l.map fun t => t.value.length).sum : Nat)
  | [] => by simp [unkS]
  | t :: r => by
    have := unk_le r
    simp only [unkS, List.map_cons, List.sum_cons] at this ⊢
    omega
theorem ab_of (a : Attrs) (h : bkL a.enc ≤ 1048576) : AB a := by
  simp only [Attrs.enc, bkL, AV.bk] at h
  have h1 := len_bk Seg.enc (fun s => by have := seg_bk s; omega) a.path
  have h2 := bkLL_map_le Seg.enc (fun s => s.as.length) (fun s => by have := seg_bk s; omega) a.path
  have h3 := len_bk encU (fun _ => by simp [encU, bkL, AV.bk]) a.comms
  have h4 := len_bk encU (fun _ => by simp [encU, bkL, AV.bk]) a.clusters
  have h5 := len_bk TLV.enc (fun s => by have := tlv_bk s; omega) a.unknown
  have h6 := bkLL_map_le TLV.enc (fun t => t.value.length) (fun s => by have := tlv_bk s; omega) a.unknown
  have h7 := unk_le a.unknown
  rw [← flat_len] at h2
  generalize bkLL (a.path.map Seg.enc) = z1 at *
  generalize bkLL (a.comms.map encU) = z2 at *
  generalize bkLL (a.clusters.map encU) = z3 at *
  refine ⟨by omega, by omega, by omega, by omega, by omega, fun t ht => ?_, by omega⟩
  have := mem_bk TLV.enc a.unknown t ht
  have := tlv_bk t
  omega
end Go.AM.IR
set_option maxHeartbeats 4000000
set_option maxRecDepth 20000
namespace Go.AM.IR
end Go.AM.IR
set_option maxHeartbeats 4000000
set_option maxRecDepth 20000
namespace Go.AM.IR
theorem sizeS_le {a : Attrs} (h : AB a) : LenB a where
  path := h.path
  segs s hs := by
    have h1 := h.flat
    have h2 : s.as.length ≤ (flatS a.path).length := by
      unfold flatS
      obtain ⟨p, q, e⟩ := List.append_of_mem hs
      rw [e]; simp; omega
    omega
  comms := h.comms
  clusters := h.clusters
  unknown := h.unknown
  vals := h.vals
end Go.AM.IR
set_option maxHeartbeats 4000000
set_option maxRecDepth 20000
namespace Go.AM.IR
attribute [local simp] pureLL_bytes
structure AM (m : PMsg) : Prop where
  attrs : AB m.attrs
  caps : m.caps.length < 2 ^ 40
  withdrawn : m.withdrawn.length < 2 ^ 40
  reach : m.reach.length < 2 ^ 40
  data : m.data.length < 2 ^ 40
  capT : capT m.caps < 2 ^ 50
theorem cap_bk (c : Cap) : c.value.length + 1 ≤ bkL c.enc := by
  have := bk_bytes c.value
  simp only [Cap.enc, bkL, AV.bk]; omega
theorem capT_bk : ∀ l : List Cap, capT l ≤ 2 * l.length + ((l.map fun t => t.value.length).sum : Nat)
  | [] => by simp [capT]
  | c :: r => by
    have := capT_bk r
    simp only [capT, List.map_cons, List.sum_cons, List.length_cons] at this ⊢
    omega
theorem cap1 (s : Cap) : 1 ≤ bkL s.enc := by have := cap_bk s; omega
theorem cap2 (s : Cap) : s.value.length ≤ bkL s.enc := by have := cap_bk s; omega
theorem pfx1 (s : Pfx) : 1 ≤ bkL s.enc := by simp [Pfx.enc, bkL, AV.bk]
theorem am_of (m : PMsg) (h : bkL m.enc ≤ 1048576) : AM m := by
  have h0 : bkL m.attrs.enc ≤ bkL m.enc := by simp only [PMsg.enc, Attrs.enc, bkL, AV.bk]; omega
  have ha := ab_of m.attrs (Nat.le_trans h0 h)
  have h1 := len_bk Cap.enc cap1 m.caps
  have h2 := bkLL_map_le Cap.enc (fun t => t.value.length) cap2 m.caps
  have h3 := len_bk Pfx.enc pfx1 m.withdrawn
  have h4 := len_bk Pfx.enc pfx1 m.reach
  have h5 := bk_bytes m.data
  have h6 := capT_bk m.caps
  clear h0
  simp only [PMsg.enc, bkL, AV.bk] at h
  generalize bkLL (m.caps.map Cap.enc) = z1 at *
  generalize bkLL (m.withdrawn.map Pfx.enc) = z2 at *
  generalize bkLL (m.reach.map Pfx.enc) = z3 at *
  generalize bkLL (byteCells m.data) = z4 at *
  generalize bkLL (m.attrs.path.map Seg.enc) = z5 at *
  generalize bkLL (m.attrs.comms.map encU) = z6 at *
  generalize bkLL (m.attrs.clusters.map encU) = z7 at *
  generalize bkLL (m.attrs.unknown.map TLV.enc) = z8 at *
  generalize (m.caps.map fun t => t.value.length).sum = z9 at *
  exact ⟨ha, by omega, by omega, by omega, by omega, by omega⟩
theorem AM.lenO {m : PMsg} (h : AM m) : LenO m := by
  have := sizeS_le h.attrs
  exact ⟨⟨h.caps, h.withdrawn, h.reach, ⟨this.path, this.segs, this.comms, this.clusters, this.unknown⟩⟩, h.capT⟩
def largeM (m : PMsg) : Bool := decide (sizeS m.attrs > 3000 ∨ m.withdrawn.length > 30000 ∨ m.reach.length > 30000 ∨ m.caps.length > 400 ∨ m.data.length > 70000)
theorem large_gives130 (m : PMsg) (h : AM m) : Gives G 130 [.agg m.enc] [] ⟨.bool (largeM m), []⟩ := by
  have h1 := large_gives21 m.attrs h.attrs
  have l1 : (m.caps.map Cap.enc).length = m.caps.length := by simp
  have l2 : (m.withdrawn.map Pfx.enc).length = m.withdrawn.length := by simp
  have l3 : (m.reach.map Pfx.enc).length = m.reach.length := by simp
  have l4 := byteCells_length m.data
  refine gives_code (F := f130) rfl rfl (W_ok 300 _ _ _ _ ?_)
  repeat' ((conv => whnf); first | refine bslP (by first | rfl | (simp [pureL, pureLL, AV.pure]; done) | fail) rfl ?_ | refine TakeC.full (by first | rfl | omega | (simp; done) | (simp; omega) | fail) ?_ | refine zBs ?_ | refine zBn ?_ | refine zBv rfl rfl ?_ | refine zN ?_ | refine zC ?_ | refine zC4 ?_ | refine zOr16 ?_ | refine zC1 ?_ | refine zByte ?_ | refine zMaxL ?_ | refine zMaxR ?_ | refine zMinL ?_ | refine zMinR ?_ | refine zShr ?_ | refine zC8 ?_ | refine zQ ?_ | refine zR ?_ | refine zS ?_ | refine zA ?_ | refine zM ?_ | refine xr rfl ?_ | refine ai rfl ?_ | refine condT ?_ | refine condF ?_ | refine condG1 ?_ | refine condG0 ?_ | refine cD ?_ | refine dD ?_ | refine cB ?_ | refine dB ?_ | refine cN ?_ | refine dN ?_ | refine cV ?_ | refine dV ?_ | refine cE ?_ | refine dE ?_ | refine condX0 ?_ | refine condX1 ?_ | refine condNot ?_ | refine condAnd ?_ | refine condOr ?_ | refine aO ?_ | refine aB ?_ | refine aR ?_ | refine aR ?_ (by simp; omega) | refine xr (by assumption) ?_ | refine ai (by assumption) ?_ | refine kV (h1) ?_ | refine condD (fun h => ?_) (fun h => ?_) | refine condB (fun h => ?_) (fun h => ?_) | refine condN (fun h => ?_) (fun h => ?_) | refine condE (fun h => ?_) (fun h => ?_) | refine condV (fun h => ?_) (fun h => ?_))
  all_goals (try simp only [l1, l2, l3, l4] at *)
  all_goals (try (first | refine ev_fin (And.intro (by first | rfl | (simp [AV.pure, pureL]; done) | fail) ?_) | refine ev_fin0 (And.intro (by first | rfl | (simp [AV.pure, pureL]; done) | fail) ?_)))
  all_goals (refine rBl ?_; rw [largeM, Bool.eq_iff_iff]; simp only [decide_eq_true_eq, true_iff, false_iff, Bool.false_eq_true, Bool.true_eq_false]; omega)
end Go.AM.IR
set_option maxHeartbeats 4000000
set_option maxRecDepth 20000
namespace Go.AM.IR
attribute [local simp] pureLL_bytes
def actOk (s t : Ses) (a : Act) : Prop := (a.kind = 4 → s.state ≠ 4 ∧ t.state = 4) ∧ ((a.kind = 5 ∨ a.kind = 6) → s.state = 4 ∧ t.state ≠ 4) ∧ (a.kind = 8 → s.state = 4 ∧ t.state = 4)
def allOk (s t : Ses) (l : List Act) : Prop := ∀ a ∈ l, actOk s t a
theorem actOk_of {s t : Ses} {a : Act} (h : a.kind = 1 ∨ a.kind = 2 ∨ a.kind = 3 ∨ a.kind = 7) : actOk s t a := ⟨fun _ => by omega, fun _ => by omega, fun _ => by omega⟩
theorem allOk_nil {s t : Ses} : allOk s t [] := fun _ h => by simp at h
theorem allOk_cons {s t : Ses} {a : Act} {l : List Act} (h1 : actOk s t a) (h2 : allOk s t l) : allOk s t (a :: l) := fun x hx => by
  rcases List.mem_cons.1 hx with rfl | hx
  · exact h1
  · exact h2 x hx
theorem allOk_app {s t : Ses} {a l : List Act} (h1 : allOk s t a) (h2 : allOk s t l) : allOk s t (a ++ l) := fun x hx => by
  rcases List.mem_append.1 hx with hx | hx
  · exact h1 x hx
  · exact h2 x hx
theorem allOk_one {s t : Ses} {a : Act} (h : a.kind = 1 ∨ a.kind = 2 ∨ a.kind = 3 ∨ a.kind = 7) : allOk s t [a] := allOk_cons (actOk_of h) allOk_nil
theorem lost_ok {s s0 : Ses} (hs : s0.state = s.state) (now : Int) : allOk s (lostS s0 now) (lostA s0) := by
  unfold lostA
  refine allOk_cons (actOk_of (by simp [act0])) ?_
  split
  · refine allOk_cons ⟨fun h => by simp [act0] at h, fun _ => ⟨by omega, by simp [lostS]⟩, fun h => by simp [act0] at h⟩ allOk_nil
  · exact allOk_nil
theorem stop_ok (s : Ses) : allOk s noS (stopA s) := by
  unfold stopA
  refine allOk_app ?_ ?_
  · split
    · rename_i h4
      refine allOk_cons (actOk_of (by simp [sendA])) (allOk_cons (actOk_of (by simp [act0])) (allOk_cons ?_ allOk_nil))
      exact ⟨fun h => by simp [act0] at h, fun _ => ⟨h4, by simp [noS]⟩, fun h => by simp [act0] at h⟩
    · split
      · exact allOk_cons (actOk_of (by simp [sendA])) (allOk_cons (actOk_of (by simp [act0])) allOk_nil)
      · exact allOk_nil
  · split
    · exact allOk_one (by simp [act0])
    · exact allOk_nil
theorem down_ok (s : Ses) (p : Peer) (now : Int) : allOk s (downS s p now []).1 (downS s p now []).2 := by
  unfold downS
  split
  · rename_i h4
    split
    · exact allOk_cons ⟨fun h => by simp [act0] at h, fun _ => ⟨h4, by simp⟩, fun h => by simp [act0] at h⟩ allOk_nil
    · exact allOk_cons ⟨fun h => by simp [act0] at h, fun _ => ⟨h4, by simp [lostS]⟩, fun h => by simp [act0] at h⟩ allOk_nil
  · exact allOk_nil
theorem timers_ok (s : Ses) (now : Int) : allOk s (timersS s now []).1 (timersS s now []).2 := by
  unfold timersS
  have h1 : (tm1 s now []).1.state = s.state ∧ ∀ t, allOk s t (tm1 s now []).2 := by
    unfold tm1; cases dueS s.untl now
    · exact ⟨rfl, fun t => allOk_nil⟩
    · exact ⟨rfl, fun t => allOk_one (by simp [act0])⟩
  obtain ⟨h1, h2⟩ := h1
  generalize tm1 s now [] = x at *
  obtain ⟨y, A⟩ := x
  simp only at h1 h2 ⊢
  cases dueS y.hold now
  · simp only [cond_false]
    have h3 : ∀ t, allOk s t (tm3 (y, A) now).2 := by
      intro t; unfold tm3; cases dueS y.keep now
      · exact h2 t
      · exact allOk_app (h2 t) (allOk_one (by simp [sendA]))
    generalize tm3 (y, A) now = z at *
    unfold tm4; cases dueS z.1.retry now
    · exact h3 _
    · exact allOk_app (h3 _) (allOk_one (by simp [act0]))
  · simp only [cond_true]
    exact allOk_app (allOk_app (h2 _) (allOk_one (by simp [sendA]))) (lost_ok h1 now)
theorem opened_ok (c : Conf) (peer : Int) (s : Ses) (m : PMsg) (now : Int) : allOk s (openedS c peer s m now []).1 (openedS c peer s m now []).2 := by
  unfold openedS
  split
  · exact allOk_app (allOk_one (by simp [sendA])) (lost_ok rfl now)
  · split
    · exact allOk_app (allOk_one (by simp [sendA])) (lost_ok rfl now)
    · split
      · exact allOk_one (by simp [sendA])
      · exact allOk_one (by simp [sendA])
theorem conf_ok (s : Ses) (m : PMsg) (now : Int) (h3 : s.state = 3) : allOk s (confS s m now []).1 (confS s m now []).2 := by
  have hr := (renew_f { s with state := 4 } now).2.2.2
  have hk : ∀ t : Ses, t.state = 4 → actOk s t (act0 4) := fun t ht => ⟨fun _ => ⟨by omega, ht⟩, fun h => by simp [act0] at h, fun h => by simp [act0] at h⟩
  unfold confS
  split
  · exact allOk_app (allOk_one (by simp [sendA])) (lost_ok rfl now)
  · split
    · exact allOk_cons (hk _ hr) (allOk_one (by simp [act0]))
    · exact allOk_cons (hk _ hr) allOk_nil
theorem est_ok (s : Ses) (m : PMsg) (now : Int) (h4 : s.state = 4) : allOk s (estS s m now []).1 (estS s m now []).2 := by
  have hr := (renew_f s now).2.2.2
  have hk : ∀ t : Ses, t.state = 4 → actOk s t ⟨8, m⟩ := fun t ht => ⟨fun h => by simp at h, fun h => by simp at h, fun _ => ⟨h4, ht⟩⟩
  unfold estS
  split
  · exact allOk_nil
  · split
    · split
      · exact allOk_cons (hk _ (by simp only; omega)) (allOk_one (by simp [act0]))
      · exact allOk_cons (hk _ (hr.trans h4)) allOk_nil
    · split
      · split
        · exact allOk_cons (hk _ (hr.trans h4)) allOk_nil
        · exact allOk_nil
      · split
        · exact allOk_app (allOk_one (by simp [sendA])) (lost_ok rfl now)
        · exact allOk_nil
theorem data_ok (c : Conf) (peer : Int) (s : Ses) (m : PMsg) (er now : Int) : allOk s (dataS c peer s m er now []).1 (dataS c peer s m er now []).2 := by
  unfold dataS
  split
  · exact allOk_nil
  · split
    · split
      · exact lost_ok rfl now
      · exact allOk_app (allOk_one (by simp [sendA])) (lost_ok rfl now)
    · split
      · exact lost_ok rfl now
      · split
        · exact opened_ok c peer s m now
        · split
          · exact conf_ok s m now (by assumption)
          · exact est_ok s m now (by omega)
theorem handle_ok (c : Conf) (peer : Int) (s : Ses) (m : PMsg) (er ev now : Int) : allOk s (handleS c peer s m er ev now).1 (handleS c peer s m er ev now).2 := by
  unfold handleS
  split
  · exact allOk_nil
  split
  · split
    · exact allOk_one (by simp [act0])
    · exact allOk_nil
  split
  · split
    · exact allOk_one (by simp [sendA])
    · split
      · exact allOk_one (by simp [act0])
      · exact allOk_nil
  split
  · unfold downE
    split
    · exact allOk_nil
    · split
      · exact allOk_nil
      · exact down_ok s _ now
  split
  · exact stop_ok s
  split
  · exact timers_ok s now
  split
  · exact data_ok c peer s m er now
  · exact allOk_nil
theorem ord_loop125 (l : List Act) (s t : Ses) (hok : allOk s t l) (g3 g7 : Nat) (hl : l.length < 2 ^ 40) (ln : Int) (hln : ln = l.length) : ∀ (rest done : List Act)  (T : List (Nat × AV)) (H : Heap) (c : Nat) (n : Int) (e : l = done ++ rest) (hn : n = done.length) , Ev G ⟨f125x20LH, ⟨(33, .sl 28 (l.map Act.enc)) :: (34, .int .i64 ln) :: (35, .int .i64 n) :: (7, .ref 71 g7 0) :: (3, .ref 67 g3 0) :: T, (67, some (g3, .cells s.enc)) :: (71, some (g7, .cells t.enc)) :: H, c⟩, [.t 6], 0⟩ (⟨.bool true, []⟩)
  | [], done,  T, H, c, n, e, hn => by
    have hd : l.length = done.length := by simp [e]
    have hll : (l.map Act.enc).length = l.length := by simp
    refine ev_loop' (W_ok 300 _ _ _ _ ?_)
    repeat' ((conv => whnf); first | refine bslP (by first | rfl | (simp [pureL, pureLL, AV.pure]; done) | fail) rfl ?_ | refine TakeC.full (by first | rfl | omega | (simp; done) | (simp; omega) | fail) ?_ | refine zBs ?_ | refine zBn ?_ | refine zBv rfl rfl ?_ | refine zN ?_ | refine zC ?_ | refine zC4 ?_ | refine zOr16 ?_ | refine zC1 ?_ | refine zByte ?_ | refine zMaxL ?_ | refine zMaxR ?_ | refine zMinL ?_ | refine zMinR ?_ | refine zShr ?_ | refine zC8 ?_ | refine zQ ?_ | refine zR ?_ | refine zS ?_ | refine zA ?_ | refine zM ?_ | refine xr rfl ?_ | refine ai rfl ?_ | refine condT ?_ | refine condF ?_ | refine condG1 ?_ | refine condG0 ?_ | refine cD ?_ | refine dD ?_ | refine cB ?_ | refine dB ?_ | refine cN ?_ | refine dN ?_ | refine cV ?_ | refine dV ?_ | refine cE ?_ | refine dE ?_ | refine condX0 ?_ | refine condX1 ?_ | refine condNot ?_ | refine condAnd ?_ | refine condOr ?_ | refine aO ?_ | refine aB ?_ | refine aR ?_ | refine aR ?_ (by simp; omega) | refine xr (by assumption) ?_ | refine ai (by assumption) ?_ | refine kV (awake129_gives) ?_ | refine condD (fun h => ?_) (fun h => ?_) | refine condB (fun h => ?_) (fun h => ?_) | refine condN (fun h => ?_) (fun h => ?_) | refine condE (fun h => ?_) (fun h => ?_) | refine condV (fun h => ?_) (fun h => ?_))
    all_goals try ((first | refine ev_fin (And.intro (by first | rfl | (simp [AV.pure, pureL]; done) | fail) ?_) | refine ev_fin0 (And.intro (by first | rfl | (simp [AV.pure, pureL]; done) | fail) ?_)); first | rfl | (simp [Bool.cond_eq_ite, *]; done) | (simp [Bool.cond_eq_ite, *]; omega))
  | x :: r, done,  T, H, c, n, e, hn => by
    have hd : l.length = done.length + (r.length + 1) := by simp [e]
    have hll : (l.map Act.enc).length = l.length := by simp
    have hx : (l.map Act.enc)[n.toNat]? = some (Act.enc x) := by simp [e, hn]
    obtain ⟨k1, k2, k3⟩ := hok x (by simp [e])
    by_cases c4 : x.kind = 4
    · obtain ⟨p1, p2⟩ := k1 c4
      refine ev_loop' (W_ok 300 _ _ _ _ ?_)
      repeat' ((conv => whnf); first | refine bslP (by first | rfl | (simp [pureL, pureLL, AV.pure]; done) | fail) rfl ?_ | refine TakeC.full (by first | rfl | omega | (simp; done) | (simp; omega) | fail) ?_ | refine zBs ?_ | refine zBn ?_ | refine zBv rfl rfl ?_ | refine zN ?_ | refine zC ?_ | refine zC4 ?_ | refine zOr16 ?_ | refine zC1 ?_ | refine zByte ?_ | refine zMaxL ?_ | refine zMaxR ?_ | refine zMinL ?_ | refine zMinR ?_ | refine zShr ?_ | refine zC8 ?_ | refine zQ ?_ | refine zR ?_ | refine zS ?_ | refine zA ?_ | refine zM ?_ | refine xr rfl ?_ | refine ai rfl ?_ | refine condT ?_ | refine condF ?_ | refine condG1 ?_ | refine condG0 ?_ | refine cD ?_ | refine dD ?_ | refine cB ?_ | refine dB ?_ | refine cN ?_ | refine dN ?_ | refine cV ?_ | refine dV ?_ | refine cE ?_ | refine dE ?_ | refine condX0 ?_ | refine condX1 ?_ | refine condNot ?_ | refine condAnd ?_ | refine condOr ?_ | refine aO ?_ | refine aB ?_ | refine aR ?_ | refine aR ?_ (by simp; omega) | refine xr (by assumption) ?_ | refine ai (by assumption) ?_ | refine condD (fun h => ?_) (fun h => ?_) | refine condB (fun h => ?_) (fun h => ?_) | refine condN (fun h => ?_) (fun h => ?_) | refine condE (fun h => ?_) (fun h => ?_) | refine condV (fun h => ?_) (fun h => ?_))
      refine ev_keep [33, 34, 35, 7, 3] [67, 71] ?_; exact ord_loop125 l s t hok g3 g7 hl ln hln r (done ++ [x])  _ _ _ (n + 1) (by simp [e]) (by simp [hn] <;> omega)
    · by_cases c5 : x.kind = 5
      · obtain ⟨p1, p2⟩ := k2 (Or.inl c5)
        refine ev_loop' (W_ok 300 _ _ _ _ ?_)
        repeat' ((conv => whnf); first | refine bslP (by first | rfl | (simp [pureL, pureLL, AV.pure]; done) | fail) rfl ?_ | refine TakeC.full (by first | rfl | omega | (simp; done) | (simp; omega) | fail) ?_ | refine zBs ?_ | refine zBn ?_ | refine zBv rfl rfl ?_ | refine zN ?_ | refine zC ?_ | refine zC4 ?_ | refine zOr16 ?_ | refine zC1 ?_ | refine zByte ?_ | refine zMaxL ?_ | refine zMaxR ?_ | refine zMinL ?_ | refine zMinR ?_ | refine zShr ?_ | refine zC8 ?_ | refine zQ ?_ | refine zR ?_ | refine zS ?_ | refine zA ?_ | refine zM ?_ | refine xr rfl ?_ | refine ai rfl ?_ | refine condT ?_ | refine condF ?_ | refine condG1 ?_ | refine condG0 ?_ | refine cD ?_ | refine dD ?_ | refine cB ?_ | refine dB ?_ | refine cN ?_ | refine dN ?_ | refine cV ?_ | refine dV ?_ | refine cE ?_ | refine dE ?_ | refine condX0 ?_ | refine condX1 ?_ | refine condNot ?_ | refine condAnd ?_ | refine condOr ?_ | refine aO ?_ | refine aB ?_ | refine aR ?_ | refine aR ?_ (by simp; omega) | refine xr (by assumption) ?_ | refine ai (by assumption) ?_ | refine condD (fun h => ?_) (fun h => ?_) | refine condB (fun h => ?_) (fun h => ?_) | refine condN (fun h => ?_) (fun h => ?_) | refine condE (fun h => ?_) (fun h => ?_) | refine condV (fun h => ?_) (fun h => ?_))
        refine ev_keep [33, 34, 35, 7, 3] [67, 71] ?_; exact ord_loop125 l s t hok g3 g7 hl ln hln r (done ++ [x])  _ _ _ (n + 1) (by simp [e]) (by simp [hn] <;> omega)
      · by_cases c6 : x.kind = 6
        · obtain ⟨p1, p2⟩ := k2 (Or.inr c6)
          refine ev_loop' (W_ok 300 _ _ _ _ ?_)
          repeat' ((conv => whnf); first | refine bslP (by first | rfl | (simp [pureL, pureLL, AV.pure]; done) | fail) rfl ?_ | refine TakeC.full (by first | rfl | omega | (simp; done) | (simp; omega) | fail) ?_ | refine zBs ?_ | refine zBn ?_ | refine zBv rfl rfl ?_ | refine zN ?_ | refine zC ?_ | refine zC4 ?_ | refine zOr16 ?_ | refine zC1 ?_ | refine zByte ?_ | refine zMaxL ?_ | refine zMaxR ?_ | refine zMinL ?_ | refine zMinR ?_ | refine zShr ?_ | refine zC8 ?_ | refine zQ ?_ | refine zR ?_ | refine zS ?_ | refine zA ?_ | refine zM ?_ | refine xr rfl ?_ | refine ai rfl ?_ | refine condT ?_ | refine condF ?_ | refine condG1 ?_ | refine condG0 ?_ | refine cD ?_ | refine dD ?_ | refine cB ?_ | refine dB ?_ | refine cN ?_ | refine dN ?_ | refine cV ?_ | refine dV ?_ | refine cE ?_ | refine dE ?_ | refine condX0 ?_ | refine condX1 ?_ | refine condNot ?_ | refine condAnd ?_ | refine condOr ?_ | refine aO ?_ | refine aB ?_ | refine aR ?_ | refine aR ?_ (by simp; omega) | refine xr (by assumption) ?_ | refine ai (by assumption) ?_ | refine condD (fun h => ?_) (fun h => ?_) | refine condB (fun h => ?_) (fun h => ?_) | refine condN (fun h => ?_) (fun h => ?_) | refine condE (fun h => ?_) (fun h => ?_) | refine condV (fun h => ?_) (fun h => ?_))
          refine ev_keep [33, 34, 35, 7, 3] [67, 71] ?_; exact ord_loop125 l s t hok g3 g7 hl ln hln r (done ++ [x])  _ _ _ (n + 1) (by simp [e]) (by simp [hn] <;> omega)
        · by_cases c8 : x.kind = 8
          · obtain ⟨p1, p2⟩ := k3 c8
            refine ev_loop' (W_ok 300 _ _ _ _ ?_)
            repeat' ((conv => whnf); first | refine bslP (by first | rfl | (simp [pureL, pureLL, AV.pure]; done) | fail) rfl ?_ | refine TakeC.full (by first | rfl | omega | (simp; done) | (simp; omega) | fail) ?_ | refine zBs ?_ | refine zBn ?_ | refine zBv rfl rfl ?_ | refine zN ?_ | refine zC ?_ | refine zC4 ?_ | refine zOr16 ?_ | refine zC1 ?_ | refine zByte ?_ | refine zMaxL ?_ | refine zMaxR ?_ | refine zMinL ?_ | refine zMinR ?_ | refine zShr ?_ | refine zC8 ?_ | refine zQ ?_ | refine zR ?_ | refine zS ?_ | refine zA ?_ | refine zM ?_ | refine xr rfl ?_ | refine ai rfl ?_ | refine condT ?_ | refine condF ?_ | refine condG1 ?_ | refine condG0 ?_ | refine cD ?_ | refine dD ?_ | refine cB ?_ | refine dB ?_ | refine cN ?_ | refine dN ?_ | refine cV ?_ | refine dV ?_ | refine cE ?_ | refine dE ?_ | refine condX0 ?_ | refine condX1 ?_ | refine condNot ?_ | refine condAnd ?_ | refine condOr ?_ | refine aO ?_ | refine aB ?_ | refine aR ?_ | refine aR ?_ (by simp; omega) | refine xr (by assumption) ?_ | refine ai (by assumption) ?_ | refine condD (fun h => ?_) (fun h => ?_) | refine condB (fun h => ?_) (fun h => ?_) | refine condN (fun h => ?_) (fun h => ?_) | refine condE (fun h => ?_) (fun h => ?_) | refine condV (fun h => ?_) (fun h => ?_))
            refine ev_keep [33, 34, 35, 7, 3] [67, 71] ?_; exact ord_loop125 l s t hok g3 g7 hl ln hln r (done ++ [x])  _ _ _ (n + 1) (by simp [e]) (by simp [hn] <;> omega)
          · refine ev_loop' (W_ok 300 _ _ _ _ ?_)
            repeat' ((conv => whnf); first | refine bslP (by first | rfl | (simp [pureL, pureLL, AV.pure]; done) | fail) rfl ?_ | refine TakeC.full (by first | rfl | omega | (simp; done) | (simp; omega) | fail) ?_ | refine zBs ?_ | refine zBn ?_ | refine zBv rfl rfl ?_ | refine zN ?_ | refine zC ?_ | refine zC4 ?_ | refine zOr16 ?_ | refine zC1 ?_ | refine zByte ?_ | refine zMaxL ?_ | refine zMaxR ?_ | refine zMinL ?_ | refine zMinR ?_ | refine zShr ?_ | refine zC8 ?_ | refine zQ ?_ | refine zR ?_ | refine zS ?_ | refine zA ?_ | refine zM ?_ | refine xr rfl ?_ | refine ai rfl ?_ | refine condT ?_ | refine condF ?_ | refine condG1 ?_ | refine condG0 ?_ | refine cD ?_ | refine dD ?_ | refine cB ?_ | refine dB ?_ | refine cN ?_ | refine dN ?_ | refine cV ?_ | refine dV ?_ | refine cE ?_ | refine dE ?_ | refine condX0 ?_ | refine condX1 ?_ | refine condNot ?_ | refine condAnd ?_ | refine condOr ?_ | refine aO ?_ | refine aB ?_ | refine aR ?_ | refine aR ?_ (by simp; omega) | refine xr (by assumption) ?_ | refine ai (by assumption) ?_ | refine condD (fun h => ?_) (fun h => ?_) | refine condB (fun h => ?_) (fun h => ?_) | refine condN (fun h => ?_) (fun h => ?_) | refine condE (fun h => ?_) (fun h => ?_) | refine condV (fun h => ?_) (fun h => ?_))
            refine ev_keep [33, 34, 35, 7, 3] [67, 71] ?_; exact ord_loop125 l s t hok g3 g7 hl ln hln r (done ++ [x])  _ _ _ (n + 1) (by simp [e]) (by simp [hn] <;> omega)
def inE (peer now ev er : Int) (m : PMsg) : List AV := .int .i64 peer :: .int .i64 now :: .int .i64 ev :: (m.enc ++ [.int .i64 er])
theorem law125_gives (s : Ses) (c : Conf) (hc : c.ok) (peer now ev er : Int) (m : PMsg) (h : AM m) (hlen : (handleS c peer s m er ev now).2.length < 2 ^ 40) : Gives G 125 [.agg s.enc, .agg c.enc, .agg (inE peer now ev er m)] [] ⟨.bool true, []⟩ := by
  have hp := hc.nets; have p1 := hc.p1; have p2 := hc.p2; have p3 := hc.p3; have p4 := hc.p4
  have hl := large_gives130 m h
  have hh := handle_gives135 s c hc peer now ev er m h.lenO
  have hok := handle_ok c peer s m er ev now
  unfold handleRet at hh
  generalize handleS c peer s m er ev now = x at *
  obtain ⟨t, A⟩ := x
  have hlA : (A.map Act.enc).length = A.length := by simp
  unfold inE PMsg.enc
  refine gives_code (F := f125) rfl rfl (W_ok 300 _ _ _ _ ?_)
  repeat' ((conv => whnf); first | refine kV hl ?_ (by simp [pureL, AV.pure, pureLL_bytes]) | refine callW hh ?_ (by simp [pureL, AV.pure, hp, p1, p2, p3, p4]) | refine bslP (by first | rfl | (simp [pureL, pureLL, AV.pure]; done) | fail) rfl ?_ | refine TakeC.full (by first | rfl | omega | (simp; done) | (simp; omega) | fail) ?_ | refine zBs ?_ | refine zBn ?_ | refine zBv rfl rfl ?_ | refine zN ?_ | refine zC ?_ | refine zC4 ?_ | refine zOr16 ?_ | refine zC1 ?_ | refine zByte ?_ | refine zMaxL ?_ | refine zMaxR ?_ | refine zMinL ?_ | refine zMinR ?_ | refine zShr ?_ | refine zC8 ?_ | refine zQ ?_ | refine zR ?_ | refine zS ?_ | refine zA ?_ | refine zM ?_ | refine xr rfl ?_ | refine ai rfl ?_ | refine condT ?_ | refine condF ?_ | refine condG1 ?_ | refine condG0 ?_ | refine cD ?_ | refine dD ?_ | refine cB ?_ | refine dB ?_ | refine cN ?_ | refine dN ?_ | refine cV ?_ | refine dV ?_ | refine cE ?_ | refine dE ?_ | refine condX0 ?_ | refine condX1 ?_ | refine condNot ?_ | refine condAnd ?_ | refine condOr ?_ | refine aO ?_ | refine aB ?_ | refine aR ?_ | refine aR ?_ (by simp; omega) | refine xr (by assumption) ?_ | refine ai (by assumption) ?_ | refine kV (awake129_gives) ?_ | refine condD (fun h => ?_) (fun h => ?_) | refine condB (fun h => ?_) (fun h => ?_) | refine condN (fun h => ?_) (fun h => ?_) | refine condE (fun h => ?_) (fun h => ?_) | refine condV (fun h => ?_) (fun h => ?_))
  all_goals try ((first | refine ev_fin (And.intro (by first | rfl | (simp [AV.pure, pureL]; done) | fail) ?_) | refine ev_fin0 (And.intro (by first | rfl | (simp [AV.pure, pureL]; done) | fail) ?_)); rfl)
  refine ev_keep [33, 34, 35, 7, 3] [67, 71] ?_
  rw [hlA]
  exact ord_loop125 A s t hok _ _ hlen _ rfl A [] _ _ _ 0 rfl rfl
theorem handle_len (c : Conf) (peer : Int) (s : Ses) (m : PMsg) (er ev now : Int) : (handleS c peer s m er ev now).2.length < 2 ^ 40 := by
  have hlost : ∀ s : Ses, (lostA s).length ≤ 2 := by intro s; unfold lostA; split <;> simp
  have e1 : ∀ s : Ses, (tm1 s now []).2.length ≤ 1 := by intro s; unfold tm1; cases dueS s.untl now <;> simp
  have e3 : ∀ x, (tm3 x now).2.length ≤ x.2.length + 1 := by intro x; unfold tm3; cases dueS x.1.keep now <;> simp
  have e4 : ∀ x, (tm4 x now).2.length ≤ x.2.length + 1 := by intro x; unfold tm4; cases dueS x.1.retry now <;> simp
  have hl := hlost s
  unfold handleS
  split
  · simp
  split
  · split <;> simp
  split
  · split
    · simp
    · split <;> simp
  split
  · unfold downE
    split
    · simp
    · split
      · simp
      · unfold downS; split
        · split <;> simp
        · simp
  split
  · unfold stopA
    simp only [List.length_append]
    split
    · split <;> simp
    · split <;> split <;> simp
  split
  · unfold timersS
    have h1 := e1 s
    generalize tm1 s now [] = x at *
    obtain ⟨y, A⟩ := x
    simp only at h1 ⊢
    cases dueS y.hold now
    · simp only [cond_false]
      have h3 := e3 (y, A)
      simp only at h3
      have := e4 (tm3 (y, A) now); omega
    · simp only [cond_true, List.length_append, List.length_cons, List.length_nil]
      have := hlost y; omega
  split
  · unfold dataS
    split
    · simp
    split
    · split
      · simp only [List.nil_append]; omega
      · simp only [List.nil_append, List.length_append, List.length_cons, List.length_nil]; omega
    split
    · simp only [List.nil_append]; omega
    split
    · unfold openedS
      split
      · simp only [List.nil_append, List.length_append, List.length_cons, List.length_nil]; omega
      split
      · simp only [List.nil_append, List.length_append, List.length_cons, List.length_nil]; omega
      split <;> simp
    split
    · unfold confS
      split
      · simp only [List.nil_append, List.length_append, List.length_cons, List.length_nil]; omega
      split <;> simp
    · unfold estS
      split
      · simp
      split
      · split <;> simp
      split
      · split <;> simp
      split
      · simp only [List.nil_append, List.length_append, List.length_cons, List.length_nil]; omega
      · simp
  · simp
def tIn : Ty := .st [.int .i64, .int .i64, .int .i64, tMsg, .int .i64]
theorem T_in {as : List AV} (h : tIn.T as) : ∃ (peer now ev er : Int) (m : PMsg), as = inE peer now ev er m := by
  simp only [tIn, Ty.T.eq_5, TT] at h
  obtain ⟨a1, b1, rfl, h1, a2, b2, rfl, h2, a3, b3, rfl, h3, a4, b4, rfl, h4, a5, b5, rfl, h5, rfl⟩ := h
  obtain ⟨x1, rfl, _⟩ := T_i64 h1
  obtain ⟨x2, rfl, _⟩ := T_i64 h2
  obtain ⟨x3, rfl, _⟩ := T_i64 h3
  obtain ⟨m, rfl, _⟩ := T_msg h4
  obtain ⟨x5, rfl, _⟩ := T_i64 h5
  exact ⟨x1, x2, x3, x5, m, rfl⟩
theorem bkL_app : ∀ a b : List AV, bkL (a ++ b) = bkL a + bkL b
  | [], b => by simp [bkL]
  | x :: a, b => by simp only [List.cons_append, bkL, bkL_app a b]; omega
theorem bk_in (peer now ev er : Int) (m : PMsg) : bkL m.enc ≤ bkL (inE peer now ev er m) := by
  unfold inE; simp only [bkL, bkL_app]; omega
theorem law125_all (ass : List (List AV)) (h : ArgsT [tSes, tCnf, tIn] ass) (hb : bkLL ass ≤ 1048576) : Gives G 125 (argsA [tSes, tCnf, tIn] ass) [] ⟨.bool true, []⟩ := by
  obtain ⟨x, s1, rfl, h1, h⟩ := argsT_cons h
  obtain ⟨y, s2, rfl, h2, h⟩ := argsT_cons h
  obtain ⟨z, s3, rfl, h3, h⟩ := argsT_cons h
  obtain rfl := argsT_nil h
  obtain ⟨s, rfl, _⟩ := T_ses h1
  obtain ⟨c, rfl, hc⟩ := T_cnf h2
  obtain ⟨peer, now, ev, er, m, rfl⟩ := T_in h3
  have h4 := bk_in peer now ev er m
  simp only [bkLL] at hb
  generalize hz : bkL (inE peer now ev er m) = z at *
  exact law125_gives s c hc peer now ev er m (am_of m (by omega)) (handle_len c peer s m er ev now)
end Go.AM.IR
