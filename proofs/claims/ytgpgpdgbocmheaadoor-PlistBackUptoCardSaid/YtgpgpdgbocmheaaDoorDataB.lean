/- What the functions of this program give, on the abstract machine. -/
import Derived.Test.YtgpgpdgbocmheaaDoorDataA
set_option linter.unusedVariables false
set_option linter.unusedSimpArgs false
set_option maxHeartbeats 4000000
set_option maxRecDepth 20000
namespace Go.AM.IR
def txR (r : PRule) : Ret := if chkS r = 0 then ⟨.tup [.str (rtext r), .int .i64 0], []⟩ else ⟨.tup [.str [], .int .i64 (chkS r)], []⟩
theorem nat32 {x : Int} (h0 : 0 ≤ x) (h1 : x ≤ 32) : ∃ k : Nat, x = k ∧ k ≤ 32 := ⟨x.toNat, by omega, by omega⟩
theorem text_gives332 (r : PRule) (h : r.ok) : Gives G 332 [.agg r.enc] [] (txR r) := by
  have hc := chk_gives325 r h
  unfold txR
  by_cases h0 : chkS r = 0
  · rw [h0] at hc
    obtain ⟨v, m1, m2, m3, m0⟩ := chk_zero h0
    rw [if_pos h0]
    have ht := text_gives229 r.pfx h.pfx
    rw [if_pos v] at ht
    obtain ⟨_, hx⟩ := nat_of h.pfx.addr
    have hl := ptext_len (n := r.pfx.len.toNat) hx (by omega)
    obtain ⟨a, ea, ha⟩ := nat32 (x := r.min) (by omega) (by omega)
    obtain ⟨b, eb, hb⟩ := nat32 (x := r.max) (by omega) (by omega)
    have d1 := dec_gives337 (n := a) (by omega)
    have d2 := dec_gives337 (n := b) (by omega)
    have l1 := itoa_len (n := a) (by omega)
    have l2 := itoa_len (n := b) (by omega)
    clear h h0 v hx m0 m1 m2 m3
    unfold rtext rtail rng
    obtain ⟨p, ⟨x, n⟩, mn, mx⟩ := r
    simp only at *
    subst ea eb
    generalize ptext x.toNat n.toNat = t at *
    generalize itoaK (a : Int) = ta at *
    generalize itoaK (b : Int) = tb at *
    by_cases e1 : (a : Int) = n
    · by_cases e2 : (b : Int) = n
      · cases p
        · refine gives_code (F := f332) rfl rfl (W_ok 300 _ _ _ _ ?_)
          repeat' ((conv => whnf); first | refine zCat ?_ | refine bslP (by first | rfl | (simp [pureL, pureLL, AV.pure]; done) | fail) rfl ?_ | refine TakeC.full (by first | rfl | omega | (simp; done) | (simp; omega) | fail) ?_ | refine zBs ?_ | refine zBn ?_ | refine zBv rfl rfl ?_ | refine zN ?_ | refine zC ?_ | refine zC4 ?_ | refine zOr16 ?_ | refine zC1 ?_ | refine zByte ?_ | refine zMaxL ?_ | refine zMaxR ?_ | refine zMinL ?_ | refine zMinR ?_ | refine zShr ?_ | refine zC8 ?_ | refine zQ ?_ | refine zR ?_ | refine zS ?_ | refine zA ?_ | refine zM ?_ | refine xr rfl ?_ | refine ai rfl ?_ | refine condT ?_ | refine condF ?_ | refine condG1 ?_ | refine condG0 ?_ | refine cD ?_ | refine dD ?_ | refine cB ?_ | refine dB ?_ | refine cN ?_ | refine dN ?_ | refine cV ?_ | refine dV ?_ | refine cE ?_ | refine dE ?_ | refine condX0 ?_ | refine condX1 ?_ | refine condNot ?_ | refine condAnd ?_ | refine condOr ?_ | refine aO ?_ | refine aB ?_ | refine aR ?_ | refine aR ?_ (by simp; omega) | refine xr (by assumption) ?_ | refine ai (by assumption) ?_ | refine kV (hc) ?_ | refine kV (ht) ?_ | refine kV (d1) ?_ | refine kV (d2) ?_ | refine condD (fun h => ?_) (fun h => ?_) | refine condB (fun h => ?_) (fun h => ?_) | refine condN (fun h => ?_) (fun h => ?_) | refine condE (fun h => ?_) (fun h => ?_) | refine condV (fun h => ?_) (fun h => ?_))
          (first | refine ev_fin (And.intro (by first | rfl | (simp [AV.pure, pureL]; done) | fail) ?_) | refine ev_fin0 (And.intro (by first | rfl | (simp [AV.pure, pureL]; done) | fail) ?_)); simp [verb, wDeny, e1, e2]
        · refine gives_code (F := f332) rfl rfl (W_ok 300 _ _ _ _ ?_)
          repeat' ((conv => whnf); first | refine zCat ?_ | refine bslP (by first | rfl | (simp [pureL, pureLL, AV.pure]; done) | fail) rfl ?_ | refine TakeC.full (by first | rfl | omega | (simp; done) | (simp; omega) | fail) ?_ | refine zBs ?_ | refine zBn ?_ | refine zBv rfl rfl ?_ | refine zN ?_ | refine zC ?_ | refine zC4 ?_ | refine zOr16 ?_ | refine zC1 ?_ | refine zByte ?_ | refine zMaxL ?_ | refine zMaxR ?_ | refine zMinL ?_ | refine zMinR ?_ | refine zShr ?_ | refine zC8 ?_ | refine zQ ?_ | refine zR ?_ | refine zS ?_ | refine zA ?_ | refine zM ?_ | refine xr rfl ?_ | refine ai rfl ?_ | refine condT ?_ | refine condF ?_ | refine condG1 ?_ | refine condG0 ?_ | refine cD ?_ | refine dD ?_ | refine cB ?_ | refine dB ?_ | refine cN ?_ | refine dN ?_ | refine cV ?_ | refine dV ?_ | refine cE ?_ | refine dE ?_ | refine condX0 ?_ | refine condX1 ?_ | refine condNot ?_ | refine condAnd ?_ | refine condOr ?_ | refine aO ?_ | refine aB ?_ | refine aR ?_ | refine aR ?_ (by simp; omega) | refine xr (by assumption) ?_ | refine ai (by assumption) ?_ | refine kV (hc) ?_ | refine kV (ht) ?_ | refine kV (d1) ?_ | refine kV (d2) ?_ | refine condD (fun h => ?_) (fun h => ?_) | refine condB (fun h => ?_) (fun h => ?_) | refine condN (fun h => ?_) (fun h => ?_) | refine condE (fun h => ?_) (fun h => ?_) | refine condV (fun h => ?_) (fun h => ?_))
          (first | refine ev_fin (And.intro (by first | rfl | (simp [AV.pure, pureL]; done) | fail) ?_) | refine ev_fin0 (And.intro (by first | rfl | (simp [AV.pure, pureL]; done) | fail) ?_)); simp [verb, wPermit, e1, e2]
      · cases p
        · refine gives_code (F := f332) rfl rfl (W_ok 300 _ _ _ _ ?_)
          repeat' ((conv => whnf); first | refine zCat ?_ | refine bslP (by first | rfl | (simp [pureL, pureLL, AV.pure]; done) | fail) rfl ?_ | refine TakeC.full (by first | rfl | omega | (simp; done) | (simp; omega) | fail) ?_ | refine zBs ?_ | refine zBn ?_ | refine zBv rfl rfl ?_ | refine zN ?_ | refine zC ?_ | refine zC4 ?_ | refine zOr16 ?_ | refine zC1 ?_ | refine zByte ?_ | refine zMaxL ?_ | refine zMaxR ?_ | refine zMinL ?_ | refine zMinR ?_ | refine zShr ?_ | refine zC8 ?_ | refine zQ ?_ | refine zR ?_ | refine zS ?_ | refine zA ?_ | refine zM ?_ | refine xr rfl ?_ | refine ai rfl ?_ | refine condT ?_ | refine condF ?_ | refine condG1 ?_ | refine condG0 ?_ | refine cD ?_ | refine dD ?_ | refine cB ?_ | refine dB ?_ | refine cN ?_ | refine dN ?_ | refine cV ?_ | refine dV ?_ | refine cE ?_ | refine dE ?_ | refine condX0 ?_ | refine condX1 ?_ | refine condNot ?_ | refine condAnd ?_ | refine condOr ?_ | refine aO ?_ | refine aB ?_ | refine aR ?_ | refine aR ?_ (by simp; omega) | refine xr (by assumption) ?_ | refine ai (by assumption) ?_ | refine kV (hc) ?_ | refine kV (ht) ?_ | refine kV (d1) ?_ | refine kV (d2) ?_ | refine condD (fun h => ?_) (fun h => ?_) | refine condB (fun h => ?_) (fun h => ?_) | refine condN (fun h => ?_) (fun h => ?_) | refine condE (fun h => ?_) (fun h => ?_) | refine condV (fun h => ?_) (fun h => ?_))
          (first | refine ev_fin (And.intro (by first | rfl | (simp [AV.pure, pureL]; done) | fail) ?_) | refine ev_fin0 (And.intro (by first | rfl | (simp [AV.pure, pureL]; done) | fail) ?_)); simp [verb, wDeny, e2]
        · refine gives_code (F := f332) rfl rfl (W_ok 300 _ _ _ _ ?_)
          repeat' ((conv => whnf); first | refine zCat ?_ | refine bslP (by first | rfl | (simp [pureL, pureLL, AV.pure]; done) | fail) rfl ?_ | refine TakeC.full (by first | rfl | omega | (simp; done) | (simp; omega) | fail) ?_ | refine zBs ?_ | refine zBn ?_ | refine zBv rfl rfl ?_ | refine zN ?_ | refine zC ?_ | refine zC4 ?_ | refine zOr16 ?_ | refine zC1 ?_ | refine zByte ?_ | refine zMaxL ?_ | refine zMaxR ?_ | refine zMinL ?_ | refine zMinR ?_ | refine zShr ?_ | refine zC8 ?_ | refine zQ ?_ | refine zR ?_ | refine zS ?_ | refine zA ?_ | refine zM ?_ | refine xr rfl ?_ | refine ai rfl ?_ | refine condT ?_ | refine condF ?_ | refine condG1 ?_ | refine condG0 ?_ | refine cD ?_ | refine dD ?_ | refine cB ?_ | refine dB ?_ | refine cN ?_ | refine dN ?_ | refine cV ?_ | refine dV ?_ | refine cE ?_ | refine dE ?_ | refine condX0 ?_ | refine condX1 ?_ | refine condNot ?_ | refine condAnd ?_ | refine condOr ?_ | refine aO ?_ | refine aB ?_ | refine aR ?_ | refine aR ?_ (by simp; omega) | refine xr (by assumption) ?_ | refine ai (by assumption) ?_ | refine kV (hc) ?_ | refine kV (ht) ?_ | refine kV (d1) ?_ | refine kV (d2) ?_ | refine condD (fun h => ?_) (fun h => ?_) | refine condB (fun h => ?_) (fun h => ?_) | refine condN (fun h => ?_) (fun h => ?_) | refine condE (fun h => ?_) (fun h => ?_) | refine condV (fun h => ?_) (fun h => ?_))
          (first | refine ev_fin (And.intro (by first | rfl | (simp [AV.pure, pureL]; done) | fail) ?_) | refine ev_fin0 (And.intro (by first | rfl | (simp [AV.pure, pureL]; done) | fail) ?_)); simp [verb, wPermit, e2]
    · cases p
      · refine gives_code (F := f332) rfl rfl (W_ok 300 _ _ _ _ ?_)
        repeat' ((conv => whnf); first | refine zCat ?_ | refine bslP (by first | rfl | (simp [pureL, pureLL, AV.pure]; done) | fail) rfl ?_ | refine TakeC.full (by first | rfl | omega | (simp; done) | (simp; omega) | fail) ?_ | refine zBs ?_ | refine zBn ?_ | refine zBv rfl rfl ?_ | refine zN ?_ | refine zC ?_ | refine zC4 ?_ | refine zOr16 ?_ | refine zC1 ?_ | refine zByte ?_ | refine zMaxL ?_ | refine zMaxR ?_ | refine zMinL ?_ | refine zMinR ?_ | refine zShr ?_ | refine zC8 ?_ | refine zQ ?_ | refine zR ?_ | refine zS ?_ | refine zA ?_ | refine zM ?_ | refine xr rfl ?_ | refine ai rfl ?_ | refine condT ?_ | refine condF ?_ | refine condG1 ?_ | refine condG0 ?_ | refine cD ?_ | refine dD ?_ | refine cB ?_ | refine dB ?_ | refine cN ?_ | refine dN ?_ | refine cV ?_ | refine dV ?_ | refine cE ?_ | refine dE ?_ | refine condX0 ?_ | refine condX1 ?_ | refine condNot ?_ | refine condAnd ?_ | refine condOr ?_ | refine aO ?_ | refine aB ?_ | refine aR ?_ | refine aR ?_ (by simp; omega) | refine xr (by assumption) ?_ | refine ai (by assumption) ?_ | refine kV (hc) ?_ | refine kV (ht) ?_ | refine kV (d1) ?_ | refine kV (d2) ?_ | refine condD (fun h => ?_) (fun h => ?_) | refine condB (fun h => ?_) (fun h => ?_) | refine condN (fun h => ?_) (fun h => ?_) | refine condE (fun h => ?_) (fun h => ?_) | refine condV (fun h => ?_) (fun h => ?_))
        (first | refine ev_fin (And.intro (by first | rfl | (simp [AV.pure, pureL]; done) | fail) ?_) | refine ev_fin0 (And.intro (by first | rfl | (simp [AV.pure, pureL]; done) | fail) ?_)); simp [verb, wDeny, e1]
      · refine gives_code (F := f332) rfl rfl (W_ok 300 _ _ _ _ ?_)
        repeat' ((conv => whnf); first | refine zCat ?_ | refine bslP (by first | rfl | (simp [pureL, pureLL, AV.pure]; done) | fail) rfl ?_ | refine TakeC.full (by first | rfl | omega | (simp; done) | (simp; omega) | fail) ?_ | refine zBs ?_ | refine zBn ?_ | refine zBv rfl rfl ?_ | refine zN ?_ | refine zC ?_ | refine zC4 ?_ | refine zOr16 ?_ | refine zC1 ?_ | refine zByte ?_ | refine zMaxL ?_ | refine zMaxR ?_ | refine zMinL ?_ | refine zMinR ?_ | refine zShr ?_ | refine zC8 ?_ | refine zQ ?_ | refine zR ?_ | refine zS ?_ | refine zA ?_ | refine zM ?_ | refine xr rfl ?_ | refine ai rfl ?_ | refine condT ?_ | refine condF ?_ | refine condG1 ?_ | refine condG0 ?_ | refine cD ?_ | refine dD ?_ | refine cB ?_ | refine dB ?_ | refine cN ?_ | refine dN ?_ | refine cV ?_ | refine dV ?_ | refine cE ?_ | refine dE ?_ | refine condX0 ?_ | refine condX1 ?_ | refine condNot ?_ | refine condAnd ?_ | refine condOr ?_ | refine aO ?_ | refine aB ?_ | refine aR ?_ | refine aR ?_ (by simp; omega) | refine xr (by assumption) ?_ | refine ai (by assumption) ?_ | refine kV (hc) ?_ | refine kV (ht) ?_ | refine kV (d1) ?_ | refine kV (d2) ?_ | refine condD (fun h => ?_) (fun h => ?_) | refine condB (fun h => ?_) (fun h => ?_) | refine condN (fun h => ?_) (fun h => ?_) | refine condE (fun h => ?_) (fun h => ?_) | refine condV (fun h => ?_) (fun h => ?_))
        (first | refine ev_fin (And.intro (by first | rfl | (simp [AV.pure, pureL]; done) | fail) ?_) | refine ev_fin0 (And.intro (by first | rfl | (simp [AV.pure, pureL]; done) | fail) ?_)); simp [verb, wPermit, e1]
  · rw [if_neg h0]
    generalize chkS r = k at *
    refine gives_code (F := f332) rfl rfl (W_ok 300 _ _ _ _ ?_)
    repeat' ((conv => whnf); first | refine bslP (by first | rfl | (simp [pureL, pureLL, AV.pure]; done) | fail) rfl ?_ | refine TakeC.full (by first | rfl | omega | (simp; done) | (simp; omega) | fail) ?_ | refine zBs ?_ | refine zBn ?_ | refine zBv rfl rfl ?_ | refine zN ?_ | refine zC ?_ | refine zC4 ?_ | refine zOr16 ?_ | refine zC1 ?_ | refine zByte ?_ | refine zMaxL ?_ | refine zMaxR ?_ | refine zMinL ?_ | refine zMinR ?_ | refine zShr ?_ | refine zC8 ?_ | refine zQ ?_ | refine zR ?_ | refine zS ?_ | refine zA ?_ | refine zM ?_ | refine xr rfl ?_ | refine ai rfl ?_ | refine condT ?_ | refine condF ?_ | refine condG1 ?_ | refine condG0 ?_ | refine cD ?_ | refine dD ?_ | refine cB ?_ | refine dB ?_ | refine cN ?_ | refine dN ?_ | refine cV ?_ | refine dV ?_ | refine cE ?_ | refine dE ?_ | refine condX0 ?_ | refine condX1 ?_ | refine condNot ?_ | refine condAnd ?_ | refine condOr ?_ | refine aO ?_ | refine aB ?_ | refine aR ?_ | refine aR ?_ (by simp; omega) | refine xr (by assumption) ?_ | refine ai (by assumption) ?_ | refine kV (hc) ?_ | refine condD (fun h => ?_) (fun h => ?_) | refine condB (fun h => ?_) (fun h => ?_) | refine condN (fun h => ?_) (fun h => ?_) | refine condE (fun h => ?_) (fun h => ?_) | refine condV (fun h => ?_) (fun h => ?_))
    (first | refine ev_fin (And.intro (by first | rfl | (simp [AV.pure, pureL]; done) | fail) ?_) | refine ev_fin0 (And.intro (by first | rfl | (simp [AV.pure, pureL]; done) | fail) ?_)); rfl
theorem text_gives333 (r : PRule) (h : r.ok) : Gives G 333 [.agg r.enc] [] (txR r) := by
  have hc := chk_gives326 r h
  unfold txR
  by_cases h0 : chkS r = 0
  · rw [h0] at hc
    obtain ⟨v, m1, m2, m3, m0⟩ := chk_zero h0
    rw [if_pos h0]
    have ht := text_gives230 r.pfx h.pfx
    rw [if_pos v] at ht
    obtain ⟨_, hx⟩ := nat_of h.pfx.addr
    have hl := ptext_len (n := r.pfx.len.toNat) hx (by omega)
    obtain ⟨a, ea, ha⟩ := nat32 (x := r.min) (by omega) (by omega)
    obtain ⟨b, eb, hb⟩ := nat32 (x := r.max) (by omega) (by omega)
    have d1 := dec_gives338 (n := a) (by omega)
    have d2 := dec_gives338 (n := b) (by omega)
    have l1 := itoa_len (n := a) (by omega)
    have l2 := itoa_len (n := b) (by omega)
    clear h h0 v hx m0 m1 m2 m3
    unfold rtext rtail rng
    obtain ⟨p, ⟨x, n⟩, mn, mx⟩ := r
    simp only at *
    subst ea eb
    generalize ptext x.toNat n.toNat = t at *
    generalize itoaK (a : Int) = ta at *
    generalize itoaK (b : Int) = tb at *
    by_cases e1 : (a : Int) = n
    · by_cases e2 : (b : Int) = n
      · cases p
        · refine gives_code (F := f333) rfl rfl (W_ok 300 _ _ _ _ ?_)
          repeat' ((conv => whnf); first | refine zCat ?_ | refine bslP (by first | rfl | (simp [pureL, pureLL, AV.pure]; done) | fail) rfl ?_ | refine TakeC.full (by first | rfl | omega | (simp; done) | (simp; omega) | fail) ?_ | refine zBs ?_ | refine zBn ?_ | refine zBv rfl rfl ?_ | refine zN ?_ | refine zC ?_ | refine zC4 ?_ | refine zOr16 ?_ | refine zC1 ?_ | refine zByte ?_ | refine zMaxL ?_ | refine zMaxR ?_ | refine zMinL ?_ | refine zMinR ?_ | refine zShr ?_ | refine zC8 ?_ | refine zQ ?_ | refine zR ?_ | refine zS ?_ | refine zA ?_ | refine zM ?_ | refine xr rfl ?_ | refine ai rfl ?_ | refine condT ?_ | refine condF ?_ | refine condG1 ?_ | refine condG0 ?_ | refine cD ?_ | refine dD ?_ | refine cB ?_ | refine dB ?_ | refine cN ?_ | refine dN ?_ | refine cV ?_ | refine dV ?_ | refine cE ?_ | refine dE ?_ | refine condX0 ?_ | refine condX1 ?_ | refine condNot ?_ | refine condAnd ?_ | refine condOr ?_ | refine aO ?_ | refine aB ?_ | refine aR ?_ | refine aR ?_ (by simp; omega) | refine xr (by assumption) ?_ | refine ai (by assumption) ?_ | refine kV (hc) ?_ | refine kV (ht) ?_ | refine kV (d1) ?_ | refine kV (d2) ?_ | refine condD (fun h => ?_) (fun h => ?_) | refine condB (fun h => ?_) (fun h => ?_) | refine condN (fun h => ?_) (fun h => ?_) | refine condE (fun h => ?_) (fun h => ?_) | refine condV (fun h => ?_) (fun h => ?_))
          (first | refine ev_fin (And.intro (by first | rfl | (simp [AV.pure, pureL]; done) | fail) ?_) | refine ev_fin0 (And.intro (by first | rfl | (simp [AV.pure, pureL]; done) | fail) ?_)); simp [verb, wDeny, e1, e2]
        · refine gives_code (F := f333) rfl rfl (W_ok 300 _ _ _ _ ?_)
          repeat' ((conv => whnf); first | refine zCat ?_ | refine bslP (by first | rfl | (simp [pureL, pureLL, AV.pure]; done) | fail) rfl ?_ | refine TakeC.full (by first | rfl | omega | (simp; done) | (simp; omega) | fail) ?_ | refine zBs ?_ | refine zBn ?_ | refine zBv rfl rfl ?_ | refine zN ?_ | refine zC ?_ | refine zC4 ?_ | refine zOr16 ?_ | refine zC1 ?_ | refine zByte ?_ | refine zMaxL ?_ | refine zMaxR ?_ | refine zMinL ?_ | refine zMinR ?_ | refine zShr ?_ | refine zC8 ?_ | refine zQ ?_ | refine zR ?_ | refine zS ?_ | refine zA ?_ | refine zM ?_ | refine xr rfl ?_ | refine ai rfl ?_ | refine condT ?_ | refine condF ?_ | refine condG1 ?_ | refine condG0 ?_ | refine cD ?_ | refine dD ?_ | refine cB ?_ | refine dB ?_ | refine cN ?_ | refine dN ?_ | refine cV ?_ | refine dV ?_ | refine cE ?_ | refine dE ?_ | refine condX0 ?_ | refine condX1 ?_ | refine condNot ?_ | refine condAnd ?_ | refine condOr ?_ | refine aO ?_ | refine aB ?_ | refine aR ?_ | refine aR ?_ (by simp; omega) | refine xr (by assumption) ?_ | refine ai (by assumption) ?_ | refine kV (hc) ?_ | refine kV (ht) ?_ | refine kV (d1) ?_ | refine kV (d2) ?_ | refine condD (fun h => ?_) (fun h => ?_) | refine condB (fun h => ?_) (fun h => ?_) | refine condN (fun h => ?_) (fun h => ?_) | refine condE (fun h => ?_) (fun h => ?_) | refine condV (fun h => ?_) (fun h => ?_))
          (first | refine ev_fin (And.intro (by first | rfl | (simp [AV.pure, pureL]; done) | fail) ?_) | refine ev_fin0 (And.intro (by first | rfl | (simp [AV.pure, pureL]; done) | fail) ?_)); simp [verb, wPermit, e1, e2]
      · cases p
        · refine gives_code (F := f333) rfl rfl (W_ok 300 _ _ _ _ ?_)
          repeat' ((conv => whnf); first | refine zCat ?_ | refine bslP (by first | rfl | (simp [pureL, pureLL, AV.pure]; done) | fail) rfl ?_ | refine TakeC.full (by first | rfl | omega | (simp; done) | (simp; omega) | fail) ?_ | refine zBs ?_ | refine zBn ?_ | refine zBv rfl rfl ?_ | refine zN ?_ | refine zC ?_ | refine zC4 ?_ | refine zOr16 ?_ | refine zC1 ?_ | refine zByte ?_ | refine zMaxL ?_ | refine zMaxR ?_ | refine zMinL ?_ | refine zMinR ?_ | refine zShr ?_ | refine zC8 ?_ | refine zQ ?_ | refine zR ?_ | refine zS ?_ | refine zA ?_ | refine zM ?_ | refine xr rfl ?_ | refine ai rfl ?_ | refine condT ?_ | refine condF ?_ | refine condG1 ?_ | refine condG0 ?_ | refine cD ?_ | refine dD ?_ | refine cB ?_ | refine dB ?_ | refine cN ?_ | refine dN ?_ | refine cV ?_ | refine dV ?_ | refine cE ?_ | refine dE ?_ | refine condX0 ?_ | refine condX1 ?_ | refine condNot ?_ | refine condAnd ?_ | refine condOr ?_ | refine aO ?_ | refine aB ?_ | refine aR ?_ | refine aR ?_ (by simp; omega) | refine xr (by assumption) ?_ | refine ai (by assumption) ?_ | refine kV (hc) ?_ | refine kV (ht) ?_ | refine kV (d1) ?_ | refine kV (d2) ?_ | refine condD (fun h => ?_) (fun h => ?_) | refine condB (fun h => ?_) (fun h => ?_) | refine condN (fun h => ?_) (fun h => ?_) | refine condE (fun h => ?_) (fun h => ?_) | refine condV (fun h => ?_) (fun h => ?_))
          (first | refine ev_fin (And.intro (by first | rfl | (simp [AV.pure, pureL]; done) | fail) ?_) | refine ev_fin0 (And.intro (by first | rfl | (simp [AV.pure, pureL]; done) | fail) ?_)); simp [verb, wDeny, e2]
        · refine gives_code (F := f333) rfl rfl (W_ok 300 _ _ _ _ ?_)
          repeat' ((conv => whnf); first | refine zCat ?_ | refine bslP (by first | rfl | (simp [pureL, pureLL, AV.pure]; done) | fail) rfl ?_ | refine TakeC.full (by first | rfl | omega | (simp; done) | (simp; omega) | fail) ?_ | refine zBs ?_ | refine zBn ?_ | refine zBv rfl rfl ?_ | refine zN ?_ | refine zC ?_ | refine zC4 ?_ | refine zOr16 ?_ | refine zC1 ?_ | refine zByte ?_ | refine zMaxL ?_ | refine zMaxR ?_ | refine zMinL ?_ | refine zMinR ?_ | refine zShr ?_ | refine zC8 ?_ | refine zQ ?_ | refine zR ?_ | refine zS ?_ | refine zA ?_ | refine zM ?_ | refine xr rfl ?_ | refine ai rfl ?_ | refine condT ?_ | refine condF ?_ | refine condG1 ?_ | refine condG0 ?_ | refine cD ?_ | refine dD ?_ | refine cB ?_ | refine dB ?_ | refine cN ?_ | refine dN ?_ | refine cV ?_ | refine dV ?_ | refine cE ?_ | refine dE ?_ | refine condX0 ?_ | refine condX1 ?_ | refine condNot ?_ | refine condAnd ?_ | refine condOr ?_ | refine aO ?_ | refine aB ?_ | refine aR ?_ | refine aR ?_ (by simp; omega) | refine xr (by assumption) ?_ | refine ai (by assumption) ?_ | refine kV (hc) ?_ | refine kV (ht) ?_ | refine kV (d1) ?_ | refine kV (d2) ?_ | refine condD (fun h => ?_) (fun h => ?_) | refine condB (fun h => ?_) (fun h => ?_) | refine condN (fun h => ?_) (fun h => ?_) | refine condE (fun h => ?_) (fun h => ?_) | refine condV (fun h => ?_) (fun h => ?_))
          (first | refine ev_fin (And.intro (by first | rfl | (simp [AV.pure, pureL]; done) | fail) ?_) | refine ev_fin0 (And.intro (by first | rfl | (simp [AV.pure, pureL]; done) | fail) ?_)); simp [verb, wPermit, e2]
    · cases p
      · refine gives_code (F := f333) rfl rfl (W_ok 300 _ _ _ _ ?_)
        repeat' ((conv => whnf); first | refine zCat ?_ | refine bslP (by first | rfl | (simp [pureL, pureLL, AV.pure]; done) | fail) rfl ?_ | refine TakeC.full (by first | rfl | omega | (simp; done) | (simp; omega) | fail) ?_ | refine zBs ?_ | refine zBn ?_ | refine zBv rfl rfl ?_ | refine zN ?_ | refine zC ?_ | refine zC4 ?_ | refine zOr16 ?_ | refine zC1 ?_ | refine zByte ?_ | refine zMaxL ?_ | refine zMaxR ?_ | refine zMinL ?_ | refine zMinR ?_ | refine zShr ?_ | refine zC8 ?_ | refine zQ ?_ | refine zR ?_ | refine zS ?_ | refine zA ?_ | refine zM ?_ | refine xr rfl ?_ | refine ai rfl ?_ | refine condT ?_ | refine condF ?_ | refine condG1 ?_ | refine condG0 ?_ | refine cD ?_ | refine dD ?_ | refine cB ?_ | refine dB ?_ | refine cN ?_ | refine dN ?_ | refine cV ?_ | refine dV ?_ | refine cE ?_ | refine dE ?_ | refine condX0 ?_ | refine condX1 ?_ | refine condNot ?_ | refine condAnd ?_ | refine condOr ?_ | refine aO ?_ | refine aB ?_ | refine aR ?_ | refine aR ?_ (by simp; omega) | refine xr (by assumption) ?_ | refine ai (by assumption) ?_ | refine kV (hc) ?_ | refine kV (ht) ?_ | refine kV (d1) ?_ | refine kV (d2) ?_ | refine condD (fun h => ?_) (fun h => ?_) | refine condB (fun h => ?_) (fun h => ?_) | refine condN (fun h => ?_) (fun h => ?_) | refine condE (fun h => ?_) (fun h => ?_) | refine condV (fun h => ?_) (fun h => ?_))
        (first | refine ev_fin (And.intro (by first | rfl | (simp [AV.pure, pureL]; done) | fail) ?_) | refine ev_fin0 (And.intro (by first | rfl | (simp [AV.pure, pureL]; done) | fail) ?_)); simp [verb, wDeny, e1]
      · refine gives_code (F := f333) rfl rfl (W_ok 300 _ _ _ _ ?_)
        repeat' ((conv => whnf); first | refine zCat ?_ | refine bslP (by first | rfl | (simp [pureL, pureLL, AV.pure]; done) | fail) rfl ?_ | refine TakeC.full (by first | rfl | omega | (simp; done) | (simp; omega) | fail) ?_ | refine zBs ?_ | refine zBn ?_ | refine zBv rfl rfl ?_ | refine zN ?_ | refine zC ?_ | refine zC4 ?_ | refine zOr16 ?_ | refine zC1 ?_ | refine zByte ?_ | refine zMaxL ?_ | refine zMaxR ?_ | refine zMinL ?_ | refine zMinR ?_ | refine zShr ?_ | refine zC8 ?_ | refine zQ ?_ | refine zR ?_ | refine zS ?_ | refine zA ?_ | refine zM ?_ | refine xr rfl ?_ | refine ai rfl ?_ | refine condT ?_ | refine condF ?_ | refine condG1 ?_ | refine condG0 ?_ | refine cD ?_ | refine dD ?_ | refine cB ?_ | refine dB ?_ | refine cN ?_ | refine dN ?_ | refine cV ?_ | refine dV ?_ | refine cE ?_ | refine dE ?_ | refine condX0 ?_ | refine condX1 ?_ | refine condNot ?_ | refine condAnd ?_ | refine condOr ?_ | refine aO ?_ | refine aB ?_ | refine aR ?_ | refine aR ?_ (by simp; omega) | refine xr (by assumption) ?_ | refine ai (by assumption) ?_ | refine kV (hc) ?_ | refine kV (ht) ?_ | refine kV (d1) ?_ | refine kV (d2) ?_ | refine condD (fun h => ?_) (fun h => ?_) | refine condB (fun h => ?_) (fun h => ?_) | refine condN (fun h => ?_) (fun h => ?_) | refine condE (fun h => ?_) (fun h => ?_) | refine condV (fun h => ?_) (fun h => ?_))
        (first | refine ev_fin (And.intro (by first | rfl | (simp [AV.pure, pureL]; done) | fail) ?_) | refine ev_fin0 (And.intro (by first | rfl | (simp [AV.pure, pureL]; done) | fail) ?_)); simp [verb, wPermit, e1]
  · rw [if_neg h0]
    generalize chkS r = k at *
    refine gives_code (F := f333) rfl rfl (W_ok 300 _ _ _ _ ?_)
    repeat' ((conv => whnf); first | refine bslP (by first | rfl | (simp [pureL, pureLL, AV.pure]; done) | fail) rfl ?_ | refine TakeC.full (by first | rfl | omega | (simp; done) | (simp; omega) | fail) ?_ | refine zBs ?_ | refine zBn ?_ | refine zBv rfl rfl ?_ | refine zN ?_ | refine zC ?_ | refine zC4 ?_ | refine zOr16 ?_ | refine zC1 ?_ | refine zByte ?_ | refine zMaxL ?_ | refine zMaxR ?_ | refine zMinL ?_ | refine zMinR ?_ | refine zShr ?_ | refine zC8 ?_ | refine zQ ?_ | refine zR ?_ | refine zS ?_ | refine zA ?_ | refine zM ?_ | refine xr rfl ?_ | refine ai rfl ?_ | refine condT ?_ | refine condF ?_ | refine condG1 ?_ | refine condG0 ?_ | refine cD ?_ | refine dD ?_ | refine cB ?_ | refine dB ?_ | refine cN ?_ | refine dN ?_ | refine cV ?_ | refine dV ?_ | refine cE ?_ | refine dE ?_ | refine condX0 ?_ | refine condX1 ?_ | refine condNot ?_ | refine condAnd ?_ | refine condOr ?_ | refine aO ?_ | refine aB ?_ | refine aR ?_ | refine aR ?_ (by simp; omega) | refine xr (by assumption) ?_ | refine ai (by assumption) ?_ | refine kV (hc) ?_ | refine condD (fun h => ?_) (fun h => ?_) | refine condB (fun h => ?_) (fun h => ?_) | refine condN (fun h => ?_) (fun h => ?_) | refine condE (fun h => ?_) (fun h => ?_) | refine condV (fun h => ?_) (fun h => ?_))
    (first | refine ev_fin (And.intro (by first | rfl | (simp [AV.pure, pureL]; done) | fail) ?_) | refine ev_fin0 (And.intro (by first | rfl | (simp [AV.pure, pureL]; done) | fail) ?_)); rfl
end Go.AM.IR
set_option maxHeartbeats 4000000
set_option maxRecDepth 20000
namespace Go.AM.IR
theorem joinC_mem (c : UInt8) : ∀ (l : List (List UInt8)) (w : List UInt8), w ∈ l → w.length ≤ (joinC c l).length
  | [], _, h => by simp at h
  | [x], w, h => by obtain rfl : w = x := by simpa using h
                    exact Nat.le_refl _
  | x :: y :: r, w, h => by
    simp only [joinC, List.length_append, List.length_cons]
    rcases List.mem_cons.1 h with rfl | h
    · omega
    · have := joinC_mem c (y :: r) w h; omega
theorem split_len (s : List UInt8) (w : List UInt8) (h : w ∈ Lib.split s [46]) : w.length ≤ s.length := by
  have := joinC_mem 46 _ w h
  rwa [join_split 46 s.length s (Nat.le_refl _)] at this
theorem pad_gives231 (s : List UInt8) (hs : s.length < 4294967281) : Gives G 231 [.str s] [] (okA (paP s)) := by
  have hp := split_gives249 s hs
  have hw : ∀ w ∈ Lib.split s [46], w.length < 2 ^ 40 := fun w h => by have := split_len s w h; omega
  unfold paP
  generalize Lib.split s [46] = l at *
  have hll : (l.map encS).length = l.length := by simp
  have hpu : (AV.sl 1 (l.map encS)).pure = true := pureLL_mapB (fun _ => rfl) l
  by_cases h4 : l.length = 4
  · rw [if_pos h4]
    refine gives_code (F := f231) rfl rfl (W_ok 300 _ _ _ _ ?_)
    repeat' ((conv => whnf); first | refine callW hp ?_ (by rfl) hpu | refine bslP (by first | rfl | (simp [pureL, pureLL, AV.pure]; done) | fail) rfl ?_ | refine TakeC.full (by first | rfl | omega | (simp; done) | (simp; omega) | fail) ?_ | refine zBs ?_ | refine zBn ?_ | refine zBv rfl rfl ?_ | refine zN ?_ | refine zC ?_ | refine zC4 ?_ | refine zOr16 ?_ | refine zC1 ?_ | refine zByte ?_ | refine zMaxL ?_ | refine zMaxR ?_ | refine zMinL ?_ | refine zMinR ?_ | refine zShr ?_ | refine zC8 ?_ | refine zQ ?_ | refine zR ?_ | refine zS ?_ | refine zA ?_ | refine zM ?_ | refine xr rfl ?_ | refine ai rfl ?_ | refine condT ?_ | refine condF ?_ | refine condG1 ?_ | refine condG0 ?_ | refine cD ?_ | refine dD ?_ | refine cB ?_ | refine dB ?_ | refine cN ?_ | refine dN ?_ | refine cV ?_ | refine dV ?_ | refine cE ?_ | refine dE ?_ | refine condX0 ?_ | refine condX1 ?_ | refine condNot ?_ | refine condAnd ?_ | refine condOr ?_ | refine aO ?_ | refine aB ?_ | refine aR ?_ | refine aR ?_ (by simp; omega) | refine xr (by assumption) ?_ | refine ai (by assumption) ?_ | refine condD (fun h => ?_) (fun h => ?_) | refine condB (fun h => ?_) (fun h => ?_) | refine condN (fun h => ?_) (fun h => ?_) | refine condE (fun h => ?_) (fun h => ?_) | refine condV (fun h => ?_) (fun h => ?_))
    refine ev_keep [15, 16, 17, 5] [] ?_
    exact pa_loop231 l h4 hw (by omega) _ (by simp) l [] 0 _ _ _ 0 rfl rfl (by simp)
  · rw [if_neg h4]
    refine gives_code (F := f231) rfl rfl (W_ok 300 _ _ _ _ ?_)
    repeat' ((conv => whnf); first | refine callW hp ?_ (by rfl) hpu | refine bslP (by first | rfl | (simp [pureL, pureLL, AV.pure]; done) | fail) rfl ?_ | refine TakeC.full (by first | rfl | omega | (simp; done) | (simp; omega) | fail) ?_ | refine zBs ?_ | refine zBn ?_ | refine zBv rfl rfl ?_ | refine zN ?_ | refine zC ?_ | refine zC4 ?_ | refine zOr16 ?_ | refine zC1 ?_ | refine zByte ?_ | refine zMaxL ?_ | refine zMaxR ?_ | refine zMinL ?_ | refine zMinR ?_ | refine zShr ?_ | refine zC8 ?_ | refine zQ ?_ | refine zR ?_ | refine zS ?_ | refine zA ?_ | refine zM ?_ | refine xr rfl ?_ | refine ai rfl ?_ | refine condT ?_ | refine condF ?_ | refine condG1 ?_ | refine condG0 ?_ | refine cD ?_ | refine dD ?_ | refine cB ?_ | refine dB ?_ | refine cN ?_ | refine dN ?_ | refine cV ?_ | refine dV ?_ | refine cE ?_ | refine dE ?_ | refine condX0 ?_ | refine condX1 ?_ | refine condNot ?_ | refine condAnd ?_ | refine condOr ?_ | refine aO ?_ | refine aB ?_ | refine aR ?_ | refine aR ?_ (by simp; omega) | refine xr (by assumption) ?_ | refine ai (by assumption) ?_ | refine condD (fun h => ?_) (fun h => ?_) | refine condB (fun h => ?_) (fun h => ?_) | refine condN (fun h => ?_) (fun h => ?_) | refine condE (fun h => ?_) (fun h => ?_) | refine condV (fun h => ?_) (fun h => ?_))
    (first | refine ev_fin (And.intro (by first | rfl | (simp [AV.pure, pureL]; done) | fail) ?_) | refine ev_fin0 (And.intro (by first | rfl | (simp [AV.pure, pureL]; done) | fail) ?_)); rfl
def pfR (x : Pfx × Int) : Ret := ⟨.tup [.agg x.1.enc, .int .i64 x.2], []⟩
theorem cut_gives252 (s : List UInt8) (hs : s.length < 4294967281) : Gives G 252 [.str s, .str [47]] [] ⟨.tup [.str (Lib.cut s [47]).1, .str (Lib.cut s [47]).2.1, .bool (Lib.cut s [47]).2.2], []⟩ := by
  show pCut [.str s, .str [47]] [] = _
  exact if_pos hs
theorem cut_len (s : List UInt8) : (Lib.cut s [47]).1.length ≤ s.length ∧ (Lib.cut s [47]).2.1.length ≤ s.length := by
  unfold Lib.cut
  split
  · simp; omega
  · simp
theorem pfx_ok {x : Nat} {n : Int} (hx : x < 4294967296) (h0 : 0 ≤ n) (h1 : n ≤ 32) : Pfx.ok ⟨(x : Int), n⟩ := ⟨by unfold okU; simp only; omega, by unfold okI; simp only; omega⟩
theorem parse_gives233 (s : List UInt8) (hs : s.length < 4294967281) : Gives G 233 [.str s] [] (pfR (psP s)) := by
  have hc := cut_gives252 s hs
  obtain ⟨hl1, hl2⟩ := cut_len s
  unfold psP
  generalize Lib.cut s [47] = q at *
  obtain ⟨l, r, f⟩ := q
  simp only at hc hl1 hl2 ⊢
  have hp := pad_gives231 l (by omega)
  have hn := number_gives250 r 32 (by omega)
  rcases paP_all l with ea | ⟨x, hx, _, ea⟩
  · rw [ea] at hp ⊢
    rw [if_pos (.inr (.inl (by simp only; decide)))]
    cases f
    · refine gives_code (F := f233) rfl rfl (W_ok 300 _ _ _ _ ?_)
      repeat' ((conv => whnf); first | refine bslP (by first | rfl | (simp [pureL, pureLL, AV.pure]; done) | fail) rfl ?_ | refine TakeC.full (by first | rfl | omega | (simp; done) | (simp; omega) | fail) ?_ | refine zBs ?_ | refine zBn ?_ | refine zBv rfl rfl ?_ | refine zN ?_ | refine zC ?_ | refine zC4 ?_ | refine zOr16 ?_ | refine zC1 ?_ | refine zByte ?_ | refine zMaxL ?_ | refine zMaxR ?_ | refine zMinL ?_ | refine zMinR ?_ | refine zShr ?_ | refine zC8 ?_ | refine zQ ?_ | refine zR ?_ | refine zS ?_ | refine zA ?_ | refine zM ?_ | refine xr rfl ?_ | refine ai rfl ?_ | refine condT ?_ | refine condF ?_ | refine condG1 ?_ | refine condG0 ?_ | refine cD ?_ | refine dD ?_ | refine cB ?_ | refine dB ?_ | refine cN ?_ | refine dN ?_ | refine cV ?_ | refine dV ?_ | refine cE ?_ | refine dE ?_ | refine condX0 ?_ | refine condX1 ?_ | refine condNot ?_ | refine condAnd ?_ | refine condOr ?_ | refine aO ?_ | refine aB ?_ | refine aR ?_ | refine aR ?_ (by simp; omega) | refine xr (by assumption) ?_ | refine ai (by assumption) ?_ | refine kV (hc) ?_ | refine kV (hp) ?_ | refine kV (hn) ?_ | refine condD (fun h => ?_) (fun h => ?_) | refine condB (fun h => ?_) (fun h => ?_) | refine condN (fun h => ?_) (fun h => ?_) | refine condE (fun h => ?_) (fun h => ?_) | refine condV (fun h => ?_) (fun h => ?_))
      (first | refine ev_fin (And.intro (by first | rfl | (simp [AV.pure, pureL]; done) | fail) ?_) | refine ev_fin0 (And.intro (by first | rfl | (simp [AV.pure, pureL]; done) | fail) ?_)); (conv => whnf); refine And.intro (by first | rfl | (simp [AV.pure, pureL, pureLL, *]; done) | fail) ?_; rfl
    · refine gives_code (F := f233) rfl rfl (W_ok 300 _ _ _ _ ?_)
      repeat' ((conv => whnf); first | refine bslP (by first | rfl | (simp [pureL, pureLL, AV.pure]; done) | fail) rfl ?_ | refine TakeC.full (by first | rfl | omega | (simp; done) | (simp; omega) | fail) ?_ | refine zBs ?_ | refine zBn ?_ | refine zBv rfl rfl ?_ | refine zN ?_ | refine zC ?_ | refine zC4 ?_ | refine zOr16 ?_ | refine zC1 ?_ | refine zByte ?_ | refine zMaxL ?_ | refine zMaxR ?_ | refine zMinL ?_ | refine zMinR ?_ | refine zShr ?_ | refine zC8 ?_ | refine zQ ?_ | refine zR ?_ | refine zS ?_ | refine zA ?_ | refine zM ?_ | refine xr rfl ?_ | refine ai rfl ?_ | refine condT ?_ | refine condF ?_ | refine condG1 ?_ | refine condG0 ?_ | refine cD ?_ | refine dD ?_ | refine cB ?_ | refine dB ?_ | refine cN ?_ | refine dN ?_ | refine cV ?_ | refine dV ?_ | refine cE ?_ | refine dE ?_ | refine condX0 ?_ | refine condX1 ?_ | refine condNot ?_ | refine condAnd ?_ | refine condOr ?_ | refine aO ?_ | refine aB ?_ | refine aR ?_ | refine aR ?_ (by simp; omega) | refine xr (by assumption) ?_ | refine ai (by assumption) ?_ | refine kV (hc) ?_ | refine kV (hp) ?_ | refine kV (hn) ?_ | refine condD (fun h => ?_) (fun h => ?_) | refine condB (fun h => ?_) (fun h => ?_) | refine condN (fun h => ?_) (fun h => ?_) | refine condE (fun h => ?_) (fun h => ?_) | refine condV (fun h => ?_) (fun h => ?_))
      (first | refine ev_fin (And.intro (by first | rfl | (simp [AV.pure, pureL]; done) | fail) ?_) | refine ev_fin0 (And.intro (by first | rfl | (simp [AV.pure, pureL]; done) | fail) ?_)); (conv => whnf); refine And.intro (by first | rfl | (simp [AV.pure, pureL, pureLL, *]; done) | fail) ?_; rfl
  · rw [ea] at hp ⊢
    cases f
    · rw [if_pos (.inl rfl)]
      refine gives_code (F := f233) rfl rfl (W_ok 300 _ _ _ _ ?_)
      repeat' ((conv => whnf); first | refine bslP (by first | rfl | (simp [pureL, pureLL, AV.pure]; done) | fail) rfl ?_ | refine TakeC.full (by first | rfl | omega | (simp; done) | (simp; omega) | fail) ?_ | refine zBs ?_ | refine zBn ?_ | refine zBv rfl rfl ?_ | refine zN ?_ | refine zC ?_ | refine zC4 ?_ | refine zOr16 ?_ | refine zC1 ?_ | refine zByte ?_ | refine zMaxL ?_ | refine zMaxR ?_ | refine zMinL ?_ | refine zMinR ?_ | refine zShr ?_ | refine zC8 ?_ | refine zQ ?_ | refine zR ?_ | refine zS ?_ | refine zA ?_ | refine zM ?_ | refine xr rfl ?_ | refine ai rfl ?_ | refine condT ?_ | refine condF ?_ | refine condG1 ?_ | refine condG0 ?_ | refine cD ?_ | refine dD ?_ | refine cB ?_ | refine dB ?_ | refine cN ?_ | refine dN ?_ | refine cV ?_ | refine dV ?_ | refine cE ?_ | refine dE ?_ | refine condX0 ?_ | refine condX1 ?_ | refine condNot ?_ | refine condAnd ?_ | refine condOr ?_ | refine aO ?_ | refine aB ?_ | refine aR ?_ | refine aR ?_ (by simp; omega) | refine xr (by assumption) ?_ | refine ai (by assumption) ?_ | refine kV (hc) ?_ | refine kV (hp) ?_ | refine kV (hn) ?_ | refine condD (fun h => ?_) (fun h => ?_) | refine condB (fun h => ?_) (fun h => ?_) | refine condN (fun h => ?_) (fun h => ?_) | refine condE (fun h => ?_) (fun h => ?_) | refine condV (fun h => ?_) (fun h => ?_))
      (first | refine ev_fin (And.intro (by first | rfl | (simp [AV.pure, pureL]; done) | fail) ?_) | refine ev_fin0 (And.intro (by first | rfl | (simp [AV.pure, pureL]; done) | fail) ?_)); (conv => whnf); refine And.intro (by first | rfl | (simp [AV.pure, pureL, pureLL, *]; done) | fail) ?_; rfl
    · cases hb : numB 32 r
      · rw [hb] at hn
        rw [if_pos (.inr (.inr rfl))]
        refine gives_code (F := f233) rfl rfl (W_ok 300 _ _ _ _ ?_)
        repeat' ((conv => whnf); first | refine bslP (by first | rfl | (simp [pureL, pureLL, AV.pure]; done) | fail) rfl ?_ | refine TakeC.full (by first | rfl | omega | (simp; done) | (simp; omega) | fail) ?_ | refine zBs ?_ | refine zBn ?_ | refine zBv rfl rfl ?_ | refine zN ?_ | refine zC ?_ | refine zC4 ?_ | refine zOr16 ?_ | refine zC1 ?_ | refine zByte ?_ | refine zMaxL ?_ | refine zMaxR ?_ | refine zMinL ?_ | refine zMinR ?_ | refine zShr ?_ | refine zC8 ?_ | refine zQ ?_ | refine zR ?_ | refine zS ?_ | refine zA ?_ | refine zM ?_ | refine xr rfl ?_ | refine ai rfl ?_ | refine condT ?_ | refine condF ?_ | refine condG1 ?_ | refine condG0 ?_ | refine cD ?_ | refine dD ?_ | refine cB ?_ | refine dB ?_ | refine cN ?_ | refine dN ?_ | refine cV ?_ | refine dV ?_ | refine cE ?_ | refine dE ?_ | refine condX0 ?_ | refine condX1 ?_ | refine condNot ?_ | refine condAnd ?_ | refine condOr ?_ | refine aO ?_ | refine aB ?_ | refine aR ?_ | refine aR ?_ (by simp; omega) | refine xr (by assumption) ?_ | refine ai (by assumption) ?_ | refine kV (hc) ?_ | refine kV (hp) ?_ | refine kV (hn) ?_ | refine condD (fun h => ?_) (fun h => ?_) | refine condB (fun h => ?_) (fun h => ?_) | refine condN (fun h => ?_) (fun h => ?_) | refine condE (fun h => ?_) (fun h => ?_) | refine condV (fun h => ?_) (fun h => ?_))
        (first | refine ev_fin (And.intro (by first | rfl | (simp [AV.pure, pureL]; done) | fail) ?_) | refine ev_fin0 (And.intro (by first | rfl | (simp [AV.pure, pureL]; done) | fail) ?_)); (conv => whnf); refine And.intro (by first | rfl | (simp [AV.pure, pureL, pureLL, *]; done) | fail) ?_; rfl
      · rw [hb] at hn
        obtain ⟨k, hk, _, hv⟩ := num_back hb
        rw [hv] at hn ⊢
        rw [if_neg (by simp), psV, Int.toNat_natCast]
        have vv := valid_gives178 ⟨(x : Int), (k : Int)⟩ (pfx_ok hx (by omega) hk)
        cases hvp : validP ⟨(x : Int), (k : Int)⟩
        · rw [hvp] at vv
          rw [if_neg (by simp)]
          refine gives_code (F := f233) rfl rfl (W_ok 300 _ _ _ _ ?_)
          repeat' ((conv => whnf); first | refine bslP (by first | rfl | (simp [pureL, pureLL, AV.pure]; done) | fail) rfl ?_ | refine TakeC.full (by first | rfl | omega | (simp; done) | (simp; omega) | fail) ?_ | refine zBs ?_ | refine zBn ?_ | refine zBv rfl rfl ?_ | refine zN ?_ | refine zC ?_ | refine zC4 ?_ | refine zOr16 ?_ | refine zC1 ?_ | refine zByte ?_ | refine zMaxL ?_ | refine zMaxR ?_ | refine zMinL ?_ | refine zMinR ?_ | refine zShr ?_ | refine zC8 ?_ | refine zQ ?_ | refine zR ?_ | refine zS ?_ | refine zA ?_ | refine zM ?_ | refine xr rfl ?_ | refine ai rfl ?_ | refine condT ?_ | refine condF ?_ | refine condG1 ?_ | refine condG0 ?_ | refine cD ?_ | refine dD ?_ | refine cB ?_ | refine dB ?_ | refine cN ?_ | refine dN ?_ | refine cV ?_ | refine dV ?_ | refine cE ?_ | refine dE ?_ | refine condX0 ?_ | refine condX1 ?_ | refine condNot ?_ | refine condAnd ?_ | refine condOr ?_ | refine aO ?_ | refine aB ?_ | refine aR ?_ | refine aR ?_ (by simp; omega) | refine xr (by assumption) ?_ | refine ai (by assumption) ?_ | refine kV (hc) ?_ | refine kV (hp) ?_ | refine kV (hn) ?_ | refine kV (vv) ?_ | refine condD (fun h => ?_) (fun h => ?_) | refine condB (fun h => ?_) (fun h => ?_) | refine condN (fun h => ?_) (fun h => ?_) | refine condE (fun h => ?_) (fun h => ?_) | refine condV (fun h => ?_) (fun h => ?_))
          (first | refine ev_fin (And.intro (by first | rfl | (simp [AV.pure, pureL]; done) | fail) ?_) | refine ev_fin0 (And.intro (by first | rfl | (simp [AV.pure, pureL]; done) | fail) ?_)); (conv => whnf); refine And.intro (by first | rfl | (simp [AV.pure, pureL, pureLL, *]; done) | fail) ?_; rfl
        · rw [hvp] at vv
          rw [if_pos rfl]
          refine gives_code (F := f233) rfl rfl (W_ok 300 _ _ _ _ ?_)
          repeat' ((conv => whnf); first | refine bslP (by first | rfl | (simp [pureL, pureLL, AV.pure]; done) | fail) rfl ?_ | refine TakeC.full (by first | rfl | omega | (simp; done) | (simp; omega) | fail) ?_ | refine zBs ?_ | refine zBn ?_ | refine zBv rfl rfl ?_ | refine zN ?_ | refine zC ?_ | refine zC4 ?_ | refine zOr16 ?_ | refine zC1 ?_ | refine zByte ?_ | refine zMaxL ?_ | refine zMaxR ?_ | refine zMinL ?_ | refine zMinR ?_ | refine zShr ?_ | refine zC8 ?_ | refine zQ ?_ | refine zR ?_ | refine zS ?_ | refine zA ?_ | refine zM ?_ | refine xr rfl ?_ | refine ai rfl ?_ | refine condT ?_ | refine condF ?_ | refine condG1 ?_ | refine condG0 ?_ | refine cD ?_ | refine dD ?_ | refine cB ?_ | refine dB ?_ | refine cN ?_ | refine dN ?_ | refine cV ?_ | refine dV ?_ | refine cE ?_ | refine dE ?_ | refine condX0 ?_ | refine condX1 ?_ | refine condNot ?_ | refine condAnd ?_ | refine condOr ?_ | refine aO ?_ | refine aB ?_ | refine aR ?_ | refine aR ?_ (by simp; omega) | refine xr (by assumption) ?_ | refine ai (by assumption) ?_ | refine kV (hc) ?_ | refine kV (hp) ?_ | refine kV (hn) ?_ | refine kV (vv) ?_ | refine condD (fun h => ?_) (fun h => ?_) | refine condB (fun h => ?_) (fun h => ?_) | refine condN (fun h => ?_) (fun h => ?_) | refine condE (fun h => ?_) (fun h => ?_) | refine condV (fun h => ?_) (fun h => ?_))
          (first | refine ev_fin (And.intro (by first | rfl | (simp [AV.pure, pureL]; done) | fail) ?_) | refine ev_fin0 (And.intro (by first | rfl | (simp [AV.pure, pureL]; done) | fail) ?_)); (conv => whnf); refine And.intro (by first | rfl | (simp [AV.pure, pureL, pureLL, *]; done) | fail) ?_; rfl
end Go.AM.IR
set_option maxHeartbeats 4000000
set_option maxRecDepth 20000
namespace Go.AM.IR
def prR5 (x : PRule × Int) : Ret := ⟨.tup [.agg x.1.enc, .int .i64 x.2], []⟩
theorem split_len32 (s : List UInt8) (w : List UInt8) (h : w ∈ Lib.split s [32]) : w.length ≤ s.length := by
  have := joinC_mem 32 _ w h
  rwa [join_split 32 s.length s (Nat.le_refl _)] at this
theorem words_len {s : List UInt8} {ws : List (List UInt8)} (h : wordsS s = some ws) : ∀ w ∈ ws, w.length ≤ s.length := by
  intro w hw
  unfold wordsS at h
  split at h
  · obtain rfl := Option.some.inj h
    simp at hw
  · split at h
    · cases h
    · split at h
      · cases h
      · obtain rfl := Option.some.inj h
        exact split_len32 s w hw
theorem fNum_ok (most : Int) (s : List UInt8) (h0 : 0 ≤ most) : 0 ≤ (fNum most s).1 ∧ (fNum most s).1 ≤ most := by
  unfold fNum
  split
  · split
    · exact ⟨Int.le_refl _, h0⟩
    · split
      · exact ⟨Int.le_refl _, h0⟩
      · rename_i h; exact ⟨by simp only; omega, by simp only; omega⟩
  · exact ⟨Int.le_refl _, h0⟩
theorem lenS_ok (s : List UInt8) : okI (lenS s).1 ∧ okI (lenS s).2.1 := by
  unfold lenS
  split
  · have h1 := fNum_ok 32 (s.takeWhile (· != 45)) (by omega)
    have h2 := fNum_ok 32 ((s.dropWhile (· != 45)).drop 1) (by omega)
    unfold okI
    simp only
    omega
  · unfold okI; simp only; omega
section
variable {kv : AV → Prop}
theorem zNeT {a : List UInt8} (h : kv (.bool false)) : ∃ v, binA .neq (.str a) (.str a) = some v ∧ kv v := ⟨.bool false, by show some (AV.bool (a != a)) = _; simp, h⟩
theorem zNeF {a b : List UInt8} (n : a ≠ b) (h : kv (.bool true)) : ∃ v, binA .neq (.str a) (.str b) = some v ∧ kv v := ⟨.bool true, by show some (AV.bool (a != b)) = _; simp [n], h⟩
end
theorem parse_gives334 (s : List UInt8) (hs : s.length < 4294967281) : Gives G 334 [.str s] [] (prR5 (plP s)) := by
  have hw := words_gives339 s hs
  unfold wrR at hw
  unfold plP
  cases hq : wordsS s with
  | none =>
    rw [hq] at hw
    simp only [Option.bind_none] at hw ⊢
    refine gives_code (F := f334) rfl rfl (W_ok 300 _ _ _ _ ?_)
    repeat' ((conv => whnf); first | refine bslP (by first | rfl | (simp [pureL, pureLL, AV.pure]; done) | fail) rfl ?_ | refine TakeC.full (by first | rfl | omega | (simp; done) | (simp; omega) | fail) ?_ | refine zBs ?_ | refine zBn ?_ | refine zBv rfl rfl ?_ | refine zN ?_ | refine zC ?_ | refine zC4 ?_ | refine zOr16 ?_ | refine zC1 ?_ | refine zByte ?_ | refine zMaxL ?_ | refine zMaxR ?_ | refine zMinL ?_ | refine zMinR ?_ | refine zShr ?_ | refine zC8 ?_ | refine zQ ?_ | refine zR ?_ | refine zS ?_ | refine zA ?_ | refine zM ?_ | refine xr rfl ?_ | refine ai rfl ?_ | refine condT ?_ | refine condF ?_ | refine condG1 ?_ | refine condG0 ?_ | refine cD ?_ | refine dD ?_ | refine cB ?_ | refine dB ?_ | refine cN ?_ | refine dN ?_ | refine cV ?_ | refine dV ?_ | refine cE ?_ | refine dE ?_ | refine condX0 ?_ | refine condX1 ?_ | refine condNot ?_ | refine condAnd ?_ | refine condOr ?_ | refine aO ?_ | refine aB ?_ | refine aR ?_ | refine aR ?_ (by simp; omega) | refine xr (by assumption) ?_ | refine ai (by assumption) ?_ | refine kV (hw) ?_ | refine condD (fun h => ?_) (fun h => ?_) | refine condB (fun h => ?_) (fun h => ?_) | refine condN (fun h => ?_) (fun h => ?_) | refine condE (fun h => ?_) (fun h => ?_) | refine condV (fun h => ?_) (fun h => ?_))
    (first | refine ev_fin (And.intro (by first | rfl | (simp [AV.pure, pureL]; done) | fail) ?_) | refine ev_fin0 (And.intro (by first | rfl | (simp [AV.pure, pureL]; done) | fail) ?_)); (conv => whnf); refine And.intro (by first | rfl | (simp [AV.pure, pureL, pureLL, *]; done) | fail) ?_; rfl
  | some ws =>
    rw [hq] at hw
    have hlen := words_len hq
    simp only [Option.bind_some] at hw ⊢
    by_cases hn : s = []
    · rw [if_pos hn] at hw
      have : ws = [] := by rw [hn] at hq; simpa [wordsS] using hq.symm
      subst this
      refine gives_code (F := f334) rfl rfl (W_ok 300 _ _ _ _ ?_)
      repeat' ((conv => whnf); first | refine bslP (by first | rfl | (simp [pureL, pureLL, AV.pure]; done) | fail) rfl ?_ | refine TakeC.full (by first | rfl | omega | (simp; done) | (simp; omega) | fail) ?_ | refine zBs ?_ | refine zBn ?_ | refine zBv rfl rfl ?_ | refine zN ?_ | refine zC ?_ | refine zC4 ?_ | refine zOr16 ?_ | refine zC1 ?_ | refine zByte ?_ | refine zMaxL ?_ | refine zMaxR ?_ | refine zMinL ?_ | refine zMinR ?_ | refine zShr ?_ | refine zC8 ?_ | refine zQ ?_ | refine zR ?_ | refine zS ?_ | refine zA ?_ | refine zM ?_ | refine xr rfl ?_ | refine ai rfl ?_ | refine condT ?_ | refine condF ?_ | refine condG1 ?_ | refine condG0 ?_ | refine cD ?_ | refine dD ?_ | refine cB ?_ | refine dB ?_ | refine cN ?_ | refine dN ?_ | refine cV ?_ | refine dV ?_ | refine cE ?_ | refine dE ?_ | refine condX0 ?_ | refine condX1 ?_ | refine condNot ?_ | refine condAnd ?_ | refine condOr ?_ | refine aO ?_ | refine aB ?_ | refine aR ?_ | refine aR ?_ (by simp; omega) | refine xr (by assumption) ?_ | refine ai (by assumption) ?_ | refine kV (hw) ?_ | refine condD (fun h => ?_) (fun h => ?_) | refine condB (fun h => ?_) (fun h => ?_) | refine condN (fun h => ?_) (fun h => ?_) | refine condE (fun h => ?_) (fun h => ?_) | refine condV (fun h => ?_) (fun h => ?_))
      (first | refine ev_fin (And.intro (by first | rfl | (simp [AV.pure, pureL]; done) | fail) ?_) | refine ev_fin0 (And.intro (by first | rfl | (simp [AV.pure, pureL]; done) | fail) ?_)); (conv => whnf); refine And.intro (by first | rfl | (simp [AV.pure, pureL, pureLL, *]; done) | fail) ?_; rfl
    · rw [if_neg hn] at hw
      match ws, hlen, hw with
      | [], hlen, hw =>
        refine gives_code (F := f334) rfl rfl (W_ok 300 _ _ _ _ ?_)
        repeat' ((conv => whnf); first | refine bslP (by first | rfl | (simp [pureL, pureLL, AV.pure]; done) | fail) rfl ?_ | refine TakeC.full (by first | rfl | omega | (simp; done) | (simp; omega) | fail) ?_ | refine zBs ?_ | refine zBn ?_ | refine zBv rfl rfl ?_ | refine zN ?_ | refine zC ?_ | refine zC4 ?_ | refine zOr16 ?_ | refine zC1 ?_ | refine zByte ?_ | refine zMaxL ?_ | refine zMaxR ?_ | refine zMinL ?_ | refine zMinR ?_ | refine zShr ?_ | refine zC8 ?_ | refine zQ ?_ | refine zR ?_ | refine zS ?_ | refine zA ?_ | refine zM ?_ | refine xr rfl ?_ | refine ai rfl ?_ | refine condT ?_ | refine condF ?_ | refine condG1 ?_ | refine condG0 ?_ | refine cD ?_ | refine dD ?_ | refine cB ?_ | refine dB ?_ | refine cN ?_ | refine dN ?_ | refine cV ?_ | refine dV ?_ | refine cE ?_ | refine dE ?_ | refine condX0 ?_ | refine condX1 ?_ | refine condNot ?_ | refine condAnd ?_ | refine condOr ?_ | refine aO ?_ | refine aB ?_ | refine aR ?_ | refine aR ?_ (by simp; omega) | refine xr (by assumption) ?_ | refine ai (by assumption) ?_ | refine callW (hw) ?_ | refine condD (fun h => ?_) (fun h => ?_) | refine condB (fun h => ?_) (fun h => ?_) | refine condN (fun h => ?_) (fun h => ?_) | refine condE (fun h => ?_) (fun h => ?_) | refine condV (fun h => ?_) (fun h => ?_))
        (first | refine ev_fin (And.intro (by first | rfl | (simp [AV.pure, pureL]; done) | fail) ?_) | refine ev_fin0 (And.intro (by first | rfl | (simp [AV.pure, pureL]; done) | fail) ?_)); (conv => whnf); refine And.intro (by first | rfl | (simp [AV.pure, pureL, pureLL, *]; done) | fail) ?_; rfl
      | [v], hlen, hw =>
        refine gives_code (F := f334) rfl rfl (W_ok 300 _ _ _ _ ?_)
        repeat' ((conv => whnf); first | refine bslP (by first | rfl | (simp [pureL, pureLL, AV.pure]; done) | fail) rfl ?_ | refine TakeC.full (by first | rfl | omega | (simp; done) | (simp; omega) | fail) ?_ | refine zBs ?_ | refine zBn ?_ | refine zBv rfl rfl ?_ | refine zN ?_ | refine zC ?_ | refine zC4 ?_ | refine zOr16 ?_ | refine zC1 ?_ | refine zByte ?_ | refine zMaxL ?_ | refine zMaxR ?_ | refine zMinL ?_ | refine zMinR ?_ | refine zShr ?_ | refine zC8 ?_ | refine zQ ?_ | refine zR ?_ | refine zS ?_ | refine zA ?_ | refine zM ?_ | refine xr rfl ?_ | refine ai rfl ?_ | refine condT ?_ | refine condF ?_ | refine condG1 ?_ | refine condG0 ?_ | refine cD ?_ | refine dD ?_ | refine cB ?_ | refine dB ?_ | refine cN ?_ | refine dN ?_ | refine cV ?_ | refine dV ?_ | refine cE ?_ | refine dE ?_ | refine condX0 ?_ | refine condX1 ?_ | refine condNot ?_ | refine condAnd ?_ | refine condOr ?_ | refine aO ?_ | refine aB ?_ | refine aR ?_ | refine aR ?_ (by simp; omega) | refine xr (by assumption) ?_ | refine ai (by assumption) ?_ | refine callW (hw) ?_ | refine condD (fun h => ?_) (fun h => ?_) | refine condB (fun h => ?_) (fun h => ?_) | refine condN (fun h => ?_) (fun h => ?_) | refine condE (fun h => ?_) (fun h => ?_) | refine condV (fun h => ?_) (fun h => ?_))
        (first | refine ev_fin (And.intro (by first | rfl | (simp [AV.pure, pureL]; done) | fail) ?_) | refine ev_fin0 (And.intro (by first | rfl | (simp [AV.pure, pureL]; done) | fail) ?_)); (conv => whnf); refine And.intro (by first | rfl | (simp [AV.pure, pureL, pureLL, *]; done) | fail) ?_; rfl
      | [v, p], hlen, hw =>
        have hp := parse_gives233 p (by have := hlen p (by simp); omega)
        have hok := psP_ok (s := p)
        unfold plW
        rcases hpp : psP p with ⟨q, e⟩
        rw [hpp] at hp hok
        simp only [hpp] at hok ⊢
        by_cases e0 : e = 0
        · subst e0
          rw [if_pos rfl]
          have ho := hok rfl
          obtain ⟨pv, hpv⟩ : ∃ b, b = (v == wPermit) := ⟨_, rfl⟩
          have zv : ∀ {kv : AV → Prop}, kv (.bool pv) → ∃ x, binA .eql (.str v) (.str wPermit) = some x ∧ kv x := fun h => ⟨_, by show some (AV.bool (v == wPermit)) = _; rw [← hpv], h⟩
          rw [← hpv]
          have ht := text_gives332 ⟨pv, q, q.len, q.len⟩ ⟨ho, ho.len, ho.len⟩
          unfold txR at ht
          simp only
          by_cases hc : chkS ⟨pv, q, q.len, q.len⟩ = 0
          · rw [if_pos hc] at ht
            by_cases hx : rtext ⟨pv, q, q.len, q.len⟩ = s
            · rw [if_pos ⟨hc, hx⟩]
              rw [hx] at ht
              refine gives_code (F := f334) rfl rfl (W_ok 300 _ _ _ _ ?_)
              repeat' ((conv => whnf); first | refine zv ?_ | refine zNeT ?_ | refine bslP (by first | rfl | (simp [pureL, pureLL, AV.pure]; done) | fail) rfl ?_ | refine TakeC.full (by first | rfl | omega | (simp; done) | (simp; omega) | fail) ?_ | refine zBs ?_ | refine zBn ?_ | refine zBv rfl rfl ?_ | refine zN ?_ | refine zC ?_ | refine zC4 ?_ | refine zOr16 ?_ | refine zC1 ?_ | refine zByte ?_ | refine zMaxL ?_ | refine zMaxR ?_ | refine zMinL ?_ | refine zMinR ?_ | refine zShr ?_ | refine zC8 ?_ | refine zQ ?_ | refine zR ?_ | refine zS ?_ | refine zA ?_ | refine zM ?_ | refine xr rfl ?_ | refine ai rfl ?_ | refine condT ?_ | refine condF ?_ | refine condG1 ?_ | refine condG0 ?_ | refine cD ?_ | refine dD ?_ | refine cB ?_ | refine dB ?_ | refine cN ?_ | refine dN ?_ | refine cV ?_ | refine dV ?_ | refine cE ?_ | refine dE ?_ | refine condX0 ?_ | refine condX1 ?_ | refine condNot ?_ | refine condAnd ?_ | refine condOr ?_ | refine aO ?_ | refine aB ?_ | refine aR ?_ | refine aR ?_ (by simp; omega) | refine xr (by assumption) ?_ | refine ai (by assumption) ?_ | refine callW (hw) ?_ | refine kV (hp) ?_ | refine kV (ht) ?_ | refine condD (fun h => ?_) (fun h => ?_) | refine condB (fun h => ?_) (fun h => ?_) | refine condN (fun h => ?_) (fun h => ?_) | refine condE (fun h => ?_) (fun h => ?_) | refine condV (fun h => ?_) (fun h => ?_))
              (first | refine ev_fin (And.intro (by first | rfl | (simp [AV.pure, pureL]; done) | fail) ?_) | refine ev_fin0 (And.intro (by first | rfl | (simp [AV.pure, pureL]; done) | fail) ?_)); (conv => whnf); refine And.intro (by first | rfl | (simp [AV.pure, pureL, pureLL, *]; done) | fail) ?_; rfl
            · rw [if_neg (fun h => hx h.2)]
              generalize rtext ⟨pv, q, q.len, q.len⟩ = t at *
              refine gives_code (F := f334) rfl rfl (W_ok 300 _ _ _ _ ?_)
              repeat' ((conv => whnf); first | refine zv ?_ | refine zNeF hx ?_ | refine bslP (by first | rfl | (simp [pureL, pureLL, AV.pure]; done) | fail) rfl ?_ | refine TakeC.full (by first | rfl | omega | (simp; done) | (simp; omega) | fail) ?_ | refine zBs ?_ | refine zBn ?_ | refine zBv rfl rfl ?_ | refine zN ?_ | refine zC ?_ | refine zC4 ?_ | refine zOr16 ?_ | refine zC1 ?_ | refine zByte ?_ | refine zMaxL ?_ | refine zMaxR ?_ | refine zMinL ?_ | refine zMinR ?_ | refine zShr ?_ | refine zC8 ?_ | refine zQ ?_ | refine zR ?_ | refine zS ?_ | refine zA ?_ | refine zM ?_ | refine xr rfl ?_ | refine ai rfl ?_ | refine condT ?_ | refine condF ?_ | refine condG1 ?_ | refine condG0 ?_ | refine cD ?_ | refine dD ?_ | refine cB ?_ | refine dB ?_ | refine cN ?_ | refine dN ?_ | refine cV ?_ | refine dV ?_ | refine cE ?_ | refine dE ?_ | refine condX0 ?_ | refine condX1 ?_ | refine condNot ?_ | refine condAnd ?_ | refine condOr ?_ | refine aO ?_ | refine aB ?_ | refine aR ?_ | refine aR ?_ (by simp; omega) | refine xr (by assumption) ?_ | refine ai (by assumption) ?_ | refine callW (hw) ?_ | refine kV (hp) ?_ | refine kV (ht) ?_ | refine condD (fun h => ?_) (fun h => ?_) | refine condB (fun h => ?_) (fun h => ?_) | refine condN (fun h => ?_) (fun h => ?_) | refine condE (fun h => ?_) (fun h => ?_) | refine condV (fun h => ?_) (fun h => ?_))
              (first | refine ev_fin (And.intro (by first | rfl | (simp [AV.pure, pureL]; done) | fail) ?_) | refine ev_fin0 (And.intro (by first | rfl | (simp [AV.pure, pureL]; done) | fail) ?_)); (conv => whnf); refine And.intro (by first | rfl | (simp [AV.pure, pureL, pureLL, *]; done) | fail) ?_; rfl
          · rw [if_neg hc] at ht
            rw [if_neg (fun h => hc h.1)]
            generalize chkS ⟨pv, q, q.len, q.len⟩ = k at *
            refine gives_code (F := f334) rfl rfl (W_ok 300 _ _ _ _ ?_)
            repeat' ((conv => whnf); first | refine zv ?_ | refine bslP (by first | rfl | (simp [pureL, pureLL, AV.pure]; done) | fail) rfl ?_ | refine TakeC.full (by first | rfl | omega | (simp; done) | (simp; omega) | fail) ?_ | refine zBs ?_ | refine zBn ?_ | refine zBv rfl rfl ?_ | refine zN ?_ | refine zC ?_ | refine zC4 ?_ | refine zOr16 ?_ | refine zC1 ?_ | refine zByte ?_ | refine zMaxL ?_ | refine zMaxR ?_ | refine zMinL ?_ | refine zMinR ?_ | refine zShr ?_ | refine zC8 ?_ | refine zQ ?_ | refine zR ?_ | refine zS ?_ | refine zA ?_ | refine zM ?_ | refine xr rfl ?_ | refine ai rfl ?_ | refine condT ?_ | refine condF ?_ | refine condG1 ?_ | refine condG0 ?_ | refine cD ?_ | refine dD ?_ | refine cB ?_ | refine dB ?_ | refine cN ?_ | refine dN ?_ | refine cV ?_ | refine dV ?_ | refine cE ?_ | refine dE ?_ | refine condX0 ?_ | refine condX1 ?_ | refine condNot ?_ | refine condAnd ?_ | refine condOr ?_ | refine aO ?_ | refine aB ?_ | refine aR ?_ | refine aR ?_ (by simp; omega) | refine xr (by assumption) ?_ | refine ai (by assumption) ?_ | refine callW (hw) ?_ | refine kV (hp) ?_ | refine kV (ht) ?_ | refine condD (fun h => ?_) (fun h => ?_) | refine condB (fun h => ?_) (fun h => ?_) | refine condN (fun h => ?_) (fun h => ?_) | refine condE (fun h => ?_) (fun h => ?_) | refine condV (fun h => ?_) (fun h => ?_))
            (first | refine ev_fin (And.intro (by first | rfl | (simp [AV.pure, pureL]; done) | fail) ?_) | refine ev_fin0 (And.intro (by first | rfl | (simp [AV.pure, pureL]; done) | fail) ?_)); (conv => whnf); refine And.intro (by first | rfl | (simp [AV.pure, pureL, pureLL, *]; done) | fail) ?_; rfl
        · rw [if_neg e0]
          refine gives_code (F := f334) rfl rfl (W_ok 300 _ _ _ _ ?_)
          repeat' ((conv => whnf); first | refine bslP (by first | rfl | (simp [pureL, pureLL, AV.pure]; done) | fail) rfl ?_ | refine TakeC.full (by first | rfl | omega | (simp; done) | (simp; omega) | fail) ?_ | refine zBs ?_ | refine zBn ?_ | refine zBv rfl rfl ?_ | refine zN ?_ | refine zC ?_ | refine zC4 ?_ | refine zOr16 ?_ | refine zC1 ?_ | refine zByte ?_ | refine zMaxL ?_ | refine zMaxR ?_ | refine zMinL ?_ | refine zMinR ?_ | refine zShr ?_ | refine zC8 ?_ | refine zQ ?_ | refine zR ?_ | refine zS ?_ | refine zA ?_ | refine zM ?_ | refine xr rfl ?_ | refine ai rfl ?_ | refine condT ?_ | refine condF ?_ | refine condG1 ?_ | refine condG0 ?_ | refine cD ?_ | refine dD ?_ | refine cB ?_ | refine dB ?_ | refine cN ?_ | refine dN ?_ | refine cV ?_ | refine dV ?_ | refine cE ?_ | refine dE ?_ | refine condX0 ?_ | refine condX1 ?_ | refine condNot ?_ | refine condAnd ?_ | refine condOr ?_ | refine aO ?_ | refine aB ?_ | refine aR ?_ | refine aR ?_ (by simp; omega) | refine xr (by assumption) ?_ | refine ai (by assumption) ?_ | refine callW (hw) ?_ | refine kV (hp) ?_ | refine condD (fun h => ?_) (fun h => ?_) | refine condB (fun h => ?_) (fun h => ?_) | refine condN (fun h => ?_) (fun h => ?_) | refine condE (fun h => ?_) (fun h => ?_) | refine condV (fun h => ?_) (fun h => ?_))
          (first | refine ev_fin (And.intro (by first | rfl | (simp [AV.pure, pureL]; done) | fail) ?_) | refine ev_fin0 (And.intro (by first | rfl | (simp [AV.pure, pureL]; done) | fail) ?_)); (conv => whnf); refine And.intro (by first | rfl | (simp [AV.pure, pureL, pureLL, *]; done) | fail) ?_; rfl
      | [v, p, l], hlen, hw =>
        have hp := parse_gives233 p (by have := hlen p (by simp); omega)
        have hl := len_gives340 l (by have := hlen l (by simp); omega)
        have hok := psP_ok (s := p)
        have hlo := lenS_ok l
        unfold plW
        unfold lnR at hl
        rcases hpp : psP p with ⟨q, e⟩
        rcases hll : lenS l with ⟨a, b, o⟩
        rw [hpp] at hp hok
        rw [hll] at hlo hl
        simp only [hpp, hll] at hok hlo hl ⊢
        by_cases e0 : e = 0
        · subst e0
          rw [if_pos rfl]
          have ho := hok rfl
          obtain ⟨pv, hpv⟩ : ∃ b, b = (v == wPermit) := ⟨_, rfl⟩
          have zv : ∀ {kv : AV → Prop}, kv (.bool pv) → ∃ x, binA .eql (.str v) (.str wPermit) = some x ∧ kv x := fun h => ⟨_, by show some (AV.bool (v == wPermit)) = _; rw [← hpv], h⟩
          rw [← hpv]
          cases o
          · rw [if_neg (by simp)]
            simp only
            refine gives_code (F := f334) rfl rfl (W_ok 300 _ _ _ _ ?_)
            repeat' ((conv => whnf); first | refine zv ?_ | refine bslP (by first | rfl | (simp [pureL, pureLL, AV.pure]; done) | fail) rfl ?_ | refine TakeC.full (by first | rfl | omega | (simp; done) | (simp; omega) | fail) ?_ | refine zBs ?_ | refine zBn ?_ | refine zBv rfl rfl ?_ | refine zN ?_ | refine zC ?_ | refine zC4 ?_ | refine zOr16 ?_ | refine zC1 ?_ | refine zByte ?_ | refine zMaxL ?_ | refine zMaxR ?_ | refine zMinL ?_ | refine zMinR ?_ | refine zShr ?_ | refine zC8 ?_ | refine zQ ?_ | refine zR ?_ | refine zS ?_ | refine zA ?_ | refine zM ?_ | refine xr rfl ?_ | refine ai rfl ?_ | refine condT ?_ | refine condF ?_ | refine condG1 ?_ | refine condG0 ?_ | refine cD ?_ | refine dD ?_ | refine cB ?_ | refine dB ?_ | refine cN ?_ | refine dN ?_ | refine cV ?_ | refine dV ?_ | refine cE ?_ | refine dE ?_ | refine condX0 ?_ | refine condX1 ?_ | refine condNot ?_ | refine condAnd ?_ | refine condOr ?_ | refine aO ?_ | refine aB ?_ | refine aR ?_ | refine aR ?_ (by simp; omega) | refine xr (by assumption) ?_ | refine ai (by assumption) ?_ | refine callW (hw) ?_ | refine kV (hp) ?_ | refine kV (hl) ?_ | refine condD (fun h => ?_) (fun h => ?_) | refine condB (fun h => ?_) (fun h => ?_) | refine condN (fun h => ?_) (fun h => ?_) | refine condE (fun h => ?_) (fun h => ?_) | refine condV (fun h => ?_) (fun h => ?_))
            (first | refine ev_fin (And.intro (by first | rfl | (simp [AV.pure, pureL]; done) | fail) ?_) | refine ev_fin0 (And.intro (by first | rfl | (simp [AV.pure, pureL]; done) | fail) ?_)); (conv => whnf); refine And.intro (by first | rfl | (simp [AV.pure, pureL, pureLL, *]; done) | fail) ?_; rfl
          · rw [if_pos rfl]
            have ht := text_gives332 ⟨pv, q, a, b⟩ ⟨ho, hlo.1, hlo.2⟩
            unfold txR at ht
            simp only
            by_cases hc : chkS ⟨pv, q, a, b⟩ = 0
            · rw [if_pos hc] at ht
              by_cases hx : rtext ⟨pv, q, a, b⟩ = s
              · rw [if_pos ⟨hc, hx⟩]
                rw [hx] at ht
                refine gives_code (F := f334) rfl rfl (W_ok 300 _ _ _ _ ?_)
                repeat' ((conv => whnf); first | refine zv ?_ | refine zNeT ?_ | refine bslP (by first | rfl | (simp [pureL, pureLL, AV.pure]; done) | fail) rfl ?_ | refine TakeC.full (by first | rfl | omega | (simp; done) | (simp; omega) | fail) ?_ | refine zBs ?_ | refine zBn ?_ | refine zBv rfl rfl ?_ | refine zN ?_ | refine zC ?_ | refine zC4 ?_ | refine zOr16 ?_ | refine zC1 ?_ | refine zByte ?_ | refine zMaxL ?_ | refine zMaxR ?_ | refine zMinL ?_ | refine zMinR ?_ | refine zShr ?_ | refine zC8 ?_ | refine zQ ?_ | refine zR ?_ | refine zS ?_ | refine zA ?_ | refine zM ?_ | refine xr rfl ?_ | refine ai rfl ?_ | refine condT ?_ | refine condF ?_ | refine condG1 ?_ | refine condG0 ?_ | refine cD ?_ | refine dD ?_ | refine cB ?_ | refine dB ?_ | refine cN ?_ | refine dN ?_ | refine cV ?_ | refine dV ?_ | refine cE ?_ | refine dE ?_ | refine condX0 ?_ | refine condX1 ?_ | refine condNot ?_ | refine condAnd ?_ | refine condOr ?_ | refine aO ?_ | refine aB ?_ | refine aR ?_ | refine aR ?_ (by simp; omega) | refine xr (by assumption) ?_ | refine ai (by assumption) ?_ | refine callW (hw) ?_ | refine kV (hp) ?_ | refine kV (hl) ?_ | refine kV (ht) ?_ | refine condD (fun h => ?_) (fun h => ?_) | refine condB (fun h => ?_) (fun h => ?_) | refine condN (fun h => ?_) (fun h => ?_) | refine condE (fun h => ?_) (fun h => ?_) | refine condV (fun h => ?_) (fun h => ?_))
                (first | refine ev_fin (And.intro (by first | rfl | (simp [AV.pure, pureL]; done) | fail) ?_) | refine ev_fin0 (And.intro (by first | rfl | (simp [AV.pure, pureL]; done) | fail) ?_)); (conv => whnf); refine And.intro (by first | rfl | (simp [AV.pure, pureL, pureLL, *]; done) | fail) ?_; rfl
              · rw [if_neg (fun h => hx h.2)]
                generalize rtext ⟨pv, q, a, b⟩ = t at *
                refine gives_code (F := f334) rfl rfl (W_ok 300 _ _ _ _ ?_)
                repeat' ((conv => whnf); first | refine zv ?_ | refine zNeF hx ?_ | refine bslP (by first | rfl | (simp [pureL, pureLL, AV.pure]; done) | fail) rfl ?_ | refine TakeC.full (by first | rfl | omega | (simp; done) | (simp; omega) | fail) ?_ | refine zBs ?_ | refine zBn ?_ | refine zBv rfl rfl ?_ | refine zN ?_ | refine zC ?_ | refine zC4 ?_ | refine zOr16 ?_ | refine zC1 ?_ | refine zByte ?_ | refine zMaxL ?_ | refine zMaxR ?_ | refine zMinL ?_ | refine zMinR ?_ | refine zShr ?_ | refine zC8 ?_ | refine zQ ?_ | refine zR ?_ | refine zS ?_ | refine zA ?_ | refine zM ?_ | refine xr rfl ?_ | refine ai rfl ?_ | refine condT ?_ | refine condF ?_ | refine condG1 ?_ | refine condG0 ?_ | refine cD ?_ | refine dD ?_ | refine cB ?_ | refine dB ?_ | refine cN ?_ | refine dN ?_ | refine cV ?_ | refine dV ?_ | refine cE ?_ | refine dE ?_ | refine condX0 ?_ | refine condX1 ?_ | refine condNot ?_ | refine condAnd ?_ | refine condOr ?_ | refine aO ?_ | refine aB ?_ | refine aR ?_ | refine aR ?_ (by simp; omega) | refine xr (by assumption) ?_ | refine ai (by assumption) ?_ | refine callW (hw) ?_ | refine kV (hp) ?_ | refine kV (hl) ?_ | refine kV (ht) ?_ | refine condD (fun h => ?_) (fun h => ?_) | refine condB (fun h => ?_) (fun h => ?_) | refine condN (fun h => ?_) (fun h => ?_) | refine condE (fun h => ?_) (fun h => ?_) | refine condV (fun h => ?_) (fun h => ?_))
                (first | refine ev_fin (And.intro (by first | rfl | (simp [AV.pure, pureL]; done) | fail) ?_) | refine ev_fin0 (And.intro (by first | rfl | (simp [AV.pure, pureL]; done) | fail) ?_)); (conv => whnf); refine And.intro (by first | rfl | (simp [AV.pure, pureL, pureLL, *]; done) | fail) ?_; rfl
            · rw [if_neg hc] at ht
              rw [if_neg (fun h => hc h.1)]
              generalize chkS ⟨pv, q, a, b⟩ = k at *
              refine gives_code (F := f334) rfl rfl (W_ok 300 _ _ _ _ ?_)
              repeat' ((conv => whnf); first | refine zv ?_ | refine bslP (by first | rfl | (simp [pureL, pureLL, AV.pure]; done) | fail) rfl ?_ | refine TakeC.full (by first | rfl | omega | (simp; done) | (simp; omega) | fail) ?_ | refine zBs ?_ | refine zBn ?_ | refine zBv rfl rfl ?_ | refine zN ?_ | refine zC ?_ | refine zC4 ?_ | refine zOr16 ?_ | refine zC1 ?_ | refine zByte ?_ | refine zMaxL ?_ | refine zMaxR ?_ | refine zMinL ?_ | refine zMinR ?_ | refine zShr ?_ | refine zC8 ?_ | refine zQ ?_ | refine zR ?_ | refine zS ?_ | refine zA ?_ | refine zM ?_ | refine xr rfl ?_ | refine ai rfl ?_ | refine condT ?_ | refine condF ?_ | refine condG1 ?_ | refine condG0 ?_ | refine cD ?_ | refine dD ?_ | refine cB ?_ | refine dB ?_ | refine cN ?_ | refine dN ?_ | refine cV ?_ | refine dV ?_ | refine cE ?_ | refine dE ?_ | refine condX0 ?_ | refine condX1 ?_ | refine condNot ?_ | refine condAnd ?_ | refine condOr ?_ | refine aO ?_ | refine aB ?_ | refine aR ?_ | refine aR ?_ (by simp; omega) | refine xr (by assumption) ?_ | refine ai (by assumption) ?_ | refine callW (hw) ?_ | refine kV (hp) ?_ | refine kV (hl) ?_ | refine kV (ht) ?_ | refine condD (fun h => ?_) (fun h => ?_) | refine condB (fun h => ?_) (fun h => ?_) | refine condN (fun h => ?_) (fun h => ?_) | refine condE (fun h => ?_) (fun h => ?_) | refine condV (fun h => ?_) (fun h => ?_))
              (first | refine ev_fin (And.intro (by first | rfl | (simp [AV.pure, pureL]; done) | fail) ?_) | refine ev_fin0 (And.intro (by first | rfl | (simp [AV.pure, pureL]; done) | fail) ?_)); (conv => whnf); refine And.intro (by first | rfl | (simp [AV.pure, pureL, pureLL, *]; done) | fail) ?_; rfl
        · rw [if_neg e0]
          refine gives_code (F := f334) rfl rfl (W_ok 300 _ _ _ _ ?_)
          repeat' ((conv => whnf); first | refine bslP (by first | rfl | (simp [pureL, pureLL, AV.pure]; done) | fail) rfl ?_ | refine TakeC.full (by first | rfl | omega | (simp; done) | (simp; omega) | fail) ?_ | refine zBs ?_ | refine zBn ?_ | refine zBv rfl rfl ?_ | refine zN ?_ | refine zC ?_ | refine zC4 ?_ | refine zOr16 ?_ | refine zC1 ?_ | refine zByte ?_ | refine zMaxL ?_ | refine zMaxR ?_ | refine zMinL ?_ | refine zMinR ?_ | refine zShr ?_ | refine zC8 ?_ | refine zQ ?_ | refine zR ?_ | refine zS ?_ | refine zA ?_ | refine zM ?_ | refine xr rfl ?_ | refine ai rfl ?_ | refine condT ?_ | refine condF ?_ | refine condG1 ?_ | refine condG0 ?_ | refine cD ?_ | refine dD ?_ | refine cB ?_ | refine dB ?_ | refine cN ?_ | refine dN ?_ | refine cV ?_ | refine dV ?_ | refine cE ?_ | refine dE ?_ | refine condX0 ?_ | refine condX1 ?_ | refine condNot ?_ | refine condAnd ?_ | refine condOr ?_ | refine aO ?_ | refine aB ?_ | refine aR ?_ | refine aR ?_ (by simp; omega) | refine xr (by assumption) ?_ | refine ai (by assumption) ?_ | refine callW (hw) ?_ | refine kV (hp) ?_ | refine condD (fun h => ?_) (fun h => ?_) | refine condB (fun h => ?_) (fun h => ?_) | refine condN (fun h => ?_) (fun h => ?_) | refine condE (fun h => ?_) (fun h => ?_) | refine condV (fun h => ?_) (fun h => ?_))
          (first | refine ev_fin (And.intro (by first | rfl | (simp [AV.pure, pureL]; done) | fail) ?_) | refine ev_fin0 (And.intro (by first | rfl | (simp [AV.pure, pureL]; done) | fail) ?_)); (conv => whnf); refine And.intro (by first | rfl | (simp [AV.pure, pureL, pureLL, *]; done) | fail) ?_; rfl
      | v :: p :: l :: w :: r, hlen, hw =>
        have hll : ((v :: p :: l :: w :: r).map encS).length = r.length + 4 := by simp
        have hpl : pureLL ((v :: p :: l :: w :: r).map encS) = true := pureLL_words _
        generalize (v :: p :: l :: w :: r).map encS = es at *
        have hpu : (AV.tup [AV.sl 1 es, AV.int .i64 0]).pure = true := by simp [AV.pure, pureL, hpl]
        simp only [plW]
        refine gives_code (F := f334) rfl rfl (W_ok 300 _ _ _ _ ?_)
        repeat' ((conv => whnf); first | refine callW hw ?_ (by rfl) hpu | refine bslP (by first | rfl | (simp [pureL, pureLL, AV.pure]; done) | fail) rfl ?_ | refine TakeC.full (by first | rfl | omega | (simp; done) | (simp; omega) | fail) ?_ | refine zBs ?_ | refine zBn ?_ | refine zBv rfl rfl ?_ | refine zN ?_ | refine zC ?_ | refine zC4 ?_ | refine zOr16 ?_ | refine zC1 ?_ | refine zByte ?_ | refine zMaxL ?_ | refine zMaxR ?_ | refine zMinL ?_ | refine zMinR ?_ | refine zShr ?_ | refine zC8 ?_ | refine zQ ?_ | refine zR ?_ | refine zS ?_ | refine zA ?_ | refine zM ?_ | refine xr rfl ?_ | refine ai rfl ?_ | refine condT ?_ | refine condF ?_ | refine condG1 ?_ | refine condG0 ?_ | refine cD ?_ | refine dD ?_ | refine cB ?_ | refine dB ?_ | refine cN ?_ | refine dN ?_ | refine cV ?_ | refine dV ?_ | refine cE ?_ | refine dE ?_ | refine condX0 ?_ | refine condX1 ?_ | refine condNot ?_ | refine condAnd ?_ | refine condOr ?_ | refine aO ?_ | refine aB ?_ | refine aR ?_ | refine aR ?_ (by simp; omega) | refine xr (by assumption) ?_ | refine ai (by assumption) ?_ | refine condD (fun h => ?_) (fun h => ?_) | refine condB (fun h => ?_) (fun h => ?_) | refine condN (fun h => ?_) (fun h => ?_) | refine condE (fun h => ?_) (fun h => ?_) | refine condV (fun h => ?_) (fun h => ?_))
        (first | refine ev_fin (And.intro (by first | rfl | (simp [AV.pure, pureL]; done) | fail) ?_) | refine ev_fin0 (And.intro (by first | rfl | (simp [AV.pure, pureL]; done) | fail) ?_)); (conv => whnf); refine And.intro (by first | rfl | (simp [AV.pure, pureL, pureLL, *]; done) | fail) ?_; rfl
end Go.AM.IR
set_option maxHeartbeats 4000000
set_option maxRecDepth 20000
namespace Go.AM.IR
theorem enc_pure (r : PRule) : pureL r.enc = true := rfl
section
variable {k : Eff → Prop} {x y : Opd} {g key : Nat} {hg : Nat → Option (Nat × Blk)}
end
end Go.AM.IR
set_option maxHeartbeats 4000000
set_option maxRecDepth 20000
namespace Go.AM.IR
@[simp] theorem pureLL_rules (l : List PRule) : pureLL (l.map PRule.enc) = true := pureLL_mapB enc_pure l
end Go.AM.IR
set_option maxHeartbeats 4000000
set_option maxRecDepth 20000
namespace Go.AM.IR
end Go.AM.IR
set_option maxHeartbeats 4000000
set_option maxRecDepth 20000
namespace Go.AM.IR
section
variable {k : Eff → Prop} {x y : Opd} {g key : Nat} {hg : Nat → Option (Nat × Blk)}
theorem zSame5 {r : PRule} (h : k { res := .bool true }) : ∃ e, aopV (.eqs [.bool, .int, .int, .int, .int] false x y) g key [.agg r.enc, .agg r.enc] hg = some e ∧ k e := ⟨_, by simp [aopV, PRule.enc, eqL, scal], h⟩
end
end Go.AM.IR
set_option maxHeartbeats 4000000
set_option maxRecDepth 20000
namespace Go.AM.IR
theorem rtext_len {r : PRule} (hr : r.pfx.ok) (h : chkS r = 0) : (rtext r).length ≤ 40 := by
  obtain ⟨v, m1, m2, m3, m0⟩ := chk_zero h
  obtain ⟨_, hx⟩ := nat_of hr.addr
  have hl := ptext_len (n := r.pfx.len.toNat) hx (by omega)
  have l1 := itoa_len (n := r.min.toNat) (by omega)
  have l2 := itoa_len (n := r.max.toNat) (by omega)
  rw [Int.toNat_of_nonneg (by omega)] at l1 l2
  unfold rtext rtail rng verb wPermit wDeny
  cases r.permit <;> split <;> simp only [cond_true, cond_false, List.length_append, List.length_cons, List.length_nil] <;> omega
theorem law321_gives (r : PRule) (h : r.ok) : Gives G 321 [.agg r.enc] [] ⟨.bool true, []⟩ := by
  have h1 := text_gives332 r h
  have h2 := text_gives333 r h
  unfold txR at h1 h2
  by_cases hc : chkS r = 0
  · rw [if_pos hc] at h1 h2
    have hl := rtext_len h.pfx hc
    have h3 := parse_gives334 (rtext r) (by omega)
    rw [plP_hit h.pfx hc] at h3
    unfold prR5 at h3
    generalize rtext r = t at *
    refine gives_code (F := f321) rfl rfl (W_ok 300 _ _ _ _ ?_)
    repeat' ((conv => whnf); first | refine zNeT ?_ | refine zSame5 ?_ | refine bslP (by first | rfl | (simp [pureL, pureLL, AV.pure]; done) | fail) rfl ?_ | refine TakeC.full (by first | rfl | omega | (simp; done) | (simp; omega) | fail) ?_ | refine zBs ?_ | refine zBn ?_ | refine zBv rfl rfl ?_ | refine zN ?_ | refine zC ?_ | refine zC4 ?_ | refine zOr16 ?_ | refine zC1 ?_ | refine zByte ?_ | refine zMaxL ?_ | refine zMaxR ?_ | refine zMinL ?_ | refine zMinR ?_ | refine zShr ?_ | refine zC8 ?_ | refine zQ ?_ | refine zR ?_ | refine zS ?_ | refine zA ?_ | refine zM ?_ | refine xr rfl ?_ | refine ai rfl ?_ | refine condT ?_ | refine condF ?_ | refine condG1 ?_ | refine condG0 ?_ | refine cD ?_ | refine dD ?_ | refine cB ?_ | refine dB ?_ | refine cN ?_ | refine dN ?_ | refine cV ?_ | refine dV ?_ | refine cE ?_ | refine dE ?_ | refine condX0 ?_ | refine condX1 ?_ | refine condNot ?_ | refine condAnd ?_ | refine condOr ?_ | refine aO ?_ | refine aB ?_ | refine aR ?_ | refine aR ?_ (by simp; omega) | refine xr (by assumption) ?_ | refine ai (by assumption) ?_ | refine kV (h1) ?_ | refine kV (h2) ?_ | refine kV (h3) ?_ | refine kV (awake327_gives) ?_ | refine condD (fun h => ?_) (fun h => ?_) | refine condB (fun h => ?_) (fun h => ?_) | refine condN (fun h => ?_) (fun h => ?_) | refine condE (fun h => ?_) (fun h => ?_) | refine condV (fun h => ?_) (fun h => ?_))
    (first | refine ev_fin (And.intro (by first | rfl | (simp [AV.pure, pureL]; done) | fail) ?_) | refine ev_fin0 (And.intro (by first | rfl | (simp [AV.pure, pureL]; done) | fail) ?_)); rfl
  · rw [if_neg hc] at h1 h2
    generalize chkS r = k at *
    refine gives_code (F := f321) rfl rfl (W_ok 300 _ _ _ _ ?_)
    repeat' ((conv => whnf); first | refine zNeT ?_ | refine bslP (by first | rfl | (simp [pureL, pureLL, AV.pure]; done) | fail) rfl ?_ | refine TakeC.full (by first | rfl | omega | (simp; done) | (simp; omega) | fail) ?_ | refine zBs ?_ | refine zBn ?_ | refine zBv rfl rfl ?_ | refine zN ?_ | refine zC ?_ | refine zC4 ?_ | refine zOr16 ?_ | refine zC1 ?_ | refine zByte ?_ | refine zMaxL ?_ | refine zMaxR ?_ | refine zMinL ?_ | refine zMinR ?_ | refine zShr ?_ | refine zC8 ?_ | refine zQ ?_ | refine zR ?_ | refine zS ?_ | refine zA ?_ | refine zM ?_ | refine xr rfl ?_ | refine ai rfl ?_ | refine condT ?_ | refine condF ?_ | refine condG1 ?_ | refine condG0 ?_ | refine cD ?_ | refine dD ?_ | refine cB ?_ | refine dB ?_ | refine cN ?_ | refine dN ?_ | refine cV ?_ | refine dV ?_ | refine cE ?_ | refine dE ?_ | refine condX0 ?_ | refine condX1 ?_ | refine condNot ?_ | refine condAnd ?_ | refine condOr ?_ | refine aO ?_ | refine aB ?_ | refine aR ?_ | refine aR ?_ (by simp; omega) | refine xr (by assumption) ?_ | refine ai (by assumption) ?_ | refine kV (h1) ?_ | refine kV (h2) ?_ | refine kV (awake327_gives) ?_ | refine condD (fun h => ?_) (fun h => ?_) | refine condB (fun h => ?_) (fun h => ?_) | refine condN (fun h => ?_) (fun h => ?_) | refine condE (fun h => ?_) (fun h => ?_) | refine condV (fun h => ?_) (fun h => ?_))
    (first | refine ev_fin (And.intro (by first | rfl | (simp [AV.pure, pureL]; done) | fail) ?_) | refine ev_fin0 (And.intro (by first | rfl | (simp [AV.pure, pureL]; done) | fail) ?_)); rfl
end Go.AM.IR
set_option maxHeartbeats 4000000
set_option maxRecDepth 20000
namespace Go.AM.IR
def tRule : Ty := .st [.bool, tPfx, .int .i64, .int .i64]
theorem T_rule {as : List AV} (h : tRule.T as) : ∃ s : PRule, as = s.enc ∧ s.ok := by
  simp only [tRule, tPfx, Ty.T.eq_5, TT] at h
  obtain ⟨a1, b1, rfl, h1, a2, b2, rfl, ⟨c1, e1, rfl, g1, c2, e2, rfl, g2, rfl⟩, a3, b3, rfl, h3, a4, b4, rfl, h4, rfl⟩ := h
  obtain ⟨x1, rfl⟩ := h1
  obtain ⟨y1, rfl, k1⟩ := T_u32 g1
  obtain ⟨y2, rfl, k2⟩ := T_i64 g2
  obtain ⟨x3, rfl, k3⟩ := T_i64 h3
  obtain ⟨x4, rfl, k4⟩ := T_i64 h4
  exact ⟨⟨x1, ⟨y1, y2⟩, x3, x4⟩, rfl, ⟨k1, k2⟩, k3, k4⟩
end Go.AM.IR
set_option maxHeartbeats 4000000
set_option maxRecDepth 20000
namespace Go.AM.IR
theorem law321_all (ass : List (List AV)) (h : ArgsT [tRule] ass) (hb : bkLL ass ≤ 1048576) : Gives G 321 (argsA [tRule] ass) [] ⟨.bool true, []⟩ := by
  obtain ⟨x0, s0, rfl, h0, h⟩ := argsT_cons h
  obtain rfl := argsT_nil h
  obtain ⟨r, rfl, hr⟩ := T_rule h0
  exact law321_gives r hr
end Go.AM.IR
