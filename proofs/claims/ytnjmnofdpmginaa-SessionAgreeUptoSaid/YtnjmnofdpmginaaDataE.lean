/- What the functions of this program give, on the abstract machine. -/
import Derived.Test.YtnjmnofdpmginaaDataA
import Derived.Test.YtnjmnofdpmginaaDataC
import Derived.Test.YtnjmnofdpmginaaDataD
set_option linter.unusedVariables false
set_option linter.unusedSimpArgs false
set_option maxHeartbeats 4000000
set_option maxRecDepth 20000
namespace Go.AM.IR
end Go.AM.IR
set_option maxHeartbeats 4000000
set_option maxRecDepth 20000
namespace Go.AM.IR
theorem sizeS_le {a : Attrs} (h : AB a) : LenB a where
  path := h.path
  segs s hs := by
    have h1 := h.flat
    have h2 : s.as.length ≤ (flatS a.path).length := by
      unfold flatS
      obtain ⟨p, q, e⟩ := List.append_of_mem hs
      rw [e]; simp; omega
    omega
  comms := h.comms
  clusters := h.clusters
  unknown := h.unknown
  vals := h.vals
end Go.AM.IR
set_option maxHeartbeats 4000000
set_option maxRecDepth 20000
namespace Go.AM.IR
attribute [local simp] pureLL_bytes
theorem eqL_ses (s : Ses) : eqL [.int, .int, .int, .int, .int, .int, .int, .bool, .int] s.enc s.enc = some true := by
  simp [Ses.enc, eqL, scal]
theorem zSes {k : Eff → Prop} {x y : Opd} {g key : Nat} {hg : Nat → Option (Nat × Blk)} {s : Ses} (h : k { res := .bool true }) : ∃ e, aopV (.eqs [.int, .int, .int, .int, .int, .int, .int, .bool, .int] false x y) g key [.agg s.enc, .agg s.enc] hg = some e ∧ k e :=
  ⟨_, by
    show (eqL [.int, .int, .int, .int, .int, .int, .int, .bool, .int] s.enc s.enc).map (fun t => ({ res := .bool (xor false t) } : Eff)) = _
    rw [eqL_ses]; rfl, h⟩
structure AM (m : PMsg) : Prop where
  attrs : AB m.attrs
  caps : m.caps.length < 2 ^ 40
  withdrawn : m.withdrawn.length < 2 ^ 40
  reach : m.reach.length < 2 ^ 40
  data : m.data.length < 2 ^ 40
  capT : capT m.caps < 2 ^ 50
theorem cap_bk (c : Cap) : c.value.length + 1 ≤ bkL c.enc := by
  have := bk_bytes c.value
  simp only [Cap.enc, bkL, AV.bk]; omega
theorem capT_bk : ∀ l : List Cap, capT l ≤ 2 * l.length + ((l.map fun t => t.value.length).sum : Nat)
  | [] => by simp [capT]
  | c :: r => by
    have := capT_bk r
    simp only [capT, List.map_cons, List.sum_cons, List.length_cons] at this ⊢
    omega
theorem cap1 (s : Cap) : 1 ≤ bkL s.enc := by have := cap_bk s; omega
theorem cap2 (s : Cap) : s.value.length ≤ bkL s.enc := by have := cap_bk s; omega
theorem pfx1 (s : Pfx) : 1 ≤ bkL s.enc := by simp [Pfx.enc, bkL, AV.bk]
theorem am_of (m : PMsg) (h : bkL m.enc ≤ 1048576) : AM m := by
  have h0 : bkL m.attrs.enc ≤ bkL m.enc := by simp only [PMsg.enc, Attrs.enc, bkL, AV.bk]; omega
  have ha := ab_of m.attrs (Nat.le_trans h0 h)
  have h1 := len_bk Cap.enc cap1 m.caps
  have h2 := bkLL_map_le Cap.enc (fun t => t.value.length) cap2 m.caps
  have h3 := len_bk Pfx.enc pfx1 m.withdrawn
  have h4 := len_bk Pfx.enc pfx1 m.reach
  have h5 := bk_bytes m.data
  have h6 := capT_bk m.caps
  clear h0
  simp only [PMsg.enc, bkL, AV.bk] at h
  generalize bkLL (m.caps.map Cap.enc) = z1 at *
  generalize bkLL (m.withdrawn.map Pfx.enc) = z2 at *
  generalize bkLL (m.reach.map Pfx.enc) = z3 at *
  generalize bkLL (byteCells m.data) = z4 at *
  generalize bkLL (m.attrs.path.map Seg.enc) = z5 at *
  generalize bkLL (m.attrs.comms.map encU) = z6 at *
  generalize bkLL (m.attrs.clusters.map encU) = z7 at *
  generalize bkLL (m.attrs.unknown.map TLV.enc) = z8 at *
  generalize (m.caps.map fun t => t.value.length).sum = z9 at *
  exact ⟨ha, by omega, by omega, by omega, by omega, by omega⟩
theorem AM.lenO {m : PMsg} (h : AM m) : LenO m := by
  have := sizeS_le h.attrs
  exact ⟨⟨h.caps, h.withdrawn, h.reach, ⟨this.path, this.segs, this.comms, this.clusters, this.unknown⟩⟩, h.capT⟩
def largeM (m : PMsg) : Bool := decide (sizeS m.attrs > 3000 ∨ m.withdrawn.length > 30000 ∨ m.reach.length > 30000 ∨ m.caps.length > 400 ∨ m.data.length > 70000)
theorem large_gives130 (m : PMsg) (h : AM m) : Gives G 130 [.agg m.enc] [] ⟨.bool (largeM m), []⟩ := by
  have h1 := large_gives21 m.attrs h.attrs
  have l1 : (m.caps.map Cap.enc).length = m.caps.length := by simp
  have l2 : (m.withdrawn.map Pfx.enc).length = m.withdrawn.length := by simp
  have l3 : (m.reach.map Pfx.enc).length = m.reach.length := by simp
  have l4 := byteCells_length m.data
  refine gives_code (F := f130) rfl rfl (W_ok 300 _ _ _ _ ?_)
  repeat' ((conv => whnf); first | refine bslP (by first | rfl | (simp [pureL, pureLL, AV.pure]; done) | fail) rfl ?_ | refine TakeC.full (by first | rfl | omega | (simp; done) | (simp; omega) | fail) ?_ | refine zBs ?_ | refine zBn ?_ | refine zBv rfl rfl ?_ | refine zN ?_ | refine zC ?_ | refine zC4 ?_ | refine zOr16 ?_ | refine zC1 ?_ | refine zByte ?_ | refine zMaxL ?_ | refine zMaxR ?_ | refine zMinL ?_ | refine zMinR ?_ | refine zShr ?_ | refine zC8 ?_ | refine zQ ?_ | refine zR ?_ | refine zS ?_ | refine zA ?_ | refine zM ?_ | refine xr rfl ?_ | refine ai rfl ?_ | refine condT ?_ | refine condF ?_ | refine condG1 ?_ | refine condG0 ?_ | refine cD ?_ | refine dD ?_ | refine cB ?_ | refine dB ?_ | refine cN ?_ | refine dN ?_ | refine cV ?_ | refine dV ?_ | refine cE ?_ | refine dE ?_ | refine condX0 ?_ | refine condX1 ?_ | refine condNot ?_ | refine condAnd ?_ | refine condOr ?_ | refine aO ?_ | refine aB ?_ | refine aR ?_ | refine aR ?_ (by simp; omega) | refine xr (by assumption) ?_ | refine ai (by assumption) ?_ | refine kV (h1) ?_ | refine condD (fun h => ?_) (fun h => ?_) | refine condB (fun h => ?_) (fun h => ?_) | refine condN (fun h => ?_) (fun h => ?_) | refine condE (fun h => ?_) (fun h => ?_) | refine condV (fun h => ?_) (fun h => ?_))
  all_goals (try simp only [l1, l2, l3, l4] at *)
  all_goals (try (first | refine ev_fin (And.intro (by first | rfl | (simp [AV.pure, pureL]; done) | fail) ?_) | refine ev_fin0 (And.intro (by first | rfl | (simp [AV.pure, pureL]; done) | fail) ?_)))
  all_goals (refine rBl ?_; rw [largeM, Bool.eq_iff_iff]; simp only [decide_eq_true_eq, true_iff, false_iff, Bool.false_eq_true, Bool.true_eq_false]; omega)
theorem lenM_agree (c : Conf) (peer : Int) (m : PMsg) : LenM (agreeS c peer m).2.1 := by
  have hz : ∀ a b, LenM (notM a b) := fun a b => ⟨by simp [notM, zeroM], by simp [notM, zeroM], by simp [notM, zeroM], lenC_zero⟩
  unfold agreeS
  split
  · exact lenM_zero
  · unfold agreeP
    repeat' split
    all_goals first | exact hz _ _ | exact lenM_zero
theorem law122_gives (c : Conf) (hc : c.ok) (peer : Int) (m : PMsg) (h : AM m) : Gives G 122 [.agg c.enc, .int .i64 peer, .agg m.enc] [] ⟨.bool true, []⟩ := by
  have hp := hc.nets; have h1 := hc.p1; have h2 := hc.p2; have h3 := hc.p3; have h4 := hc.p4
  have o1 := agree_gives131 c hc hc.len peer m h.lenO
  have o2 := agree_gives132 c hc hc.len peer m h.lenO
  have hs := same_refl126 (agreeS c peer m).2.1 (lenM_agree c peer m)
  have hl := large_gives130 m h
  generalize agreeS c peer m = x at *
  obtain ⟨s, a, e⟩ := x
  unfold agreeRet at o1 o2
  refine gives_code (F := f122) rfl rfl (W_ok 300 _ _ _ _ ?_)
  repeat' ((conv => whnf); first | refine zSes ?_ | refine callW o1 ?_ (by simp [pureL, AV.pure, hp, h1, h2, h3, h4]) | refine callW o2 ?_ (by simp [pureL, AV.pure, hp, h1, h2, h3, h4]) | refine bslP (by first | rfl | (simp [pureL, pureLL, AV.pure]; done) | fail) rfl ?_ | refine TakeC.full (by first | rfl | omega | (simp; done) | (simp; omega) | fail) ?_ | refine zBs ?_ | refine zBn ?_ | refine zBv rfl rfl ?_ | refine zN ?_ | refine zC ?_ | refine zC4 ?_ | refine zOr16 ?_ | refine zC1 ?_ | refine zByte ?_ | refine zMaxL ?_ | refine zMaxR ?_ | refine zMinL ?_ | refine zMinR ?_ | refine zShr ?_ | refine zC8 ?_ | refine zQ ?_ | refine zR ?_ | refine zS ?_ | refine zA ?_ | refine zM ?_ | refine xr rfl ?_ | refine ai rfl ?_ | refine condT ?_ | refine condF ?_ | refine condG1 ?_ | refine condG0 ?_ | refine cD ?_ | refine dD ?_ | refine cB ?_ | refine dB ?_ | refine cN ?_ | refine dN ?_ | refine cV ?_ | refine dV ?_ | refine cE ?_ | refine dE ?_ | refine condX0 ?_ | refine condX1 ?_ | refine condNot ?_ | refine condAnd ?_ | refine condOr ?_ | refine aO ?_ | refine aB ?_ | refine aR ?_ | refine aR ?_ (by simp; omega) | refine xr (by assumption) ?_ | refine ai (by assumption) ?_ | refine kV (hs) ?_ | refine kV (hl) ?_ | refine kV (awake129_gives) ?_ | refine condD (fun h => ?_) (fun h => ?_) | refine condB (fun h => ?_) (fun h => ?_) | refine condN (fun h => ?_) (fun h => ?_) | refine condE (fun h => ?_) (fun h => ?_) | refine condV (fun h => ?_) (fun h => ?_))
  all_goals try ((first | refine ev_fin (And.intro (by first | rfl | (simp [AV.pure, pureL]; done) | fail) ?_) | refine ev_fin0 (And.intro (by first | rfl | (simp [AV.pure, pureL]; done) | fail) ?_)); first | rfl | (simp [Bool.cond_eq_ite, *]; done) | (simp [Bool.cond_eq_ite, *]; omega))
theorem law122_all (ass : List (List AV)) (h : ArgsT [tCnf, .int .i64, tMsg] ass) (hb : bkLL ass ≤ 1048576) : Gives G 122 (argsA [tCnf, .int .i64, tMsg] ass) [] ⟨.bool true, []⟩ := by
  obtain ⟨x, s1, rfl, h1, h⟩ := argsT_cons h
  obtain ⟨y, s2, rfl, h2, h⟩ := argsT_cons h
  obtain ⟨z, s3, rfl, h3, h⟩ := argsT_cons h
  obtain rfl := argsT_nil h
  obtain ⟨c, rfl, hc⟩ := T_cnf h1
  obtain ⟨peer, rfl, _⟩ := T_i64 h2
  obtain ⟨m, rfl, _⟩ := T_msg h3
  simp only [bkLL] at hb
  exact law122_gives c hc peer m (am_of m (by omega))
end Go.AM.IR
