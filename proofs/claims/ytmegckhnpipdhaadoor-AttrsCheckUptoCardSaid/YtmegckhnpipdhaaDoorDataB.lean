/- What the functions of this program give, on the abstract machine. -/
import Derived.Test.YtmegckhnpipdhaaDoorDataA
import Derived.KernelRfl
import Derived.Test.YtmegckhnpipdhaaDoorMachineB
set_option linter.unusedVariables false
set_option linter.unusedSimpArgs false
set_option maxHeartbeats 4000000
set_option maxRecDepth 20000
namespace Go.AM.IR
def flatS (l : List Seg) : List Int := l.flatMap (·.as)
theorem flat_loop57 (l : List Seg) (hs : (flatS l).length < 2 ^ 40) (hl : l.length < 2 ^ 62) (ln : Int) (hln : ln = l.length) : ∀ (rest done : List Seg) (g m : Nat) (es : List (List AV)) (T : List (Nat × AV)) (H : Heap) (c : Nat) (n : Int) (e : l = done ++ rest) (hn : n = done.length) (hm : m = es.length) (hes : es = (flatS done).map encI), Ev G ⟨f57x7LH, ⟨(6, .sl 2 (l.map Seg.enc)) :: (7, .int .i64 ln) :: (8, .int .i64 n) :: (3, .vs 79 g m) :: T, (79, some (g, .vec 1 es)) :: H, c⟩, [.t 2], 0⟩ ⟨.vs 0 0 (flatS l).length, [(false, .vec 1 ((flatS l).map encI))]⟩
  | [], done, g, m, es, T, H, c, n, e, hn, hm, hes => by
    have hd : l.length = done.length := by simp [e]
    have hll : (l.map Seg.enc).length = l.length := by simp
    obtain rfl : l = done := by simpa using e
    refine ev_loop' (W_ok 300 _ _ _ _ ?_)
    repeat ((conv => whnf); first | refine zN ?_ | refine zC ?_ | refine zC4 ?_ | refine zC1 ?_ | refine zC8 ?_ | refine zQ ?_ | refine zR ?_ | refine zS ?_ | refine zA ?_ | refine zM ?_ | refine xr rfl ?_ | refine ai rfl ?_ | refine condT ?_ | refine condF ?_ | refine condG1 ?_ | refine condG0 ?_ | refine cD ?_ | refine dD ?_ | refine cB ?_ | refine dB ?_ | refine cN ?_ | refine dN ?_ | refine cV ?_ | refine dV ?_ | refine cE ?_ | refine dE ?_ | refine condNot ?_ | refine condX0 ?_ | refine condX1 ?_ | refine condAnd ?_ | refine condOr ?_ | refine aO ?_ | refine aB ?_ | refine aR ?_ | refine xr (by assumption) ?_ | refine ai (by assumption) ?_)
    refine ev_retV 79 g m _ rfl rfl (by simp [Blk.pure, hes]) ?_
    simp [hm, hes]
  | x :: r, done, g, m, es, T, H, c, n, e, hn, hm, hes => by
    have hd : l.length = done.length + (r.length + 1) := by simp [e]
    have hll : (l.map Seg.enc).length = l.length := by simp
    have hx : (l.map Seg.enc)[n.toNat]? = some (Seg.enc x) := by simp [e, hn]
    have hsz : es.length + (x.as.map encI).length < 2 ^ 40 := by
      rw [e] at hs; simp [flatS] at hs; simp [hes, flatS]; omega
    refine ev_loop' (W_ok 300 _ _ _ _ ?_)
    repeat ((conv => whnf); first | refine zN ?_ | refine zC ?_ | refine zC4 ?_ | refine zC1 ?_ | refine zC8 ?_ | refine zQ ?_ | refine zR ?_ | refine zS ?_ | refine zA ?_ | refine zM ?_ | refine xr rfl ?_ | refine ai rfl ?_ | refine condT ?_ | refine condF ?_ | refine condG1 ?_ | refine condG0 ?_ | refine cD ?_ | refine dD ?_ | refine cB ?_ | refine dB ?_ | refine cN ?_ | refine dN ?_ | refine cV ?_ | refine dV ?_ | refine cE ?_ | refine dE ?_ | refine condNot ?_ | refine condX0 ?_ | refine condX1 ?_ | refine condAnd ?_ | refine condOr ?_ | refine aO ?_ | refine aB ?_ | refine aR ?_ | refine xr (by assumption) ?_ | refine ai (by assumption) ?_)
    refine ev_keep [6, 7, 8, 3] [79] ?_; exact flat_loop57 l hs hl ln hln r (done ++ [x]) _ _ _ _ _ _ (n + 1) (by simp [e]) (by simp [hn] <;> omega) (by simp [hm]) (by rw [hm, List.take_length, hes]; simp [flatS])
theorem flat_gives57 (l : List Seg) (hl : l.length < 2 ^ 62) (hs : (flatS l).length < 2 ^ 40) : Gives G 57 [.sl 2 (l.map Seg.enc)] [] ⟨.vs 0 0 (flatS l).length, [(false, .vec 1 ((flatS l).map encI))]⟩ := by
  refine gives_code (F := f57) rfl rfl (W_ok 300 _ _ _ _ ?_)
  repeat ((conv => whnf); first | refine zN ?_ | refine zC ?_ | refine zC4 ?_ | refine zC1 ?_ | refine zC8 ?_ | refine zQ ?_ | refine zR ?_ | refine zS ?_ | refine zA ?_ | refine zM ?_ | refine xr rfl ?_ | refine ai rfl ?_ | refine condT ?_ | refine condF ?_ | refine condG1 ?_ | refine condG0 ?_ | refine cD ?_ | refine dD ?_ | refine cB ?_ | refine dB ?_ | refine cN ?_ | refine dN ?_ | refine cV ?_ | refine dV ?_ | refine cE ?_ | refine dE ?_ | refine condNot ?_ | refine condX0 ?_ | refine condX1 ?_ | refine condAnd ?_ | refine condOr ?_ | refine aO ?_ | refine aB ?_ | refine aR ?_ | refine xr (by assumption) ?_ | refine ai (by assumption) ?_)
  refine ev_nil 79 1 [(3, .vs 79 _ 0)] [] ⟨LeP.nilV _ _ _, trivial⟩ trivial ?_
  refine ev_keep [6, 7, 8, 3] [79] ?_
  exact flat_loop57 l hs hl _ (by simp) l [] _ _ _ _ _ _ 0 rfl rfl rfl rfl
theorem size_gives54 (l : List Seg) (hl : l.length < 2 ^ 40) (hs : (flatS l).length < 2 ^ 40) : Gives G 54 [.sl 2 (l.map Seg.enc)] [] ⟨.int .i64 (l.length + (flatS l).length), []⟩ := by
  have hlm : (l.map Seg.enc).length = l.length := by simp
  refine gives_code (F := f54) rfl rfl (W_ok 300 _ _ _ _ ?_)
  repeat ((conv => whnf); first | refine zN ?_ | refine zC ?_ | refine zC4 ?_ | refine zC1 ?_ | refine zC8 ?_ | refine zQ ?_ | refine zR ?_ | refine zS ?_ | refine zA ?_ | refine zM ?_ | refine xr rfl ?_ | refine ai rfl ?_ | refine condT ?_ | refine condF ?_ | refine condG1 ?_ | refine condG0 ?_ | refine cD ?_ | refine dD ?_ | refine cB ?_ | refine dB ?_ | refine cN ?_ | refine dN ?_ | refine cV ?_ | refine dV ?_ | refine cE ?_ | refine dE ?_ | refine condNot ?_ | refine condX0 ?_ | refine condX1 ?_ | refine condAnd ?_ | refine condOr ?_ | refine aO ?_ | refine aB ?_ | refine aR ?_ | refine xr (by assumption) ?_ | refine ai (by assumption) ?_)
  refine callN (flat_gives57 l (by omega) hs) (by simp [pureL, AV.pure]) rfl (by simp [pureBs, Blk.pure]) rfl ?_
  repeat ((conv => whnf); first | refine zN ?_ | refine zC ?_ | refine zC4 ?_ | refine zC1 ?_ | refine zC8 ?_ | refine zQ ?_ | refine zR ?_ | refine zS ?_ | refine zA ?_ | refine zM ?_ | refine xr rfl ?_ | refine ai rfl ?_ | refine condT ?_ | refine condF ?_ | refine condG1 ?_ | refine condG0 ?_ | refine cD ?_ | refine dD ?_ | refine cB ?_ | refine dB ?_ | refine cN ?_ | refine dN ?_ | refine cV ?_ | refine dV ?_ | refine cE ?_ | refine dE ?_ | refine condNot ?_ | refine condX0 ?_ | refine condX1 ?_ | refine condAnd ?_ | refine condOr ?_ | refine aO ?_ | refine aB ?_ | refine aR ?_ | refine xr (by assumption) ?_ | refine ai (by assumption) ?_)
  (first | refine ev_fin (And.intro (by first | rfl | simp [AV.pure, pureL]) ?_) | refine ev_fin0 (And.intro (by first | rfl | simp [AV.pure, pureL]) ?_))
  simp

def unkS (l : List TLV) : Int := (l.map fun t => (t.value.length : Int) / 8).sum
def sizeS (a : Attrs) : Int := a.path.length + (flatS a.path).length + a.comms.length + a.clusters.length + a.unknown.length + unkS a.unknown
/-- Bounds under which no number wraps. -/
structure AB (a : Attrs) : Prop where
  path : a.path.length < 2 ^ 40
  flat : (flatS a.path).length < 2 ^ 40
  comms : a.comms.length < 2 ^ 40
  clusters : a.clusters.length < 2 ^ 40
  unknown : a.unknown.length < 2 ^ 40
  vals : ∀ t ∈ a.unknown, t.value.length < 2 ^ 40
  unk : unkS a.unknown < 2 ^ 40
theorem unk_nonneg : ∀ l : List TLV, 0 ≤ unkS l
  | [] => by simp [unkS]
  | t :: r => by
    have := unk_nonneg r
    simp only [unkS, List.map_cons, List.sum_cons] at this ⊢
    have h2 : 0 ≤ (t.value.length : Int) / 8 := by omega
    omega
theorem size_loop26 (l : List TLV) (s0 : Int) (hv : ∀ t ∈ l, t.value.length < 2 ^ 40) (hu : unkS l < 2 ^ 40) (hs0 : 0 ≤ s0) (hs1 : s0 < 2 ^ 50) (hl : l.length < 2 ^ 40) (ln : Int) (hln : ln = l.length) : ∀ (rest done : List TLV) (s : Int) (T : List (Nat × AV)) (H : Heap) (c : Nat) (n : Int) (e : l = done ++ rest) (hn : n = done.length) (hs : s = s0 + unkS done), Ev G ⟨f26x7LH, ⟨(22, .sl 2 (l.map TLV.enc)) :: (23, .int .i64 ln) :: (24, .int .i64 n) :: (3, .int .i64 s) :: T, H, c⟩, [.t 2], 0⟩ ⟨.int .i64 (s0 + unkS l), []⟩
  | [], done, s, T, H, c, n, e, hn, hs => by
    have hd : l.length = done.length := by simp [e]
    have hll : (l.map TLV.enc).length = l.length := by simp
    obtain rfl : l = done := by simpa using e
    refine ev_loop' (W_ok 300 _ _ _ _ ?_)
    repeat ((conv => whnf); first | refine zN ?_ | refine zC ?_ | refine zC4 ?_ | refine zC1 ?_ | refine zC8 ?_ | refine zQ ?_ | refine zR ?_ | refine zS ?_ | refine zA ?_ | refine zM ?_ | refine xr rfl ?_ | refine ai rfl ?_ | refine condT ?_ | refine condF ?_ | refine condG1 ?_ | refine condG0 ?_ | refine cD ?_ | refine dD ?_ | refine cB ?_ | refine dB ?_ | refine cN ?_ | refine dN ?_ | refine cV ?_ | refine dV ?_ | refine cE ?_ | refine dE ?_ | refine condNot ?_ | refine condX0 ?_ | refine condX1 ?_ | refine condAnd ?_ | refine condOr ?_ | refine aO ?_ | refine aB ?_ | refine aR ?_ | refine xr (by assumption) ?_ | refine ai (by assumption) ?_)
    rw [hs]
    first | exact ev_ret rfl | exact ev_end rfl
  | x :: r, done, s, T, H, c, n, e, hn, hs => by
    have hd : l.length = done.length + (r.length + 1) := by simp [e]
    have hll : (l.map TLV.enc).length = l.length := by simp
    have hx : (l.map TLV.enc)[n.toNat]? = some (TLV.enc x) := by simp [e, hn]
    have hxv : x.value.length < 2 ^ 40 := hv x (by simp [e])
    have hbl : (byteCells x.value).length = x.value.length := by simp [byteCells]
    have hsum : unkS l = unkS done + ((x.value.length : Int) / 8 + unkS r) := by rw [e]; simp [unkS]
    have hr := unk_nonneg r
    have hdn := unk_nonneg done
    refine ev_loop' (W_ok 300 _ _ _ _ ?_)
    repeat ((conv => whnf); first | refine zN ?_ | refine zC ?_ | refine zC4 ?_ | refine zC1 ?_ | refine zC8 ?_ | refine zQ ?_ | refine zR ?_ | refine zS ?_ | refine zA ?_ | refine zM ?_ | refine xr rfl ?_ | refine ai rfl ?_ | refine condT ?_ | refine condF ?_ | refine condG1 ?_ | refine condG0 ?_ | refine cD ?_ | refine dD ?_ | refine cB ?_ | refine dB ?_ | refine cN ?_ | refine dN ?_ | refine cV ?_ | refine dV ?_ | refine cE ?_ | refine dE ?_ | refine condNot ?_ | refine condX0 ?_ | refine condX1 ?_ | refine condAnd ?_ | refine condOr ?_ | refine aO ?_ | refine aB ?_ | refine aR ?_ | refine xr (by assumption) ?_ | refine ai (by assumption) ?_)
    refine ev_keep [22, 23, 24, 3] [] ?_; exact size_loop26 l s0 hv hu hs0 hs1 hl ln hln r (done ++ [x]) _ _ _ _ (n + 1) (by simp [e]) (by simp [hn] <;> omega) (by rw [hs, hbl]; simp [unkS]; omega)
theorem size_gives26 (a : Attrs) (h : AB a) : Gives G 26 [.agg a.enc] [] ⟨.int .i64 (sizeS a), []⟩ := by
  obtain ⟨h1, h2, h3, h4, h5, h6, h7⟩ := h
  have l3 : (a.comms.map encU).length = a.comms.length := by simp
  have l4 : (a.clusters.map encU).length = a.clusters.length := by simp
  have l5 : (a.unknown.map TLV.enc).length = a.unknown.length := by simp
  refine gives_code (F := f26) rfl rfl (W_ok 300 _ _ _ _ ?_)
  repeat ((conv => whnf); first | refine zN ?_ | refine zC ?_ | refine zC4 ?_ | refine zC1 ?_ | refine zC8 ?_ | refine zQ ?_ | refine zR ?_ | refine zS ?_ | refine zA ?_ | refine zM ?_ | refine xr rfl ?_ | refine ai rfl ?_ | refine condT ?_ | refine condF ?_ | refine condG1 ?_ | refine condG0 ?_ | refine cD ?_ | refine dD ?_ | refine cB ?_ | refine dB ?_ | refine cN ?_ | refine dN ?_ | refine cV ?_ | refine dV ?_ | refine cE ?_ | refine dE ?_ | refine condNot ?_ | refine condX0 ?_ | refine condX1 ?_ | refine condAnd ?_ | refine condOr ?_ | refine aO ?_ | refine aB ?_ | refine aR ?_ | refine xr (by assumption) ?_ | refine ai (by assumption) ?_)
  refine callV (size_gives54 a.path h1 h2) (by simp [pureL, AV.pure]) (by simp [AV.dry, dryL]) ?_
  repeat ((conv => whnf); first | refine zN ?_ | refine zC ?_ | refine zC4 ?_ | refine zC1 ?_ | refine zC8 ?_ | refine zQ ?_ | refine zR ?_ | refine zS ?_ | refine zA ?_ | refine zM ?_ | refine xr rfl ?_ | refine ai rfl ?_ | refine condT ?_ | refine condF ?_ | refine condG1 ?_ | refine condG0 ?_ | refine cD ?_ | refine dD ?_ | refine cB ?_ | refine dB ?_ | refine cN ?_ | refine dN ?_ | refine cV ?_ | refine dV ?_ | refine cE ?_ | refine dE ?_ | refine condNot ?_ | refine condX0 ?_ | refine condX1 ?_ | refine condAnd ?_ | refine condOr ?_ | refine aO ?_ | refine aB ?_ | refine aR ?_ | refine xr (by assumption) ?_ | refine ai (by assumption) ?_)
  refine ev_keep [22, 23, 24, 3] [] ?_
  rw [l3, l4, l5]
  refine size_loop26 a.unknown (a.path.length + (flatS a.path).length + a.comms.length + a.clusters.length + a.unknown.length) h6 h7 (by omega) (by omega) h5 _ (by simp) a.unknown [] _ _ _ _ 0 rfl rfl ?_
  simp [unkS]
theorem large_gives21 (a : Attrs) (h : AB a) : Gives G 21 [.agg a.enc] [] ⟨.bool (decide (sizeS a > 3000)), []⟩ := by
  refine gives_code (F := f21) rfl rfl (W_ok 60 _ _ _ _ ?_)
  repeat ((conv => whnf); first | refine zN ?_ | refine zC ?_ | refine zC4 ?_ | refine zC1 ?_ | refine zC8 ?_ | refine zQ ?_ | refine zR ?_ | refine zS ?_ | refine zA ?_ | refine zM ?_ | refine xr rfl ?_ | refine ai rfl ?_ | refine condT ?_ | refine condF ?_ | refine condG1 ?_ | refine condG0 ?_ | refine cD ?_ | refine dD ?_ | refine cB ?_ | refine dB ?_ | refine cN ?_ | refine dN ?_ | refine cV ?_ | refine dV ?_ | refine cE ?_ | refine dE ?_ | refine condNot ?_ | refine condX0 ?_ | refine condX1 ?_ | refine condAnd ?_ | refine condOr ?_ | refine aO ?_ | refine aB ?_ | refine aR ?_ | refine xr (by assumption) ?_ | refine ai (by assumption) ?_)
  refine callV (size_gives26 a h) (by simp [pureL, AV.pure]) (by simp [AV.dry, dryL]) ?_
  repeat ((conv => whnf); first | refine zN ?_ | refine zC ?_ | refine zC4 ?_ | refine zC1 ?_ | refine zC8 ?_ | refine zQ ?_ | refine zR ?_ | refine zS ?_ | refine zA ?_ | refine zM ?_ | refine xr rfl ?_ | refine ai rfl ?_ | refine condT ?_ | refine condF ?_ | refine condG1 ?_ | refine condG0 ?_ | refine cD ?_ | refine dD ?_ | refine cB ?_ | refine dB ?_ | refine cN ?_ | refine dN ?_ | refine cV ?_ | refine dV ?_ | refine cE ?_ | refine dE ?_ | refine condNot ?_ | refine condX0 ?_ | refine condX1 ?_ | refine condAnd ?_ | refine condOr ?_ | refine aO ?_ | refine aB ?_ | refine aR ?_ | refine xr (by assumption) ?_ | refine ai (by assumption) ?_)
  first | exact ev_ret rfl | exact ev_end rfl
end Go.AM.IR
set_option maxHeartbeats 4000000
set_option maxRecDepth 20000
namespace Go.AM.IR
@[irreducible] def setK (k : Int) : Bool := k == 1 || k == 4
@[irreducible] def confK (k : Int) : Bool := k == 3 || k == 4
theorem isSet_gives117 (k : Int) : Gives G 117 [.int .i64 k] [] ⟨.bool (setK k), []⟩ := by
  refine gives_code (F := f117) rfl rfl (W_ok 300 _ _ _ _ ?_)
  repeat' ((conv => whnf); first | refine zN ?_ | refine zC ?_ | refine zC4 ?_ | refine zC1 ?_ | refine zC8 ?_ | refine zQ ?_ | refine zR ?_ | refine zS ?_ | refine zA ?_ | refine zM ?_ | refine xr rfl ?_ | refine ai rfl ?_ | refine condT ?_ | refine condF ?_ | refine condG1 ?_ | refine condG0 ?_ | refine cD ?_ | refine dD ?_ | refine cB ?_ | refine dB ?_ | refine cN ?_ | refine dN ?_ | refine cV ?_ | refine dV ?_ | refine cE ?_ | refine dE ?_ | refine condNot ?_ | refine condX0 ?_ | refine condX1 ?_ | refine condAnd ?_ | refine condOr ?_ | refine aO ?_ | refine aB ?_ | refine aR ?_ | refine xr (by assumption) ?_ | refine ai (by assumption) ?_ | refine condD (fun h => ?_) (fun h => ?_) | refine condB (fun h => ?_) (fun h => ?_) | refine condN (fun h => ?_) (fun h => ?_) | refine condE (fun h => ?_) (fun h => ?_) | refine condV (fun h => ?_) (fun h => ?_))
  all_goals try ((first | refine ev_fin (And.intro (by first | rfl | simp [AV.pure, pureL]) ?_) | refine ev_fin0 (And.intro (by first | rfl | simp [AV.pure, pureL]) ?_)); first | rfl | (simp [setK, Bool.cond_eq_ite, *]; done) | (simp [setK, Bool.cond_eq_ite, *]; omega) | (unfold setK; repeat' split; all_goals first | rfl | (exfalso; omega) | (simp_all; done) | (simp_all; omega)))
theorem isConf_gives118 (k : Int) : Gives G 118 [.int .i64 k] [] ⟨.bool (confK k), []⟩ := by
  refine gives_code (F := f118) rfl rfl (W_ok 300 _ _ _ _ ?_)
  repeat' ((conv => whnf); first | refine zN ?_ | refine zC ?_ | refine zC4 ?_ | refine zC1 ?_ | refine zC8 ?_ | refine zQ ?_ | refine zR ?_ | refine zS ?_ | refine zA ?_ | refine zM ?_ | refine xr rfl ?_ | refine ai rfl ?_ | refine condT ?_ | refine condF ?_ | refine condG1 ?_ | refine condG0 ?_ | refine cD ?_ | refine dD ?_ | refine cB ?_ | refine dB ?_ | refine cN ?_ | refine dN ?_ | refine cV ?_ | refine dV ?_ | refine cE ?_ | refine dE ?_ | refine condNot ?_ | refine condX0 ?_ | refine condX1 ?_ | refine condAnd ?_ | refine condOr ?_ | refine aO ?_ | refine aB ?_ | refine aR ?_ | refine xr (by assumption) ?_ | refine ai (by assumption) ?_ | refine condD (fun h => ?_) (fun h => ?_) | refine condB (fun h => ?_) (fun h => ?_) | refine condN (fun h => ?_) (fun h => ?_) | refine condE (fun h => ?_) (fun h => ?_) | refine condV (fun h => ?_) (fun h => ?_))
  all_goals try ((first | refine ev_fin (And.intro (by first | rfl | simp [AV.pure, pureL]) ?_) | refine ev_fin0 (And.intro (by first | rfl | simp [AV.pure, pureL]) ?_)); first | rfl | (simp [confK, Bool.cond_eq_ite, *]; done) | (simp [confK, Bool.cond_eq_ite, *]; omega) | (unfold confK; repeat' split; all_goals first | rfl | (exfalso; omega) | (simp_all; done) | (simp_all; omega)))
theorem word_gives81 (k : Int) : Gives G 81 [.int .i64 k] [] ⟨.bool (decide (0 ≤ k) && decide (k ≤ 4294967295)), []⟩ := by
  refine gives_code (F := f81) rfl rfl (W_ok 300 _ _ _ _ ?_)
  repeat' ((conv => whnf); first | refine zN ?_ | refine zC ?_ | refine zC4 ?_ | refine zC1 ?_ | refine zC8 ?_ | refine zQ ?_ | refine zR ?_ | refine zS ?_ | refine zA ?_ | refine zM ?_ | refine xr rfl ?_ | refine ai rfl ?_ | refine condT ?_ | refine condF ?_ | refine condG1 ?_ | refine condG0 ?_ | refine cD ?_ | refine dD ?_ | refine cB ?_ | refine dB ?_ | refine cN ?_ | refine dN ?_ | refine cV ?_ | refine dV ?_ | refine cE ?_ | refine dE ?_ | refine condNot ?_ | refine condX0 ?_ | refine condX1 ?_ | refine condAnd ?_ | refine condOr ?_ | refine aO ?_ | refine aB ?_ | refine aR ?_ | refine xr (by assumption) ?_ | refine ai (by assumption) ?_ | refine condD (fun h => ?_) (fun h => ?_) | refine condB (fun h => ?_) (fun h => ?_) | refine condN (fun h => ?_) (fun h => ?_) | refine condE (fun h => ?_) (fun h => ?_) | refine condV (fun h => ?_) (fun h => ?_))
  all_goals try ((first | refine ev_fin (And.intro (by first | rfl | simp [AV.pure, pureL]) ?_) | refine ev_fin0 (And.intro (by first | rfl | simp [AV.pure, pureL]) ?_)); first | rfl | (simp [Bool.cond_eq_ite, *]; done) | (simp [Bool.cond_eq_ite, *]; omega))
theorem when_gives74 (b : Bool) (e : Int) : Gives G 74 [.bool b, .int .i64 e] [] ⟨.int .i64 (if b = true then e else 0), []⟩ := by
  refine gives_code (F := f74) rfl rfl (W_ok 300 _ _ _ _ ?_)
  repeat' ((conv => whnf); first | refine zN ?_ | refine zC ?_ | refine zC4 ?_ | refine zC1 ?_ | refine zC8 ?_ | refine zQ ?_ | refine zR ?_ | refine zS ?_ | refine zA ?_ | refine zM ?_ | refine xr rfl ?_ | refine ai rfl ?_ | refine condT ?_ | refine condF ?_ | refine condG1 ?_ | refine condG0 ?_ | refine cD ?_ | refine dD ?_ | refine cB ?_ | refine dB ?_ | refine cN ?_ | refine dN ?_ | refine cV ?_ | refine dV ?_ | refine cE ?_ | refine dE ?_ | refine condNot ?_ | refine condX0 ?_ | refine condX1 ?_ | refine condAnd ?_ | refine condOr ?_ | refine aO ?_ | refine aB ?_ | refine aR ?_ | refine xr (by assumption) ?_ | refine ai (by assumption) ?_ | refine condD (fun h => ?_) (fun h => ?_) | refine condB (fun h => ?_) (fun h => ?_) | refine condN (fun h => ?_) (fun h => ?_) | refine condE (fun h => ?_) (fun h => ?_) | refine condV (fun h => ?_) (fun h => ?_))
  all_goals try ((first | refine ev_fin (And.intro (by first | rfl | simp [AV.pure, pureL]) ?_) | refine ev_fin0 (And.intro (by first | rfl | simp [AV.pure, pureL]) ?_)); first | rfl | (simp [Bool.cond_eq_ite, *]; done) | (simp [Bool.cond_eq_ite, *]; omega))
def optE (has : Bool) (n low : Int) : Int := if has = true then (if n < low ∨ n > 4294967295 then 5 else 0) else (if n = 0 then 0 else 1)
theorem optional_gives76 (has : Bool) (n low : Int) : Gives G 76 [.bool has, .int .i64 n, .int .i64 low] [] ⟨.int .i64 (optE has n low), []⟩ := by
  refine gives_code (F := f76) rfl rfl (W_ok 300 _ _ _ _ ?_)
  repeat' ((conv => whnf); first | refine zN ?_ | refine zC ?_ | refine zC4 ?_ | refine zC1 ?_ | refine zC8 ?_ | refine zQ ?_ | refine zR ?_ | refine zS ?_ | refine zA ?_ | refine zM ?_ | refine xr rfl ?_ | refine ai rfl ?_ | refine condT ?_ | refine condF ?_ | refine condG1 ?_ | refine condG0 ?_ | refine cD ?_ | refine dD ?_ | refine cB ?_ | refine dB ?_ | refine cN ?_ | refine dN ?_ | refine cV ?_ | refine dV ?_ | refine cE ?_ | refine dE ?_ | refine condNot ?_ | refine condX0 ?_ | refine condX1 ?_ | refine condAnd ?_ | refine condOr ?_ | refine aO ?_ | refine aB ?_ | refine aR ?_ | refine xr (by assumption) ?_ | refine ai (by assumption) ?_ | refine condD (fun h => ?_) (fun h => ?_) | refine condB (fun h => ?_) (fun h => ?_) | refine condN (fun h => ?_) (fun h => ?_) | refine condE (fun h => ?_) (fun h => ?_) | refine condV (fun h => ?_) (fun h => ?_))
  all_goals try ((first | refine ev_fin (And.intro (by first | rfl | simp [AV.pure, pureL]) ?_) | refine ev_fin0 (And.intro (by first | rfl | simp [AV.pure, pureL]) ?_)); first | rfl | (simp [optE, Bool.cond_eq_ite, *]; done) | (simp [optE, Bool.cond_eq_ite, *]; omega) | (unfold optE; repeat' split; all_goals first | rfl | (exfalso; omega) | (simp_all; done) | (simp_all; omega)))
end Go.AM.IR
set_option maxHeartbeats 4000000
set_option maxRecDepth 20000
namespace Go.AM.IR
def firstS : List Int → Int
  | [] => 0
  | x :: r => if x = 0 then firstS r else x
theorem first_loop73 (l : List Int)  (hl : l.length < 2 ^ 40) (ln : Int) (hln : ln = l.length) : ∀ (rest done : List Int)  (T : List (Nat × AV)) (H : Heap) (c : Nat) (n : Int) (e : l = done ++ rest) (hn : n = done.length) , Ev G ⟨f73x7LH, ⟨(5, .sl 1 (l.map encI)) :: (6, .int .i64 ln) :: (7, .int .i64 n) :: T, H, c⟩, [.t 2], 0⟩ ⟨.int .i64 (firstS rest), []⟩
  | [], done,  T, H, c, n, e, hn => by
    have hd : l.length = done.length := by simp [e]
    have hll : (l.map encI).length = l.length := by simp
    refine ev_loop' (W_ok 300 _ _ _ _ ?_)
    repeat' ((conv => whnf); first | refine zN ?_ | refine zC ?_ | refine zC4 ?_ | refine zC1 ?_ | refine zC8 ?_ | refine zQ ?_ | refine zR ?_ | refine zS ?_ | refine zA ?_ | refine zM ?_ | refine xr rfl ?_ | refine ai rfl ?_ | refine condT ?_ | refine condF ?_ | refine condG1 ?_ | refine condG0 ?_ | refine cD ?_ | refine dD ?_ | refine cB ?_ | refine dB ?_ | refine cN ?_ | refine dN ?_ | refine cV ?_ | refine dV ?_ | refine cE ?_ | refine dE ?_ | refine condNot ?_ | refine condX0 ?_ | refine condX1 ?_ | refine condAnd ?_ | refine condOr ?_ | refine aO ?_ | refine aB ?_ | refine aR ?_ | refine xr (by assumption) ?_ | refine ai (by assumption) ?_ | refine condD (fun h => ?_) (fun h => ?_) | refine condB (fun h => ?_) (fun h => ?_) | refine condN (fun h => ?_) (fun h => ?_) | refine condE (fun h => ?_) (fun h => ?_) | refine condV (fun h => ?_) (fun h => ?_))
    all_goals try ((first | refine ev_fin (And.intro (by first | rfl | simp [AV.pure, pureL]) ?_) | refine ev_fin0 (And.intro (by first | rfl | simp [AV.pure, pureL]) ?_)); first | rfl | (simp [firstS, Bool.cond_eq_ite, *]; done) | (simp [firstS, Bool.cond_eq_ite, *]; omega) | (unfold firstS; repeat' split; all_goals first | rfl | (exfalso; omega) | (simp_all; done) | (simp_all; omega)))
  | x :: r, done,  T, H, c, n, e, hn => by
    have hd : l.length = done.length + (r.length + 1) := by simp [e]
    have hll : (l.map encI).length = l.length := by simp
    have hx : (l.map encI)[n.toNat]? = some (encI x) := by simp [e, hn]
    refine ev_loop' (W_ok 300 _ _ _ _ ?_)
    repeat' ((conv => whnf); first | refine zN ?_ | refine zC ?_ | refine zC4 ?_ | refine zC1 ?_ | refine zC8 ?_ | refine zQ ?_ | refine zR ?_ | refine zS ?_ | refine zA ?_ | refine zM ?_ | refine xr rfl ?_ | refine ai rfl ?_ | refine condT ?_ | refine condF ?_ | refine condG1 ?_ | refine condG0 ?_ | refine cD ?_ | refine dD ?_ | refine cB ?_ | refine dB ?_ | refine cN ?_ | refine dN ?_ | refine cV ?_ | refine dV ?_ | refine cE ?_ | refine dE ?_ | refine condNot ?_ | refine condX0 ?_ | refine condX1 ?_ | refine condAnd ?_ | refine condOr ?_ | refine aO ?_ | refine aB ?_ | refine aR ?_ | refine xr (by assumption) ?_ | refine ai (by assumption) ?_ | refine condD (fun h => ?_) (fun h => ?_) | refine condB (fun h => ?_) (fun h => ?_) | refine condN (fun h => ?_) (fun h => ?_) | refine condE (fun h => ?_) (fun h => ?_) | refine condV (fun h => ?_) (fun h => ?_))
    all_goals try ((first | refine ev_fin (And.intro (by first | rfl | simp [AV.pure, pureL]) ?_) | refine ev_fin0 (And.intro (by first | rfl | simp [AV.pure, pureL]) ?_)); first | rfl | (simp [firstS, Bool.cond_eq_ite, *]; done) | (simp [firstS, Bool.cond_eq_ite, *]; omega) | (unfold firstS; repeat' split; all_goals first | rfl | (exfalso; omega) | (simp_all; done) | (simp_all; omega)))
    rw [show firstS (x :: r) = firstS r from by simp [firstS, *]]
    refine ev_keep [5, 6, 7] [] ?_; exact first_loop73 l  hl ln hln r (done ++ [x])  _ _ _ (n + 1) (by simp [e]) (by simp [hn] <;> omega) 
theorem first_gives73 (l : List Int) (hl : l.length < 2 ^ 40) : Gives G 73 [.sl 1 (l.map encI)] [] ⟨.int .i64 (firstS l), []⟩ := by
  refine gives_code (F := f73) rfl rfl (W_ok 300 _ _ _ _ ?_)
  repeat' ((conv => whnf); first | refine zN ?_ | refine zC ?_ | refine zC4 ?_ | refine zC1 ?_ | refine zC8 ?_ | refine zQ ?_ | refine zR ?_ | refine zS ?_ | refine zA ?_ | refine zM ?_ | refine xr rfl ?_ | refine ai rfl ?_ | refine condT ?_ | refine condF ?_ | refine condG1 ?_ | refine condG0 ?_ | refine cD ?_ | refine dD ?_ | refine cB ?_ | refine dB ?_ | refine cN ?_ | refine dN ?_ | refine cV ?_ | refine dV ?_ | refine cE ?_ | refine dE ?_ | refine condNot ?_ | refine condX0 ?_ | refine condX1 ?_ | refine condAnd ?_ | refine condOr ?_ | refine aO ?_ | refine aB ?_ | refine aR ?_ | refine xr (by assumption) ?_ | refine ai (by assumption) ?_ | refine condD (fun h => ?_) (fun h => ?_) | refine condB (fun h => ?_) (fun h => ?_) | refine condN (fun h => ?_) (fun h => ?_) | refine condE (fun h => ?_) (fun h => ?_) | refine condV (fun h => ?_) (fun h => ?_))
  refine ev_keep [5, 6, 7] [] ?_
  exact first_loop73 l hl _ (by simp) l [] _ _ _ 0 rfl rfl
theorem among_loop107 (l : List Int) (k : Int) (hl : l.length < 2 ^ 40) (ln : Int) (hln : ln = l.length) : ∀ (rest done : List Int)  (T : List (Nat × AV)) (H : Heap) (c : Nat) (n : Int) (e : l = done ++ rest) (hn : n = done.length) , Ev G ⟨f107x7LH, ⟨(7, .sl 1 (l.map encI)) :: (8, .int .i64 ln) :: (9, .int .i64 n) :: (0, .int .i64 k) :: T, H, c⟩, [.t 4], 0⟩ ⟨.bool (rest.any (· == k)), []⟩
  | [], done,  T, H, c, n, e, hn => by
    have hd : l.length = done.length := by simp [e]
    have hll : (l.map encI).length = l.length := by simp
    refine ev_loop' (W_ok 300 _ _ _ _ ?_)
    repeat' ((conv => whnf); first | refine zN ?_ | refine zC ?_ | refine zC4 ?_ | refine zC1 ?_ | refine zC8 ?_ | refine zQ ?_ | refine zR ?_ | refine zS ?_ | refine zA ?_ | refine zM ?_ | refine xr rfl ?_ | refine ai rfl ?_ | refine condT ?_ | refine condF ?_ | refine condG1 ?_ | refine condG0 ?_ | refine cD ?_ | refine dD ?_ | refine cB ?_ | refine dB ?_ | refine cN ?_ | refine dN ?_ | refine cV ?_ | refine dV ?_ | refine cE ?_ | refine dE ?_ | refine condNot ?_ | refine condX0 ?_ | refine condX1 ?_ | refine condAnd ?_ | refine condOr ?_ | refine aO ?_ | refine aB ?_ | refine aR ?_ | refine xr (by assumption) ?_ | refine ai (by assumption) ?_ | refine condD (fun h => ?_) (fun h => ?_) | refine condB (fun h => ?_) (fun h => ?_) | refine condN (fun h => ?_) (fun h => ?_) | refine condE (fun h => ?_) (fun h => ?_) | refine condV (fun h => ?_) (fun h => ?_))
    all_goals try ((first | refine ev_fin (And.intro (by first | rfl | simp [AV.pure, pureL]) ?_) | refine ev_fin0 (And.intro (by first | rfl | simp [AV.pure, pureL]) ?_)); first | rfl | (simp [Bool.cond_eq_ite, *]; done) | (simp [Bool.cond_eq_ite, *]; omega))
  | x :: r, done,  T, H, c, n, e, hn => by
    have hd : l.length = done.length + (r.length + 1) := by simp [e]
    have hll : (l.map encI).length = l.length := by simp
    have hx : (l.map encI)[n.toNat]? = some (encI x) := by simp [e, hn]
    refine ev_loop' (W_ok 300 _ _ _ _ ?_)
    repeat' ((conv => whnf); first | refine zN ?_ | refine zC ?_ | refine zC4 ?_ | refine zC1 ?_ | refine zC8 ?_ | refine zQ ?_ | refine zR ?_ | refine zS ?_ | refine zA ?_ | refine zM ?_ | refine xr rfl ?_ | refine ai rfl ?_ | refine condT ?_ | refine condF ?_ | refine condG1 ?_ | refine condG0 ?_ | refine cD ?_ | refine dD ?_ | refine cB ?_ | refine dB ?_ | refine cN ?_ | refine dN ?_ | refine cV ?_ | refine dV ?_ | refine cE ?_ | refine dE ?_ | refine condNot ?_ | refine condX0 ?_ | refine condX1 ?_ | refine condAnd ?_ | refine condOr ?_ | refine aO ?_ | refine aB ?_ | refine aR ?_ | refine xr (by assumption) ?_ | refine ai (by assumption) ?_ | refine condD (fun h => ?_) (fun h => ?_) | refine condB (fun h => ?_) (fun h => ?_) | refine condN (fun h => ?_) (fun h => ?_) | refine condE (fun h => ?_) (fun h => ?_) | refine condV (fun h => ?_) (fun h => ?_))
    all_goals try ((first | refine ev_fin (And.intro (by first | rfl | simp [AV.pure, pureL]) ?_) | refine ev_fin0 (And.intro (by first | rfl | simp [AV.pure, pureL]) ?_)); first | rfl | (simp [Bool.cond_eq_ite, *]; done) | (simp [Bool.cond_eq_ite, *]; omega))
    rw [show (x :: r).any (· == k) = r.any (· == k) from by simp [*]]
    refine ev_keep [7, 8, 9, 0] [] ?_; exact among_loop107 l k hl ln hln r (done ++ [x])  _ _ _ (n + 1) (by simp [e]) (by simp [hn] <;> omega) 
theorem among_gives107 (k : Int) (l : List Int) (hl : l.length < 2 ^ 40) : Gives G 107 [.int .i64 k, .sl 1 (l.map encI)] [] ⟨.bool (l.any (· == k)), []⟩ := by
  refine gives_code (F := f107) rfl rfl (W_ok 300 _ _ _ _ ?_)
  repeat' ((conv => whnf); first | refine zN ?_ | refine zC ?_ | refine zC4 ?_ | refine zC1 ?_ | refine zC8 ?_ | refine zQ ?_ | refine zR ?_ | refine zS ?_ | refine zA ?_ | refine zM ?_ | refine xr rfl ?_ | refine ai rfl ?_ | refine condT ?_ | refine condF ?_ | refine condG1 ?_ | refine condG0 ?_ | refine cD ?_ | refine dD ?_ | refine cB ?_ | refine dB ?_ | refine cN ?_ | refine dN ?_ | refine cV ?_ | refine dV ?_ | refine cE ?_ | refine dE ?_ | refine condNot ?_ | refine condX0 ?_ | refine condX1 ?_ | refine condAnd ?_ | refine condOr ?_ | refine aO ?_ | refine aB ?_ | refine aR ?_ | refine xr (by assumption) ?_ | refine ai (by assumption) ?_ | refine condD (fun h => ?_) (fun h => ?_) | refine condB (fun h => ?_) (fun h => ?_) | refine condN (fun h => ?_) (fun h => ?_) | refine condE (fun h => ?_) (fun h => ?_) | refine condV (fun h => ?_) (fun h => ?_))
  refine ev_keep [7, 8, 9, 0] [] ?_
  exact among_loop107 l k hl _ (by simp) l [] _ _ _ 0 rfl rfl
def clS : List Int → Int
  | [] => 0
  | x :: r => if x = 0 then 1 else clS r
theorem clusters_loop78 (l : List Int)  (hl : l.length < 2 ^ 40) (ln : Int) (hln : ln = l.length) : ∀ (rest done : List Int)  (T : List (Nat × AV)) (H : Heap) (c : Nat) (n : Int) (e : l = done ++ rest) (hn : n = done.length) , Ev G ⟨f78x9LH, ⟨(8, .sl 1 (l.map encU)) :: (9, .int .i64 ln) :: (10, .int .i64 n) :: T, H, c⟩, [.t 2], 0⟩ ⟨.int .i64 (clS rest), []⟩
  | [], done,  T, H, c, n, e, hn => by
    have hd : l.length = done.length := by simp [e]
    have hll : (l.map encU).length = l.length := by simp
    refine ev_loop' (W_ok 300 _ _ _ _ ?_)
    repeat' ((conv => whnf); first | refine zN ?_ | refine zC ?_ | refine zC4 ?_ | refine zC1 ?_ | refine zC8 ?_ | refine zQ ?_ | refine zR ?_ | refine zS ?_ | refine zA ?_ | refine zM ?_ | refine xr rfl ?_ | refine ai rfl ?_ | refine condT ?_ | refine condF ?_ | refine condG1 ?_ | refine condG0 ?_ | refine cD ?_ | refine dD ?_ | refine cB ?_ | refine dB ?_ | refine cN ?_ | refine dN ?_ | refine cV ?_ | refine dV ?_ | refine cE ?_ | refine dE ?_ | refine condNot ?_ | refine condX0 ?_ | refine condX1 ?_ | refine condAnd ?_ | refine condOr ?_ | refine aO ?_ | refine aB ?_ | refine aR ?_ | refine xr (by assumption) ?_ | refine ai (by assumption) ?_ | refine condD (fun h => ?_) (fun h => ?_) | refine condB (fun h => ?_) (fun h => ?_) | refine condN (fun h => ?_) (fun h => ?_) | refine condE (fun h => ?_) (fun h => ?_) | refine condV (fun h => ?_) (fun h => ?_))
    all_goals try ((first | refine ev_fin (And.intro (by first | rfl | simp [AV.pure, pureL]) ?_) | refine ev_fin0 (And.intro (by first | rfl | simp [AV.pure, pureL]) ?_)); first | rfl | (simp [clS, Bool.cond_eq_ite, *]; done) | (simp [clS, Bool.cond_eq_ite, *]; omega) | (unfold clS; repeat' split; all_goals first | rfl | (exfalso; omega) | (simp_all; done) | (simp_all; omega)))
  | x :: r, done,  T, H, c, n, e, hn => by
    have hd : l.length = done.length + (r.length + 1) := by simp [e]
    have hll : (l.map encU).length = l.length := by simp
    have hx : (l.map encU)[n.toNat]? = some (encU x) := by simp [e, hn]
    refine ev_loop' (W_ok 300 _ _ _ _ ?_)
    repeat' ((conv => whnf); first | refine zN ?_ | refine zC ?_ | refine zC4 ?_ | refine zC1 ?_ | refine zC8 ?_ | refine zQ ?_ | refine zR ?_ | refine zS ?_ | refine zA ?_ | refine zM ?_ | refine xr rfl ?_ | refine ai rfl ?_ | refine condT ?_ | refine condF ?_ | refine condG1 ?_ | refine condG0 ?_ | refine cD ?_ | refine dD ?_ | refine cB ?_ | refine dB ?_ | refine cN ?_ | refine dN ?_ | refine cV ?_ | refine dV ?_ | refine cE ?_ | refine dE ?_ | refine condNot ?_ | refine condX0 ?_ | refine condX1 ?_ | refine condAnd ?_ | refine condOr ?_ | refine aO ?_ | refine aB ?_ | refine aR ?_ | refine xr (by assumption) ?_ | refine ai (by assumption) ?_ | refine condD (fun h => ?_) (fun h => ?_) | refine condB (fun h => ?_) (fun h => ?_) | refine condN (fun h => ?_) (fun h => ?_) | refine condE (fun h => ?_) (fun h => ?_) | refine condV (fun h => ?_) (fun h => ?_))
    all_goals try ((first | refine ev_fin (And.intro (by first | rfl | simp [AV.pure, pureL]) ?_) | refine ev_fin0 (And.intro (by first | rfl | simp [AV.pure, pureL]) ?_)); first | rfl | (simp [clS, Bool.cond_eq_ite, *]; done) | (simp [clS, Bool.cond_eq_ite, *]; omega) | (unfold clS; repeat' split; all_goals first | rfl | (exfalso; omega) | (simp_all; done) | (simp_all; omega)))
    rw [show clS (x :: r) = clS r from by simp [clS, *]]
    refine ev_keep [8, 9, 10] [] ?_; exact clusters_loop78 l  hl ln hln r (done ++ [x])  _ _ _ (n + 1) (by simp [e]) (by simp [hn] <;> omega) 
def clustersE (l : List Int) : Int := if l.length > 64 then 4 else clS l
theorem clusters_gives78 (l : List Int) (hl : l.length < 2 ^ 40) : Gives G 78 [.sl 1 (l.map encU)] [] ⟨.int .i64 (clustersE l), []⟩ := by
  have ll : (l.map encU).length = l.length := by simp
  refine gives_code (F := f78) rfl rfl (W_ok 300 _ _ _ _ ?_)
  repeat' ((conv => whnf); first | refine zN ?_ | refine zC ?_ | refine zC4 ?_ | refine zC1 ?_ | refine zC8 ?_ | refine zQ ?_ | refine zR ?_ | refine zS ?_ | refine zA ?_ | refine zM ?_ | refine xr rfl ?_ | refine ai rfl ?_ | refine condT ?_ | refine condF ?_ | refine condG1 ?_ | refine condG0 ?_ | refine cD ?_ | refine dD ?_ | refine cB ?_ | refine dB ?_ | refine cN ?_ | refine dN ?_ | refine cV ?_ | refine dV ?_ | refine cE ?_ | refine dE ?_ | refine condNot ?_ | refine condX0 ?_ | refine condX1 ?_ | refine condAnd ?_ | refine condOr ?_ | refine aO ?_ | refine aB ?_ | refine aR ?_ | refine xr (by assumption) ?_ | refine ai (by assumption) ?_ | refine condD (fun h => ?_) (fun h => ?_) | refine condB (fun h => ?_) (fun h => ?_) | refine condN (fun h => ?_) (fun h => ?_) | refine condE (fun h => ?_) (fun h => ?_) | refine condV (fun h => ?_) (fun h => ?_))
  all_goals try ((first | refine ev_fin (And.intro (by first | rfl | simp [AV.pure, pureL]) ?_) | refine ev_fin0 (And.intro (by first | rfl | simp [AV.pure, pureL]) ?_)); first | rfl | (simp [clustersE, Bool.cond_eq_ite, *]; done) | (simp [clustersE, Bool.cond_eq_ite, *]; omega) | (unfold clustersE; repeat' split; all_goals first | rfl | (exfalso; omega) | (simp_all; done) | (simp_all; omega)))
  rw [show clustersE l = clS l from by simp [clustersE]; omega]
  refine ev_keep [8, 9, 10] [] ?_
  exact clusters_loop78 l hl _ (by simp) l [] _ _ _ 0 rfl rfl
end Go.AM.IR
set_option maxHeartbeats 4000000
set_option maxRecDepth 20000
namespace Go.AM.IR
theorem confed_gives106 (k : Int) : Gives G 106 [.int .i64 k] [] ⟨.bool (confK k), []⟩ := by
  have hr : ([3, 4] : List Int).any (· == k) = confK k := by
    unfold confK; simp only [List.any_cons, List.any_nil, Bool.or_false]
    rw [Bool.eq_iff_iff]; simp; omega
  have e1 := among_gives107 k [3, 4] (by simp)
  rw [hr] at e1
  refine gives_code (F := f106) rfl rfl (W_ok 300 _ _ _ _ ?_)
  repeat' ((conv => whnf); first | refine zN ?_ | refine zC ?_ | refine zC4 ?_ | refine zC1 ?_ | refine zC8 ?_ | refine zQ ?_ | refine zR ?_ | refine zS ?_ | refine zA ?_ | refine zM ?_ | refine xr rfl ?_ | refine ai rfl ?_ | refine condT ?_ | refine condF ?_ | refine condG1 ?_ | refine condG0 ?_ | refine cD ?_ | refine dD ?_ | refine cB ?_ | refine dB ?_ | refine cN ?_ | refine dN ?_ | refine cV ?_ | refine dV ?_ | refine cE ?_ | refine dE ?_ | refine condNot ?_ | refine condX0 ?_ | refine condX1 ?_ | refine condAnd ?_ | refine condOr ?_ | refine aO ?_ | refine aB ?_ | refine aR ?_ | refine xr (by assumption) ?_ | refine ai (by assumption) ?_ | refine condD (fun h => ?_) (fun h => ?_) | refine condB (fun h => ?_) (fun h => ?_) | refine condN (fun h => ?_) (fun h => ?_) | refine condE (fun h => ?_) (fun h => ?_) | refine condV (fun h => ?_) (fun h => ?_))
  refine callF [(68, _, .vec 1 [encI 3, encI 4])] ⟨rfl, rfl, trivial⟩ rfl (by simp) rfl rfl e1 rfl ?_
  repeat' ((conv => whnf); first | refine zN ?_ | refine zC ?_ | refine zC4 ?_ | refine zC1 ?_ | refine zC8 ?_ | refine zQ ?_ | refine zR ?_ | refine zS ?_ | refine zA ?_ | refine zM ?_ | refine xr rfl ?_ | refine ai rfl ?_ | refine condT ?_ | refine condF ?_ | refine condG1 ?_ | refine condG0 ?_ | refine cD ?_ | refine dD ?_ | refine cB ?_ | refine dB ?_ | refine cN ?_ | refine dN ?_ | refine cV ?_ | refine dV ?_ | refine cE ?_ | refine dE ?_ | refine condNot ?_ | refine condX0 ?_ | refine condX1 ?_ | refine condAnd ?_ | refine condOr ?_ | refine aO ?_ | refine aB ?_ | refine aR ?_ | refine xr (by assumption) ?_ | refine ai (by assumption) ?_ | refine condD (fun h => ?_) (fun h => ?_) | refine condB (fun h => ?_) (fun h => ?_) | refine condN (fun h => ?_) (fun h => ?_) | refine condE (fun h => ?_) (fun h => ?_) | refine condV (fun h => ?_) (fun h => ?_))
  all_goals try ((first | refine ev_fin (And.intro (by first | rfl | simp [AV.pure, pureL]) ?_) | refine ev_fin0 (And.intro (by first | rfl | simp [AV.pure, pureL]) ?_)); first | rfl | (simp [Bool.cond_eq_ite, *]; done) | (simp [Bool.cond_eq_ite, *]; omega))
/-- Whether numbers ascend, after one. -/
def ordS (p : Int) : List Int → Int
  | [] => 0
  | x :: r => if x ≤ p then 16 else ordS x r
def orderS : List Int → Int
  | [] => 0
  | x :: r => ordS x r
theorem order_loop77 (l : List Int) (hl : l.length < 2 ^ 40) (ln : Int) (hln : ln = l.length) : ∀ (rest done : List Int) (p : Int) (T : List (Nat × AV)) (H : Heap) (c : Nat) (n : Int) (e : l = done ++ p :: rest) (hn : n = done.length + 1),
   Ev G ⟨f77x9LH, ⟨(7, .sl 1 (l.map encU)) :: (8, .int .i64 ln) :: (9, .int .i64 n) :: (0, .sl 1 (l.map encU)) :: T, H, c⟩, [.t 2], 0⟩ ⟨.int .i64 (ordS p rest), []⟩
  | [], done, p, T, H, c, n, e, hn => by
    have hd : l.length = done.length + 1 := by simp [e]
    refine ev_loop' (W_ok 300 _ _ _ _ ?_)
    repeat' ((conv => whnf); first | refine zN ?_ | refine zC ?_ | refine zC4 ?_ | refine zC1 ?_ | refine zC8 ?_ | refine zQ ?_ | refine zR ?_ | refine zS ?_ | refine zA ?_ | refine zM ?_ | refine xr rfl ?_ | refine ai rfl ?_ | refine condT ?_ | refine condF ?_ | refine condG1 ?_ | refine condG0 ?_ | refine cD ?_ | refine dD ?_ | refine cB ?_ | refine dB ?_ | refine cN ?_ | refine dN ?_ | refine cV ?_ | refine dV ?_ | refine cE ?_ | refine dE ?_ | refine condNot ?_ | refine condX0 ?_ | refine condX1 ?_ | refine condAnd ?_ | refine condOr ?_ | refine aO ?_ | refine aB ?_ | refine aR ?_ | refine xr (by assumption) ?_ | refine ai (by assumption) ?_ | refine condD (fun h => ?_) (fun h => ?_) | refine condB (fun h => ?_) (fun h => ?_) | refine condN (fun h => ?_) (fun h => ?_) | refine condE (fun h => ?_) (fun h => ?_) | refine condV (fun h => ?_) (fun h => ?_))
    all_goals try ((first | refine ev_fin (And.intro (by first | rfl | simp [AV.pure, pureL]) ?_) | refine ev_fin0 (And.intro (by first | rfl | simp [AV.pure, pureL]) ?_)); first | rfl | (simp [ordS, Bool.cond_eq_ite, *]; done) | (simp [ordS, Bool.cond_eq_ite, *]; omega) | (unfold ordS; repeat' split; all_goals first | rfl | (exfalso; omega) | (simp_all; done) | (simp_all; omega)))
  | x :: r, done, p, T, H, c, n, e, hn => by
    have hd : l.length = done.length + (r.length + 2) := by simp [e]
    have ll : (l.map encU).length = l.length := by simp
    have hn1 : (n - 1).toNat = done.length := by omega
    have hn0 : n.toNat = done.length + 1 := by omega
    have hx : (l.map encU)[n.toNat]? = some (encU x) := by rw [hn0, e]; simp
    have hy : (l.map encU)[(n - 1).toNat]? = some (encU p) := by rw [hn1, e]; simp
    refine ev_loop' (W_ok 300 _ _ _ _ ?_)
    repeat' ((conv => whnf); first | refine zN ?_ | refine zC ?_ | refine zC4 ?_ | refine zC1 ?_ | refine zC8 ?_ | refine zQ ?_ | refine zR ?_ | refine zS ?_ | refine zA ?_ | refine zM ?_ | refine xr rfl ?_ | refine ai rfl ?_ | refine condT ?_ | refine condF ?_ | refine condG1 ?_ | refine condG0 ?_ | refine cD ?_ | refine dD ?_ | refine cB ?_ | refine dB ?_ | refine cN ?_ | refine dN ?_ | refine cV ?_ | refine dV ?_ | refine cE ?_ | refine dE ?_ | refine condNot ?_ | refine condX0 ?_ | refine condX1 ?_ | refine condAnd ?_ | refine condOr ?_ | refine aO ?_ | refine aB ?_ | refine aR ?_ | refine xr (by assumption) ?_ | refine ai (by assumption) ?_ | refine condD (fun h => ?_) (fun h => ?_) | refine condB (fun h => ?_) (fun h => ?_) | refine condN (fun h => ?_) (fun h => ?_) | refine condE (fun h => ?_) (fun h => ?_) | refine condV (fun h => ?_) (fun h => ?_))
    all_goals try ((first | refine ev_fin (And.intro (by first | rfl | simp [AV.pure, pureL]) ?_) | refine ev_fin0 (And.intro (by first | rfl | simp [AV.pure, pureL]) ?_)); first | rfl | (simp [ordS, Bool.cond_eq_ite, *]; done) | (simp [ordS, Bool.cond_eq_ite, *]; omega) | (unfold ordS; repeat' split; all_goals first | rfl | (exfalso; omega) | (simp_all; done) | (simp_all; omega)))
    rw [show ordS p (x :: r) = ordS x r from by simp [ordS, *]]
    refine ev_keep [7, 8, 9, 0] [] ?_
    exact order_loop77 l hl ln hln r (done ++ [p]) x _ _ _ (n + 1) (by simp [e]) (by simp [hn])
def commE (l : List Int) : Int := if l.length > 255 then 4 else orderS l
theorem comm_gives77 (l : List Int) (hl : l.length < 2 ^ 40) : Gives G 77 [.sl 1 (l.map encU)] [] ⟨.int .i64 (commE l), []⟩ := by
  have ll : (l.map encU).length = l.length := by simp
  cases l with
  | nil =>
    refine gives_code (F := f77) rfl rfl (W_ok 300 _ _ _ _ ?_)
    repeat' ((conv => whnf); first | refine zN ?_ | refine zC ?_ | refine zC4 ?_ | refine zC1 ?_ | refine zC8 ?_ | refine zQ ?_ | refine zR ?_ | refine zS ?_ | refine zA ?_ | refine zM ?_ | refine xr rfl ?_ | refine ai rfl ?_ | refine condT ?_ | refine condF ?_ | refine condG1 ?_ | refine condG0 ?_ | refine cD ?_ | refine dD ?_ | refine cB ?_ | refine dB ?_ | refine cN ?_ | refine dN ?_ | refine cV ?_ | refine dV ?_ | refine cE ?_ | refine dE ?_ | refine condNot ?_ | refine condX0 ?_ | refine condX1 ?_ | refine condAnd ?_ | refine condOr ?_ | refine aO ?_ | refine aB ?_ | refine aR ?_ | refine xr (by assumption) ?_ | refine ai (by assumption) ?_ | refine condD (fun h => ?_) (fun h => ?_) | refine condB (fun h => ?_) (fun h => ?_) | refine condN (fun h => ?_) (fun h => ?_) | refine condE (fun h => ?_) (fun h => ?_) | refine condV (fun h => ?_) (fun h => ?_))
    refine ev_loop' (W_ok 300 _ _ _ _ ?_)
    repeat' ((conv => whnf); first | refine zN ?_ | refine zC ?_ | refine zC4 ?_ | refine zC1 ?_ | refine zC8 ?_ | refine zQ ?_ | refine zR ?_ | refine zS ?_ | refine zA ?_ | refine zM ?_ | refine xr rfl ?_ | refine ai rfl ?_ | refine condT ?_ | refine condF ?_ | refine condG1 ?_ | refine condG0 ?_ | refine cD ?_ | refine dD ?_ | refine cB ?_ | refine dB ?_ | refine cN ?_ | refine dN ?_ | refine cV ?_ | refine dV ?_ | refine cE ?_ | refine dE ?_ | refine condNot ?_ | refine condX0 ?_ | refine condX1 ?_ | refine condAnd ?_ | refine condOr ?_ | refine aO ?_ | refine aB ?_ | refine aR ?_ | refine xr (by assumption) ?_ | refine ai (by assumption) ?_ | refine condD (fun h => ?_) (fun h => ?_) | refine condB (fun h => ?_) (fun h => ?_) | refine condN (fun h => ?_) (fun h => ?_) | refine condE (fun h => ?_) (fun h => ?_) | refine condV (fun h => ?_) (fun h => ?_))
    all_goals try ((first | refine ev_fin (And.intro (by first | rfl | simp [AV.pure, pureL]) ?_) | refine ev_fin0 (And.intro (by first | rfl | simp [AV.pure, pureL]) ?_)); first | rfl | (simp [commE, orderS, Bool.cond_eq_ite, *]; done) | (simp [commE, orderS, Bool.cond_eq_ite, *]; omega) | (unfold commE orderS; repeat' split; all_goals first | rfl | (exfalso; omega) | (simp_all; done) | (simp_all; omega)))
  | cons x r =>
    have hx : ((x :: r).map encU)[(0 : Int).toNat]? = some (encU x) := rfl
    have h2 := ll
    simp only [List.length_cons] at hl
    rw [List.length_cons] at h2
    refine gives_code (F := f77) rfl rfl (W_ok 300 _ _ _ _ ?_)
    repeat' ((conv => whnf); first | refine zN ?_ | refine zC ?_ | refine zC4 ?_ | refine zC1 ?_ | refine zC8 ?_ | refine zQ ?_ | refine zR ?_ | refine zS ?_ | refine zA ?_ | refine zM ?_ | refine xr rfl ?_ | refine ai rfl ?_ | refine condT ?_ | refine condF ?_ | refine condG1 ?_ | refine condG0 ?_ | refine cD ?_ | refine dD ?_ | refine cB ?_ | refine dB ?_ | refine cN ?_ | refine dN ?_ | refine cV ?_ | refine dV ?_ | refine cE ?_ | refine dE ?_ | refine condNot ?_ | refine condX0 ?_ | refine condX1 ?_ | refine condAnd ?_ | refine condOr ?_ | refine aO ?_ | refine aB ?_ | refine aR ?_ | refine xr (by assumption) ?_ | refine ai (by assumption) ?_ | refine condD (fun h => ?_) (fun h => ?_) | refine condB (fun h => ?_) (fun h => ?_) | refine condN (fun h => ?_) (fun h => ?_) | refine condE (fun h => ?_) (fun h => ?_) | refine condV (fun h => ?_) (fun h => ?_))
    all_goals try ((first | refine ev_fin (And.intro (by first | rfl | simp [AV.pure, pureL]) ?_) | refine ev_fin0 (And.intro (by first | rfl | simp [AV.pure, pureL]) ?_)); first | rfl | (simp [commE, Bool.cond_eq_ite, *]; done) | (simp [commE, Bool.cond_eq_ite, *]; omega) | (unfold commE; repeat' split; all_goals first | rfl | (exfalso; omega) | (simp_all; done) | (simp_all; omega)))
    rw [show commE (x :: r) = ordS x r from by simp [commE, orderS]; omega]
    refine ev_loop' (W_ok 300 _ _ _ _ ?_)
    repeat' ((conv => whnf); first | refine zN ?_ | refine zC ?_ | refine zC4 ?_ | refine zC1 ?_ | refine zC8 ?_ | refine zQ ?_ | refine zR ?_ | refine zS ?_ | refine zA ?_ | refine zM ?_ | refine xr rfl ?_ | refine ai rfl ?_ | refine condT ?_ | refine condF ?_ | refine condG1 ?_ | refine condG0 ?_ | refine cD ?_ | refine dD ?_ | refine cB ?_ | refine dB ?_ | refine cN ?_ | refine dN ?_ | refine cV ?_ | refine dV ?_ | refine cE ?_ | refine dE ?_ | refine condNot ?_ | refine condX0 ?_ | refine condX1 ?_ | refine condAnd ?_ | refine condOr ?_ | refine aO ?_ | refine aB ?_ | refine aR ?_ | refine xr (by assumption) ?_ | refine ai (by assumption) ?_ | refine condD (fun h => ?_) (fun h => ?_) | refine condB (fun h => ?_) (fun h => ?_) | refine condN (fun h => ?_) (fun h => ?_) | refine condE (fun h => ?_) (fun h => ?_) | refine condV (fun h => ?_) (fun h => ?_))
    refine ev_keep [7, 8, 9, 0] [] ?_
    exact order_loop77 (x :: r) hl _ (by simp) r [] x _ _ _ 1 rfl rfl
theorem order_loop82 (l : List Int) (hl : l.length < 2 ^ 40) : ∀ (rest done : List Int) (p : Int) (T : List (Nat × AV)) (H : Heap) (c : Nat) (n : Int) (e : l = done ++ p :: rest) (hn : n = done.length + 1),
   Ev G ⟨f82x8LH, ⟨(3, .int .i64 n) :: (0, .sl 1 (l.map encU)) :: T, H, c⟩, [.t 2], 0⟩ ⟨.int .i64 (ordS p rest), []⟩
  | [], done, p, T, H, c, n, e, hn => by
    have hd : l.length = done.length + 1 := by simp [e]
    have ll : (l.map encU).length = l.length := by simp
    refine ev_loop' (W_ok 300 _ _ _ _ ?_)
    repeat' ((conv => whnf); first | refine zN ?_ | refine zC ?_ | refine zC4 ?_ | refine zC1 ?_ | refine zC8 ?_ | refine zQ ?_ | refine zR ?_ | refine zS ?_ | refine zA ?_ | refine zM ?_ | refine xr rfl ?_ | refine ai rfl ?_ | refine condT ?_ | refine condF ?_ | refine condG1 ?_ | refine condG0 ?_ | refine cD ?_ | refine dD ?_ | refine cB ?_ | refine dB ?_ | refine cN ?_ | refine dN ?_ | refine cV ?_ | refine dV ?_ | refine cE ?_ | refine dE ?_ | refine condNot ?_ | refine condX0 ?_ | refine condX1 ?_ | refine condAnd ?_ | refine condOr ?_ | refine aO ?_ | refine aB ?_ | refine aR ?_ | refine xr (by assumption) ?_ | refine ai (by assumption) ?_ | refine condD (fun h => ?_) (fun h => ?_) | refine condB (fun h => ?_) (fun h => ?_) | refine condN (fun h => ?_) (fun h => ?_) | refine condE (fun h => ?_) (fun h => ?_) | refine condV (fun h => ?_) (fun h => ?_))
    all_goals try ((first | refine ev_fin (And.intro (by first | rfl | simp [AV.pure, pureL]) ?_) | refine ev_fin0 (And.intro (by first | rfl | simp [AV.pure, pureL]) ?_)); first | rfl | (simp [ordS, Bool.cond_eq_ite, *]; done) | (simp [ordS, Bool.cond_eq_ite, *]; omega) | (unfold ordS; repeat' split; all_goals first | rfl | (exfalso; omega) | (simp_all; done) | (simp_all; omega)))
  | x :: r, done, p, T, H, c, n, e, hn => by
    have hd : l.length = done.length + (r.length + 2) := by simp [e]
    have ll : (l.map encU).length = l.length := by simp
    have hn1 : (n - 1).toNat = done.length := by omega
    have hn0 : n.toNat = done.length + 1 := by omega
    have hx : (l.map encU)[n.toNat]? = some (encU x) := by rw [hn0, e]; simp
    have hy : (l.map encU)[(n - 1).toNat]? = some (encU p) := by rw [hn1, e]; simp
    refine ev_loop' (W_ok 300 _ _ _ _ ?_)
    repeat' ((conv => whnf); first | refine zN ?_ | refine zC ?_ | refine zC4 ?_ | refine zC1 ?_ | refine zC8 ?_ | refine zQ ?_ | refine zR ?_ | refine zS ?_ | refine zA ?_ | refine zM ?_ | refine xr rfl ?_ | refine ai rfl ?_ | refine condT ?_ | refine condF ?_ | refine condG1 ?_ | refine condG0 ?_ | refine cD ?_ | refine dD ?_ | refine cB ?_ | refine dB ?_ | refine cN ?_ | refine dN ?_ | refine cV ?_ | refine dV ?_ | refine cE ?_ | refine dE ?_ | refine condNot ?_ | refine condX0 ?_ | refine condX1 ?_ | refine condAnd ?_ | refine condOr ?_ | refine aO ?_ | refine aB ?_ | refine aR ?_ | refine xr (by assumption) ?_ | refine ai (by assumption) ?_ | refine condD (fun h => ?_) (fun h => ?_) | refine condB (fun h => ?_) (fun h => ?_) | refine condN (fun h => ?_) (fun h => ?_) | refine condE (fun h => ?_) (fun h => ?_) | refine condV (fun h => ?_) (fun h => ?_))
    all_goals try ((first | refine ev_fin (And.intro (by first | rfl | simp [AV.pure, pureL]) ?_) | refine ev_fin0 (And.intro (by first | rfl | simp [AV.pure, pureL]) ?_)); first | rfl | (simp [ordS, Bool.cond_eq_ite, *]; done) | (simp [ordS, Bool.cond_eq_ite, *]; omega) | (unfold ordS; repeat' split; all_goals first | rfl | (exfalso; omega) | (simp_all; done) | (simp_all; omega)))
    rw [show ordS p (x :: r) = ordS x r from by simp [ordS, *]]
    refine ev_keep [3, 0] [] ?_
    exact order_loop82 l hl r (done ++ [p]) x _ _ _ (n + 1) (by simp [e]) (by simp [hn])
theorem comm_gives82 (l : List Int) (hl : l.length < 2 ^ 40) : Gives G 82 [.sl 1 (l.map encU)] [] ⟨.int .i64 (commE l), []⟩ := by
  have ll : (l.map encU).length = l.length := by simp
  cases l with
  | nil =>
    refine gives_code (F := f82) rfl rfl (W_ok 300 _ _ _ _ ?_)
    repeat' ((conv => whnf); first | refine zN ?_ | refine zC ?_ | refine zC4 ?_ | refine zC1 ?_ | refine zC8 ?_ | refine zQ ?_ | refine zR ?_ | refine zS ?_ | refine zA ?_ | refine zM ?_ | refine xr rfl ?_ | refine ai rfl ?_ | refine condT ?_ | refine condF ?_ | refine condG1 ?_ | refine condG0 ?_ | refine cD ?_ | refine dD ?_ | refine cB ?_ | refine dB ?_ | refine cN ?_ | refine dN ?_ | refine cV ?_ | refine dV ?_ | refine cE ?_ | refine dE ?_ | refine condNot ?_ | refine condX0 ?_ | refine condX1 ?_ | refine condAnd ?_ | refine condOr ?_ | refine aO ?_ | refine aB ?_ | refine aR ?_ | refine xr (by assumption) ?_ | refine ai (by assumption) ?_ | refine condD (fun h => ?_) (fun h => ?_) | refine condB (fun h => ?_) (fun h => ?_) | refine condN (fun h => ?_) (fun h => ?_) | refine condE (fun h => ?_) (fun h => ?_) | refine condV (fun h => ?_) (fun h => ?_))
    refine ev_loop' (W_ok 300 _ _ _ _ ?_)
    repeat' ((conv => whnf); first | refine zN ?_ | refine zC ?_ | refine zC4 ?_ | refine zC1 ?_ | refine zC8 ?_ | refine zQ ?_ | refine zR ?_ | refine zS ?_ | refine zA ?_ | refine zM ?_ | refine xr rfl ?_ | refine ai rfl ?_ | refine condT ?_ | refine condF ?_ | refine condG1 ?_ | refine condG0 ?_ | refine cD ?_ | refine dD ?_ | refine cB ?_ | refine dB ?_ | refine cN ?_ | refine dN ?_ | refine cV ?_ | refine dV ?_ | refine cE ?_ | refine dE ?_ | refine condNot ?_ | refine condX0 ?_ | refine condX1 ?_ | refine condAnd ?_ | refine condOr ?_ | refine aO ?_ | refine aB ?_ | refine aR ?_ | refine xr (by assumption) ?_ | refine ai (by assumption) ?_ | refine condD (fun h => ?_) (fun h => ?_) | refine condB (fun h => ?_) (fun h => ?_) | refine condN (fun h => ?_) (fun h => ?_) | refine condE (fun h => ?_) (fun h => ?_) | refine condV (fun h => ?_) (fun h => ?_))
    all_goals try ((first | refine ev_fin (And.intro (by first | rfl | simp [AV.pure, pureL]) ?_) | refine ev_fin0 (And.intro (by first | rfl | simp [AV.pure, pureL]) ?_)); first | rfl | (simp [commE, orderS, Bool.cond_eq_ite, *]; done) | (simp [commE, orderS, Bool.cond_eq_ite, *]; omega) | (unfold commE orderS; repeat' split; all_goals first | rfl | (exfalso; omega) | (simp_all; done) | (simp_all; omega)))
  | cons x r =>
    have h2 := ll
    simp only [List.length_cons] at hl
    rw [List.length_cons] at h2
    refine gives_code (F := f82) rfl rfl (W_ok 300 _ _ _ _ ?_)
    repeat' ((conv => whnf); first | refine zN ?_ | refine zC ?_ | refine zC4 ?_ | refine zC1 ?_ | refine zC8 ?_ | refine zQ ?_ | refine zR ?_ | refine zS ?_ | refine zA ?_ | refine zM ?_ | refine xr rfl ?_ | refine ai rfl ?_ | refine condT ?_ | refine condF ?_ | refine condG1 ?_ | refine condG0 ?_ | refine cD ?_ | refine dD ?_ | refine cB ?_ | refine dB ?_ | refine cN ?_ | refine dN ?_ | refine cV ?_ | refine dV ?_ | refine cE ?_ | refine dE ?_ | refine condNot ?_ | refine condX0 ?_ | refine condX1 ?_ | refine condAnd ?_ | refine condOr ?_ | refine aO ?_ | refine aB ?_ | refine aR ?_ | refine xr (by assumption) ?_ | refine ai (by assumption) ?_ | refine condD (fun h => ?_) (fun h => ?_) | refine condB (fun h => ?_) (fun h => ?_) | refine condN (fun h => ?_) (fun h => ?_) | refine condE (fun h => ?_) (fun h => ?_) | refine condV (fun h => ?_) (fun h => ?_))
    all_goals try ((first | refine ev_fin (And.intro (by first | rfl | simp [AV.pure, pureL]) ?_) | refine ev_fin0 (And.intro (by first | rfl | simp [AV.pure, pureL]) ?_)); first | rfl | (simp [commE, Bool.cond_eq_ite, *]; done) | (simp [commE, Bool.cond_eq_ite, *]; omega) | (unfold commE; repeat' split; all_goals first | rfl | (exfalso; omega) | (simp_all; done) | (simp_all; omega)))
    rw [show commE (x :: r) = ordS x r from by simp [commE, orderS]; omega]
    refine ev_keep [3, 0] [] ?_
    exact order_loop82 (x :: r) hl r [] x _ _ _ 1 rfl rfl
end Go.AM.IR
set_option maxHeartbeats 4000000
set_option maxRecDepth 20000
namespace Go.AM.IR
/-! ### Segments -/
def rngS : List Int → Bool
  | [] => true
  | x :: r => decide (1 ≤ x ∧ x ≤ 4294967295) && rngS r
def ordC (k : Int) : Option Int → List Int → Bool
  | _, [] => true
  | none, x :: r => ordC k (some x) r
  | some p, x :: r => !(setK k && decide (x ≤ p)) && ordC k (some x) r
def segE (s : Seg) : Int := if s.kind < 1 ∨ s.kind > 4 then 15 else if s.as.length = 0 then 1 else if s.as.length > 255 then 4 else if rngS s.as = false then 5 else if ordC s.kind none s.as = false then 16 else 0
theorem among1 (k : Int) : Gives G 107 [.int .i64 k, .sl 1 [encI 1, encI 4]] [] ⟨.bool (setK k), []⟩ := by
  have hr : ([1, 4] : List Int).any (· == k) = setK k := by
    unfold setK; simp only [List.any_cons, List.any_nil, Bool.or_false]
    rw [Bool.eq_iff_iff]; simp; omega
  rw [← hr]; exact among_gives107 k [1, 4] (by simp)
theorem among2 (k : Int) : Gives G 107 [.int .i64 k, .sl 1 [encI 1, encI 2, encI 3, encI 4]] [] ⟨.bool (decide (1 ≤ k ∧ k ≤ 4)), []⟩ := by
  have hr : ([1, 2, 3, 4] : List Int).any (· == k) = decide (1 ≤ k ∧ k ≤ 4) := by
    simp only [List.any_cons, List.any_nil, Bool.or_false]
    rw [Bool.eq_iff_iff]; simp; omega
  rw [← hr]; exact among_gives107 k [1, 2, 3, 4] (by simp)
theorem among3 (k : Int) : Gives G 107 [.int .i64 k, .sl 1 [encI 2, encI 3]] [] ⟨.bool (decide (k = 2 ∨ k = 3)), []⟩ := by
  have hr : ([2, 3] : List Int).any (· == k) = decide (k = 2 ∨ k = 3) := by
    simp only [List.any_cons, List.any_nil, Bool.or_false]
    rw [Bool.eq_iff_iff]; simp; omega
  rw [← hr]; exact among_gives107 k [2, 3] (by simp)
theorem ord_loop105 (s : Seg) (hl : s.as.length < 2 ^ 40) : ∀ (rest done : List Int) (p : Option Int) (T : List (Nat × AV)) (H : Heap) (c : Nat) (n : Int) (e : s.as = done ++ rest) (hn : n = done.length) (hp : p = done.getLast?),
   Ev G ⟨f105x20LH, ⟨(39, .int .i64 n) :: (1, .ref 65 1 0) :: (38, .int .i64 s.as.length) :: T, (65, some (1, .cells s.enc)) :: H, c⟩, [.t 2], 0⟩ ⟨.int .i64 (if ordC s.kind p rest = false then 16 else 0), []⟩
  | [], done, p, T, H, c, n, e, hn, hp => by
    have hd : s.as.length = done.length := by simp [e]
    refine ev_loop' (W_ok 300 _ _ _ _ ?_)
    repeat' ((conv => whnf); first | refine zN ?_ | refine zC ?_ | refine zC4 ?_ | refine zC1 ?_ | refine zC8 ?_ | refine zQ ?_ | refine zR ?_ | refine zS ?_ | refine zA ?_ | refine zM ?_ | refine xr rfl ?_ | refine ai rfl ?_ | refine condT ?_ | refine condF ?_ | refine condG1 ?_ | refine condG0 ?_ | refine cD ?_ | refine dD ?_ | refine cB ?_ | refine dB ?_ | refine cN ?_ | refine dN ?_ | refine cV ?_ | refine dV ?_ | refine cE ?_ | refine dE ?_ | refine condNot ?_ | refine condX0 ?_ | refine condX1 ?_ | refine condAnd ?_ | refine condOr ?_ | refine aO ?_ | refine aB ?_ | refine aR ?_ | refine xr (by assumption) ?_ | refine ai (by assumption) ?_ | refine condD (fun h => ?_) (fun h => ?_) | refine condB (fun h => ?_) (fun h => ?_) | refine condN (fun h => ?_) (fun h => ?_) | refine condE (fun h => ?_) (fun h => ?_) | refine condV (fun h => ?_) (fun h => ?_))
    all_goals try ((first | refine ev_fin (And.intro (by first | rfl | simp [AV.pure, pureL]) ?_) | refine ev_fin0 (And.intro (by first | rfl | simp [AV.pure, pureL]) ?_)); first | rfl | (simp [ordC, setK, Bool.cond_eq_ite, *]; done) | (simp [ordC, setK, Bool.cond_eq_ite, *]; omega) | (unfold ordC setK; repeat' split; all_goals first | rfl | (exfalso; omega) | (simp_all; done) | (simp_all; omega)))
  | x :: r, done, p, T, H, c, n, e, hn, hp => by
    have hd : s.as.length = done.length + (r.length + 1) := by simp [e]
    have hx : (s.as.map encI)[n.toNat]? = some (encI x) := by simp [e, hn]
    rcases List.eq_nil_or_concat done with rfl | ⟨d, q, rfl⟩
    · obtain rfl : p = none := by simp [hp]
      simp only [List.length_nil] at hn hd
      refine ev_loop' (W_ok 300 _ _ _ _ ?_)
      repeat' ((conv => whnf); first | refine zN ?_ | refine zC ?_ | refine zC4 ?_ | refine zC1 ?_ | refine zC8 ?_ | refine zQ ?_ | refine zR ?_ | refine zS ?_ | refine zA ?_ | refine zM ?_ | refine xr rfl ?_ | refine ai rfl ?_ | refine condT ?_ | refine condF ?_ | refine condG1 ?_ | refine condG0 ?_ | refine cD ?_ | refine dD ?_ | refine cB ?_ | refine dB ?_ | refine cN ?_ | refine dN ?_ | refine cV ?_ | refine dV ?_ | refine cE ?_ | refine dE ?_ | refine condNot ?_ | refine condX0 ?_ | refine condX1 ?_ | refine condAnd ?_ | refine condOr ?_ | refine aO ?_ | refine aB ?_ | refine aR ?_ | refine xr (by assumption) ?_ | refine ai (by assumption) ?_ | refine condD (fun h => ?_) (fun h => ?_) | refine condB (fun h => ?_) (fun h => ?_) | refine condN (fun h => ?_) (fun h => ?_) | refine condE (fun h => ?_) (fun h => ?_) | refine condV (fun h => ?_) (fun h => ?_))
      rw [show ordC s.kind none (x :: r) = ordC s.kind (some x) r from rfl]
      refine ev_keep [39, 1, 38] [65] ?_; exact ord_loop105 s hl r [x] _ _ _ _ (n + 1) (by simp [e]) (by simp [hn]) rfl
    · obtain rfl : p = some q := by simp [hp]
      simp only [List.concat_eq_append, List.length_append, List.length_singleton] at hn hd
      have hn1 : (n - 1).toNat = d.length := by omega
      have hy : (s.as.map encI)[(n - 1).toNat]? = some (encI q) := by rw [hn1, e]; simp
      refine ev_loop' (W_ok 300 _ _ _ _ ?_)
      repeat' ((conv => whnf); first | refine zN ?_ | refine zC ?_ | refine zC4 ?_ | refine zC1 ?_ | refine zC8 ?_ | refine zQ ?_ | refine zR ?_ | refine zS ?_ | refine zA ?_ | refine zM ?_ | refine xr rfl ?_ | refine ai rfl ?_ | refine condT ?_ | refine condF ?_ | refine condG1 ?_ | refine condG0 ?_ | refine cD ?_ | refine dD ?_ | refine cB ?_ | refine dB ?_ | refine cN ?_ | refine dN ?_ | refine cV ?_ | refine dV ?_ | refine cE ?_ | refine dE ?_ | refine condNot ?_ | refine condX0 ?_ | refine condX1 ?_ | refine condAnd ?_ | refine condOr ?_ | refine aO ?_ | refine aB ?_ | refine aR ?_ | refine xr (by assumption) ?_ | refine ai (by assumption) ?_ | refine condD (fun h => ?_) (fun h => ?_) | refine condB (fun h => ?_) (fun h => ?_) | refine condN (fun h => ?_) (fun h => ?_) | refine condE (fun h => ?_) (fun h => ?_) | refine condV (fun h => ?_) (fun h => ?_))
      all_goals refine callF [(111, _, .vec 1 [encI 1, encI 4])] ⟨rfl, rfl, trivial⟩ rfl (by simp) rfl (by simp [renL, AV.ren, φF, encI, encU, kloc, Nat.beq_refl]) (among1 s.kind) rfl ?_
      repeat' ((conv => whnf); first | refine zN ?_ | refine zC ?_ | refine zC4 ?_ | refine zC1 ?_ | refine zC8 ?_ | refine zQ ?_ | refine zR ?_ | refine zS ?_ | refine zA ?_ | refine zM ?_ | refine xr rfl ?_ | refine ai rfl ?_ | refine condT ?_ | refine condF ?_ | refine condG1 ?_ | refine condG0 ?_ | refine cD ?_ | refine dD ?_ | refine cB ?_ | refine dB ?_ | refine cN ?_ | refine dN ?_ | refine cV ?_ | refine dV ?_ | refine cE ?_ | refine dE ?_ | refine condNot ?_ | refine condX0 ?_ | refine condX1 ?_ | refine condAnd ?_ | refine condOr ?_ | refine aO ?_ | refine aB ?_ | refine aR ?_ | refine xr (by assumption) ?_ | refine ai (by assumption) ?_ | refine condD (fun h => ?_) (fun h => ?_) | refine condB (fun h => ?_) (fun h => ?_) | refine condN (fun h => ?_) (fun h => ?_) | refine condE (fun h => ?_) (fun h => ?_) | refine condV (fun h => ?_) (fun h => ?_))
      all_goals try ((first | refine ev_fin (And.intro (by first | rfl | simp [AV.pure, pureL]) ?_) | refine ev_fin0 (And.intro (by first | rfl | simp [AV.pure, pureL]) ?_)); first | rfl | (simp [ordC, setK, Bool.cond_eq_ite, *]; done) | (simp [ordC, setK, Bool.cond_eq_ite, *]; omega) | (unfold ordC setK; repeat' split; all_goals first | rfl | (exfalso; omega) | (simp_all; done) | (simp_all; omega)))
      all_goals (rw [show ordC s.kind (some q) (x :: r) = ordC s.kind (some x) r from by simp [ordC, setK, *]]; refine ev_keep [39, 1, 38] [65] ?_; exact ord_loop105 s hl r (d ++ [q] ++ [x]) _ _ _ _ (n + 1) (by simp [e]) (by simp [hn] <;> omega) (by simp))
end Go.AM.IR
set_option maxHeartbeats 4000000
set_option maxRecDepth 20000
namespace Go.AM.IR
theorem rng_loop105 (l : List Int) (s : Seg) (hs : s.as = l) (hl : l.length < 2 ^ 40) (ln : Int) (hln : ln = l.length) : ∀ (rest done : List Int)  (T : List (Nat × AV)) (H : Heap) (c : Nat) (n : Int) (e : l = done ++ rest) (hn : n = done.length) , Ev G ⟨f105x13LH, ⟨(23, .sl 1 (l.map encI)) :: (24, .int .i64 ln) :: (25, .int .i64 n) :: (1, .ref 65 1 0) :: T, (65, some (1, .cells s.enc)) :: H, c⟩, [.t 2], 0⟩ ⟨.int .i64 (if rngS rest = false then 5 else if ordC s.kind none l = false then 16 else 0), []⟩
  | [], done,  T, H, c, n, e, hn => by
    have hd : l.length = done.length := by simp [e]
    have hll : (l.map encI).length = l.length := by simp
    subst hs
    refine ev_loop' (W_ok 300 _ _ _ _ ?_)
    repeat' ((conv => whnf); first | refine zN ?_ | refine zC ?_ | refine zC4 ?_ | refine zC1 ?_ | refine zC8 ?_ | refine zQ ?_ | refine zR ?_ | refine zS ?_ | refine zA ?_ | refine zM ?_ | refine xr rfl ?_ | refine ai rfl ?_ | refine condT ?_ | refine condF ?_ | refine condG1 ?_ | refine condG0 ?_ | refine cD ?_ | refine dD ?_ | refine cB ?_ | refine dB ?_ | refine cN ?_ | refine dN ?_ | refine cV ?_ | refine dV ?_ | refine cE ?_ | refine dE ?_ | refine condNot ?_ | refine condX0 ?_ | refine condX1 ?_ | refine condAnd ?_ | refine condOr ?_ | refine aO ?_ | refine aB ?_ | refine aR ?_ | refine xr (by assumption) ?_ | refine ai (by assumption) ?_ | refine condD (fun h => ?_) (fun h => ?_) | refine condB (fun h => ?_) (fun h => ?_) | refine condN (fun h => ?_) (fun h => ?_) | refine condE (fun h => ?_) (fun h => ?_) | refine condV (fun h => ?_) (fun h => ?_))
    refine ev_keep [39, 1, 38] [65] ?_
    rw [show (if rngS [] = false then (5 : Int) else if ordC s.kind none s.as = false then 16 else 0) = if ordC s.kind none s.as = false then 16 else 0 from by simp [rngS]]
    simp only [List.length_map]
    exact ord_loop105 s hl s.as [] none _ _ _ 0 rfl rfl rfl
  | x :: r, done,  T, H, c, n, e, hn => by
    have hd : l.length = done.length + (r.length + 1) := by simp [e]
    have hll : (l.map encI).length = l.length := by simp
    have hx : (l.map encI)[n.toNat]? = some (encI x) := by simp [e, hn]
    refine ev_loop' (W_ok 300 _ _ _ _ ?_)
    repeat' ((conv => whnf); first | refine zN ?_ | refine zC ?_ | refine zC4 ?_ | refine zC1 ?_ | refine zC8 ?_ | refine zQ ?_ | refine zR ?_ | refine zS ?_ | refine zA ?_ | refine zM ?_ | refine xr rfl ?_ | refine ai rfl ?_ | refine condT ?_ | refine condF ?_ | refine condG1 ?_ | refine condG0 ?_ | refine cD ?_ | refine dD ?_ | refine cB ?_ | refine dB ?_ | refine cN ?_ | refine dN ?_ | refine cV ?_ | refine dV ?_ | refine cE ?_ | refine dE ?_ | refine condNot ?_ | refine condX0 ?_ | refine condX1 ?_ | refine condAnd ?_ | refine condOr ?_ | refine aO ?_ | refine aB ?_ | refine aR ?_ | refine xr (by assumption) ?_ | refine ai (by assumption) ?_ | refine condD (fun h => ?_) (fun h => ?_) | refine condB (fun h => ?_) (fun h => ?_) | refine condN (fun h => ?_) (fun h => ?_) | refine condE (fun h => ?_) (fun h => ?_) | refine condV (fun h => ?_) (fun h => ?_))
    all_goals try ((first | refine ev_fin (And.intro (by first | rfl | simp [AV.pure, pureL]) ?_) | refine ev_fin0 (And.intro (by first | rfl | simp [AV.pure, pureL]) ?_)); first | rfl | (simp [rngS, Bool.cond_eq_ite, *]; done) | (simp [rngS, Bool.cond_eq_ite, *]; omega) | (unfold rngS; repeat' split; all_goals first | rfl | (exfalso; omega) | (simp_all; done) | (simp_all; omega)))
    rw [show rngS (x :: r) = rngS r from by simp [rngS]; omega]
    refine ev_keep [23, 24, 25, 1] [65] ?_; exact rng_loop105 l s hs hl ln hln r (done ++ [x])  _ _ _ (n + 1) (by simp [e]) (by simp [hn] <;> omega) 
theorem segment_gives105 (s : Seg) (hl : s.as.length < 2 ^ 40) : Gives G 105 [.agg s.enc] [] ⟨.int .i64 (segE s), []⟩ := by
  have ll : (s.as.map encI).length = s.as.length := by simp
  refine gives_code (F := f105) rfl rfl (W_ok 300 _ _ _ _ ?_)
  repeat' ((conv => whnf); first | refine zN ?_ | refine zC ?_ | refine zC4 ?_ | refine zC1 ?_ | refine zC8 ?_ | refine zQ ?_ | refine zR ?_ | refine zS ?_ | refine zA ?_ | refine zM ?_ | refine xr rfl ?_ | refine ai rfl ?_ | refine condT ?_ | refine condF ?_ | refine condG1 ?_ | refine condG0 ?_ | refine cD ?_ | refine dD ?_ | refine cB ?_ | refine dB ?_ | refine cN ?_ | refine dN ?_ | refine cV ?_ | refine dV ?_ | refine cE ?_ | refine dE ?_ | refine condNot ?_ | refine condX0 ?_ | refine condX1 ?_ | refine condAnd ?_ | refine condOr ?_ | refine aO ?_ | refine aB ?_ | refine aR ?_ | refine xr (by assumption) ?_ | refine ai (by assumption) ?_ | refine callF [(73, _, .vec 1 [encI 1, encI 2, encI 3, encI 4])] ⟨rfl, rfl, trivial⟩ rfl (by simp) rfl (by simp [renL, AV.ren, φF, encI, encU, kloc, Nat.beq_refl]) (among2 s.kind) rfl ?_ | refine condD (fun h => ?_) (fun h => ?_) | refine condB (fun h => ?_) (fun h => ?_) | refine condN (fun h => ?_) (fun h => ?_) | refine condE (fun h => ?_) (fun h => ?_) | refine condV (fun h => ?_) (fun h => ?_))
  all_goals try ((first | refine ev_fin (And.intro (by first | rfl | simp [AV.pure, pureL]) ?_) | refine ev_fin0 (And.intro (by first | rfl | simp [AV.pure, pureL]) ?_)); first | rfl | (simp [segE, Bool.cond_eq_ite, *]; done) | (simp [segE, Bool.cond_eq_ite, *]; omega) | (unfold segE; repeat' split; all_goals first | rfl | (exfalso; omega) | (simp_all; done) | (simp_all; omega)))
  rw [show segE s = (if rngS s.as = false then 5 else if ordC s.kind none s.as = false then 16 else 0) from by unfold segE; rw [if_neg (by omega), if_neg (by omega), if_neg (by omega)]]
  refine ev_keep [23, 24, 25, 1] [65] ?_
  exact rng_loop105 s.as s rfl hl _ (by simp) s.as [] _ _ _ 0 rfl rfl
def joinC : Option Seg → Seg → Bool
  | some q, s => (decide (s.kind = 2 ∨ s.kind = 3) && (q.kind == s.kind)) && decide (q.as.length < 255)
  | none, _ => false
def pathC (pl : Bool) (prev : Option Seg) : List Seg → Int
  | [] => 0
  | s :: r => if segE s ≠ 0 then segE s else if (confK s.kind && pl) = true then 1 else if joinC prev s = true then 1 else pathC (pl || !confK s.kind) (some s) r
def pathE (p : List Seg) : Int := if p.length > 64 then 4 else pathC false none p
theorem pathC_next {pl : Bool} {p : Option Seg} {x : Seg} {r : List Seg} (h1 : segE x = 0) (h2 : (confK x.kind && pl) = false) (h3 : joinC p x = false) : pathC pl p (x :: r) = pathC (pl || !confK x.kind) (some x) r := by
  rw [pathC, if_neg (by simp [h1]), if_neg (by simp [h2]), if_neg (by simp [h3])]
theorem check_loop75 (l : List Seg) (hs : ∀ s ∈ l, s.as.length < 2 ^ 40) (hl : l.length < 2 ^ 40) (ln : Int) (hln : ln = l.length) : ∀ (rest done : List Seg) (pl pS : Bool) (p : Option Seg) (T : List (Nat × AV)) (H : Heap) (c : Nat) (n : Int) (e : l = done ++ rest) (hn : n = done.length) (hpl : pl = pS) (hp : p = done.getLast?), Ev G ⟨f75x16LH, ⟨(10, .sl 2 (l.map Seg.enc)) :: (11, .int .i64 ln) :: (12, .int .i64 n) :: (3, .bool pl) :: (0, .sl 2 (l.map Seg.enc)) :: T, H, c⟩, [.t 2], 0⟩ ⟨.int .i64 (pathC pS p rest), []⟩
  | [], done, pl, pS, p, T, H, c, n, e, hn, hpl, hp => by
    have hd : l.length = done.length := by simp [e]
    have hll : (l.map Seg.enc).length = l.length := by simp
    refine ev_loop' (W_ok 300 _ _ _ _ ?_)
    repeat' ((conv => whnf); first | refine zN ?_ | refine zC ?_ | refine zC4 ?_ | refine zC1 ?_ | refine zC8 ?_ | refine zQ ?_ | refine zR ?_ | refine zS ?_ | refine zA ?_ | refine zM ?_ | refine xr rfl ?_ | refine ai rfl ?_ | refine condT ?_ | refine condF ?_ | refine condG1 ?_ | refine condG0 ?_ | refine cD ?_ | refine dD ?_ | refine cB ?_ | refine dB ?_ | refine cN ?_ | refine dN ?_ | refine cV ?_ | refine dV ?_ | refine cE ?_ | refine dE ?_ | refine condNot ?_ | refine condX0 ?_ | refine condX1 ?_ | refine condAnd ?_ | refine condOr ?_ | refine aO ?_ | refine aB ?_ | refine aR ?_ | refine xr (by assumption) ?_ | refine ai (by assumption) ?_ | refine condD (fun h => ?_) (fun h => ?_) | refine condB (fun h => ?_) (fun h => ?_) | refine condN (fun h => ?_) (fun h => ?_) | refine condE (fun h => ?_) (fun h => ?_) | refine condV (fun h => ?_) (fun h => ?_))
    all_goals try ((first | refine ev_fin (And.intro (by first | rfl | simp [AV.pure, pureL]) ?_) | refine ev_fin0 (And.intro (by first | rfl | simp [AV.pure, pureL]) ?_)); first | rfl | (simp [pathC, Bool.cond_eq_ite, *]; done) | (simp [pathC, Bool.cond_eq_ite, *]; omega) | (unfold pathC; repeat' split; all_goals first | rfl | (exfalso; omega) | (simp_all; done) | (simp_all; omega)))
  | x :: r, done, pl, pS, p, T, H, c, n, e, hn, hpl, hp => by
    have hd : l.length = done.length + (r.length + 1) := by simp [e]
    have hll : (l.map Seg.enc).length = l.length := by simp
    have hx : (l.map Seg.enc)[n.toNat]? = some (Seg.enc x) := by simp [e, hn]
    subst hpl
    have hsx := hs x (by simp [e])
    have hxl : (x.as.map encI).length = x.as.length := by simp
    rcases List.eq_nil_or_concat done with rfl | ⟨d, q, rfl⟩
    · obtain rfl : p = none := by simp [hp]
      simp only [List.length_nil] at hn hd
      refine ev_loop' (W_ok 300 _ _ _ _ ?_)
      repeat' ((conv => whnf); first | refine zN ?_ | refine zC ?_ | refine zC4 ?_ | refine zC1 ?_ | refine zC8 ?_ | refine zQ ?_ | refine zR ?_ | refine zS ?_ | refine zA ?_ | refine zM ?_ | refine xr rfl ?_ | refine ai rfl ?_ | refine condT ?_ | refine condF ?_ | refine condG1 ?_ | refine condG0 ?_ | refine cD ?_ | refine dD ?_ | refine cB ?_ | refine dB ?_ | refine cN ?_ | refine dN ?_ | refine cV ?_ | refine dV ?_ | refine cE ?_ | refine dE ?_ | refine condNot ?_ | refine condX0 ?_ | refine condX1 ?_ | refine condAnd ?_ | refine condOr ?_ | refine aO ?_ | refine aB ?_ | refine aR ?_ | refine xr (by assumption) ?_ | refine ai (by assumption) ?_ | refine callV (segment_gives105 x hsx) (by simp [pureL, AV.pure]) (by simp [AV.dry, dryL]) ?_ | refine callV (confed_gives106 x.kind) (by simp [pureL, AV.pure]) (by simp [AV.dry, dryL]) ?_ | refine condD (fun h => ?_) (fun h => ?_) | refine condB (fun h => ?_) (fun h => ?_) | refine condN (fun h => ?_) (fun h => ?_) | refine condE (fun h => ?_) (fun h => ?_) | refine condV (fun h => ?_) (fun h => ?_))
      all_goals try ((first | refine ev_fin (And.intro (by first | rfl | simp [AV.pure, pureL]) ?_) | refine ev_fin0 (And.intro (by first | rfl | simp [AV.pure, pureL]) ?_)); first | rfl | (simp [pathC, joinC, Bool.cond_eq_ite, *]; done) | (simp [pathC, joinC, Bool.cond_eq_ite, *]; omega) | (unfold pathC joinC; repeat' split; all_goals first | rfl | (exfalso; omega) | (simp_all; done) | (simp_all; omega)))
      all_goals (rw [pathC_next (by assumption) (by simp [*]) (by simp [joinC, *])]; refine ev_keep [10, 11, 12, 3, 0] [] ?_; exact check_loop75 l hs hl ln hln r [x] _ _ (some x) _ _ _ (n + 1) (by simp [e]) (by simp [hn] <;> omega) (by simp [*]) (by simp))
    · obtain rfl : p = some q := by simp [hp]
      simp only [List.concat_eq_append, List.length_append, List.length_singleton] at hn hd
      have hn1 : (n - 1).toNat = d.length := by omega
      have hy : (l.map Seg.enc)[(n - 1).toNat]? = some (Seg.enc q) := by rw [hn1, e]; simp
      have hql : (q.as.map encI).length = q.as.length := by simp
      refine ev_loop' (W_ok 300 _ _ _ _ ?_)
      repeat' ((conv => whnf); first | refine zN ?_ | refine zC ?_ | refine zC4 ?_ | refine zC1 ?_ | refine zC8 ?_ | refine zQ ?_ | refine zR ?_ | refine zS ?_ | refine zA ?_ | refine zM ?_ | refine xr rfl ?_ | refine ai rfl ?_ | refine condT ?_ | refine condF ?_ | refine condG1 ?_ | refine condG0 ?_ | refine cD ?_ | refine dD ?_ | refine cB ?_ | refine dB ?_ | refine cN ?_ | refine dN ?_ | refine cV ?_ | refine dV ?_ | refine cE ?_ | refine dE ?_ | refine condNot ?_ | refine condX0 ?_ | refine condX1 ?_ | refine condAnd ?_ | refine condOr ?_ | refine aO ?_ | refine aB ?_ | refine aR ?_ | refine xr (by assumption) ?_ | refine ai (by assumption) ?_ | refine callV (segment_gives105 x hsx) (by simp [pureL, AV.pure]) (by simp [AV.dry, dryL]) ?_ | refine callV (confed_gives106 x.kind) (by simp [pureL, AV.pure]) (by simp [AV.dry, dryL]) ?_ | refine callF [(97, _, .vec 1 [encI 2, encI 3])] ⟨rfl, rfl, trivial⟩ rfl (by simp) rfl (by simp [renL, AV.ren, φF, encI, encU, kloc, Nat.beq_refl]) (among3 x.kind) rfl ?_ | refine condD (fun h => ?_) (fun h => ?_) | refine condB (fun h => ?_) (fun h => ?_) | refine condN (fun h => ?_) (fun h => ?_) | refine condE (fun h => ?_) (fun h => ?_) | refine condV (fun h => ?_) (fun h => ?_))
      all_goals try ((first | refine ev_fin (And.intro (by first | rfl | simp [AV.pure, pureL]) ?_) | refine ev_fin0 (And.intro (by first | rfl | simp [AV.pure, pureL]) ?_)); first | rfl | (simp [pathC, joinC, Bool.cond_eq_ite, *]; done) | (simp [pathC, joinC, Bool.cond_eq_ite, *]; omega) | (unfold pathC joinC; repeat' split; all_goals first | rfl | (exfalso; omega) | (simp_all; done) | (simp_all; omega)))
      all_goals (rw [pathC_next (by assumption) (by simp [*]) (by simp [joinC, *] <;> omega)]; refine ev_keep [10, 11, 12, 3, 0] [] ?_; exact check_loop75 l hs hl ln hln r (d ++ [q] ++ [x]) _ _ (some x) _ _ _ (n + 1) (by simp [e]) (by simp [hn] <;> omega) (by simp [*]) (by simp))
theorem check_gives75 (l : List Seg) (hl : l.length < 2 ^ 40) (hs : ∀ s ∈ l, s.as.length < 2 ^ 40) : Gives G 75 [.sl 2 (l.map Seg.enc)] [] ⟨.int .i64 (pathE l), []⟩ := by
  have ll : (l.map Seg.enc).length = l.length := by simp
  refine gives_code (F := f75) rfl rfl (W_ok 300 _ _ _ _ ?_)
  repeat' ((conv => whnf); first | refine zN ?_ | refine zC ?_ | refine zC4 ?_ | refine zC1 ?_ | refine zC8 ?_ | refine zQ ?_ | refine zR ?_ | refine zS ?_ | refine zA ?_ | refine zM ?_ | refine xr rfl ?_ | refine ai rfl ?_ | refine condT ?_ | refine condF ?_ | refine condG1 ?_ | refine condG0 ?_ | refine cD ?_ | refine dD ?_ | refine cB ?_ | refine dB ?_ | refine cN ?_ | refine dN ?_ | refine cV ?_ | refine dV ?_ | refine cE ?_ | refine dE ?_ | refine condNot ?_ | refine condX0 ?_ | refine condX1 ?_ | refine condAnd ?_ | refine condOr ?_ | refine aO ?_ | refine aB ?_ | refine aR ?_ | refine xr (by assumption) ?_ | refine ai (by assumption) ?_ | refine condD (fun h => ?_) (fun h => ?_) | refine condB (fun h => ?_) (fun h => ?_) | refine condN (fun h => ?_) (fun h => ?_) | refine condE (fun h => ?_) (fun h => ?_) | refine condV (fun h => ?_) (fun h => ?_))
  all_goals try ((first | refine ev_fin (And.intro (by first | rfl | simp [AV.pure, pureL]) ?_) | refine ev_fin0 (And.intro (by first | rfl | simp [AV.pure, pureL]) ?_)); first | rfl | (simp [pathE, Bool.cond_eq_ite, *]; done) | (simp [pathE, Bool.cond_eq_ite, *]; omega) | (unfold pathE; repeat' split; all_goals first | rfl | (exfalso; omega) | (simp_all; done) | (simp_all; omega)))
  rw [show pathE l = pathC false none l from by simp [pathE]; omega]
  refine ev_keep [10, 11, 12, 3, 0] [] ?_
  exact check_loop75 l hs hl _ (by simp) l [] _ _ _ _ _ _ 0 rfl rfl rfl rfl
end Go.AM.IR
set_option maxHeartbeats 4000000
set_option maxRecDepth 20000
namespace Go.AM.IR
def joinR : Option Seg → Seg → Bool
  | some q, s => (!setK s.kind && (q.kind == s.kind)) && decide (q.as.length < 255)
  | none, _ => false
def tailR (dn : List Seg) (s : Seg) : Int := if (confK s.kind && dn.any fun t => !confK t.kind) = true then 1 else if joinR dn.getLast? s = true then 1 else 0
theorem conf_loop108 (dn : List Seg) (l : List Seg) (s : Seg) (rs : List Seg) (g : Nat) (hL : l = dn ++ s :: rs) (hlL : l.length < 2 ^ 40) (hs : ∀ s ∈ l, s.as.length < 2 ^ 40) (hl : dn.length < 2 ^ 40) (ln : Int) (hln : ln = dn.length) : ∀ (rest done : List Seg)  (T : List (Nat × AV)) (H : Heap) (c : Nat) (n : Int) (e : dn = done ++ rest) (hn : n = done.length) , Ev G ⟨f108x28LH, ⟨(74, .sl 2 (dn.map Seg.enc)) :: (75, .int .i64 ln) :: (76, .int .i64 n) :: (1, .int .i64 dn.length) :: (0, .sl 2 (l.map Seg.enc)) :: (5, .ref 69 g 0) :: T, (69, some (g, .cells s.enc)) :: H, c⟩, [.t 4], 0⟩ ⟨.int .i64 (if rest.any (fun t => !confK t.kind) = true then 1 else if joinR dn.getLast? s = true then 1 else 0), []⟩
  | [], done,  T, H, c, n, e, hn => by
    have hd : dn.length = done.length := by simp [e]
    have hll : (dn.map Seg.enc).length = dn.length := by simp
    rw [show (if ([] : List Seg).any (fun t => !confK t.kind) = true then (1 : Int) else if joinR dn.getLast? s = true then 1 else 0) = if joinR dn.getLast? s = true then 1 else 0 from by simp]
    clear e
    have hll2 : (l.map Seg.enc).length = l.length := by simp
    rcases List.eq_nil_or_concat dn with rfl | ⟨d, q, rfl⟩
    · refine ev_loop' (W_ok 300 _ _ _ _ ?_)
      repeat' ((conv => whnf); first | refine zN ?_ | refine zC ?_ | refine zC4 ?_ | refine zC1 ?_ | refine zC8 ?_ | refine zQ ?_ | refine zR ?_ | refine zS ?_ | refine zA ?_ | refine zM ?_ | refine xr rfl ?_ | refine ai rfl ?_ | refine condT ?_ | refine condF ?_ | refine condG1 ?_ | refine condG0 ?_ | refine cD ?_ | refine dD ?_ | refine cB ?_ | refine dB ?_ | refine cN ?_ | refine dN ?_ | refine cV ?_ | refine dV ?_ | refine cE ?_ | refine dE ?_ | refine condNot ?_ | refine condX0 ?_ | refine condX1 ?_ | refine condAnd ?_ | refine condOr ?_ | refine aO ?_ | refine aB ?_ | refine aR ?_ | refine xr (by assumption) ?_ | refine ai (by assumption) ?_ | refine condD (fun h => ?_) (fun h => ?_) | refine condB (fun h => ?_) (fun h => ?_) | refine condN (fun h => ?_) (fun h => ?_) | refine condE (fun h => ?_) (fun h => ?_) | refine condV (fun h => ?_) (fun h => ?_))
      all_goals try ((first | refine ev_fin (And.intro (by first | rfl | simp [AV.pure, pureL]) ?_) | refine ev_fin0 (And.intro (by first | rfl | simp [AV.pure, pureL]) ?_)); first | rfl | (simp [joinR, Bool.cond_eq_ite, *]; done) | (simp [joinR, Bool.cond_eq_ite, *]; omega) | (unfold joinR; repeat' split; all_goals first | rfl | (exfalso; omega) | (simp_all; done) | (simp_all; omega)))
    · have hql : (q.as.map encI).length = q.as.length := by simp
      simp only [List.concat_eq_append, List.length_append, List.length_singleton] at *
      have hy : (l.map Seg.enc)[((d.length + 1 : Nat) - 1 : Int).toNat]? = some (Seg.enc q) := by rw [show ((d.length + 1 : Nat) - 1 : Int).toNat = d.length from by omega, hL]; simp
      rw [List.getLast?_concat]
      have hdl : l.length = d.length + 1 + (rs.length + 1) := by rw [hL]; simp; omega
      have hqs := hs q (by rw [hL]; simp)
      refine ev_loop' (W_ok 300 _ _ _ _ ?_)
      repeat' ((conv => whnf); first | refine zN ?_ | refine zC ?_ | refine zC4 ?_ | refine zC1 ?_ | refine zC8 ?_ | refine zQ ?_ | refine zR ?_ | refine zS ?_ | refine zA ?_ | refine zM ?_ | refine xr rfl ?_ | refine ai rfl ?_ | refine condT ?_ | refine condF ?_ | refine condG1 ?_ | refine condG0 ?_ | refine cD ?_ | refine dD ?_ | refine cB ?_ | refine dB ?_ | refine cN ?_ | refine dN ?_ | refine cV ?_ | refine dV ?_ | refine cE ?_ | refine dE ?_ | refine condNot ?_ | refine condX0 ?_ | refine condX1 ?_ | refine condAnd ?_ | refine condOr ?_ | refine aO ?_ | refine aB ?_ | refine aR ?_ | refine xr (by assumption) ?_ | refine ai (by assumption) ?_ | refine callV (isSet_gives117 s.kind) (by simp [pureL, AV.pure]) (by simp [AV.dry, dryL]) ?_ | refine condD (fun h => ?_) (fun h => ?_) | refine condB (fun h => ?_) (fun h => ?_) | refine condN (fun h => ?_) (fun h => ?_) | refine condE (fun h => ?_) (fun h => ?_) | refine condV (fun h => ?_) (fun h => ?_))
      all_goals try ((first | refine ev_fin (And.intro (by first | rfl | simp [AV.pure, pureL]) ?_) | refine ev_fin0 (And.intro (by first | rfl | simp [AV.pure, pureL]) ?_)); first | rfl | (simp [joinR, Bool.cond_eq_ite, *]; done) | (simp [joinR, Bool.cond_eq_ite, *]; omega) | (unfold joinR; repeat' split; all_goals first | rfl | (exfalso; omega) | (simp_all; done) | (simp_all; omega)))
  | x :: r, done,  T, H, c, n, e, hn => by
    have hd : dn.length = done.length + (r.length + 1) := by simp [e]
    have hll : (dn.map Seg.enc).length = dn.length := by simp
    have hx : (dn.map Seg.enc)[n.toNat]? = some (Seg.enc x) := by simp [e, hn]
    refine ev_loop' (W_ok 300 _ _ _ _ ?_)
    repeat' ((conv => whnf); first | refine zN ?_ | refine zC ?_ | refine zC4 ?_ | refine zC1 ?_ | refine zC8 ?_ | refine zQ ?_ | refine zR ?_ | refine zS ?_ | refine zA ?_ | refine zM ?_ | refine xr rfl ?_ | refine ai rfl ?_ | refine condT ?_ | refine condF ?_ | refine condG1 ?_ | refine condG0 ?_ | refine cD ?_ | refine dD ?_ | refine cB ?_ | refine dB ?_ | refine cN ?_ | refine dN ?_ | refine cV ?_ | refine dV ?_ | refine cE ?_ | refine dE ?_ | refine condNot ?_ | refine condX0 ?_ | refine condX1 ?_ | refine condAnd ?_ | refine condOr ?_ | refine aO ?_ | refine aB ?_ | refine aR ?_ | refine xr (by assumption) ?_ | refine ai (by assumption) ?_ | refine callV (isConf_gives118 x.kind) (by simp [pureL, AV.pure]) (by simp [AV.dry, dryL]) ?_ | refine condD (fun h => ?_) (fun h => ?_) | refine condB (fun h => ?_) (fun h => ?_) | refine condN (fun h => ?_) (fun h => ?_) | refine condE (fun h => ?_) (fun h => ?_) | refine condV (fun h => ?_) (fun h => ?_))
    all_goals try ((first | refine ev_fin (And.intro (by first | rfl | simp [AV.pure, pureL]) ?_) | refine ev_fin0 (And.intro (by first | rfl | simp [AV.pure, pureL]) ?_)); first | rfl | (simp [Bool.cond_eq_ite, *]; done) | (simp [Bool.cond_eq_ite, *]; omega))
    rw [show (x :: r).any (fun t => !confK t.kind) = r.any (fun t => !confK t.kind) from by simp [*]]
    refine ev_keep [74, 75, 76, 1, 0, 5] [69] ?_; exact conf_loop108 dn l s rs g hL hlL hs hl ln hln r (done ++ [x])  _ _ _ (n + 1) (by simp [e]) (by simp [hn] <;> omega) 
theorem ord_loop108 (l : List Seg) (s : Seg) (dn rs : List Seg) (g : Nat) (hL : l = dn ++ s :: rs) (hlL : l.length < 2 ^ 40) (hs : ∀ s ∈ l, s.as.length < 2 ^ 40) : ∀ (rest done : List Int) (p : Int) (T : List (Nat × AV)) (H : Heap) (c : Nat) (n : Int) (e : s.as = done ++ p :: rest) (hn : n = done.length + 1),
   Ev G ⟨f108x20LH, ⟨(8, .int .i64 n) :: (5, .ref 69 g 0) :: (1, .int .i64 dn.length) :: (0, .sl 2 (l.map Seg.enc)) :: T, (69, some (g, .cells s.enc)) :: H, c⟩, [.t 4], 0⟩ ⟨.int .i64 (if ordC s.kind (some p) rest = false then 16 else tailR dn s), []⟩
  | [], done, p, T, H, c, n, e, hn => by
    have hsl := hs s (by rw [hL]; simp)
    have hd : s.as.length = done.length + 1 := by simp [e]
    have ll : (s.as.map encI).length = s.as.length := by simp
    have hll2 : (l.map Seg.enc).length = l.length := by simp
    have hdl : l.length = dn.length + (rs.length + 1) := by rw [hL]; simp
    have hslice : ((l.map Seg.enc).drop 0).take ((dn.length : Int).toNat - 0) = dn.map Seg.enc := by rw [hL]; simp
    rw [show (if ordC s.kind (some p) [] = false then 16 else tailR dn s) = tailR dn s from by simp [ordC]]
    clear e
    rcases List.eq_nil_or_concat dn with rfl | ⟨d, q, rfl⟩
    · refine ev_loop' (W_ok 300 _ _ _ _ ?_)
      repeat' ((conv => whnf); first | refine zN ?_ | refine zC ?_ | refine zC4 ?_ | refine zC1 ?_ | refine zC8 ?_ | refine zQ ?_ | refine zR ?_ | refine zS ?_ | refine zA ?_ | refine zM ?_ | refine xr rfl ?_ | refine ai rfl ?_ | refine condT ?_ | refine condF ?_ | refine condG1 ?_ | refine condG0 ?_ | refine cD ?_ | refine dD ?_ | refine cB ?_ | refine dB ?_ | refine cN ?_ | refine dN ?_ | refine cV ?_ | refine dV ?_ | refine cE ?_ | refine dE ?_ | refine condNot ?_ | refine condX0 ?_ | refine condX1 ?_ | refine condAnd ?_ | refine condOr ?_ | refine aO ?_ | refine aB ?_ | refine aR ?_ | refine xr (by assumption) ?_ | refine ai (by assumption) ?_ | refine callV (isConf_gives118 s.kind) (by simp [pureL, AV.pure]) (by simp [AV.dry, dryL]) ?_ | refine condD (fun h => ?_) (fun h => ?_) | refine condB (fun h => ?_) (fun h => ?_) | refine condN (fun h => ?_) (fun h => ?_) | refine condE (fun h => ?_) (fun h => ?_) | refine condV (fun h => ?_) (fun h => ?_))
      all_goals try ((first | refine ev_fin (And.intro (by first | rfl | simp [AV.pure, pureL]) ?_) | refine ev_fin0 (And.intro (by first | rfl | simp [AV.pure, pureL]) ?_)); first | rfl | (simp [tailR, joinR, Bool.cond_eq_ite, *]; done) | (simp [tailR, joinR, Bool.cond_eq_ite, *]; omega) | (unfold tailR joinR; repeat' split; all_goals first | rfl | (exfalso; omega) | (simp_all; done) | (simp_all; omega)))
      refine ev_keep [74, 75, 76, 1, 0, 5] [69] ?_
      refine (?_ : Ev G _ _)
      rw [hslice, show tailR [] s = 0 from by simp [tailR, joinR]]
      exact conf_loop108 [] l s rs g hL hlL hs (by simp) _ rfl [] [] _ _ _ 0 rfl rfl
    · have hql : (q.as.map encI).length = q.as.length := by simp
      simp only [List.concat_eq_append, List.length_append, List.length_singleton] at *
      have hy : (l.map Seg.enc)[((d.length + 1 : Nat) - 1 : Int).toNat]? = some (Seg.enc q) := by rw [show ((d.length + 1 : Nat) - 1 : Int).toNat = d.length from by omega, hL]; simp
      have hqs := hs q (by rw [hL]; simp)
      refine ev_loop' (W_ok 300 _ _ _ _ ?_)
      repeat' ((conv => whnf); first | refine zN ?_ | refine zC ?_ | refine zC4 ?_ | refine zC1 ?_ | refine zC8 ?_ | refine zQ ?_ | refine zR ?_ | refine zS ?_ | refine zA ?_ | refine zM ?_ | refine xr rfl ?_ | refine ai rfl ?_ | refine condT ?_ | refine condF ?_ | refine condG1 ?_ | refine condG0 ?_ | refine cD ?_ | refine dD ?_ | refine cB ?_ | refine dB ?_ | refine cN ?_ | refine dN ?_ | refine cV ?_ | refine dV ?_ | refine cE ?_ | refine dE ?_ | refine condNot ?_ | refine condX0 ?_ | refine condX1 ?_ | refine condAnd ?_ | refine condOr ?_ | refine aO ?_ | refine aB ?_ | refine aR ?_ | refine xr (by assumption) ?_ | refine ai (by assumption) ?_ | refine callV (isConf_gives118 s.kind) (by simp [pureL, AV.pure]) (by simp [AV.dry, dryL]) ?_ | refine callV (isSet_gives117 s.kind) (by simp [pureL, AV.pure]) (by simp [AV.dry, dryL]) ?_ | refine condD (fun h => ?_) (fun h => ?_) | refine condB (fun h => ?_) (fun h => ?_) | refine condN (fun h => ?_) (fun h => ?_) | refine condE (fun h => ?_) (fun h => ?_) | refine condV (fun h => ?_) (fun h => ?_))
      all_goals try ((first | refine ev_fin (And.intro (by first | rfl | simp [AV.pure, pureL]) ?_) | refine ev_fin0 (And.intro (by first | rfl | simp [AV.pure, pureL]) ?_)); first | rfl | (simp [tailR, joinR, Bool.cond_eq_ite, *]; done) | (simp [tailR, joinR, Bool.cond_eq_ite, *]; omega) | (unfold tailR joinR; repeat' split; all_goals first | rfl | (exfalso; omega) | (simp_all; done) | (simp_all; omega)))
      refine ev_keep [74, 75, 76, 1, 0, 5] [69] ?_
      refine (?_ : Ev G _ _)
      rw [hslice, show tailR (d ++ [q]) s = if (d ++ [q]).any (fun t => !confK t.kind) = true then 1 else if joinR (d ++ [q]).getLast? s = true then 1 else 0 from by unfold tailR; simp only [*, Bool.true_and]]
      rw [show d.length + 1 = (d ++ [q]).length from by simp]
      exact conf_loop108 (d ++ [q]) l s rs g hL hlL hs (by simp; omega) _ (by simp) (d ++ [q]) [] _ _ _ 0 rfl rfl
  | x :: r, done, p, T, H, c, n, e, hn => by
    have hsl := hs s (by rw [hL]; simp)
    have hd : s.as.length = done.length + (r.length + 2) := by simp [e]
    have ll : (s.as.map encI).length = s.as.length := by simp
    have hn1 : (n - 1).toNat = done.length := by omega
    have hn0 : n.toNat = done.length + 1 := by omega
    have hx : (s.as.map encI)[n.toNat]? = some (encI x) := by rw [hn0, e]; simp
    have hy : (s.as.map encI)[(n - 1).toNat]? = some (encI p) := by rw [hn1, e]; simp
    refine ev_loop' (W_ok 300 _ _ _ _ ?_)
    repeat' ((conv => whnf); first | refine zN ?_ | refine zC ?_ | refine zC4 ?_ | refine zC1 ?_ | refine zC8 ?_ | refine zQ ?_ | refine zR ?_ | refine zS ?_ | refine zA ?_ | refine zM ?_ | refine xr rfl ?_ | refine ai rfl ?_ | refine condT ?_ | refine condF ?_ | refine condG1 ?_ | refine condG0 ?_ | refine cD ?_ | refine dD ?_ | refine cB ?_ | refine dB ?_ | refine cN ?_ | refine dN ?_ | refine cV ?_ | refine dV ?_ | refine cE ?_ | refine dE ?_ | refine condNot ?_ | refine condX0 ?_ | refine condX1 ?_ | refine condAnd ?_ | refine condOr ?_ | refine aO ?_ | refine aB ?_ | refine aR ?_ | refine xr (by assumption) ?_ | refine ai (by assumption) ?_ | refine callV (isSet_gives117 s.kind) (by simp [pureL, AV.pure]) (by simp [AV.dry, dryL]) ?_ | refine condD (fun h => ?_) (fun h => ?_) | refine condB (fun h => ?_) (fun h => ?_) | refine condN (fun h => ?_) (fun h => ?_) | refine condE (fun h => ?_) (fun h => ?_) | refine condV (fun h => ?_) (fun h => ?_))
    all_goals try ((first | refine ev_fin (And.intro (by first | rfl | simp [AV.pure, pureL]) ?_) | refine ev_fin0 (And.intro (by first | rfl | simp [AV.pure, pureL]) ?_)); first | rfl | (simp [ordC, Bool.cond_eq_ite, *]; done) | (simp [ordC, Bool.cond_eq_ite, *]; omega) | (unfold ordC; repeat' split; all_goals first | rfl | (exfalso; omega) | (simp_all; done) | (simp_all; omega)))
    all_goals (rw [show ordC s.kind (some p) (x :: r) = ordC s.kind (some x) r from by simp [ordC, *]]; refine ev_keep [8, 5, 1, 0] [69] ?_; exact ord_loop108 l s dn rs g hL hlL hs r (done ++ [p]) x _ _ _ (n + 1) (by simp [e]) (by simp [hn]))
theorem rng_loop108 (as : List Int) (l : List Seg) (s : Seg) (dn rs : List Seg) (g : Nat) (hL : l = dn ++ s :: rs) (hlL : l.length < 2 ^ 40) (hs : ∀ s ∈ l, s.as.length < 2 ^ 40) (has : s.as = as) (h0 : as.length ≠ 0) (hl : as.length < 2 ^ 40) (ln : Int) (hln : ln = as.length) : ∀ (rest done : List Int)  (T : List (Nat × AV)) (H : Heap) (c : Nat) (n : Int) (e : as = done ++ rest) (hn : n = done.length) , Ev G ⟨f108x14LH, ⟨(32, .sl 1 (as.map encI)) :: (33, .int .i64 ln) :: (34, .int .i64 n) :: (5, .ref 69 g 0) :: (1, .int .i64 dn.length) :: (0, .sl 2 (l.map Seg.enc)) :: T, (69, some (g, .cells s.enc)) :: H, c⟩, [.t 4], 0⟩ ⟨.int .i64 (if rngS rest = false then 5 else if ordC s.kind none as = false then 16 else tailR dn s), []⟩
  | [], done,  T, H, c, n, e, hn => by
    have hd : as.length = done.length := by simp [e]
    have hll : (as.map encI).length = as.length := by simp
    subst has
    rw [show (if rngS [] = false then (5 : Int) else if ordC s.kind none s.as = false then 16 else tailR dn s) = if ordC s.kind none s.as = false then 16 else tailR dn s from by simp [rngS]]
    refine ev_loop' (W_ok 300 _ _ _ _ ?_)
    repeat' ((conv => whnf); first | refine zN ?_ | refine zC ?_ | refine zC4 ?_ | refine zC1 ?_ | refine zC8 ?_ | refine zQ ?_ | refine zR ?_ | refine zS ?_ | refine zA ?_ | refine zM ?_ | refine xr rfl ?_ | refine ai rfl ?_ | refine condT ?_ | refine condF ?_ | refine condG1 ?_ | refine condG0 ?_ | refine cD ?_ | refine dD ?_ | refine cB ?_ | refine dB ?_ | refine cN ?_ | refine dN ?_ | refine cV ?_ | refine dV ?_ | refine cE ?_ | refine dE ?_ | refine condNot ?_ | refine condX0 ?_ | refine condX1 ?_ | refine condAnd ?_ | refine condOr ?_ | refine aO ?_ | refine aB ?_ | refine aR ?_ | refine xr (by assumption) ?_ | refine ai (by assumption) ?_ | refine condD (fun h => ?_) (fun h => ?_) | refine condB (fun h => ?_) (fun h => ?_) | refine condN (fun h => ?_) (fun h => ?_) | refine condE (fun h => ?_) (fun h => ?_) | refine condV (fun h => ?_) (fun h => ?_))
    refine ev_keep [8, 5, 1, 0] [69] ?_
    have hne : s.as ≠ [] := fun q => h0 (by rw [q]; rfl)
    obtain ⟨p, r, hpr⟩ := List.exists_cons_of_ne_nil hne
    rw [show ordC s.kind none s.as = ordC s.kind (some p) r from by rw [hpr]; rfl]
    exact ord_loop108 l s dn rs g hL hlL hs r [] p _ _ _ 1 hpr rfl
  | x :: r, done,  T, H, c, n, e, hn => by
    have hd : as.length = done.length + (r.length + 1) := by simp [e]
    have hll : (as.map encI).length = as.length := by simp
    have hx : (as.map encI)[n.toNat]? = some (encI x) := by simp [e, hn]
    refine ev_loop' (W_ok 300 _ _ _ _ ?_)
    repeat' ((conv => whnf); first | refine zN ?_ | refine zC ?_ | refine zC4 ?_ | refine zC1 ?_ | refine zC8 ?_ | refine zQ ?_ | refine zR ?_ | refine zS ?_ | refine zA ?_ | refine zM ?_ | refine xr rfl ?_ | refine ai rfl ?_ | refine condT ?_ | refine condF ?_ | refine condG1 ?_ | refine condG0 ?_ | refine cD ?_ | refine dD ?_ | refine cB ?_ | refine dB ?_ | refine cN ?_ | refine dN ?_ | refine cV ?_ | refine dV ?_ | refine cE ?_ | refine dE ?_ | refine condNot ?_ | refine condX0 ?_ | refine condX1 ?_ | refine condAnd ?_ | refine condOr ?_ | refine aO ?_ | refine aB ?_ | refine aR ?_ | refine xr (by assumption) ?_ | refine ai (by assumption) ?_ | refine condD (fun h => ?_) (fun h => ?_) | refine condB (fun h => ?_) (fun h => ?_) | refine condN (fun h => ?_) (fun h => ?_) | refine condE (fun h => ?_) (fun h => ?_) | refine condV (fun h => ?_) (fun h => ?_))
    all_goals try ((first | refine ev_fin (And.intro (by first | rfl | simp [AV.pure, pureL]) ?_) | refine ev_fin0 (And.intro (by first | rfl | simp [AV.pure, pureL]) ?_)); first | rfl | (simp [rngS, Bool.cond_eq_ite, *]; done) | (simp [rngS, Bool.cond_eq_ite, *]; omega) | (unfold rngS; repeat' split; all_goals first | rfl | (exfalso; omega) | (simp_all; done) | (simp_all; omega)))
    rw [show rngS (x :: r) = rngS r from by simp [rngS]; omega]
    refine ev_keep [32, 33, 34, 5, 1, 0] [69] ?_; exact rng_loop108 as l s dn rs g hL hlL hs has h0 hl ln hln r (done ++ [x])  _ _ _ (n + 1) (by simp [e]) (by simp [hn] <;> omega) 
def segR (dn : List Seg) (s : Seg) : Int := if segE s ≠ 0 then segE s else tailR dn s
theorem segment_gives108 (l : List Seg) (s : Seg) (dn rs : List Seg) (hL : l = dn ++ s :: rs) (hlL : l.length < 2 ^ 40) (hs : ∀ s ∈ l, s.as.length < 2 ^ 40) : Gives G 108 [.sl 2 (l.map Seg.enc), .int .i64 dn.length] [] ⟨.int .i64 (segR dn s), []⟩ := by
  have hsl := hs s (by rw [hL]; simp)
  have ll : (s.as.map encI).length = s.as.length := by simp
  have hll2 : (l.map Seg.enc).length = l.length := by simp
  have hdl : l.length = dn.length + (rs.length + 1) := by rw [hL]; simp
  have hx : (l.map Seg.enc)[(dn.length : Int).toNat]? = some (Seg.enc s) := by rw [hL]; simp
  refine gives_code (F := f108) rfl rfl (W_ok 300 _ _ _ _ ?_)
  repeat' ((conv => whnf); first | refine zN ?_ | refine zC ?_ | refine zC4 ?_ | refine zC1 ?_ | refine zC8 ?_ | refine zQ ?_ | refine zR ?_ | refine zS ?_ | refine zA ?_ | refine zM ?_ | refine xr rfl ?_ | refine ai rfl ?_ | refine condT ?_ | refine condF ?_ | refine condG1 ?_ | refine condG0 ?_ | refine cD ?_ | refine dD ?_ | refine cB ?_ | refine dB ?_ | refine cN ?_ | refine dN ?_ | refine cV ?_ | refine dV ?_ | refine cE ?_ | refine dE ?_ | refine condNot ?_ | refine condX0 ?_ | refine condX1 ?_ | refine condAnd ?_ | refine condOr ?_ | refine aO ?_ | refine aB ?_ | refine aR ?_ | refine xr (by assumption) ?_ | refine ai (by assumption) ?_ | refine condD (fun h => ?_) (fun h => ?_) | refine condB (fun h => ?_) (fun h => ?_) | refine condN (fun h => ?_) (fun h => ?_) | refine condE (fun h => ?_) (fun h => ?_) | refine condV (fun h => ?_) (fun h => ?_))
  all_goals try ((first | refine ev_fin (And.intro (by first | rfl | simp [AV.pure, pureL]) ?_) | refine ev_fin0 (And.intro (by first | rfl | simp [AV.pure, pureL]) ?_)); first | rfl | (simp [segR, segE, Bool.cond_eq_ite, *]; done) | (simp [segR, segE, Bool.cond_eq_ite, *]; omega) | (unfold segR segE; repeat' split; all_goals first | rfl | (exfalso; omega) | (simp_all; done) | (simp_all; omega)))
  refine ev_keep [32, 33, 34, 5, 1, 0] [69] ?_
  rw [show segR dn s = if rngS s.as = false then 5 else if ordC s.kind none s.as = false then 16 else tailR dn s from by
    unfold segR segE; rw [if_neg (by omega : ¬ (s.kind < 1 ∨ s.kind > 4)), if_neg (by omega : ¬ s.as.length = 0), if_neg (by omega : ¬ s.as.length > 255)]
    by_cases h1 : rngS s.as = false
    · simp [h1]
    · by_cases h2 : ordC s.kind none s.as = false
      · simp [h1, h2]
      · simp [h1, h2]]
  exact rng_loop108 s.as l s dn rs _ hL hlL hs rfl (by omega) hsl _ (by simp) s.as [] _ _ _ 0 rfl rfl
def chkR (dn : List Seg) : List Seg → Int
  | [] => 0
  | s :: r => if segR dn s ≠ 0 then segR dn s else chkR (dn ++ [s]) r
theorem check_loop80 (l : List Seg) (hs : ∀ s ∈ l, s.as.length < 2 ^ 40) (hl : l.length < 2 ^ 40) (ln : Int) (hln : ln = l.length) : ∀ (rest done : List Seg)  (T : List (Nat × AV)) (H : Heap) (c : Nat) (n : Int) (e : l = done ++ rest) (hn : n = done.length) , Ev G ⟨f80x10LH, ⟨(0, .sl 2 (l.map Seg.enc)) :: (9, .int .i64 ln) :: (10, .int .i64 n) :: T, H, c⟩, [.t 2], 0⟩ ⟨.int .i64 (chkR done rest), []⟩
  | [], done,  T, H, c, n, e, hn => by
    have hd : l.length = done.length := by simp [e]
    have hll : (l.map Seg.enc).length = l.length := by simp
    refine ev_loop' (W_ok 300 _ _ _ _ ?_)
    repeat' ((conv => whnf); first | refine zN ?_ | refine zC ?_ | refine zC4 ?_ | refine zC1 ?_ | refine zC8 ?_ | refine zQ ?_ | refine zR ?_ | refine zS ?_ | refine zA ?_ | refine zM ?_ | refine xr rfl ?_ | refine ai rfl ?_ | refine condT ?_ | refine condF ?_ | refine condG1 ?_ | refine condG0 ?_ | refine cD ?_ | refine dD ?_ | refine cB ?_ | refine dB ?_ | refine cN ?_ | refine dN ?_ | refine cV ?_ | refine dV ?_ | refine cE ?_ | refine dE ?_ | refine condNot ?_ | refine condX0 ?_ | refine condX1 ?_ | refine condAnd ?_ | refine condOr ?_ | refine aO ?_ | refine aB ?_ | refine aR ?_ | refine xr (by assumption) ?_ | refine ai (by assumption) ?_ | refine condD (fun h => ?_) (fun h => ?_) | refine condB (fun h => ?_) (fun h => ?_) | refine condN (fun h => ?_) (fun h => ?_) | refine condE (fun h => ?_) (fun h => ?_) | refine condV (fun h => ?_) (fun h => ?_))
    all_goals try ((first | refine ev_fin (And.intro (by first | rfl | simp [AV.pure, pureL]) ?_) | refine ev_fin0 (And.intro (by first | rfl | simp [AV.pure, pureL]) ?_)); first | rfl | (simp [chkR, Bool.cond_eq_ite, *]; done) | (simp [chkR, Bool.cond_eq_ite, *]; omega) | (unfold chkR; repeat' split; all_goals first | rfl | (exfalso; omega) | (simp_all; done) | (simp_all; omega)))
  | x :: r, done,  T, H, c, n, e, hn => by
    have hd : l.length = done.length + (r.length + 1) := by simp [e]
    have hll : (l.map Seg.enc).length = l.length := by simp
    have hx : (l.map Seg.enc)[n.toNat]? = some (Seg.enc x) := by simp [e, hn]
    subst hn
    refine ev_loop' (W_ok 300 _ _ _ _ ?_)
    repeat' ((conv => whnf); first | refine zN ?_ | refine zC ?_ | refine zC4 ?_ | refine zC1 ?_ | refine zC8 ?_ | refine zQ ?_ | refine zR ?_ | refine zS ?_ | refine zA ?_ | refine zM ?_ | refine xr rfl ?_ | refine ai rfl ?_ | refine condT ?_ | refine condF ?_ | refine condG1 ?_ | refine condG0 ?_ | refine cD ?_ | refine dD ?_ | refine cB ?_ | refine dB ?_ | refine cN ?_ | refine dN ?_ | refine cV ?_ | refine dV ?_ | refine cE ?_ | refine dE ?_ | refine condNot ?_ | refine condX0 ?_ | refine condX1 ?_ | refine condAnd ?_ | refine condOr ?_ | refine aO ?_ | refine aB ?_ | refine aR ?_ | refine xr (by assumption) ?_ | refine ai (by assumption) ?_ | refine callV (segment_gives108 l x done r e hl hs) (by simp [pureL, AV.pure]) (by simp [AV.dry, dryL]) ?_ | refine condD (fun h => ?_) (fun h => ?_) | refine condB (fun h => ?_) (fun h => ?_) | refine condN (fun h => ?_) (fun h => ?_) | refine condE (fun h => ?_) (fun h => ?_) | refine condV (fun h => ?_) (fun h => ?_))
    all_goals try ((first | refine ev_fin (And.intro (by first | rfl | simp [AV.pure, pureL]) ?_) | refine ev_fin0 (And.intro (by first | rfl | simp [AV.pure, pureL]) ?_)); first | rfl | (simp [chkR, Bool.cond_eq_ite, *]; done) | (simp [chkR, Bool.cond_eq_ite, *]; omega) | (unfold chkR; repeat' split; all_goals first | rfl | (exfalso; omega) | (simp_all; done) | (simp_all; omega)))
    rw [show chkR done (x :: r) = chkR (done ++ [x]) r from by simp [chkR, *]]
    refine ev_keep [0, 9, 10] [] ?_; exact check_loop80 l hs hl ln hln r (done ++ [x]) _ _ _ _ (by simp [e]) (by simp)
theorem chkR_eq : ∀ (l dn : List Seg), chkR dn l = pathC (dn.any fun t => !confK t.kind) dn.getLast? l
  | [], _ => by simp [chkR, pathC]
  | s :: r, dn => by
    have ih := chkR_eq r (dn ++ [s])
    rw [chkR, pathC]
    by_cases h1 : segE s = 0
    · have hk : s.kind = 1 ∨ s.kind = 2 ∨ s.kind = 3 ∨ s.kind = 4 := by
        unfold segE at h1
        split at h1
        · omega
        · omega
      have hj : joinR dn.getLast? s = joinC dn.getLast? s := by
        cases dn.getLast? with
        | none => rfl
        | some q =>
          unfold joinR joinC setK
          rcases hk with h | h | h | h <;> simp [h]
      have e1 : segR dn s = tailR dn s := by unfold segR; rw [if_neg (by simp [h1])]
      rw [e1]
      unfold tailR
      rw [hj, if_neg (by simp [h1] : ¬ segE s ≠ 0)]
      by_cases h2 : (confK s.kind && dn.any fun t => !confK t.kind) = true
      · simp [h2]
      · rw [if_neg h2, if_neg h2]
        by_cases h3 : joinC dn.getLast? s = true
        · simp [h3]
        · rw [if_neg h3, if_neg h3, if_neg (by simp), ih]
          simp [List.any_append]
    · have e1 : segR dn s = segE s := by unfold segR; rw [if_pos h1]
      rw [e1, if_pos h1, if_pos h1]
theorem check_gives80 (l : List Seg) (hl : l.length < 2 ^ 40) (hs : ∀ s ∈ l, s.as.length < 2 ^ 40) : Gives G 80 [.sl 2 (l.map Seg.enc)] [] ⟨.int .i64 (pathE l), []⟩ := by
  have ll : (l.map Seg.enc).length = l.length := by simp
  refine gives_code (F := f80) rfl rfl (W_ok 300 _ _ _ _ ?_)
  repeat' ((conv => whnf); first | refine zN ?_ | refine zC ?_ | refine zC4 ?_ | refine zC1 ?_ | refine zC8 ?_ | refine zQ ?_ | refine zR ?_ | refine zS ?_ | refine zA ?_ | refine zM ?_ | refine xr rfl ?_ | refine ai rfl ?_ | refine condT ?_ | refine condF ?_ | refine condG1 ?_ | refine condG0 ?_ | refine cD ?_ | refine dD ?_ | refine cB ?_ | refine dB ?_ | refine cN ?_ | refine dN ?_ | refine cV ?_ | refine dV ?_ | refine cE ?_ | refine dE ?_ | refine condNot ?_ | refine condX0 ?_ | refine condX1 ?_ | refine condAnd ?_ | refine condOr ?_ | refine aO ?_ | refine aB ?_ | refine aR ?_ | refine xr (by assumption) ?_ | refine ai (by assumption) ?_ | refine condD (fun h => ?_) (fun h => ?_) | refine condB (fun h => ?_) (fun h => ?_) | refine condN (fun h => ?_) (fun h => ?_) | refine condE (fun h => ?_) (fun h => ?_) | refine condV (fun h => ?_) (fun h => ?_))
  all_goals try ((first | refine ev_fin (And.intro (by first | rfl | simp [AV.pure, pureL]) ?_) | refine ev_fin0 (And.intro (by first | rfl | simp [AV.pure, pureL]) ?_)); first | rfl | (simp [pathE, Bool.cond_eq_ite, *]; done) | (simp [pathE, Bool.cond_eq_ite, *]; omega) | (unfold pathE; repeat' split; all_goals first | rfl | (exfalso; omega) | (simp_all; done) | (simp_all; omega)))
  rw [show pathE l = chkR [] l from by rw [chkR_eq]; simp [pathE]; omega]
  refine ev_keep [0, 9, 10] [] ?_
  exact check_loop80 l hs hl _ (by simp) l [] _ _ _ 0 rfl rfl
end Go.AM.IR
set_option maxHeartbeats 4000000
set_option maxRecDepth 20000
namespace Go.AM.IR
/-! ### attrs.unknown -/
def unkC : Option Int → List TLV → Int
  | _, [] => 0
  | none, t :: r => if t.kind ≤ 10 ∨ t.kind > 255 then 15 else if t.value.length > 255 then 4 else unkC (some t.kind) r
  | some p, t :: r => if t.kind ≤ 10 ∨ t.kind > 255 then 15 else if t.kind ≤ p then 16 else if t.value.length > 255 then 4 else unkC (some t.kind) r
def unknownE (l : List TLV) : Int := if l.length > 64 then 4 else unkC none l
theorem unknown_loop79 (l : List TLV) (hv : ∀ t ∈ l, t.value.length < 2 ^ 40) (hl : l.length < 2 ^ 40) (ln : Int) (hln : ln = l.length) : ∀ (rest done : List TLV) (p : Option Int) (T : List (Nat × AV)) (H : Heap) (c : Nat) (n : Int) (e : l = done ++ rest) (hn : n = done.length) (hp : p = done.getLast?.map (·.kind)), Ev G ⟨f79x13LH, ⟨(8, .sl 2 (l.map TLV.enc)) :: (9, .int .i64 ln) :: (10, .int .i64 n) :: (0, .sl 2 (l.map TLV.enc)) :: T, H, c⟩, [.t 2], 0⟩ ⟨.int .i64 (unkC p rest), []⟩
  | [], done, p, T, H, c, n, e, hn, hp => by
    have hd : l.length = done.length := by simp [e]
    have hll : (l.map TLV.enc).length = l.length := by simp
    refine ev_loop' (W_ok 300 _ _ _ _ ?_)
    repeat' ((conv => whnf); first | refine zN ?_ | refine zC ?_ | refine zC4 ?_ | refine zC1 ?_ | refine zC8 ?_ | refine zQ ?_ | refine zR ?_ | refine zS ?_ | refine zA ?_ | refine zM ?_ | refine xr rfl ?_ | refine ai rfl ?_ | refine condT ?_ | refine condF ?_ | refine condG1 ?_ | refine condG0 ?_ | refine cD ?_ | refine dD ?_ | refine cB ?_ | refine dB ?_ | refine cN ?_ | refine dN ?_ | refine cV ?_ | refine dV ?_ | refine cE ?_ | refine dE ?_ | refine condNot ?_ | refine condX0 ?_ | refine condX1 ?_ | refine condAnd ?_ | refine condOr ?_ | refine aO ?_ | refine aB ?_ | refine aR ?_ | refine xr (by assumption) ?_ | refine ai (by assumption) ?_ | refine condD (fun h => ?_) (fun h => ?_) | refine condB (fun h => ?_) (fun h => ?_) | refine condN (fun h => ?_) (fun h => ?_) | refine condE (fun h => ?_) (fun h => ?_) | refine condV (fun h => ?_) (fun h => ?_))
    all_goals try ((first | refine ev_fin (And.intro (by first | rfl | simp [AV.pure, pureL]) ?_) | refine ev_fin0 (And.intro (by first | rfl | simp [AV.pure, pureL]) ?_)); first | rfl | (simp [unkC, Bool.cond_eq_ite, *]; done) | (simp [unkC, Bool.cond_eq_ite, *]; omega) | (unfold unkC; repeat' split; all_goals first | rfl | (exfalso; omega) | (simp_all; done) | (simp_all; omega)))
  | x :: r, done, p, T, H, c, n, e, hn, hp => by
    have hd : l.length = done.length + (r.length + 1) := by simp [e]
    have hll : (l.map TLV.enc).length = l.length := by simp
    have hx : (l.map TLV.enc)[n.toNat]? = some (TLV.enc x) := by simp [e, hn]
    have hxv : x.value.length < 2 ^ 40 := hv x (by simp [e])
    have hbl : (byteCells x.value).length = x.value.length := by simp [byteCells]
    rcases List.eq_nil_or_concat done with rfl | ⟨d, q, rfl⟩
    · obtain rfl : p = none := by simp [hp]
      simp only [List.length_nil] at hn hd
      refine ev_loop' (W_ok 300 _ _ _ _ ?_)
      repeat' ((conv => whnf); first | refine zN ?_ | refine zC ?_ | refine zC4 ?_ | refine zC1 ?_ | refine zC8 ?_ | refine zQ ?_ | refine zR ?_ | refine zS ?_ | refine zA ?_ | refine zM ?_ | refine xr rfl ?_ | refine ai rfl ?_ | refine condT ?_ | refine condF ?_ | refine condG1 ?_ | refine condG0 ?_ | refine cD ?_ | refine dD ?_ | refine cB ?_ | refine dB ?_ | refine cN ?_ | refine dN ?_ | refine cV ?_ | refine dV ?_ | refine cE ?_ | refine dE ?_ | refine condNot ?_ | refine condX0 ?_ | refine condX1 ?_ | refine condAnd ?_ | refine condOr ?_ | refine aO ?_ | refine aB ?_ | refine aR ?_ | refine xr (by assumption) ?_ | refine ai (by assumption) ?_ | refine condD (fun h => ?_) (fun h => ?_) | refine condB (fun h => ?_) (fun h => ?_) | refine condN (fun h => ?_) (fun h => ?_) | refine condE (fun h => ?_) (fun h => ?_) | refine condV (fun h => ?_) (fun h => ?_))
      all_goals try ((first | refine ev_fin (And.intro (by first | rfl | simp [AV.pure, pureL]) ?_) | refine ev_fin0 (And.intro (by first | rfl | simp [AV.pure, pureL]) ?_)); first | rfl | (simp [unkC, Bool.cond_eq_ite, *]; done) | (simp [unkC, Bool.cond_eq_ite, *]; omega) | (unfold unkC; repeat' split; all_goals first | rfl | (exfalso; omega) | (simp_all; done) | (simp_all; omega)))
      rw [show unkC none (x :: r) = unkC (some x.kind) r from by simp [unkC]; omega]
      refine ev_keep [8, 9, 10, 0] [] ?_; exact unknown_loop79 l hv hl ln hln r [x] _ _ _ _ (n + 1) (by simp [e]) (by simp [hn] <;> omega) (by simp)
    · obtain rfl : p = some q.kind := by simp [hp]
      simp only [List.concat_eq_append, List.length_append, List.length_singleton] at hn hd
      have hn1 : (n - 1).toNat = d.length := by omega
      have hy : (l.map TLV.enc)[(n - 1).toNat]? = some (TLV.enc q) := by rw [hn1, e]; simp
      refine ev_loop' (W_ok 300 _ _ _ _ ?_)
      repeat' ((conv => whnf); first | refine zN ?_ | refine zC ?_ | refine zC4 ?_ | refine zC1 ?_ | refine zC8 ?_ | refine zQ ?_ | refine zR ?_ | refine zS ?_ | refine zA ?_ | refine zM ?_ | refine xr rfl ?_ | refine ai rfl ?_ | refine condT ?_ | refine condF ?_ | refine condG1 ?_ | refine condG0 ?_ | refine cD ?_ | refine dD ?_ | refine cB ?_ | refine dB ?_ | refine cN ?_ | refine dN ?_ | refine cV ?_ | refine dV ?_ | refine cE ?_ | refine dE ?_ | refine condNot ?_ | refine condX0 ?_ | refine condX1 ?_ | refine condAnd ?_ | refine condOr ?_ | refine aO ?_ | refine aB ?_ | refine aR ?_ | refine xr (by assumption) ?_ | refine ai (by assumption) ?_ | refine condD (fun h => ?_) (fun h => ?_) | refine condB (fun h => ?_) (fun h => ?_) | refine condN (fun h => ?_) (fun h => ?_) | refine condE (fun h => ?_) (fun h => ?_) | refine condV (fun h => ?_) (fun h => ?_))
      all_goals try ((first | refine ev_fin (And.intro (by first | rfl | simp [AV.pure, pureL]) ?_) | refine ev_fin0 (And.intro (by first | rfl | simp [AV.pure, pureL]) ?_)); first | rfl | (simp [unkC, Bool.cond_eq_ite, *]; done) | (simp [unkC, Bool.cond_eq_ite, *]; omega) | (unfold unkC; repeat' split; all_goals first | rfl | (exfalso; omega) | (simp_all; done) | (simp_all; omega)))
      rw [show unkC (some q.kind) (x :: r) = unkC (some x.kind) r from by simp [unkC]; omega]
      refine ev_keep [8, 9, 10, 0] [] ?_; exact unknown_loop79 l hv hl ln hln r (d ++ [q] ++ [x]) _ _ _ _ (n + 1) (by simp [e]) (by simp [hn] <;> omega) (by simp)
theorem unknown_gives79 (l : List TLV) (hl : l.length < 2 ^ 40) (hv : ∀ t ∈ l, t.value.length < 2 ^ 40) : Gives G 79 [.sl 2 (l.map TLV.enc)] [] ⟨.int .i64 (unknownE l), []⟩ := by
  have ll : (l.map TLV.enc).length = l.length := by simp
  refine gives_code (F := f79) rfl rfl (W_ok 300 _ _ _ _ ?_)
  repeat' ((conv => whnf); first | refine zN ?_ | refine zC ?_ | refine zC4 ?_ | refine zC1 ?_ | refine zC8 ?_ | refine zQ ?_ | refine zR ?_ | refine zS ?_ | refine zA ?_ | refine zM ?_ | refine xr rfl ?_ | refine ai rfl ?_ | refine condT ?_ | refine condF ?_ | refine condG1 ?_ | refine condG0 ?_ | refine cD ?_ | refine dD ?_ | refine cB ?_ | refine dB ?_ | refine cN ?_ | refine dN ?_ | refine cV ?_ | refine dV ?_ | refine cE ?_ | refine dE ?_ | refine condNot ?_ | refine condX0 ?_ | refine condX1 ?_ | refine condAnd ?_ | refine condOr ?_ | refine aO ?_ | refine aB ?_ | refine aR ?_ | refine xr (by assumption) ?_ | refine ai (by assumption) ?_ | refine condD (fun h => ?_) (fun h => ?_) | refine condB (fun h => ?_) (fun h => ?_) | refine condN (fun h => ?_) (fun h => ?_) | refine condE (fun h => ?_) (fun h => ?_) | refine condV (fun h => ?_) (fun h => ?_))
  all_goals try ((first | refine ev_fin (And.intro (by first | rfl | simp [AV.pure, pureL]) ?_) | refine ev_fin0 (And.intro (by first | rfl | simp [AV.pure, pureL]) ?_)); first | rfl | (simp [unknownE, Bool.cond_eq_ite, *]; done) | (simp [unknownE, Bool.cond_eq_ite, *]; omega) | (unfold unknownE; repeat' split; all_goals first | rfl | (exfalso; omega) | (simp_all; done) | (simp_all; omega)))
  rw [show unknownE l = unkC none l from by simp [unknownE]; omega]
  refine ev_keep [8, 9, 10, 0] [] ?_
  exact unknown_loop79 l hv hl _ (by simp) l [] _ _ _ _ 0 rfl rfl rfl
end Go.AM.IR
set_option maxHeartbeats 4000000
set_option maxRecDepth 20000
namespace Go.AM.IR
def origE (h : Bool) (x : Int) : Int := if h = (x == 0) then 1 else 0
def checkL (a : Attrs) : List Int := [if a.origin < 0 ∨ a.origin > 2 then 5 else 0, pathE a.path, if a.nextHop = 0 then 1 else 0, optE a.hasMED a.med 0, optE a.hasPref a.pref 0, optE a.hasAggr a.aggrAS 1, if a.hasAggr = false ∧ a.aggrAddr ≠ 0 then 1 else 0, commE a.comms, origE a.hasOrig a.orig, clustersE a.clusters, unknownE a.unknown]
def checkS (a : Attrs) : Int := firstS (checkL a)
/-- Lengths that no number passes. -/
structure LenB (a : Attrs) : Prop where
  path : a.path.length < 2 ^ 40
  segs : ∀ s ∈ a.path, s.as.length < 2 ^ 40
  comms : a.comms.length < 2 ^ 40
  clusters : a.clusters.length < 2 ^ 40
  unknown : a.unknown.length < 2 ^ 40
  vals : ∀ t ∈ a.unknown, t.value.length < 2 ^ 40
theorem check_gives65 (a : Attrs) (h : LenB a) : Gives G 65 [.agg a.enc] [] ⟨.int .i64 (checkS a), []⟩ := by
  obtain ⟨h1, h2, h3, h4, h5, h6⟩ := h
  refine gives_code (F := f65) rfl rfl (W_ok 300 _ _ _ _ ?_)
  repeat' ((conv => whnf); first | refine zN ?_ | refine zC ?_ | refine zC4 ?_ | refine zC1 ?_ | refine zC8 ?_ | refine zQ ?_ | refine zR ?_ | refine zS ?_ | refine zA ?_ | refine zM ?_ | refine xr rfl ?_ | refine ai rfl ?_ | refine condT ?_ | refine condF ?_ | refine condG1 ?_ | refine condG0 ?_ | refine cD ?_ | refine dD ?_ | refine cB ?_ | refine dB ?_ | refine cN ?_ | refine dN ?_ | refine cV ?_ | refine dV ?_ | refine cE ?_ | refine dE ?_ | refine condX0 ?_ | refine condX1 ?_ | refine condNot ?_ | refine condAnd ?_ | refine condOr ?_ | refine aO ?_ | refine aB ?_ | refine aR ?_ | refine xr (by assumption) ?_ | refine ai (by assumption) ?_ | refine callV (when_gives74 _ _) (by simp [pureL, AV.pure]) (by simp [AV.dry, dryL]) ?_ | refine callV (optional_gives76 _ _ _) (by simp [pureL, AV.pure]) (by simp [AV.dry, dryL]) ?_ | refine callV (check_gives75 a.path h1 h2) (by simp [pureL, AV.pure]) (by simp [AV.dry, dryL]) ?_ | refine callV (comm_gives77 a.comms h3) (by simp [pureL, AV.pure]) (by simp [AV.dry, dryL]) ?_ | refine callV (clusters_gives78 a.clusters h4) (by simp [pureL, AV.pure]) (by simp [AV.dry, dryL]) ?_ | refine callV (unknown_gives79 a.unknown h5 h6) (by simp [pureL, AV.pure]) (by simp [AV.dry, dryL]) ?_ | refine condD (fun h => ?_) (fun h => ?_) | refine condB (fun h => ?_) (fun h => ?_) | refine condN (fun h => ?_) (fun h => ?_) | refine condE (fun h => ?_) (fun h => ?_) | refine condV (fun h => ?_) (fun h => ?_))
  all_goals (refine callF [(123, _, .vec 1 _)] ⟨rfl, rfl, trivial⟩ rfl (by simp) rfl rfl (first_gives73 [_, _, _, _, _, _, _, _, _, _, _] (by simp)) rfl ?_)
  repeat' ((conv => whnf); first | refine zN ?_ | refine zC ?_ | refine zC4 ?_ | refine zC1 ?_ | refine zC8 ?_ | refine zQ ?_ | refine zR ?_ | refine zS ?_ | refine zA ?_ | refine zM ?_ | refine xr rfl ?_ | refine ai rfl ?_ | refine condT ?_ | refine condF ?_ | refine condG1 ?_ | refine condG0 ?_ | refine cD ?_ | refine dD ?_ | refine cB ?_ | refine dB ?_ | refine cN ?_ | refine dN ?_ | refine cV ?_ | refine dV ?_ | refine cE ?_ | refine dE ?_ | refine condX0 ?_ | refine condX1 ?_ | refine condNot ?_ | refine condAnd ?_ | refine condOr ?_ | refine aO ?_ | refine aB ?_ | refine aR ?_ | refine xr (by assumption) ?_ | refine ai (by assumption) ?_ | refine condD (fun h => ?_) (fun h => ?_) | refine condB (fun h => ?_) (fun h => ?_) | refine condN (fun h => ?_) (fun h => ?_) | refine condE (fun h => ?_) (fun h => ?_) | refine condV (fun h => ?_) (fun h => ?_))
  all_goals ((first | refine ev_fin (And.intro (by first | rfl | simp [AV.pure, pureL]) ?_) | refine ev_fin0 (And.intro (by first | rfl | simp [AV.pure, pureL]) ?_)); refine congrArg (fun x => Ret.mk (.int .i64 x) []) ?_; unfold checkS; refine congrArg firstS ?_; simp [checkL, origE, *]; try omega)
end Go.AM.IR
set_option maxHeartbeats 4000000
set_option maxRecDepth 20000
namespace Go.AM.IR
theorem unk_loop66 (l : List TLV) (a : Attrs) (ha : a.unknown = l) (hv : ∀ t ∈ l, t.value.length < 2 ^ 40) (hl : l.length < 2 ^ 40) (ln : Int) (hln : ln = l.length) : ∀ (rest done : List TLV) (p : Option Int) (T : List (Nat × AV)) (H : Heap) (c : Nat) (n : Int) (e : l = done ++ rest) (hn : n = done.length) (hp : p = done.getLast?.map (·.kind)), Ev G ⟨f66x46LH, ⟨(121, .sl 2 (l.map TLV.enc)) :: (122, .int .i64 ln) :: (123, .int .i64 n) :: (1, .ref 65 1 0) :: T, (65, some (1, .cells a.enc)) :: H, c⟩, [.t 2], 0⟩ ⟨.int .i64 (unkC p rest), []⟩
  | [], done, p, T, H, c, n, e, hn, hp => by
    have hd : l.length = done.length := by simp [e]
    have hll : (l.map TLV.enc).length = l.length := by simp
    refine ev_loop' (W_ok 300 _ _ _ _ ?_)
    repeat' ((conv => whnf); first | refine zN ?_ | refine zC ?_ | refine zC4 ?_ | refine zC1 ?_ | refine zC8 ?_ | refine zQ ?_ | refine zR ?_ | refine zS ?_ | refine zA ?_ | refine zM ?_ | refine xr rfl ?_ | refine ai rfl ?_ | refine condT ?_ | refine condF ?_ | refine condG1 ?_ | refine condG0 ?_ | refine cD ?_ | refine dD ?_ | refine cB ?_ | refine dB ?_ | refine cN ?_ | refine dN ?_ | refine cV ?_ | refine dV ?_ | refine cE ?_ | refine dE ?_ | refine condX0 ?_ | refine condX1 ?_ | refine condNot ?_ | refine condAnd ?_ | refine condOr ?_ | refine aO ?_ | refine aB ?_ | refine aR ?_ | refine xr (by assumption) ?_ | refine ai (by assumption) ?_ | refine condD (fun h => ?_) (fun h => ?_) | refine condB (fun h => ?_) (fun h => ?_) | refine condN (fun h => ?_) (fun h => ?_) | refine condE (fun h => ?_) (fun h => ?_) | refine condV (fun h => ?_) (fun h => ?_))
    all_goals try ((first | refine ev_fin (And.intro (by first | rfl | simp [AV.pure, pureL]) ?_) | refine ev_fin0 (And.intro (by first | rfl | simp [AV.pure, pureL]) ?_)); first | rfl | (simp [unkC, Bool.cond_eq_ite, *]; done) | (simp [unkC, Bool.cond_eq_ite, *]; omega) | (unfold unkC; repeat' split; all_goals first | rfl | (exfalso; omega) | (simp_all; done) | (simp_all; omega)))
  | x :: r, done, p, T, H, c, n, e, hn, hp => by
    have hd : l.length = done.length + (r.length + 1) := by simp [e]
    have hll : (l.map TLV.enc).length = l.length := by simp
    have hx : (l.map TLV.enc)[n.toNat]? = some (TLV.enc x) := by simp [e, hn]
    subst ha
    have hxv : x.value.length < 2 ^ 40 := hv x (by simp [e])
    have hbl : (byteCells x.value).length = x.value.length := by simp [byteCells]
    rcases List.eq_nil_or_concat done with rfl | ⟨d, q, rfl⟩
    · obtain rfl : p = none := by simp [hp]
      simp only [List.length_nil] at hn hd
      refine ev_loop' (W_ok 300 _ _ _ _ ?_)
      repeat' ((conv => whnf); first | refine zN ?_ | refine zC ?_ | refine zC4 ?_ | refine zC1 ?_ | refine zC8 ?_ | refine zQ ?_ | refine zR ?_ | refine zS ?_ | refine zA ?_ | refine zM ?_ | refine xr rfl ?_ | refine ai rfl ?_ | refine condT ?_ | refine condF ?_ | refine condG1 ?_ | refine condG0 ?_ | refine cD ?_ | refine dD ?_ | refine cB ?_ | refine dB ?_ | refine cN ?_ | refine dN ?_ | refine cV ?_ | refine dV ?_ | refine cE ?_ | refine dE ?_ | refine condX0 ?_ | refine condX1 ?_ | refine condNot ?_ | refine condAnd ?_ | refine condOr ?_ | refine aO ?_ | refine aB ?_ | refine aR ?_ | refine xr (by assumption) ?_ | refine ai (by assumption) ?_ | refine condD (fun h => ?_) (fun h => ?_) | refine condB (fun h => ?_) (fun h => ?_) | refine condN (fun h => ?_) (fun h => ?_) | refine condE (fun h => ?_) (fun h => ?_) | refine condV (fun h => ?_) (fun h => ?_))
      all_goals try ((first | refine ev_fin (And.intro (by first | rfl | simp [AV.pure, pureL]) ?_) | refine ev_fin0 (And.intro (by first | rfl | simp [AV.pure, pureL]) ?_)); first | rfl | (simp [unkC, Bool.cond_eq_ite, *]; done) | (simp [unkC, Bool.cond_eq_ite, *]; omega) | (unfold unkC; repeat' split; all_goals first | rfl | (exfalso; omega) | (simp_all; done) | (simp_all; omega)))
      rw [show unkC none (x :: r) = unkC (some x.kind) r from by simp [unkC]; omega]
      refine ev_keep [121, 122, 123, 1] [65] ?_; exact unk_loop66 a.unknown a rfl hv hl ln hln r [x] (some x.kind) _ _ _ (n + 1) (by simp [e]) (by simp [hn]) (by simp)
    · obtain rfl : p = some q.kind := by simp [hp]
      simp only [List.concat_eq_append, List.length_append, List.length_singleton] at hn hd
      have hn1 : (n - 1).toNat = d.length := by omega
      have hy : (a.unknown.map TLV.enc)[(n - 1).toNat]? = some (TLV.enc q) := by rw [hn1, e]; simp
      refine ev_loop' (W_ok 300 _ _ _ _ ?_)
      repeat' ((conv => whnf); first | refine zN ?_ | refine zC ?_ | refine zC4 ?_ | refine zC1 ?_ | refine zC8 ?_ | refine zQ ?_ | refine zR ?_ | refine zS ?_ | refine zA ?_ | refine zM ?_ | refine xr rfl ?_ | refine ai rfl ?_ | refine condT ?_ | refine condF ?_ | refine condG1 ?_ | refine condG0 ?_ | refine cD ?_ | refine dD ?_ | refine cB ?_ | refine dB ?_ | refine cN ?_ | refine dN ?_ | refine cV ?_ | refine dV ?_ | refine cE ?_ | refine dE ?_ | refine condX0 ?_ | refine condX1 ?_ | refine condNot ?_ | refine condAnd ?_ | refine condOr ?_ | refine aO ?_ | refine aB ?_ | refine aR ?_ | refine xr (by assumption) ?_ | refine ai (by assumption) ?_ | refine condD (fun h => ?_) (fun h => ?_) | refine condB (fun h => ?_) (fun h => ?_) | refine condN (fun h => ?_) (fun h => ?_) | refine condE (fun h => ?_) (fun h => ?_) | refine condV (fun h => ?_) (fun h => ?_))
      all_goals try ((first | refine ev_fin (And.intro (by first | rfl | simp [AV.pure, pureL]) ?_) | refine ev_fin0 (And.intro (by first | rfl | simp [AV.pure, pureL]) ?_)); first | rfl | (simp [unkC, Bool.cond_eq_ite, *]; done) | (simp [unkC, Bool.cond_eq_ite, *]; omega) | (unfold unkC; repeat' split; all_goals first | rfl | (exfalso; omega) | (simp_all; done) | (simp_all; omega)))
      rw [show unkC (some q.kind) (x :: r) = unkC (some x.kind) r from by simp [unkC]; omega]
      refine ev_keep [121, 122, 123, 1] [65] ?_; exact unk_loop66 a.unknown a rfl hv hl ln hln r (d ++ [q] ++ [x]) (some x.kind) _ _ _ (n + 1) (by simp [e]) (by simp [hn] <;> omega) (by simp)
theorem cl_loop66 (l : List Int) (a : Attrs) (ha : a.clusters = l) (hu : a.unknown.length < 2 ^ 40) (hv : ∀ t ∈ a.unknown, t.value.length < 2 ^ 40) (hl : l.length < 2 ^ 40) (ln : Int) (hln : ln = l.length) : ∀ (rest done : List Int)  (T : List (Nat × AV)) (H : Heap) (c : Nat) (n : Int) (e : l = done ++ rest) (hn : n = done.length) , Ev G ⟨f66x33LH, ⟨(107, .sl 1 (l.map encU)) :: (108, .int .i64 ln) :: (109, .int .i64 n) :: (1, .ref 65 1 0) :: T, (65, some (1, .cells a.enc)) :: H, c⟩, [.t 2], 0⟩ ⟨.int .i64 (if clS rest = 0 then unknownE a.unknown else 1), []⟩
  | [], done,  T, H, c, n, e, hn => by
    have hd : l.length = done.length := by simp [e]
    have hll : (l.map encU).length = l.length := by simp
    have hul : (a.unknown.map TLV.enc).length = a.unknown.length := by simp
    rw [show (if clS [] = 0 then unknownE a.unknown else 1) = unknownE a.unknown from by simp [clS]]
    refine ev_loop' (W_ok 300 _ _ _ _ ?_)
    repeat' ((conv => whnf); first | refine zN ?_ | refine zC ?_ | refine zC4 ?_ | refine zC1 ?_ | refine zC8 ?_ | refine zQ ?_ | refine zR ?_ | refine zS ?_ | refine zA ?_ | refine zM ?_ | refine xr rfl ?_ | refine ai rfl ?_ | refine condT ?_ | refine condF ?_ | refine condG1 ?_ | refine condG0 ?_ | refine cD ?_ | refine dD ?_ | refine cB ?_ | refine dB ?_ | refine cN ?_ | refine dN ?_ | refine cV ?_ | refine dV ?_ | refine cE ?_ | refine dE ?_ | refine condX0 ?_ | refine condX1 ?_ | refine condNot ?_ | refine condAnd ?_ | refine condOr ?_ | refine aO ?_ | refine aB ?_ | refine aR ?_ | refine xr (by assumption) ?_ | refine ai (by assumption) ?_ | refine condD (fun h => ?_) (fun h => ?_) | refine condB (fun h => ?_) (fun h => ?_) | refine condN (fun h => ?_) (fun h => ?_) | refine condE (fun h => ?_) (fun h => ?_) | refine condV (fun h => ?_) (fun h => ?_))
    all_goals try ((first | refine ev_fin (And.intro (by first | rfl | simp [AV.pure, pureL]) ?_) | refine ev_fin0 (And.intro (by first | rfl | simp [AV.pure, pureL]) ?_)); first | rfl | (simp [unknownE, Bool.cond_eq_ite, *]; done) | (simp [unknownE, Bool.cond_eq_ite, *]; omega) | (unfold unknownE; repeat' split; all_goals first | rfl | (exfalso; omega) | (simp_all; done) | (simp_all; omega)))
    refine ev_keep [121, 122, 123, 1] [65] ?_
    rw [show unknownE a.unknown = unkC none a.unknown from by simp [unknownE]; omega]
    exact unk_loop66 a.unknown a rfl hv hu _ (by simp) a.unknown [] _ _ _ _ 0 rfl rfl rfl
  | x :: r, done,  T, H, c, n, e, hn => by
    have hd : l.length = done.length + (r.length + 1) := by simp [e]
    have hll : (l.map encU).length = l.length := by simp
    have hx : (l.map encU)[n.toNat]? = some (encU x) := by simp [e, hn]
    refine ev_loop' (W_ok 300 _ _ _ _ ?_)
    repeat' ((conv => whnf); first | refine zN ?_ | refine zC ?_ | refine zC4 ?_ | refine zC1 ?_ | refine zC8 ?_ | refine zQ ?_ | refine zR ?_ | refine zS ?_ | refine zA ?_ | refine zM ?_ | refine xr rfl ?_ | refine ai rfl ?_ | refine condT ?_ | refine condF ?_ | refine condG1 ?_ | refine condG0 ?_ | refine cD ?_ | refine dD ?_ | refine cB ?_ | refine dB ?_ | refine cN ?_ | refine dN ?_ | refine cV ?_ | refine dV ?_ | refine cE ?_ | refine dE ?_ | refine condX0 ?_ | refine condX1 ?_ | refine condNot ?_ | refine condAnd ?_ | refine condOr ?_ | refine aO ?_ | refine aB ?_ | refine aR ?_ | refine xr (by assumption) ?_ | refine ai (by assumption) ?_ | refine condD (fun h => ?_) (fun h => ?_) | refine condB (fun h => ?_) (fun h => ?_) | refine condN (fun h => ?_) (fun h => ?_) | refine condE (fun h => ?_) (fun h => ?_) | refine condV (fun h => ?_) (fun h => ?_))
    all_goals try ((first | refine ev_fin (And.intro (by first | rfl | simp [AV.pure, pureL]) ?_) | refine ev_fin0 (And.intro (by first | rfl | simp [AV.pure, pureL]) ?_)); first | rfl | (simp [clS, Bool.cond_eq_ite, *]; done) | (simp [clS, Bool.cond_eq_ite, *]; omega) | (unfold clS; repeat' split; all_goals first | rfl | (exfalso; omega) | (simp_all; done) | (simp_all; omega)))
    rw [show clS (x :: r) = clS r from by simp [clS, *]]
    refine ev_keep [107, 108, 109, 1] [65] ?_; exact cl_loop66 l a ha hu hv hl ln hln r (done ++ [x])  _ _ _ (n + 1) (by simp [e]) (by simp [hn] <;> omega) 
theorem clS01 : ∀ l, clS l = 0 ∨ clS l = 1
  | [] => .inl rfl
  | x :: r => by
    rw [clS]
    split
    · exact .inr rfl
    · exact clS01 r
theorem firstS1 (x : Int) : firstS [x] = x := by
  simp only [firstS]; split <;> simp_all
theorem firstS0 (l : List Int) : firstS (0 :: l) = firstS l := by simp [firstS]
theorem checkS_last (a : Attrs) (h : (checkL a).take 9 = [0, 0, 0, 0, 0, 0, 0, 0, 0]) (hc : ¬ (((a.clusters.map encU).length : Int) > 64)) : checkS a = if clS a.clusters = 0 then unknownE a.unknown else 1 := by
  have e : checkL a = (checkL a).take 9 ++ [clustersE a.clusters, unknownE a.unknown] := rfl
  have hce : clustersE a.clusters = clS a.clusters := by unfold clustersE; rw [if_neg (by simp at hc; omega)]
  unfold checkS
  rw [e, h]
  simp only [List.cons_append, List.nil_append, firstS0, hce]
  rcases clS01 a.clusters with h | h
  · rw [h, firstS0, firstS1, if_pos rfl]
  · rw [h, if_neg (by omega)]; simp [firstS]
theorem orig0 {h : Bool} {x : Int} (q : h = (x != 0)) : origE h x = 0 := by
  subst q
  by_cases h : x = 0
  · simp [origE, h]
  · have e1 : (x != 0) = true := by simpa using h
    have e2 : (x == 0) = false := by simpa using h
    rw [origE, e1, e2]; rfl
theorem orig1 {h : Bool} {x : Int} (q : ¬ h = (x != 0)) : origE h x = 1 := by
  by_cases e : x = 0 <;> cases h <;> simp_all [origE]
theorem check_gives66 (a : Attrs) (h : LenB a) : Gives G 66 [.agg a.enc] [] ⟨.int .i64 (checkS a), []⟩ := by
  obtain ⟨h1, h2, h3, h4, h5, h6⟩ := h
  have hcl : (a.clusters.map encU).length = a.clusters.length := by simp
  refine gives_code (F := f66) rfl rfl (W_ok 300 _ _ _ _ ?_)
  repeat' ((conv => whnf); first | refine zN ?_ | refine zC ?_ | refine zC4 ?_ | refine zC1 ?_ | refine zC8 ?_ | refine zQ ?_ | refine zR ?_ | refine zS ?_ | refine zA ?_ | refine zM ?_ | refine xr rfl ?_ | refine ai rfl ?_ | refine condT ?_ | refine condF ?_ | refine condG1 ?_ | refine condG0 ?_ | refine cD ?_ | refine dD ?_ | refine cB ?_ | refine dB ?_ | refine cN ?_ | refine dN ?_ | refine cV ?_ | refine dV ?_ | refine cE ?_ | refine dE ?_ | refine condX0 ?_ | refine condX1 ?_ | refine condNot ?_ | refine condAnd ?_ | refine condOr ?_ | refine aO ?_ | refine aB ?_ | refine aR ?_ | refine xr (by assumption) ?_ | refine ai (by assumption) ?_ | refine callV (word_gives81 _) (by simp [pureL, AV.pure]) (by simp [AV.dry, dryL]) ?_ | refine callV (check_gives80 a.path h1 h2) (by simp [pureL, AV.pure]) (by simp [AV.dry, dryL]) ?_ | refine callV (comm_gives82 a.comms h3) (by simp [pureL, AV.pure]) (by simp [AV.dry, dryL]) ?_ | refine condD (fun h => ?_) (fun h => ?_) | refine condB (fun h => ?_) (fun h => ?_) | refine condN (fun h => ?_) (fun h => ?_) | refine condE (fun h => ?_) (fun h => ?_) | refine condV (fun h => ?_) (fun h => ?_))
  all_goals try (have hN : a.clusters.length > 64 := by omega)
  all_goals try (rename (a.hasOrig = (a.orig != 0)) => hq; replace hq := orig0 hq)
  all_goals try (rename (¬ a.hasOrig = (a.orig != 0)) => hq; replace hq := orig1 hq)
  all_goals try ((first | refine ev_fin (And.intro (by first | rfl | simp [AV.pure, pureL]) ?_) | refine ev_fin0 (And.intro (by first | rfl | simp [AV.pure, pureL]) ?_)); first | rfl | (simp [checkS, checkL, firstS, optE, clustersE, Bool.cond_eq_ite, *]; done) | (simp [checkS, checkL, firstS, optE, clustersE, Bool.cond_eq_ite, *]; omega) | (unfold checkS checkL firstS optE clustersE; repeat' split; all_goals first | rfl | (exfalso; omega) | (simp_all; done) | (simp_all; omega)))
  all_goals (rw [checkS_last a (by simp [checkL, optE, *]) (by assumption)]; refine ev_keep [107, 108, 109, 1] [65] ?_; exact cl_loop66 a.clusters a rfl h5 h6 h4 _ (by simp) a.clusters [] _ _ _ 0 rfl rfl)
end Go.AM.IR
namespace Go.AM.IR
set_option maxRecDepth 1000000
set_option maxHeartbeats 0
theorem awake36_gives : Gives G 64 [] [] ⟨.bool true, []⟩ := by
  refine gives_run 20000 rfl rfl ?_
  kernel_rfl
end Go.AM.IR
namespace Go.AM.IR

theorem lift_enc {α : Type} {e : List AV → Prop} {enc : α → List AV} {Q : α → Prop} (h : ∀ x, e x → ∃ a, x = enc a ∧ Q a) : ∀ es : List (List AV), (∀ x ∈ es, e x) → ∃ l : List α, es = l.map enc ∧ ∀ a ∈ l, Q a
  | [], _ => ⟨[], rfl, by simp⟩
  | x :: r, hx => by
    obtain ⟨a, rfl, ha⟩ := h x (hx x (by simp))
    obtain ⟨l, rfl, hl⟩ := lift_enc h r fun y hy => hx y (by simp [hy])
    exact ⟨a :: l, rfl, by simpa using ⟨ha, hl⟩⟩

def okI (x : Int) : Prop := -9223372036854775808 ≤ x ∧ x ≤ 9223372036854775807
def okU (x : Int) : Prop := 0 ≤ x ∧ x ≤ 4294967295

theorem T_i64 {as : List AV} (h : Ty.T (.int .i64) as) : ∃ x, as = encI x ∧ okI x := by
  obtain ⟨n, rfl, h1, h2⟩ := h
  exact ⟨n, rfl, by simpa [IntKind.min, IntKind.max, IntKind.signed, IntKind.bits, okI] using And.intro h1 h2⟩
theorem T_u32 {as : List AV} (h : Ty.T (.int .u32) as) : ∃ x, as = encU x ∧ okU x := by
  obtain ⟨n, rfl, h1, h2⟩ := h
  exact ⟨n, rfl, by simpa [IntKind.min, IntKind.max, IntKind.signed, IntKind.bits, okU] using And.intro h1 h2⟩
theorem T_u8 {as : List AV} (h : Ty.T (.int .u8) as) : ∃ b : UInt8, as = [.int .u8 b.toNat] ∧ True := by
  obtain ⟨n, rfl, h1, h2⟩ := h
  have h1 : 0 ≤ n := by simpa [IntKind.min, IntKind.signed] using h1
  have h2 : n ≤ 255 := by simpa [IntKind.max, IntKind.signed, IntKind.bits] using h2
  refine ⟨UInt8.ofNat n.toNat, ?_, trivial⟩
  have : ((UInt8.ofNat n.toNat).toNat : Int) = n := by simp; omega
  rw [this]
theorem T_sl {α : Type} {τ : Ty} {enc : α → List AV} {Q : α → Prop} (h : ∀ x, τ.T x → ∃ a, x = enc a ∧ Q a) {as : List AV} (hs : Ty.T (.sl τ) as) : ∃ l : List α, as = [.sl τ.cells (l.map enc)] ∧ ∀ a ∈ l, Q a := by
  obtain ⟨es, rfl, h1, _⟩ := hs
  obtain ⟨l, rfl, h2⟩ := lift_enc h es h1
  exact ⟨l, rfl, h2⟩
theorem T_bytes {as : List AV} (hs : Ty.T (.sl (.int .u8)) as) : ∃ l : List UInt8, as = [.sl 1 (byteCells l)] := by
  obtain ⟨l, rfl, _⟩ := T_sl (fun x => T_u8) hs
  exact ⟨l, rfl⟩

def tSeg : Ty := .st [.int .i64, .sl (.int .i64)]
def tTLV : Ty := .st [.int .i64, .sl (.int .u8)]
def tAttrs : Ty := .st [.int .i64, .sl tSeg, .int .u32, .bool, .int .i64, .bool, .int .i64, .bool, .bool, .int .i64, .int .u32, .sl (.int .u32), .bool, .int .u32, .sl (.int .u32), .sl tTLV]
def tRoute : Ty := .st [.st [.int .u32, .int .i64], tAttrs, .int .i64, .int .i64, .int .u32, .bool]
def tIGP : Ty := .st [.int .u32, .int .i64]

structure Seg.ok (s : Seg) : Prop where
  kind : okI s.kind
  as : ∀ x ∈ s.as, okI x
theorem T_seg {as : List AV} (h : tSeg.T as) : ∃ s : Seg, as = s.enc ∧ s.ok := by
  simp only [tSeg, Ty.T.eq_5, TT] at h
  obtain ⟨a1, b1, rfl, h1, a2, b2, rfl, h2, rfl⟩ := h
  obtain ⟨x1, rfl, k1⟩ := T_i64 h1
  obtain ⟨x2, rfl, k2⟩ := T_sl (fun x => T_i64) h2
  exact ⟨⟨x1, x2⟩, rfl, k1, k2⟩
structure TLV.ok (s : TLV) : Prop where
  kind : okI s.kind
theorem T_tlv {as : List AV} (h : tTLV.T as) : ∃ s : TLV, as = s.enc ∧ s.ok := by
  simp only [tTLV, Ty.T.eq_5, TT] at h
  obtain ⟨a1, b1, rfl, h1, a2, b2, rfl, h2, rfl⟩ := h
  obtain ⟨x1, rfl, k1⟩ := T_i64 h1
  obtain ⟨x2, rfl⟩ := T_bytes h2
  exact ⟨⟨x1, x2⟩, rfl, ⟨k1⟩⟩
structure IGP.ok (s : IGP) : Prop where
  addr : okU s.addr
  cost : okI s.cost
theorem T_igp {as : List AV} (h : tIGP.T as) : ∃ s : IGP, as = s.enc ∧ s.ok := by
  simp only [tIGP, Ty.T.eq_5, TT] at h
  obtain ⟨a1, b1, rfl, h1, a2, b2, rfl, h2, rfl⟩ := h
  obtain ⟨x1, rfl, k1⟩ := T_u32 h1
  obtain ⟨x2, rfl, k2⟩ := T_i64 h2
  exact ⟨⟨x1, x2⟩, rfl, k1, k2⟩
structure Attrs.ok (a : Attrs) : Prop where
  origin : okI a.origin
  path : ∀ s ∈ a.path, s.ok
  nextHop : okU a.nextHop
  med : okI a.med
  pref : okI a.pref
  aggrAS : okI a.aggrAS
  aggrAddr : okU a.aggrAddr
  comms : ∀ x ∈ a.comms, okU x
  orig : okU a.orig
  clusters : ∀ x ∈ a.clusters, okU x
  unknown : ∀ x ∈ a.unknown, x.ok
theorem T_attrs {as : List AV} (h : tAttrs.T as) : ∃ s : Attrs, as = s.enc ∧ s.ok := by
  simp only [tAttrs, Ty.T.eq_5, TT] at h
  obtain ⟨a1, b1, rfl, h1, a2, b2, rfl, h2, a3, b3, rfl, h3, a4, b4, rfl, h4, a5, b5, rfl, h5, a6, b6, rfl, h6, a7, b7, rfl, h7, a8, b8, rfl, h8, a9, b9, rfl, h9, a10, b10, rfl, h10, a11, b11, rfl, h11, a12, b12, rfl, h12, a13, b13, rfl, h13, a14, b14, rfl, h14, a15, b15, rfl, h15, a16, b16, rfl, h16, rfl⟩ := h
  obtain ⟨x1, rfl, k1⟩ := T_i64 h1
  obtain ⟨x2, rfl, k2⟩ := T_sl (fun x => T_seg) h2
  obtain ⟨x3, rfl, k3⟩ := T_u32 h3
  obtain ⟨x4, rfl⟩ := h4
  obtain ⟨x5, rfl, k5⟩ := T_i64 h5
  obtain ⟨x6, rfl⟩ := h6
  obtain ⟨x7, rfl, k7⟩ := T_i64 h7
  obtain ⟨x8, rfl⟩ := h8
  obtain ⟨x9, rfl⟩ := h9
  obtain ⟨x10, rfl, k10⟩ := T_i64 h10
  obtain ⟨x11, rfl, k11⟩ := T_u32 h11
  obtain ⟨x12, rfl, k12⟩ := T_sl (fun x => T_u32) h12
  obtain ⟨x13, rfl⟩ := h13
  obtain ⟨x14, rfl, k14⟩ := T_u32 h14
  obtain ⟨x15, rfl, k15⟩ := T_sl (fun x => T_u32) h15
  obtain ⟨x16, rfl, k16⟩ := T_sl (fun x => T_tlv) h16
  exact ⟨⟨x1, x2, x3, x4, x5, x6, x7, x8, x9, x10, x11, x12, x13, x14, x15, x16⟩, rfl, k1, k2, k3, k5, k7, k10, k11, k12, k14, k15, k16⟩
structure PVRoute.ok (r : PVRoute) : Prop where
  paddr : okU r.paddr
  plen : okI r.plen
  attrs : r.attrs.ok
  peer : okI r.peer
  kind : okI r.kind
  router : okU r.router
theorem T_route {as : List AV} (h : tRoute.T as) : ∃ s : PVRoute, as = s.enc ∧ s.ok := by
  simp only [tRoute, Ty.T.eq_5, TT] at h
  obtain ⟨a1, b1, rfl, ⟨a0, b0, rfl, h0, a00, b00, rfl, h00, rfl⟩, a2, b2, rfl, h2, a3, b3, rfl, h3, a4, b4, rfl, h4, a5, b5, rfl, h5, a6, b6, rfl, h6, rfl⟩ := h
  obtain ⟨x0, rfl, k0⟩ := T_u32 h0
  obtain ⟨x00, rfl, k00⟩ := T_i64 h00
  obtain ⟨x2, rfl, k2⟩ := T_attrs h2
  obtain ⟨x3, rfl, k3⟩ := T_i64 h3
  obtain ⟨x4, rfl, k4⟩ := T_i64 h4
  obtain ⟨x5, rfl, k5⟩ := T_u32 h5
  obtain ⟨x6, rfl⟩ := h6
  exact ⟨⟨x0, x00, x2, x3, x4, x5, x6⟩, rfl, k0, k00, k2, k3, k4, k5⟩
end Go.AM.IR
set_option maxHeartbeats 4000000
set_option maxRecDepth 20000
namespace Go.AM.IR
theorem sizeS_le {a : Attrs} (h : AB a) : LenB a where
  path := h.path
  segs s hs := by
    have h1 := h.flat
    have h2 : s.as.length ≤ (flatS a.path).length := by
      unfold flatS
      obtain ⟨p, q, e⟩ := List.append_of_mem hs
      rw [e]; simp; omega
    omega
  comms := h.comms
  clusters := h.clusters
  unknown := h.unknown
  vals := h.vals
theorem law58_gives (a : Attrs) (h : AB a) : Gives G 58 [.agg a.enc] [] ⟨.bool true, []⟩ := by
  have hl := sizeS_le h
  refine gives_code (F := f58) rfl rfl (W_ok 300 _ _ _ _ ?_)
  repeat' ((conv => whnf); first | refine zN ?_ | refine zC ?_ | refine zC4 ?_ | refine zC1 ?_ | refine zC8 ?_ | refine zQ ?_ | refine zR ?_ | refine zS ?_ | refine zA ?_ | refine zM ?_ | refine xr rfl ?_ | refine ai rfl ?_ | refine condT ?_ | refine condF ?_ | refine condG1 ?_ | refine condG0 ?_ | refine cD ?_ | refine dD ?_ | refine cB ?_ | refine dB ?_ | refine cN ?_ | refine dN ?_ | refine cV ?_ | refine dV ?_ | refine cE ?_ | refine dE ?_ | refine condX0 ?_ | refine condX1 ?_ | refine condNot ?_ | refine condAnd ?_ | refine condOr ?_ | refine aO ?_ | refine aB ?_ | refine aR ?_ | refine xr (by assumption) ?_ | refine ai (by assumption) ?_ | refine callV (large_gives21 a h) (by simp [pureL, AV.pure]) (by simp [AV.dry, dryL]) ?_ | refine callV (awake36_gives) (by simp [pureL, AV.pure]) (by simp [AV.dry, dryL]) ?_ | refine callV (check_gives65 a hl) (by simp [pureL, AV.pure]) (by simp [AV.dry, dryL]) ?_ | refine callV (check_gives66 a hl) (by simp [pureL, AV.pure]) (by simp [AV.dry, dryL]) ?_ | refine condD (fun h => ?_) (fun h => ?_) | refine condB (fun h => ?_) (fun h => ?_) | refine condN (fun h => ?_) (fun h => ?_) | refine condE (fun h => ?_) (fun h => ?_) | refine condV (fun h => ?_) (fun h => ?_))
  all_goals try ((first | refine ev_fin (And.intro (by first | rfl | simp [AV.pure, pureL]) ?_) | refine ev_fin0 (And.intro (by first | rfl | simp [AV.pure, pureL]) ?_)); first | rfl | (simp [Bool.cond_eq_ite, *]; done) | (simp [Bool.cond_eq_ite, *]; omega))
end Go.AM.IR
namespace Go.AM.IR
set_option maxHeartbeats 2000000
theorem bkLL_map_le {α : Type} (f : α → List AV) (g : α → Nat) (h : ∀ x, g x ≤ bkL (f x)) : ∀ l : List α, (l.map g).sum ≤ bkLL (l.map f)
  | [] => by simp
  | x :: r => by
    have := bkLL_map_le f g h r
    have := h x
    simp only [List.map_cons, List.sum_cons, bkLL]
    omega
theorem sum_one {α : Type} : ∀ l : List α, (l.map fun _ => 1).sum = l.length
  | [] => rfl
  | x :: r => by simp only [List.map_cons, List.sum_cons, List.length_cons, sum_one r]; omega
theorem len_bk {α : Type} (f : α → List AV) (h : ∀ x, 1 ≤ bkL (f x)) (l : List α) : l.length ≤ bkLL (l.map f) := by
  have := bkLL_map_le f (fun _ => 1) h l
  rwa [sum_one] at this
theorem mem_bk {α : Type} (f : α → List AV) : ∀ (l : List α) (x : α), x ∈ l → bkL (f x) ≤ bkLL (l.map f)
  | y :: r, x, h => by
    simp only [List.map_cons, bkLL]
    rcases List.mem_cons.1 h with rfl | h
    · omega
    · have := mem_bk f r x h; omega
theorem bk_bytes (l : List UInt8) : l.length ≤ bkLL (byteCells l) := len_bk (f := fun b : UInt8 => [AV.int .u8 (b.toNat : Int)]) (fun _ => by simp [bkL, AV.bk]) l
theorem seg_bk (s : Seg) : s.as.length + 1 ≤ bkL s.enc := by
  have := len_bk encI (fun _ => by simp [encI, bkL, AV.bk]) s.as
  simp only [Seg.enc, bkL, AV.bk]; omega
theorem tlv_bk (s : TLV) : s.value.length + 1 ≤ bkL s.enc := by
  have := bk_bytes s.value
  simp only [TLV.enc, bkL, AV.bk]; omega
theorem flat_len : ∀ l : List Seg, (flatS l).length = (l.map fun s => s.as.length).sum
  | [] => rfl
  | s :: r => by
    have := flat_len r
    simp only [flatS, List.flatMap_cons, List.length_append, List.map_cons, List.sum_cons] at this ⊢
    omega
theorem unk_le : ∀ l : List TLV, unkS l ≤ ((l.map fun t => t.value.length).sum : Nat)
  | [] => by simp [unkS]
  | t :: r => by
    have := unk_le r
    simp only [unkS, List.map_cons, List.sum_cons] at this ⊢
    omega
theorem ab_of (a : Attrs) (h : bkL a.enc ≤ 1048576) : AB a := by
  simp only [Attrs.enc, bkL, AV.bk] at h
  have h1 := len_bk Seg.enc (fun s => by have := seg_bk s; omega) a.path
  have h2 := bkLL_map_le Seg.enc (fun s => s.as.length) (fun s => by have := seg_bk s; omega) a.path
  have h3 := len_bk encU (fun _ => by simp [encU, bkL, AV.bk]) a.comms
  have h4 := len_bk encU (fun _ => by simp [encU, bkL, AV.bk]) a.clusters
  have h5 := len_bk TLV.enc (fun s => by have := tlv_bk s; omega) a.unknown
  have h6 := bkLL_map_le TLV.enc (fun t => t.value.length) (fun s => by have := tlv_bk s; omega) a.unknown
  have h7 := unk_le a.unknown
  rw [← flat_len] at h2
  generalize bkLL (a.path.map Seg.enc) = z1 at *
  generalize bkLL (a.comms.map encU) = z2 at *
  generalize bkLL (a.clusters.map encU) = z3 at *
  refine ⟨by omega, by omega, by omega, by omega, by omega, fun t ht => ?_, by omega⟩
  have := mem_bk TLV.enc a.unknown t ht
  have := tlv_bk t
  omega
end Go.AM.IR
set_option maxHeartbeats 4000000
set_option maxRecDepth 20000
namespace Go.AM.IR
theorem law58_all (ass : List (List AV)) (h : ArgsT [tAttrs] ass) (hb : bkLL ass ≤ 1048576) : Gives G 58 (argsA [tAttrs] ass) [] ⟨.bool true, []⟩ := by
  obtain ⟨a, s1, rfl, h1, h⟩ := argsT_cons h
  obtain rfl := argsT_nil h
  obtain ⟨r, rfl, _⟩ := T_attrs h1
  simp only [bkLL] at hb
  exact law58_gives r (ab_of r (by omega))
end Go.AM.IR
