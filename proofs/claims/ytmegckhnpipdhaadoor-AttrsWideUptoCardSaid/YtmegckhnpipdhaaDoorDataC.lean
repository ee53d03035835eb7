/- What the functions of this program give, on the abstract machine. -/
import Derived.Test.YtmegckhnpipdhaaDoorDataB
import Derived.Test.YtmegckhnpipdhaaDoorDataA
import Derived.KernelRfl
import Derived.Test.YtmegckhnpipdhaaDoorMachineC
set_option linter.unusedVariables false
set_option linter.unusedSimpArgs false
set_option maxHeartbeats 4000000
set_option maxRecDepth 20000
namespace Go.AM.IR
def suf : Nat → ACode → ACode
  | 0, c => c
  | n + 1, .seq _ b => suf n b
  | _, c => c
structure EncV (a : Attrs) : Prop where
  origin : 0 ≤ a.origin ∧ a.origin ≤ 255
  segs : ∀ s ∈ a.path, (0 ≤ s.kind ∧ s.kind ≤ 255) ∧ s.as.length ≤ 255 ∧ ∀ x ∈ s.as, 0 ≤ x ∧ x < 2 ^ 63
  path : a.path.length < 2 ^ 20
  nextHop : 0 ≤ a.nextHop ∧ a.nextHop ≤ 4294967295
  med : 0 ≤ a.med ∧ a.med ≤ 4294967295
  pref : 0 ≤ a.pref ∧ a.pref ≤ 4294967295
  aggrAS : 0 ≤ a.aggrAS ∧ a.aggrAS ≤ 4294967295
  aggrAddr : 0 ≤ a.aggrAddr ∧ a.aggrAddr ≤ 4294967295
  comms : ∀ x ∈ a.comms, 0 ≤ x ∧ x ≤ 4294967295
  commsL : a.comms.length ≤ 255
  orig : 0 ≤ a.orig ∧ a.orig ≤ 4294967295
  clusters : ∀ x ∈ a.clusters, 0 ≤ x ∧ x ≤ 4294967295
  clustersL : a.clusters.length ≤ 64
  unknown : ∀ t ∈ a.unknown, (0 ≤ t.kind ∧ t.kind ≤ 255) ∧ t.value.length ≤ 255
  unknownL : a.unknown.length ≤ 64
def wordsB (l : List Int) : List UInt8 := l.flatMap fun x => be 4 x.toNat
def c13 (a : Attrs) : List UInt8 := a.unknown.flatMap fun t => putB t.kind t.value
def c12 (a : Attrs) : List UInt8 := if a.clusters.length > 0 then putB 10 (wordsB a.clusters) else []
def c11 (a : Attrs) : List UInt8 := if a.hasOrig = true then putB 9 (be 4 a.orig.toNat) else []
def c10 (a : Attrs) : List UInt8 := if a.comms.length > 0 then putB 8 (wordsB a.comms) else []
def c9 (a : Attrs) (w : Nat) : List UInt8 := if a.hasAggr = true then putB 7 (be w a.aggrAS.toNat ++ be 4 a.aggrAddr.toNat) else []
def c8 (a : Attrs) : List UInt8 := if a.atomic = true then putB 6 [] else []
def c7 (a : Attrs) : List UInt8 := if a.hasPref = true then putB 5 (be 4 a.pref.toNat) else []
def c6 (a : Attrs) : List UInt8 := if a.hasMED = true then putB 4 (be 4 a.med.toNat) else []
def c5 (a : Attrs) : List UInt8 := putB 3 (be 4 a.nextHop.toNat)
def c4 (a : Attrs) (w : Nat) : List UInt8 := putB 2 (pathB w a.path)
def c3 (a : Attrs) : List UInt8 := putB 1 [UInt8.ofNat a.origin.toNat]
theorem pathL_aux (w : Nat) (hw : w ≤ 4) : ∀ (p : List Seg), (∀ s ∈ p, s.as.length ≤ 255) → (pathB w p).length ≤ 1022 * p.length
  | [], _ => by simp [pathB]
  | s :: r, h => by
    have h1 := pathL_aux w hw r fun x hx => h x (by simp [hx])
    have h2 := h s (by simp)
    have h3 : w * s.as.length ≤ 4 * s.as.length := Nat.mul_le_mul_right _ hw
    simp only [pathB, List.flatMap_cons, List.length_append, segB, List.length_cons, asB_length] at h1 ⊢
    omega
theorem pathL (wide : Bool) (a : Attrs) (hv : EncV a) : (pathB (wd wide) a.path).length < 2 ^ 38 := by
  have := pathL_aux (wd wide) (wd_le wide) a.path fun s hs => (hv.segs s hs).2.1
  have := hv.path
  omega
def bdA (a : Attrs) (wide bad : Bool) : Bool := if a.hasAggr = true then badN wide bad a.aggrAS else bad
def encRet (bad : Bool) (b : List UInt8) : Ret := if bad = true then ⟨.tup [.con (.slice none 0 0), .int .i64 5], []⟩ else ⟨.tup [.vs 0 0 b.length, .int .i64 0], [(false, .vec 1 (byteCells b))]⟩
def r13 (a : Attrs) (w : Nat) : List UInt8 := c13 a
def r12 (a : Attrs) (w : Nat) : List UInt8 := c12 a ++ r13 a w
def r11 (a : Attrs) (w : Nat) : List UInt8 := c11 a ++ r12 a w
def r10 (a : Attrs) (w : Nat) : List UInt8 := c10 a ++ r11 a w
def r9 (a : Attrs) (w : Nat) : List UInt8 := c9 a w ++ r10 a w
def r8 (a : Attrs) (w : Nat) : List UInt8 := c8 a ++ r9 a w
def r7 (a : Attrs) (w : Nat) : List UInt8 := c7 a ++ r8 a w
def r6 (a : Attrs) (w : Nat) : List UInt8 := c6 a ++ r7 a w
def r5 (a : Attrs) (w : Nat) : List UInt8 := c5 a ++ r6 a w
def r4 (a : Attrs) (w : Nat) : List UInt8 := c4 a w ++ r5 a w
def r3 (a : Attrs) (w : Nat) : List UInt8 := c3 a ++ r4 a w

theorem enc67_14 (a : Attrs) (wide bad : Bool) (b : List UInt8) (T : List (Nat × AV)) (H : Heap) (c gw g : Nat) : Ev G ⟨[.code (suf 14 f67.body)], ⟨(7, .ref 81 gw 0) :: (2, .ref 66 1 0) :: (1, .bool wide) :: T, (66, some (1, .cells a.enc)) :: (81, some (gw, .cells [.vs 200 g b.length, .bool wide, .bool bad])) :: (200, some (g, .vec 1 (byteCells b))) :: H, c⟩, [.t 4, .t 5], 0⟩ (encRet bad b) := by
  cases bad
  · refine W_ok 300 _ _ _ _ ?_
    repeat' ((conv => whnf); first | refine bslP (by first | rfl | (simp [pureL, pureLL, AV.pure]; done) | fail) rfl ?_ | refine TakeC.full (by first | rfl | omega | (simp; done) | (simp; omega) | fail) ?_ | refine zBs ?_ | refine zBn ?_ | refine zBv rfl rfl ?_ | refine zN ?_ | refine zC ?_ | refine zC4 ?_ | refine zOr16 ?_ | refine zC1 ?_ | refine zByte ?_ | refine zMaxL ?_ | refine zMaxR ?_ | refine zMinL ?_ | refine zMinR ?_ | refine zShr ?_ | refine zC8 ?_ | refine zQ ?_ | refine zR ?_ | refine zS ?_ | refine zA ?_ | refine zM ?_ | refine xr rfl ?_ | refine ai rfl ?_ | refine condT ?_ | refine condF ?_ | refine condG1 ?_ | refine condG0 ?_ | refine cD ?_ | refine dD ?_ | refine cB ?_ | refine dB ?_ | refine cN ?_ | refine dN ?_ | refine cV ?_ | refine dV ?_ | refine cE ?_ | refine dE ?_ | refine condX0 ?_ | refine condX1 ?_ | refine condNot ?_ | refine condAnd ?_ | refine condOr ?_ | refine aO ?_ | refine aB ?_ | refine aR ?_ | refine aR ?_ (by simp; omega) | refine xr (by assumption) ?_ | refine ai (by assumption) ?_ | refine condD (fun h => ?_) (fun h => ?_) | refine condB (fun h => ?_) (fun h => ?_) | refine condN (fun h => ?_) (fun h => ?_) | refine condE (fun h => ?_) (fun h => ?_) | refine condV (fun h => ?_) (fun h => ?_))
    refine ev_finN [(200, g, .vec 1 (byteCells b))] ⟨⟨rfl, (by simp [Blk.pure]), trivial⟩, rfl, rfl, (by simp), ?_⟩
    simp [AV.ren, renL, φR, encRet]
  · refine W_ok 300 _ _ _ _ ?_
    repeat' ((conv => whnf); first | refine bslP (by first | rfl | (simp [pureL, pureLL, AV.pure]; done) | fail) rfl ?_ | refine TakeC.full (by first | rfl | omega | (simp; done) | (simp; omega) | fail) ?_ | refine zBs ?_ | refine zBn ?_ | refine zBv rfl rfl ?_ | refine zN ?_ | refine zC ?_ | refine zC4 ?_ | refine zOr16 ?_ | refine zC1 ?_ | refine zByte ?_ | refine zMaxL ?_ | refine zMaxR ?_ | refine zMinL ?_ | refine zMinR ?_ | refine zShr ?_ | refine zC8 ?_ | refine zQ ?_ | refine zR ?_ | refine zS ?_ | refine zA ?_ | refine zM ?_ | refine xr rfl ?_ | refine ai rfl ?_ | refine condT ?_ | refine condF ?_ | refine condG1 ?_ | refine condG0 ?_ | refine cD ?_ | refine dD ?_ | refine cB ?_ | refine dB ?_ | refine cN ?_ | refine dN ?_ | refine cV ?_ | refine dV ?_ | refine cE ?_ | refine dE ?_ | refine condX0 ?_ | refine condX1 ?_ | refine condNot ?_ | refine condAnd ?_ | refine condOr ?_ | refine aO ?_ | refine aB ?_ | refine aR ?_ | refine aR ?_ (by simp; omega) | refine xr (by assumption) ?_ | refine ai (by assumption) ?_ | refine condD (fun h => ?_) (fun h => ?_) | refine condB (fun h => ?_) (fun h => ?_) | refine condN (fun h => ?_) (fun h => ?_) | refine condE (fun h => ?_) (fun h => ?_) | refine condV (fun h => ?_) (fun h => ?_))
    (first | refine ev_fin (And.intro (by first | rfl | (simp [AV.pure, pureL]; done) | fail) ?_) | refine ev_fin0 (And.intro (by first | rfl | (simp [AV.pure, pureL]; done) | fail) ?_))
    rfl
theorem unk_loop67 (l : List TLV) (a : Attrs) (wide bad : Bool) (gw : Nat) (hv : EncV a) (ha : a.unknown = l) (b0 : List UInt8) (hb : (b0 ++ c13 a).length < 2 ^ 37) (hl : l.length < 2 ^ 40) (ln : Int) (hln : ln = l.length) : ∀ (rest done : List TLV) (g n1 : Nat) (es : List (List AV)) (T : List (Nat × AV)) (H : Heap) (c : Nat) (n : Int) (e : l = done ++ rest) (hn : n = done.length) (hn1 : n1 = (b0 ++ done.flatMap fun t => putB t.kind t.value).length) (hes : es = byteCells (b0 ++ done.flatMap fun t => putB t.kind t.value)), Ev G ⟨f67x27LH, ⟨(102, .sl 2 (l.map TLV.enc)) :: (103, .int .i64 ln) :: (104, .int .i64 n) :: (7, .ref 81 gw 0) :: T, (81, some (gw, .cells [.vs 200 g n1, .bool wide, .bool bad])) :: (200, some (g, .vec 1 es)) :: H, c⟩, [.t 4, .t 5], 0⟩ (encRet bad (b0 ++ c13 a))
  | [], done, g, n1, es, T, H, c, n, e, hn, hn1, hes => by
    have hd : l.length = done.length := by simp [e]
    have hll : (l.map TLV.enc).length = l.length := by simp
    obtain rfl : l = done := by simpa using e
    subst hn1 hes
    cases bad
    · refine ev_loop' (W_ok 300 _ _ _ _ ?_)
      repeat' ((conv => whnf); first | refine bslP (by first | rfl | (simp [pureL, pureLL, AV.pure]; done) | fail) rfl ?_ | refine TakeC.full (by first | rfl | omega | (simp; done) | (simp; omega) | fail) ?_ | refine zBs ?_ | refine zBn ?_ | refine zBv rfl rfl ?_ | refine zN ?_ | refine zC ?_ | refine zC4 ?_ | refine zOr16 ?_ | refine zC1 ?_ | refine zByte ?_ | refine zMaxL ?_ | refine zMaxR ?_ | refine zMinL ?_ | refine zMinR ?_ | refine zShr ?_ | refine zC8 ?_ | refine zQ ?_ | refine zR ?_ | refine zS ?_ | refine zA ?_ | refine zM ?_ | refine xr rfl ?_ | refine ai rfl ?_ | refine condT ?_ | refine condF ?_ | refine condG1 ?_ | refine condG0 ?_ | refine cD ?_ | refine dD ?_ | refine cB ?_ | refine dB ?_ | refine cN ?_ | refine dN ?_ | refine cV ?_ | refine dV ?_ | refine cE ?_ | refine dE ?_ | refine condX0 ?_ | refine condX1 ?_ | refine condNot ?_ | refine condAnd ?_ | refine condOr ?_ | refine aO ?_ | refine aB ?_ | refine aR ?_ | refine aR ?_ (by simp; omega) | refine xr (by assumption) ?_ | refine ai (by assumption) ?_ | refine condD (fun h => ?_) (fun h => ?_) | refine condB (fun h => ?_) (fun h => ?_) | refine condN (fun h => ?_) (fun h => ?_) | refine condE (fun h => ?_) (fun h => ?_) | refine condV (fun h => ?_) (fun h => ?_))
      refine ev_finN [(200, g, .vec 1 (byteCells _))] ⟨⟨rfl, (by simp [Blk.pure]), trivial⟩, rfl, rfl, (by simp), ?_⟩
      simp [AV.ren, renL, φR, encRet, c13, ha]
    · refine ev_loop' (W_ok 300 _ _ _ _ ?_)
      repeat' ((conv => whnf); first | refine bslP (by first | rfl | (simp [pureL, pureLL, AV.pure]; done) | fail) rfl ?_ | refine TakeC.full (by first | rfl | omega | (simp; done) | (simp; omega) | fail) ?_ | refine zBs ?_ | refine zBn ?_ | refine zBv rfl rfl ?_ | refine zN ?_ | refine zC ?_ | refine zC4 ?_ | refine zOr16 ?_ | refine zC1 ?_ | refine zByte ?_ | refine zMaxL ?_ | refine zMaxR ?_ | refine zMinL ?_ | refine zMinR ?_ | refine zShr ?_ | refine zC8 ?_ | refine zQ ?_ | refine zR ?_ | refine zS ?_ | refine zA ?_ | refine zM ?_ | refine xr rfl ?_ | refine ai rfl ?_ | refine condT ?_ | refine condF ?_ | refine condG1 ?_ | refine condG0 ?_ | refine cD ?_ | refine dD ?_ | refine cB ?_ | refine dB ?_ | refine cN ?_ | refine dN ?_ | refine cV ?_ | refine dV ?_ | refine cE ?_ | refine dE ?_ | refine condX0 ?_ | refine condX1 ?_ | refine condNot ?_ | refine condAnd ?_ | refine condOr ?_ | refine aO ?_ | refine aB ?_ | refine aR ?_ | refine aR ?_ (by simp; omega) | refine xr (by assumption) ?_ | refine ai (by assumption) ?_ | refine condD (fun h => ?_) (fun h => ?_) | refine condB (fun h => ?_) (fun h => ?_) | refine condN (fun h => ?_) (fun h => ?_) | refine condE (fun h => ?_) (fun h => ?_) | refine condV (fun h => ?_) (fun h => ?_))
      (first | refine ev_fin (And.intro (by first | rfl | (simp [AV.pure, pureL]; done) | fail) ?_) | refine ev_fin0 (And.intro (by first | rfl | (simp [AV.pure, pureL]; done) | fail) ?_))
      rfl
  | x :: r, done, g, n1, es, T, H, c, n, e, hn, hn1, hes => by
    have hd : l.length = done.length + (r.length + 1) := by simp [e]
    have hll : (l.map TLV.enc).length = l.length := by simp
    have hx : (l.map TLV.enc)[n.toNat]? = some (TLV.enc x) := by simp [e, hn]
    obtain ⟨⟨hk0, hk1⟩, hxl⟩ := hv.unknown x (by rw [ha, e]; simp)
    subst hn1 hes
    have hb2 : (b0 ++ done.flatMap fun t => putB t.kind t.value).length ≤ (b0 ++ c13 a).length := by simp [c13, ha, e]
    have hput := put_gives83 [x.value] x.kind wide bad (b0 ++ done.flatMap fun t => putB t.kind t.value) (by simp) hk0 hk1 (by omega) (by simp [cat]; omega)
    rw [show cat [x.value] = x.value from by simp [cat]] at hput
    refine ev_loop' (W_ok 300 _ _ _ _ ?_)
    repeat' ((conv => whnf); first | refine bslP (by first | rfl | (simp [pureL, pureLL, AV.pure]; done) | fail) rfl ?_ | refine TakeC.full (by first | rfl | omega | (simp; done) | (simp; omega) | fail) ?_ | refine zBs ?_ | refine zBn ?_ | refine zBv rfl rfl ?_ | refine zN ?_ | refine zC ?_ | refine zC4 ?_ | refine zOr16 ?_ | refine zC1 ?_ | refine zByte ?_ | refine zMaxL ?_ | refine zMaxR ?_ | refine zMinL ?_ | refine zMinR ?_ | refine zShr ?_ | refine zC8 ?_ | refine zQ ?_ | refine zR ?_ | refine zS ?_ | refine zA ?_ | refine zM ?_ | refine xr rfl ?_ | refine ai rfl ?_ | refine condT ?_ | refine condF ?_ | refine condG1 ?_ | refine condG0 ?_ | refine cD ?_ | refine dD ?_ | refine cB ?_ | refine dB ?_ | refine cN ?_ | refine dN ?_ | refine cV ?_ | refine dV ?_ | refine cE ?_ | refine dE ?_ | refine condX0 ?_ | refine condX1 ?_ | refine condNot ?_ | refine condAnd ?_ | refine condOr ?_ | refine aO ?_ | refine aB ?_ | refine aR ?_ | refine aR ?_ (by simp; omega) | refine xr (by assumption) ?_ | refine ai (by assumption) ?_ | refine kX [(81, _, _), (200, _, _)] [(177, _, _)] ⟨rfl, rfl, trivial⟩ ⟨rfl, pz trivial⟩ (hput) ?_ | refine condD (fun h => ?_) (fun h => ?_) | refine condB (fun h => ?_) (fun h => ?_) | refine condN (fun h => ?_) (fun h => ?_) | refine condE (fun h => ?_) (fun h => ?_) | refine condV (fun h => ?_) (fun h => ?_))
    refine ev_keep [102, 103, 104, 7] [81, 200] ?_; exact unk_loop67 l a wide bad gw hv ha b0 hb hl ln hln r (done ++ [x]) _ _ _ _ _ _ (n + 1) (by simp [e]) (by simp [hn] <;> omega) (by simp) (by simp)

theorem enc67_13 (a : Attrs) (hv : EncV a) (wide bad : Bool) (b : List UInt8) (T : List (Nat × AV)) (H : Heap) (c gw g : Nat) (hb : (b ++ r13 a (wd wide)).length < 2 ^ 37) : Ev G ⟨[.code (suf 13 f67.body)], ⟨(7, .ref 81 gw 0) :: (2, .ref 66 1 0) :: (1, .bool wide) :: T, (66, some (1, .cells a.enc)) :: (81, some (gw, .cells [.vs 200 g b.length, .bool wide, .bool bad])) :: (200, some (g, .vec 1 (byteCells b))) :: H, c⟩, [.t 4, .t 5], 0⟩ (encRet bad (b ++ r13 a (wd wide))) := by
  refine ev_seq (b := suf 14 f67.body) ?_
  refine W_ok 300 _ _ _ _ ?_
  repeat' ((conv => whnf); first | refine bslP (by first | rfl | (simp [pureL, pureLL, AV.pure]; done) | fail) rfl ?_ | refine TakeC.full (by first | rfl | omega | (simp; done) | (simp; omega) | fail) ?_ | refine zBs ?_ | refine zBn ?_ | refine zBv rfl rfl ?_ | refine zN ?_ | refine zC ?_ | refine zC4 ?_ | refine zOr16 ?_ | refine zC1 ?_ | refine zByte ?_ | refine zMaxL ?_ | refine zMaxR ?_ | refine zMinL ?_ | refine zMinR ?_ | refine zShr ?_ | refine zC8 ?_ | refine zQ ?_ | refine zR ?_ | refine zS ?_ | refine zA ?_ | refine zM ?_ | refine xr rfl ?_ | refine ai rfl ?_ | refine condT ?_ | refine condF ?_ | refine condG1 ?_ | refine condG0 ?_ | refine cD ?_ | refine dD ?_ | refine cB ?_ | refine dB ?_ | refine cN ?_ | refine dN ?_ | refine cV ?_ | refine dV ?_ | refine cE ?_ | refine dE ?_ | refine condX0 ?_ | refine condX1 ?_ | refine condNot ?_ | refine condAnd ?_ | refine condOr ?_ | refine aO ?_ | refine aB ?_ | refine aR ?_ | refine aR ?_ (by simp; omega) | refine xr (by assumption) ?_ | refine ai (by assumption) ?_ | refine condD (fun h => ?_) (fun h => ?_) | refine condB (fun h => ?_) (fun h => ?_) | refine condN (fun h => ?_) (fun h => ?_) | refine condE (fun h => ?_) (fun h => ?_) | refine condV (fun h => ?_) (fun h => ?_))
  refine ev_keep [102, 103, 104, 7] [81, 200] ?_
  have hu := hv.unknownL
  exact unk_loop67 a.unknown a wide bad gw hv rfl b hb (by omega) _ (by simp) a.unknown [] g b.length (byteCells b) _ _ _ 0 rfl rfl (by simp) (by simp)

theorem enc67_12 (a : Attrs) (hv : EncV a) (wide bad : Bool) (b : List UInt8) (T : List (Nat × AV)) (H : Heap) (c gw g : Nat) (hb : (b ++ r12 a (wd wide)).length < 2 ^ 37) : Ev G ⟨[.code (suf 12 f67.body)], ⟨(7, .ref 81 gw 0) :: (2, .ref 66 1 0) :: (1, .bool wide) :: T, (66, some (1, .cells a.enc)) :: (81, some (gw, .cells [.vs 200 g b.length, .bool wide, .bool bad])) :: (200, some (g, .vec 1 (byteCells b))) :: H, c⟩, [.t 4, .t 5], 0⟩ (encRet (bad) (b ++ r12 a (wd wide))) := by
  have hf := hv.clusters
  have hcl := hv.clustersL
  have hcm := hv.commsL
  have hll1 : (a.clusters.map encU).length = a.clusters.length := by simp
  have hll2 : (a.comms.map encU).length = a.comms.length := by simp
  have hbl : b.length < 2 ^ 37 := by simp at hb; omega
  by_cases hc : a.clusters.length > 0
  · have hq : b ++ r12 a (wd wide) = (b ++ putB 10 (wordsB a.clusters)) ++ r13 a (wd wide) := by simp [r12, c12, hc]
    have hcat : cat [wordsB a.clusters] = wordsB a.clusters := by simp [cat]
    have hvl : (wordsB a.clusters).length < 2 ^ 38 := by first | (rw [be_length]; omega) | (rw [wordsB, fm_length]; omega)
    have hput := put_gives83 [wordsB a.clusters] 10 wide bad b (by simp) (by omega) (by omega) (by omega) (by rw [hcat]; exact hvl)
    rw [hcat] at hput
    rw [hq] at hb ⊢
    refine ev_seq (b := suf 13 f67.body) ?_
    refine W_okd 1 300 _ _ _ _ ?_
    repeat' ((conv => whnf); first | refine bslP (by first | rfl | (simp [pureL, pureLL, AV.pure]; done) | fail) rfl ?_ | refine TakeC.full (by first | rfl | omega | (simp; done) | (simp; omega) | fail) ?_ | refine zBs ?_ | refine zBn ?_ | refine zBv rfl rfl ?_ | refine zN ?_ | refine zC ?_ | refine zC4 ?_ | refine zOr16 ?_ | refine zC1 ?_ | refine zByte ?_ | refine zMaxL ?_ | refine zMaxR ?_ | refine zMinL ?_ | refine zMinR ?_ | refine zShr ?_ | refine zC8 ?_ | refine zQ ?_ | refine zR ?_ | refine zS ?_ | refine zA ?_ | refine zM ?_ | refine xr rfl ?_ | refine ai rfl ?_ | refine condT ?_ | refine condF ?_ | refine condG1 ?_ | refine condG0 ?_ | refine cD ?_ | refine dD ?_ | refine cB ?_ | refine dB ?_ | refine cN ?_ | refine dN ?_ | refine cV ?_ | refine dV ?_ | refine cE ?_ | refine dE ?_ | refine condX0 ?_ | refine condX1 ?_ | refine condNot ?_ | refine condAnd ?_ | refine condOr ?_ | refine aO ?_ | refine aB ?_ | refine aR ?_ | refine aR ?_ (by simp; omega) | refine xr (by assumption) ?_ | refine ai (by assumption) ?_ | refine kN (words_gives87 a.clusters (by omega) hv.clusters) ?_ | refine kB [(162, _, _)] ⟨rfl, pz trivial⟩ ?_ | refine kX [(81, _, _), (200, _, _)] [(163, _, _)] ⟨rfl, rfl, trivial⟩ ⟨rfl, pz trivial⟩ (hput) ?_ | refine condD (fun h => ?_) (fun h => ?_) | refine condB (fun h => ?_) (fun h => ?_) | refine condN (fun h => ?_) (fun h => ?_) | refine condE (fun h => ?_) (fun h => ?_) | refine condV (fun h => ?_) (fun h => ?_))
    refine ev_keep [7, 2, 1] [66, 81, 200] ?_
    exact enc67_13 a hv wide bad _ _ _ _ _ _ hb
  · have hq : b ++ r12 a (wd wide) = b ++ r13 a (wd wide) := by simp [r12, c12, hc]
    rw [hq] at hb ⊢
    refine ev_seq (b := suf 13 f67.body) ?_
    try simp only [Bool.not_eq_true] at hc
    refine W_okd 1 300 _ _ _ _ ?_
    repeat' ((conv => whnf); first | refine bslP (by first | rfl | (simp [pureL, pureLL, AV.pure]; done) | fail) rfl ?_ | refine TakeC.full (by first | rfl | omega | (simp; done) | (simp; omega) | fail) ?_ | refine zBs ?_ | refine zBn ?_ | refine zBv rfl rfl ?_ | refine zN ?_ | refine zC ?_ | refine zC4 ?_ | refine zOr16 ?_ | refine zC1 ?_ | refine zByte ?_ | refine zMaxL ?_ | refine zMaxR ?_ | refine zMinL ?_ | refine zMinR ?_ | refine zShr ?_ | refine zC8 ?_ | refine zQ ?_ | refine zR ?_ | refine zS ?_ | refine zA ?_ | refine zM ?_ | refine xr rfl ?_ | refine ai rfl ?_ | refine condT ?_ | refine condF ?_ | refine condG1 ?_ | refine condG0 ?_ | refine cD ?_ | refine dD ?_ | refine cB ?_ | refine dB ?_ | refine cN ?_ | refine dN ?_ | refine cV ?_ | refine dV ?_ | refine cE ?_ | refine dE ?_ | refine condX0 ?_ | refine condX1 ?_ | refine condNot ?_ | refine condAnd ?_ | refine condOr ?_ | refine aO ?_ | refine aB ?_ | refine aR ?_ | refine aR ?_ (by simp; omega) | refine xr (by assumption) ?_ | refine ai (by assumption) ?_ | refine condD (fun h => ?_) (fun h => ?_) | refine condB (fun h => ?_) (fun h => ?_) | refine condN (fun h => ?_) (fun h => ?_) | refine condE (fun h => ?_) (fun h => ?_) | refine condV (fun h => ?_) (fun h => ?_))
    refine ev_keep [7, 2, 1] [66, 81, 200] ?_
    exact enc67_13 a hv wide bad _ _ _ _ _ _ hb

theorem enc67_11 (a : Attrs) (hv : EncV a) (wide bad : Bool) (b : List UInt8) (T : List (Nat × AV)) (H : Heap) (c gw g : Nat) (hb : (b ++ r11 a (wd wide)).length < 2 ^ 37) : Ev G ⟨[.code (suf 11 f67.body)], ⟨(7, .ref 81 gw 0) :: (2, .ref 66 1 0) :: (1, .bool wide) :: T, (66, some (1, .cells a.enc)) :: (81, some (gw, .cells [.vs 200 g b.length, .bool wide, .bool bad])) :: (200, some (g, .vec 1 (byteCells b))) :: H, c⟩, [.t 4, .t 5], 0⟩ (encRet (bad) (b ++ r11 a (wd wide))) := by
  have hf := hv.orig
  have hcl := hv.clustersL
  have hcm := hv.commsL
  have hll1 : (a.clusters.map encU).length = a.clusters.length := by simp
  have hll2 : (a.comms.map encU).length = a.comms.length := by simp
  have hbl : b.length < 2 ^ 37 := by simp at hb; omega
  by_cases hc : a.hasOrig = true
  · have hq : b ++ r11 a (wd wide) = (b ++ putB 9 (be 4 a.orig.toNat)) ++ r12 a (wd wide) := by simp [r11, c11, hc]
    have hcat : cat [be 4 a.orig.toNat] = be 4 a.orig.toNat := by simp [cat]
    have hvl : (be 4 a.orig.toNat).length < 2 ^ 38 := by first | (rw [be_length]; omega) | (rw [wordsB, fm_length]; omega)
    have hput := put_gives83 [be 4 a.orig.toNat] 9 wide bad b (by simp) (by omega) (by omega) (by omega) (by rw [hcat]; exact hvl)
    rw [hcat] at hput
    rw [hq] at hb ⊢
    refine ev_seq (b := suf 12 f67.body) ?_
    refine W_okd 1 300 _ _ _ _ ?_
    repeat' ((conv => whnf); first | refine bslP (by first | rfl | (simp [pureL, pureLL, AV.pure]; done) | fail) rfl ?_ | refine TakeC.full (by first | rfl | omega | (simp; done) | (simp; omega) | fail) ?_ | refine zBs ?_ | refine zBn ?_ | refine zBv rfl rfl ?_ | refine zN ?_ | refine zC ?_ | refine zC4 ?_ | refine zOr16 ?_ | refine zC1 ?_ | refine zByte ?_ | refine zMaxL ?_ | refine zMaxR ?_ | refine zMinL ?_ | refine zMinR ?_ | refine zShr ?_ | refine zC8 ?_ | refine zQ ?_ | refine zR ?_ | refine zS ?_ | refine zA ?_ | refine zM ?_ | refine xr rfl ?_ | refine ai rfl ?_ | refine condT ?_ | refine condF ?_ | refine condG1 ?_ | refine condG0 ?_ | refine cD ?_ | refine dD ?_ | refine cB ?_ | refine dB ?_ | refine cN ?_ | refine dN ?_ | refine cV ?_ | refine dV ?_ | refine cE ?_ | refine dE ?_ | refine condX0 ?_ | refine condX1 ?_ | refine condNot ?_ | refine condAnd ?_ | refine condOr ?_ | refine aO ?_ | refine aB ?_ | refine aR ?_ | refine aR ?_ (by simp; omega) | refine xr (by assumption) ?_ | refine ai (by assumption) ?_ | refine kN (number85 a.orig (by omega) (by omega)) ?_ | refine kB [(152, _, _)] ⟨rfl, pz trivial⟩ ?_ | refine kX [(81, _, _), (200, _, _)] [(153, _, _)] ⟨rfl, rfl, trivial⟩ ⟨rfl, pz trivial⟩ (hput) ?_ | refine condD (fun h => ?_) (fun h => ?_) | refine condB (fun h => ?_) (fun h => ?_) | refine condN (fun h => ?_) (fun h => ?_) | refine condE (fun h => ?_) (fun h => ?_) | refine condV (fun h => ?_) (fun h => ?_))
    refine ev_keep [7, 2, 1] [66, 81, 200] ?_
    exact enc67_12 a hv wide bad _ _ _ _ _ _ hb
  · have hq : b ++ r11 a (wd wide) = b ++ r12 a (wd wide) := by simp [r11, c11, hc]
    rw [hq] at hb ⊢
    refine ev_seq (b := suf 12 f67.body) ?_
    try simp only [Bool.not_eq_true] at hc
    refine W_okd 1 300 _ _ _ _ ?_
    repeat' ((conv => whnf); first | refine bslP (by first | rfl | (simp [pureL, pureLL, AV.pure]; done) | fail) rfl ?_ | refine TakeC.full (by first | rfl | omega | (simp; done) | (simp; omega) | fail) ?_ | refine zBs ?_ | refine zBn ?_ | refine zBv rfl rfl ?_ | refine zN ?_ | refine zC ?_ | refine zC4 ?_ | refine zOr16 ?_ | refine zC1 ?_ | refine zByte ?_ | refine zMaxL ?_ | refine zMaxR ?_ | refine zMinL ?_ | refine zMinR ?_ | refine zShr ?_ | refine zC8 ?_ | refine zQ ?_ | refine zR ?_ | refine zS ?_ | refine zA ?_ | refine zM ?_ | refine xr rfl ?_ | refine ai rfl ?_ | refine condT ?_ | refine condF ?_ | refine condG1 ?_ | refine condG0 ?_ | refine cD ?_ | refine dD ?_ | refine cB ?_ | refine dB ?_ | refine cN ?_ | refine dN ?_ | refine cV ?_ | refine dV ?_ | refine cE ?_ | refine dE ?_ | refine condX0 ?_ | refine condX1 ?_ | refine condNot ?_ | refine condAnd ?_ | refine condOr ?_ | refine aO ?_ | refine aB ?_ | refine aR ?_ | refine aR ?_ (by simp; omega) | refine xr (by assumption) ?_ | refine ai (by assumption) ?_ | refine condD (fun h => ?_) (fun h => ?_) | refine condB (fun h => ?_) (fun h => ?_) | refine condN (fun h => ?_) (fun h => ?_) | refine condE (fun h => ?_) (fun h => ?_) | refine condV (fun h => ?_) (fun h => ?_))
    refine ev_keep [7, 2, 1] [66, 81, 200] ?_
    exact enc67_12 a hv wide bad _ _ _ _ _ _ hb

theorem enc67_10 (a : Attrs) (hv : EncV a) (wide bad : Bool) (b : List UInt8) (T : List (Nat × AV)) (H : Heap) (c gw g : Nat) (hb : (b ++ r10 a (wd wide)).length < 2 ^ 37) : Ev G ⟨[.code (suf 10 f67.body)], ⟨(7, .ref 81 gw 0) :: (2, .ref 66 1 0) :: (1, .bool wide) :: T, (66, some (1, .cells a.enc)) :: (81, some (gw, .cells [.vs 200 g b.length, .bool wide, .bool bad])) :: (200, some (g, .vec 1 (byteCells b))) :: H, c⟩, [.t 4, .t 5], 0⟩ (encRet (bad) (b ++ r10 a (wd wide))) := by
  have hf := hv.comms
  have hcl := hv.clustersL
  have hcm := hv.commsL
  have hll1 : (a.clusters.map encU).length = a.clusters.length := by simp
  have hll2 : (a.comms.map encU).length = a.comms.length := by simp
  have hbl : b.length < 2 ^ 37 := by simp at hb; omega
  by_cases hc : a.comms.length > 0
  · have hq : b ++ r10 a (wd wide) = (b ++ putB 8 (wordsB a.comms)) ++ r11 a (wd wide) := by simp [r10, c10, hc]
    have hcat : cat [wordsB a.comms] = wordsB a.comms := by simp [cat]
    have hvl : (wordsB a.comms).length < 2 ^ 38 := by first | (rw [be_length]; omega) | (rw [wordsB, fm_length]; omega)
    have hput := put_gives83 [wordsB a.comms] 8 wide bad b (by simp) (by omega) (by omega) (by omega) (by rw [hcat]; exact hvl)
    rw [hcat] at hput
    rw [hq] at hb ⊢
    refine ev_seq (b := suf 11 f67.body) ?_
    refine W_okd 1 300 _ _ _ _ ?_
    repeat' ((conv => whnf); first | refine bslP (by first | rfl | (simp [pureL, pureLL, AV.pure]; done) | fail) rfl ?_ | refine TakeC.full (by first | rfl | omega | (simp; done) | (simp; omega) | fail) ?_ | refine zBs ?_ | refine zBn ?_ | refine zBv rfl rfl ?_ | refine zN ?_ | refine zC ?_ | refine zC4 ?_ | refine zOr16 ?_ | refine zC1 ?_ | refine zByte ?_ | refine zMaxL ?_ | refine zMaxR ?_ | refine zMinL ?_ | refine zMinR ?_ | refine zShr ?_ | refine zC8 ?_ | refine zQ ?_ | refine zR ?_ | refine zS ?_ | refine zA ?_ | refine zM ?_ | refine xr rfl ?_ | refine ai rfl ?_ | refine condT ?_ | refine condF ?_ | refine condG1 ?_ | refine condG0 ?_ | refine cD ?_ | refine dD ?_ | refine cB ?_ | refine dB ?_ | refine cN ?_ | refine dN ?_ | refine cV ?_ | refine dV ?_ | refine cE ?_ | refine dE ?_ | refine condX0 ?_ | refine condX1 ?_ | refine condNot ?_ | refine condAnd ?_ | refine condOr ?_ | refine aO ?_ | refine aB ?_ | refine aR ?_ | refine aR ?_ (by simp; omega) | refine xr (by assumption) ?_ | refine ai (by assumption) ?_ | refine kN (words_gives87 a.comms (by omega) hv.comms) ?_ | refine kB [(143, _, _)] ⟨rfl, pz trivial⟩ ?_ | refine kX [(81, _, _), (200, _, _)] [(144, _, _)] ⟨rfl, rfl, trivial⟩ ⟨rfl, pz trivial⟩ (hput) ?_ | refine condD (fun h => ?_) (fun h => ?_) | refine condB (fun h => ?_) (fun h => ?_) | refine condN (fun h => ?_) (fun h => ?_) | refine condE (fun h => ?_) (fun h => ?_) | refine condV (fun h => ?_) (fun h => ?_))
    refine ev_keep [7, 2, 1] [66, 81, 200] ?_
    exact enc67_11 a hv wide bad _ _ _ _ _ _ hb
  · have hq : b ++ r10 a (wd wide) = b ++ r11 a (wd wide) := by simp [r10, c10, hc]
    rw [hq] at hb ⊢
    refine ev_seq (b := suf 11 f67.body) ?_
    try simp only [Bool.not_eq_true] at hc
    refine W_okd 1 300 _ _ _ _ ?_
    repeat' ((conv => whnf); first | refine bslP (by first | rfl | (simp [pureL, pureLL, AV.pure]; done) | fail) rfl ?_ | refine TakeC.full (by first | rfl | omega | (simp; done) | (simp; omega) | fail) ?_ | refine zBs ?_ | refine zBn ?_ | refine zBv rfl rfl ?_ | refine zN ?_ | refine zC ?_ | refine zC4 ?_ | refine zOr16 ?_ | refine zC1 ?_ | refine zByte ?_ | refine zMaxL ?_ | refine zMaxR ?_ | refine zMinL ?_ | refine zMinR ?_ | refine zShr ?_ | refine zC8 ?_ | refine zQ ?_ | refine zR ?_ | refine zS ?_ | refine zA ?_ | refine zM ?_ | refine xr rfl ?_ | refine ai rfl ?_ | refine condT ?_ | refine condF ?_ | refine condG1 ?_ | refine condG0 ?_ | refine cD ?_ | refine dD ?_ | refine cB ?_ | refine dB ?_ | refine cN ?_ | refine dN ?_ | refine cV ?_ | refine dV ?_ | refine cE ?_ | refine dE ?_ | refine condX0 ?_ | refine condX1 ?_ | refine condNot ?_ | refine condAnd ?_ | refine condOr ?_ | refine aO ?_ | refine aB ?_ | refine aR ?_ | refine aR ?_ (by simp; omega) | refine xr (by assumption) ?_ | refine ai (by assumption) ?_ | refine condD (fun h => ?_) (fun h => ?_) | refine condB (fun h => ?_) (fun h => ?_) | refine condN (fun h => ?_) (fun h => ?_) | refine condE (fun h => ?_) (fun h => ?_) | refine condV (fun h => ?_) (fun h => ?_))
    refine ev_keep [7, 2, 1] [66, 81, 200] ?_
    exact enc67_11 a hv wide bad _ _ _ _ _ _ hb

theorem enc67_9 (a : Attrs) (hv : EncV a) (wide bad : Bool) (b : List UInt8) (T : List (Nat × AV)) (H : Heap) (c gw g : Nat) (hb : (b ++ r9 a (wd wide)).length < 2 ^ 37) : Ev G ⟨[.code (suf 9 f67.body)], ⟨(7, .ref 81 gw 0) :: (2, .ref 66 1 0) :: (1, .bool wide) :: T, (66, some (1, .cells a.enc)) :: (81, some (gw, .cells [.vs 200 g b.length, .bool wide, .bool bad])) :: (200, some (g, .vec 1 (byteCells b))) :: H, c⟩, [.t 4, .t 5], 0⟩ (encRet (bdA a wide bad) (b ++ r9 a (wd wide))) := by
  have hf := hv.aggrAS
  have hf2 := hv.aggrAddr
  have hbl : b.length < 2 ^ 37 := by simp at hb; omega
  by_cases hc : a.hasAggr = true
  · have hq : b ++ r9 a (wd wide) = (b ++ putB 7 (be (wd wide) a.aggrAS.toNat ++ be 4 a.aggrAddr.toNat)) ++ r10 a (wd wide) := by simp [r9, c9, hc]
    have hbd : bdA a wide bad = badN wide bad a.aggrAS := by simp [bdA, hc]
    have hcat : cat [be (wd wide) a.aggrAS.toNat, be 4 a.aggrAddr.toNat] = be (wd wide) a.aggrAS.toNat ++ be 4 a.aggrAddr.toNat := by simp [cat]
    have has := as_gives86 a.aggrAS.toNat (by omega) wide bad b
    rw [show ((a.aggrAS.toNat : Nat) : Int) = a.aggrAS from by omega] at has
    have hput := put_gives83 [be (wd wide) a.aggrAS.toNat, be 4 a.aggrAddr.toNat] 7 wide (badN wide bad a.aggrAS) b (by simp) (by omega) (by omega) (by omega) (by rw [hcat]; simp; have := wd_le wide; omega)
    rw [hcat] at hput
    rw [hq] at hb ⊢
    rw [hbd]
    refine ev_seq (b := suf 10 f67.body) ?_
    refine W_okd 1 300 _ _ _ _ ?_
    repeat' ((conv => whnf); first | refine bslP (by first | rfl | (simp [pureL, pureLL, AV.pure]; done) | fail) rfl ?_ | refine TakeC.full (by first | rfl | omega | (simp; done) | (simp; omega) | fail) ?_ | refine zBs ?_ | refine zBn ?_ | refine zBv rfl rfl ?_ | refine zN ?_ | refine zC ?_ | refine zC4 ?_ | refine zOr16 ?_ | refine zC1 ?_ | refine zByte ?_ | refine zMaxL ?_ | refine zMaxR ?_ | refine zMinL ?_ | refine zMinR ?_ | refine zShr ?_ | refine zC8 ?_ | refine zQ ?_ | refine zR ?_ | refine zS ?_ | refine zA ?_ | refine zM ?_ | refine xr rfl ?_ | refine ai rfl ?_ | refine condT ?_ | refine condF ?_ | refine condG1 ?_ | refine condG0 ?_ | refine cD ?_ | refine dD ?_ | refine cB ?_ | refine dB ?_ | refine cN ?_ | refine dN ?_ | refine cV ?_ | refine dV ?_ | refine cE ?_ | refine dE ?_ | refine condX0 ?_ | refine condX1 ?_ | refine condNot ?_ | refine condAnd ?_ | refine condOr ?_ | refine aO ?_ | refine aB ?_ | refine aR ?_ | refine aR ?_ (by simp; omega) | refine xr (by assumption) ?_ | refine ai (by assumption) ?_ | refine kX [(81, _, _), (200, _, _)] [] ⟨rfl, rfl, trivial⟩ trivial (has) ?_ | refine kN (number85 a.aggrAddr (by omega) (by omega)) ?_ | refine kB [(129, _, _), (133, _, _)] ⟨rfl, pz ⟨rfl, pz trivial⟩⟩ ?_ | refine kX [(81, _, _), (200, _, _)] [(134, _, _)] ⟨rfl, rfl, trivial⟩ ⟨rfl, pz trivial⟩ (hput) ?_ | refine condD (fun h => ?_) (fun h => ?_) | refine condB (fun h => ?_) (fun h => ?_) | refine condN (fun h => ?_) (fun h => ?_) | refine condE (fun h => ?_) (fun h => ?_) | refine condV (fun h => ?_) (fun h => ?_))
    refine ev_keep [7, 2, 1] [66, 81, 200] ?_
    exact enc67_10 a hv wide _ _ _ _ _ _ _ hb
  · have hq : b ++ r9 a (wd wide) = b ++ r10 a (wd wide) := by simp [r9, c9, hc]
    have hbd : bdA a wide bad = bad := by simp [bdA, hc]
    rw [hq] at hb ⊢
    rw [hbd]
    refine ev_seq (b := suf 10 f67.body) ?_
    try simp only [Bool.not_eq_true] at hc
    refine W_okd 1 300 _ _ _ _ ?_
    repeat' ((conv => whnf); first | refine bslP (by first | rfl | (simp [pureL, pureLL, AV.pure]; done) | fail) rfl ?_ | refine TakeC.full (by first | rfl | omega | (simp; done) | (simp; omega) | fail) ?_ | refine zBs ?_ | refine zBn ?_ | refine zBv rfl rfl ?_ | refine zN ?_ | refine zC ?_ | refine zC4 ?_ | refine zOr16 ?_ | refine zC1 ?_ | refine zByte ?_ | refine zMaxL ?_ | refine zMaxR ?_ | refine zMinL ?_ | refine zMinR ?_ | refine zShr ?_ | refine zC8 ?_ | refine zQ ?_ | refine zR ?_ | refine zS ?_ | refine zA ?_ | refine zM ?_ | refine xr rfl ?_ | refine ai rfl ?_ | refine condT ?_ | refine condF ?_ | refine condG1 ?_ | refine condG0 ?_ | refine cD ?_ | refine dD ?_ | refine cB ?_ | refine dB ?_ | refine cN ?_ | refine dN ?_ | refine cV ?_ | refine dV ?_ | refine cE ?_ | refine dE ?_ | refine condX0 ?_ | refine condX1 ?_ | refine condNot ?_ | refine condAnd ?_ | refine condOr ?_ | refine aO ?_ | refine aB ?_ | refine aR ?_ | refine aR ?_ (by simp; omega) | refine xr (by assumption) ?_ | refine ai (by assumption) ?_ | refine condD (fun h => ?_) (fun h => ?_) | refine condB (fun h => ?_) (fun h => ?_) | refine condN (fun h => ?_) (fun h => ?_) | refine condE (fun h => ?_) (fun h => ?_) | refine condV (fun h => ?_) (fun h => ?_))
    refine ev_keep [7, 2, 1] [66, 81, 200] ?_
    exact enc67_10 a hv wide _ _ _ _ _ _ _ hb

theorem enc67_8 (a : Attrs) (hv : EncV a) (wide bad : Bool) (b : List UInt8) (T : List (Nat × AV)) (H : Heap) (c gw g : Nat) (hb : (b ++ r8 a (wd wide)).length < 2 ^ 37) : Ev G ⟨[.code (suf 8 f67.body)], ⟨(7, .ref 81 gw 0) :: (2, .ref 66 1 0) :: (1, .bool wide) :: T, (66, some (1, .cells a.enc)) :: (81, some (gw, .cells [.vs 200 g b.length, .bool wide, .bool bad])) :: (200, some (g, .vec 1 (byteCells b))) :: H, c⟩, [.t 4, .t 5], 0⟩ (encRet (bdA a wide bad) (b ++ r8 a (wd wide))) := by
  have hbl : b.length < 2 ^ 37 := by simp at hb; omega
  by_cases hc : a.atomic = true
  · have hq : b ++ r8 a (wd wide) = (b ++ putB 6 []) ++ r9 a (wd wide) := by simp [r8, c8, hc]
    have hput := gives_le rfl (put_gives83 [] 6 wide bad b (by simp) (by omega) (by omega) (by omega) (by simp [cat])) (show LLe Any [.ref 0 0 0, .int .i64 6, .con (.slice none 0 0)] _ from ⟨.refl _, .refl _, LeP.nil 1, trivial⟩)
    rw [show cat [] = [] from rfl] at hput
    rw [hq] at hb ⊢
    refine ev_seq (b := suf 9 f67.body) ?_
    refine W_okd 1 300 _ _ _ _ ?_
    repeat' ((conv => whnf); first | refine bslP (by first | rfl | (simp [pureL, pureLL, AV.pure]; done) | fail) rfl ?_ | refine TakeC.full (by first | rfl | omega | (simp; done) | (simp; omega) | fail) ?_ | refine zBs ?_ | refine zBn ?_ | refine zBv rfl rfl ?_ | refine zN ?_ | refine zC ?_ | refine zC4 ?_ | refine zOr16 ?_ | refine zC1 ?_ | refine zByte ?_ | refine zMaxL ?_ | refine zMaxR ?_ | refine zMinL ?_ | refine zMinR ?_ | refine zShr ?_ | refine zC8 ?_ | refine zQ ?_ | refine zR ?_ | refine zS ?_ | refine zA ?_ | refine zM ?_ | refine xr rfl ?_ | refine ai rfl ?_ | refine condT ?_ | refine condF ?_ | refine condG1 ?_ | refine condG0 ?_ | refine cD ?_ | refine dD ?_ | refine cB ?_ | refine dB ?_ | refine cN ?_ | refine dN ?_ | refine cV ?_ | refine dV ?_ | refine cE ?_ | refine dE ?_ | refine condX0 ?_ | refine condX1 ?_ | refine condNot ?_ | refine condAnd ?_ | refine condOr ?_ | refine aO ?_ | refine aB ?_ | refine aR ?_ | refine aR ?_ (by simp; omega) | refine xr (by assumption) ?_ | refine ai (by assumption) ?_ | refine kX [(81, _, _), (200, _, _)] [] ⟨rfl, rfl, trivial⟩ trivial (hput) ?_ | refine condD (fun h => ?_) (fun h => ?_) | refine condB (fun h => ?_) (fun h => ?_) | refine condN (fun h => ?_) (fun h => ?_) | refine condE (fun h => ?_) (fun h => ?_) | refine condV (fun h => ?_) (fun h => ?_))
    refine ev_keep [7, 2, 1] [66, 81, 200] ?_
    exact enc67_9 a hv wide bad _ _ _ _ _ _ hb
  · have hq : b ++ r8 a (wd wide) = b ++ r9 a (wd wide) := by simp [r8, c8, hc]
    rw [hq] at hb ⊢
    refine ev_seq (b := suf 9 f67.body) ?_
    try simp only [Bool.not_eq_true] at hc
    refine W_okd 1 300 _ _ _ _ ?_
    repeat' ((conv => whnf); first | refine bslP (by first | rfl | (simp [pureL, pureLL, AV.pure]; done) | fail) rfl ?_ | refine TakeC.full (by first | rfl | omega | (simp; done) | (simp; omega) | fail) ?_ | refine zBs ?_ | refine zBn ?_ | refine zBv rfl rfl ?_ | refine zN ?_ | refine zC ?_ | refine zC4 ?_ | refine zOr16 ?_ | refine zC1 ?_ | refine zByte ?_ | refine zMaxL ?_ | refine zMaxR ?_ | refine zMinL ?_ | refine zMinR ?_ | refine zShr ?_ | refine zC8 ?_ | refine zQ ?_ | refine zR ?_ | refine zS ?_ | refine zA ?_ | refine zM ?_ | refine xr rfl ?_ | refine ai rfl ?_ | refine condT ?_ | refine condF ?_ | refine condG1 ?_ | refine condG0 ?_ | refine cD ?_ | refine dD ?_ | refine cB ?_ | refine dB ?_ | refine cN ?_ | refine dN ?_ | refine cV ?_ | refine dV ?_ | refine cE ?_ | refine dE ?_ | refine condX0 ?_ | refine condX1 ?_ | refine condNot ?_ | refine condAnd ?_ | refine condOr ?_ | refine aO ?_ | refine aB ?_ | refine aR ?_ | refine aR ?_ (by simp; omega) | refine xr (by assumption) ?_ | refine ai (by assumption) ?_ | refine condD (fun h => ?_) (fun h => ?_) | refine condB (fun h => ?_) (fun h => ?_) | refine condN (fun h => ?_) (fun h => ?_) | refine condE (fun h => ?_) (fun h => ?_) | refine condV (fun h => ?_) (fun h => ?_))
    refine ev_keep [7, 2, 1] [66, 81, 200] ?_
    exact enc67_9 a hv wide bad _ _ _ _ _ _ hb

theorem enc67_7 (a : Attrs) (hv : EncV a) (wide bad : Bool) (b : List UInt8) (T : List (Nat × AV)) (H : Heap) (c gw g : Nat) (hb : (b ++ r7 a (wd wide)).length < 2 ^ 37) : Ev G ⟨[.code (suf 7 f67.body)], ⟨(7, .ref 81 gw 0) :: (2, .ref 66 1 0) :: (1, .bool wide) :: T, (66, some (1, .cells a.enc)) :: (81, some (gw, .cells [.vs 200 g b.length, .bool wide, .bool bad])) :: (200, some (g, .vec 1 (byteCells b))) :: H, c⟩, [.t 4, .t 5], 0⟩ (encRet (bdA a wide bad) (b ++ r7 a (wd wide))) := by
  have hf := hv.pref
  have hcl := hv.clustersL
  have hcm := hv.commsL
  have hll1 : (a.clusters.map encU).length = a.clusters.length := by simp
  have hll2 : (a.comms.map encU).length = a.comms.length := by simp
  have hbl : b.length < 2 ^ 37 := by simp at hb; omega
  by_cases hc : a.hasPref = true
  · have hq : b ++ r7 a (wd wide) = (b ++ putB 5 (be 4 a.pref.toNat)) ++ r8 a (wd wide) := by simp [r7, c7, hc]
    have hcat : cat [be 4 a.pref.toNat] = be 4 a.pref.toNat := by simp [cat]
    have hvl : (be 4 a.pref.toNat).length < 2 ^ 38 := by first | (rw [be_length]; omega) | (rw [wordsB, fm_length]; omega)
    have hput := put_gives83 [be 4 a.pref.toNat] 5 wide bad b (by simp) (by omega) (by omega) (by omega) (by rw [hcat]; exact hvl)
    rw [hcat] at hput
    rw [hq] at hb ⊢
    refine ev_seq (b := suf 8 f67.body) ?_
    refine W_okd 1 300 _ _ _ _ ?_
    repeat' ((conv => whnf); first | refine bslP (by first | rfl | (simp [pureL, pureLL, AV.pure]; done) | fail) rfl ?_ | refine TakeC.full (by first | rfl | omega | (simp; done) | (simp; omega) | fail) ?_ | refine zBs ?_ | refine zBn ?_ | refine zBv rfl rfl ?_ | refine zN ?_ | refine zC ?_ | refine zC4 ?_ | refine zOr16 ?_ | refine zC1 ?_ | refine zByte ?_ | refine zMaxL ?_ | refine zMaxR ?_ | refine zMinL ?_ | refine zMinR ?_ | refine zShr ?_ | refine zC8 ?_ | refine zQ ?_ | refine zR ?_ | refine zS ?_ | refine zA ?_ | refine zM ?_ | refine xr rfl ?_ | refine ai rfl ?_ | refine condT ?_ | refine condF ?_ | refine condG1 ?_ | refine condG0 ?_ | refine cD ?_ | refine dD ?_ | refine cB ?_ | refine dB ?_ | refine cN ?_ | refine dN ?_ | refine cV ?_ | refine dV ?_ | refine cE ?_ | refine dE ?_ | refine condX0 ?_ | refine condX1 ?_ | refine condNot ?_ | refine condAnd ?_ | refine condOr ?_ | refine aO ?_ | refine aB ?_ | refine aR ?_ | refine aR ?_ (by simp; omega) | refine xr (by assumption) ?_ | refine ai (by assumption) ?_ | refine kN (number85 a.pref (by omega) (by omega)) ?_ | refine kB [(116, _, _)] ⟨rfl, pz trivial⟩ ?_ | refine kX [(81, _, _), (200, _, _)] [(117, _, _)] ⟨rfl, rfl, trivial⟩ ⟨rfl, pz trivial⟩ (hput) ?_ | refine condD (fun h => ?_) (fun h => ?_) | refine condB (fun h => ?_) (fun h => ?_) | refine condN (fun h => ?_) (fun h => ?_) | refine condE (fun h => ?_) (fun h => ?_) | refine condV (fun h => ?_) (fun h => ?_))
    refine ev_keep [7, 2, 1] [66, 81, 200] ?_
    exact enc67_8 a hv wide bad _ _ _ _ _ _ hb
  · have hq : b ++ r7 a (wd wide) = b ++ r8 a (wd wide) := by simp [r7, c7, hc]
    rw [hq] at hb ⊢
    refine ev_seq (b := suf 8 f67.body) ?_
    try simp only [Bool.not_eq_true] at hc
    refine W_okd 1 300 _ _ _ _ ?_
    repeat' ((conv => whnf); first | refine bslP (by first | rfl | (simp [pureL, pureLL, AV.pure]; done) | fail) rfl ?_ | refine TakeC.full (by first | rfl | omega | (simp; done) | (simp; omega) | fail) ?_ | refine zBs ?_ | refine zBn ?_ | refine zBv rfl rfl ?_ | refine zN ?_ | refine zC ?_ | refine zC4 ?_ | refine zOr16 ?_ | refine zC1 ?_ | refine zByte ?_ | refine zMaxL ?_ | refine zMaxR ?_ | refine zMinL ?_ | refine zMinR ?_ | refine zShr ?_ | refine zC8 ?_ | refine zQ ?_ | refine zR ?_ | refine zS ?_ | refine zA ?_ | refine zM ?_ | refine xr rfl ?_ | refine ai rfl ?_ | refine condT ?_ | refine condF ?_ | refine condG1 ?_ | refine condG0 ?_ | refine cD ?_ | refine dD ?_ | refine cB ?_ | refine dB ?_ | refine cN ?_ | refine dN ?_ | refine cV ?_ | refine dV ?_ | refine cE ?_ | refine dE ?_ | refine condX0 ?_ | refine condX1 ?_ | refine condNot ?_ | refine condAnd ?_ | refine condOr ?_ | refine aO ?_ | refine aB ?_ | refine aR ?_ | refine aR ?_ (by simp; omega) | refine xr (by assumption) ?_ | refine ai (by assumption) ?_ | refine condD (fun h => ?_) (fun h => ?_) | refine condB (fun h => ?_) (fun h => ?_) | refine condN (fun h => ?_) (fun h => ?_) | refine condE (fun h => ?_) (fun h => ?_) | refine condV (fun h => ?_) (fun h => ?_))
    refine ev_keep [7, 2, 1] [66, 81, 200] ?_
    exact enc67_8 a hv wide bad _ _ _ _ _ _ hb

theorem enc67_6 (a : Attrs) (hv : EncV a) (wide bad : Bool) (b : List UInt8) (T : List (Nat × AV)) (H : Heap) (c gw g : Nat) (hb : (b ++ r6 a (wd wide)).length < 2 ^ 37) : Ev G ⟨[.code (suf 6 f67.body)], ⟨(7, .ref 81 gw 0) :: (2, .ref 66 1 0) :: (1, .bool wide) :: T, (66, some (1, .cells a.enc)) :: (81, some (gw, .cells [.vs 200 g b.length, .bool wide, .bool bad])) :: (200, some (g, .vec 1 (byteCells b))) :: H, c⟩, [.t 4, .t 5], 0⟩ (encRet (bdA a wide bad) (b ++ r6 a (wd wide))) := by
  have hf := hv.med
  have hcl := hv.clustersL
  have hcm := hv.commsL
  have hll1 : (a.clusters.map encU).length = a.clusters.length := by simp
  have hll2 : (a.comms.map encU).length = a.comms.length := by simp
  have hbl : b.length < 2 ^ 37 := by simp at hb; omega
  by_cases hc : a.hasMED = true
  · have hq : b ++ r6 a (wd wide) = (b ++ putB 4 (be 4 a.med.toNat)) ++ r7 a (wd wide) := by simp [r6, c6, hc]
    have hcat : cat [be 4 a.med.toNat] = be 4 a.med.toNat := by simp [cat]
    have hvl : (be 4 a.med.toNat).length < 2 ^ 38 := by first | (rw [be_length]; omega) | (rw [wordsB, fm_length]; omega)
    have hput := put_gives83 [be 4 a.med.toNat] 4 wide bad b (by simp) (by omega) (by omega) (by omega) (by rw [hcat]; exact hvl)
    rw [hcat] at hput
    rw [hq] at hb ⊢
    refine ev_seq (b := suf 7 f67.body) ?_
    refine W_okd 1 300 _ _ _ _ ?_
    repeat' ((conv => whnf); first | refine bslP (by first | rfl | (simp [pureL, pureLL, AV.pure]; done) | fail) rfl ?_ | refine TakeC.full (by first | rfl | omega | (simp; done) | (simp; omega) | fail) ?_ | refine zBs ?_ | refine zBn ?_ | refine zBv rfl rfl ?_ | refine zN ?_ | refine zC ?_ | refine zC4 ?_ | refine zOr16 ?_ | refine zC1 ?_ | refine zByte ?_ | refine zMaxL ?_ | refine zMaxR ?_ | refine zMinL ?_ | refine zMinR ?_ | refine zShr ?_ | refine zC8 ?_ | refine zQ ?_ | refine zR ?_ | refine zS ?_ | refine zA ?_ | refine zM ?_ | refine xr rfl ?_ | refine ai rfl ?_ | refine condT ?_ | refine condF ?_ | refine condG1 ?_ | refine condG0 ?_ | refine cD ?_ | refine dD ?_ | refine cB ?_ | refine dB ?_ | refine cN ?_ | refine dN ?_ | refine cV ?_ | refine dV ?_ | refine cE ?_ | refine dE ?_ | refine condX0 ?_ | refine condX1 ?_ | refine condNot ?_ | refine condAnd ?_ | refine condOr ?_ | refine aO ?_ | refine aB ?_ | refine aR ?_ | refine aR ?_ (by simp; omega) | refine xr (by assumption) ?_ | refine ai (by assumption) ?_ | refine kN (number85 a.med (by omega) (by omega)) ?_ | refine kB [(108, _, _)] ⟨rfl, pz trivial⟩ ?_ | refine kX [(81, _, _), (200, _, _)] [(109, _, _)] ⟨rfl, rfl, trivial⟩ ⟨rfl, pz trivial⟩ (hput) ?_ | refine condD (fun h => ?_) (fun h => ?_) | refine condB (fun h => ?_) (fun h => ?_) | refine condN (fun h => ?_) (fun h => ?_) | refine condE (fun h => ?_) (fun h => ?_) | refine condV (fun h => ?_) (fun h => ?_))
    refine ev_keep [7, 2, 1] [66, 81, 200] ?_
    exact enc67_7 a hv wide bad _ _ _ _ _ _ hb
  · have hq : b ++ r6 a (wd wide) = b ++ r7 a (wd wide) := by simp [r6, c6, hc]
    rw [hq] at hb ⊢
    refine ev_seq (b := suf 7 f67.body) ?_
    try simp only [Bool.not_eq_true] at hc
    refine W_okd 1 300 _ _ _ _ ?_
    repeat' ((conv => whnf); first | refine bslP (by first | rfl | (simp [pureL, pureLL, AV.pure]; done) | fail) rfl ?_ | refine TakeC.full (by first | rfl | omega | (simp; done) | (simp; omega) | fail) ?_ | refine zBs ?_ | refine zBn ?_ | refine zBv rfl rfl ?_ | refine zN ?_ | refine zC ?_ | refine zC4 ?_ | refine zOr16 ?_ | refine zC1 ?_ | refine zByte ?_ | refine zMaxL ?_ | refine zMaxR ?_ | refine zMinL ?_ | refine zMinR ?_ | refine zShr ?_ | refine zC8 ?_ | refine zQ ?_ | refine zR ?_ | refine zS ?_ | refine zA ?_ | refine zM ?_ | refine xr rfl ?_ | refine ai rfl ?_ | refine condT ?_ | refine condF ?_ | refine condG1 ?_ | refine condG0 ?_ | refine cD ?_ | refine dD ?_ | refine cB ?_ | refine dB ?_ | refine cN ?_ | refine dN ?_ | refine cV ?_ | refine dV ?_ | refine cE ?_ | refine dE ?_ | refine condX0 ?_ | refine condX1 ?_ | refine condNot ?_ | refine condAnd ?_ | refine condOr ?_ | refine aO ?_ | refine aB ?_ | refine aR ?_ | refine aR ?_ (by simp; omega) | refine xr (by assumption) ?_ | refine ai (by assumption) ?_ | refine condD (fun h => ?_) (fun h => ?_) | refine condB (fun h => ?_) (fun h => ?_) | refine condN (fun h => ?_) (fun h => ?_) | refine condE (fun h => ?_) (fun h => ?_) | refine condV (fun h => ?_) (fun h => ?_))
    refine ev_keep [7, 2, 1] [66, 81, 200] ?_
    exact enc67_7 a hv wide bad _ _ _ _ _ _ hb

theorem enc67_5 (a : Attrs) (hv : EncV a) (wide bad : Bool) (b : List UInt8) (T : List (Nat × AV)) (H : Heap) (c gw g : Nat) (hb : (b ++ r5 a (wd wide)).length < 2 ^ 37) : Ev G ⟨[.code (suf 5 f67.body)], ⟨(7, .ref 81 gw 0) :: (2, .ref 66 1 0) :: (1, .bool wide) :: T, (66, some (1, .cells a.enc)) :: (81, some (gw, .cells [.vs 200 g b.length, .bool wide, .bool bad])) :: (200, some (g, .vec 1 (byteCells b))) :: H, c⟩, [.t 4, .t 5], 0⟩ (encRet (bdA a wide bad) (b ++ r5 a (wd wide))) := by
  have hf := hv.nextHop
  have hf2 := hv.origin
  have hf3 := u8_int hf2.1 hf2.2
  have hbl : b.length < 2 ^ 37 := by simp at hb; omega
  have hq : b ++ r5 a (wd wide) = (b ++ putB 3 (be 4 a.nextHop.toNat)) ++ r6 a (wd wide) := by simp [r5, c5]
  have hcat : cat [be 4 a.nextHop.toNat] = be 4 a.nextHop.toNat := by simp [cat]
  have hvl : (be 4 a.nextHop.toNat).length < 2 ^ 38 := by
    have hpl := pathL wide a hv
    first | (rw [be_length]; omega) | (simp; done) | omega
  have hput := put_gives83 [be 4 a.nextHop.toNat] 3 wide bad b (by simp) (by omega) (by omega) (by omega) (by rw [hcat]; exact hvl)
  rw [hcat] at hput
  rw [hq] at hb ⊢
  refine ev_seq (b := suf 6 f67.body) ?_
  refine W_okd 1 300 _ _ _ _ ?_
  repeat' ((conv => whnf); first | refine bslP (by first | rfl | (simp [pureL, pureLL, AV.pure]; done) | fail) rfl ?_ | refine TakeC.full (by first | rfl | omega | (simp; done) | (simp; omega) | fail) ?_ | refine zBs ?_ | refine zBn ?_ | refine zBv rfl rfl ?_ | refine zN ?_ | refine zC ?_ | refine zC4 ?_ | refine zOr16 ?_ | refine zC1 ?_ | refine zByte ?_ | refine zMaxL ?_ | refine zMaxR ?_ | refine zMinL ?_ | refine zMinR ?_ | refine zShr ?_ | refine zC8 ?_ | refine zQ ?_ | refine zR ?_ | refine zS ?_ | refine zA ?_ | refine zM ?_ | refine xr rfl ?_ | refine ai rfl ?_ | refine condT ?_ | refine condF ?_ | refine condG1 ?_ | refine condG0 ?_ | refine cD ?_ | refine dD ?_ | refine cB ?_ | refine dB ?_ | refine cN ?_ | refine dN ?_ | refine cV ?_ | refine dV ?_ | refine cE ?_ | refine dE ?_ | refine condX0 ?_ | refine condX1 ?_ | refine condNot ?_ | refine condAnd ?_ | refine condOr ?_ | refine aO ?_ | refine aB ?_ | refine aR ?_ | refine aR ?_ (by simp; omega) | refine xr (by assumption) ?_ | refine ai (by assumption) ?_ | refine kN (number85 a.nextHop (by omega) (by omega)) ?_ | refine kB [(100, _, _)] ⟨rfl, pz trivial⟩ ?_ | refine kX [(81, _, _), (200, _, _)] [(101, _, _)] ⟨rfl, rfl, trivial⟩ ⟨rfl, pz trivial⟩ (hput) ?_ | refine condD (fun h => ?_) (fun h => ?_) | refine condB (fun h => ?_) (fun h => ?_) | refine condN (fun h => ?_) (fun h => ?_) | refine condE (fun h => ?_) (fun h => ?_) | refine condV (fun h => ?_) (fun h => ?_))
  refine ev_keep [7, 2, 1] [66, 81, 200] ?_
  exact enc67_6 a hv wide _ _ _ _ _ _ _ hb

theorem enc67_4 (a : Attrs) (hv : EncV a) (wide bad : Bool) (b : List UInt8) (T : List (Nat × AV)) (H : Heap) (c gw g : Nat) (hb : (b ++ r4 a (wd wide)).length < 2 ^ 37) : Ev G ⟨[.code (suf 4 f67.body)], ⟨(7, .ref 81 gw 0) :: (2, .ref 66 1 0) :: (1, .bool wide) :: T, (66, some (1, .cells a.enc)) :: (81, some (gw, .cells [.vs 200 g b.length, .bool wide, .bool bad])) :: (200, some (g, .vec 1 (byteCells b))) :: H, c⟩, [.t 4, .t 5], 0⟩ (encRet (bdA a wide (badP wide bad a.path)) (b ++ r4 a (wd wide))) := by
  have hf := hv.nextHop
  have hf2 := hv.origin
  have hf3 := u8_int hf2.1 hf2.2
  have hbl : b.length < 2 ^ 37 := by simp at hb; omega
  have hq : b ++ r4 a (wd wide) = (b ++ putB 2 (pathB (wd wide) a.path)) ++ r5 a (wd wide) := by simp [r4, c4]
  have hcat : cat [pathB (wd wide) a.path] = pathB (wd wide) a.path := by simp [cat]
  have hvl : (pathB (wd wide) a.path).length < 2 ^ 38 := by
    have hpl := pathL wide a hv
    first | (rw [be_length]; omega) | (simp; done) | omega
  have hput := put_gives83 [pathB (wd wide) a.path] 2 wide (badP wide bad a.path) b (by simp) (by omega) (by omega) (by omega) (by rw [hcat]; exact hvl)
  rw [hcat] at hput
  rw [hq] at hb ⊢
  refine ev_seq (b := suf 5 f67.body) ?_
  refine W_okd 1 300 _ _ _ _ ?_
  repeat' ((conv => whnf); first | refine bslP (by first | rfl | (simp [pureL, pureLL, AV.pure]; done) | fail) rfl ?_ | refine TakeC.full (by first | rfl | omega | (simp; done) | (simp; omega) | fail) ?_ | refine zBs ?_ | refine zBn ?_ | refine zBv rfl rfl ?_ | refine zN ?_ | refine zC ?_ | refine zC4 ?_ | refine zOr16 ?_ | refine zC1 ?_ | refine zByte ?_ | refine zMaxL ?_ | refine zMaxR ?_ | refine zMinL ?_ | refine zMinR ?_ | refine zShr ?_ | refine zC8 ?_ | refine zQ ?_ | refine zR ?_ | refine zS ?_ | refine zA ?_ | refine zM ?_ | refine xr rfl ?_ | refine ai rfl ?_ | refine condT ?_ | refine condF ?_ | refine condG1 ?_ | refine condG0 ?_ | refine cD ?_ | refine dD ?_ | refine cB ?_ | refine dB ?_ | refine cN ?_ | refine dN ?_ | refine cV ?_ | refine dV ?_ | refine cE ?_ | refine dE ?_ | refine condX0 ?_ | refine condX1 ?_ | refine condNot ?_ | refine condAnd ?_ | refine condOr ?_ | refine aO ?_ | refine aB ?_ | refine aR ?_ | refine aR ?_ (by simp; omega) | refine xr (by assumption) ?_ | refine ai (by assumption) ?_ | refine kX [(81, _, _), (200, _, _)] [] ⟨rfl, rfl, trivial⟩ trivial ((path_gives84 a.path wide bad b hv.segs hv.path)) ?_ | refine kB [(93, _, _)] ⟨rfl, pz trivial⟩ ?_ | refine kX [(81, _, _), (200, _, _)] [(94, _, _)] ⟨rfl, rfl, trivial⟩ ⟨rfl, pz trivial⟩ (hput) ?_ | refine condD (fun h => ?_) (fun h => ?_) | refine condB (fun h => ?_) (fun h => ?_) | refine condN (fun h => ?_) (fun h => ?_) | refine condE (fun h => ?_) (fun h => ?_) | refine condV (fun h => ?_) (fun h => ?_))
  refine ev_keep [7, 2, 1] [66, 81, 200] ?_
  exact enc67_5 a hv wide _ _ _ _ _ _ _ hb

theorem enc67_3 (a : Attrs) (hv : EncV a) (wide bad : Bool) (b : List UInt8) (T : List (Nat × AV)) (H : Heap) (c gw g : Nat) (hb : (b ++ r3 a (wd wide)).length < 2 ^ 37) : Ev G ⟨[.code (suf 3 f67.body)], ⟨(7, .ref 81 gw 0) :: (2, .ref 66 1 0) :: (1, .bool wide) :: T, (66, some (1, .cells a.enc)) :: (81, some (gw, .cells [.vs 200 g b.length, .bool wide, .bool bad])) :: (200, some (g, .vec 1 (byteCells b))) :: H, c⟩, [.t 4, .t 5], 0⟩ (encRet (bdA a wide (badP wide bad a.path)) (b ++ r3 a (wd wide))) := by
  have hf := hv.nextHop
  have hf2 := hv.origin
  have hf3 := u8_int hf2.1 hf2.2
  have hbl : b.length < 2 ^ 37 := by simp at hb; omega
  have hq : b ++ r3 a (wd wide) = (b ++ putB 1 ([UInt8.ofNat a.origin.toNat])) ++ r4 a (wd wide) := by simp [r3, c3]
  have hcat : cat [[UInt8.ofNat a.origin.toNat]] = [UInt8.ofNat a.origin.toNat] := by simp [cat]
  have hvl : ([UInt8.ofNat a.origin.toNat]).length < 2 ^ 38 := by
    have hpl := pathL wide a hv
    first | (rw [be_length]; omega) | (simp; done) | omega
  have hput := put_gives83 [[UInt8.ofNat a.origin.toNat]] 1 wide bad b (by simp) (by omega) (by omega) (by omega) (by rw [hcat]; exact hvl)
  rw [hcat] at hput
  rw [show List.map bEnc [[UInt8.ofNat a.origin.toNat]] = [[.sl 1 [[.int .u8 a.origin]]]] from by simp only [List.map_cons, List.map_nil, bEnc, byteCells, hf3]] at hput
  rw [hq] at hb ⊢
  refine ev_seq (b := suf 4 f67.body) ?_
  refine W_okd 1 300 _ _ _ _ ?_
  repeat' ((conv => whnf); first | refine bslP (by first | rfl | (simp [pureL, pureLL, AV.pure]; done) | fail) rfl ?_ | refine TakeC.full (by first | rfl | omega | (simp; done) | (simp; omega) | fail) ?_ | refine zBs ?_ | refine zBn ?_ | refine zBv rfl rfl ?_ | refine zN ?_ | refine zC ?_ | refine zC4 ?_ | refine zOr16 ?_ | refine zC1 ?_ | refine zByte ?_ | refine zMaxL ?_ | refine zMaxR ?_ | refine zMinL ?_ | refine zMinR ?_ | refine zShr ?_ | refine zC8 ?_ | refine zQ ?_ | refine zR ?_ | refine zS ?_ | refine zA ?_ | refine zM ?_ | refine xr rfl ?_ | refine ai rfl ?_ | refine condT ?_ | refine condF ?_ | refine condG1 ?_ | refine condG0 ?_ | refine cD ?_ | refine dD ?_ | refine cB ?_ | refine dB ?_ | refine cN ?_ | refine dN ?_ | refine cV ?_ | refine dV ?_ | refine cE ?_ | refine dE ?_ | refine condX0 ?_ | refine condX1 ?_ | refine condNot ?_ | refine condAnd ?_ | refine condOr ?_ | refine aO ?_ | refine aB ?_ | refine aR ?_ | refine aR ?_ (by simp; omega) | refine xr (by assumption) ?_ | refine ai (by assumption) ?_ | refine kB [(86, _, _)] ⟨rfl, pz trivial⟩ ?_ | refine kX [(81, _, _), (200, _, _)] [(87, _, _)] ⟨rfl, rfl, trivial⟩ ⟨rfl, pz trivial⟩ (hput) ?_ | refine condD (fun h => ?_) (fun h => ?_) | refine condB (fun h => ?_) (fun h => ?_) | refine condN (fun h => ?_) (fun h => ?_) | refine condE (fun h => ?_) (fun h => ?_) | refine condV (fun h => ?_) (fun h => ?_))
  refine ev_keep [7, 2, 1] [66, 81, 200] ?_
  exact enc67_4 a hv wide _ _ _ _ _ _ _ hb

def encB (a : Attrs) (wide : Bool) : List UInt8 := r3 a (wd wide)
def encBad (a : Attrs) (wide : Bool) : Bool := bdA a wide (badP wide false a.path)
theorem encode_gives67 (a : Attrs) (wide : Bool) (hb : LenB a) (hv : checkS a = 0 → EncV a ∧ (encB a wide).length < 2 ^ 37) : Gives G 67 [.agg a.enc, .bool wide] [] (if checkS a = 0 then encRet (encBad a wide) (encB a wide) else ⟨.tup [.con (.slice none 0 0), .int .i64 (checkS a)], []⟩) := by
  by_cases hc : checkS a = 0
  · obtain ⟨h1, h2⟩ := hv hc
    have h65 := check_gives65 a hb
    rw [hc] at h65
    rw [if_pos hc]
    refine gives_code (F := f67) rfl rfl ?_
    refine ev_seq (b := suf 1 f67.body) ?_
    refine W_okd 1 300 _ _ _ _ ?_
    repeat' ((conv => whnf); first | refine bslP (by first | rfl | (simp [pureL, pureLL, AV.pure]; done) | fail) rfl ?_ | refine TakeC.full (by first | rfl | omega | (simp; done) | (simp; omega) | fail) ?_ | refine zBs ?_ | refine zBn ?_ | refine zBv rfl rfl ?_ | refine zN ?_ | refine zC ?_ | refine zC4 ?_ | refine zOr16 ?_ | refine zC1 ?_ | refine zByte ?_ | refine zMaxL ?_ | refine zMaxR ?_ | refine zMinL ?_ | refine zMinR ?_ | refine zShr ?_ | refine zC8 ?_ | refine zQ ?_ | refine zR ?_ | refine zS ?_ | refine zA ?_ | refine zM ?_ | refine xr rfl ?_ | refine ai rfl ?_ | refine condT ?_ | refine condF ?_ | refine condG1 ?_ | refine condG0 ?_ | refine cD ?_ | refine dD ?_ | refine cB ?_ | refine dB ?_ | refine cN ?_ | refine dN ?_ | refine cV ?_ | refine dV ?_ | refine cE ?_ | refine dE ?_ | refine condX0 ?_ | refine condX1 ?_ | refine condNot ?_ | refine condAnd ?_ | refine condOr ?_ | refine aO ?_ | refine aB ?_ | refine aR ?_ | refine aR ?_ (by simp; omega) | refine xr (by assumption) ?_ | refine ai (by assumption) ?_ | refine condD (fun h => ?_) (fun h => ?_) | refine condB (fun h => ?_) (fun h => ?_) | refine condN (fun h => ?_) (fun h => ?_) | refine condE (fun h => ?_) (fun h => ?_) | refine condV (fun h => ?_) (fun h => ?_))
    refine ev_seq (b := suf 2 f67.body) ?_
    refine W_okd 1 300 _ _ _ _ ?_
    repeat' ((conv => whnf); first | refine bslP (by first | rfl | (simp [pureL, pureLL, AV.pure]; done) | fail) rfl ?_ | refine TakeC.full (by first | rfl | omega | (simp; done) | (simp; omega) | fail) ?_ | refine zBs ?_ | refine zBn ?_ | refine zBv rfl rfl ?_ | refine zN ?_ | refine zC ?_ | refine zC4 ?_ | refine zOr16 ?_ | refine zC1 ?_ | refine zByte ?_ | refine zMaxL ?_ | refine zMaxR ?_ | refine zMinL ?_ | refine zMinR ?_ | refine zShr ?_ | refine zC8 ?_ | refine zQ ?_ | refine zR ?_ | refine zS ?_ | refine zA ?_ | refine zM ?_ | refine xr rfl ?_ | refine ai rfl ?_ | refine condT ?_ | refine condF ?_ | refine condG1 ?_ | refine condG0 ?_ | refine cD ?_ | refine dD ?_ | refine cB ?_ | refine dB ?_ | refine cN ?_ | refine dN ?_ | refine cV ?_ | refine dV ?_ | refine cE ?_ | refine dE ?_ | refine condX0 ?_ | refine condX1 ?_ | refine condNot ?_ | refine condAnd ?_ | refine condOr ?_ | refine aO ?_ | refine aB ?_ | refine aR ?_ | refine aR ?_ (by simp; omega) | refine xr (by assumption) ?_ | refine ai (by assumption) ?_ | refine kV (h65) ?_ | refine condD (fun h => ?_) (fun h => ?_) | refine condB (fun h => ?_) (fun h => ?_) | refine condN (fun h => ?_) (fun h => ?_) | refine condE (fun h => ?_) (fun h => ?_) | refine condV (fun h => ?_) (fun h => ?_))
    refine ev_seq (b := suf 3 f67.body) ?_
    refine W_okd 1 300 _ _ _ _ ?_
    repeat' ((conv => whnf); first | refine bslP (by first | rfl | (simp [pureL, pureLL, AV.pure]; done) | fail) rfl ?_ | refine TakeC.full (by first | rfl | omega | (simp; done) | (simp; omega) | fail) ?_ | refine zBs ?_ | refine zBn ?_ | refine zBv rfl rfl ?_ | refine zN ?_ | refine zC ?_ | refine zC4 ?_ | refine zOr16 ?_ | refine zC1 ?_ | refine zByte ?_ | refine zMaxL ?_ | refine zMaxR ?_ | refine zMinL ?_ | refine zMinR ?_ | refine zShr ?_ | refine zC8 ?_ | refine zQ ?_ | refine zR ?_ | refine zS ?_ | refine zA ?_ | refine zM ?_ | refine xr rfl ?_ | refine ai rfl ?_ | refine condT ?_ | refine condF ?_ | refine condG1 ?_ | refine condG0 ?_ | refine cD ?_ | refine dD ?_ | refine cB ?_ | refine dB ?_ | refine cN ?_ | refine dN ?_ | refine cV ?_ | refine dV ?_ | refine cE ?_ | refine dE ?_ | refine condX0 ?_ | refine condX1 ?_ | refine condNot ?_ | refine condAnd ?_ | refine condOr ?_ | refine aO ?_ | refine aB ?_ | refine aR ?_ | refine aR ?_ (by simp; omega) | refine xr (by assumption) ?_ | refine ai (by assumption) ?_ | refine condD (fun h => ?_) (fun h => ?_) | refine condB (fun h => ?_) (fun h => ?_) | refine condN (fun h => ?_) (fun h => ?_) | refine condE (fun h => ?_) (fun h => ?_) | refine condV (fun h => ?_) (fun h => ?_))
    refine ev_nil 200 1 [] [(81, some (_, .cells [.vs 200 _ 0, .bool wide, .bool false]))] trivial ⟨⟨rfl, LeP.nilV _ _ _, .refl _, .refl _, trivial⟩, trivial⟩ ?_
    refine ev_keep [7, 2, 1] [66, 81, 200] ?_
    exact enc67_3 a h1 wide false [] _ _ _ _ _ h2
  · rw [if_neg hc]
    refine gives_code (F := f67) rfl rfl (W_ok 300 _ _ _ _ ?_)
    repeat' ((conv => whnf); first | refine bslP (by first | rfl | (simp [pureL, pureLL, AV.pure]; done) | fail) rfl ?_ | refine TakeC.full (by first | rfl | omega | (simp; done) | (simp; omega) | fail) ?_ | refine zBs ?_ | refine zBn ?_ | refine zBv rfl rfl ?_ | refine zN ?_ | refine zC ?_ | refine zC4 ?_ | refine zOr16 ?_ | refine zC1 ?_ | refine zByte ?_ | refine zMaxL ?_ | refine zMaxR ?_ | refine zMinL ?_ | refine zMinR ?_ | refine zShr ?_ | refine zC8 ?_ | refine zQ ?_ | refine zR ?_ | refine zS ?_ | refine zA ?_ | refine zM ?_ | refine xr rfl ?_ | refine ai rfl ?_ | refine condT ?_ | refine condF ?_ | refine condG1 ?_ | refine condG0 ?_ | refine cD ?_ | refine dD ?_ | refine cB ?_ | refine dB ?_ | refine cN ?_ | refine dN ?_ | refine cV ?_ | refine dV ?_ | refine cE ?_ | refine dE ?_ | refine condX0 ?_ | refine condX1 ?_ | refine condNot ?_ | refine condAnd ?_ | refine condOr ?_ | refine aO ?_ | refine aB ?_ | refine aR ?_ | refine aR ?_ (by simp; omega) | refine xr (by assumption) ?_ | refine ai (by assumption) ?_ | refine kV (check_gives65 a hb) ?_ | refine condD (fun h => ?_) (fun h => ?_) | refine condB (fun h => ?_) (fun h => ?_) | refine condN (fun h => ?_) (fun h => ?_) | refine condE (fun h => ?_) (fun h => ?_) | refine condV (fun h => ?_) (fun h => ?_))
    all_goals ((first | refine ev_fin (And.intro (by first | rfl | (simp [AV.pure, pureL]; done) | fail) ?_) | refine ev_fin0 (And.intro (by first | rfl | (simp [AV.pure, pureL]; done) | fail) ?_)); rfl)
end Go.AM.IR
set_option maxHeartbeats 4000000
set_option maxRecDepth 20000
namespace Go.AM.IR
theorem unk_loop66 (l : List TLV) (a : Attrs) (ha : a.unknown = l) (hv : ∀ t ∈ l, t.value.length < 2 ^ 40) (hl : l.length < 2 ^ 40) (ln : Int) (hln : ln = l.length) : ∀ (rest done : List TLV) (p : Option Int) (T : List (Nat × AV)) (H : Heap) (c : Nat) (n : Int) (e : l = done ++ rest) (hn : n = done.length) (hp : p = done.getLast?.map (·.kind)), Ev G ⟨f66x46LH, ⟨(121, .sl 2 (l.map TLV.enc)) :: (122, .int .i64 ln) :: (123, .int .i64 n) :: (1, .ref 65 1 0) :: T, (65, some (1, .cells a.enc)) :: H, c⟩, [.t 2], 0⟩ ⟨.int .i64 (unkC p rest), []⟩
  | [], done, p, T, H, c, n, e, hn, hp => by
    have hd : l.length = done.length := by simp [e]
    have hll : (l.map TLV.enc).length = l.length := by simp
    refine ev_loop' (W_ok 300 _ _ _ _ ?_)
    repeat' ((conv => whnf); first | refine bslP (by first | rfl | (simp [pureL, pureLL, AV.pure]; done) | fail) rfl ?_ | refine TakeC.full (by first | rfl | omega | (simp; done) | (simp; omega) | fail) ?_ | refine zBs ?_ | refine zBn ?_ | refine zBv rfl rfl ?_ | refine zN ?_ | refine zC ?_ | refine zC4 ?_ | refine zOr16 ?_ | refine zC1 ?_ | refine zByte ?_ | refine zMaxL ?_ | refine zMaxR ?_ | refine zMinL ?_ | refine zMinR ?_ | refine zShr ?_ | refine zC8 ?_ | refine zQ ?_ | refine zR ?_ | refine zS ?_ | refine zA ?_ | refine zM ?_ | refine xr rfl ?_ | refine ai rfl ?_ | refine condT ?_ | refine condF ?_ | refine condG1 ?_ | refine condG0 ?_ | refine cD ?_ | refine dD ?_ | refine cB ?_ | refine dB ?_ | refine cN ?_ | refine dN ?_ | refine cV ?_ | refine dV ?_ | refine cE ?_ | refine dE ?_ | refine condX0 ?_ | refine condX1 ?_ | refine condNot ?_ | refine condAnd ?_ | refine condOr ?_ | refine aO ?_ | refine aB ?_ | refine aR ?_ | refine aR ?_ (by simp; omega) | refine xr (by assumption) ?_ | refine ai (by assumption) ?_ | refine condD (fun h => ?_) (fun h => ?_) | refine condB (fun h => ?_) (fun h => ?_) | refine condN (fun h => ?_) (fun h => ?_) | refine condE (fun h => ?_) (fun h => ?_) | refine condV (fun h => ?_) (fun h => ?_))
    all_goals try ((first | refine ev_fin (And.intro (by first | rfl | (simp [AV.pure, pureL]; done) | fail) ?_) | refine ev_fin0 (And.intro (by first | rfl | (simp [AV.pure, pureL]; done) | fail) ?_)); first | rfl | (simp [unkC, Bool.cond_eq_ite, *]; done) | (simp [unkC, Bool.cond_eq_ite, *]; omega) | (unfold unkC; repeat' split; all_goals first | rfl | (exfalso; omega) | (simp_all; done) | (simp_all; omega)))
  | x :: r, done, p, T, H, c, n, e, hn, hp => by
    have hd : l.length = done.length + (r.length + 1) := by simp [e]
    have hll : (l.map TLV.enc).length = l.length := by simp
    have hx : (l.map TLV.enc)[n.toNat]? = some (TLV.enc x) := by simp [e, hn]
    subst ha
    have hxv : x.value.length < 2 ^ 40 := hv x (by simp [e])
    have hbl : (byteCells x.value).length = x.value.length := by simp [byteCells]
    rcases List.eq_nil_or_concat done with rfl | ⟨d, q, rfl⟩
    · obtain rfl : p = none := by simp [hp]
      simp only [List.length_nil] at hn hd
      refine ev_loop' (W_ok 300 _ _ _ _ ?_)
      repeat' ((conv => whnf); first | refine bslP (by first | rfl | (simp [pureL, pureLL, AV.pure]; done) | fail) rfl ?_ | refine TakeC.full (by first | rfl | omega | (simp; done) | (simp; omega) | fail) ?_ | refine zBs ?_ | refine zBn ?_ | refine zBv rfl rfl ?_ | refine zN ?_ | refine zC ?_ | refine zC4 ?_ | refine zOr16 ?_ | refine zC1 ?_ | refine zByte ?_ | refine zMaxL ?_ | refine zMaxR ?_ | refine zMinL ?_ | refine zMinR ?_ | refine zShr ?_ | refine zC8 ?_ | refine zQ ?_ | refine zR ?_ | refine zS ?_ | refine zA ?_ | refine zM ?_ | refine xr rfl ?_ | refine ai rfl ?_ | refine condT ?_ | refine condF ?_ | refine condG1 ?_ | refine condG0 ?_ | refine cD ?_ | refine dD ?_ | refine cB ?_ | refine dB ?_ | refine cN ?_ | refine dN ?_ | refine cV ?_ | refine dV ?_ | refine cE ?_ | refine dE ?_ | refine condX0 ?_ | refine condX1 ?_ | refine condNot ?_ | refine condAnd ?_ | refine condOr ?_ | refine aO ?_ | refine aB ?_ | refine aR ?_ | refine aR ?_ (by simp; omega) | refine xr (by assumption) ?_ | refine ai (by assumption) ?_ | refine condD (fun h => ?_) (fun h => ?_) | refine condB (fun h => ?_) (fun h => ?_) | refine condN (fun h => ?_) (fun h => ?_) | refine condE (fun h => ?_) (fun h => ?_) | refine condV (fun h => ?_) (fun h => ?_))
      all_goals try ((first | refine ev_fin (And.intro (by first | rfl | (simp [AV.pure, pureL]; done) | fail) ?_) | refine ev_fin0 (And.intro (by first | rfl | (simp [AV.pure, pureL]; done) | fail) ?_)); first | rfl | (simp [unkC, Bool.cond_eq_ite, *]; done) | (simp [unkC, Bool.cond_eq_ite, *]; omega) | (unfold unkC; repeat' split; all_goals first | rfl | (exfalso; omega) | (simp_all; done) | (simp_all; omega)))
      rw [show unkC none (x :: r) = unkC (some x.kind) r from by simp [unkC]; omega]
      refine ev_keep [121, 122, 123, 1] [65] ?_; exact unk_loop66 a.unknown a rfl hv hl ln hln r [x] (some x.kind) _ _ _ (n + 1) (by simp [e]) (by simp [hn]) (by simp)
    · obtain rfl : p = some q.kind := by simp [hp]
      simp only [List.concat_eq_append, List.length_append, List.length_singleton] at hn hd
      have hn1 : (n - 1).toNat = d.length := by omega
      have hy : (a.unknown.map TLV.enc)[(n - 1).toNat]? = some (TLV.enc q) := by rw [hn1, e]; simp
      refine ev_loop' (W_ok 300 _ _ _ _ ?_)
      repeat' ((conv => whnf); first | refine bslP (by first | rfl | (simp [pureL, pureLL, AV.pure]; done) | fail) rfl ?_ | refine TakeC.full (by first | rfl | omega | (simp; done) | (simp; omega) | fail) ?_ | refine zBs ?_ | refine zBn ?_ | refine zBv rfl rfl ?_ | refine zN ?_ | refine zC ?_ | refine zC4 ?_ | refine zOr16 ?_ | refine zC1 ?_ | refine zByte ?_ | refine zMaxL ?_ | refine zMaxR ?_ | refine zMinL ?_ | refine zMinR ?_ | refine zShr ?_ | refine zC8 ?_ | refine zQ ?_ | refine zR ?_ | refine zS ?_ | refine zA ?_ | refine zM ?_ | refine xr rfl ?_ | refine ai rfl ?_ | refine condT ?_ | refine condF ?_ | refine condG1 ?_ | refine condG0 ?_ | refine cD ?_ | refine dD ?_ | refine cB ?_ | refine dB ?_ | refine cN ?_ | refine dN ?_ | refine cV ?_ | refine dV ?_ | refine cE ?_ | refine dE ?_ | refine condX0 ?_ | refine condX1 ?_ | refine condNot ?_ | refine condAnd ?_ | refine condOr ?_ | refine aO ?_ | refine aB ?_ | refine aR ?_ | refine aR ?_ (by simp; omega) | refine xr (by assumption) ?_ | refine ai (by assumption) ?_ | refine condD (fun h => ?_) (fun h => ?_) | refine condB (fun h => ?_) (fun h => ?_) | refine condN (fun h => ?_) (fun h => ?_) | refine condE (fun h => ?_) (fun h => ?_) | refine condV (fun h => ?_) (fun h => ?_))
      all_goals try ((first | refine ev_fin (And.intro (by first | rfl | (simp [AV.pure, pureL]; done) | fail) ?_) | refine ev_fin0 (And.intro (by first | rfl | (simp [AV.pure, pureL]; done) | fail) ?_)); first | rfl | (simp [unkC, Bool.cond_eq_ite, *]; done) | (simp [unkC, Bool.cond_eq_ite, *]; omega) | (unfold unkC; repeat' split; all_goals first | rfl | (exfalso; omega) | (simp_all; done) | (simp_all; omega)))
      rw [show unkC (some q.kind) (x :: r) = unkC (some x.kind) r from by simp [unkC]; omega]
      refine ev_keep [121, 122, 123, 1] [65] ?_; exact unk_loop66 a.unknown a rfl hv hl ln hln r (d ++ [q] ++ [x]) (some x.kind) _ _ _ (n + 1) (by simp [e]) (by simp [hn] <;> omega) (by simp)
theorem cl_loop66 (l : List Int) (a : Attrs) (ha : a.clusters = l) (hu : a.unknown.length < 2 ^ 40) (hv : ∀ t ∈ a.unknown, t.value.length < 2 ^ 40) (hl : l.length < 2 ^ 40) (ln : Int) (hln : ln = l.length) : ∀ (rest done : List Int)  (T : List (Nat × AV)) (H : Heap) (c : Nat) (n : Int) (e : l = done ++ rest) (hn : n = done.length) , Ev G ⟨f66x33LH, ⟨(107, .sl 1 (l.map encU)) :: (108, .int .i64 ln) :: (109, .int .i64 n) :: (1, .ref 65 1 0) :: T, (65, some (1, .cells a.enc)) :: H, c⟩, [.t 2], 0⟩ ⟨.int .i64 (if clS rest = 0 then unknownE a.unknown else 1), []⟩
  | [], done,  T, H, c, n, e, hn => by
    have hd : l.length = done.length := by simp [e]
    have hll : (l.map encU).length = l.length := by simp
    have hul : (a.unknown.map TLV.enc).length = a.unknown.length := by simp
    rw [show (if clS [] = 0 then unknownE a.unknown else 1) = unknownE a.unknown from by simp [clS]]
    refine ev_loop' (W_ok 300 _ _ _ _ ?_)
    repeat' ((conv => whnf); first | refine bslP (by first | rfl | (simp [pureL, pureLL, AV.pure]; done) | fail) rfl ?_ | refine TakeC.full (by first | rfl | omega | (simp; done) | (simp; omega) | fail) ?_ | refine zBs ?_ | refine zBn ?_ | refine zBv rfl rfl ?_ | refine zN ?_ | refine zC ?_ | refine zC4 ?_ | refine zOr16 ?_ | refine zC1 ?_ | refine zByte ?_ | refine zMaxL ?_ | refine zMaxR ?_ | refine zMinL ?_ | refine zMinR ?_ | refine zShr ?_ | refine zC8 ?_ | refine zQ ?_ | refine zR ?_ | refine zS ?_ | refine zA ?_ | refine zM ?_ | refine xr rfl ?_ | refine ai rfl ?_ | refine condT ?_ | refine condF ?_ | refine condG1 ?_ | refine condG0 ?_ | refine cD ?_ | refine dD ?_ | refine cB ?_ | refine dB ?_ | refine cN ?_ | refine dN ?_ | refine cV ?_ | refine dV ?_ | refine cE ?_ | refine dE ?_ | refine condX0 ?_ | refine condX1 ?_ | refine condNot ?_ | refine condAnd ?_ | refine condOr ?_ | refine aO ?_ | refine aB ?_ | refine aR ?_ | refine aR ?_ (by simp; omega) | refine xr (by assumption) ?_ | refine ai (by assumption) ?_ | refine condD (fun h => ?_) (fun h => ?_) | refine condB (fun h => ?_) (fun h => ?_) | refine condN (fun h => ?_) (fun h => ?_) | refine condE (fun h => ?_) (fun h => ?_) | refine condV (fun h => ?_) (fun h => ?_))
    all_goals try ((first | refine ev_fin (And.intro (by first | rfl | (simp [AV.pure, pureL]; done) | fail) ?_) | refine ev_fin0 (And.intro (by first | rfl | (simp [AV.pure, pureL]; done) | fail) ?_)); first | rfl | (simp [unknownE, Bool.cond_eq_ite, *]; done) | (simp [unknownE, Bool.cond_eq_ite, *]; omega) | (unfold unknownE; repeat' split; all_goals first | rfl | (exfalso; omega) | (simp_all; done) | (simp_all; omega)))
    refine ev_keep [121, 122, 123, 1] [65] ?_
    rw [show unknownE a.unknown = unkC none a.unknown from by simp [unknownE]; omega]
    exact unk_loop66 a.unknown a rfl hv hu _ (by simp) a.unknown [] _ _ _ _ 0 rfl rfl rfl
  | x :: r, done,  T, H, c, n, e, hn => by
    have hd : l.length = done.length + (r.length + 1) := by simp [e]
    have hll : (l.map encU).length = l.length := by simp
    have hx : (l.map encU)[n.toNat]? = some (encU x) := by simp [e, hn]
    refine ev_loop' (W_ok 300 _ _ _ _ ?_)
    repeat' ((conv => whnf); first | refine bslP (by first | rfl | (simp [pureL, pureLL, AV.pure]; done) | fail) rfl ?_ | refine TakeC.full (by first | rfl | omega | (simp; done) | (simp; omega) | fail) ?_ | refine zBs ?_ | refine zBn ?_ | refine zBv rfl rfl ?_ | refine zN ?_ | refine zC ?_ | refine zC4 ?_ | refine zOr16 ?_ | refine zC1 ?_ | refine zByte ?_ | refine zMaxL ?_ | refine zMaxR ?_ | refine zMinL ?_ | refine zMinR ?_ | refine zShr ?_ | refine zC8 ?_ | refine zQ ?_ | refine zR ?_ | refine zS ?_ | refine zA ?_ | refine zM ?_ | refine xr rfl ?_ | refine ai rfl ?_ | refine condT ?_ | refine condF ?_ | refine condG1 ?_ | refine condG0 ?_ | refine cD ?_ | refine dD ?_ | refine cB ?_ | refine dB ?_ | refine cN ?_ | refine dN ?_ | refine cV ?_ | refine dV ?_ | refine cE ?_ | refine dE ?_ | refine condX0 ?_ | refine condX1 ?_ | refine condNot ?_ | refine condAnd ?_ | refine condOr ?_ | refine aO ?_ | refine aB ?_ | refine aR ?_ | refine aR ?_ (by simp; omega) | refine xr (by assumption) ?_ | refine ai (by assumption) ?_ | refine condD (fun h => ?_) (fun h => ?_) | refine condB (fun h => ?_) (fun h => ?_) | refine condN (fun h => ?_) (fun h => ?_) | refine condE (fun h => ?_) (fun h => ?_) | refine condV (fun h => ?_) (fun h => ?_))
    all_goals try ((first | refine ev_fin (And.intro (by first | rfl | (simp [AV.pure, pureL]; done) | fail) ?_) | refine ev_fin0 (And.intro (by first | rfl | (simp [AV.pure, pureL]; done) | fail) ?_)); first | rfl | (simp [clS, Bool.cond_eq_ite, *]; done) | (simp [clS, Bool.cond_eq_ite, *]; omega) | (unfold clS; repeat' split; all_goals first | rfl | (exfalso; omega) | (simp_all; done) | (simp_all; omega)))
    rw [show clS (x :: r) = clS r from by simp [clS, *]]
    refine ev_keep [107, 108, 109, 1] [65] ?_; exact cl_loop66 l a ha hu hv hl ln hln r (done ++ [x])  _ _ _ (n + 1) (by simp [e]) (by simp [hn] <;> omega) 
theorem clS01 : ∀ l, clS l = 0 ∨ clS l = 1
  | [] => .inl rfl
  | x :: r => by
    rw [clS]
    split
    · exact .inr rfl
    · exact clS01 r
theorem firstS1 (x : Int) : firstS [x] = x := by
  simp only [firstS]; split <;> simp_all
theorem firstS0 (l : List Int) : firstS (0 :: l) = firstS l := by simp [firstS]
theorem checkS_last (a : Attrs) (h : (checkL a).take 9 = [0, 0, 0, 0, 0, 0, 0, 0, 0]) (hc : ¬ (((a.clusters.map encU).length : Int) > 64)) : checkS a = if clS a.clusters = 0 then unknownE a.unknown else 1 := by
  have e : checkL a = (checkL a).take 9 ++ [clustersE a.clusters, unknownE a.unknown] := rfl
  have hce : clustersE a.clusters = clS a.clusters := by unfold clustersE; rw [if_neg (by simp at hc; omega)]
  unfold checkS
  rw [e, h]
  simp only [List.cons_append, List.nil_append, firstS0, hce]
  rcases clS01 a.clusters with h | h
  · rw [h, firstS0, firstS1, if_pos rfl]
  · rw [h, if_neg (by omega)]; simp [firstS]
theorem orig0 {h : Bool} {x : Int} (q : h = (x != 0)) : origE h x = 0 := by
  subst q
  by_cases h : x = 0
  · simp [origE, h]
  · have e1 : (x != 0) = true := by simpa using h
    have e2 : (x == 0) = false := by simpa using h
    rw [origE, e1, e2]; rfl
theorem orig1 {h : Bool} {x : Int} (q : ¬ h = (x != 0)) : origE h x = 1 := by
  by_cases e : x = 0 <;> cases h <;> simp_all [origE]
theorem check_gives66 (a : Attrs) (h : LenB a) : Gives G 66 [.agg a.enc] [] ⟨.int .i64 (checkS a), []⟩ := by
  obtain ⟨h1, h2, h3, h4, h5, h6⟩ := h
  have hcl : (a.clusters.map encU).length = a.clusters.length := by simp
  refine gives_code (F := f66) rfl rfl (W_ok 300 _ _ _ _ ?_)
  repeat' ((conv => whnf); first | refine bslP (by first | rfl | (simp [pureL, pureLL, AV.pure]; done) | fail) rfl ?_ | refine TakeC.full (by first | rfl | omega | (simp; done) | (simp; omega) | fail) ?_ | refine zBs ?_ | refine zBn ?_ | refine zBv rfl rfl ?_ | refine zN ?_ | refine zC ?_ | refine zC4 ?_ | refine zOr16 ?_ | refine zC1 ?_ | refine zByte ?_ | refine zMaxL ?_ | refine zMaxR ?_ | refine zMinL ?_ | refine zMinR ?_ | refine zShr ?_ | refine zC8 ?_ | refine zQ ?_ | refine zR ?_ | refine zS ?_ | refine zA ?_ | refine zM ?_ | refine xr rfl ?_ | refine ai rfl ?_ | refine condT ?_ | refine condF ?_ | refine condG1 ?_ | refine condG0 ?_ | refine cD ?_ | refine dD ?_ | refine cB ?_ | refine dB ?_ | refine cN ?_ | refine dN ?_ | refine cV ?_ | refine dV ?_ | refine cE ?_ | refine dE ?_ | refine condX0 ?_ | refine condX1 ?_ | refine condNot ?_ | refine condAnd ?_ | refine condOr ?_ | refine aO ?_ | refine aB ?_ | refine aR ?_ | refine aR ?_ (by simp; omega) | refine xr (by assumption) ?_ | refine ai (by assumption) ?_ | refine kV (word_gives81 _) ?_ | refine kV (check_gives80 a.path h1 h2) ?_ | refine kV (comm_gives82 a.comms h3) ?_ | refine condD (fun h => ?_) (fun h => ?_) | refine condB (fun h => ?_) (fun h => ?_) | refine condN (fun h => ?_) (fun h => ?_) | refine condE (fun h => ?_) (fun h => ?_) | refine condV (fun h => ?_) (fun h => ?_))
  all_goals try (have hN : a.clusters.length > 64 := by omega)
  all_goals try (rename (a.hasOrig = (a.orig != 0)) => hq; replace hq := orig0 hq)
  all_goals try (rename (¬ a.hasOrig = (a.orig != 0)) => hq; replace hq := orig1 hq)
  all_goals try ((first | refine ev_fin (And.intro (by first | rfl | (simp [AV.pure, pureL]; done) | fail) ?_) | refine ev_fin0 (And.intro (by first | rfl | (simp [AV.pure, pureL]; done) | fail) ?_)); first | rfl | (simp [checkS, checkL, firstS, optE, clustersE, Bool.cond_eq_ite, *]; done) | (simp [checkS, checkL, firstS, optE, clustersE, Bool.cond_eq_ite, *]; omega) | (unfold checkS checkL firstS optE clustersE; repeat' split; all_goals first | rfl | (exfalso; omega) | (simp_all; done) | (simp_all; omega)))
  all_goals (rw [checkS_last a (by simp [checkL, optE, *]) (by assumption)]; refine ev_keep [107, 108, 109, 1] [65] ?_; exact cl_loop66 a.clusters a rfl h5 h6 h4 _ (by simp) a.clusters [] _ _ _ 0 rfl rfl)
end Go.AM.IR
set_option maxHeartbeats 4000000
set_option maxRecDepth 20000
namespace Go.AM.IR
theorem wdB_eq (l : List Int) : wdB l = wordsB l := rfl
theorem four1 (x : Int) (h0 : 0 ≤ x) (h1 : x ≤ 4294967295) : Gives G 90 [.sl 1 [[.int .u32 x]]] [] (rB (be 4 x.toNat)) := by
  have h := four_gives90 [x] (by simp) (by simp; omega)
  rw [show wdB [x] = be 4 x.toNat from by simp [wdB]] at h
  exact h

theorem unk_loop68 (l : List TLV) (a : Attrs) (hv : ∀ t ∈ l, (0 < t.kind ∧ t.kind ≤ 255) ∧ t.value.length ≤ 255) (ha : a.unknown = l) (b0 : List UInt8) (hb : (b0 ++ c13 a).length < 2 ^ 37) (hl : l.length < 2 ^ 40) (ln : Int) (hln : ln = l.length) : ∀ (rest done : List TLV) (g n1 : Nat) (es : List (List AV)) (T : List (Nat × AV)) (H : Heap) (c : Nat) (n : Int) (e : l = done ++ rest) (hn : n = done.length) (hn1 : n1 = (b0 ++ done.flatMap fun t => putB t.kind t.value).length) (hes : es = byteCells (b0 ++ done.flatMap fun t => putB t.kind t.value)), Ev G ⟨f68x36LH, ⟨(121, .sl 2 (l.map TLV.enc)) :: (122, .int .i64 ln) :: (123, .int .i64 n) :: (10, .vs 108 g n1) :: T, (108, some (g, .vec 1 es)) :: H, c⟩, [.t 4, .t 5], 0⟩ (encRet false (b0 ++ c13 a))
  | [], done, g, n1, es, T, H, c, n, e, hn, hn1, hes => by
    have hd : l.length = done.length := by simp [e]
    have hll : (l.map TLV.enc).length = l.length := by simp
    obtain rfl : l = done := by simpa using e
    subst hn1 hes
    refine ev_loop' (W_ok 300 _ _ _ _ ?_)
    repeat' ((conv => whnf); first | refine bslP (by first | rfl | (simp [pureL, pureLL, AV.pure]; done) | fail) rfl ?_ | refine TakeC.full (by first | rfl | omega | (simp; done) | (simp; omega) | fail) ?_ | refine zBs ?_ | refine zBn ?_ | refine zBv rfl rfl ?_ | refine zN ?_ | refine zC ?_ | refine zC4 ?_ | refine zOr16 ?_ | refine zC1 ?_ | refine zByte ?_ | refine zMaxL ?_ | refine zMaxR ?_ | refine zMinL ?_ | refine zMinR ?_ | refine zShr ?_ | refine zC8 ?_ | refine zQ ?_ | refine zR ?_ | refine zS ?_ | refine zA ?_ | refine zM ?_ | refine xr rfl ?_ | refine ai rfl ?_ | refine condT ?_ | refine condF ?_ | refine condG1 ?_ | refine condG0 ?_ | refine cD ?_ | refine dD ?_ | refine cB ?_ | refine dB ?_ | refine cN ?_ | refine dN ?_ | refine cV ?_ | refine dV ?_ | refine cE ?_ | refine dE ?_ | refine condX0 ?_ | refine condX1 ?_ | refine condNot ?_ | refine condAnd ?_ | refine condOr ?_ | refine aO ?_ | refine aB ?_ | refine aR ?_ | refine aR ?_ (by simp; omega) | refine xr (by assumption) ?_ | refine ai (by assumption) ?_ | refine condD (fun h => ?_) (fun h => ?_) | refine condB (fun h => ?_) (fun h => ?_) | refine condN (fun h => ?_) (fun h => ?_) | refine condE (fun h => ?_) (fun h => ?_) | refine condV (fun h => ?_) (fun h => ?_))
    refine ev_finN [(108, g, .vec 1 (byteCells _))] ⟨⟨rfl, (by simp [Blk.pure]), trivial⟩, rfl, rfl, (by simp), ?_⟩
    simp [AV.ren, renL, φR, encRet, c13, ha]
  | x :: r, done, g, n1, es, T, H, c, n, e, hn, hn1, hes => by
    have hd : l.length = done.length + (r.length + 1) := by simp [e]
    have hll : (l.map TLV.enc).length = l.length := by simp
    have hx : (l.map TLV.enc)[n.toNat]? = some (TLV.enc x) := by simp [e, hn]
    obtain ⟨⟨hk0, hk1⟩, hxl⟩ := hv x (by simp [e])
    subst hn1 hes
    have hb2 : (b0 ++ done.flatMap fun t => putB t.kind t.value).length ≤ (b0 ++ c13 a).length := by simp [c13, ha, e]
    have hput := attr_gives88b (b0 ++ done.flatMap fun t => putB t.kind t.value) x.value x.kind hk0 hk1 (by omega) (by omega)
    refine ev_loop' (W_ok 300 _ _ _ _ ?_)
    repeat' ((conv => whnf); first | refine bslP (by first | rfl | (simp [pureL, pureLL, AV.pure]; done) | fail) rfl ?_ | refine TakeC.full (by first | rfl | omega | (simp; done) | (simp; omega) | fail) ?_ | refine zBs ?_ | refine zBn ?_ | refine zBv rfl rfl ?_ | refine zN ?_ | refine zC ?_ | refine zC4 ?_ | refine zOr16 ?_ | refine zC1 ?_ | refine zByte ?_ | refine zMaxL ?_ | refine zMaxR ?_ | refine zMinL ?_ | refine zMinR ?_ | refine zShr ?_ | refine zC8 ?_ | refine zQ ?_ | refine zR ?_ | refine zS ?_ | refine zA ?_ | refine zM ?_ | refine xr rfl ?_ | refine ai rfl ?_ | refine condT ?_ | refine condF ?_ | refine condG1 ?_ | refine condG0 ?_ | refine cD ?_ | refine dD ?_ | refine cB ?_ | refine dB ?_ | refine cN ?_ | refine dN ?_ | refine cV ?_ | refine dV ?_ | refine cE ?_ | refine dE ?_ | refine condX0 ?_ | refine condX1 ?_ | refine condNot ?_ | refine condAnd ?_ | refine condOr ?_ | refine aO ?_ | refine aB ?_ | refine aR ?_ | refine aR ?_ (by simp; omega) | refine xr (by assumption) ?_ | refine ai (by assumption) ?_ | refine kX [(108, _, _)] [] ⟨rfl, trivial⟩ trivial (hput) ?_ | refine condD (fun h => ?_) (fun h => ?_) | refine condB (fun h => ?_) (fun h => ?_) | refine condN (fun h => ?_) (fun h => ?_) | refine condE (fun h => ?_) (fun h => ?_) | refine condV (fun h => ?_) (fun h => ?_))
    refine ev_keep [121, 122, 123, 10] [108] ?_; exact unk_loop68 l a hv ha b0 hb hl ln hln r (done ++ [x]) _ _ _ _ _ _ (n + 1) (by simp [e]) (by simp [hn] <;> omega) (by simp) (by simp)
structure EncV2 (a : Attrs) : Prop where
  unknown : ∀ t ∈ a.unknown, (0 < t.kind ∧ t.kind ≤ 255) ∧ t.value.length ≤ 255
theorem enc68_15 (a : Attrs) (hv : EncV a) (hv2 : EncV2 a) (wide : Bool) (b : List UInt8) (T : List (Nat × AV)) (H : Heap) (c g : Nat) (hb : (b ++ r13 a (wd wide)).length < 2 ^ 37) : Ev G ⟨[.code (suf 15 f68.body)], ⟨(10, .vs 108 g b.length) :: (2, .ref 66 1 0) :: (1, .bool wide) :: T, (66, some (1, .cells a.enc)) :: (108, some (g, .vec 1 (byteCells b))) :: H, c⟩, [.t 4, .t 5], 0⟩ (encRet false (b ++ r13 a (wd wide))) := by
  refine ev_seq (b := suf 16 f68.body) ?_
  refine W_ok 300 _ _ _ _ ?_
  repeat' ((conv => whnf); first | refine bslP (by first | rfl | (simp [pureL, pureLL, AV.pure]; done) | fail) rfl ?_ | refine TakeC.full (by first | rfl | omega | (simp; done) | (simp; omega) | fail) ?_ | refine zBs ?_ | refine zBn ?_ | refine zBv rfl rfl ?_ | refine zN ?_ | refine zC ?_ | refine zC4 ?_ | refine zOr16 ?_ | refine zC1 ?_ | refine zByte ?_ | refine zMaxL ?_ | refine zMaxR ?_ | refine zMinL ?_ | refine zMinR ?_ | refine zShr ?_ | refine zC8 ?_ | refine zQ ?_ | refine zR ?_ | refine zS ?_ | refine zA ?_ | refine zM ?_ | refine xr rfl ?_ | refine ai rfl ?_ | refine condT ?_ | refine condF ?_ | refine condG1 ?_ | refine condG0 ?_ | refine cD ?_ | refine dD ?_ | refine cB ?_ | refine dB ?_ | refine cN ?_ | refine dN ?_ | refine cV ?_ | refine dV ?_ | refine cE ?_ | refine dE ?_ | refine condX0 ?_ | refine condX1 ?_ | refine condNot ?_ | refine condAnd ?_ | refine condOr ?_ | refine aO ?_ | refine aB ?_ | refine aR ?_ | refine aR ?_ (by simp; omega) | refine xr (by assumption) ?_ | refine ai (by assumption) ?_ | refine condD (fun h => ?_) (fun h => ?_) | refine condB (fun h => ?_) (fun h => ?_) | refine condN (fun h => ?_) (fun h => ?_) | refine condE (fun h => ?_) (fun h => ?_) | refine condV (fun h => ?_) (fun h => ?_))
  refine ev_keep [121, 122, 123, 10] [108] ?_
  have hu := hv.unknownL
  exact unk_loop68 a.unknown a hv2.unknown rfl b hb (by omega) _ (by simp) a.unknown [] g b.length (byteCells b) _ _ _ 0 rfl rfl (by simp) (by simp)

theorem enc68_14 (a : Attrs) (hv : EncV a) (hv2 : EncV2 a) (wide : Bool) (b : List UInt8) (T : List (Nat × AV)) (H : Heap) (c g : Nat) (hb : (b ++ r12 a (wd wide)).length < 2 ^ 37) : Ev G ⟨[.code (suf 14 f68.body)], ⟨(10, .vs 108 g b.length) :: (2, .ref 66 1 0) :: (1, .bool wide) :: T, (66, some (1, .cells a.enc)) :: (108, some (g, .vec 1 (byteCells b))) :: H, c⟩, [.t 4, .t 5], 0⟩ (encRet false (b ++ r12 a (wd wide))) := by
  have hf := hv.clusters
  have hag := hv.aggrAddr
  have hwd := wd_le wide
  have hcl := hv.clustersL
  have hcm := hv.commsL
  have hll1 : (a.clusters.map encU).length = a.clusters.length := by simp
  have hll2 : (a.comms.map encU).length = a.comms.length := by simp
  have hbl : b.length < 2 ^ 37 := by simp at hb; omega
  by_cases hc : a.clusters.length > 0
  · have hq : b ++ r12 a (wd wide) = (b ++ putB 10 (wdB a.clusters)) ++ r13 a (wd wide) := by simp [r12, c12, hc, wdB_eq]
    have hvl : (wdB a.clusters : List UInt8).length < 2 ^ 38 := by (rw [wdB, fm_length]; omega)
    have hput := attr_gives88a b (wdB a.clusters) 10 (by omega) (by omega) (by omega) hvl
    rw [hq] at hb ⊢
    refine ev_seq (b := suf 15 f68.body) ?_
    refine W_okd 1 300 _ _ _ _ ?_
    repeat' ((conv => whnf); first | refine bslP (by first | rfl | (simp [pureL, pureLL, AV.pure]; done) | fail) rfl ?_ | refine TakeC.full (by first | rfl | omega | (simp; done) | (simp; omega) | fail) ?_ | refine zBs ?_ | refine zBn ?_ | refine zBv rfl rfl ?_ | refine zN ?_ | refine zC ?_ | refine zC4 ?_ | refine zOr16 ?_ | refine zC1 ?_ | refine zByte ?_ | refine zMaxL ?_ | refine zMaxR ?_ | refine zMinL ?_ | refine zMinR ?_ | refine zShr ?_ | refine zC8 ?_ | refine zQ ?_ | refine zR ?_ | refine zS ?_ | refine zA ?_ | refine zM ?_ | refine xr rfl ?_ | refine ai rfl ?_ | refine condT ?_ | refine condF ?_ | refine condG1 ?_ | refine condG0 ?_ | refine cD ?_ | refine dD ?_ | refine cB ?_ | refine dB ?_ | refine cN ?_ | refine dN ?_ | refine cV ?_ | refine dV ?_ | refine cE ?_ | refine dE ?_ | refine condX0 ?_ | refine condX1 ?_ | refine condNot ?_ | refine condAnd ?_ | refine condOr ?_ | refine aO ?_ | refine aB ?_ | refine aR ?_ | refine aR ?_ (by simp; omega) | refine xr (by assumption) ?_ | refine ai (by assumption) ?_ | refine kN (four_gives90 a.clusters (by omega) hv.clusters) ?_ | refine kX [(108, _, _), (182, _, _)] [] ⟨rfl, rfl, trivial⟩ trivial (hput) ?_ | refine condD (fun h => ?_) (fun h => ?_) | refine condB (fun h => ?_) (fun h => ?_) | refine condN (fun h => ?_) (fun h => ?_) | refine condE (fun h => ?_) (fun h => ?_) | refine condV (fun h => ?_) (fun h => ?_))
    refine ev_keep [10, 2, 1] [66, 108] ?_
    exact enc68_15 a hv hv2 wide _ _ _ _ _ hb
  · have hq : b ++ r12 a (wd wide) = b ++ r13 a (wd wide) := by simp [r12, c12, hc]
    rw [hq] at hb ⊢
    refine ev_seq (b := suf 15 f68.body) ?_
    try simp only [Bool.not_eq_true] at hc
    refine W_okd 1 300 _ _ _ _ ?_
    repeat' ((conv => whnf); first | refine bslP (by first | rfl | (simp [pureL, pureLL, AV.pure]; done) | fail) rfl ?_ | refine TakeC.full (by first | rfl | omega | (simp; done) | (simp; omega) | fail) ?_ | refine zBs ?_ | refine zBn ?_ | refine zBv rfl rfl ?_ | refine zN ?_ | refine zC ?_ | refine zC4 ?_ | refine zOr16 ?_ | refine zC1 ?_ | refine zByte ?_ | refine zMaxL ?_ | refine zMaxR ?_ | refine zMinL ?_ | refine zMinR ?_ | refine zShr ?_ | refine zC8 ?_ | refine zQ ?_ | refine zR ?_ | refine zS ?_ | refine zA ?_ | refine zM ?_ | refine xr rfl ?_ | refine ai rfl ?_ | refine condT ?_ | refine condF ?_ | refine condG1 ?_ | refine condG0 ?_ | refine cD ?_ | refine dD ?_ | refine cB ?_ | refine dB ?_ | refine cN ?_ | refine dN ?_ | refine cV ?_ | refine dV ?_ | refine cE ?_ | refine dE ?_ | refine condX0 ?_ | refine condX1 ?_ | refine condNot ?_ | refine condAnd ?_ | refine condOr ?_ | refine aO ?_ | refine aB ?_ | refine aR ?_ | refine aR ?_ (by simp; omega) | refine xr (by assumption) ?_ | refine ai (by assumption) ?_ | refine condD (fun h => ?_) (fun h => ?_) | refine condB (fun h => ?_) (fun h => ?_) | refine condN (fun h => ?_) (fun h => ?_) | refine condE (fun h => ?_) (fun h => ?_) | refine condV (fun h => ?_) (fun h => ?_))
    refine ev_keep [10, 2, 1] [66, 108] ?_
    exact enc68_15 a hv hv2 wide _ _ _ _ _ hb

theorem enc68_13 (a : Attrs) (hv : EncV a) (hv2 : EncV2 a) (wide : Bool) (b : List UInt8) (T : List (Nat × AV)) (H : Heap) (c g : Nat) (hb : (b ++ r11 a (wd wide)).length < 2 ^ 37) : Ev G ⟨[.code (suf 13 f68.body)], ⟨(10, .vs 108 g b.length) :: (2, .ref 66 1 0) :: (1, .bool wide) :: T, (66, some (1, .cells a.enc)) :: (108, some (g, .vec 1 (byteCells b))) :: H, c⟩, [.t 4, .t 5], 0⟩ (encRet false (b ++ r11 a (wd wide))) := by
  have hf := hv.orig
  have hag := hv.aggrAddr
  have hwd := wd_le wide
  have hcl := hv.clustersL
  have hcm := hv.commsL
  have hll1 : (a.clusters.map encU).length = a.clusters.length := by simp
  have hll2 : (a.comms.map encU).length = a.comms.length := by simp
  have hbl : b.length < 2 ^ 37 := by simp at hb; omega
  by_cases hc : a.hasOrig = true
  · have hq : b ++ r11 a (wd wide) = (b ++ putB 9 (be 4 a.orig.toNat)) ++ r12 a (wd wide) := by simp [r11, c11, hc, wdB_eq]
    have hvl : (be 4 a.orig.toNat : List UInt8).length < 2 ^ 38 := by (rw [be_length]; omega)
    have hput := attr_gives88a b (be 4 a.orig.toNat) 9 (by omega) (by omega) (by omega) hvl
    rw [hq] at hb ⊢
    refine ev_seq (b := suf 14 f68.body) ?_
    refine W_okd 1 300 _ _ _ _ ?_
    repeat' ((conv => whnf); first | refine bslP (by first | rfl | (simp [pureL, pureLL, AV.pure]; done) | fail) rfl ?_ | refine TakeC.full (by first | rfl | omega | (simp; done) | (simp; omega) | fail) ?_ | refine zBs ?_ | refine zBn ?_ | refine zBv rfl rfl ?_ | refine zN ?_ | refine zC ?_ | refine zC4 ?_ | refine zOr16 ?_ | refine zC1 ?_ | refine zByte ?_ | refine zMaxL ?_ | refine zMaxR ?_ | refine zMinL ?_ | refine zMinR ?_ | refine zShr ?_ | refine zC8 ?_ | refine zQ ?_ | refine zR ?_ | refine zS ?_ | refine zA ?_ | refine zM ?_ | refine xr rfl ?_ | refine ai rfl ?_ | refine condT ?_ | refine condF ?_ | refine condG1 ?_ | refine condG0 ?_ | refine cD ?_ | refine dD ?_ | refine cB ?_ | refine dB ?_ | refine cN ?_ | refine dN ?_ | refine cV ?_ | refine dV ?_ | refine cE ?_ | refine dE ?_ | refine condX0 ?_ | refine condX1 ?_ | refine condNot ?_ | refine condAnd ?_ | refine condOr ?_ | refine aO ?_ | refine aB ?_ | refine aR ?_ | refine aR ?_ (by simp; omega) | refine xr (by assumption) ?_ | refine ai (by assumption) ?_ | refine kX [] [(172, _, _)] trivial ⟨rfl, pz trivial⟩ ((four1 a.orig (by omega) (by omega))) ?_ | refine kX [(108, _, _), (173, _, _)] [] ⟨rfl, rfl, trivial⟩ trivial (hput) ?_ | refine condD (fun h => ?_) (fun h => ?_) | refine condB (fun h => ?_) (fun h => ?_) | refine condN (fun h => ?_) (fun h => ?_) | refine condE (fun h => ?_) (fun h => ?_) | refine condV (fun h => ?_) (fun h => ?_))
    refine ev_keep [10, 2, 1] [66, 108] ?_
    exact enc68_14 a hv hv2 wide _ _ _ _ _ hb
  · have hq : b ++ r11 a (wd wide) = b ++ r12 a (wd wide) := by simp [r11, c11, hc]
    rw [hq] at hb ⊢
    refine ev_seq (b := suf 14 f68.body) ?_
    try simp only [Bool.not_eq_true] at hc
    refine W_okd 1 300 _ _ _ _ ?_
    repeat' ((conv => whnf); first | refine bslP (by first | rfl | (simp [pureL, pureLL, AV.pure]; done) | fail) rfl ?_ | refine TakeC.full (by first | rfl | omega | (simp; done) | (simp; omega) | fail) ?_ | refine zBs ?_ | refine zBn ?_ | refine zBv rfl rfl ?_ | refine zN ?_ | refine zC ?_ | refine zC4 ?_ | refine zOr16 ?_ | refine zC1 ?_ | refine zByte ?_ | refine zMaxL ?_ | refine zMaxR ?_ | refine zMinL ?_ | refine zMinR ?_ | refine zShr ?_ | refine zC8 ?_ | refine zQ ?_ | refine zR ?_ | refine zS ?_ | refine zA ?_ | refine zM ?_ | refine xr rfl ?_ | refine ai rfl ?_ | refine condT ?_ | refine condF ?_ | refine condG1 ?_ | refine condG0 ?_ | refine cD ?_ | refine dD ?_ | refine cB ?_ | refine dB ?_ | refine cN ?_ | refine dN ?_ | refine cV ?_ | refine dV ?_ | refine cE ?_ | refine dE ?_ | refine condX0 ?_ | refine condX1 ?_ | refine condNot ?_ | refine condAnd ?_ | refine condOr ?_ | refine aO ?_ | refine aB ?_ | refine aR ?_ | refine aR ?_ (by simp; omega) | refine xr (by assumption) ?_ | refine ai (by assumption) ?_ | refine condD (fun h => ?_) (fun h => ?_) | refine condB (fun h => ?_) (fun h => ?_) | refine condN (fun h => ?_) (fun h => ?_) | refine condE (fun h => ?_) (fun h => ?_) | refine condV (fun h => ?_) (fun h => ?_))
    refine ev_keep [10, 2, 1] [66, 108] ?_
    exact enc68_14 a hv hv2 wide _ _ _ _ _ hb

theorem enc68_12 (a : Attrs) (hv : EncV a) (hv2 : EncV2 a) (wide : Bool) (b : List UInt8) (T : List (Nat × AV)) (H : Heap) (c g : Nat) (hb : (b ++ r10 a (wd wide)).length < 2 ^ 37) : Ev G ⟨[.code (suf 12 f68.body)], ⟨(10, .vs 108 g b.length) :: (2, .ref 66 1 0) :: (1, .bool wide) :: T, (66, some (1, .cells a.enc)) :: (108, some (g, .vec 1 (byteCells b))) :: H, c⟩, [.t 4, .t 5], 0⟩ (encRet false (b ++ r10 a (wd wide))) := by
  have hf := hv.comms
  have hag := hv.aggrAddr
  have hwd := wd_le wide
  have hcl := hv.clustersL
  have hcm := hv.commsL
  have hll1 : (a.clusters.map encU).length = a.clusters.length := by simp
  have hll2 : (a.comms.map encU).length = a.comms.length := by simp
  have hbl : b.length < 2 ^ 37 := by simp at hb; omega
  by_cases hc : a.comms.length > 0
  · have hq : b ++ r10 a (wd wide) = (b ++ putB 8 (wdB a.comms)) ++ r11 a (wd wide) := by simp [r10, c10, hc, wdB_eq]
    have hvl : (wdB a.comms : List UInt8).length < 2 ^ 38 := by (rw [wdB, fm_length]; omega)
    have hput := attr_gives88a b (wdB a.comms) 8 (by omega) (by omega) (by omega) hvl
    rw [hq] at hb ⊢
    refine ev_seq (b := suf 13 f68.body) ?_
    refine W_okd 1 300 _ _ _ _ ?_
    repeat' ((conv => whnf); first | refine bslP (by first | rfl | (simp [pureL, pureLL, AV.pure]; done) | fail) rfl ?_ | refine TakeC.full (by first | rfl | omega | (simp; done) | (simp; omega) | fail) ?_ | refine zBs ?_ | refine zBn ?_ | refine zBv rfl rfl ?_ | refine zN ?_ | refine zC ?_ | refine zC4 ?_ | refine zOr16 ?_ | refine zC1 ?_ | refine zByte ?_ | refine zMaxL ?_ | refine zMaxR ?_ | refine zMinL ?_ | refine zMinR ?_ | refine zShr ?_ | refine zC8 ?_ | refine zQ ?_ | refine zR ?_ | refine zS ?_ | refine zA ?_ | refine zM ?_ | refine xr rfl ?_ | refine ai rfl ?_ | refine condT ?_ | refine condF ?_ | refine condG1 ?_ | refine condG0 ?_ | refine cD ?_ | refine dD ?_ | refine cB ?_ | refine dB ?_ | refine cN ?_ | refine dN ?_ | refine cV ?_ | refine dV ?_ | refine cE ?_ | refine dE ?_ | refine condX0 ?_ | refine condX1 ?_ | refine condNot ?_ | refine condAnd ?_ | refine condOr ?_ | refine aO ?_ | refine aB ?_ | refine aR ?_ | refine aR ?_ (by simp; omega) | refine xr (by assumption) ?_ | refine ai (by assumption) ?_ | refine kN (four_gives90 a.comms (by omega) hv.comms) ?_ | refine kX [(108, _, _), (165, _, _)] [] ⟨rfl, rfl, trivial⟩ trivial (hput) ?_ | refine condD (fun h => ?_) (fun h => ?_) | refine condB (fun h => ?_) (fun h => ?_) | refine condN (fun h => ?_) (fun h => ?_) | refine condE (fun h => ?_) (fun h => ?_) | refine condV (fun h => ?_) (fun h => ?_))
    refine ev_keep [10, 2, 1] [66, 108] ?_
    exact enc68_13 a hv hv2 wide _ _ _ _ _ hb
  · have hq : b ++ r10 a (wd wide) = b ++ r11 a (wd wide) := by simp [r10, c10, hc]
    rw [hq] at hb ⊢
    refine ev_seq (b := suf 13 f68.body) ?_
    try simp only [Bool.not_eq_true] at hc
    refine W_okd 1 300 _ _ _ _ ?_
    repeat' ((conv => whnf); first | refine bslP (by first | rfl | (simp [pureL, pureLL, AV.pure]; done) | fail) rfl ?_ | refine TakeC.full (by first | rfl | omega | (simp; done) | (simp; omega) | fail) ?_ | refine zBs ?_ | refine zBn ?_ | refine zBv rfl rfl ?_ | refine zN ?_ | refine zC ?_ | refine zC4 ?_ | refine zOr16 ?_ | refine zC1 ?_ | refine zByte ?_ | refine zMaxL ?_ | refine zMaxR ?_ | refine zMinL ?_ | refine zMinR ?_ | refine zShr ?_ | refine zC8 ?_ | refine zQ ?_ | refine zR ?_ | refine zS ?_ | refine zA ?_ | refine zM ?_ | refine xr rfl ?_ | refine ai rfl ?_ | refine condT ?_ | refine condF ?_ | refine condG1 ?_ | refine condG0 ?_ | refine cD ?_ | refine dD ?_ | refine cB ?_ | refine dB ?_ | refine cN ?_ | refine dN ?_ | refine cV ?_ | refine dV ?_ | refine cE ?_ | refine dE ?_ | refine condX0 ?_ | refine condX1 ?_ | refine condNot ?_ | refine condAnd ?_ | refine condOr ?_ | refine aO ?_ | refine aB ?_ | refine aR ?_ | refine aR ?_ (by simp; omega) | refine xr (by assumption) ?_ | refine ai (by assumption) ?_ | refine condD (fun h => ?_) (fun h => ?_) | refine condB (fun h => ?_) (fun h => ?_) | refine condN (fun h => ?_) (fun h => ?_) | refine condE (fun h => ?_) (fun h => ?_) | refine condV (fun h => ?_) (fun h => ?_))
    refine ev_keep [10, 2, 1] [66, 108] ?_
    exact enc68_13 a hv hv2 wide _ _ _ _ _ hb

theorem enc68_11 (a : Attrs) (hv : EncV a) (hv2 : EncV2 a) (wide : Bool) (b : List UInt8) (T : List (Nat × AV)) (H : Heap) (c g : Nat) (hb : (b ++ r9 a (wd wide)).length < 2 ^ 37) : Ev G ⟨[.code (suf 11 f68.body)], ⟨(10, .vs 108 g b.length) :: (2, .ref 66 1 0) :: (1, .bool wide) :: T, (66, some (1, .cells a.enc)) :: (108, some (g, .vec 1 (byteCells b))) :: H, c⟩, [.t 4, .t 5], 0⟩ (encRet false (b ++ r9 a (wd wide))) := by
  have hf := hv.aggrAS
  have hag := hv.aggrAddr
  have hwd := wd_le wide
  have hcl := hv.clustersL
  have hcm := hv.commsL
  have hll1 : (a.clusters.map encU).length = a.clusters.length := by simp
  have hll2 : (a.comms.map encU).length = a.comms.length := by simp
  have hbl : b.length < 2 ^ 37 := by simp at hb; omega
  by_cases hc : a.hasAggr = true
  · have hq : b ++ r9 a (wd wide) = (b ++ putB 7 (be (wd wide) a.aggrAS.toNat ++ be 4 a.aggrAddr.toNat)) ++ r10 a (wd wide) := by simp [r9, c9, hc, wdB_eq]
    have hvl : (be (wd wide) a.aggrAS.toNat ++ be 4 a.aggrAddr.toNat : List UInt8).length < 2 ^ 38 := by (simp; omega)
    have hput := attr_gives88a b (be (wd wide) a.aggrAS.toNat ++ be 4 a.aggrAddr.toNat) 7 (by omega) (by omega) (by omega) hvl
    have hp1 := put0_gives91 (wd wide) a.aggrAS.toNat (by omega)
    rw [show ((a.aggrAS.toNat : Nat) : Int) = a.aggrAS from by omega] at hp1
    have hp2 := put_gives91 (be (wd wide) a.aggrAS.toNat) (by rw [be_length]; omega) 4 a.aggrAddr.toNat (by omega)
    rw [show ((a.aggrAddr.toNat : Nat) : Int) = a.aggrAddr from by omega] at hp2
    rw [hq] at hb ⊢
    refine ev_seq (b := suf 12 f68.body) ?_
    refine W_okd 1 300 _ _ _ _ ?_
    repeat' ((conv => whnf); first | refine bslP (by first | rfl | (simp [pureL, pureLL, AV.pure]; done) | fail) rfl ?_ | refine TakeC.full (by first | rfl | omega | (simp; done) | (simp; omega) | fail) ?_ | refine zBs ?_ | refine zBn ?_ | refine zBv rfl rfl ?_ | refine zN ?_ | refine zC ?_ | refine zC4 ?_ | refine zOr16 ?_ | refine zC1 ?_ | refine zByte ?_ | refine zMaxL ?_ | refine zMaxR ?_ | refine zMinL ?_ | refine zMinR ?_ | refine zShr ?_ | refine zC8 ?_ | refine zQ ?_ | refine zR ?_ | refine zS ?_ | refine zA ?_ | refine zM ?_ | refine xr rfl ?_ | refine ai rfl ?_ | refine condT ?_ | refine condF ?_ | refine condG1 ?_ | refine condG0 ?_ | refine cD ?_ | refine dD ?_ | refine cB ?_ | refine dB ?_ | refine cN ?_ | refine dN ?_ | refine cV ?_ | refine dV ?_ | refine cE ?_ | refine dE ?_ | refine condX0 ?_ | refine condX1 ?_ | refine condNot ?_ | refine condAnd ?_ | refine condOr ?_ | refine aO ?_ | refine aB ?_ | refine aR ?_ | refine aR ?_ (by simp; omega) | refine xr (by assumption) ?_ | refine ai (by assumption) ?_ | refine kV (width_gives92 wide) ?_ | refine kN (hp1) ?_ | refine kX [] [(150, _, _)] trivial ⟨rfl, pz trivial⟩ (hp2) ?_ | refine kX [(108, _, _), (156, _, _)] [] ⟨rfl, rfl, trivial⟩ trivial (hput) ?_ | refine condD (fun h => ?_) (fun h => ?_) | refine condB (fun h => ?_) (fun h => ?_) | refine condN (fun h => ?_) (fun h => ?_) | refine condE (fun h => ?_) (fun h => ?_) | refine condV (fun h => ?_) (fun h => ?_))
    refine ev_keep [10, 2, 1] [66, 108] ?_
    exact enc68_12 a hv hv2 wide _ _ _ _ _ hb
  · have hq : b ++ r9 a (wd wide) = b ++ r10 a (wd wide) := by simp [r9, c9, hc]
    rw [hq] at hb ⊢
    refine ev_seq (b := suf 12 f68.body) ?_
    try simp only [Bool.not_eq_true] at hc
    refine W_okd 1 300 _ _ _ _ ?_
    repeat' ((conv => whnf); first | refine bslP (by first | rfl | (simp [pureL, pureLL, AV.pure]; done) | fail) rfl ?_ | refine TakeC.full (by first | rfl | omega | (simp; done) | (simp; omega) | fail) ?_ | refine zBs ?_ | refine zBn ?_ | refine zBv rfl rfl ?_ | refine zN ?_ | refine zC ?_ | refine zC4 ?_ | refine zOr16 ?_ | refine zC1 ?_ | refine zByte ?_ | refine zMaxL ?_ | refine zMaxR ?_ | refine zMinL ?_ | refine zMinR ?_ | refine zShr ?_ | refine zC8 ?_ | refine zQ ?_ | refine zR ?_ | refine zS ?_ | refine zA ?_ | refine zM ?_ | refine xr rfl ?_ | refine ai rfl ?_ | refine condT ?_ | refine condF ?_ | refine condG1 ?_ | refine condG0 ?_ | refine cD ?_ | refine dD ?_ | refine cB ?_ | refine dB ?_ | refine cN ?_ | refine dN ?_ | refine cV ?_ | refine dV ?_ | refine cE ?_ | refine dE ?_ | refine condX0 ?_ | refine condX1 ?_ | refine condNot ?_ | refine condAnd ?_ | refine condOr ?_ | refine aO ?_ | refine aB ?_ | refine aR ?_ | refine aR ?_ (by simp; omega) | refine xr (by assumption) ?_ | refine ai (by assumption) ?_ | refine condD (fun h => ?_) (fun h => ?_) | refine condB (fun h => ?_) (fun h => ?_) | refine condN (fun h => ?_) (fun h => ?_) | refine condE (fun h => ?_) (fun h => ?_) | refine condV (fun h => ?_) (fun h => ?_))
    refine ev_keep [10, 2, 1] [66, 108] ?_
    exact enc68_12 a hv hv2 wide _ _ _ _ _ hb

theorem enc68_10 (a : Attrs) (hv : EncV a) (hv2 : EncV2 a) (wide : Bool) (b : List UInt8) (T : List (Nat × AV)) (H : Heap) (c g : Nat) (hb : (b ++ r8 a (wd wide)).length < 2 ^ 37) : Ev G ⟨[.code (suf 10 f68.body)], ⟨(10, .vs 108 g b.length) :: (2, .ref 66 1 0) :: (1, .bool wide) :: T, (66, some (1, .cells a.enc)) :: (108, some (g, .vec 1 (byteCells b))) :: H, c⟩, [.t 4, .t 5], 0⟩ (encRet false (b ++ r8 a (wd wide))) := by
  have hf := hv.comms
  have hag := hv.aggrAddr
  have hwd := wd_le wide
  have hcl := hv.clustersL
  have hcm := hv.commsL
  have hll1 : (a.clusters.map encU).length = a.clusters.length := by simp
  have hll2 : (a.comms.map encU).length = a.comms.length := by simp
  have hbl : b.length < 2 ^ 37 := by simp at hb; omega
  by_cases hc : a.atomic = true
  · have hq : b ++ r8 a (wd wide) = (b ++ putB 6 ([])) ++ r9 a (wd wide) := by simp [r8, c8, hc, wdB_eq]
    have hvl : ([] : List UInt8).length < 2 ^ 38 := by simp
    have hput := gives_le rfl (attr_gives88b b [] 6 (by omega) (by omega) (by omega) (by simp)) (show LLe Any [.vs 0 0 b.length, .int .i64 6, .con (.slice none 0 0)] _ from ⟨.refl _, .refl _, LeP.nil 1, trivial⟩)
    rw [hq] at hb ⊢
    refine ev_seq (b := suf 11 f68.body) ?_
    refine W_okd 1 300 _ _ _ _ ?_
    repeat' ((conv => whnf); first | refine bslP (by first | rfl | (simp [pureL, pureLL, AV.pure]; done) | fail) rfl ?_ | refine TakeC.full (by first | rfl | omega | (simp; done) | (simp; omega) | fail) ?_ | refine zBs ?_ | refine zBn ?_ | refine zBv rfl rfl ?_ | refine zN ?_ | refine zC ?_ | refine zC4 ?_ | refine zOr16 ?_ | refine zC1 ?_ | refine zByte ?_ | refine zMaxL ?_ | refine zMaxR ?_ | refine zMinL ?_ | refine zMinR ?_ | refine zShr ?_ | refine zC8 ?_ | refine zQ ?_ | refine zR ?_ | refine zS ?_ | refine zA ?_ | refine zM ?_ | refine xr rfl ?_ | refine ai rfl ?_ | refine condT ?_ | refine condF ?_ | refine condG1 ?_ | refine condG0 ?_ | refine cD ?_ | refine dD ?_ | refine cB ?_ | refine dB ?_ | refine cN ?_ | refine dN ?_ | refine cV ?_ | refine dV ?_ | refine cE ?_ | refine dE ?_ | refine condX0 ?_ | refine condX1 ?_ | refine condNot ?_ | refine condAnd ?_ | refine condOr ?_ | refine aO ?_ | refine aB ?_ | refine aR ?_ | refine aR ?_ (by simp; omega) | refine xr (by assumption) ?_ | refine ai (by assumption) ?_ | refine kX [(108, _, _)] [] ⟨rfl, trivial⟩ trivial (hput) ?_ | refine condD (fun h => ?_) (fun h => ?_) | refine condB (fun h => ?_) (fun h => ?_) | refine condN (fun h => ?_) (fun h => ?_) | refine condE (fun h => ?_) (fun h => ?_) | refine condV (fun h => ?_) (fun h => ?_))
    refine ev_keep [10, 2, 1] [66, 108] ?_
    exact enc68_11 a hv hv2 wide _ _ _ _ _ hb
  · have hq : b ++ r8 a (wd wide) = b ++ r9 a (wd wide) := by simp [r8, c8, hc]
    rw [hq] at hb ⊢
    refine ev_seq (b := suf 11 f68.body) ?_
    try simp only [Bool.not_eq_true] at hc
    refine W_okd 1 300 _ _ _ _ ?_
    repeat' ((conv => whnf); first | refine bslP (by first | rfl | (simp [pureL, pureLL, AV.pure]; done) | fail) rfl ?_ | refine TakeC.full (by first | rfl | omega | (simp; done) | (simp; omega) | fail) ?_ | refine zBs ?_ | refine zBn ?_ | refine zBv rfl rfl ?_ | refine zN ?_ | refine zC ?_ | refine zC4 ?_ | refine zOr16 ?_ | refine zC1 ?_ | refine zByte ?_ | refine zMaxL ?_ | refine zMaxR ?_ | refine zMinL ?_ | refine zMinR ?_ | refine zShr ?_ | refine zC8 ?_ | refine zQ ?_ | refine zR ?_ | refine zS ?_ | refine zA ?_ | refine zM ?_ | refine xr rfl ?_ | refine ai rfl ?_ | refine condT ?_ | refine condF ?_ | refine condG1 ?_ | refine condG0 ?_ | refine cD ?_ | refine dD ?_ | refine cB ?_ | refine dB ?_ | refine cN ?_ | refine dN ?_ | refine cV ?_ | refine dV ?_ | refine cE ?_ | refine dE ?_ | refine condX0 ?_ | refine condX1 ?_ | refine condNot ?_ | refine condAnd ?_ | refine condOr ?_ | refine aO ?_ | refine aB ?_ | refine aR ?_ | refine aR ?_ (by simp; omega) | refine xr (by assumption) ?_ | refine ai (by assumption) ?_ | refine condD (fun h => ?_) (fun h => ?_) | refine condB (fun h => ?_) (fun h => ?_) | refine condN (fun h => ?_) (fun h => ?_) | refine condE (fun h => ?_) (fun h => ?_) | refine condV (fun h => ?_) (fun h => ?_))
    refine ev_keep [10, 2, 1] [66, 108] ?_
    exact enc68_11 a hv hv2 wide _ _ _ _ _ hb

theorem enc68_9 (a : Attrs) (hv : EncV a) (hv2 : EncV2 a) (wide : Bool) (b : List UInt8) (T : List (Nat × AV)) (H : Heap) (c g : Nat) (hb : (b ++ r7 a (wd wide)).length < 2 ^ 37) : Ev G ⟨[.code (suf 9 f68.body)], ⟨(10, .vs 108 g b.length) :: (2, .ref 66 1 0) :: (1, .bool wide) :: T, (66, some (1, .cells a.enc)) :: (108, some (g, .vec 1 (byteCells b))) :: H, c⟩, [.t 4, .t 5], 0⟩ (encRet false (b ++ r7 a (wd wide))) := by
  have hf := hv.pref
  have hag := hv.aggrAddr
  have hwd := wd_le wide
  have hcl := hv.clustersL
  have hcm := hv.commsL
  have hll1 : (a.clusters.map encU).length = a.clusters.length := by simp
  have hll2 : (a.comms.map encU).length = a.comms.length := by simp
  have hbl : b.length < 2 ^ 37 := by simp at hb; omega
  by_cases hc : a.hasPref = true
  · have hq : b ++ r7 a (wd wide) = (b ++ putB 5 (be 4 a.pref.toNat)) ++ r8 a (wd wide) := by simp [r7, c7, hc, wdB_eq]
    have hvl : (be 4 a.pref.toNat : List UInt8).length < 2 ^ 38 := by (rw [be_length]; omega)
    have hput := attr_gives88a b (be 4 a.pref.toNat) 5 (by omega) (by omega) (by omega) hvl
    rw [hq] at hb ⊢
    refine ev_seq (b := suf 10 f68.body) ?_
    refine W_okd 1 300 _ _ _ _ ?_
    repeat' ((conv => whnf); first | refine bslP (by first | rfl | (simp [pureL, pureLL, AV.pure]; done) | fail) rfl ?_ | refine TakeC.full (by first | rfl | omega | (simp; done) | (simp; omega) | fail) ?_ | refine zBs ?_ | refine zBn ?_ | refine zBv rfl rfl ?_ | refine zN ?_ | refine zC ?_ | refine zC4 ?_ | refine zOr16 ?_ | refine zC1 ?_ | refine zByte ?_ | refine zMaxL ?_ | refine zMaxR ?_ | refine zMinL ?_ | refine zMinR ?_ | refine zShr ?_ | refine zC8 ?_ | refine zQ ?_ | refine zR ?_ | refine zS ?_ | refine zA ?_ | refine zM ?_ | refine xr rfl ?_ | refine ai rfl ?_ | refine condT ?_ | refine condF ?_ | refine condG1 ?_ | refine condG0 ?_ | refine cD ?_ | refine dD ?_ | refine cB ?_ | refine dB ?_ | refine cN ?_ | refine dN ?_ | refine cV ?_ | refine dV ?_ | refine cE ?_ | refine dE ?_ | refine condX0 ?_ | refine condX1 ?_ | refine condNot ?_ | refine condAnd ?_ | refine condOr ?_ | refine aO ?_ | refine aB ?_ | refine aR ?_ | refine aR ?_ (by simp; omega) | refine xr (by assumption) ?_ | refine ai (by assumption) ?_ | refine kX [] [(136, _, _)] trivial ⟨rfl, pz trivial⟩ ((four1 a.pref (by omega) (by omega))) ?_ | refine kX [(108, _, _), (137, _, _)] [] ⟨rfl, rfl, trivial⟩ trivial (hput) ?_ | refine condD (fun h => ?_) (fun h => ?_) | refine condB (fun h => ?_) (fun h => ?_) | refine condN (fun h => ?_) (fun h => ?_) | refine condE (fun h => ?_) (fun h => ?_) | refine condV (fun h => ?_) (fun h => ?_))
    refine ev_keep [10, 2, 1] [66, 108] ?_
    exact enc68_10 a hv hv2 wide _ _ _ _ _ hb
  · have hq : b ++ r7 a (wd wide) = b ++ r8 a (wd wide) := by simp [r7, c7, hc]
    rw [hq] at hb ⊢
    refine ev_seq (b := suf 10 f68.body) ?_
    try simp only [Bool.not_eq_true] at hc
    refine W_okd 1 300 _ _ _ _ ?_
    repeat' ((conv => whnf); first | refine bslP (by first | rfl | (simp [pureL, pureLL, AV.pure]; done) | fail) rfl ?_ | refine TakeC.full (by first | rfl | omega | (simp; done) | (simp; omega) | fail) ?_ | refine zBs ?_ | refine zBn ?_ | refine zBv rfl rfl ?_ | refine zN ?_ | refine zC ?_ | refine zC4 ?_ | refine zOr16 ?_ | refine zC1 ?_ | refine zByte ?_ | refine zMaxL ?_ | refine zMaxR ?_ | refine zMinL ?_ | refine zMinR ?_ | refine zShr ?_ | refine zC8 ?_ | refine zQ ?_ | refine zR ?_ | refine zS ?_ | refine zA ?_ | refine zM ?_ | refine xr rfl ?_ | refine ai rfl ?_ | refine condT ?_ | refine condF ?_ | refine condG1 ?_ | refine condG0 ?_ | refine cD ?_ | refine dD ?_ | refine cB ?_ | refine dB ?_ | refine cN ?_ | refine dN ?_ | refine cV ?_ | refine dV ?_ | refine cE ?_ | refine dE ?_ | refine condX0 ?_ | refine condX1 ?_ | refine condNot ?_ | refine condAnd ?_ | refine condOr ?_ | refine aO ?_ | refine aB ?_ | refine aR ?_ | refine aR ?_ (by simp; omega) | refine xr (by assumption) ?_ | refine ai (by assumption) ?_ | refine condD (fun h => ?_) (fun h => ?_) | refine condB (fun h => ?_) (fun h => ?_) | refine condN (fun h => ?_) (fun h => ?_) | refine condE (fun h => ?_) (fun h => ?_) | refine condV (fun h => ?_) (fun h => ?_))
    refine ev_keep [10, 2, 1] [66, 108] ?_
    exact enc68_10 a hv hv2 wide _ _ _ _ _ hb

theorem enc68_8 (a : Attrs) (hv : EncV a) (hv2 : EncV2 a) (wide : Bool) (b : List UInt8) (T : List (Nat × AV)) (H : Heap) (c g : Nat) (hb : (b ++ r6 a (wd wide)).length < 2 ^ 37) : Ev G ⟨[.code (suf 8 f68.body)], ⟨(10, .vs 108 g b.length) :: (2, .ref 66 1 0) :: (1, .bool wide) :: T, (66, some (1, .cells a.enc)) :: (108, some (g, .vec 1 (byteCells b))) :: H, c⟩, [.t 4, .t 5], 0⟩ (encRet false (b ++ r6 a (wd wide))) := by
  have hf := hv.med
  have hag := hv.aggrAddr
  have hwd := wd_le wide
  have hcl := hv.clustersL
  have hcm := hv.commsL
  have hll1 : (a.clusters.map encU).length = a.clusters.length := by simp
  have hll2 : (a.comms.map encU).length = a.comms.length := by simp
  have hbl : b.length < 2 ^ 37 := by simp at hb; omega
  by_cases hc : a.hasMED = true
  · have hq : b ++ r6 a (wd wide) = (b ++ putB 4 (be 4 a.med.toNat)) ++ r7 a (wd wide) := by simp [r6, c6, hc, wdB_eq]
    have hvl : (be 4 a.med.toNat : List UInt8).length < 2 ^ 38 := by (rw [be_length]; omega)
    have hput := attr_gives88a b (be 4 a.med.toNat) 4 (by omega) (by omega) (by omega) hvl
    rw [hq] at hb ⊢
    refine ev_seq (b := suf 9 f68.body) ?_
    refine W_okd 1 300 _ _ _ _ ?_
    repeat' ((conv => whnf); first | refine bslP (by first | rfl | (simp [pureL, pureLL, AV.pure]; done) | fail) rfl ?_ | refine TakeC.full (by first | rfl | omega | (simp; done) | (simp; omega) | fail) ?_ | refine zBs ?_ | refine zBn ?_ | refine zBv rfl rfl ?_ | refine zN ?_ | refine zC ?_ | refine zC4 ?_ | refine zOr16 ?_ | refine zC1 ?_ | refine zByte ?_ | refine zMaxL ?_ | refine zMaxR ?_ | refine zMinL ?_ | refine zMinR ?_ | refine zShr ?_ | refine zC8 ?_ | refine zQ ?_ | refine zR ?_ | refine zS ?_ | refine zA ?_ | refine zM ?_ | refine xr rfl ?_ | refine ai rfl ?_ | refine condT ?_ | refine condF ?_ | refine condG1 ?_ | refine condG0 ?_ | refine cD ?_ | refine dD ?_ | refine cB ?_ | refine dB ?_ | refine cN ?_ | refine dN ?_ | refine cV ?_ | refine dV ?_ | refine cE ?_ | refine dE ?_ | refine condX0 ?_ | refine condX1 ?_ | refine condNot ?_ | refine condAnd ?_ | refine condOr ?_ | refine aO ?_ | refine aB ?_ | refine aR ?_ | refine aR ?_ (by simp; omega) | refine xr (by assumption) ?_ | refine ai (by assumption) ?_ | refine kX [] [(127, _, _)] trivial ⟨rfl, pz trivial⟩ ((four1 a.med (by omega) (by omega))) ?_ | refine kX [(108, _, _), (128, _, _)] [] ⟨rfl, rfl, trivial⟩ trivial (hput) ?_ | refine condD (fun h => ?_) (fun h => ?_) | refine condB (fun h => ?_) (fun h => ?_) | refine condN (fun h => ?_) (fun h => ?_) | refine condE (fun h => ?_) (fun h => ?_) | refine condV (fun h => ?_) (fun h => ?_))
    refine ev_keep [10, 2, 1] [66, 108] ?_
    exact enc68_9 a hv hv2 wide _ _ _ _ _ hb
  · have hq : b ++ r6 a (wd wide) = b ++ r7 a (wd wide) := by simp [r6, c6, hc]
    rw [hq] at hb ⊢
    refine ev_seq (b := suf 9 f68.body) ?_
    try simp only [Bool.not_eq_true] at hc
    refine W_okd 1 300 _ _ _ _ ?_
    repeat' ((conv => whnf); first | refine bslP (by first | rfl | (simp [pureL, pureLL, AV.pure]; done) | fail) rfl ?_ | refine TakeC.full (by first | rfl | omega | (simp; done) | (simp; omega) | fail) ?_ | refine zBs ?_ | refine zBn ?_ | refine zBv rfl rfl ?_ | refine zN ?_ | refine zC ?_ | refine zC4 ?_ | refine zOr16 ?_ | refine zC1 ?_ | refine zByte ?_ | refine zMaxL ?_ | refine zMaxR ?_ | refine zMinL ?_ | refine zMinR ?_ | refine zShr ?_ | refine zC8 ?_ | refine zQ ?_ | refine zR ?_ | refine zS ?_ | refine zA ?_ | refine zM ?_ | refine xr rfl ?_ | refine ai rfl ?_ | refine condT ?_ | refine condF ?_ | refine condG1 ?_ | refine condG0 ?_ | refine cD ?_ | refine dD ?_ | refine cB ?_ | refine dB ?_ | refine cN ?_ | refine dN ?_ | refine cV ?_ | refine dV ?_ | refine cE ?_ | refine dE ?_ | refine condX0 ?_ | refine condX1 ?_ | refine condNot ?_ | refine condAnd ?_ | refine condOr ?_ | refine aO ?_ | refine aB ?_ | refine aR ?_ | refine aR ?_ (by simp; omega) | refine xr (by assumption) ?_ | refine ai (by assumption) ?_ | refine condD (fun h => ?_) (fun h => ?_) | refine condB (fun h => ?_) (fun h => ?_) | refine condN (fun h => ?_) (fun h => ?_) | refine condE (fun h => ?_) (fun h => ?_) | refine condV (fun h => ?_) (fun h => ?_))
    refine ev_keep [10, 2, 1] [66, 108] ?_
    exact enc68_9 a hv hv2 wide _ _ _ _ _ hb

theorem enc68_7 (a : Attrs) (hv : EncV a) (hv2 : EncV2 a) (wide : Bool) (b : List UInt8) (T : List (Nat × AV)) (H : Heap) (c g : Nat) (hb : (b ++ r5 a (wd wide)).length < 2 ^ 37) : Ev G ⟨[.code (suf 7 f68.body)], ⟨(10, .vs 108 g b.length) :: (2, .ref 66 1 0) :: (1, .bool wide) :: T, (66, some (1, .cells a.enc)) :: (108, some (g, .vec 1 (byteCells b))) :: H, c⟩, [.t 4, .t 5], 0⟩ (encRet false (b ++ r5 a (wd wide))) := by
  have hf := hv.nextHop
  have hag := hv.aggrAddr
  have hwd := wd_le wide
  have hcl := hv.clustersL
  have hcm := hv.commsL
  have hll1 : (a.clusters.map encU).length = a.clusters.length := by simp
  have hll2 : (a.comms.map encU).length = a.comms.length := by simp
  have hbl : b.length < 2 ^ 37 := by simp at hb; omega
  have hq : b ++ r5 a (wd wide) = (b ++ putB 3 (be 4 a.nextHop.toNat)) ++ r6 a (wd wide) := by simp [r5, c5, wdB_eq]
  have hvl : (be 4 a.nextHop.toNat : List UInt8).length < 2 ^ 38 := by (rw [be_length]; omega)
  have hput := attr_gives88a b (be 4 a.nextHop.toNat) 3 (by omega) (by omega) (by omega) hvl
  rw [hq] at hb ⊢
  refine ev_seq (b := suf 8 f68.body) ?_
  refine W_okd 1 300 _ _ _ _ ?_
  repeat' ((conv => whnf); first | refine bslP (by first | rfl | (simp [pureL, pureLL, AV.pure]; done) | fail) rfl ?_ | refine TakeC.full (by first | rfl | omega | (simp; done) | (simp; omega) | fail) ?_ | refine zBs ?_ | refine zBn ?_ | refine zBv rfl rfl ?_ | refine zN ?_ | refine zC ?_ | refine zC4 ?_ | refine zOr16 ?_ | refine zC1 ?_ | refine zByte ?_ | refine zMaxL ?_ | refine zMaxR ?_ | refine zMinL ?_ | refine zMinR ?_ | refine zShr ?_ | refine zC8 ?_ | refine zQ ?_ | refine zR ?_ | refine zS ?_ | refine zA ?_ | refine zM ?_ | refine xr rfl ?_ | refine ai rfl ?_ | refine condT ?_ | refine condF ?_ | refine condG1 ?_ | refine condG0 ?_ | refine cD ?_ | refine dD ?_ | refine cB ?_ | refine dB ?_ | refine cN ?_ | refine dN ?_ | refine cV ?_ | refine dV ?_ | refine cE ?_ | refine dE ?_ | refine condX0 ?_ | refine condX1 ?_ | refine condNot ?_ | refine condAnd ?_ | refine condOr ?_ | refine aO ?_ | refine aB ?_ | refine aR ?_ | refine aR ?_ (by simp; omega) | refine xr (by assumption) ?_ | refine ai (by assumption) ?_ | refine kX [] [(118, _, _)] trivial ⟨rfl, pz trivial⟩ ((four1 a.nextHop (by omega) (by omega))) ?_ | refine kX [(108, _, _), (119, _, _)] [] ⟨rfl, rfl, trivial⟩ trivial (hput) ?_ | refine condD (fun h => ?_) (fun h => ?_) | refine condB (fun h => ?_) (fun h => ?_) | refine condN (fun h => ?_) (fun h => ?_) | refine condE (fun h => ?_) (fun h => ?_) | refine condV (fun h => ?_) (fun h => ?_))
  refine ev_keep [10, 2, 1] [66, 108] ?_
  exact enc68_8 a hv hv2 wide _ _ _ _ _ hb

theorem enc68_6 (a : Attrs) (hv : EncV a) (hv2 : EncV2 a) (wide : Bool) (b : List UInt8) (T : List (Nat × AV)) (H : Heap) (c g : Nat) (hb : (b ++ r4 a (wd wide)).length < 2 ^ 37) : Ev G ⟨[.code (suf 6 f68.body)], ⟨(10, .vs 108 g b.length) :: (2, .ref 66 1 0) :: (1, .bool wide) :: T, (66, some (1, .cells a.enc)) :: (108, some (g, .vec 1 (byteCells b))) :: H, c⟩, [.t 4, .t 5], 0⟩ (encRet false (b ++ r4 a (wd wide))) := by
  have hf := hv.path
  have hag := hv.aggrAddr
  have hwd := wd_le wide
  have hcl := hv.clustersL
  have hcm := hv.commsL
  have hll1 : (a.clusters.map encU).length = a.clusters.length := by simp
  have hll2 : (a.comms.map encU).length = a.comms.length := by simp
  have hbl : b.length < 2 ^ 37 := by simp at hb; omega
  have hq : b ++ r4 a (wd wide) = (b ++ putB 2 (pathB (wd wide) a.path)) ++ r5 a (wd wide) := by simp [r4, c4, wdB_eq]
  have hvl : (pathB (wd wide) a.path : List UInt8).length < 2 ^ 38 := by (exact pathL wide a hv)
  have hput := attr_gives88a b (pathB (wd wide) a.path) 2 (by omega) (by omega) (by omega) hvl
  rw [hq] at hb ⊢
  refine ev_seq (b := suf 7 f68.body) ?_
  refine W_okd 1 300 _ _ _ _ ?_
  repeat' ((conv => whnf); first | refine bslP (by first | rfl | (simp [pureL, pureLL, AV.pure]; done) | fail) rfl ?_ | refine TakeC.full (by first | rfl | omega | (simp; done) | (simp; omega) | fail) ?_ | refine zBs ?_ | refine zBn ?_ | refine zBv rfl rfl ?_ | refine zN ?_ | refine zC ?_ | refine zC4 ?_ | refine zOr16 ?_ | refine zC1 ?_ | refine zByte ?_ | refine zMaxL ?_ | refine zMaxR ?_ | refine zMinL ?_ | refine zMinR ?_ | refine zShr ?_ | refine zC8 ?_ | refine zQ ?_ | refine zR ?_ | refine zS ?_ | refine zA ?_ | refine zM ?_ | refine xr rfl ?_ | refine ai rfl ?_ | refine condT ?_ | refine condF ?_ | refine condG1 ?_ | refine condG0 ?_ | refine cD ?_ | refine dD ?_ | refine cB ?_ | refine dB ?_ | refine cN ?_ | refine dN ?_ | refine cV ?_ | refine dV ?_ | refine cE ?_ | refine dE ?_ | refine condX0 ?_ | refine condX1 ?_ | refine condNot ?_ | refine condAnd ?_ | refine condOr ?_ | refine aO ?_ | refine aB ?_ | refine aR ?_ | refine aR ?_ (by simp; omega) | refine xr (by assumption) ?_ | refine ai (by assumption) ?_ | refine kN (path_gives89 a.path wide hv.segs hv.path) ?_ | refine kX [(108, _, _), (113, _, _)] [] ⟨rfl, rfl, trivial⟩ trivial (hput) ?_ | refine condD (fun h => ?_) (fun h => ?_) | refine condB (fun h => ?_) (fun h => ?_) | refine condN (fun h => ?_) (fun h => ?_) | refine condE (fun h => ?_) (fun h => ?_) | refine condV (fun h => ?_) (fun h => ?_))
  refine ev_keep [10, 2, 1] [66, 108] ?_
  exact enc68_7 a hv hv2 wide _ _ _ _ _ hb

theorem enc68_5 (a : Attrs) (hv : EncV a) (hv2 : EncV2 a) (wide : Bool) (T : List (Nat × AV)) (H : Heap) (c : Nat) (hb : (r3 a (wd wide)).length < 2 ^ 37) : Ev G ⟨[.code (suf 5 f68.body)], ⟨(2, .ref 66 1 0) :: (1, .bool wide) :: T, (66, some (1, .cells a.enc)) :: H, c⟩, [.t 4, .t 5], 0⟩ (encRet false (r3 a (wd wide))) := by
  have hf := hv.origin
  have hf3 := u8_int hf.1 hf.2
  have hq : r3 a (wd wide) = putB 1 [UInt8.ofNat a.origin.toNat] ++ r4 a (wd wide) := by simp [r3, c3]
  have hput := attr_gives88c [UInt8.ofNat a.origin.toNat] 1 (by omega) (by omega) (by simp)
  have hB : byteCells [UInt8.ofNat a.origin.toNat] = [[.int .u8 a.origin]] := by simp only [byteCells, List.map_cons, List.map_nil, hf3]
  rw [hB] at hput
  rw [hq] at hb ⊢
  refine ev_seq (b := suf 6 f68.body) ?_
  refine W_okd 1 300 _ _ _ _ ?_
  repeat' ((conv => whnf); first | refine bslP (by first | rfl | (simp [pureL, pureLL, AV.pure]; done) | fail) rfl ?_ | refine TakeC.full (by first | rfl | omega | (simp; done) | (simp; omega) | fail) ?_ | refine zBs ?_ | refine zBn ?_ | refine zBv rfl rfl ?_ | refine zN ?_ | refine zC ?_ | refine zC4 ?_ | refine zOr16 ?_ | refine zC1 ?_ | refine zByte ?_ | refine zMaxL ?_ | refine zMaxR ?_ | refine zMinL ?_ | refine zMinR ?_ | refine zShr ?_ | refine zC8 ?_ | refine zQ ?_ | refine zR ?_ | refine zS ?_ | refine zA ?_ | refine zM ?_ | refine xr rfl ?_ | refine ai rfl ?_ | refine condT ?_ | refine condF ?_ | refine condG1 ?_ | refine condG0 ?_ | refine cD ?_ | refine dD ?_ | refine cB ?_ | refine dB ?_ | refine cN ?_ | refine dN ?_ | refine cV ?_ | refine dV ?_ | refine cE ?_ | refine dE ?_ | refine condX0 ?_ | refine condX1 ?_ | refine condNot ?_ | refine condAnd ?_ | refine condOr ?_ | refine aO ?_ | refine aB ?_ | refine aR ?_ | refine aR ?_ (by simp; omega) | refine xr (by assumption) ?_ | refine ai (by assumption) ?_ | refine kX [(107, _, _)] [] ⟨rfl, trivial⟩ trivial (hput) ?_ | refine condD (fun h => ?_) (fun h => ?_) | refine condB (fun h => ?_) (fun h => ?_) | refine condN (fun h => ?_) (fun h => ?_) | refine condE (fun h => ?_) (fun h => ?_) | refine condV (fun h => ?_) (fun h => ?_))
  refine ev_keep [10, 2, 1] [66, 108] ?_
  exact enc68_6 a hv hv2 wide _ _ _ _ _ hb
theorem any_loop68 (l : List Int) (wide : Bool) (a : Attrs) (R : Ret) (go : ∀ (T : List (Nat × AV)) (H : Heap) (c : Nat), Ev G ⟨[.code (suf 5 f68.body)], ⟨(2, .ref 66 1 0) :: (1, .bool wide) :: T, (66, some (1, .cells a.enc)) :: H, c⟩, [.t 4, .t 5], 0⟩ R) (hl : l.length < 2 ^ 40) (ln : Int) (hln : ln = l.length) : ∀ (rest done : List Int)  (T : List (Nat × AV)) (H : Heap) (c : Nat) (n : Int) (e : l = done ++ rest) (hn : n = done.length) , Ev G ⟨f68x12LH, ⟨(27, .sl 1 (l.map encI)) :: (28, .int .i64 ln) :: (29, .int .i64 n) :: (2, .ref 66 1 0) :: (1, .bool wide) :: T, (66, some (1, .cells a.enc)) :: H, c⟩, [.t 4, .t 5], 0⟩ (if (!wide && rest.any fun n => decide (n > 65535)) = true then ⟨.tup [.con (.slice none 0 0), .int .i64 5], []⟩ else R)
  | [], done,  T, H, c, n, e, hn => by
    have hd : l.length = done.length := by simp [e]
    have hll : (l.map encI).length = l.length := by simp
    rw [if_neg (by simp)]
    refine ev_loop' (W_okd 1 300 _ _ _ _ ?_)
    repeat' ((conv => whnf); first | refine bslP (by first | rfl | (simp [pureL, pureLL, AV.pure]; done) | fail) rfl ?_ | refine TakeC.full (by first | rfl | omega | (simp; done) | (simp; omega) | fail) ?_ | refine zBs ?_ | refine zBn ?_ | refine zBv rfl rfl ?_ | refine zN ?_ | refine zC ?_ | refine zC4 ?_ | refine zOr16 ?_ | refine zC1 ?_ | refine zByte ?_ | refine zMaxL ?_ | refine zMaxR ?_ | refine zMinL ?_ | refine zMinR ?_ | refine zShr ?_ | refine zC8 ?_ | refine zQ ?_ | refine zR ?_ | refine zS ?_ | refine zA ?_ | refine zM ?_ | refine xr rfl ?_ | refine ai rfl ?_ | refine condT ?_ | refine condF ?_ | refine condG1 ?_ | refine condG0 ?_ | refine cD ?_ | refine dD ?_ | refine cB ?_ | refine dB ?_ | refine cN ?_ | refine dN ?_ | refine cV ?_ | refine dV ?_ | refine cE ?_ | refine dE ?_ | refine condX0 ?_ | refine condX1 ?_ | refine condNot ?_ | refine condAnd ?_ | refine condOr ?_ | refine aO ?_ | refine aB ?_ | refine aR ?_ | refine aR ?_ (by simp; omega) | refine xr (by assumption) ?_ | refine ai (by assumption) ?_ | refine condD (fun h => ?_) (fun h => ?_) | refine condB (fun h => ?_) (fun h => ?_) | refine condN (fun h => ?_) (fun h => ?_) | refine condE (fun h => ?_) (fun h => ?_) | refine condV (fun h => ?_) (fun h => ?_))
    refine ev_keep [2, 1] [66] ?_
    exact go _ _ _
  | x :: r, done,  T, H, c, n, e, hn => by
    have hd : l.length = done.length + (r.length + 1) := by simp [e]
    have hll : (l.map encI).length = l.length := by simp
    have hx : (l.map encI)[n.toNat]? = some (encI x) := by simp [e, hn]
    by_cases hw : wide = true
    · rw [show (!wide && (x :: r).any fun n => decide (n > 65535)) = (!wide && r.any fun n => decide (n > 65535)) from by simp [hw]]
      refine ev_loop' (W_okd 1 300 _ _ _ _ ?_)
      repeat' ((conv => whnf); first | refine bslP (by first | rfl | (simp [pureL, pureLL, AV.pure]; done) | fail) rfl ?_ | refine TakeC.full (by first | rfl | omega | (simp; done) | (simp; omega) | fail) ?_ | refine zBs ?_ | refine zBn ?_ | refine zBv rfl rfl ?_ | refine zN ?_ | refine zC ?_ | refine zC4 ?_ | refine zOr16 ?_ | refine zC1 ?_ | refine zByte ?_ | refine zMaxL ?_ | refine zMaxR ?_ | refine zMinL ?_ | refine zMinR ?_ | refine zShr ?_ | refine zC8 ?_ | refine zQ ?_ | refine zR ?_ | refine zS ?_ | refine zA ?_ | refine zM ?_ | refine xr rfl ?_ | refine ai rfl ?_ | refine condT ?_ | refine condF ?_ | refine condG1 ?_ | refine condG0 ?_ | refine cD ?_ | refine dD ?_ | refine cB ?_ | refine dB ?_ | refine cN ?_ | refine dN ?_ | refine cV ?_ | refine dV ?_ | refine cE ?_ | refine dE ?_ | refine condX0 ?_ | refine condX1 ?_ | refine condNot ?_ | refine condAnd ?_ | refine condOr ?_ | refine aO ?_ | refine aB ?_ | refine aR ?_ | refine aR ?_ (by simp; omega) | refine xr (by assumption) ?_ | refine ai (by assumption) ?_ | refine condD (fun h => ?_) (fun h => ?_) | refine condB (fun h => ?_) (fun h => ?_) | refine condN (fun h => ?_) (fun h => ?_) | refine condE (fun h => ?_) (fun h => ?_) | refine condV (fun h => ?_) (fun h => ?_))
      refine ev_keep [27, 28, 29, 2, 1] [66] ?_; exact any_loop68 l wide a R go hl ln hln r (done ++ [x])  _ _ _ (n + 1) (by simp [e]) (by simp [hn] <;> omega) 
    · have hw : wide = false := by simpa using hw
      by_cases hx2 : x > 65535
      · rw [if_pos (by simp [hw, hx2])]
        refine ev_loop' (W_okd 1 300 _ _ _ _ ?_)
        repeat' ((conv => whnf); first | refine bslP (by first | rfl | (simp [pureL, pureLL, AV.pure]; done) | fail) rfl ?_ | refine TakeC.full (by first | rfl | omega | (simp; done) | (simp; omega) | fail) ?_ | refine zBs ?_ | refine zBn ?_ | refine zBv rfl rfl ?_ | refine zN ?_ | refine zC ?_ | refine zC4 ?_ | refine zOr16 ?_ | refine zC1 ?_ | refine zByte ?_ | refine zMaxL ?_ | refine zMaxR ?_ | refine zMinL ?_ | refine zMinR ?_ | refine zShr ?_ | refine zC8 ?_ | refine zQ ?_ | refine zR ?_ | refine zS ?_ | refine zA ?_ | refine zM ?_ | refine xr rfl ?_ | refine ai rfl ?_ | refine condT ?_ | refine condF ?_ | refine condG1 ?_ | refine condG0 ?_ | refine cD ?_ | refine dD ?_ | refine cB ?_ | refine dB ?_ | refine cN ?_ | refine dN ?_ | refine cV ?_ | refine dV ?_ | refine cE ?_ | refine dE ?_ | refine condX0 ?_ | refine condX1 ?_ | refine condNot ?_ | refine condAnd ?_ | refine condOr ?_ | refine aO ?_ | refine aB ?_ | refine aR ?_ | refine aR ?_ (by simp; omega) | refine xr (by assumption) ?_ | refine ai (by assumption) ?_ | refine condD (fun h => ?_) (fun h => ?_) | refine condB (fun h => ?_) (fun h => ?_) | refine condN (fun h => ?_) (fun h => ?_) | refine condE (fun h => ?_) (fun h => ?_) | refine condV (fun h => ?_) (fun h => ?_))
        (first | refine ev_fin (And.intro (by first | rfl | (simp [AV.pure, pureL]; done) | fail) ?_) | refine ev_fin0 (And.intro (by first | rfl | (simp [AV.pure, pureL]; done) | fail) ?_))
        rfl
      · rw [show (!wide && (x :: r).any fun n => decide (n > 65535)) = (!wide && r.any fun n => decide (n > 65535)) from by simp [hw]; omega]
        refine ev_loop' (W_okd 1 300 _ _ _ _ ?_)
        repeat' ((conv => whnf); first | refine bslP (by first | rfl | (simp [pureL, pureLL, AV.pure]; done) | fail) rfl ?_ | refine TakeC.full (by first | rfl | omega | (simp; done) | (simp; omega) | fail) ?_ | refine zBs ?_ | refine zBn ?_ | refine zBv rfl rfl ?_ | refine zN ?_ | refine zC ?_ | refine zC4 ?_ | refine zOr16 ?_ | refine zC1 ?_ | refine zByte ?_ | refine zMaxL ?_ | refine zMaxR ?_ | refine zMinL ?_ | refine zMinR ?_ | refine zShr ?_ | refine zC8 ?_ | refine zQ ?_ | refine zR ?_ | refine zS ?_ | refine zA ?_ | refine zM ?_ | refine xr rfl ?_ | refine ai rfl ?_ | refine condT ?_ | refine condF ?_ | refine condG1 ?_ | refine condG0 ?_ | refine cD ?_ | refine dD ?_ | refine cB ?_ | refine dB ?_ | refine cN ?_ | refine dN ?_ | refine cV ?_ | refine dV ?_ | refine cE ?_ | refine dE ?_ | refine condX0 ?_ | refine condX1 ?_ | refine condNot ?_ | refine condAnd ?_ | refine condOr ?_ | refine aO ?_ | refine aB ?_ | refine aR ?_ | refine aR ?_ (by simp; omega) | refine xr (by assumption) ?_ | refine ai (by assumption) ?_ | refine condD (fun h => ?_) (fun h => ?_) | refine condB (fun h => ?_) (fun h => ?_) | refine condN (fun h => ?_) (fun h => ?_) | refine condE (fun h => ?_) (fun h => ?_) | refine condV (fun h => ?_) (fun h => ?_))
        refine ev_keep [27, 28, 29, 2, 1] [66] ?_; exact any_loop68 l wide a R go hl ln hln r (done ++ [x])  _ _ _ (n + 1) (by simp [e]) (by simp [hn] <;> omega) 
theorem encode_gives68_0 (a : Attrs) (wide : Bool) (hb : LenB a) (hfl : (flatS a.path).length < 2 ^ 39) (hc : checkS a = 0) (hv : EncV a) (hv2 : EncV2 a) (hl : (encB a wide).length < 2 ^ 37) : Gives G 68 [.agg a.enc, .bool wide] [] (if (!wide && (flatS a.path ++ [a.aggrAS]).any fun n => decide (n > 65535)) = true then ⟨.tup [.con (.slice none 0 0), .int .i64 5], []⟩ else encRet false (encB a wide)) := by
  have h66 := check_gives66 a hb
  rw [hc] at h66
  have hpl := hv.path
  have hfll : ((flatS a.path).map encI).length = (flatS a.path).length := by simp
  refine gives_code (F := f68) rfl rfl (W_ok 300 _ _ _ _ ?_)
  repeat' ((conv => whnf); first | refine bslP (by first | rfl | (simp [pureL, pureLL, AV.pure]; done) | fail) rfl ?_ | refine TakeC.full (by first | rfl | omega | (simp; done) | (simp; omega) | fail) ?_ | refine zBs ?_ | refine zBn ?_ | refine zBv rfl rfl ?_ | refine zN ?_ | refine zC ?_ | refine zC4 ?_ | refine zOr16 ?_ | refine zC1 ?_ | refine zByte ?_ | refine zMaxL ?_ | refine zMaxR ?_ | refine zMinL ?_ | refine zMinR ?_ | refine zShr ?_ | refine zC8 ?_ | refine zQ ?_ | refine zR ?_ | refine zS ?_ | refine zA ?_ | refine zM ?_ | refine xr rfl ?_ | refine ai rfl ?_ | refine condT ?_ | refine condF ?_ | refine condG1 ?_ | refine condG0 ?_ | refine cD ?_ | refine dD ?_ | refine cB ?_ | refine dB ?_ | refine cN ?_ | refine dN ?_ | refine cV ?_ | refine dV ?_ | refine cE ?_ | refine dE ?_ | refine condX0 ?_ | refine condX1 ?_ | refine condNot ?_ | refine condAnd ?_ | refine condOr ?_ | refine aO ?_ | refine aB ?_ | refine aR ?_ | refine aR ?_ (by simp; omega) | refine xr (by assumption) ?_ | refine ai (by assumption) ?_ | refine kV (h66) ?_ | refine kN (flat_gives57 a.path (by omega) (by omega)) ?_ | refine condD (fun h => ?_) (fun h => ?_) | refine condB (fun h => ?_) (fun h => ?_) | refine condN (fun h => ?_) (fun h => ?_) | refine condE (fun h => ?_) (fun h => ?_) | refine condV (fun h => ?_) (fun h => ?_))
  refine ev_frz [(85, _, .vec 1 ((flatS a.path).map encI ++ [[AV.int .i64 a.aggrAS]]))] [(27, .sl 1 ((flatS a.path ++ [a.aggrAS]).map encI)), (28, .int .i64 ((flatS a.path ++ [a.aggrAS]).length : Nat)), (29, .int .i64 0), (2, .ref 66 1 0), (1, .bool wide)] [(66, some (1, .cells a.enc))] ⟨rfl, (by simp [Blk.pure, pureLL, pureL, AV.pure]), trivial⟩ ⟨(by show AV.ren _ (.vs 85 _ _) = _; simp [AV.ren, φF, encI]; exact List.take_of_length_le (by simp)), (by show AV.ren _ (.int _ _) = _; simp [AV.ren]), rfl, rfl, rfl, trivial⟩ ?_ (fun T H => ?_)
  · refine ⟨?_, trivial⟩
    show some (1, Blk.cells a.enc) = some (1, Blk.ren _ (Blk.cells a.enc))
    rw [Blk.ren_pure (by simp [Blk.pure])]
  · refine any_loop68 (flatS a.path ++ [a.aggrAS]) wide a _ (fun T H c => enc68_5 a hv hv2 wide T H c hl) (by simp; omega) _ rfl (flatS a.path ++ [a.aggrAS]) [] _ _ _ 0 rfl rfl
def encBadR (a : Attrs) (wide : Bool) : Bool := !wide && (flatS a.path ++ [a.aggrAS]).any fun n => decide (n > 65535)
end Go.AM.IR
namespace Go.AM.IR
set_option maxRecDepth 1000000
set_option maxHeartbeats 0
theorem awake36_gives : Gives G 64 [] [] ⟨.bool true, []⟩ := by
  refine gives_run 20000 rfl rfl ?_
  kernel_rfl
end Go.AM.IR
namespace Go.AM.IR

theorem lift_enc {α : Type} {e : List AV → Prop} {enc : α → List AV} {Q : α → Prop} (h : ∀ x, e x → ∃ a, x = enc a ∧ Q a) : ∀ es : List (List AV), (∀ x ∈ es, e x) → ∃ l : List α, es = l.map enc ∧ ∀ a ∈ l, Q a
  | [], _ => ⟨[], rfl, by simp⟩
  | x :: r, hx => by
    obtain ⟨a, rfl, ha⟩ := h x (hx x (by simp))
    obtain ⟨l, rfl, hl⟩ := lift_enc h r fun y hy => hx y (by simp [hy])
    exact ⟨a :: l, rfl, by simpa using ⟨ha, hl⟩⟩

def okI (x : Int) : Prop := -9223372036854775808 ≤ x ∧ x ≤ 9223372036854775807
def okU (x : Int) : Prop := 0 ≤ x ∧ x ≤ 4294967295

theorem T_i64 {as : List AV} (h : Ty.T (.int .i64) as) : ∃ x, as = encI x ∧ okI x := by
  obtain ⟨n, rfl, h1, h2⟩ := h
  exact ⟨n, rfl, by simpa [IntKind.min, IntKind.max, IntKind.signed, IntKind.bits, okI] using And.intro h1 h2⟩
theorem T_u32 {as : List AV} (h : Ty.T (.int .u32) as) : ∃ x, as = encU x ∧ okU x := by
  obtain ⟨n, rfl, h1, h2⟩ := h
  exact ⟨n, rfl, by simpa [IntKind.min, IntKind.max, IntKind.signed, IntKind.bits, okU] using And.intro h1 h2⟩
theorem T_u8 {as : List AV} (h : Ty.T (.int .u8) as) : ∃ b : UInt8, as = [.int .u8 b.toNat] ∧ True := by
  obtain ⟨n, rfl, h1, h2⟩ := h
  have h1 : 0 ≤ n := by simpa [IntKind.min, IntKind.signed] using h1
  have h2 : n ≤ 255 := by simpa [IntKind.max, IntKind.signed, IntKind.bits] using h2
  refine ⟨UInt8.ofNat n.toNat, ?_, trivial⟩
  have : ((UInt8.ofNat n.toNat).toNat : Int) = n := by simp; omega
  rw [this]
theorem T_sl {α : Type} {τ : Ty} {enc : α → List AV} {Q : α → Prop} (h : ∀ x, τ.T x → ∃ a, x = enc a ∧ Q a) {as : List AV} (hs : Ty.T (.sl τ) as) : ∃ l : List α, as = [.sl τ.cells (l.map enc)] ∧ ∀ a ∈ l, Q a := by
  obtain ⟨es, rfl, h1, _⟩ := hs
  obtain ⟨l, rfl, h2⟩ := lift_enc h es h1
  exact ⟨l, rfl, h2⟩
theorem T_bytes {as : List AV} (hs : Ty.T (.sl (.int .u8)) as) : ∃ l : List UInt8, as = [.sl 1 (byteCells l)] := by
  obtain ⟨l, rfl, _⟩ := T_sl (fun x => T_u8) hs
  exact ⟨l, rfl⟩

def tSeg : Ty := .st [.int .i64, .sl (.int .i64)]
def tTLV : Ty := .st [.int .i64, .sl (.int .u8)]
def tAttrs : Ty := .st [.int .i64, .sl tSeg, .int .u32, .bool, .int .i64, .bool, .int .i64, .bool, .bool, .int .i64, .int .u32, .sl (.int .u32), .bool, .int .u32, .sl (.int .u32), .sl tTLV]
def tRoute : Ty := .st [.st [.int .u32, .int .i64], tAttrs, .int .i64, .int .i64, .int .u32, .bool]
def tIGP : Ty := .st [.int .u32, .int .i64]

structure Seg.ok (s : Seg) : Prop where
  kind : okI s.kind
  as : ∀ x ∈ s.as, okI x
theorem T_seg {as : List AV} (h : tSeg.T as) : ∃ s : Seg, as = s.enc ∧ s.ok := by
  simp only [tSeg, Ty.T.eq_5, TT] at h
  obtain ⟨a1, b1, rfl, h1, a2, b2, rfl, h2, rfl⟩ := h
  obtain ⟨x1, rfl, k1⟩ := T_i64 h1
  obtain ⟨x2, rfl, k2⟩ := T_sl (fun x => T_i64) h2
  exact ⟨⟨x1, x2⟩, rfl, k1, k2⟩
structure TLV.ok (s : TLV) : Prop where
  kind : okI s.kind
theorem T_tlv {as : List AV} (h : tTLV.T as) : ∃ s : TLV, as = s.enc ∧ s.ok := by
  simp only [tTLV, Ty.T.eq_5, TT] at h
  obtain ⟨a1, b1, rfl, h1, a2, b2, rfl, h2, rfl⟩ := h
  obtain ⟨x1, rfl, k1⟩ := T_i64 h1
  obtain ⟨x2, rfl⟩ := T_bytes h2
  exact ⟨⟨x1, x2⟩, rfl, ⟨k1⟩⟩
structure IGP.ok (s : IGP) : Prop where
  addr : okU s.addr
  cost : okI s.cost
theorem T_igp {as : List AV} (h : tIGP.T as) : ∃ s : IGP, as = s.enc ∧ s.ok := by
  simp only [tIGP, Ty.T.eq_5, TT] at h
  obtain ⟨a1, b1, rfl, h1, a2, b2, rfl, h2, rfl⟩ := h
  obtain ⟨x1, rfl, k1⟩ := T_u32 h1
  obtain ⟨x2, rfl, k2⟩ := T_i64 h2
  exact ⟨⟨x1, x2⟩, rfl, k1, k2⟩
structure Attrs.ok (a : Attrs) : Prop where
  origin : okI a.origin
  path : ∀ s ∈ a.path, s.ok
  nextHop : okU a.nextHop
  med : okI a.med
  pref : okI a.pref
  aggrAS : okI a.aggrAS
  aggrAddr : okU a.aggrAddr
  comms : ∀ x ∈ a.comms, okU x
  orig : okU a.orig
  clusters : ∀ x ∈ a.clusters, okU x
  unknown : ∀ x ∈ a.unknown, x.ok
theorem T_attrs {as : List AV} (h : tAttrs.T as) : ∃ s : Attrs, as = s.enc ∧ s.ok := by
  simp only [tAttrs, Ty.T.eq_5, TT] at h
  obtain ⟨a1, b1, rfl, h1, a2, b2, rfl, h2, a3, b3, rfl, h3, a4, b4, rfl, h4, a5, b5, rfl, h5, a6, b6, rfl, h6, a7, b7, rfl, h7, a8, b8, rfl, h8, a9, b9, rfl, h9, a10, b10, rfl, h10, a11, b11, rfl, h11, a12, b12, rfl, h12, a13, b13, rfl, h13, a14, b14, rfl, h14, a15, b15, rfl, h15, a16, b16, rfl, h16, rfl⟩ := h
  obtain ⟨x1, rfl, k1⟩ := T_i64 h1
  obtain ⟨x2, rfl, k2⟩ := T_sl (fun x => T_seg) h2
  obtain ⟨x3, rfl, k3⟩ := T_u32 h3
  obtain ⟨x4, rfl⟩ := h4
  obtain ⟨x5, rfl, k5⟩ := T_i64 h5
  obtain ⟨x6, rfl⟩ := h6
  obtain ⟨x7, rfl, k7⟩ := T_i64 h7
  obtain ⟨x8, rfl⟩ := h8
  obtain ⟨x9, rfl⟩ := h9
  obtain ⟨x10, rfl, k10⟩ := T_i64 h10
  obtain ⟨x11, rfl, k11⟩ := T_u32 h11
  obtain ⟨x12, rfl, k12⟩ := T_sl (fun x => T_u32) h12
  obtain ⟨x13, rfl⟩ := h13
  obtain ⟨x14, rfl, k14⟩ := T_u32 h14
  obtain ⟨x15, rfl, k15⟩ := T_sl (fun x => T_u32) h15
  obtain ⟨x16, rfl, k16⟩ := T_sl (fun x => T_tlv) h16
  exact ⟨⟨x1, x2, x3, x4, x5, x6, x7, x8, x9, x10, x11, x12, x13, x14, x15, x16⟩, rfl, k1, k2, k3, k5, k7, k10, k11, k12, k14, k15, k16⟩
structure PVRoute.ok (r : PVRoute) : Prop where
  paddr : okU r.paddr
  plen : okI r.plen
  attrs : r.attrs.ok
  peer : okI r.peer
  kind : okI r.kind
  router : okU r.router
theorem T_route {as : List AV} (h : tRoute.T as) : ∃ s : PVRoute, as = s.enc ∧ s.ok := by
  simp only [tRoute, Ty.T.eq_5, TT] at h
  obtain ⟨a1, b1, rfl, ⟨a0, b0, rfl, h0, a00, b00, rfl, h00, rfl⟩, a2, b2, rfl, h2, a3, b3, rfl, h3, a4, b4, rfl, h4, a5, b5, rfl, h5, a6, b6, rfl, h6, rfl⟩ := h
  obtain ⟨x0, rfl, k0⟩ := T_u32 h0
  obtain ⟨x00, rfl, k00⟩ := T_i64 h00
  obtain ⟨x2, rfl, k2⟩ := T_attrs h2
  obtain ⟨x3, rfl, k3⟩ := T_i64 h3
  obtain ⟨x4, rfl, k4⟩ := T_i64 h4
  obtain ⟨x5, rfl, k5⟩ := T_u32 h5
  obtain ⟨x6, rfl⟩ := h6
  exact ⟨⟨x0, x00, x2, x3, x4, x5, x6⟩, rfl, k0, k00, k2, k3, k4, k5⟩
end Go.AM.IR
set_option maxHeartbeats 4000000
set_option maxRecDepth 20000
namespace Go.AM.IR
theorem sizeS_le {a : Attrs} (h : AB a) : LenB a where
  path := h.path
  segs s hs := by
    have h1 := h.flat
    have h2 : s.as.length ≤ (flatS a.path).length := by
      unfold flatS
      obtain ⟨p, q, e⟩ := List.append_of_mem hs
      rw [e]; simp; omega
    omega
  comms := h.comms
  clusters := h.clusters
  unknown := h.unknown
  vals := h.vals
theorem law58_gives (a : Attrs) (h : AB a) : Gives G 58 [.agg a.enc] [] ⟨.bool true, []⟩ := by
  have hl := sizeS_le h
  refine gives_code (F := f58) rfl rfl (W_ok 300 _ _ _ _ ?_)
  repeat' ((conv => whnf); first | refine bslP (by first | rfl | (simp [pureL, pureLL, AV.pure]; done) | fail) rfl ?_ | refine TakeC.full (by first | rfl | omega | (simp; done) | (simp; omega) | fail) ?_ | refine zBs ?_ | refine zBn ?_ | refine zBv rfl rfl ?_ | refine zN ?_ | refine zC ?_ | refine zC4 ?_ | refine zOr16 ?_ | refine zC1 ?_ | refine zByte ?_ | refine zMaxL ?_ | refine zMaxR ?_ | refine zMinL ?_ | refine zMinR ?_ | refine zShr ?_ | refine zC8 ?_ | refine zQ ?_ | refine zR ?_ | refine zS ?_ | refine zA ?_ | refine zM ?_ | refine xr rfl ?_ | refine ai rfl ?_ | refine condT ?_ | refine condF ?_ | refine condG1 ?_ | refine condG0 ?_ | refine cD ?_ | refine dD ?_ | refine cB ?_ | refine dB ?_ | refine cN ?_ | refine dN ?_ | refine cV ?_ | refine dV ?_ | refine cE ?_ | refine dE ?_ | refine condX0 ?_ | refine condX1 ?_ | refine condNot ?_ | refine condAnd ?_ | refine condOr ?_ | refine aO ?_ | refine aB ?_ | refine aR ?_ | refine aR ?_ (by simp; omega) | refine xr (by assumption) ?_ | refine ai (by assumption) ?_ | refine kV (large_gives21 a h) ?_ | refine kV (awake36_gives) ?_ | refine kV (check_gives65 a hl) ?_ | refine kV (check_gives66 a hl) ?_ | refine condD (fun h => ?_) (fun h => ?_) | refine condB (fun h => ?_) (fun h => ?_) | refine condN (fun h => ?_) (fun h => ?_) | refine condE (fun h => ?_) (fun h => ?_) | refine condV (fun h => ?_) (fun h => ?_))
  all_goals try ((first | refine ev_fin (And.intro (by first | rfl | (simp [AV.pure, pureL]; done) | fail) ?_) | refine ev_fin0 (And.intro (by first | rfl | (simp [AV.pure, pureL]; done) | fail) ?_)); first | rfl | (simp [Bool.cond_eq_ite, *]; done) | (simp [Bool.cond_eq_ite, *]; omega))
end Go.AM.IR
namespace Go.AM.IR
set_option maxHeartbeats 2000000
theorem bkLL_map_le {α : Type} (f : α → List AV) (g : α → Nat) (h : ∀ x, g x ≤ bkL (f x)) : ∀ l : List α, (l.map g).sum ≤ bkLL (l.map f)
  | [] => by simp
  | x :: r => by
    have := bkLL_map_le f g h r
    have := h x
    simp only [List.map_cons, List.sum_cons, bkLL]
    omega
theorem sum_one {α : Type} : ∀ l : List α, (l.map fun _ => 1).sum = l.length
  | [] => rfl
  | x :: r => by simp only [List.map_cons, List.sum_cons, List.length_cons, sum_one r]; omega
theorem len_bk {α : Type} (f : α → List AV) (h : ∀ x, 1 ≤ bkL (f x)) (l : List α) : l.length ≤ bkLL (l.map f) := by
  have := bkLL_map_le f (fun _ => 1) h l
  rwa [sum_one] at this
theorem mem_bk {α : Type} (f : α → List AV) : ∀ (l : List α) (x : α), x ∈ l → bkL (f x) ≤ bkLL (l.map f)
  | y :: r, x, h => by
    simp only [List.map_cons, bkLL]
    rcases List.mem_cons.1 h with rfl | h
    · omega
    · have := mem_bk f r x h; omega
theorem bk_bytes (l : List UInt8) : l.length ≤ bkLL (byteCells l) := len_bk (f := fun b : UInt8 => [AV.int .u8 (b.toNat : Int)]) (fun _ => by simp [bkL, AV.bk]) l
theorem seg_bk (s : Seg) : s.as.length + 1 ≤ bkL s.enc := by
  have := len_bk encI (fun _ => by simp [encI, bkL, AV.bk]) s.as
  simp only [Seg.enc, bkL, AV.bk]; omega
theorem tlv_bk (s : TLV) : s.value.length + 1 ≤ bkL s.enc := by
  have := bk_bytes s.value
  simp only [TLV.enc, bkL, AV.bk]; omega
theorem flat_len : ∀ l : List Seg, (flatS l).length = (l.map fun s => s.as.length).sum
  | [] => rfl
  | s :: r => by
    have := flat_len r
    simp only [flatS, List.flatMap_cons, List.length_append, List.map_cons, List.sum_cons] at this ⊢
    omega
theorem unk_le : ∀ l : List TLV, unkS l ≤ ((l.map fun t => t.value.length).sum : Nat)
  | [] => by simp [unkS]
  | t :: r => by
    have := unk_le r
    simp only [unkS, List.map_cons, List.sum_cons] at this ⊢
    omega
theorem ab_of (a : Attrs) (h : bkL a.enc ≤ 1048576) : AB a := by
  simp only [Attrs.enc, bkL, AV.bk] at h
  have h1 := len_bk Seg.enc (fun s => by have := seg_bk s; omega) a.path
  have h2 := bkLL_map_le Seg.enc (fun s => s.as.length) (fun s => by have := seg_bk s; omega) a.path
  have h3 := len_bk encU (fun _ => by simp [encU, bkL, AV.bk]) a.comms
  have h4 := len_bk encU (fun _ => by simp [encU, bkL, AV.bk]) a.clusters
  have h5 := len_bk TLV.enc (fun s => by have := tlv_bk s; omega) a.unknown
  have h6 := bkLL_map_le TLV.enc (fun t => t.value.length) (fun s => by have := tlv_bk s; omega) a.unknown
  have h7 := unk_le a.unknown
  rw [← flat_len] at h2
  generalize bkLL (a.path.map Seg.enc) = z1 at *
  generalize bkLL (a.comms.map encU) = z2 at *
  generalize bkLL (a.clusters.map encU) = z3 at *
  refine ⟨by omega, by omega, by omega, by omega, by omega, fun t ht => ?_, by omega⟩
  have := mem_bk TLV.enc a.unknown t ht
  have := tlv_bk t
  omega
end Go.AM.IR
set_option maxHeartbeats 4000000
set_option maxRecDepth 20000
namespace Go.AM.IR
/-! ### What a valid value is -/
theorem firstS_zero : ∀ l : List Int, firstS l = 0 → ∀ x ∈ l, x = 0
  | [], _, _, h => by simp at h
  | y :: r, h, x, hx => by
    simp only [firstS] at h
    split at h
    · rename_i e
      rcases List.mem_cons.1 hx with rfl | hx
      · exact e
      · exact firstS_zero r h x hx
    · rename_i e; exact absurd h e
theorem optE_zero {has : Bool} {n low : Int} (h : optE has n low = 0) : (has = true → low ≤ n ∧ n ≤ 4294967295) ∧ (has = false → n = 0) := by
  unfold optE at h
  cases has
  · simp at h ⊢; exact h
  · simp at h ⊢; omega
theorem rngS_all : ∀ l : List Int, rngS l = true → ∀ x ∈ l, 1 ≤ x ∧ x ≤ 4294967295
  | [], _, _, h => by simp at h
  | y :: r, h, x, hx => by
    simp [rngS] at h
    rcases List.mem_cons.1 hx with rfl | hx
    · exact h.1
    · exact rngS_all r h.2 x hx
theorem segE_zero {s : Seg} (h : segE s = 0) : (1 ≤ s.kind ∧ s.kind ≤ 4) ∧ (1 ≤ s.as.length ∧ s.as.length ≤ 255) ∧ ∀ x ∈ s.as, 1 ≤ x ∧ x ≤ 4294967295 := by
  unfold segE at h
  split at h
  · omega
  · split at h
    · omega
    · split at h
      · omega
      · split at h
        · omega
        · rename_i h1 h2 h3 h4
          exact ⟨by omega, by omega, rngS_all _ (by simpa using h4)⟩
theorem pathC_zero : ∀ (l : List Seg) (pl : Bool) (p : Option Seg), pathC pl p l = 0 → ∀ s ∈ l, segE s = 0
  | [], _, _, _, _, h => by simp at h
  | x :: r, pl, p, h, s, hs => by
    rw [pathC] at h
    split at h
    · rename_i h1; exact absurd h h1
    · rename_i h1
      split at h
      · omega
      · split at h
        · omega
        · rcases List.mem_cons.1 hs with rfl | hs
          · simpa using h1
          · exact pathC_zero r _ _ h s hs
theorem unkC_zero : ∀ (l : List TLV) (p : Option Int), unkC p l = 0 → ∀ t ∈ l, (11 ≤ t.kind ∧ t.kind ≤ 255) ∧ t.value.length ≤ 255
  | [], _, _, _, h => by simp at h
  | x :: r, none, h, t, ht => by
    rw [unkC] at h
    split at h
    · omega
    · split at h
      · omega
      · rcases List.mem_cons.1 ht with rfl | ht
        · omega
        · exact unkC_zero r _ h t ht
  | x :: r, some q, h, t, ht => by
    rw [unkC] at h
    split at h
    · omega
    · split at h
      · omega
      · split at h
        · omega
        · rcases List.mem_cons.1 ht with rfl | ht
          · omega
          · exact unkC_zero r _ h t ht
structure ValidA (a : Attrs) : Prop where
  origin : 0 ≤ a.origin ∧ a.origin ≤ 2
  pathL : a.path.length ≤ 64
  segs : ∀ s ∈ a.path, (1 ≤ s.kind ∧ s.kind ≤ 4) ∧ (1 ≤ s.as.length ∧ s.as.length ≤ 255) ∧ ∀ x ∈ s.as, 1 ≤ x ∧ x ≤ 4294967295
  nextHop : a.nextHop ≠ 0
  med : (a.hasMED = true → 0 ≤ a.med ∧ a.med ≤ 4294967295) ∧ (a.hasMED = false → a.med = 0)
  pref : (a.hasPref = true → 0 ≤ a.pref ∧ a.pref ≤ 4294967295) ∧ (a.hasPref = false → a.pref = 0)
  aggr : (a.hasAggr = true → 1 ≤ a.aggrAS ∧ a.aggrAS ≤ 4294967295) ∧ (a.hasAggr = false → a.aggrAS = 0)
  aggrAddr : a.hasAggr = false → a.aggrAddr = 0
  comms : a.comms.length ≤ 255
  orig : a.hasOrig = (a.orig != 0)
  clusters : a.clusters.length ≤ 64
  unknownL : a.unknown.length ≤ 64
  unknown : ∀ t ∈ a.unknown, (11 ≤ t.kind ∧ t.kind ≤ 255) ∧ t.value.length ≤ 255
theorem valid_of {a : Attrs} (h : checkS a = 0) : ValidA a := by
  have z := firstS_zero (checkL a) h
  simp only [checkL, List.mem_cons, List.not_mem_nil, or_false, forall_eq_or_imp, forall_eq] at z
  obtain ⟨z1, z2, z3, z4, z5, z6, z7, z8, z9, z10, z11⟩ := z
  have hp : a.path.length ≤ 64 ∧ pathC false none a.path = 0 := by
    unfold pathE at z2
    split at z2
    · omega
    · exact ⟨by omega, z2⟩
  have hu : a.unknown.length ≤ 64 ∧ unkC none a.unknown = 0 := by
    unfold unknownE at z11
    split at z11
    · omega
    · exact ⟨by omega, z11⟩
  refine ⟨?_, hp.1, fun s hs => segE_zero (pathC_zero _ _ _ hp.2 s hs), ?_, optE_zero z4, optE_zero z5, optE_zero z6, ?_, ?_, ?_, ?_, hu.1, unkC_zero _ _ hu.2⟩
  · split at z1 <;> omega
  · intro e; rw [if_pos e] at z3; omega
  · intro e
    split at z7
    · omega
    · rename_i hh
      simp only [e, true_and, ne_eq, Decidable.not_not] at hh
      exact hh
  · unfold commE at z8; split at z8 <;> omega
  · unfold origE at z9
    split at z9
    · omega
    · rename_i hh
      by_cases e : a.orig = 0
      · cases ho : a.hasOrig <;> simp_all
      · cases ho : a.hasOrig <;> simp_all
  · unfold clustersE at z10; split at z10 <;> omega
theorem encV_of {a : Attrs} (ha : a.ok) (h : checkS a = 0) : EncV a ∧ EncV2 a := by
  have v := valid_of h
  refine ⟨⟨⟨v.origin.1, by have := v.origin.2; omega⟩, fun s hs => ?_, by have := v.pathL; omega, ha.nextHop, ?_, ?_, ?_, ha.aggrAddr, ha.comms, v.comms, ha.orig, ha.clusters, v.clusters, fun t ht => ?_, v.unknownL⟩, ⟨fun t ht => ?_⟩⟩
  · obtain ⟨h1, h2, h3⟩ := v.segs s hs
    exact ⟨by omega, by omega, fun x hx => by have := h3 x hx; omega⟩
  · cases hh : a.hasMED
    · have := v.med.2 hh; omega
    · exact v.med.1 hh
  · cases hh : a.hasPref
    · have := v.pref.2 hh; omega
    · exact v.pref.1 hh
  · cases hh : a.hasAggr
    · have := v.aggr.2 hh; omega
    · have := v.aggr.1 hh; omega
  · have := v.unknown t ht; omega
  · have := v.unknown t ht; omega
end Go.AM.IR
set_option maxHeartbeats 4000000
set_option maxRecDepth 20000
namespace Go.AM.IR
theorem putB_le (k : Int) (v : List UInt8) : (putB k v).length ≤ v.length + 4 := by
  unfold putB; split <;> simp <;> omega
theorem unkB_le : ∀ l : List TLV, (∀ t ∈ l, t.value.length ≤ 255) → (l.flatMap fun t => putB t.kind t.value).length ≤ 259 * l.length
  | [], _ => by simp
  | x :: r, h => by
    have h1 := unkB_le r fun t ht => h t (by simp [ht])
    have h2 := h x (by simp)
    have h3 := putB_le x.kind x.value
    simp only [List.flatMap_cons, List.length_append, List.length_cons]
    omega
theorem ite_len {c : Prop} [Decidable c] {x : List UInt8} : (if c then x else []).length ≤ x.length := by split <;> simp
theorem encB_le {a : Attrs} (v : ValidA a) (wide : Bool) : (encB a wide).length < 2 ^ 20 := by
  have hw := wd_le wide
  have h3 := putB_le 1 [UInt8.ofNat a.origin.toNat]
  have h4 := putB_le 2 (pathB (wd wide) a.path)
  have h4' := pathL_aux (wd wide) hw a.path fun s hs => (v.segs s hs).2.1.2
  have h4'' := v.pathL
  have h5 := putB_le 3 (be 4 a.nextHop.toNat)
  have h6 := Nat.le_trans (ite_len (c := a.hasMED = true)) (putB_le 4 (be 4 a.med.toNat))
  have h7 := Nat.le_trans (ite_len (c := a.hasPref = true)) (putB_le 5 (be 4 a.pref.toNat))
  have h8 := Nat.le_trans (ite_len (c := a.atomic = true)) (putB_le 6 [])
  have h9 := Nat.le_trans (ite_len (c := a.hasAggr = true)) (putB_le 7 (be (wd wide) a.aggrAS.toNat ++ be 4 a.aggrAddr.toNat))
  have h10 := Nat.le_trans (ite_len (c := a.comms.length > 0)) (putB_le 8 (wordsB a.comms))
  have h11 := Nat.le_trans (ite_len (c := a.hasOrig = true)) (putB_le 9 (be 4 a.orig.toNat))
  have h12 := Nat.le_trans (ite_len (c := a.clusters.length > 0)) (putB_le 10 (wordsB a.clusters))
  have h13 := unkB_le a.unknown fun t ht => (v.unknown t ht).2
  have hu := v.unknownL
  have hc := v.comms
  have hcl := v.clusters
  simp only [encB, r3, r4, r5, r6, r7, r8, r9, r10, r11, r12, r13, c3, c4, c5, c6, c7, c8, c9, c10, c11, c12, c13, List.length_append] at *
  simp only [wordsB, fm_length, be_length, List.length_cons, List.length_nil] at *
  omega
theorem badN_eq (wide bad : Bool) (n : Int) : badN wide bad n = (bad || (!wide && decide (n > 65535))) := rfl
theorem badL_eq (wide : Bool) : ∀ (l : List Int) (bad : Bool), badL wide bad l = (bad || (!wide && l.any fun n => decide (n > 65535)))
  | [], bad => by simp [badL]
  | x :: r, bad => by
    have := badL_eq wide r (badN wide bad x)
    simp only [badL, List.foldl_cons, badN_eq] at this ⊢
    rw [this]
    cases bad <;> cases wide <;> simp
theorem badP_eq (wide : Bool) : ∀ (p : List Seg) (bad : Bool), badP wide bad p = (bad || (!wide && (flatS p).any fun n => decide (n > 65535)))
  | [], bad => by simp [badP, flatS]
  | x :: r, bad => by
    have := badP_eq wide r (badL wide bad x.as)
    simp only [badP, List.foldl_cons, flatS, List.flatMap_cons, List.any_append] at this ⊢
    rw [this, badL_eq]
    cases bad <;> cases wide <;> simp
theorem encBad_eq {a : Attrs} (v : ValidA a) (wide : Bool) : encBad a wide = (!wide && (flatS a.path ++ [a.aggrAS]).any fun n => decide (n > 65535)) := by
  unfold encBad bdA
  cases h : a.hasAggr
  · rw [if_neg (by simp), badP_eq, v.aggr.2 h]; simp
  · rw [if_pos rfl, badN_eq, badP_eq]; cases wide <;> simp
def encR (a : Attrs) (wide : Bool) : Ret := if checkS a = 0 then encRet (encBad a wide) (encB a wide) else ⟨.tup [.con (.slice none 0 0), .int .i64 (checkS a)], []⟩
theorem encode67 (a : Attrs) (wide : Bool) (hb : AB a) (ha : a.ok) : Gives G 67 [.agg a.enc, .bool wide] [] (encR a wide) :=
  encode_gives67 a wide (sizeS_le hb) fun h => ⟨(encV_of ha h).1, by have := encB_le (valid_of h) wide; omega⟩
theorem encode68 (a : Attrs) (wide : Bool) (hb : AB a) (hfl : (flatS a.path).length < 2 ^ 39) (ha : a.ok) : Gives G 68 [.agg a.enc, .bool wide] [] (encR a wide) := by
  unfold encR
  by_cases hc : checkS a = 0
  · rw [if_pos hc]
    have v := valid_of hc
    have h := encode_gives68_0 a wide (sizeS_le hb) hfl hc (encV_of ha hc).1 (encV_of ha hc).2 (by have := encB_le v wide; omega)
    rw [← encBad_eq v] at h
    cases hbad : encBad a wide
    · rw [hbad] at h; exact h
    · rw [hbad] at h; exact h
  · rw [if_neg hc]
    refine gives_code (F := f68) rfl rfl (W_ok 300 _ _ _ _ ?_)
    repeat' ((conv => whnf); first | refine bslP (by first | rfl | (simp [pureL, pureLL, AV.pure]; done) | fail) rfl ?_ | refine TakeC.full (by first | rfl | omega | (simp; done) | (simp; omega) | fail) ?_ | refine zBs ?_ | refine zBn ?_ | refine zBv rfl rfl ?_ | refine zN ?_ | refine zC ?_ | refine zC4 ?_ | refine zOr16 ?_ | refine zC1 ?_ | refine zByte ?_ | refine zMaxL ?_ | refine zMaxR ?_ | refine zMinL ?_ | refine zMinR ?_ | refine zShr ?_ | refine zC8 ?_ | refine zQ ?_ | refine zR ?_ | refine zS ?_ | refine zA ?_ | refine zM ?_ | refine xr rfl ?_ | refine ai rfl ?_ | refine condT ?_ | refine condF ?_ | refine condG1 ?_ | refine condG0 ?_ | refine cD ?_ | refine dD ?_ | refine cB ?_ | refine dB ?_ | refine cN ?_ | refine dN ?_ | refine cV ?_ | refine dV ?_ | refine cE ?_ | refine dE ?_ | refine condX0 ?_ | refine condX1 ?_ | refine condNot ?_ | refine condAnd ?_ | refine condOr ?_ | refine aO ?_ | refine aB ?_ | refine aR ?_ | refine aR ?_ (by simp; omega) | refine xr (by assumption) ?_ | refine ai (by assumption) ?_ | refine kV (check_gives66 a (sizeS_le hb)) ?_ | refine condD (fun h => ?_) (fun h => ?_) | refine condB (fun h => ?_) (fun h => ?_) | refine condN (fun h => ?_) (fun h => ?_) | refine condE (fun h => ?_) (fun h => ?_) | refine condV (fun h => ?_) (fun h => ?_))
    all_goals ((first | refine ev_fin (And.intro (by first | rfl | (simp [AV.pure, pureL]; done) | fail) ?_) | refine ev_fin0 (And.intro (by first | rfl | (simp [AV.pure, pureL]; done) | fail) ?_)); rfl)
theorem law59_gives (a : Attrs) (wide : Bool) (hb : AB a) (hfl : (flatS a.path).length < 2 ^ 39) (ha : a.ok) : Gives G 59 [.agg a.enc, .bool wide] [] ⟨.bool true, []⟩ := by
  have h1 := encode67 a wide hb ha
  have h2 := encode68 a wide hb hfl ha
  have hdry : (∃ e, encR a wide = ⟨.tup [.con (.slice none 0 0), .int .i64 e], []⟩) ∨ encR a wide = ⟨.tup [.vs 0 0 (encB a wide).length, .int .i64 0], [(false, .vec 1 (byteCells (encB a wide)))]⟩ := by
    unfold encR
    by_cases hc : checkS a = 0
    · rw [if_pos hc]
      unfold encRet
      split
      · exact .inl ⟨_, rfl⟩
      · exact .inr rfl
    · rw [if_neg hc]; exact .inl ⟨_, rfl⟩
  rcases hdry with ⟨e, he⟩ | he
  · rw [he] at h1 h2
    refine gives_code (F := f59) rfl rfl (W_ok 300 _ _ _ _ ?_)
    repeat' ((conv => whnf); first | refine bslP (by first | rfl | (simp [pureL, pureLL, AV.pure]; done) | fail) rfl ?_ | refine TakeC.full (by first | rfl | omega | (simp; done) | (simp; omega) | fail) ?_ | refine zBs ?_ | refine zBn ?_ | refine zBv rfl rfl ?_ | refine zN ?_ | refine zC ?_ | refine zC4 ?_ | refine zOr16 ?_ | refine zC1 ?_ | refine zByte ?_ | refine zMaxL ?_ | refine zMaxR ?_ | refine zMinL ?_ | refine zMinR ?_ | refine zShr ?_ | refine zC8 ?_ | refine zQ ?_ | refine zR ?_ | refine zS ?_ | refine zA ?_ | refine zM ?_ | refine xr rfl ?_ | refine ai rfl ?_ | refine condT ?_ | refine condF ?_ | refine condG1 ?_ | refine condG0 ?_ | refine cD ?_ | refine dD ?_ | refine cB ?_ | refine dB ?_ | refine cN ?_ | refine dN ?_ | refine cV ?_ | refine dV ?_ | refine cE ?_ | refine dE ?_ | refine condX0 ?_ | refine condX1 ?_ | refine condNot ?_ | refine condAnd ?_ | refine condOr ?_ | refine aO ?_ | refine aB ?_ | refine aR ?_ | refine aR ?_ (by simp; omega) | refine xr (by assumption) ?_ | refine ai (by assumption) ?_ | refine kV (large_gives21 a hb) ?_ | refine kV (awake36_gives) ?_ | refine kV (h1) ?_ | refine kV (h2) ?_ | refine condD (fun h => ?_) (fun h => ?_) | refine condB (fun h => ?_) (fun h => ?_) | refine condN (fun h => ?_) (fun h => ?_) | refine condE (fun h => ?_) (fun h => ?_) | refine condV (fun h => ?_) (fun h => ?_))
    all_goals try ((first | refine ev_fin (And.intro (by first | rfl | (simp [AV.pure, pureL]; done) | fail) ?_) | refine ev_fin0 (And.intro (by first | rfl | (simp [AV.pure, pureL]; done) | fail) ?_)); first | rfl | (simp [Bool.cond_eq_ite, *]; done) | (simp [Bool.cond_eq_ite, *]; omega))
  · rw [he] at h1 h2
    refine gives_code (F := f59) rfl rfl (W_ok 300 _ _ _ _ ?_)
    repeat' ((conv => whnf); first | refine bslP (by first | rfl | (simp [pureL, pureLL, AV.pure]; done) | fail) rfl ?_ | refine TakeC.full (by first | rfl | omega | (simp; done) | (simp; omega) | fail) ?_ | refine zBs ?_ | refine zBn ?_ | refine zBv rfl rfl ?_ | refine zN ?_ | refine zC ?_ | refine zC4 ?_ | refine zOr16 ?_ | refine zC1 ?_ | refine zByte ?_ | refine zMaxL ?_ | refine zMaxR ?_ | refine zMinL ?_ | refine zMinR ?_ | refine zShr ?_ | refine zC8 ?_ | refine zQ ?_ | refine zR ?_ | refine zS ?_ | refine zA ?_ | refine zM ?_ | refine xr rfl ?_ | refine ai rfl ?_ | refine condT ?_ | refine condF ?_ | refine condG1 ?_ | refine condG0 ?_ | refine cD ?_ | refine dD ?_ | refine cB ?_ | refine dB ?_ | refine cN ?_ | refine dN ?_ | refine cV ?_ | refine dV ?_ | refine cE ?_ | refine dE ?_ | refine condX0 ?_ | refine condX1 ?_ | refine condNot ?_ | refine condAnd ?_ | refine condOr ?_ | refine aO ?_ | refine aB ?_ | refine aR ?_ | refine aR ?_ (by simp; omega) | refine xr (by assumption) ?_ | refine ai (by assumption) ?_ | refine kV (large_gives21 a hb) ?_ | refine kV (awake36_gives) ?_ | refine kN (h1) ?_ | refine kN (h2) ?_ | refine condD (fun h => ?_) (fun h => ?_) | refine condB (fun h => ?_) (fun h => ?_) | refine condN (fun h => ?_) (fun h => ?_) | refine condE (fun h => ?_) (fun h => ?_) | refine condV (fun h => ?_) (fun h => ?_))
    all_goals try ((first | refine ev_fin (And.intro (by first | rfl | (simp [AV.pure, pureL]; done) | fail) ?_) | refine ev_fin0 (And.intro (by first | rfl | (simp [AV.pure, pureL]; done) | fail) ?_)); first | rfl | (simp [Bool.cond_eq_ite, *]; done) | (simp [Bool.cond_eq_ite, *]; omega))
theorem law59_all (ass : List (List AV)) (h : ArgsT [tAttrs, .bool] ass) (hb : bkLL ass ≤ 1048576) : Gives G 59 (argsA [tAttrs, .bool] ass) [] ⟨.bool true, []⟩ := by
  obtain ⟨x, s1, rfl, h1, h⟩ := argsT_cons h
  obtain ⟨y, s2, rfl, h2, h⟩ := argsT_cons h
  obtain rfl := argsT_nil h
  obtain ⟨a, rfl, ha⟩ := T_attrs h1
  obtain ⟨w, rfl⟩ := h2
  simp only [bkLL] at hb
  have hab := ab_of a (by omega)
  refine law59_gives a w hab ?_ ha
  have h2 := bkLL_map_le Seg.enc (fun s => s.as.length) (fun s => by have := seg_bk s; omega) a.path
  rw [← flat_len] at h2
  have : bkLL (a.path.map Seg.enc) ≤ bkL a.enc := by simp only [Attrs.enc, bkL, AV.bk]; omega
  omega
end Go.AM.IR
set_option maxHeartbeats 4000000
set_option maxRecDepth 20000
namespace Go.AM.IR
theorem pathB_len (w : Nat) : ∀ p : List Seg, (pathB w p).length = 2 * p.length + w * (flatS p).length
  | [] => by simp [pathB, flatS]
  | s :: r => by
    have h := pathB_len w r
    simp only [pathB, List.flatMap_cons, List.length_append, segB, List.length_cons, asB_length, flatS, Nat.mul_add] at h ⊢
    omega
theorem putB_len (k : Int) (v : List UInt8) : (putB k v).length = v.length + (if v.length > 255 then 4 else 3) := by
  unfold putB; split <;> simp <;> omega
theorem encB_diff (a : Attrs) (n : Nat) (hn : n = 2 * (flatS a.path).length + (if a.hasAggr = true then 2 else 0)) : (encB a false).length + n ≤ (encB a true).length ∧ (encB a true).length ≤ (encB a false).length + n + 1 := by
  have h1 := pathB_len 4 a.path
  have h2 := pathB_len 2 a.path
  have p1 := putB_len 2 (pathB 4 a.path)
  have p2 := putB_len 2 (pathB 2 a.path)
  simp only [encB, r3, r4, r5, r6, r7, r8, r9, r10, r11, r12, r13, List.length_append, c4, c9, wd, if_true, Bool.false_eq_true, if_false] at *
  have q1 := putB_len 7 (be 4 a.aggrAS.toNat ++ be 4 a.aggrAddr.toNat)
  have q2 := putB_len 7 (be 2 a.aggrAS.toNat ++ be 4 a.aggrAddr.toNat)
  simp only [List.length_append, be_length] at q1 q2
  rw [if_neg (by omega)] at q1 q2
  rw [p1, p2, hn]
  by_cases hg : a.hasAggr = true
  · rw [if_pos hg, if_pos hg, if_pos hg, q1, q2]
    split <;> split <;> omega
  · rw [if_neg hg, if_neg hg, if_neg hg]
    simp only [List.length_nil]
    split <;> split <;> omega
theorem enc_small (a : Attrs) (hp : a.path = []) (hg : a.hasAggr = false) : encR a true = encR a false := by
  unfold encR
  have e1 : encB a true = encB a false := by
    simp [encB, r3, r4, r5, r6, r7, r8, r9, r10, r11, r12, r13, c4, c9, hp, hg, pathB]
  have e2 : encBad a true = encBad a false := by
    simp [encBad, bdA, hg, hp, badP]
  rw [e1, e2]
theorem encR_cases (a : Attrs) (w : Bool) : (checkS a ≠ 0 ∧ encR a w = ⟨.tup [.con (.slice none 0 0), .int .i64 (checkS a)], []⟩) ∨ (checkS a = 0 ∧ encBad a w = true ∧ encR a w = ⟨.tup [.con (.slice none 0 0), .int .i64 5], []⟩) ∨ (checkS a = 0 ∧ encBad a w = false ∧ encR a w = ⟨.tup [.vs 0 0 (encB a w).length, .int .i64 0], [(false, .vec 1 (byteCells (encB a w)))]⟩) := by
  unfold encR encRet
  by_cases hc : checkS a = 0
  · rw [if_pos hc]
    cases hb : encBad a w
    · exact .inr (.inr ⟨hc, rfl, by simp⟩)
    · exact .inr (.inl ⟨hc, rfl, by simp⟩)
  · rw [if_neg hc]; exact .inl ⟨hc, rfl⟩
theorem wide_rest (a : Attrs) (hb : AB a) (hfl : (flatS a.path).length < 2 ^ 39) (ha : a.ok) (hsm : ∀ n ∈ flatS a.path, n ≤ 65535) (T : List (Nat × AV)) (H : Heap) (c : Nat) : Ev G ⟨f62x10LH.drop 2, ⟨(1, .ref 65 1 0) :: T, (65, some (1, .cells a.enc)) :: H, c⟩, [.t 2], 0⟩ ⟨.bool true, []⟩ := by
  have h1 := encode67 a true hb ha
  have h2 := encode67 a false hb ha
  have hfg := flat_gives57 a.path (by have := hb.path; omega) (by omega)
  rcases encR_cases a true with ⟨c1, e1⟩ | ⟨c1, b1, e1⟩ | ⟨c1, b1, e1⟩
  · rcases encR_cases a false with ⟨c2, e2⟩ | ⟨c2, _, e2⟩ | ⟨c2, _, e2⟩
    · rw [e1] at h1
      rw [e2] at h2
      refine W_ok 300 _ _ _ _ ?_
      repeat' ((conv => whnf); first | refine bslP (by first | rfl | (simp [pureL, pureLL, AV.pure]; done) | fail) rfl ?_ | refine TakeC.full (by first | rfl | omega | (simp; done) | (simp; omega) | fail) ?_ | refine zBs ?_ | refine zBn ?_ | refine zBv rfl rfl ?_ | refine zN ?_ | refine zC ?_ | refine zC4 ?_ | refine zOr16 ?_ | refine zC1 ?_ | refine zByte ?_ | refine zMaxL ?_ | refine zMaxR ?_ | refine zMinL ?_ | refine zMinR ?_ | refine zShr ?_ | refine zC8 ?_ | refine zQ ?_ | refine zR ?_ | refine zS ?_ | refine zA ?_ | refine zM ?_ | refine xr rfl ?_ | refine ai rfl ?_ | refine condT ?_ | refine condF ?_ | refine condG1 ?_ | refine condG0 ?_ | refine cD ?_ | refine dD ?_ | refine cB ?_ | refine dB ?_ | refine cN ?_ | refine dN ?_ | refine cV ?_ | refine dV ?_ | refine cE ?_ | refine dE ?_ | refine condX0 ?_ | refine condX1 ?_ | refine condNot ?_ | refine condAnd ?_ | refine condOr ?_ | refine aO ?_ | refine aB ?_ | refine aR ?_ | refine aR ?_ (by simp; omega) | refine xr (by assumption) ?_ | refine ai (by assumption) ?_ | refine kV (h1) ?_ | refine kV (h2) ?_ | refine kV (awake36_gives) ?_ | refine condD (fun h => ?_) (fun h => ?_) | refine condB (fun h => ?_) (fun h => ?_) | refine condN (fun h => ?_) (fun h => ?_) | refine condE (fun h => ?_) (fun h => ?_) | refine condV (fun h => ?_) (fun h => ?_))
      all_goals try ((first | refine ev_fin (And.intro (by first | rfl | (simp [AV.pure, pureL]; done) | fail) ?_) | refine ev_fin0 (And.intro (by first | rfl | (simp [AV.pure, pureL]; done) | fail) ?_)); first | rfl | (simp [Bool.cond_eq_ite, *]; done) | (simp [Bool.cond_eq_ite, *]; omega))
    · exact absurd c2 c1
    · exact absurd c2 c1
  · rw [encBad_eq (valid_of c1)] at b1; simp at b1
  · have v := valid_of c1
    have hl1 := encB_le v true
    have hl2 := encB_le v false
    rw [e1] at h1
    rcases encR_cases a false with ⟨c2, e2⟩ | ⟨c2, b2, e2⟩ | ⟨c2, b2, e2⟩
    · exact absurd c1 c2
    · rw [e2] at h2
      have hbig : a.aggrAS > 65535 := by
        rw [encBad_eq v] at b2
        simp only [Bool.not_false, Bool.true_and, List.any_append, List.any_cons, List.any_nil, Bool.or_false, Bool.or_eq_true, List.any_eq_true, decide_eq_true_eq] at b2
        rcases b2 with ⟨x, hx, hx2⟩ | hx
        · have := hsm x hx; omega
        · exact hx
      refine W_ok 300 _ _ _ _ ?_
      repeat' ((conv => whnf); first | refine bslP (by first | rfl | (simp [pureL, pureLL, AV.pure]; done) | fail) rfl ?_ | refine TakeC.full (by first | rfl | omega | (simp; done) | (simp; omega) | fail) ?_ | refine zBs ?_ | refine zBn ?_ | refine zBv rfl rfl ?_ | refine zN ?_ | refine zC ?_ | refine zC4 ?_ | refine zOr16 ?_ | refine zC1 ?_ | refine zByte ?_ | refine zMaxL ?_ | refine zMaxR ?_ | refine zMinL ?_ | refine zMinR ?_ | refine zShr ?_ | refine zC8 ?_ | refine zQ ?_ | refine zR ?_ | refine zS ?_ | refine zA ?_ | refine zM ?_ | refine xr rfl ?_ | refine ai rfl ?_ | refine condT ?_ | refine condF ?_ | refine condG1 ?_ | refine condG0 ?_ | refine cD ?_ | refine dD ?_ | refine cB ?_ | refine dB ?_ | refine cN ?_ | refine dN ?_ | refine cV ?_ | refine dV ?_ | refine cE ?_ | refine dE ?_ | refine condX0 ?_ | refine condX1 ?_ | refine condNot ?_ | refine condAnd ?_ | refine condOr ?_ | refine aO ?_ | refine aB ?_ | refine aR ?_ | refine aR ?_ (by simp; omega) | refine xr (by assumption) ?_ | refine ai (by assumption) ?_ | refine kN (h1) ?_ | refine kV (h2) ?_ | refine kV (awake36_gives) ?_ | refine condD (fun h => ?_) (fun h => ?_) | refine condB (fun h => ?_) (fun h => ?_) | refine condN (fun h => ?_) (fun h => ?_) | refine condE (fun h => ?_) (fun h => ?_) | refine condV (fun h => ?_) (fun h => ?_))
      all_goals try ((first | refine ev_fin (And.intro (by first | rfl | (simp [AV.pure, pureL]; done) | fail) ?_) | refine ev_fin0 (And.intro (by first | rfl | (simp [AV.pure, pureL]; done) | fail) ?_)); first | rfl | (simp [Bool.cond_eq_ite, *]; done) | (simp [Bool.cond_eq_ite, *]; omega))
    · rw [e2] at h2
      obtain ⟨d1, d2⟩ := encB_diff a _ rfl
      by_cases hg : a.hasAggr = true
      · rw [if_pos hg] at d1 d2
        refine W_ok 300 _ _ _ _ ?_
        repeat' ((conv => whnf); first | refine bslP (by first | rfl | (simp [pureL, pureLL, AV.pure]; done) | fail) rfl ?_ | refine TakeC.full (by first | rfl | omega | (simp; done) | (simp; omega) | fail) ?_ | refine zBs ?_ | refine zBn ?_ | refine zBv rfl rfl ?_ | refine zN ?_ | refine zC ?_ | refine zC4 ?_ | refine zOr16 ?_ | refine zC1 ?_ | refine zByte ?_ | refine zMaxL ?_ | refine zMaxR ?_ | refine zMinL ?_ | refine zMinR ?_ | refine zShr ?_ | refine zC8 ?_ | refine zQ ?_ | refine zR ?_ | refine zS ?_ | refine zA ?_ | refine zM ?_ | refine xr rfl ?_ | refine ai rfl ?_ | refine condT ?_ | refine condF ?_ | refine condG1 ?_ | refine condG0 ?_ | refine cD ?_ | refine dD ?_ | refine cB ?_ | refine dB ?_ | refine cN ?_ | refine dN ?_ | refine cV ?_ | refine dV ?_ | refine cE ?_ | refine dE ?_ | refine condX0 ?_ | refine condX1 ?_ | refine condNot ?_ | refine condAnd ?_ | refine condOr ?_ | refine aO ?_ | refine aB ?_ | refine aR ?_ | refine aR ?_ (by simp; omega) | refine xr (by assumption) ?_ | refine ai (by assumption) ?_ | refine kN (h1) ?_ | refine kN (h2) ?_ | refine kN (hfg) ?_ | refine kV (awake36_gives) ?_ | refine condD (fun h => ?_) (fun h => ?_) | refine condB (fun h => ?_) (fun h => ?_) | refine condN (fun h => ?_) (fun h => ?_) | refine condE (fun h => ?_) (fun h => ?_) | refine condV (fun h => ?_) (fun h => ?_))
        all_goals try ((first | refine ev_fin (And.intro (by first | rfl | (simp [AV.pure, pureL]; done) | fail) ?_) | refine ev_fin0 (And.intro (by first | rfl | (simp [AV.pure, pureL]; done) | fail) ?_)); first | rfl | (simp [Bool.cond_eq_ite, *]; done) | (simp [Bool.cond_eq_ite, *]; omega))
      · rw [if_neg hg] at d1 d2
        have hg : a.hasAggr = false := by simpa using hg
        refine W_ok 300 _ _ _ _ ?_
        repeat' ((conv => whnf); first | refine bslP (by first | rfl | (simp [pureL, pureLL, AV.pure]; done) | fail) rfl ?_ | refine TakeC.full (by first | rfl | omega | (simp; done) | (simp; omega) | fail) ?_ | refine zBs ?_ | refine zBn ?_ | refine zBv rfl rfl ?_ | refine zN ?_ | refine zC ?_ | refine zC4 ?_ | refine zOr16 ?_ | refine zC1 ?_ | refine zByte ?_ | refine zMaxL ?_ | refine zMaxR ?_ | refine zMinL ?_ | refine zMinR ?_ | refine zShr ?_ | refine zC8 ?_ | refine zQ ?_ | refine zR ?_ | refine zS ?_ | refine zA ?_ | refine zM ?_ | refine xr rfl ?_ | refine ai rfl ?_ | refine condT ?_ | refine condF ?_ | refine condG1 ?_ | refine condG0 ?_ | refine cD ?_ | refine dD ?_ | refine cB ?_ | refine dB ?_ | refine cN ?_ | refine dN ?_ | refine cV ?_ | refine dV ?_ | refine cE ?_ | refine dE ?_ | refine condX0 ?_ | refine condX1 ?_ | refine condNot ?_ | refine condAnd ?_ | refine condOr ?_ | refine aO ?_ | refine aB ?_ | refine aR ?_ | refine aR ?_ (by simp; omega) | refine xr (by assumption) ?_ | refine ai (by assumption) ?_ | refine kN (h1) ?_ | refine kN (h2) ?_ | refine kN (hfg) ?_ | refine kV (awake36_gives) ?_ | refine condD (fun h => ?_) (fun h => ?_) | refine condB (fun h => ?_) (fun h => ?_) | refine condN (fun h => ?_) (fun h => ?_) | refine condE (fun h => ?_) (fun h => ?_) | refine condV (fun h => ?_) (fun h => ?_))
        all_goals try ((first | refine ev_fin (And.intro (by first | rfl | (simp [AV.pure, pureL]; done) | fail) ?_) | refine ev_fin0 (And.intro (by first | rfl | (simp [AV.pure, pureL]; done) | fail) ?_)); first | rfl | (simp [Bool.cond_eq_ite, *]; done) | (simp [Bool.cond_eq_ite, *]; omega))
theorem wide_loop62 (l : List Int) (a : Attrs) (hb : AB a) (hfl : (flatS a.path).length < 2 ^ 39) (ha : a.ok) (hlf : flatS a.path = l) (hl : l.length < 2 ^ 40) (ln : Int) (hln : ln = l.length) : ∀ (rest done : List Int)  (T : List (Nat × AV)) (H : Heap) (c : Nat) (n : Int) (e : l = done ++ rest) (hn : n = done.length) (hsm : ∀ n ∈ done, n ≤ 65535), Ev G ⟨f62x10LH, ⟨(27, .sl 1 (l.map encI)) :: (28, .int .i64 ln) :: (29, .int .i64 n) :: (1, .ref 65 1 0) :: T, (65, some (1, .cells a.enc)) :: H, c⟩, [.t 2], 0⟩ ⟨.bool true, []⟩
  | [], done,  T, H, c, n, e, hn, hsm => by
    have hd : l.length = done.length := by simp [e]
    have hll : (l.map encI).length = l.length := by simp
    obtain rfl : l = done := by simpa using e
    refine ev_loop' (W_okd 2 300 _ _ _ _ ?_)
    repeat' ((conv => whnf); first | refine bslP (by first | rfl | (simp [pureL, pureLL, AV.pure]; done) | fail) rfl ?_ | refine TakeC.full (by first | rfl | omega | (simp; done) | (simp; omega) | fail) ?_ | refine zBs ?_ | refine zBn ?_ | refine zBv rfl rfl ?_ | refine zN ?_ | refine zC ?_ | refine zC4 ?_ | refine zOr16 ?_ | refine zC1 ?_ | refine zByte ?_ | refine zMaxL ?_ | refine zMaxR ?_ | refine zMinL ?_ | refine zMinR ?_ | refine zShr ?_ | refine zC8 ?_ | refine zQ ?_ | refine zR ?_ | refine zS ?_ | refine zA ?_ | refine zM ?_ | refine xr rfl ?_ | refine ai rfl ?_ | refine condT ?_ | refine condF ?_ | refine condG1 ?_ | refine condG0 ?_ | refine cD ?_ | refine dD ?_ | refine cB ?_ | refine dB ?_ | refine cN ?_ | refine dN ?_ | refine cV ?_ | refine dV ?_ | refine cE ?_ | refine dE ?_ | refine condX0 ?_ | refine condX1 ?_ | refine condNot ?_ | refine condAnd ?_ | refine condOr ?_ | refine aO ?_ | refine aB ?_ | refine aR ?_ | refine aR ?_ (by simp; omega) | refine xr (by assumption) ?_ | refine ai (by assumption) ?_ | refine condD (fun h => ?_) (fun h => ?_) | refine condB (fun h => ?_) (fun h => ?_) | refine condN (fun h => ?_) (fun h => ?_) | refine condE (fun h => ?_) (fun h => ?_) | refine condV (fun h => ?_) (fun h => ?_))
    refine ev_keep [1] [65] ?_
    exact wide_rest a hb hfl ha (by rw [hlf]; exact hsm) _ _ _
  | x :: r, done,  T, H, c, n, e, hn, hsm => by
    have hd : l.length = done.length + (r.length + 1) := by simp [e]
    have hll : (l.map encI).length = l.length := by simp
    have hx : (l.map encI)[n.toNat]? = some (encI x) := by simp [e, hn]
    by_cases hx2 : x > 65535
    · refine ev_loop' (W_ok 300 _ _ _ _ ?_)
      repeat' ((conv => whnf); first | refine bslP (by first | rfl | (simp [pureL, pureLL, AV.pure]; done) | fail) rfl ?_ | refine TakeC.full (by first | rfl | omega | (simp; done) | (simp; omega) | fail) ?_ | refine zBs ?_ | refine zBn ?_ | refine zBv rfl rfl ?_ | refine zN ?_ | refine zC ?_ | refine zC4 ?_ | refine zOr16 ?_ | refine zC1 ?_ | refine zByte ?_ | refine zMaxL ?_ | refine zMaxR ?_ | refine zMinL ?_ | refine zMinR ?_ | refine zShr ?_ | refine zC8 ?_ | refine zQ ?_ | refine zR ?_ | refine zS ?_ | refine zA ?_ | refine zM ?_ | refine xr rfl ?_ | refine ai rfl ?_ | refine condT ?_ | refine condF ?_ | refine condG1 ?_ | refine condG0 ?_ | refine cD ?_ | refine dD ?_ | refine cB ?_ | refine dB ?_ | refine cN ?_ | refine dN ?_ | refine cV ?_ | refine dV ?_ | refine cE ?_ | refine dE ?_ | refine condX0 ?_ | refine condX1 ?_ | refine condNot ?_ | refine condAnd ?_ | refine condOr ?_ | refine aO ?_ | refine aB ?_ | refine aR ?_ | refine aR ?_ (by simp; omega) | refine xr (by assumption) ?_ | refine ai (by assumption) ?_ | refine kV (awake36_gives) ?_ | refine condD (fun h => ?_) (fun h => ?_) | refine condB (fun h => ?_) (fun h => ?_) | refine condN (fun h => ?_) (fun h => ?_) | refine condE (fun h => ?_) (fun h => ?_) | refine condV (fun h => ?_) (fun h => ?_))
      all_goals try ((first | refine ev_fin (And.intro (by first | rfl | (simp [AV.pure, pureL]; done) | fail) ?_) | refine ev_fin0 (And.intro (by first | rfl | (simp [AV.pure, pureL]; done) | fail) ?_)); first | rfl | (simp [Bool.cond_eq_ite, *]; done) | (simp [Bool.cond_eq_ite, *]; omega))
    · have hsm2 : ∀ n ∈ done ++ [x], n ≤ 65535 := by
        intro n hn
        rcases List.mem_append.1 hn with hn | hn
        · exact hsm n hn
        · simp at hn; omega
      refine ev_loop' (W_ok 300 _ _ _ _ ?_)
      repeat' ((conv => whnf); first | refine bslP (by first | rfl | (simp [pureL, pureLL, AV.pure]; done) | fail) rfl ?_ | refine TakeC.full (by first | rfl | omega | (simp; done) | (simp; omega) | fail) ?_ | refine zBs ?_ | refine zBn ?_ | refine zBv rfl rfl ?_ | refine zN ?_ | refine zC ?_ | refine zC4 ?_ | refine zOr16 ?_ | refine zC1 ?_ | refine zByte ?_ | refine zMaxL ?_ | refine zMaxR ?_ | refine zMinL ?_ | refine zMinR ?_ | refine zShr ?_ | refine zC8 ?_ | refine zQ ?_ | refine zR ?_ | refine zS ?_ | refine zA ?_ | refine zM ?_ | refine xr rfl ?_ | refine ai rfl ?_ | refine condT ?_ | refine condF ?_ | refine condG1 ?_ | refine condG0 ?_ | refine cD ?_ | refine dD ?_ | refine cB ?_ | refine dB ?_ | refine cN ?_ | refine dN ?_ | refine cV ?_ | refine dV ?_ | refine cE ?_ | refine dE ?_ | refine condX0 ?_ | refine condX1 ?_ | refine condNot ?_ | refine condAnd ?_ | refine condOr ?_ | refine aO ?_ | refine aB ?_ | refine aR ?_ | refine aR ?_ (by simp; omega) | refine xr (by assumption) ?_ | refine ai (by assumption) ?_ | refine condD (fun h => ?_) (fun h => ?_) | refine condB (fun h => ?_) (fun h => ?_) | refine condN (fun h => ?_) (fun h => ?_) | refine condE (fun h => ?_) (fun h => ?_) | refine condV (fun h => ?_) (fun h => ?_))
      refine ev_keep [27, 28, 29, 1] [65] ?_; exact wide_loop62 l a hb hfl ha hlf hl ln hln r (done ++ [x])  _ _ _ (n + 1) (by simp [e]) (by simp [hn] <;> omega) hsm2
theorem law62_gives (a : Attrs) (hb : AB a) (hfl : (flatS a.path).length < 2 ^ 39) (ha : a.ok) : Gives G 62 [.agg a.enc] [] ⟨.bool true, []⟩ := by
  have hfg := flat_gives57 a.path (by have := hb.path; omega) (by omega)
  have hpl := hb.path
  have hll : (a.path.map Seg.enc).length = a.path.length := by simp
  have h1 := encode67 a true hb ha
  have h2 := encode67 a false hb ha
  by_cases hs : a.path = [] ∧ a.hasAggr = false
  · obtain ⟨hp, hg⟩ := hs
    have hp0 : a.path.length = 0 := by rw [hp]; rfl
    rw [← enc_small a hp hg] at h2
    rcases encR_cases a true with ⟨c1, e1⟩ | ⟨c1, b1, e1⟩ | ⟨c1, b1, e1⟩
    · rw [e1] at h1 h2
      refine gives_code (F := f62) rfl rfl (W_ok 300 _ _ _ _ ?_)
      repeat' ((conv => whnf); first | refine bslP (by first | rfl | (simp [pureL, pureLL, AV.pure]; done) | fail) rfl ?_ | refine TakeC.full (by first | rfl | omega | (simp; done) | (simp; omega) | fail) ?_ | refine zBs ?_ | refine zBn ?_ | refine zBv rfl rfl ?_ | refine zN ?_ | refine zC ?_ | refine zC4 ?_ | refine zOr16 ?_ | refine zC1 ?_ | refine zByte ?_ | refine zMaxL ?_ | refine zMaxR ?_ | refine zMinL ?_ | refine zMinR ?_ | refine zShr ?_ | refine zC8 ?_ | refine zQ ?_ | refine zR ?_ | refine zS ?_ | refine zA ?_ | refine zM ?_ | refine xr rfl ?_ | refine ai rfl ?_ | refine condT ?_ | refine condF ?_ | refine condG1 ?_ | refine condG0 ?_ | refine cD ?_ | refine dD ?_ | refine cB ?_ | refine dB ?_ | refine cN ?_ | refine dN ?_ | refine cV ?_ | refine dV ?_ | refine cE ?_ | refine dE ?_ | refine condX0 ?_ | refine condX1 ?_ | refine condNot ?_ | refine condAnd ?_ | refine condOr ?_ | refine aO ?_ | refine aB ?_ | refine aR ?_ | refine aR ?_ (by simp; omega) | refine xr (by assumption) ?_ | refine ai (by assumption) ?_ | refine kV (large_gives21 a hb) ?_ | refine kV (awake36_gives) ?_ | refine kV (h1) ?_ | refine kV (h2) ?_ | refine condD (fun h => ?_) (fun h => ?_) | refine condB (fun h => ?_) (fun h => ?_) | refine condN (fun h => ?_) (fun h => ?_) | refine condE (fun h => ?_) (fun h => ?_) | refine condV (fun h => ?_) (fun h => ?_))
      all_goals try ((first | refine ev_fin (And.intro (by first | rfl | (simp [AV.pure, pureL]; done) | fail) ?_) | refine ev_fin0 (And.intro (by first | rfl | (simp [AV.pure, pureL]; done) | fail) ?_)); first | rfl | (simp [Bool.cond_eq_ite, *]; done) | (simp [Bool.cond_eq_ite, *]; omega))
    · rw [e1] at h1 h2
      refine gives_code (F := f62) rfl rfl (W_ok 300 _ _ _ _ ?_)
      repeat' ((conv => whnf); first | refine bslP (by first | rfl | (simp [pureL, pureLL, AV.pure]; done) | fail) rfl ?_ | refine TakeC.full (by first | rfl | omega | (simp; done) | (simp; omega) | fail) ?_ | refine zBs ?_ | refine zBn ?_ | refine zBv rfl rfl ?_ | refine zN ?_ | refine zC ?_ | refine zC4 ?_ | refine zOr16 ?_ | refine zC1 ?_ | refine zByte ?_ | refine zMaxL ?_ | refine zMaxR ?_ | refine zMinL ?_ | refine zMinR ?_ | refine zShr ?_ | refine zC8 ?_ | refine zQ ?_ | refine zR ?_ | refine zS ?_ | refine zA ?_ | refine zM ?_ | refine xr rfl ?_ | refine ai rfl ?_ | refine condT ?_ | refine condF ?_ | refine condG1 ?_ | refine condG0 ?_ | refine cD ?_ | refine dD ?_ | refine cB ?_ | refine dB ?_ | refine cN ?_ | refine dN ?_ | refine cV ?_ | refine dV ?_ | refine cE ?_ | refine dE ?_ | refine condX0 ?_ | refine condX1 ?_ | refine condNot ?_ | refine condAnd ?_ | refine condOr ?_ | refine aO ?_ | refine aB ?_ | refine aR ?_ | refine aR ?_ (by simp; omega) | refine xr (by assumption) ?_ | refine ai (by assumption) ?_ | refine kV (large_gives21 a hb) ?_ | refine kV (awake36_gives) ?_ | refine kV (h1) ?_ | refine kV (h2) ?_ | refine condD (fun h => ?_) (fun h => ?_) | refine condB (fun h => ?_) (fun h => ?_) | refine condN (fun h => ?_) (fun h => ?_) | refine condE (fun h => ?_) (fun h => ?_) | refine condV (fun h => ?_) (fun h => ?_))
      all_goals try ((first | refine ev_fin (And.intro (by first | rfl | (simp [AV.pure, pureL]; done) | fail) ?_) | refine ev_fin0 (And.intro (by first | rfl | (simp [AV.pure, pureL]; done) | fail) ?_)); first | rfl | (simp [Bool.cond_eq_ite, *]; done) | (simp [Bool.cond_eq_ite, *]; omega))
    · rw [e1] at h1 h2
      refine gives_code (F := f62) rfl rfl (W_ok 300 _ _ _ _ ?_)
      repeat' ((conv => whnf); first | refine bslP (by first | rfl | (simp [pureL, pureLL, AV.pure]; done) | fail) rfl ?_ | refine TakeC.full (by first | rfl | omega | (simp; done) | (simp; omega) | fail) ?_ | refine zBs ?_ | refine zBn ?_ | refine zBv rfl rfl ?_ | refine zN ?_ | refine zC ?_ | refine zC4 ?_ | refine zOr16 ?_ | refine zC1 ?_ | refine zByte ?_ | refine zMaxL ?_ | refine zMaxR ?_ | refine zMinL ?_ | refine zMinR ?_ | refine zShr ?_ | refine zC8 ?_ | refine zQ ?_ | refine zR ?_ | refine zS ?_ | refine zA ?_ | refine zM ?_ | refine xr rfl ?_ | refine ai rfl ?_ | refine condT ?_ | refine condF ?_ | refine condG1 ?_ | refine condG0 ?_ | refine cD ?_ | refine dD ?_ | refine cB ?_ | refine dB ?_ | refine cN ?_ | refine dN ?_ | refine cV ?_ | refine dV ?_ | refine cE ?_ | refine dE ?_ | refine condX0 ?_ | refine condX1 ?_ | refine condNot ?_ | refine condAnd ?_ | refine condOr ?_ | refine aO ?_ | refine aB ?_ | refine aR ?_ | refine aR ?_ (by simp; omega) | refine xr (by assumption) ?_ | refine ai (by assumption) ?_ | refine kV (large_gives21 a hb) ?_ | refine kV (awake36_gives) ?_ | refine kN (h1) ?_ | refine kN (h2) ?_ | refine condD (fun h => ?_) (fun h => ?_) | refine condB (fun h => ?_) (fun h => ?_) | refine condN (fun h => ?_) (fun h => ?_) | refine condE (fun h => ?_) (fun h => ?_) | refine condV (fun h => ?_) (fun h => ?_))
      all_goals try ((first | refine ev_fin (And.intro (by first | rfl | (simp [AV.pure, pureL]; done) | fail) ?_) | refine ev_fin0 (And.intro (by first | rfl | (simp [AV.pure, pureL]; done) | fail) ?_)); first | rfl | (simp [Bool.cond_eq_ite, *]; done) | (simp [Bool.cond_eq_ite, *]; omega))
  · have hs2 : a.path.length > 0 ∨ a.hasAggr = true := by
      by_cases hg : a.hasAggr = true
      · exact .inr hg
      · have hg : a.hasAggr = false := by simpa using hg
        refine .inl ?_
        cases hp : a.path with
        | nil => exact absurd ⟨hp, hg⟩ hs
        | cons => simp
    refine gives_code (F := f62) rfl rfl (W_ok 300 _ _ _ _ ?_)
    repeat' ((conv => whnf); first | refine bslP (by first | rfl | (simp [pureL, pureLL, AV.pure]; done) | fail) rfl ?_ | refine TakeC.full (by first | rfl | omega | (simp; done) | (simp; omega) | fail) ?_ | refine zBs ?_ | refine zBn ?_ | refine zBv rfl rfl ?_ | refine zN ?_ | refine zC ?_ | refine zC4 ?_ | refine zOr16 ?_ | refine zC1 ?_ | refine zByte ?_ | refine zMaxL ?_ | refine zMaxR ?_ | refine zMinL ?_ | refine zMinR ?_ | refine zShr ?_ | refine zC8 ?_ | refine zQ ?_ | refine zR ?_ | refine zS ?_ | refine zA ?_ | refine zM ?_ | refine xr rfl ?_ | refine ai rfl ?_ | refine condT ?_ | refine condF ?_ | refine condG1 ?_ | refine condG0 ?_ | refine cD ?_ | refine dD ?_ | refine cB ?_ | refine dB ?_ | refine cN ?_ | refine dN ?_ | refine cV ?_ | refine dV ?_ | refine cE ?_ | refine dE ?_ | refine condX0 ?_ | refine condX1 ?_ | refine condNot ?_ | refine condAnd ?_ | refine condOr ?_ | refine aO ?_ | refine aB ?_ | refine aR ?_ | refine aR ?_ (by simp; omega) | refine xr (by assumption) ?_ | refine ai (by assumption) ?_ | refine kV (large_gives21 a hb) ?_ | refine kV (awake36_gives) ?_ | refine kN (hfg) ?_ | refine condD (fun h => ?_) (fun h => ?_) | refine condB (fun h => ?_) (fun h => ?_) | refine condN (fun h => ?_) (fun h => ?_) | refine condE (fun h => ?_) (fun h => ?_) | refine condV (fun h => ?_) (fun h => ?_))
    all_goals try ((first | refine ev_fin (And.intro (by first | rfl | (simp [AV.pure, pureL]; done) | fail) ?_) | refine ev_fin0 (And.intro (by first | rfl | (simp [AV.pure, pureL]; done) | fail) ?_)); first | rfl | (simp [Bool.cond_eq_ite, *]; done) | (simp [Bool.cond_eq_ite, *]; omega))
    all_goals try (exfalso; rcases hs2 with q | q <;> first | omega | (simp_all; done) | fail)
    all_goals
      refine ev_frz [(91, _, .vec 1 ((flatS a.path).map encI))] [(27, .sl 1 ((flatS a.path).map encI)), (28, .int .i64 ((flatS a.path).length : Nat)), (29, .int .i64 0), (1, .ref 65 1 0)] [(65, some (1, .cells a.enc))] ⟨rfl, (by simp [Blk.pure, pureLL, pureL, AV.pure]), trivial⟩ ⟨(by show AV.ren _ (.vs 91 _ _) = _; simp [AV.ren, φF]; exact List.take_of_length_le (by simp)), rfl, rfl, rfl, trivial⟩ ?_ (fun T H => ?_)
      · refine ⟨?_, trivial⟩
        show some (1, Blk.cells a.enc) = some (1, Blk.ren _ (Blk.cells a.enc))
        rw [Blk.ren_pure (by simp [Blk.pure])]
      · exact wide_loop62 (flatS a.path) a hb hfl ha rfl (by omega) _ rfl (flatS a.path) [] _ _ _ 0 rfl rfl (by simp)
theorem law62_all (ass : List (List AV)) (h : ArgsT [tAttrs] ass) (hb : bkLL ass ≤ 1048576) : Gives G 62 (argsA [tAttrs] ass) [] ⟨.bool true, []⟩ := by
  obtain ⟨x, s1, rfl, h1, h⟩ := argsT_cons h
  obtain rfl := argsT_nil h
  obtain ⟨a, rfl, ha⟩ := T_attrs h1
  simp only [bkLL] at hb
  have hab := ab_of a (by omega)
  refine law62_gives a hab ?_ ha
  have h2 := bkLL_map_le Seg.enc (fun s => s.as.length) (fun s => by have := seg_bk s; omega) a.path
  rw [← flat_len] at h2
  have : bkLL (a.path.map Seg.enc) ≤ bkL a.enc := by simp only [Attrs.enc, bkL, AV.bk]; omega
  omega
end Go.AM.IR
