/- What the functions of this program give, on the abstract machine. -/
import Derived.Test.YtcieamgbfameoaaDoorDataB
import Derived.Test.YtcieamgbfameoaaDoorDataA
import Derived.KernelRfl
set_option linter.unusedVariables false
set_option linter.unusedSimpArgs false
set_option maxHeartbeats 4000000
set_option maxRecDepth 20000
namespace Go.AM.IR
attribute [local simp] pureLL_bytes
def capBad (c : Cap) : Bool := decide ((c.code = 2 ∧ ¬ (c.value.length : Int) = 0) ∨ (c.code = 64 ∧ ¬ (c.value.length : Int) = 2) ∨ (c.code = 65 ∧ ¬ (c.value.length : Int) = 4))
def capsE (as : Int) : Option Int → Int → Bool → List Cap → Int
  | _, n, w, [] => if n > 253 then 4 else if as > 65535 ∧ w = false then 22 else 0
  | p, n, w, c :: r =>
    if c.code < 1 ∨ c.code > 255 then 5
    else if p.any (fun q => decide (c.code ≤ q)) then 16
    else if capBad c then 1
    else if c.code = 65 ∧ c.value ≠ be 4 (u64 as) then 14
    else capsE as (some c.code) (n + (2 + c.value.length)) (if c.code = 65 then true else w) r
def capT : List Cap → Int
  | [] => 0
  | c :: r => (2 + c.value.length) + capT r
theorem capT_nonneg : ∀ l, 0 ≤ capT l
  | [] => by simp [capT]
  | c :: r => by have := capT_nonneg r; simp only [capT]; omega
theorem caps_loop170 (l : List Cap) (m : PMsg) (hl1 : m.caps = l) (hl : l.length < 2 ^ 40) (ln : Int) (hln : ln = l.length) : ∀ (rest done : List Cap) (p : Option Int) (k : Int) (w : Bool) (T : List (Nat × AV)) (H : Heap) (c : Nat) (n : Int) (e : l = done ++ rest) (hn : n = done.length) (hp : p = done.getLast?.map Cap.code) (hk : 0 ≤ k) (hk2 : k + capT rest < 2 ^ 50), Ev G ⟨f170x24LH, ⟨(9, .sl 2 (l.map Cap.enc)) :: (10, .int .i64 ln) :: (11, .int .i64 n) :: (3, .int .i64 k) :: (1, .ref 65 1 0) :: (4, .bool w) :: T, (65, some (1, .cells m.enc)) :: H, c⟩, [.t 2], 0⟩ (⟨.int .i64 (capsE m.as p k w rest), []⟩)
  | [], done, p, k, w, T, H, c, n, e, hn, hp, hk, hk2 => by
    have hd : l.length = done.length := by simp [e]
    have hll : (l.map Cap.enc).length = l.length := by simp
    refine ev_loop' (W_ok 300 _ _ _ _ ?_)
    repeat' (first | refine stpA ?_ | (refine condS ?_ ?_ <;> intro h))
    all_goals try ((first | refine fin1 ?_ | refine fin0 ?_); first | rfl | (simp [capsE, Bool.cond_eq_ite, *]; done) | (simp [capsE, Bool.cond_eq_ite, *]; omega) | (unfold capsE; repeat' split; all_goals first | rfl | (exfalso; omega) | (simp_all; done) | (simp_all; omega)))
  | x :: r, done, p, k, w, T, H, c, n, e, hn, hp, hk, hk2 => by
    have hd : l.length = done.length + (r.length + 1) := by simp [e]
    have hll : (l.map Cap.enc).length = l.length := by simp
    have hx : (l.map Cap.enc)[n.toNat]? = some (Cap.enc x) := by simp [e, hn]
    have hbl := byteCells_length x.value
    have hct : capT (x :: r) = (2 + x.value.length) + capT r := rfl
    have hcr := capT_nonneg r
    rcases List.eq_nil_or_concat done with hd0 | ⟨d, q, hd1⟩
    · have hn' : n = 0 := by rw [hn, hd0]; rfl
      obtain rfl : p = none := by rw [hp, hd0]; rfl
      clear hp
      refine ev_loop' (W_ok 300 _ _ _ _ ?_)
      repeat' ((conv => whnf); first | refine zCU ?_ | refine bslP (by first | rfl | (simp [pureL, pureLL, AV.pure]; done) | fail) rfl ?_ | refine TakeC.full (by first | rfl | omega | (simp; done) | (simp; omega) | fail) ?_ | refine zBs ?_ | refine zBn ?_ | refine zBv rfl rfl ?_ | refine zN ?_ | refine zC ?_ | refine zC4 ?_ | refine zOr16 ?_ | refine zC1 ?_ | refine zByte ?_ | refine zMaxL ?_ | refine zMaxR ?_ | refine zMinL ?_ | refine zMinR ?_ | refine zShr ?_ | refine zC8 ?_ | refine zQ ?_ | refine zR ?_ | refine zS ?_ | refine zA ?_ | refine zM ?_ | refine xr rfl ?_ | refine ai rfl ?_ | refine condT ?_ | refine condF ?_ | refine condG1 ?_ | refine condG0 ?_ | refine cD ?_ | refine dD ?_ | refine cB ?_ | refine dB ?_ | refine cN ?_ | refine dN ?_ | refine cV ?_ | refine dV ?_ | refine cE ?_ | refine dE ?_ | refine condX0 ?_ | refine condX1 ?_ | refine condNot ?_ | refine condAnd ?_ | refine condOr ?_ | refine aO ?_ | refine aB ?_ | refine aR ?_ | refine aR ?_ (by simp; omega) | refine xr (by assumption) ?_ | refine ai (by assumption) ?_ | refine kN (put0_gives109 4 (u64 m.as) (by omega)) ?_ | refine kV (by assumption) ?_ | refine kN (by assumption) ?_ | refine callW (by assumption) ?_ | refine condD (fun h => ?_) (fun h => ?_) | refine condB (fun h => ?_) (fun h => ?_) | refine condN (fun h => ?_) (fun h => ?_) | refine condE (fun h => ?_) (fun h => ?_) | refine condV (fun h => ?_) (fun h => ?_))
      clear hd hd0
      all_goals (try simp only [hbl] at *)
      all_goals try ((first | refine fin1 ?_ | refine fin0 ?_); first | rfl | (simp [capsE, capBad, Bool.cond_eq_ite, *]; done) | (simp [capsE, capBad, Bool.cond_eq_ite, *]; omega) | (unfold capsE capBad; repeat' split; all_goals first | rfl | (exfalso; omega) | (simp_all; done) | (simp_all; omega)))
      all_goals first
       | (rw [show capsE m.as none k w (x :: r) = capsE m.as (some x.code) (k + (2 + x.value.length)) w r from by first | (simp [capsE, capBad, *]; done) | (simp [capsE, capBad, *]; omega)]
          refine ev_keep [9, 10, 11, 3, 1, 4] [65] ?_; exact caps_loop170 l m hl1 hl ln hln r (done ++ [x]) (some x.code) (k + (2 + x.value.length)) w _ _ _ (n + 1) (by simp [e]) (by simp [hn] <;> omega) (by simp) (by omega) (by omega)
          )
       | (rw [show capsE m.as none k w (x :: r) = capsE m.as (some x.code) (k + (2 + x.value.length)) true r from by first | (simp [capsE, capBad, *]; done) | (simp [capsE, capBad, *]; omega)]
          refine ev_keep [9, 10, 11, 3, 1, 4] [65] ?_; exact caps_loop170 l m hl1 hl ln hln r (done ++ [x]) (some x.code) (k + (2 + x.value.length)) true _ _ _ (n + 1) (by simp [e]) (by simp [hn] <;> omega) (by simp) (by omega) (by omega)
          )
    · have hn' : n - 1 = d.length := by rw [hn, hd1]; simp
      have hn2 : n > 0 := by omega
      obtain rfl : p = some q.code := by rw [hp, hd1]; simp
      clear hp
      have hml : (m.caps.map Cap.enc).length = l.length := by rw [hl1]; simp
      have hy : (m.caps.map Cap.enc)[(n - 1).toNat]? = some (Cap.enc q) := by rw [hl1, e, hd1, hn']; simp
      have hb : (n - 1).toNat < (m.caps.map Cap.enc).length := by rw [hml, hd, hd1]; simp; omega
      refine ev_loop' (W_ok 300 _ _ _ _ ?_)
      repeat' ((conv => whnf); first | refine zCU ?_ | refine bslP (by first | rfl | (simp [pureL, pureLL, AV.pure]; done) | fail) rfl ?_ | refine TakeC.full (by first | rfl | omega | (simp; done) | (simp; omega) | fail) ?_ | refine zBs ?_ | refine zBn ?_ | refine zBv rfl rfl ?_ | refine zN ?_ | refine zC ?_ | refine zC4 ?_ | refine zOr16 ?_ | refine zC1 ?_ | refine zByte ?_ | refine zMaxL ?_ | refine zMaxR ?_ | refine zMinL ?_ | refine zMinR ?_ | refine zShr ?_ | refine zC8 ?_ | refine zQ ?_ | refine zR ?_ | refine zS ?_ | refine zA ?_ | refine zM ?_ | refine xr rfl ?_ | refine ai rfl ?_ | refine condT ?_ | refine condF ?_ | refine condG1 ?_ | refine condG0 ?_ | refine cD ?_ | refine dD ?_ | refine cB ?_ | refine dB ?_ | refine cN ?_ | refine dN ?_ | refine cV ?_ | refine dV ?_ | refine cE ?_ | refine dE ?_ | refine condX0 ?_ | refine condX1 ?_ | refine condNot ?_ | refine condAnd ?_ | refine condOr ?_ | refine aO ?_ | refine aB ?_ | refine aR ?_ | refine aR ?_ (by simp; omega) | refine xr (by assumption) ?_ | refine ai (by assumption) ?_ | refine kN (put0_gives109 4 (u64 m.as) (by omega)) ?_ | refine kV (by assumption) ?_ | refine kN (by assumption) ?_ | refine callW (by assumption) ?_ | refine condD (fun h => ?_) (fun h => ?_) | refine condB (fun h => ?_) (fun h => ?_) | refine condN (fun h => ?_) (fun h => ?_) | refine condE (fun h => ?_) (fun h => ?_) | refine condV (fun h => ?_) (fun h => ?_))
      clear hd hd1
      all_goals (try simp only [hbl] at *)
      all_goals try ((first | refine fin1 ?_ | refine fin0 ?_); first | rfl | (simp [capsE, capBad, Bool.cond_eq_ite, *]; done) | (simp [capsE, capBad, Bool.cond_eq_ite, *]; omega) | (unfold capsE capBad; repeat' split; all_goals first | rfl | (exfalso; omega) | (simp_all; done) | (simp_all; omega)))
      all_goals first
       | (rw [show capsE m.as (some q.code) k w (x :: r) = capsE m.as (some x.code) (k + (2 + x.value.length)) w r from by first | (simp [capsE, capBad, *]; done) | (simp [capsE, capBad, *]; omega)]
          refine ev_keep [9, 10, 11, 3, 1, 4] [65] ?_; exact caps_loop170 l m hl1 hl ln hln r (done ++ [x]) (some x.code) (k + (2 + x.value.length)) w _ _ _ (n + 1) (by simp [e]) (by simp [hn] <;> omega) (by simp) (by omega) (by omega)
          )
       | (rw [show capsE m.as (some q.code) k w (x :: r) = capsE m.as (some x.code) (k + (2 + x.value.length)) true r from by first | (simp [capsE, capBad, *]; done) | (simp [capsE, capBad, *]; omega)]
          refine ev_keep [9, 10, 11, 3, 1, 4] [65] ?_; exact caps_loop170 l m hl1 hl ln hln r (done ++ [x]) (some x.code) (k + (2 + x.value.length)) true _ _ _ (n + 1) (by simp [e]) (by simp [hn] <;> omega) (by simp) (by omega) (by omega)
          )
end Go.AM.IR
namespace Go.AM.IR
end Go.AM.IR
set_option maxHeartbeats 4000000
set_option maxRecDepth 20000
namespace Go.AM.IR
theorem sizeS_le {a : Attrs} (h : AB a) : LenB a where
  path := h.path
  segs s hs := by
    have h1 := h.flat
    have h2 : s.as.length ≤ (flatS a.path).length := by
      unfold flatS
      obtain ⟨p, q, e⟩ := List.append_of_mem hs
      rw [e]; simp; omega
    omega
  comms := h.comms
  clusters := h.clusters
  unknown := h.unknown
  vals := h.vals
end Go.AM.IR
namespace Go.AM.IR
set_option maxHeartbeats 2000000
theorem bkLL_map_le {α : Type} (f : α → List AV) (g : α → Nat) (h : ∀ x, g x ≤ bkL (f x)) : ∀ l : List α, (l.map g).sum ≤ bkLL (l.map f)
  | [] => by simp
  | x :: r => by
    have := bkLL_map_le f g h r
    have := h x
    simp only [List.map_cons, List.sum_cons, bkLL]
    omega
theorem sum_one {α : Type} : ∀ l : List α, (l.map fun _ => 1).sum = l.length
  | [] => rfl
  | x :: r => by simp only [List.map_cons, List.sum_cons, List.length_cons, sum_one r]; omega
theorem len_bk {α : Type} (f : α → List AV) (h : ∀ x, 1 ≤ bkL (f x)) (l : List α) : l.length ≤ bkLL (l.map f) := by
  have := bkLL_map_le f (fun _ => 1) h l
  rwa [sum_one] at this
theorem mem_bk {α : Type} (f : α → List AV) : ∀ (l : List α) (x : α), x ∈ l → bkL (f x) ≤ bkLL (l.map f)
  | y :: r, x, h => by
    simp only [List.map_cons, bkLL]
    rcases List.mem_cons.1 h with rfl | h
    · omega
    · have := mem_bk f r x h; omega
theorem bk_bytes (l : List UInt8) : l.length ≤ bkLL (byteCells l) := len_bk (f := fun b : UInt8 => [AV.int .u8 (b.toNat : Int)]) (fun _ => by simp [bkL, AV.bk]) l
theorem seg_bk (s : Seg) : s.as.length + 1 ≤ bkL s.enc := by
  have := len_bk encI (fun _ => by simp [encI, bkL, AV.bk]) s.as
  simp only [Seg.enc, bkL, AV.bk]; omega
theorem tlv_bk (s : TLV) : s.value.length + 1 ≤ bkL s.enc := by
  have := bk_bytes s.value
  simp only [TLV.enc, bkL, AV.bk]; omega
theorem flat_len : ∀ l : List Seg, (flatS l).length = (l.map fun s => s.as.length).sum
  | [] => rfl
  | s :: r => by
    have := flat_len r
    simp only [flatS, List.flatMap_cons, List.length_append, List.map_cons, List.sum_cons] at this ⊢
    omega
theorem unk_le : ∀ l : List TLV, unkS l ≤ ((l.map fun t => t.value.length).sum : Nat)
  | [] => by simp [unkS]
  | t :: r => by
    have := unk_le r
    simp only [unkS, List.map_cons, List.sum_cons] at this ⊢
    omega
theorem ab_of (a : Attrs) (h : bkL a.enc ≤ 1048576) : AB a := by
  simp only [Attrs.enc, bkL, AV.bk] at h
  have h1 := len_bk Seg.enc (fun s => by have := seg_bk s; omega) a.path
  have h2 := bkLL_map_le Seg.enc (fun s => s.as.length) (fun s => by have := seg_bk s; omega) a.path
  have h3 := len_bk encU (fun _ => by simp [encU, bkL, AV.bk]) a.comms
  have h4 := len_bk encU (fun _ => by simp [encU, bkL, AV.bk]) a.clusters
  have h5 := len_bk TLV.enc (fun s => by have := tlv_bk s; omega) a.unknown
  have h6 := bkLL_map_le TLV.enc (fun t => t.value.length) (fun s => by have := tlv_bk s; omega) a.unknown
  have h7 := unk_le a.unknown
  rw [← flat_len] at h2
  generalize bkLL (a.path.map Seg.enc) = z1 at *
  generalize bkLL (a.comms.map encU) = z2 at *
  generalize bkLL (a.clusters.map encU) = z3 at *
  refine ⟨by omega, by omega, by omega, by omega, by omega, fun t ht => ?_, by omega⟩
  have := mem_bk TLV.enc a.unknown t ht
  have := tlv_bk t
  omega
end Go.AM.IR
set_option maxHeartbeats 4000000
set_option maxRecDepth 20000
namespace Go.AM.IR
attribute [local simp] pureLL_bytes
structure LenO (m : PMsg) : Prop where
  len : LenM m
  capT : capT m.caps < 2 ^ 50
structure AM (m : PMsg) : Prop where
  attrs : AB m.attrs
  caps : m.caps.length < 2 ^ 40
  withdrawn : m.withdrawn.length < 2 ^ 40
  reach : m.reach.length < 2 ^ 40
  data : m.data.length < 2 ^ 40
  capT : capT m.caps < 2 ^ 50
theorem cap_bk (c : Cap) : c.value.length + 1 ≤ bkL c.enc := by
  have := bk_bytes c.value
  simp only [Cap.enc, bkL, AV.bk]; omega
theorem capT_bk : ∀ l : List Cap, capT l ≤ 2 * l.length + ((l.map fun t => t.value.length).sum : Nat)
  | [] => by simp [capT]
  | c :: r => by
    have := capT_bk r
    simp only [capT, List.map_cons, List.sum_cons, List.length_cons] at this ⊢
    omega
theorem cap1 (s : Cap) : 1 ≤ bkL s.enc := by have := cap_bk s; omega
theorem cap2 (s : Cap) : s.value.length ≤ bkL s.enc := by have := cap_bk s; omega
theorem pfx1 (s : Pfx) : 1 ≤ bkL s.enc := by simp [Pfx.enc, bkL, AV.bk]
theorem am_of (m : PMsg) (h : bkL m.enc ≤ 1048576) : AM m := by
  have h0 : bkL m.attrs.enc ≤ bkL m.enc := by simp only [PMsg.enc, Attrs.enc, bkL, AV.bk]; omega
  have ha := ab_of m.attrs (Nat.le_trans h0 h)
  have h1 := len_bk Cap.enc cap1 m.caps
  have h2 := bkLL_map_le Cap.enc (fun t => t.value.length) cap2 m.caps
  have h3 := len_bk Pfx.enc pfx1 m.withdrawn
  have h4 := len_bk Pfx.enc pfx1 m.reach
  have h5 := bk_bytes m.data
  have h6 := capT_bk m.caps
  clear h0
  simp only [PMsg.enc, bkL, AV.bk] at h
  generalize bkLL (m.caps.map Cap.enc) = z1 at *
  generalize bkLL (m.withdrawn.map Pfx.enc) = z2 at *
  generalize bkLL (m.reach.map Pfx.enc) = z3 at *
  generalize bkLL (byteCells m.data) = z4 at *
  generalize bkLL (m.attrs.path.map Seg.enc) = z5 at *
  generalize bkLL (m.attrs.comms.map encU) = z6 at *
  generalize bkLL (m.attrs.clusters.map encU) = z7 at *
  generalize bkLL (m.attrs.unknown.map TLV.enc) = z8 at *
  generalize (m.caps.map fun t => t.value.length).sum = z9 at *
  exact ⟨ha, by omega, by omega, by omega, by omega, by omega⟩
theorem AM.lenO {m : PMsg} (h : AM m) : LenO m := by
  have := sizeS_le h.attrs
  exact ⟨⟨h.caps, h.withdrawn, h.reach, ⟨this.path, this.segs, this.comms, this.clusters, this.unknown⟩⟩, h.capT⟩
def largeM (m : PMsg) : Bool := decide (sizeS m.attrs > 3000 ∨ m.withdrawn.length > 30000 ∨ m.reach.length > 30000 ∨ m.caps.length > 400 ∨ m.data.length > 70000)
theorem large_gives130 (m : PMsg) (h : AM m) : Gives G 130 [.agg m.enc] [] ⟨.bool (largeM m), []⟩ := by
  have h1 := large_gives21 m.attrs h.attrs
  have l1 : (m.caps.map Cap.enc).length = m.caps.length := by simp
  have l2 : (m.withdrawn.map Pfx.enc).length = m.withdrawn.length := by simp
  have l3 : (m.reach.map Pfx.enc).length = m.reach.length := by simp
  have l4 := byteCells_length m.data
  refine gives_code (F := f130) rfl rfl (W_ok 300 _ _ _ _ ?_)
  repeat' (first | refine stpA ?_ | (refine condS ?_ ?_ <;> intro h))
  all_goals (try simp only [l1, l2, l3, l4] at *)
  all_goals (try (first | refine fin1 ?_ | refine fin0 ?_))
  all_goals (refine rBl ?_; rw [largeM, Bool.eq_iff_iff]; simp only [decide_eq_true_eq, true_iff, false_iff, Bool.false_eq_true, Bool.true_eq_false]; omega)
end Go.AM.IR
set_option maxHeartbeats 4000000
set_option maxRecDepth 20000
namespace Go.AM.IR
attribute [local simp] pureLL_bytes
def lzA : AV := .agg [.int .i64 0, nilV, .int .u32 0, .bool false, .int .i64 0, .bool false, .int .i64 0, .bool false, .bool false, .int .i64 0, .int .u32 0, nilV, .bool false, .int .u32 0, nilV, nilV]
theorem lenC_zero : LenC zeroA := lenM_zero.attrs
end Go.AM.IR
set_option maxHeartbeats 4000000
set_option maxRecDepth 20000
namespace Go.AM.IR
attribute [local simp] pureLL_bytes
theorem comF_nil : ∀ (N : Nat) (a : List Pfx), comF N a [] = false
  | 0, _ => rfl
  | _ + 1, [] => rfl
  | _ + 1, _ :: _ => rfl
def tailU (m : PMsg) : Int := if m.reach.length > 0 then checkS m.attrs else if m.attrs = zeroA then 0 else 1
theorem sameZ_gives72 (a : Attrs) (ha : LenC a) : Gives G 72 [.agg a.enc, lzA] [] ⟨.bool (decide (a = zeroA)), []⟩ :=
  gives_le rfl (same_gives72 a zeroA ha lenC_zero) ⟨.refl _, LeP.agg (by repeat' (first | exact trivial | exact LeP.refl _ | exact LeP.nil _ | refine LeP.sl ?_ | refine ⟨?_, ?_⟩)), trivial⟩
def InnP (m : PMsg) (N : Nat) : Prop := ∀ (p : Pfx) (rw dw rs ds : List Pfx) (g : Nat) (T : List (Nat × AV)) (H : Heap) (c : Nat) (i k : Int) (e1 : m.withdrawn = dw ++ p :: rw) (e2 : m.reach = ds ++ rs) (hi : i = dw.length) (hk : k = ds.length) (hN : (p :: rw).length + rs.length < N),
   Ev G ⟨f159x13LH, ⟨(5, .int .i64 k) :: (1, .ref 65 1 0) :: (21, .sl 2 (m.withdrawn.map Pfx.enc)) :: (22, .int .i64 m.withdrawn.length) :: (23, .int .i64 i) :: (7, .ref 71 g 0) :: T, (65, some (1, .cells m.enc)) :: (71, some (g, .cells p.enc)) :: H, c⟩, [.t 2], 0⟩ (⟨.int .i64 (if comF N (p :: rw) rs = true then 7 else tailU m), []⟩)
def OutP (m : PMsg) (N : Nat) : Prop := ∀ (rw dw rs ds : List Pfx) (T : List (Nat × AV)) (H : Heap) (c : Nat) (i k : Int) (e1 : m.withdrawn = dw ++ rw) (e2 : m.reach = ds ++ rs) (hi : i = dw.length) (hk : k = ds.length) (hN : rw.length + rs.length < N),
   Ev G ⟨f159x17LH, ⟨(5, .int .i64 k) :: (23, .int .i64 i) :: (1, .ref 65 1 0) :: (21, .sl 2 (m.withdrawn.map Pfx.enc)) :: (22, .int .i64 m.withdrawn.length) :: T, (65, some (1, .cells m.enc)) :: H, c⟩, [.t 2], 0⟩ (⟨.int .i64 (if comF N rw rs = true then 7 else tailU m), []⟩)
theorem inn_step (m : PMsg) (hm : LenM m) (N : Nat) (ih1 : InnP m N) (ih2 : OutP m N) : InnP m (N + 1) := by
  intro p rw dw rs ds g T H c i k e1 e2 hi hk hN
  have hw := hm.withdrawn; have hr := hm.reach
  have hl1 : (m.withdrawn.map Pfx.enc).length = m.withdrawn.length := by simp
  have hl2 : (m.reach.map Pfx.enc).length = m.reach.length := by simp
  have hd1 : m.withdrawn.length = dw.length + (rw.length + 1) := by simp [e1]
  simp only [List.length_cons] at hN
  cases rs with
  | nil =>
    have hd2 : m.reach.length = ds.length := by simp [e2]
    rw [comF_nil]
    refine ev_loop' (W_ok 300 _ _ _ _ ?_)
    repeat' (first | refine stpA ?_ | (refine condS ?_ ?_ <;> intro h))
    refine ev_keep [5, 23, 1, 21, 22] [65] ?_
    have := ih2 rw (dw ++ [p]) [] ds
    rw [comF_nil] at this
    exact this _ _ _ (i + 1) k (by simp [e1]) e2 (by simp [hi]) hk (by simp only [List.length_nil] at hN ⊢; omega)
  | cons y rs =>
    have hd2 : m.reach.length = ds.length + (rs.length + 1) := by simp [e2]
    have hy : (m.reach.map Pfx.enc)[k.toNat]? = some y.enc := by simp [e2, hk]
    have hc := cmp_gives172 y p
    have hz := cmpP_zero p y
    have hsw := cmpP_swap p y
    have hee : (y = p) ↔ (y.addr = p.addr ∧ y.len = p.len) := by cases p; cases y; simp
    simp only [List.length_cons] at hN
    by_cases h0 : cmpP p y = 0
    · rw [show comF (N + 1) (p :: rw) (y :: rs) = true from by simp [comF, h0]]
      have hyp : y = p := (hz.1 h0).symm
      obtain ⟨q1, q2⟩ := hee.1 hyp
      generalize cmpP p y = cv at *
      generalize cmpP y p = cw at *
      refine ev_loop' (W_ok 300 _ _ _ _ ?_)
      repeat' (first | refine stpA ?_ | (refine condS ?_ ?_ <;> intro h))
      (first | refine fin1 ?_ | refine fin0 ?_); rfl
    · by_cases h1 : cmpP p y < 0
      · rw [show comF (N + 1) (p :: rw) (y :: rs) = comF N rw (y :: rs) from by simp [comF, h0, h1]]
        have hne : ¬ (y.addr = p.addr ∧ y.len = p.len) := fun h => h0 (hz.2 (hee.2 h).symm)
        generalize cmpP p y = cv at *
        generalize cmpP y p = cw at *
        refine ev_loop' (W_ok 300 _ _ _ _ ?_)
        repeat' (first | refine stpA ?_ | (refine condS ?_ ?_ <;> intro h))
        all_goals first
          | (exfalso; exact hne ⟨by assumption, by assumption⟩)
          | (refine ev_keep [5, 23, 1, 21, 22] [65] ?_; exact ih2 rw (dw ++ [p]) (y :: rs) ds _ _ _ (i + 1) k (by simp [e1]) e2 (by simp [hi]) hk (by simp only [List.length_cons]; omega))
      · rw [show comF (N + 1) (p :: rw) (y :: rs) = comF N (p :: rw) rs from by simp [comF, h0, h1]]
        generalize cmpP p y = cv at *
        generalize cmpP y p = cw at *
        refine ev_loop' (W_ok 300 _ _ _ _ ?_)
        repeat' (first | refine stpA ?_ | (refine condS ?_ ?_ <;> intro h))
        refine ev_keep [5, 1, 21, 22, 23, 7] [65, 71] ?_
        exact ih1 p rw dw rs (ds ++ [y]) g _ _ _ i (k + 1) e1 (by simp [e2]) hi (by simp [hk]) (by simp only [List.length_cons]; omega)
theorem out_step (m : PMsg) (hm : LenM m) (hb : LenB m.attrs) (N : Nat) (ih : InnP m (N + 1)) : OutP m (N + 1) := by
  intro rw dw rs ds T H c i k e1 e2 hi hk hN
  have hw := hm.withdrawn; have hr := hm.reach
  have hl1 : (m.withdrawn.map Pfx.enc).length = m.withdrawn.length := by simp
  have hl2 : (m.reach.map Pfx.enc).length = m.reach.length := by simp
  cases rw with
  | nil =>
    have hd1 : m.withdrawn.length = dw.length := by simp [e1]
    rw [show comF (N + 1) [] rs = false from rfl]
    have ck := check_gives65 m.attrs hb
    have sz := sameZ_gives72 m.attrs hm.attrs
    unfold lzA nilV at sz
    by_cases h0 : m.reach.length > 0
    · have h1 : ((m.reach.map Pfx.enc).length : Int) > 0 := by rw [hl2]; omega
      refine ev_loop' (W_ok 300 _ _ _ _ ?_)
      repeat' (first | refine stpA ?_ | (refine condS ?_ ?_ <;> intro h))
      (first | refine fin1 ?_ | refine fin0 ?_); simp [tailU, h0]
    · have h1 : ¬ ((m.reach.map Pfx.enc).length : Int) > 0 := by rw [hl2]; omega
      by_cases h2 : m.attrs = zeroA
      · rw [show decide (m.attrs = zeroA) = true from by simp [h2]] at sz
        refine ev_loop' (W_ok 300 _ _ _ _ ?_)
        repeat' (first | refine stpA ?_ | (refine condS ?_ ?_ <;> intro h))
        (first | refine fin1 ?_ | refine fin0 ?_); simp [tailU, h0, h2]
      · rw [show decide (m.attrs = zeroA) = false from by simp [h2]] at sz
        refine ev_loop' (W_ok 300 _ _ _ _ ?_)
        repeat' (first | refine stpA ?_ | (refine condS ?_ ?_ <;> intro h))
        (first | refine fin1 ?_ | refine fin0 ?_); simp [tailU, h0, h2]
  | cons p rw =>
    have hd1 : m.withdrawn.length = dw.length + (rw.length + 1) := by simp [e1]
    have hx : (m.withdrawn.map Pfx.enc)[i.toNat]? = some p.enc := by simp [e1, hi]
    refine ev_loop' (W_ok 300 _ _ _ _ ?_)
    repeat' (first | refine stpA ?_ | (refine condS ?_ ?_ <;> intro h))
    refine ev_keep [5, 1, 21, 22, 23, 7] [65, 71] ?_
    exact ih p rw dw rs ds _ _ _ _ i k e1 e2 hi hk hN
theorem upd_loops (m : PMsg) (hm : LenM m) (hb : LenB m.attrs) : ∀ N, InnP m N ∧ OutP m N
  | 0 => ⟨fun p rw dw rs ds g T H c i k e1 e2 hi hk hN => by omega, fun rw dw rs ds T H c i k e1 e2 hi hk hN => by omega⟩
  | N + 1 => by
    obtain ⟨h1, h2⟩ := upd_loops m hm hb N
    have h3 := inn_step m hm N h1 h2
    exact ⟨h3, out_step m hm hb N h3⟩
structure PMsg.okP (m : PMsg) : Prop where
  withdrawn : ∀ p ∈ m.withdrawn, p.ok
  reach : ∀ p ∈ m.reach, p.ok
def updE (m : PMsg) : Int :=
  if pfxE none m.withdrawn ≠ 0 then pfxE none m.withdrawn else if pfxE none m.reach ≠ 0 then pfxE none m.reach else if comS m.withdrawn m.reach = true then 7 else tailU m
theorem upd_gives159 (m : PMsg) (hm : LenM m) (hb : LenB m.attrs) (ho : m.okP) : Gives G 159 [.agg m.enc] [] ⟨.int .i64 (updE m), []⟩ := by
  have p1 := pfx_gives171 m.withdrawn hm.withdrawn ho.withdrawn
  have p2 := pfx_gives171 m.reach hm.reach ho.reach
  have hl1 : (m.withdrawn.map Pfx.enc).length = m.withdrawn.length := by simp
  by_cases h1 : pfxE none m.withdrawn = 0
  · by_cases h2 : pfxE none m.reach = 0
    · rw [h1] at p1; rw [h2] at p2
      have hl := (upd_loops m hm hb (m.withdrawn.length + m.reach.length + 1)).2 m.withdrawn [] m.reach []
      rw [show updE m = (if comF (m.withdrawn.length + m.reach.length + 1) m.withdrawn m.reach = true then 7 else tailU m) from by unfold updE comS; rw [if_neg (by simp [h1]), if_neg (by simp [h2])]]
      refine gives_code (F := f159) rfl rfl (W_ok 300 _ _ _ _ ?_)
      repeat' (first | refine stpA ?_ | (refine condS ?_ ?_ <;> intro h))
      refine ev_keep [5, 23, 1, 21, 22] [65] ?_
      rw [hl1]
      exact hl _ _ _ 0 0 rfl rfl rfl rfl (by omega)
    · rw [h1] at p1
      rw [show updE m = pfxE none m.reach from by simp [updE, h1, h2]]
      generalize pfxE none m.reach = v at *
      refine gives_code (F := f159) rfl rfl (W_ok 300 _ _ _ _ ?_)
      repeat' (first | refine stpA ?_ | (refine condS ?_ ?_ <;> intro h))
      (first | refine fin1 ?_ | refine fin0 ?_); rfl
  · rw [show updE m = pfxE none m.withdrawn from by simp [updE, h1]]
    generalize pfxE none m.withdrawn = v at *
    refine gives_code (F := f159) rfl rfl (W_ok 300 _ _ _ _ ?_)
    repeat' (first | refine stpA ?_ | (refine condS ?_ ?_ <;> intro h))
    (first | refine fin1 ?_ | refine fin0 ?_); rfl
end Go.AM.IR
set_option maxHeartbeats 4000000
set_option maxRecDepth 20000
namespace Go.AM.IR
attribute [local simp] pureLL_bytes
def sfy : Nat → ACode → ACode
  | 0, c => c
  | n + 1, .seq _ b => sfy n b
  | _, c => c
def unO (m : PMsg) : Bool := decide (m.version = 0 ∧ m.as = 0 ∧ m.hold = 0 ∧ m.router = 0 ∧ (m.caps.length : Int) = 0)
def unU (m : PMsg) : Bool := decide ((m.withdrawn.length : Int) = 0 ∧ (m.reach.length : Int) = 0 ∧ m.attrs = zeroA)
def unN (m : PMsg) : Bool := decide (m.code = 0 ∧ m.sub = 0 ∧ (m.data.length : Int) = 0)
def unusedS (m : PMsg) : Bool := (unO m || decide (m.kind = 1)) && (unU m || decide (m.kind = 2)) && (unN m || decide (m.kind = 3))
end Go.AM.IR
set_option maxHeartbeats 4000000
set_option maxRecDepth 20000
namespace Go.AM.IR
attribute [local simp] pureLL_bytes
theorem caps_gives170 (m : PMsg) (hm : m.caps.length < 2 ^ 40) (ht : capT m.caps < 2 ^ 50) : Gives G 170 [.agg m.enc] [] ⟨.int .i64 (capsE m.as none 0 false m.caps), []⟩ := by
  have l1 : (m.caps.map Cap.enc).length = m.caps.length := by simp
  refine gives_code (F := f170) rfl rfl (W_ok 300 _ _ _ _ ?_)
  repeat' (first | refine stpA ?_ | (refine condS ?_ ?_ <;> intro h))
  refine ev_keep [9, 10, 11, 3, 1, 4] [65] ?_
  rw [l1]
  exact caps_loop170 m.caps m rfl hm _ rfl m.caps [] none 0 false _ _ _ 0 rfl rfl rfl (by omega) (by omega)
end Go.AM.IR
set_option maxHeartbeats 4000000
set_option maxRecDepth 20000
namespace Go.AM.IR
end Go.AM.IR
