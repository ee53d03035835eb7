/- What the functions of this program give, on the abstract machine. -/
import Derived.Test.YtomphmeopjpejaaGreatDoorDataB
import Derived.Test.YtomphmeopjpejaaGreatDoorDataC
set_option linter.unusedVariables false
set_option linter.unusedSimpArgs false
set_option maxHeartbeats 4000000
set_option maxRecDepth 20000
namespace Go.AM.IR
theorem large_gives668 (s : PSet) (hs : sizeN s < 2 ^ 40) : Gives G 668 [.agg s.enc] [] ⟨.bool (decide (400 < sizeN s)), []⟩ := by
  have h := size_gives435 s hs
  generalize sizeN s = n at *
  refine gives_code (F := f668) rfl rfl (W_ok 300 _ _ _ _ ?_)
  repeat' (first | refine stpA ?_ | (refine condS ?_ ?_ <;> intro h))
  (first | refine fin1 ?_ | refine fin0 ?_)
  simp
  omega
theorem law667_gives (s t : PSet) (hs : s.fits) (ht : t.fits) (hz : sizeN s < 2 ^ 40) (hy : sizeN t < 2 ^ 40) : Gives G 667 [.agg s.enc, .agg t.enc] [] ⟨.bool true, []⟩ := by
  have l1 := large_gives668 s hz
  have l2 := large_gives668 t hy
  have h1 := same_gives670 s t hs ht
  have h2 := same_gives479 s t hs ht
  have h3 := same_gives670 s s hs hs
  rw [decide_eq_true rfl] at h3
  generalize decide (400 < sizeN s) = a at *
  generalize decide (400 < sizeN t) = b at *
  generalize decide (s = t) = c at *
  cases a
  · cases b
    · cases c
      · refine gives_code (F := f667) rfl rfl (W_ok 300 _ _ _ _ ?_)
        repeat' (first | refine stpA ?_ | refine kV (awake669_gives) ?_ | (refine condS ?_ ?_ <;> intro h))
        (first | refine fin1 ?_ | refine fin0 ?_); rfl
      · refine gives_code (F := f667) rfl rfl (W_ok 300 _ _ _ _ ?_)
        repeat' (first | refine stpA ?_ | refine kV (awake669_gives) ?_ | (refine condS ?_ ?_ <;> intro h))
        (first | refine fin1 ?_ | refine fin0 ?_); rfl
    · refine gives_code (F := f667) rfl rfl (W_ok 300 _ _ _ _ ?_)
      repeat' (first | refine stpA ?_ | refine kV (awake669_gives) ?_ | (refine condS ?_ ?_ <;> intro h))
      (first | refine fin1 ?_ | refine fin0 ?_); rfl
  · refine gives_code (F := f667) rfl rfl (W_ok 300 _ _ _ _ ?_)
    repeat' (first | refine stpA ?_ | refine kV (awake669_gives) ?_ | (refine condS ?_ ?_ <;> intro h))
    (first | refine fin1 ?_ | refine fin0 ?_); rfl
def onePol (p : Pol) : PSet := ⟨[], [], [], [p]⟩
theorem polF_fits {k : List UInt8} : ∀ {l : List Pol}, (∀ x ∈ l, x.fits) → (polO (polF l k)).fits
  | [], _ => ⟨by show 0 < _; omega, fun t h => by simp [polF, polO] at h⟩
  | x :: r, h => by
    rw [polF]
    split
    · exact h x (by simp)
    · exact polF_fits fun y hy => h y (by simp [hy])
theorem law666_gives (s : PSet) (k : List UInt8) (hs : s.fits) (hz : sizeN s < 2 ^ 40) : Gives G 666 [.agg s.enc, .str k] [] ⟨.bool true, []⟩ := by
  have l1 := large_gives668 s hz
  have h1 := find_gives566 s hs k
  have h2 := pol_gives506 s hs.d k
  have hf := polF_fits (k := k) hs.d1
  generalize polF s.pols k = o at *
  have h3 := same_gives479 (onePol (polO o)) (onePol (polO o)) ⟨by show 0 < _; omega, by show 0 < _; omega, by show 0 < _; omega, by show 1 < _; omega, by simp [onePol], by simp [onePol], by simp [onePol], by simp only [onePol, List.mem_singleton]; rintro x rfl; exact hf⟩ ⟨by show 0 < _; omega, by show 0 < _; omega, by show 0 < _; omega, by show 1 < _; omega, by simp [onePol], by simp [onePol], by simp [onePol], by simp only [onePol, List.mem_singleton]; rintro x rfl; exact hf⟩
  rw [decide_eq_true rfl] at h3
  have h4 : Gives G 479 [.agg [.con (.slice none 0 0), .con (.slice none 0 0), .con (.slice none 0 0), .sl 3 [(polO o).enc]], .agg [.con (.slice none 0 0), .con (.slice none 0 0), .con (.slice none 0 0), .sl 3 [(polO o).enc]]] [] ⟨.bool true, []⟩ := gives_le rfl h3 ⟨LeP.agg ⟨LeP.nil 2, LeP.nil 2, LeP.nil 2, .refl _, trivial⟩, LeP.agg ⟨LeP.nil 2, LeP.nil 2, LeP.nil 2, .refl _, trivial⟩, trivial⟩
  unfold polS at h1 h2
  generalize polO o = p at *
  generalize o.isSome = b at *
  generalize decide (400 < sizeN s) = a at *
  cases a
  · cases b
    · refine gives_code (F := f666) rfl rfl (W_ok 300 _ _ _ _ ?_)
      repeat' (first | refine stpA ?_ | refine kZ [(93, _, _), (96, _, _)] ⟨rfl, pz ⟨rfl, pz trivial⟩⟩ (h4) ?_ | refine kV (awake669_gives) ?_ | (refine condS ?_ ?_ <;> intro h))
      (first | refine fin1 ?_ | refine fin0 ?_); rfl
    · refine gives_code (F := f666) rfl rfl (W_ok 300 _ _ _ _ ?_)
      repeat' (first | refine stpA ?_ | refine kZ [(93, _, _), (96, _, _)] ⟨rfl, pz ⟨rfl, pz trivial⟩⟩ (h4) ?_ | refine kV (awake669_gives) ?_ | (refine condS ?_ ?_ <;> intro h))
      (first | refine fin1 ?_ | refine fin0 ?_); rfl
  · refine gives_code (F := f666) rfl rfl (W_ok 300 _ _ _ _ ?_)
    repeat' (first | refine stpA ?_ | refine kV (awake669_gives) ?_ | (refine condS ?_ ?_ <;> intro h))
    (first | refine fin1 ?_ | refine fin0 ?_); rfl
end Go.AM.IR
namespace Go.AM.IR
theorem bk_sum {α : Type} {f : α → Nat} {enc : α → List AV} (h : ∀ x, f x + 1 ≤ bkL (enc x)) : ∀ l : List α, l.length + sumN f l ≤ bkLL (l.map enc)
  | [] => by simp [sumN]
  | x :: r => by
    have := bk_sum h r
    have := h x
    rw [List.map_cons, bkLL, List.length_cons, sumN]; omega
theorem bk_len {α : Type} {enc : α → List AV} (h : ∀ x, 1 ≤ bkL (enc x)) (l : List α) : l.length ≤ bkLL (l.map enc) := by
  have := bk_sum (f := fun _ => 0) (enc := enc) (fun x => by have := h x; omega) l
  omega
theorem bk_Mat (x : Mat) : 0 + 1 ≤ bkL x.enc := by simp only [Mat.enc, bkL, AV.bk]; omega
theorem bk_Actn (x : Actn) : 0 + 1 ≤ bkL x.enc := by simp only [Actn.enc, bkL, AV.bk]; omega
theorem bk_Trm (x : Trm) : trmN x + 1 ≤ bkL x.enc := by
  have h1 := bk_len (fun x => by have := bk_Mat x; omega) x.mats
  have h2 := bk_len (fun x => by have := bk_Actn x; omega) x.acts
  simp only [Trm.enc, bkL, AV.bk, trmN]; omega
theorem bk_Pol (x : Pol) : polN x + 1 ≤ bkL x.enc := by
  have h1 := bk_sum bk_Trm x.terms
  simp only [Pol.enc, bkL, AV.bk, polN]; omega
theorem bk_RuleP (x : RuleP) : 1 ≤ bkL x.enc := by simp only [RuleP.enc, bkL, AV.bk]; omega
theorem bk_PathR (x : PathR) : 1 ≤ bkL x.enc := by simp only [PathR.enc, bkL, AV.bk]; omega
theorem bk_ComR (x : ComR) : 1 ≤ bkL x.enc := by simp only [ComR.enc, bkL, AV.bk]; omega
theorem bk_PList (x : PList) : x.rules.length + 1 ≤ bkL x.enc := by
  have h1 := bk_len bk_RuleP x.rules
  simp only [PList.enc, bkL, AV.bk]; omega
theorem bk_PathL (x : PathL) : x.rules.length + 1 ≤ bkL x.enc := by
  have h1 := bk_len bk_PathR x.rules
  simp only [PathL.enc, bkL, AV.bk]; omega
theorem bk_ComL (x : ComL) : x.rules.length + 1 ≤ bkL x.enc := by
  have h1 := bk_len bk_ComR x.rules
  simp only [ComL.enc, bkL, AV.bk]; omega
theorem bk_PSet (s : PSet) : sizeN s ≤ bkL s.enc := by
  have h1 := bk_sum bk_PList s.prefixes
  have h2 := bk_sum bk_PathL s.paths
  have h3 := bk_sum bk_ComL s.comms
  have h4 := bk_sum bk_Pol s.pols
  simp only [PSet.enc, bkL, AV.bk, sizeN]; omega
theorem sum_mem {α : Type} {f : α → Nat} {x : α} : ∀ {l : List α}, x ∈ l → f x ≤ sumN f l
  | y :: r, h => by
    rw [sumN]
    rcases List.mem_cons.1 h with rfl | h
    · omega
    · have := sum_mem (f := f) h; omega
theorem fits_size (s : PSet) (h : sizeN s < 2 ^ 40) : s.fits := by
  have hz : sizeN s = s.prefixes.length + s.paths.length + s.comms.length + s.pols.length + sumN (fun p => p.rules.length) s.prefixes + sumN (fun p => p.rules.length) s.paths + sumN (fun p => p.rules.length) s.comms + sumN polN s.pols := rfl
  refine ⟨by omega, by omega, by omega, by omega, fun x hx => ?_, fun x hx => ?_, fun x hx => ?_, fun x hx => ?_⟩
  · have := sum_mem (f := fun p : PList => p.rules.length) hx; omega
  · have := sum_mem (f := fun p : PathL => p.rules.length) hx; omega
  · have := sum_mem (f := fun p : ComL => p.rules.length) hx; omega
  · have h1 := sum_mem (f := polN) hx
    have h2 : polN x = x.terms.length + sumN trmN x.terms := rfl
    refine ⟨by omega, fun t ht => ?_⟩
    have h3 := sum_mem (f := trmN) ht
    have h4 : trmN t = t.mats.length + t.acts.length := rfl
    exact ⟨by omega, by omega⟩
theorem size_bk (s : PSet) (h : bkL s.enc ≤ 1048576) : sizeN s < 2 ^ 40 := by
  have := bk_PSet s
  omega
theorem law666_all (ass : List (List AV)) (h : ArgsT [tPSet_, .str] ass) (hb : bkLL ass ≤ 1048576) : Gives G 666 (argsA [tPSet_, .str] ass) [] ⟨.bool true, []⟩ := by
  obtain ⟨x0, s0, rfl, h0, h⟩ := argsT_cons h
  obtain ⟨x1, s1, rfl, h1, h⟩ := argsT_cons h
  obtain rfl := argsT_nil h
  obtain ⟨s, rfl, hs⟩ := T_PSet h0
  obtain ⟨k, rfl⟩ := T_str h1
  simp only [bkLL] at hb
  have hz := size_bk s (by omega)
  exact law666_gives s k (fits_size s hz) hz
theorem law667_all (ass : List (List AV)) (h : ArgsT [tPSet_, tPSet_] ass) (hb : bkLL ass ≤ 1048576) : Gives G 667 (argsA [tPSet_, tPSet_] ass) [] ⟨.bool true, []⟩ := by
  obtain ⟨x0, s0, rfl, h0, h⟩ := argsT_cons h
  obtain ⟨x1, s1, rfl, h1, h⟩ := argsT_cons h
  obtain rfl := argsT_nil h
  obtain ⟨s, rfl, hs⟩ := T_PSet h0
  obtain ⟨t, rfl, ht⟩ := T_PSet h1
  simp only [bkLL] at hb
  have hz := size_bk s (by omega)
  have hy := size_bk t (by omega)
  exact law667_gives s t (fits_size s hz) (fits_size t hy) hz hy
end Go.AM.IR
