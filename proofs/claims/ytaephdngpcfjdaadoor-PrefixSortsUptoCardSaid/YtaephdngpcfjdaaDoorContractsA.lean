/- Functions of the library by their contracts: what a call of the program does is what the function of the abstract machine says. -/
import Derived.Test.YtaephdngpcfjdaaDoorMachineC
import Derived.Below
import Derived.WalkSmall
import Derived.Shelf.GgSortFunc.RowK
import Derived.Shelf.SlSortCmp.NoneTotal
import Derived.Shelf.SlicesE.Clone
import Derived.Test.YtaephdngpcfjdaaDoorLibraryA
import Derived.Shelf.Strconv.Itoa3
import Derived.Shelf.Strings.Cut
import Derived.Shelf.Strings.Search3
import Derived.Shelf.Strings.SplitShaped
import Derived.Shelf.Strings.OnBuilder
import Derived.Lib.AppendIntMem
import Derived.Shelf.Strconv.AtoiAll
import Derived.Shelf.Vars
import Derived.Stop.LaidErr
import Derived.Lib.LaidTab
set_option linter.unusedVariables false
set_option linter.unusedSimpArgs false
namespace Go.AM
open Go Go.RowKit
theorem fsem_lib {P : Program} {N : Nums} {f : Nat} {args : List AV} {r : AV}
    (h : ∀ (C : Ctx) (vs : Array Value), Entry C N vs args [] → (∀ b, C.S0 b → b < C.W0.heap.size) → Calls P (N.num f) vs C.W0 fun e w' => ∃ v, e = .returned v ∧ Below C.W0.heap.size C.W0 w' ∧ (∀ E : Env, (∀ b o u, C.W0.heap.size ≤ b → w'.cell? ⟨b, o, none⟩ = some u → u.oneCell' = true → E.ro b o u) → E.tnum = N.tnum → V E v r)) (hnp : unpan r = none := by first | rfl | (split <;> rfl)) :
    FSem P N f args [] ⟨r, []⟩ := by
  intro C vs he
  rw [unR_np (t := ⟨r, []⟩) hnp]
  refine (h C vs he he.hi.s0).mono ?_
  rintro e w' ⟨v, rfl, hb, hv⟩
  refine ⟨v, (endOf_np hnp v).symm, C.S0, C.π, ?_⟩
  have hk : Kept C.X C.W0 w' := ⟨hb.os, hb.tape, hb.output, hb.size, fun b hlt _ => hb.block b hlt⟩
  refine ⟨hk, fun b hs => ⟨Nat.lt_of_lt_of_le (he.hi.s0 b hs) hb.size, .inr hs⟩, fun b hs _ => hs, ?_, fun k x hx => by simp at hx, fun k k' hk => by simp at hk, fun k x hk => by simp at hk, Nat.zero_le _⟩
  refine hv _ (fun b o u hle hc h1 => ⟨fun hs => ?_, hc, h1⟩) he.tnum
  have := he.hi.s0 b hs
  omega
theorem Entry.arg {C : Ctx} {N : Nums} {vs : Array Value} {args : List AV} {bs : List Blk} (he : Entry C N vs args bs) {i : Nat} {a : AV} (h : args[i]? = some a) : V (mkEnv C C.S0 C.π (used0 bs.length) (hpB bs) C.W0) (vs.getD i undef) a := by
  obtain ⟨hi, rfl⟩ := List.getElem?_eq_some_iff.1 h
  have := he.at_ i hi
  rwa [List.getD_eq_getElem?_getD, List.getElem?_eq_getElem hi] at this
theorem vs_eq1 {vs : Array Value} {x : Value} (h : vs.size = 1) (h0 : vs.getD 0 undef = x) : vs = #[x] := by
  apply Array.ext (by simpa using h)
  intro i h1 h2
  have : i = 0 := by simp at h2; omega
  subst this
  simp [Array.getD, h] at h0; simpa using h0
theorem vs_eq2 {vs : Array Value} {x y : Value} (h : vs.size = 2) (h0 : vs.getD 0 undef = x) (h1 : vs.getD 1 undef = y) : vs = #[x, y] := by
  apply Array.ext (by simpa using h)
  intro i h3 h4
  have : i = 0 ∨ i = 1 := by simp at h4; omega
  rcases this with rfl | rfl
  · simp [Array.getD, h] at h0; simpa using h0
  · simp [Array.getD, h] at h1; simpa using h1
end Go.AM
namespace Go.AM
open Go Go.RowKit Go.Sort
section
variable {C : Ctx} {U : Nat → Prop} {hp : HF} {w : World} {S : Nat → Prop} {β : Nat → Place} {used : Nat → Nat → Prop}
theorem HI.ahead (h : HI C U hp w S β used) (n : Nat) : HI C U hp (Sort.ahead w n) S β used := by
  have e : mkEnv C S β used hp (Sort.ahead w n) = mkEnv C S β used hp w := rfl
  exact ⟨⟨h.kept.os, h.kept.tape, h.kept.output, h.kept.size, h.kept.block⟩, h.s, h.s0, h.keep, h.us, fun k g b hk => by rw [e]; exact h.at_ k g b hk, h.inj, h.pl⟩
theorem HI.grown (h : HI C U hp w S β used) (os : Array Obj) : HI C U hp (grow w os) S β used := by
  have hb : ∀ b, b < w.heap.size → (grow w os).heap[b]? = w.heap[b]? := fun b hb => by
    show (w.heap ++ os)[b]? = _
    rw [Array.getElem?_append_left hb]
  have hz : w.heap.size ≤ (grow w os).heap.size := by show _ ≤ (w.heap ++ os).size; rw [Array.size_append]; omega
  refine (HI.change (w' := grow w os) (S' := S) (β' := β) (used' := used) (hp' := hp) (U' := U) h ⟨h.kept.os, h.kept.tape, h.kept.output, Nat.le_trans h.kept.size hz, fun b h1 h2 => (hb b (Nat.lt_of_lt_of_le h1 h.kept.size)).trans (h.kept.block b h1 h2)⟩ (fun b o u hs hc => ⟨hs, by rw [((SameB.of_block (hb b (cell_lt hc))).at o).1]; exact hc⟩) (fun _ _ x => x) (fun k g b hk _ => ⟨⟨b, hk⟩, rfl⟩) (fun b hs => ⟨Nat.lt_of_lt_of_le (h.s b hs).1 hz, (h.s b hs).2⟩) h.keep h.us (fun k g b hk => .inl ⟨hk, rfl, fun hn => ?_⟩) h.inj h.pl).1
  have := ((h.at_ k g b hk).2.1 hn).1
  exact ⟨this, SameB.of_block (hb _ (h.s _ this).1)⟩
end
def enc2 (x : Int × Int) : List Value := [.int .u32 x.1, .int .i64 x.2]
theorem pairs_some : ∀ (es : List (List AV)) (l : List (Int × Int)), pairs es = some l → es = l.map row2
  | [], l, h => by obtain rfl := Option.some.inj h; rfl
  | e :: r, l, h => by
    unfold pairs at h
    split at h
    · rename_i h0; cases h0
    · rename_i a n r' h0
      obtain ⟨rfl, rfl⟩ := List.cons.inj h0
      obtain ⟨l', h1, rfl⟩ := map_some h
      rw [pairs_some r l' h1]; rfl
    · cases h
theorem row2_get (l : List (Int × Int)) {i : Nat} (hi : i < l.length) : (l.map row2).getD i [] = row2 l[i] := by simp [List.getD_eq_getElem?_getD, hi]
theorem holds2 {E : Env} {w : World} {p : Place} {l : List (Int × Int)} (h : BlkOk E w p (.vec 2 (l.map row2))) : HoldsK enc2 2 w p.blk p.off l.toArray := fun t ht => by
  obtain ⟨h1, h2, h3, h4, h5, h6⟩ := h
  have ht' : t < l.toArray.size * 2 := by simpa using ht
  have ht2 : t < l.length * 2 := by simpa using ht'
  have hi : t / 2 < l.length := by omega
  obtain ⟨u, c1, c2, c3, c4⟩ := h6 (t / 2) (by simpa using hi) (t % 2) (by rw [h2 _ (by simpa using hi)]; omega)
  rw [show p.off + t / 2 * 2 + t % 2 = p.off + t by omega] at c1 c2
  refine ⟨?_, c2⟩
  rw [c1, get_flatK _ _ _ _ ht']
  rw [row2_get l hi] at c4
  have hx : l.toArray[t / 2]! = l[t / 2] := by simp [hi]
  rw [hx]
  have hm : t % 2 = 0 ∨ t % 2 = 1 := by omega
  rcases hm with hm | hm <;> rw [hm] at c4 ⊢
  · have c5 : V E u (.int .u32 l[t / 2].1) := c4
    rw [c5.int_inv]; rfl
  · have c5 : V E u (.int .i64 l[t / 2].2) := c4
    rw [c5.int_inv]; rfl
theorem rs2 (E : Env) (l : List (Int × Int)) : Rs E 2 (flatK enc2 2 l.toArray).toList (l.map row2) := by
  have hg : ∀ i, i < l.length → ∀ j, j < 2 → (flatK enc2 2 l.toArray).toList.getD (i * 2 + j) undef = (enc2 l[i]!)[j]! := fun i hi j hj => by
    have ht : i * 2 + j < l.toArray.size * 2 := by simp; omega
    have e : (flatK enc2 2 l.toArray).toList.getD (i * 2 + j) undef = (flatK enc2 2 l.toArray)[i * 2 + j]! := by
      have : i * 2 + j < (flatK enc2 2 l.toArray).size := by simpa using ht
      rw [getElem!_pos (flatK enc2 2 l.toArray) (i * 2 + j) this, List.getD_eq_getElem?_getD, List.getElem?_eq_getElem (by simpa using this), Option.getD_some, Array.getElem_toList]
    rw [e, get_flatK _ _ _ _ ht, show (i * 2 + j) / 2 = i by omega, show (i * 2 + j) % 2 = j by omega]
    simp
  have hl : (l.map row2).length = l.length := by simp
  refine ⟨by simp, fun i hi => ?_, fun i hi j hj => ?_, fun i hi j hj => ?_⟩ <;> rw [hl] at hi
  · rw [row2_get l hi]; rfl
  · rw [hg i hi j hj]
    have hm : j = 0 ∨ j = 1 := by omega
    rcases hm with rfl | rfl <;> rfl
  · rw [hg i hi j hj, row2_get l hi, show l[i]! = l[i] from by simp [hi]]
    have hm : j = 0 ∨ j = 1 := by omega
    rcases hm with rfl | rfl
    · exact .int _ _
    · exact .int _ _
theorem setMany_all {F F' : Array Value} (h : F'.size = F.size) : setMany F 0 F'.toList = F' := by
  refine ext_get! (by simp [h]) fun t ht => ?_
  have ht' : t < F.size := by simpa using ht
  rw [get_setMany _ _ _ _ ht', if_pos (by simp; omega), Nat.sub_zero, getElem!_pos F'.toList t (by simp; omega), getElem!_pos F' t (by omega), Array.getElem_toList]
theorem putRowK_setCells {w : World} {blk off : Nat} {d d' : Array (Int × Int)} (h : HoldsK enc2 2 w blk off d) (hs : d'.size = d.size) : putRowK enc2 2 w blk off d' = w.setCells blk off (flatK enc2 2 d').toList := by
  have h1 := setCells_putRow w blk off (flatK enc2 2 d').toList 0 (flatK enc2 2 d) (by simp [hs])
  rw [setMany_all (by simp [hs])] at h1
  rw [show putRow id w blk off (flatK enc2 2 d) = w from putRowK_self enc2 2 w blk off d h] at h1
  exact h1.symm
theorem blk2_env {E E' : Env} {w : World} {p : Place} {l : List (Int × Int)} (h : BlkOk E w p (.vec 2 (l.map row2))) : BlkOk E' w p (.vec 2 (l.map row2)) := by
  obtain ⟨h1, h2, h3, h4, h5, h6⟩ := h
  refine ⟨h1, h2, h3, h4, h5, fun i hi j hj => ?_⟩
  obtain ⟨u, c1, c2, c3, c4⟩ := h6 i hi j hj
  refine ⟨u, c1, c2, c3, ?_⟩
  have hi' : i < l.length := by simpa using hi
  rw [h2 i hi] at hj
  rw [row2_get l hi'] at c4 ⊢
  have hm : j = 0 ∨ j = 1 := by omega
  rcases hm with rfl | rfl
  · have c5 : V E u (.int .u32 l[i].1) := c4
    rw [c5.int_inv]; exact .int _ _
  · have c5 : V E u (.int .i64 l[i].2) := c4
    rw [c5.int_inv]; exact .int _ _
theorem ret2 {C : Ctx} {U : Nat → Prop} {hp : HF} {w : World} {used : Nat → Nat → Prop} {l : List (Int × Int)} (h : HI C U hp w C.S0 C.π used) (hh : hp 0 = some (0, .vec 2 (l.map row2))) : ∃ S1 β1, RetC C 1 w (.tuple #[]) ⟨.tup [], [(true, .vec 2 (l.map row2))]⟩ S1 β1 := by
  obtain ⟨q1, q2, q3⟩ := h.at_ 0 0 _ hh
  refine ⟨C.S0, C.π, h.kept, h.s, h.keep, .tup #[] [] rfl (fun i hi => by simp at hi), fun k x hk => ?_, fun k k' hk hk' _ _ _ => ?_, fun k x hk _ _ => rfl, Nat.le_refl _⟩
  · match k, hk with
    | 0, hk =>
      obtain rfl := Option.some.inj hk
      exact ⟨q2, blk2_env q3⟩
    | k + 1, hk => simp at hk
  · simp at hk hk'; omega
end Go.AM
namespace Go.AM
open Go Go.RowKit Go.Shelf Go.Lib Go.Sort Go.Proofs
theorem sort_fsem {P : Program} {N : Nums} {ρ : Ren} (L : SlLaysF0.n6 P ρ) (aE : ∀ w, (isAgg (ρ.t 24)).run P w = .ok true w) (zE : ∀ w, (Go.sizeOf (ρ.t 24)).run P w = .ok 2 w) {f cmp : Nat} (hf : N.num f = ρ.f 6) (hB : isB cmp = false) (cf : Int × Int → Int × Int → Int) (hO : SWO (ltOf cf)) (hT : ∀ x y, (ltOf cf) x y = false → (ltOf cf) y x = false → x = y)
    (eg : ∀ args w, (callFunc (N.num cmp) args).run P w = .ok (.enter (N.num cmp) args) w)
    (hc : ∀ (x y : Int × Int) (W : World), Calls P (N.num cmp) #[.agg #[.int .u32 x.1, .int .i64 x.2], .agg #[.int .u32 y.1, .int .i64 y.2]] W fun e w' => e = .returned (.int .i64 (cf x y)) ∧ ∃ q os', w' = grow (W.drewN q) os') :
    ∀ args bs t, pSort cmp (ltOf cf) args bs = some t → FSem P N f args bs t := by
  intro args bs t h
  unfold pSort at h
  split at h
  case h_3 => cases h
  case h_2 =>
    rename_i f'
    split at h
    case isFalse => cases h
    rename_i hq
    obtain rfl := hq
    obtain rfl := Option.some.inj h
    intro C vs he
    have a0 := he.arg (i := 0) rfl
    have a1 := he.arg (i := 1) rfl
    obtain ⟨ad, ca, _, e0, _⟩ := a0.sl_inv
    obtain ⟨cs, e1, hcs, _⟩ := a1.fn_inv
    have ev := vs_eq2 he.size e0 e1
    subst ev
    rw [hf]
    refine (AnyF.slices_SortFunc_none L _ _ _ C.W0).mono ?_
    rintro e w' ⟨rfl, rfl⟩
    exact ⟨_, rfl, C.S0, C.π, he.hi.kept, he.hi.s, fun b hs _ => hs, .tup #[] [] rfl (fun i hi => by simp at hi), fun k x hx => by simp [unR, unpan] at hx, fun k k' hk => by simp [unR, unpan] at hk, fun k x hk => by simp at hk, Nat.zero_le _⟩
  rename_i n f' es
  split at h
  case isFalse => cases h
  rename_i hq
  obtain ⟨rfl, hn, hlt⟩ := hq
  obtain ⟨l, hl, rfl⟩ := map_some h
  obtain rfl := pairs_some _ _ hl
  intro C vs he
  have a0 := he.arg (i := 0) rfl
  have a1 := he.arg (i := 1) rfl
  obtain ⟨_, _, hs⟩ := a0.vs_inv
  have hk : hpB [Blk.vec 2 (l.map row2)] 0 = some (0, .vec 2 (l.map row2)) := rfl
  obtain ⟨e0, hcap⟩ := hs _ (mkEnv_lv_of hk)
  obtain ⟨cs, e1, hcs, _⟩ := a1.fn_inv
  obtain rfl : cs = #[] := Array.eq_empty_of_size_eq_zero hcs
  have hfn : Value.func (.func (C.num (fid0 f'))) (fnF f' #[]) (fnC f' #[]) = .func (.func (C.num f')) #[] #[] := by unfold fid0 fnF fnC; rw [hB]; rfl
  have ev := vs_eq2 he.size e0 e1
  have hnum : C.num f' = N.num f' := by rw [he.num.1]
  rw [show (mkEnv C C.S0 C.π (used0 [Blk.vec 2 (l.map row2)].length) (hpB [Blk.vec 2 (l.map row2)]) C.W0).num (fid0 f') = C.num (fid0 f') from rfl, hfn] at ev
  rw [hnum] at ev
  subst ev
  rw [hf]
  obtain ⟨u1, u2, u3⟩ := he.hi.at_ 0 0 _ hk
  have hnl : n = l.length := by simpa using hn
  subst hnl
  by_cases h0 : l = []
  · subst h0
    refine (AnyF.slices_SortFunc_none L _ _ _ C.W0).mono ?_
    rintro e w' ⟨rfl, rfl⟩
    refine ⟨_, rfl, ?_⟩
    rw [List.mergeSort_nil]
    exact ret2 (l := []) he.hi rfl
  · have hnn : (C.π 0).isNil = false := by
      cases y : (C.π 0).isNil with
      | false => rfl
      | true => exact absurd (List.map_eq_nil_iff.1 ((u3.2.2.2.1 y).1)) h0
    have hbase : (C.π 0).base 0 = some ⟨(C.π 0).blk, (C.π 0).off, none⟩ := by simp [Place.base, hnn]
    rw [hbase]
    have hH := holds2 u3
    have hblk : (C.π 0).blk < C.W0.heap.size := (he.hi.s _ (u2 hnn).1).1
    have hcon := AnyQ.slices_SortFunc_total L 2 aE zE enc2 (fun _ => rfl) (fun x v hv => by simp [enc2] at hv; rcases hv with rfl | rfl <;> rfl) cf hO (N.num f') #[] (C.π 0).blk (C.π 0).off (C.π 0).cap l.toArray C.W0 eg (fun _ _ _ _ x y => hc x y _) hH hblk (by simp; omega) hT
    refine Calls.mono (by simpa using hcon) ?_
    rintro e w' ⟨rfl, m, os, rfl⟩
    refine ⟨_, rfl, ?_⟩
    generalize hl' : (l.mergeSort fun x y => !(ltOf cf) y x) = l'
    have hlen : l'.length = l.length := by rw [← hl']; simp
    have h1 := he.hi.ahead m
    have hH1 : HoldsK enc2 2 (Sort.ahead C.W0 m) (C.π 0).blk (C.π 0).off l.toArray := holdsK_ahead enc2 2 C.W0 m _ _ _ hH
    have ew : sortWorldK enc2 2 C.W0 (C.π 0).blk (C.π 0).off m l'.toArray os = grow ((Sort.ahead C.W0 m).setCells (C.π 0).blk (C.π 0).off (flatK enc2 2 l'.toArray).toList) os := by
      unfold sortWorldK
      rw [putRowK_setCells hH1 (by simp [hlen])]
    rw [ew]
    obtain ⟨used', k1, k2, k3⟩ := h1.write hk hnn (C.π 0).off (flatK enc2 2 l'.toArray).toList 0 (.vec 2 (l'.map row2)) (.inl rfl) (fun E le => by
      have b0 : BlkOk E (Sort.ahead C.W0 m) (C.π 0) (.vec 2 (l.map row2)) := blk2_env (h1.at_ 0 0 _ hk).2.2
      have := vec_append b0 (rs2 E l') (n := 0) (Nat.zero_le _) (by have := u3.2.2.1; simp at this ⊢; omega) hnn
      simpa using this)
    exact ret2 (k1.grown os) (by rw [up_at])
end Go.AM
namespace Go.Proofs
open Go.Shelf Go.RowKit Go.Lib
variable {P : Program} {ρ : Ren}
set_option maxHeartbeats 2000000 in
set_option maxRecDepth 100000 in
theorem clone_zero (L : SlLaysE0.n41 P ρ) (i0 : TypeInfo) (z : Value) (size bytes : Nat) (hi : P.info? (ρ.t 23) = some i0) (hz0 : i0.zero = some z) (hz1 : i0.size = size) (hz2 : i0.bytes = bytes) (hzs : z.cells.size = size) (hsz : 0 < size)
    (z23 : ∀ w, (Go.sizeOf (ρ.t 23)).run P w = .ok size w) (a : Addr) (c : Nat) (w : World) :
    Calls P (ρ.f 41) #[.slice (some a) 0 c] w fun e w' => ∃ v', e = .returned v' ∧ w'.ownsRow w.heap.size (ρ.t 23) size v' 0 [] ∧ Below w.heap.size w w' := by
  have mixed := L.mixed; have t4 := L.t4; have a4 := L.a4; have z4 := L.z4; have v4 := L.v4; have t22 := L.t22; have a22 := L.a22; have z22 := L.z22; have v22 := L.v22
  have q22 : ∀ (w : World) (a : Option Addr) (n c n' c' : Nat), (binOp .eql (ρ.t 22) (.slice a n c) (.slice none n' c')).run P w = .ok (.bool a.isNone) w := fun w a n c n' c' => Lib.run_eql_slice_nil w _ _ a n c n' c' L.t22
  have u22 : ∀ w, Sem.run P (underlying (ρ.t 22)) w = .ok (TypeDesc.slice (ρ.t 23)) w := run_underlying t22
  obtain ⟨_, _, FG⟩ := L.f41
  go_enter FG, SlBodyN.n41_ntmps ρ
  go_wp2_with (at_builtin; refine wpList_append_own _ rfl _ _ (ρ.t 22) rfl w.heap.size (ρ.t 23) i0 z size bytes t22 hi hz0 hz1 hz2 hzs hsz _ _ _ rfl (World.ownsRow_made w #[] 0 (Nat.le_refl _) (Nat.zero_le _) (by simp)) a 0 c [] rfl (by simp) (by intro j u hj; simp at hj) (by intro u hu; cases hu) (by unfold maxLen; omega) (by omega) (by simp) ?_)
  intro v' w1 hown hgrow hnil
  go_wp2
  go_ret
  refine ⟨v', rfl, by simpa using hown, ?_⟩
  exact ((Below.refl _ w).alloc (Nat.le_refl _) _).grown hgrow (by simp) (by intro k hk; simp [Value.ownBlock] at hk; omega)
end Go.Proofs
namespace Go.AM
open Go Go.RowKit Go.Shelf Go.Lib Go.Proofs
theorem clone_fsem {P : Program} {N : Nums} {ρ : Ren} (L : SlLaysE0.n41 P ρ) (i0 : TypeInfo) (z : Value) (size bytes : Nat) (hi : P.info? (ρ.t 23) = some i0) (hz0 : i0.zero = some z) (hz1 : i0.size = size) (hz2 : i0.bytes = bytes) (hzs : z.cells.size = size) (hsz : 0 < size)
    (z23 : ∀ w, (Go.sizeOf (ρ.t 23)).run P w = .ok size w) {f : Nat} (hf : N.num f = ρ.f 41)
    (hrun : ∀ l : List (Int × Int), l ≠ [] → l.length < 2 ^ 40 → FSem P N f [.sl 2 (l.map row2)] [] ⟨.vs 0 0 l.length, [(false, .vec 2 (l.map row2))]⟩) :
    ∀ args bs t, pClone args bs = some t → FSem P N f args bs t := by
  intro args bs t h
  unfold pClone at h
  split at h
  · obtain rfl := Option.some.inj h
    refine fsem_lib fun C vs he _ => ?_
    have a0 := he.arg (i := 0) rfl
    obtain ⟨ad, ca, _, e0, _⟩ := a0.sl_inv
    have ev := vs_eq1 he.size e0
    subst ev
    rw [hf]
    cases ad with
    | none =>
      refine (AnyE.slices_Clone_nil L _ _ C.W0).mono ?_
      rintro e w' ⟨rfl, rfl⟩
      exact ⟨_, rfl, .refl _ _, fun E _ _ => (LeP.nil (P := fun _ => True) 2) E _ trivial (.con _)⟩
    | some ad =>
      refine (clone_zero L i0 z size bytes hi hz0 hz1 hz2 hzs hsz z23 ad ca C.W0).mono ?_
      rintro e w' ⟨v', rfl, hown, hb⟩
      refine ⟨_, rfl, hb, fun E _ _ => ?_⟩
      rcases hown.2 with ⟨rfl, _⟩ | ⟨g, cap, cur, rfl, _⟩
      · exact (LeP.nil (P := fun _ => True) 2) E _ trivial (.con _)
      · exact .sl 2 [] _ 0 _ rfl (by simp) (Nat.zero_le _) (fun _ _ => undef) (fun h => absurd rfl h) (by simp)
  · obtain ⟨l, h1, h2⟩ := Option.bind_eq_some_iff.1 h
    split at h2
    · rename_i hl
      obtain rfl := Option.some.inj h2
      have e := pairs_some _ _ h1
      rw [e]
      refine hrun l (fun q => ?_) hl
      subst q; cases e
    · cases h2
  · cases h
end Go.AM
namespace Go.AM
open Go Go.RowKit Go.Proofs Go.Shelf
variable {P : Program} {ρ : Ren} {N : Nums}
def TabAt (P : Program) (N : Nums) (name : String) (k : IntKind) (zs : List Int) : Prop := ∃ g t z, P.globalNamed name = some g ∧ N.go g = some (.cells ((zs.map fun x => Value.int k x).toArray) t z)
theorem TabAt.tab {name : String} {k : IntKind} {zs : List Int} (h : TabAt P N name k zs) {C : Ctx} (hn : NumOk N C) : Lib.TabIs P C.W0 name k zs := by
  obtain ⟨g, t, z, h1, h2⟩ := h
  have h3 := (hn.2.2 g _ h2).2.2.2
  unfold Lib.TabIs World.var?
  rw [h1]; simp [h3]
def IntAt (N : Nums) (g : Nat) : Prop := ∃ (cs : Array Value) (m : Int) (t : TypeId) (z : Nat × Nat), N.go g = some (.cells cs t z) ∧ cs[0]? = some (.int .i64 m)
theorem IntAt.cell {g : Nat} (h : IntAt N g) {C : Ctx} (hn : NumOk N C) : ∃ m, C.W0.cell? ⟨g, 0, none⟩ = some (.int .i64 m) := by
  obtain ⟨cs, m, t, z, h2, h5⟩ := h
  have h3 := (hn.2.2 g _ h2).2.2.2
  exact ⟨m, by simp [World.cell?, h3, h5]⟩
theorem below_drewN0 (w : World) (n : Nat) : Below w.heap.size w (w.drewN n) := below_drewN (Below.refl _ _) n
theorem itoa_fsem (L : LaysM.n171 P ρ) {f : Nat} (hf : N.num f = ρ.f 171) (ht : TabAt P N "internal/strconv.uint64pow10" .u64 Lib.pow10Tab) : ∀ args bs t, pItoa args bs = some t → FSem P N f args bs t := by
  intro args bs t h
  unfold pItoa at h
  split at h
  · rename_i n
    split at h
    · rename_i hb
      obtain rfl := Option.some.inj h
      rw [itoaK_eq hb.1 hb.2]
      refine fsem_lib fun C vs he _ => ?_
      have hv := vs_eq1 (by simpa using he.size) (V.int_inv (he.arg (i := 0) rfl))
      rw [hf, hv]
      refine (Any.strconv_Itoa L n hb.1 hb.2 C.W0 (ht.tab he.num)).mono ?_
      rintro e w' ⟨rfl, k, os, rfl⟩
      exact ⟨_, rfl, Lib.below_grow _ _ (Nat.le_refl _) k os, fun E _ _ => .str _⟩
    · cases h
  · cases h
theorem cut_fsem (L : Lays.n145 P ρ) {f : Nat} (hf : N.num f = ρ.f 145) (hm : IntAt N (ρ.g 1)) : ∀ args bs t, pCut args bs = some t → FSem P N f args bs t := by
  intro args bs t h
  unfold pCut at h
  split at h
  · rename_i s sep
    split at h
    · rename_i hb
      obtain rfl := Option.some.inj h
      refine fsem_lib fun C vs he _ => ?_
      have hv := vs_eq2 (by simpa using he.size) (V.str_inv (he.arg (i := 0) rfl)) (V.str_inv (he.arg (i := 1) rfl))
      obtain ⟨m, hc⟩ := hm.cell he.num
      rw [hf, hv]
      refine (Any.strings_Cut L ⟨s.toArray⟩ ⟨sep.toArray⟩ m C.W0 (by simpa [ByteArray.size] using hb) hc).mono ?_
      rintro e w' ⟨rfl, n, rfl⟩
      refine ⟨_, rfl, below_drewN0 _ n, fun E _ _ => ?_⟩
      refine .tup _ _ rfl fun i hi => ?_
      match i, hi with
      | 0, _ => exact .str _
      | 1, _ => exact .str _
      | 2, _ => exact .bool _
    · cases h
  · cases h
def splitL (s sep : List UInt8) : List (List UInt8) := (Lib.splitB ⟨sep.toArray⟩ 0 (Lib.countB ⟨s.toArray⟩ ⟨sep.toArray⟩) ⟨s.toArray⟩).map fun x => x.data.toList
theorem splitL_eq (s sep : List UInt8) : splitL s sep = Lib.split s sep := by
  unfold splitL Lib.split
  have := Lib.splitB_data ⟨sep.toArray⟩ 0 (Lib.countB ⟨s.toArray⟩ ⟨sep.toArray⟩) ⟨s.toArray⟩
  simpa using this
theorem split_fsem (L : Lays.n146 P ρ) (hi9 : (P.info? (ρ.t 9)).map (fun i => (i.zero, i.size, i.bytes)) = some (some (.string ByteArray.empty), 1, 16)) {f : Nat} (hf : N.num f = ρ.f 146) (hm : IntAt N (ρ.g 1)) : ∀ args bs t, pSplit args bs = some t → FSem P N f args bs t := by
  intro args bs t h
  unfold pSplit at h
  split at h
  · rename_i s sep
    split at h
    · rename_i hb
      obtain rfl := Option.some.inj h
      rw [← splitL_eq]
      refine fsem_lib fun C vs he _ => ?_
      have hv := vs_eq2 (by simpa using he.size) (V.str_inv (he.arg (i := 0) rfl)) (V.str_inv (he.arg (i := 1) rfl))
      obtain ⟨m, hc⟩ := hm.cell he.num
      rw [hf, hv]
      have h1 : 1 ≤ (ByteArray.mk sep.toArray).size := by simpa [ByteArray.size] using hb.2
      refine (Any.strings_Split L hi9 ⟨s.toArray⟩ ⟨sep.toArray⟩ m C.W0 (by simpa [ByteArray.size] using hb.1) hc h1).mono ?_
      rintro e w' ⟨rfl, rfl⟩
      have hlen := Lib.splitB_all ⟨sep.toArray⟩ h1 0 _ ⟨s.toArray⟩ rfl
      refine ⟨_, rfl, (Below.refl _ _).alloc (Nat.le_refl _) _, fun E hro _ => ?_⟩
      generalize hz : Lib.splitB ⟨sep.toArray⟩ 0 (Lib.countB ⟨s.toArray⟩ ⟨sep.toArray⟩) ⟨s.toArray⟩ = zs at *
      refine .sl 1 _ _ _ _ ?_ ?_ (Nat.le_refl _) (fun i _ => Value.string (zs.getD i ByteArray.empty)) (fun _ => ⟨C.W0.heap.size, 0, rfl, ?_⟩) ?_
      · simp [splitL, hz]; omega
      · intro i hi
        simp [splitL, hz] at hi
        simp [splitL, hz, hi]
      · intro i hi j hj
        simp [splitL, hz] at hi
        obtain rfl : j = 0 := by omega
        refine hro _ _ _ (Nat.le_refl _) ?_ rfl
        rw [show (0 + i * 1 + 0) = i by omega, World.cell?_alloc_new]
        simp [hi]
      · intro i hi j hj
        simp [splitL, hz] at hi
        obtain rfl : j = 0 := by omega
        simp [splitL, hz, hi]
        exact .str _
    · cases h
  · cases h
end Go.AM
namespace Go.AM
open Go Go.RowKit Go.Proofs Go.Shelf
variable {P : Program} {ρ : Ren} {N : Nums}
def ErrAt (N : Nums) (g : Nat) : Prop := ∃ ev t z, N.go g = some (.cells #[ev] t z) ∧ (ev = .nilIface ∨ ∃ te pe, ev = .iface te pe)
theorem ErrAt.cell {g : Nat} (h : ErrAt N g) {C : Ctx} (hn : NumOk N C) : ∃ ev, C.W0.cell? ⟨g, 0, none⟩ = some ev ∧ (ev = .nilIface ∨ ∃ te pe, ev = .iface te pe) := by
  obtain ⟨ev, t, z, h2, h4⟩ := h
  have h3 := (hn.2.2 g _ h2).2.2.2
  exact ⟨ev, by simp [World.cell?, h3], h4⟩
theorem atoi_fsem (L : LaysC.n172 P ρ) {f tid : Nat} (hf : N.num f = ρ.f 172) (ht : N.tnum tid = ρ.t 168) (h15 : ErrAt N (ρ.g 15)) (h16 : ErrAt N (ρ.g 16)) : ∀ args bs t, pAtoi tid args bs = some t → FSem P N f args bs t := by
  intro args bs t h
  unfold pAtoi at h
  split at h
  · rename_i s
    split at h
    · rename_i hb
      obtain rfl := Option.some.inj h
      unfold atoiR
      have hsz : (ByteArray.mk s.toArray).size ≤ 281474976710656 := by simpa [ByteArray.size] using hb
      cases hr : Lib.atoiAll s
      · rename_i v
        refine fsem_lib fun C vs he _ => ?_
        have hv := vs_eq1 (by simpa using he.size) (V.str_inv (he.arg (i := 0) rfl))
        rw [hf, hv]
        refine (Any.strconv_Atoi_ok L ⟨s.toArray⟩ (by omega) v (by simpa using hr) C.W0).mono ?_
        rintro e w' ⟨rfl, hw⟩
        refine ⟨_, rfl, ?_, fun E _ _ => ?_⟩
        · rcases hw with rfl | ⟨t, rfl⟩
          · exact Below.refl _ _
          · exact Lib.bytesWorld_below _ _ _
        · refine .tup _ _ rfl fun i hi => ?_
          match i, hi with
          | 0, _ => exact .int _ _
          | 1, _ => exact .con _
      · skip
        refine fsem_lib fun C vs he _ => ?_
        have hv := vs_eq1 (by simpa using he.size) (V.str_inv (he.arg (i := 0) rfl))
        obtain ⟨ev, hc, hev⟩ := h15.cell he.num
        rw [hf, hv]
        refine (Any.strconv_Atoi_syntax L ⟨s.toArray⟩ hsz (by simpa using hr) ev C.W0 hc hev).mono ?_
        rintro e w' ⟨M, rfl, _, _, hw⟩
        refine ⟨_, rfl, hw, fun E _ htn => ?_⟩
        refine .tup _ _ rfl fun i hi => ?_
        match i, hi with
        | 0, _ => exact .int _ _
        | 1, _ =>
          have := V.ifc (E := E) tid (.pointer (some ⟨M, 0, none⟩)) .any (.any _)
          rwa [htn, ht] at this
      · skip
        refine fsem_lib fun C vs he _ => ?_
        have hv := vs_eq1 (by simpa using he.size) (V.str_inv (he.arg (i := 0) rfl))
        obtain ⟨ev, hc, hev⟩ := h16.cell he.num
        rw [hf, hv]
        refine (Any.strconv_Atoi_range L ⟨s.toArray⟩ hsz (by simpa using hr) ev C.W0 hc hev).mono ?_
        rintro e w' ⟨M, rfl, _, _, hw⟩
        refine ⟨_, rfl, hw, fun E _ htn => ?_⟩
        refine .tup _ _ rfl fun i hi => ?_
        match i, hi with
        | 0, _ => exact .int _ _
        | 1, _ =>
          have := V.ifc (E := E) tid (.pointer (some ⟨M, 0, none⟩)) .any (.any _)
          rwa [htn, ht] at this
    · cases h
  · cases h
theorem join_fsem (L : Lays.n156 P ρ) (X : Builder.Extra P ρ) {f : Nat} (hf : N.num f = ρ.f 156) : ∀ args bs t, pJoin args bs = some t → FSem P N f args bs t := by
  intro args bs t h
  unfold pJoin at h
  split at h
  · rename_i e0 es sep
    obtain ⟨xs, hx, h⟩ := Option.bind_eq_some_iff.1 h
    split at h
    · rename_i hb
      obtain rfl := Option.some.inj h
      have he0 := strsOf_at hx
      have hlen : (e0 :: es).length = xs.length := by rw [he0]; simp
      refine fsem_lib fun C vs he hs0 => ?_
      have h0 := he.arg (i := 0) rfl
      have h1 := V.str_inv (he.arg (i := 1) rfl)
      generalize hq : vs.getD 0 undef = q at h0
      cases h0 with
      | sl s' es' a n c hn hs hcc u hbb hh =>
        obtain ⟨b, off, rfl, hro⟩ := hbb (by simp)
        have hv := vs_eq2 (by simpa using he.size) hq h1
        have hcell : ∀ (j : Nat) x, (xs.map fun l => (⟨l.toArray⟩ : ByteArray))[j]? = some x → C.W0.cell? ⟨b, off + j, none⟩ = some (.string x) := by
          intro j x hj
          obtain ⟨l, hl, rfl⟩ := by simpa using hj
          have hjl : j < (e0 :: es).length := by rw [hlen]; exact (List.getElem?_eq_some_iff.1 hl).1
          have k1 := hro j hjl 0 (by omega)
          have k2 := hh j hjl 0 (by omega)
          have : ((e0 :: es).getD j []).getD 0 .any = .str l := by rw [he0]; simp [List.getD_eq_getElem?_getD, hl]
          rw [this] at k2
          have k3 := V.str_inv k2
          have k4 := k1.2.1
          rw [k3] at k4
          simpa using k4
        have hbk : b < C.W0.heap.size := by
          have k1 := hro 0 (by simp) 0 (by omega)
          exact World.block_lt_of_cell? _ _ k1.2.1
        rw [hf, hv]
        have hl2 : (xs.map fun l => (⟨l.toArray⟩ : ByteArray)).length = n := by simp only [List.length_map]; omega
        have hj : Lib.join ((xs.map fun l => (⟨l.toArray⟩ : ByteArray)).map (·.data.toList)) sep = Lib.join xs sep := by simp [List.map_map, Function.comp_def]
        have ct := Any.strings_Join L X b off c (xs.map fun l => (⟨l.toArray⟩ : ByteArray)) ⟨sep.toArray⟩ C.W0 hcell hbk (by simpa using hb.1) (by omega) (by rw [show (ByteArray.mk sep.toArray).data.toList = sep from by simp, hj]; exact hb.2)
        rw [hl2] at ct
        refine ct.mono ?_
        rintro e w' ⟨rfl, hw⟩
        refine ⟨_, rfl, hw, fun E _ _ => ?_⟩
        rw [show (ByteArray.mk sep.toArray).data.toList = sep from by simp, hj]
        exact .str _
    · cases h
  · cases h
end Go.AM
namespace Go.AM
open Go Go.RowKit Go.Proofs
theorem obj_of_var {P : Program} {W : World} {n : String} {g : Nat} {cs : Array Value} (hg : P.globalNamed n = some g) (h : World.var? P W n = some cs) : ∃ t z, W.heap[g]? = some (.cells cs t z) := by
  unfold World.var? at h
  rw [hg] at h
  simp only [Option.bind_some] at h
  split at h
  · rename_i cs' t z hh
    obtain rfl := Option.some.inj h
    exact ⟨t, z, hh⟩
  · cases h
theorem tabAt_of {P : Program} {N : Nums} {W : World} {name : String} {k : IntKind} {zs : List Int} {g : Nat} (hN : N.go = fun g => W.heap[g]?) (hg : P.globalNamed name = some g) (h : Lib.TabIs P W name k zs) : TabAt P N name k zs := by
  obtain ⟨t, z, h1⟩ := obj_of_var hg h
  exact ⟨g, t, z, hg, by rw [hN]; exact h1⟩
theorem errAt_of {P : Program} {N : Nums} {W : World} {n nm : String} {d : DataW Unit} {r : List (String × DataW Unit)} {g : Nat} {ti : TypeId} {ms : Array (String × TypeId)} (hN : N.go = fun g => W.heap[g]?)
    (h : laidMet P ((n, .iface nm d) :: r) W) (hg : P.globalNamed n = some g) (ht : (P.globals[g]?).map (·.type) = some ti) (hi : P.underlying ti = some (.interface ms)) : ErrAt N g := by
  obtain ⟨ps, ⟨g0, t0, cs0, f0, p0, q0, hg0, ht0, hv0, hd0, _, e0⟩, _⟩ := h
  obtain rfl := Option.some.inj (hg.symm.trans hg0)
  obtain rfl := Option.some.inj (ht.symm.trans ht0)
  obtain ⟨l0⟩ := cs0
  obtain ⟨f1, u, v, hl, _, _⟩ := iface_of_trod hi hd0
  have hl' : l0 = [.iface u v] := hl
  subst hl'
  obtain ⟨t, z, h1⟩ := obj_of_var hg hv0
  exact ⟨.iface u v, t, z, by rw [hN]; exact h1, .inr ⟨u, v, rfl⟩⟩
theorem intAt_of {N : Nums} {W : World} {g : Nat} (hN : N.go = fun g => W.heap[g]?) (h : ∃ m, W.cell? ⟨g, 0, none⟩ = some (.int .i64 m)) : IntAt N g := by
  obtain ⟨m, h⟩ := h
  unfold World.cell? at h
  split at h
  · rename_i c t z hh
    exact ⟨c, m, t, z, by rw [hN]; exact hh, by simpa using h⟩
  · cases h
theorem okF_prim {P : Program} {N : Nums} {f k i : Nat} {b : Bool} {p : List AV → List Blk → Option Ret} (hi : N.num k = i) (hb : ∃ fn, P.funcs[i]? = some fn ∧ fn.body.isSome = true ∧ fn.name ≠ "runtime.NumGoroutine") (h : ∀ args bs t, p args bs = some t → FSem P N k args bs t) :
    OkF P N f (bif Nat.beq f k then .prim b p else .none) := by
  subst hi
  refine okF_ite (fun e => ?_) fun _ => trivial
  obtain rfl := Nat.eq_of_beq_eq_true e
  exact ⟨hb, h⟩
end Go.AM
