/- What the functions of this program give, on the abstract machine. -/
import Derived.Test.YtndmifcopcaenaaDataB
import Derived.Test.YtndmifcopcaenaaMachineB
set_option linter.unusedVariables false
set_option linter.unusedSimpArgs false
set_option linter.unusedSectionVars false
namespace Go.AM.IR
set_option maxHeartbeats 2000000
set_option maxRecDepth 100000
/-- What route k does to the question whether route i wins its group. -/
def lose (l : List PVRoute) (cs : List IGP) (i k : Nat) : Bool := better l cs k i
def winsL (l : List PVRoute) (cs : List IGP) (i : Nat) (r : PVRoute) : List PVRoute → Nat → Bool → Bool
  | [], _, acc => acc
  | s :: ss, k, acc => winsL l cs i r ss (k + 1) (if decide (k = i) || !(costS cs s).2 || !sameGroupS r s then acc else if better l cs k i then false else acc)
section
variable (l : List PVRoute) (hl : l.length < 2 ^ 40) (hfit : ∀ r ∈ l, Fit r) (cs : List IGP) (hcs : cs.length < 2 ^ 40) (i : Nat) (r : PVRoute) (hr : l[i]? = some r) (K : List AItem) (t : Ret)
include hl hfit hcs hr
theorem wins_loop16 (bi : Int) (hi : i < l.length) (us : Bool)
    (cont : ∀ (T : List (Nat × AV)) (H : Heap) (c g8 : Nat) (acc : Bool), acc = winsL l cs i r l 0 us → Ev G ⟨K, ⟨(0, .sl 22 (l.map PVRoute.enc)) :: (1, .sl 2 (cs.map IGP.enc)) :: (20, .sl 22 (l.map PVRoute.enc)) :: (21, .int .i64 l.length) :: (22, .int .i64 i) :: (6, .int .i64 bi) :: (7, .int .i64 i) :: (8, .ref 72 g8 0) :: (11, .bool acc) :: T, (72, some (g8, .cells r.enc)) :: H, c⟩, [.t 4, .t 5], 0⟩ t) :
    ∀ (rest done : List PVRoute) (T : List (Nat × AV)) (H : Heap) (c g8 : Nat) (k : Int) (acc : Bool) (e : l = done ++ rest) (hk : k = done.length) (hacc : winsL l cs i r l 0 us = winsL l cs i r rest done.length acc),
    Ev G ⟨.inLoop f15x16L :: .inBlock 2 :: K, ⟨(34, .sl 22 (l.map PVRoute.enc)) :: (35, .int .i64 l.length) :: (36, .int .i64 k) :: (0, .sl 22 (l.map PVRoute.enc)) :: (1, .sl 2 (cs.map IGP.enc)) :: (20, .sl 22 (l.map PVRoute.enc)) :: (21, .int .i64 l.length) :: (22, .int .i64 i) :: (6, .int .i64 bi) :: (7, .int .i64 i) :: (8, .ref 72 g8 0) :: (11, .bool acc) :: T, (72, some (g8, .cells r.enc)) :: H, c⟩, [.t 4, .t 5], 0⟩ t
  | [], done, T, H, c, g8, k, acc, e, hk, hacc => by
    have hd : l.length = done.length := by simp [e]
    refine ev_loop' (W_ok 7 _ _ _ _ ?_)
    repeat (first | refine Exists.intro _ (And.intro (unA_neg_i64 (by omega) (by omega)) ?_) | refine Exists.intro _ (And.intro (binA_quo_i64 (by omega) (by omega) (by omega)) ?_) | refine Exists.intro _ (And.intro (binA_rem_i64 (by omega) (by omega)) ?_) | refine Exists.intro _ (And.intro (binA_sub_i64 (by omega) (by omega)) ?_) | refine Exists.intro _ (And.intro (binA_add_i64 (by omega) (by omega)) ?_) | refine Exists.intro _ (And.intro (conv_i64 (by omega) (by omega)) ?_) | refine Exists.intro _ (And.intro rfl ?_) | refine And.intro rfl ?_ | refine condT ?_ | refine condF ?_ | refine condG1 ?_ | refine condG0 ?_ | refine condDT (by omega) ?_ | refine condDF (by omega) ?_ | refine condBT (by omega) ?_ | refine condBF (by omega) ?_ | refine condNT (by omega) ?_ | refine condNF (by omega) ?_ | refine And.intro (by omega) ?_ | refine And.intro (ble_of (by omega)) ?_ | refine And.intro (room_le (by omega)) ?_ | refine Exists.intro _ (And.intro (by assumption) ?_))
    show Ev G ⟨K, ⟨_, _, _⟩, _, _⟩ t
    refine ev_keep [0, 1, 20, 21, 22, 6, 7, 8, 11] [72] ?_
    exact cont _ _ _ _ acc hacc.symm
  | s :: ss, done, T, H, c, g8, k, acc, e, hk, hacc => by
    have hd : l.length = done.length + (ss.length + 1) := by simp [e]
    have hx : (l.map PVRoute.enc)[k.toNat]? = some s.enc := by simp [e, hk]
    have hsl : s ∈ l := by simp [e]
    have fs := hfit s hsl
    have fr := hfit r (List.mem_of_getElem? hr)
    have hrd : l.getD i default = r := by rw [List.getD_eq_getElem?_getD, hr]; rfl
    have hsd : l.getD done.length default = s := by rw [List.getD_eq_getElem?_getD]; simp [e]
    have e1 := cost_gives10 cs s (by omega)
    have e2 := sameGroup_gives r s fr.rb fs.rb
    have e3 := compare_gives13 s r cs fs.rb fr.rb fs.ru fr.ru (by omega)
    have hdl : (done ++ [s]).length = done.length + 1 := by simp
    have hw : winsL l cs i r (s :: ss) done.length acc = winsL l cs i r ss (done ++ [s]).length (if decide (done.length = i) || !(costS cs s).2 || !sameGroupS r s then acc else if better l cs done.length i then false else acc) := by rw [hdl]; rfl
    rw [hw] at hacc
    have hbt : better l cs done.length i = (decide ((compareR s r cs).1 < 0) || (decide ((compareR s r cs).1 = 0) && decide (done.length < i))) := by unfold better cm; rw [hrd, hsd]
    rw [hbt] at hacc
    generalize costS cs s = u at *
    obtain ⟨co, us'⟩ := u
    generalize sameGroupS r s = sg at *
    generalize compareR s r cs = R at *
    obtain ⟨o, st⟩ := R
    dsimp only at *
    by_cases hki : done.length = i
    · simp only [decide_eq_true hki, Bool.true_or, if_true] at hacc
      have hki' : k = (i : Int) := by omega
      refine ev_loop' (W_ok 200 _ _ _ _ ?_)
      repeat (first | refine Exists.intro _ (And.intro (unA_neg_i64 (by omega) (by omega)) ?_) | refine Exists.intro _ (And.intro (binA_quo_i64 (by omega) (by omega) (by omega)) ?_) | refine Exists.intro _ (And.intro (binA_rem_i64 (by omega) (by omega)) ?_) | refine Exists.intro _ (And.intro (binA_sub_i64 (by omega) (by omega)) ?_) | refine Exists.intro _ (And.intro (binA_add_i64 (by omega) (by omega)) ?_) | refine Exists.intro _ (And.intro (conv_i64 (by omega) (by omega)) ?_) | refine Exists.intro _ (And.intro rfl ?_) | refine And.intro rfl ?_ | refine condT ?_ | refine condF ?_ | refine condG1 ?_ | refine condG0 ?_ | refine condDT (by omega) ?_ | refine condDF (by omega) ?_ | refine condBT (by omega) ?_ | refine condBF (by omega) ?_ | refine condNT (by omega) ?_ | refine condNF (by omega) ?_ | refine And.intro (by omega) ?_ | refine And.intro (ble_of (by omega)) ?_ | refine And.intro (room_le (by omega)) ?_ | refine Exists.intro _ (And.intro (by assumption) ?_))
      refine callV (e1) (by simp [pureL, AV.pure]) (by simp [AV.dry, dryL]) ?_
      repeat (first | refine Exists.intro _ (And.intro (unA_neg_i64 (by omega) (by omega)) ?_) | refine Exists.intro _ (And.intro (binA_quo_i64 (by omega) (by omega) (by omega)) ?_) | refine Exists.intro _ (And.intro (binA_rem_i64 (by omega) (by omega)) ?_) | refine Exists.intro _ (And.intro (binA_sub_i64 (by omega) (by omega)) ?_) | refine Exists.intro _ (And.intro (binA_add_i64 (by omega) (by omega)) ?_) | refine Exists.intro _ (And.intro (conv_i64 (by omega) (by omega)) ?_) | refine Exists.intro _ (And.intro rfl ?_) | refine And.intro rfl ?_ | refine condT ?_ | refine condF ?_ | refine condG1 ?_ | refine condG0 ?_ | refine condDT (by omega) ?_ | refine condDF (by omega) ?_ | refine condBT (by omega) ?_ | refine condBF (by omega) ?_ | refine condNT (by omega) ?_ | refine condNF (by omega) ?_ | refine And.intro (by omega) ?_ | refine And.intro (ble_of (by omega)) ?_ | refine And.intro (room_le (by omega)) ?_ | refine Exists.intro _ (And.intro (by assumption) ?_))
      refine ev_keep [34, 35, 36, 0, 1, 20, 21, 22, 6, 7, 8, 11] [72] ?_
      exact wins_loop16 bi hi us cont ss (done ++ [s]) _ _ _ _ (k + 1) acc (by simp [e]) (by simp [hk]) hacc
    · have hki' : ¬ k = (i : Int) := by omega
      simp only [decide_eq_false hki, Bool.false_or] at hacc
      cases us' with
      | false =>
        simp only [Bool.not_false, Bool.true_or, if_true] at hacc
        refine ev_loop' (W_ok 200 _ _ _ _ ?_)
        repeat (first | refine Exists.intro _ (And.intro (unA_neg_i64 (by omega) (by omega)) ?_) | refine Exists.intro _ (And.intro (binA_quo_i64 (by omega) (by omega) (by omega)) ?_) | refine Exists.intro _ (And.intro (binA_rem_i64 (by omega) (by omega)) ?_) | refine Exists.intro _ (And.intro (binA_sub_i64 (by omega) (by omega)) ?_) | refine Exists.intro _ (And.intro (binA_add_i64 (by omega) (by omega)) ?_) | refine Exists.intro _ (And.intro (conv_i64 (by omega) (by omega)) ?_) | refine Exists.intro _ (And.intro rfl ?_) | refine And.intro rfl ?_ | refine condT ?_ | refine condF ?_ | refine condG1 ?_ | refine condG0 ?_ | refine condDT (by omega) ?_ | refine condDF (by omega) ?_ | refine condBT (by omega) ?_ | refine condBF (by omega) ?_ | refine condNT (by omega) ?_ | refine condNF (by omega) ?_ | refine And.intro (by omega) ?_ | refine And.intro (ble_of (by omega)) ?_ | refine And.intro (room_le (by omega)) ?_ | refine Exists.intro _ (And.intro (by assumption) ?_))
        refine callV (e1) (by simp [pureL, AV.pure]) (by simp [AV.dry, dryL]) ?_
        repeat (first | refine Exists.intro _ (And.intro (unA_neg_i64 (by omega) (by omega)) ?_) | refine Exists.intro _ (And.intro (binA_quo_i64 (by omega) (by omega) (by omega)) ?_) | refine Exists.intro _ (And.intro (binA_rem_i64 (by omega) (by omega)) ?_) | refine Exists.intro _ (And.intro (binA_sub_i64 (by omega) (by omega)) ?_) | refine Exists.intro _ (And.intro (binA_add_i64 (by omega) (by omega)) ?_) | refine Exists.intro _ (And.intro (conv_i64 (by omega) (by omega)) ?_) | refine Exists.intro _ (And.intro rfl ?_) | refine And.intro rfl ?_ | refine condT ?_ | refine condF ?_ | refine condG1 ?_ | refine condG0 ?_ | refine condDT (by omega) ?_ | refine condDF (by omega) ?_ | refine condBT (by omega) ?_ | refine condBF (by omega) ?_ | refine condNT (by omega) ?_ | refine condNF (by omega) ?_ | refine And.intro (by omega) ?_ | refine And.intro (ble_of (by omega)) ?_ | refine And.intro (room_le (by omega)) ?_ | refine Exists.intro _ (And.intro (by assumption) ?_))
        refine ev_keep [34, 35, 36, 0, 1, 20, 21, 22, 6, 7, 8, 11] [72] ?_
        exact wins_loop16 bi hi us cont ss (done ++ [s]) _ _ _ _ (k + 1) acc (by simp [e]) (by simp [hk]) hacc
      | true =>
        simp only [Bool.not_true, Bool.false_or] at hacc
        cases sg with
        | false =>
          simp only [Bool.not_false, if_true] at hacc
          refine ev_loop' (W_ok 200 _ _ _ _ ?_)
          repeat (first | refine Exists.intro _ (And.intro (unA_neg_i64 (by omega) (by omega)) ?_) | refine Exists.intro _ (And.intro (binA_quo_i64 (by omega) (by omega) (by omega)) ?_) | refine Exists.intro _ (And.intro (binA_rem_i64 (by omega) (by omega)) ?_) | refine Exists.intro _ (And.intro (binA_sub_i64 (by omega) (by omega)) ?_) | refine Exists.intro _ (And.intro (binA_add_i64 (by omega) (by omega)) ?_) | refine Exists.intro _ (And.intro (conv_i64 (by omega) (by omega)) ?_) | refine Exists.intro _ (And.intro rfl ?_) | refine And.intro rfl ?_ | refine condT ?_ | refine condF ?_ | refine condG1 ?_ | refine condG0 ?_ | refine condDT (by omega) ?_ | refine condDF (by omega) ?_ | refine condBT (by omega) ?_ | refine condBF (by omega) ?_ | refine condNT (by omega) ?_ | refine condNF (by omega) ?_ | refine And.intro (by omega) ?_ | refine And.intro (ble_of (by omega)) ?_ | refine And.intro (room_le (by omega)) ?_ | refine Exists.intro _ (And.intro (by assumption) ?_))
          refine callV (e1) (by simp [pureL, AV.pure]) (by simp [AV.dry, dryL]) ?_
          repeat (first | refine Exists.intro _ (And.intro (unA_neg_i64 (by omega) (by omega)) ?_) | refine Exists.intro _ (And.intro (binA_quo_i64 (by omega) (by omega) (by omega)) ?_) | refine Exists.intro _ (And.intro (binA_rem_i64 (by omega) (by omega)) ?_) | refine Exists.intro _ (And.intro (binA_sub_i64 (by omega) (by omega)) ?_) | refine Exists.intro _ (And.intro (binA_add_i64 (by omega) (by omega)) ?_) | refine Exists.intro _ (And.intro (conv_i64 (by omega) (by omega)) ?_) | refine Exists.intro _ (And.intro rfl ?_) | refine And.intro rfl ?_ | refine condT ?_ | refine condF ?_ | refine condG1 ?_ | refine condG0 ?_ | refine condDT (by omega) ?_ | refine condDF (by omega) ?_ | refine condBT (by omega) ?_ | refine condBF (by omega) ?_ | refine condNT (by omega) ?_ | refine condNF (by omega) ?_ | refine And.intro (by omega) ?_ | refine And.intro (ble_of (by omega)) ?_ | refine And.intro (room_le (by omega)) ?_ | refine Exists.intro _ (And.intro (by assumption) ?_))
          refine callV (e2) (by simp [pureL, AV.pure]) (by simp [AV.dry, dryL]) ?_
          repeat (first | refine Exists.intro _ (And.intro (unA_neg_i64 (by omega) (by omega)) ?_) | refine Exists.intro _ (And.intro (binA_quo_i64 (by omega) (by omega) (by omega)) ?_) | refine Exists.intro _ (And.intro (binA_rem_i64 (by omega) (by omega)) ?_) | refine Exists.intro _ (And.intro (binA_sub_i64 (by omega) (by omega)) ?_) | refine Exists.intro _ (And.intro (binA_add_i64 (by omega) (by omega)) ?_) | refine Exists.intro _ (And.intro (conv_i64 (by omega) (by omega)) ?_) | refine Exists.intro _ (And.intro rfl ?_) | refine And.intro rfl ?_ | refine condT ?_ | refine condF ?_ | refine condG1 ?_ | refine condG0 ?_ | refine condDT (by omega) ?_ | refine condDF (by omega) ?_ | refine condBT (by omega) ?_ | refine condBF (by omega) ?_ | refine condNT (by omega) ?_ | refine condNF (by omega) ?_ | refine And.intro (by omega) ?_ | refine And.intro (ble_of (by omega)) ?_ | refine And.intro (room_le (by omega)) ?_ | refine Exists.intro _ (And.intro (by assumption) ?_))
          refine ev_keep [34, 35, 36, 0, 1, 20, 21, 22, 6, 7, 8, 11] [72] ?_
          exact wins_loop16 bi hi us cont ss (done ++ [s]) _ _ _ _ (k + 1) acc (by simp [e]) (by simp [hk]) hacc
        | true =>
          simp only [Bool.not_true, Bool.false_eq_true, if_false] at hacc
          by_cases h1 : o < 0
          · simp only [decide_eq_true h1, Bool.true_or, if_true] at hacc
            refine ev_loop' (W_ok 200 _ _ _ _ ?_)
            repeat (first | refine Exists.intro _ (And.intro (unA_neg_i64 (by omega) (by omega)) ?_) | refine Exists.intro _ (And.intro (binA_quo_i64 (by omega) (by omega) (by omega)) ?_) | refine Exists.intro _ (And.intro (binA_rem_i64 (by omega) (by omega)) ?_) | refine Exists.intro _ (And.intro (binA_sub_i64 (by omega) (by omega)) ?_) | refine Exists.intro _ (And.intro (binA_add_i64 (by omega) (by omega)) ?_) | refine Exists.intro _ (And.intro (conv_i64 (by omega) (by omega)) ?_) | refine Exists.intro _ (And.intro rfl ?_) | refine And.intro rfl ?_ | refine condT ?_ | refine condF ?_ | refine condG1 ?_ | refine condG0 ?_ | refine condDT (by omega) ?_ | refine condDF (by omega) ?_ | refine condBT (by omega) ?_ | refine condBF (by omega) ?_ | refine condNT (by omega) ?_ | refine condNF (by omega) ?_ | refine And.intro (by omega) ?_ | refine And.intro (ble_of (by omega)) ?_ | refine And.intro (room_le (by omega)) ?_ | refine Exists.intro _ (And.intro (by assumption) ?_))
            refine callV (e1) (by simp [pureL, AV.pure]) (by simp [AV.dry, dryL]) ?_
            repeat (first | refine Exists.intro _ (And.intro (unA_neg_i64 (by omega) (by omega)) ?_) | refine Exists.intro _ (And.intro (binA_quo_i64 (by omega) (by omega) (by omega)) ?_) | refine Exists.intro _ (And.intro (binA_rem_i64 (by omega) (by omega)) ?_) | refine Exists.intro _ (And.intro (binA_sub_i64 (by omega) (by omega)) ?_) | refine Exists.intro _ (And.intro (binA_add_i64 (by omega) (by omega)) ?_) | refine Exists.intro _ (And.intro (conv_i64 (by omega) (by omega)) ?_) | refine Exists.intro _ (And.intro rfl ?_) | refine And.intro rfl ?_ | refine condT ?_ | refine condF ?_ | refine condG1 ?_ | refine condG0 ?_ | refine condDT (by omega) ?_ | refine condDF (by omega) ?_ | refine condBT (by omega) ?_ | refine condBF (by omega) ?_ | refine condNT (by omega) ?_ | refine condNF (by omega) ?_ | refine And.intro (by omega) ?_ | refine And.intro (ble_of (by omega)) ?_ | refine And.intro (room_le (by omega)) ?_ | refine Exists.intro _ (And.intro (by assumption) ?_))
            refine callV (e2) (by simp [pureL, AV.pure]) (by simp [AV.dry, dryL]) ?_
            repeat (first | refine Exists.intro _ (And.intro (unA_neg_i64 (by omega) (by omega)) ?_) | refine Exists.intro _ (And.intro (binA_quo_i64 (by omega) (by omega) (by omega)) ?_) | refine Exists.intro _ (And.intro (binA_rem_i64 (by omega) (by omega)) ?_) | refine Exists.intro _ (And.intro (binA_sub_i64 (by omega) (by omega)) ?_) | refine Exists.intro _ (And.intro (binA_add_i64 (by omega) (by omega)) ?_) | refine Exists.intro _ (And.intro (conv_i64 (by omega) (by omega)) ?_) | refine Exists.intro _ (And.intro rfl ?_) | refine And.intro rfl ?_ | refine condT ?_ | refine condF ?_ | refine condG1 ?_ | refine condG0 ?_ | refine condDT (by omega) ?_ | refine condDF (by omega) ?_ | refine condBT (by omega) ?_ | refine condBF (by omega) ?_ | refine condNT (by omega) ?_ | refine condNF (by omega) ?_ | refine And.intro (by omega) ?_ | refine And.intro (ble_of (by omega)) ?_ | refine And.intro (room_le (by omega)) ?_ | refine Exists.intro _ (And.intro (by assumption) ?_))
            refine callV (e3) (by simp [pureL, AV.pure]) (by simp [AV.dry, dryL]) ?_
            repeat (first | refine Exists.intro _ (And.intro (unA_neg_i64 (by omega) (by omega)) ?_) | refine Exists.intro _ (And.intro (binA_quo_i64 (by omega) (by omega) (by omega)) ?_) | refine Exists.intro _ (And.intro (binA_rem_i64 (by omega) (by omega)) ?_) | refine Exists.intro _ (And.intro (binA_sub_i64 (by omega) (by omega)) ?_) | refine Exists.intro _ (And.intro (binA_add_i64 (by omega) (by omega)) ?_) | refine Exists.intro _ (And.intro (conv_i64 (by omega) (by omega)) ?_) | refine Exists.intro _ (And.intro rfl ?_) | refine And.intro rfl ?_ | refine condT ?_ | refine condF ?_ | refine condG1 ?_ | refine condG0 ?_ | refine condDT (by omega) ?_ | refine condDF (by omega) ?_ | refine condBT (by omega) ?_ | refine condBF (by omega) ?_ | refine condNT (by omega) ?_ | refine condNF (by omega) ?_ | refine And.intro (by omega) ?_ | refine And.intro (ble_of (by omega)) ?_ | refine And.intro (room_le (by omega)) ?_ | refine Exists.intro _ (And.intro (by assumption) ?_))
            refine ev_keep [34, 35, 36, 0, 1, 20, 21, 22, 6, 7, 8, 11] [72] ?_
            exact wins_loop16 bi hi us cont ss (done ++ [s]) _ _ _ _ (k + 1) false (by simp [e]) (by simp [hk]) hacc
          · by_cases h2 : o = 0
            · by_cases h3 : done.length < i
              · have h3' : k < (i : Int) := by omega
                simp only [decide_eq_false h1, decide_eq_true h2, decide_eq_true h3, Bool.and_self, Bool.or_true, if_true] at hacc
                refine ev_loop' (W_ok 200 _ _ _ _ ?_)
                repeat (first | refine Exists.intro _ (And.intro (unA_neg_i64 (by omega) (by omega)) ?_) | refine Exists.intro _ (And.intro (binA_quo_i64 (by omega) (by omega) (by omega)) ?_) | refine Exists.intro _ (And.intro (binA_rem_i64 (by omega) (by omega)) ?_) | refine Exists.intro _ (And.intro (binA_sub_i64 (by omega) (by omega)) ?_) | refine Exists.intro _ (And.intro (binA_add_i64 (by omega) (by omega)) ?_) | refine Exists.intro _ (And.intro (conv_i64 (by omega) (by omega)) ?_) | refine Exists.intro _ (And.intro rfl ?_) | refine And.intro rfl ?_ | refine condT ?_ | refine condF ?_ | refine condG1 ?_ | refine condG0 ?_ | refine condDT (by omega) ?_ | refine condDF (by omega) ?_ | refine condBT (by omega) ?_ | refine condBF (by omega) ?_ | refine condNT (by omega) ?_ | refine condNF (by omega) ?_ | refine And.intro (by omega) ?_ | refine And.intro (ble_of (by omega)) ?_ | refine And.intro (room_le (by omega)) ?_ | refine Exists.intro _ (And.intro (by assumption) ?_))
                refine callV (e1) (by simp [pureL, AV.pure]) (by simp [AV.dry, dryL]) ?_
                repeat (first | refine Exists.intro _ (And.intro (unA_neg_i64 (by omega) (by omega)) ?_) | refine Exists.intro _ (And.intro (binA_quo_i64 (by omega) (by omega) (by omega)) ?_) | refine Exists.intro _ (And.intro (binA_rem_i64 (by omega) (by omega)) ?_) | refine Exists.intro _ (And.intro (binA_sub_i64 (by omega) (by omega)) ?_) | refine Exists.intro _ (And.intro (binA_add_i64 (by omega) (by omega)) ?_) | refine Exists.intro _ (And.intro (conv_i64 (by omega) (by omega)) ?_) | refine Exists.intro _ (And.intro rfl ?_) | refine And.intro rfl ?_ | refine condT ?_ | refine condF ?_ | refine condG1 ?_ | refine condG0 ?_ | refine condDT (by omega) ?_ | refine condDF (by omega) ?_ | refine condBT (by omega) ?_ | refine condBF (by omega) ?_ | refine condNT (by omega) ?_ | refine condNF (by omega) ?_ | refine And.intro (by omega) ?_ | refine And.intro (ble_of (by omega)) ?_ | refine And.intro (room_le (by omega)) ?_ | refine Exists.intro _ (And.intro (by assumption) ?_))
                refine callV (e2) (by simp [pureL, AV.pure]) (by simp [AV.dry, dryL]) ?_
                repeat (first | refine Exists.intro _ (And.intro (unA_neg_i64 (by omega) (by omega)) ?_) | refine Exists.intro _ (And.intro (binA_quo_i64 (by omega) (by omega) (by omega)) ?_) | refine Exists.intro _ (And.intro (binA_rem_i64 (by omega) (by omega)) ?_) | refine Exists.intro _ (And.intro (binA_sub_i64 (by omega) (by omega)) ?_) | refine Exists.intro _ (And.intro (binA_add_i64 (by omega) (by omega)) ?_) | refine Exists.intro _ (And.intro (conv_i64 (by omega) (by omega)) ?_) | refine Exists.intro _ (And.intro rfl ?_) | refine And.intro rfl ?_ | refine condT ?_ | refine condF ?_ | refine condG1 ?_ | refine condG0 ?_ | refine condDT (by omega) ?_ | refine condDF (by omega) ?_ | refine condBT (by omega) ?_ | refine condBF (by omega) ?_ | refine condNT (by omega) ?_ | refine condNF (by omega) ?_ | refine And.intro (by omega) ?_ | refine And.intro (ble_of (by omega)) ?_ | refine And.intro (room_le (by omega)) ?_ | refine Exists.intro _ (And.intro (by assumption) ?_))
                refine callV (e3) (by simp [pureL, AV.pure]) (by simp [AV.dry, dryL]) ?_
                repeat (first | refine Exists.intro _ (And.intro (unA_neg_i64 (by omega) (by omega)) ?_) | refine Exists.intro _ (And.intro (binA_quo_i64 (by omega) (by omega) (by omega)) ?_) | refine Exists.intro _ (And.intro (binA_rem_i64 (by omega) (by omega)) ?_) | refine Exists.intro _ (And.intro (binA_sub_i64 (by omega) (by omega)) ?_) | refine Exists.intro _ (And.intro (binA_add_i64 (by omega) (by omega)) ?_) | refine Exists.intro _ (And.intro (conv_i64 (by omega) (by omega)) ?_) | refine Exists.intro _ (And.intro rfl ?_) | refine And.intro rfl ?_ | refine condT ?_ | refine condF ?_ | refine condG1 ?_ | refine condG0 ?_ | refine condDT (by omega) ?_ | refine condDF (by omega) ?_ | refine condBT (by omega) ?_ | refine condBF (by omega) ?_ | refine condNT (by omega) ?_ | refine condNF (by omega) ?_ | refine And.intro (by omega) ?_ | refine And.intro (ble_of (by omega)) ?_ | refine And.intro (room_le (by omega)) ?_ | refine Exists.intro _ (And.intro (by assumption) ?_))
                refine ev_keep [34, 35, 36, 0, 1, 20, 21, 22, 6, 7, 8, 11] [72] ?_
                exact wins_loop16 bi hi us cont ss (done ++ [s]) _ _ _ _ (k + 1) false (by simp [e]) (by simp [hk]) hacc
              · have h3' : ¬ k < (i : Int) := by omega
                simp only [decide_eq_false h1, decide_eq_true h2, decide_eq_false h3, Bool.and_false, Bool.or_self, Bool.false_eq_true, if_false] at hacc
                refine ev_loop' (W_ok 200 _ _ _ _ ?_)
                repeat (first | refine Exists.intro _ (And.intro (unA_neg_i64 (by omega) (by omega)) ?_) | refine Exists.intro _ (And.intro (binA_quo_i64 (by omega) (by omega) (by omega)) ?_) | refine Exists.intro _ (And.intro (binA_rem_i64 (by omega) (by omega)) ?_) | refine Exists.intro _ (And.intro (binA_sub_i64 (by omega) (by omega)) ?_) | refine Exists.intro _ (And.intro (binA_add_i64 (by omega) (by omega)) ?_) | refine Exists.intro _ (And.intro (conv_i64 (by omega) (by omega)) ?_) | refine Exists.intro _ (And.intro rfl ?_) | refine And.intro rfl ?_ | refine condT ?_ | refine condF ?_ | refine condG1 ?_ | refine condG0 ?_ | refine condDT (by omega) ?_ | refine condDF (by omega) ?_ | refine condBT (by omega) ?_ | refine condBF (by omega) ?_ | refine condNT (by omega) ?_ | refine condNF (by omega) ?_ | refine And.intro (by omega) ?_ | refine And.intro (ble_of (by omega)) ?_ | refine And.intro (room_le (by omega)) ?_ | refine Exists.intro _ (And.intro (by assumption) ?_))
                refine callV (e1) (by simp [pureL, AV.pure]) (by simp [AV.dry, dryL]) ?_
                repeat (first | refine Exists.intro _ (And.intro (unA_neg_i64 (by omega) (by omega)) ?_) | refine Exists.intro _ (And.intro (binA_quo_i64 (by omega) (by omega) (by omega)) ?_) | refine Exists.intro _ (And.intro (binA_rem_i64 (by omega) (by omega)) ?_) | refine Exists.intro _ (And.intro (binA_sub_i64 (by omega) (by omega)) ?_) | refine Exists.intro _ (And.intro (binA_add_i64 (by omega) (by omega)) ?_) | refine Exists.intro _ (And.intro (conv_i64 (by omega) (by omega)) ?_) | refine Exists.intro _ (And.intro rfl ?_) | refine And.intro rfl ?_ | refine condT ?_ | refine condF ?_ | refine condG1 ?_ | refine condG0 ?_ | refine condDT (by omega) ?_ | refine condDF (by omega) ?_ | refine condBT (by omega) ?_ | refine condBF (by omega) ?_ | refine condNT (by omega) ?_ | refine condNF (by omega) ?_ | refine And.intro (by omega) ?_ | refine And.intro (ble_of (by omega)) ?_ | refine And.intro (room_le (by omega)) ?_ | refine Exists.intro _ (And.intro (by assumption) ?_))
                refine callV (e2) (by simp [pureL, AV.pure]) (by simp [AV.dry, dryL]) ?_
                repeat (first | refine Exists.intro _ (And.intro (unA_neg_i64 (by omega) (by omega)) ?_) | refine Exists.intro _ (And.intro (binA_quo_i64 (by omega) (by omega) (by omega)) ?_) | refine Exists.intro _ (And.intro (binA_rem_i64 (by omega) (by omega)) ?_) | refine Exists.intro _ (And.intro (binA_sub_i64 (by omega) (by omega)) ?_) | refine Exists.intro _ (And.intro (binA_add_i64 (by omega) (by omega)) ?_) | refine Exists.intro _ (And.intro (conv_i64 (by omega) (by omega)) ?_) | refine Exists.intro _ (And.intro rfl ?_) | refine And.intro rfl ?_ | refine condT ?_ | refine condF ?_ | refine condG1 ?_ | refine condG0 ?_ | refine condDT (by omega) ?_ | refine condDF (by omega) ?_ | refine condBT (by omega) ?_ | refine condBF (by omega) ?_ | refine condNT (by omega) ?_ | refine condNF (by omega) ?_ | refine And.intro (by omega) ?_ | refine And.intro (ble_of (by omega)) ?_ | refine And.intro (room_le (by omega)) ?_ | refine Exists.intro _ (And.intro (by assumption) ?_))
                refine callV (e3) (by simp [pureL, AV.pure]) (by simp [AV.dry, dryL]) ?_
                repeat (first | refine Exists.intro _ (And.intro (unA_neg_i64 (by omega) (by omega)) ?_) | refine Exists.intro _ (And.intro (binA_quo_i64 (by omega) (by omega) (by omega)) ?_) | refine Exists.intro _ (And.intro (binA_rem_i64 (by omega) (by omega)) ?_) | refine Exists.intro _ (And.intro (binA_sub_i64 (by omega) (by omega)) ?_) | refine Exists.intro _ (And.intro (binA_add_i64 (by omega) (by omega)) ?_) | refine Exists.intro _ (And.intro (conv_i64 (by omega) (by omega)) ?_) | refine Exists.intro _ (And.intro rfl ?_) | refine And.intro rfl ?_ | refine condT ?_ | refine condF ?_ | refine condG1 ?_ | refine condG0 ?_ | refine condDT (by omega) ?_ | refine condDF (by omega) ?_ | refine condBT (by omega) ?_ | refine condBF (by omega) ?_ | refine condNT (by omega) ?_ | refine condNF (by omega) ?_ | refine And.intro (by omega) ?_ | refine And.intro (ble_of (by omega)) ?_ | refine And.intro (room_le (by omega)) ?_ | refine Exists.intro _ (And.intro (by assumption) ?_))
                refine ev_keep [34, 35, 36, 0, 1, 20, 21, 22, 6, 7, 8, 11] [72] ?_
                exact wins_loop16 bi hi us cont ss (done ++ [s]) _ _ _ _ (k + 1) acc (by simp [e]) (by simp [hk]) hacc
            · simp only [decide_eq_false h1, decide_eq_false h2, Bool.false_and, Bool.or_self, Bool.false_eq_true, if_false] at hacc
              refine ev_loop' (W_ok 200 _ _ _ _ ?_)
              repeat (first | refine Exists.intro _ (And.intro (unA_neg_i64 (by omega) (by omega)) ?_) | refine Exists.intro _ (And.intro (binA_quo_i64 (by omega) (by omega) (by omega)) ?_) | refine Exists.intro _ (And.intro (binA_rem_i64 (by omega) (by omega)) ?_) | refine Exists.intro _ (And.intro (binA_sub_i64 (by omega) (by omega)) ?_) | refine Exists.intro _ (And.intro (binA_add_i64 (by omega) (by omega)) ?_) | refine Exists.intro _ (And.intro (conv_i64 (by omega) (by omega)) ?_) | refine Exists.intro _ (And.intro rfl ?_) | refine And.intro rfl ?_ | refine condT ?_ | refine condF ?_ | refine condG1 ?_ | refine condG0 ?_ | refine condDT (by omega) ?_ | refine condDF (by omega) ?_ | refine condBT (by omega) ?_ | refine condBF (by omega) ?_ | refine condNT (by omega) ?_ | refine condNF (by omega) ?_ | refine And.intro (by omega) ?_ | refine And.intro (ble_of (by omega)) ?_ | refine And.intro (room_le (by omega)) ?_ | refine Exists.intro _ (And.intro (by assumption) ?_))
              refine callV (e1) (by simp [pureL, AV.pure]) (by simp [AV.dry, dryL]) ?_
              repeat (first | refine Exists.intro _ (And.intro (unA_neg_i64 (by omega) (by omega)) ?_) | refine Exists.intro _ (And.intro (binA_quo_i64 (by omega) (by omega) (by omega)) ?_) | refine Exists.intro _ (And.intro (binA_rem_i64 (by omega) (by omega)) ?_) | refine Exists.intro _ (And.intro (binA_sub_i64 (by omega) (by omega)) ?_) | refine Exists.intro _ (And.intro (binA_add_i64 (by omega) (by omega)) ?_) | refine Exists.intro _ (And.intro (conv_i64 (by omega) (by omega)) ?_) | refine Exists.intro _ (And.intro rfl ?_) | refine And.intro rfl ?_ | refine condT ?_ | refine condF ?_ | refine condG1 ?_ | refine condG0 ?_ | refine condDT (by omega) ?_ | refine condDF (by omega) ?_ | refine condBT (by omega) ?_ | refine condBF (by omega) ?_ | refine condNT (by omega) ?_ | refine condNF (by omega) ?_ | refine And.intro (by omega) ?_ | refine And.intro (ble_of (by omega)) ?_ | refine And.intro (room_le (by omega)) ?_ | refine Exists.intro _ (And.intro (by assumption) ?_))
              refine callV (e2) (by simp [pureL, AV.pure]) (by simp [AV.dry, dryL]) ?_
              repeat (first | refine Exists.intro _ (And.intro (unA_neg_i64 (by omega) (by omega)) ?_) | refine Exists.intro _ (And.intro (binA_quo_i64 (by omega) (by omega) (by omega)) ?_) | refine Exists.intro _ (And.intro (binA_rem_i64 (by omega) (by omega)) ?_) | refine Exists.intro _ (And.intro (binA_sub_i64 (by omega) (by omega)) ?_) | refine Exists.intro _ (And.intro (binA_add_i64 (by omega) (by omega)) ?_) | refine Exists.intro _ (And.intro (conv_i64 (by omega) (by omega)) ?_) | refine Exists.intro _ (And.intro rfl ?_) | refine And.intro rfl ?_ | refine condT ?_ | refine condF ?_ | refine condG1 ?_ | refine condG0 ?_ | refine condDT (by omega) ?_ | refine condDF (by omega) ?_ | refine condBT (by omega) ?_ | refine condBF (by omega) ?_ | refine condNT (by omega) ?_ | refine condNF (by omega) ?_ | refine And.intro (by omega) ?_ | refine And.intro (ble_of (by omega)) ?_ | refine And.intro (room_le (by omega)) ?_ | refine Exists.intro _ (And.intro (by assumption) ?_))
              refine callV (e3) (by simp [pureL, AV.pure]) (by simp [AV.dry, dryL]) ?_
              repeat (first | refine Exists.intro _ (And.intro (unA_neg_i64 (by omega) (by omega)) ?_) | refine Exists.intro _ (And.intro (binA_quo_i64 (by omega) (by omega) (by omega)) ?_) | refine Exists.intro _ (And.intro (binA_rem_i64 (by omega) (by omega)) ?_) | refine Exists.intro _ (And.intro (binA_sub_i64 (by omega) (by omega)) ?_) | refine Exists.intro _ (And.intro (binA_add_i64 (by omega) (by omega)) ?_) | refine Exists.intro _ (And.intro (conv_i64 (by omega) (by omega)) ?_) | refine Exists.intro _ (And.intro rfl ?_) | refine And.intro rfl ?_ | refine condT ?_ | refine condF ?_ | refine condG1 ?_ | refine condG0 ?_ | refine condDT (by omega) ?_ | refine condDF (by omega) ?_ | refine condBT (by omega) ?_ | refine condBF (by omega) ?_ | refine condNT (by omega) ?_ | refine condNF (by omega) ?_ | refine And.intro (by omega) ?_ | refine And.intro (ble_of (by omega)) ?_ | refine And.intro (room_le (by omega)) ?_ | refine Exists.intro _ (And.intro (by assumption) ?_))
              refine ev_keep [34, 35, 36, 0, 1, 20, 21, 22, 6, 7, 8, 11] [72] ?_
              exact wins_loop16 bi hi us cont ss (done ++ [s]) _ _ _ _ (k + 1) acc (by simp [e]) (by simp [hk]) hacc
end
end Go.AM.IR
namespace Go.AM.IR
set_option maxHeartbeats 2000000
set_option maxRecDepth 100000
def bestStep (l : List PVRoute) (cs : List IGP) (i : Nat) (b : Option Nat) : Option Nat := match b with
  | none => some i
  | some b => if (cm l cs i b).1 < 0 then some i else some b
def bestR (l : List PVRoute) (cs : List IGP) : List PVRoute → Nat → Option Nat → Option Nat
  | [], _, b => b
  | r :: rs, i, b => bestR l cs rs (i + 1) (if winsL l cs i r l 0 (costS cs r).2 then bestStep l cs i b else b)
section
variable (l : List PVRoute) (hl : l.length < 2 ^ 40) (hfit : ∀ r ∈ l, Fit r) (cs : List IGP) (hcs : cs.length < 2 ^ 40)
include hl hfit hcs
theorem rbest_loop : ∀ (rest done : List PVRoute) (b : Option Nat) (hb : ∀ x, b = some x → x < l.length) (T : List (Nat × AV)) (H : Heap) (c : Nat) (n bi : Int) (e : l = done ++ rest) (hn : n = done.length) (hbi : bi = oI b),
    Ev G ⟨[.inLoop f15x23L, .inBlock 0, .code (.seq (.seq (.region f15x24 false) (.cond (.t 98) (.seq (.region f15x25 false) .ret) .skip)) (.seq (.region f15x26 false) .ret))],
      ⟨(0, .sl 22 (l.map PVRoute.enc)) :: (1, .sl 2 (cs.map IGP.enc)) :: (20, .sl 22 (l.map PVRoute.enc)) :: (21, .int .i64 l.length) :: (22, .int .i64 n) :: (6, .int .i64 bi) :: T, H, c⟩, [.t 4, .t 5], 0⟩ ⟨bestRet (bestR l cs rest done.length b), []⟩
  | [], done, b, hb, T, H, c, n, bi, e, hn, hbi => by
    have hd : l.length = done.length := by simp [e]
    cases b with
    | none =>
      have hbi : bi = -1 := hbi
      refine ev_loop' (W_ok 200 _ _ _ _ ?_)
      repeat (first | refine Exists.intro _ (And.intro (unA_neg_i64 (by omega) (by omega)) ?_) | refine Exists.intro _ (And.intro (binA_quo_i64 (by omega) (by omega) (by omega)) ?_) | refine Exists.intro _ (And.intro (binA_rem_i64 (by omega) (by omega)) ?_) | refine Exists.intro _ (And.intro (binA_sub_i64 (by omega) (by omega)) ?_) | refine Exists.intro _ (And.intro (binA_add_i64 (by omega) (by omega)) ?_) | refine Exists.intro _ (And.intro (conv_i64 (by omega) (by omega)) ?_) | refine Exists.intro _ (And.intro rfl ?_) | refine And.intro rfl ?_ | refine condT ?_ | refine condF ?_ | refine condG1 ?_ | refine condG0 ?_ | refine condDT (by omega) ?_ | refine condDF (by omega) ?_ | refine condBT (by omega) ?_ | refine condBF (by omega) ?_ | refine condNT (by omega) ?_ | refine condNF (by omega) ?_ | refine And.intro (by omega) ?_ | refine And.intro (ble_of (by omega)) ?_ | refine And.intro (room_le (by omega)) ?_ | refine Exists.intro _ (And.intro (by assumption) ?_))
      rfl
    | some b =>
      have hbi : bi = b := hbi
      subst hbi
      refine ev_loop' (W_ok 200 _ _ _ _ ?_)
      repeat (first | refine Exists.intro _ (And.intro (unA_neg_i64 (by omega) (by omega)) ?_) | refine Exists.intro _ (And.intro (binA_quo_i64 (by omega) (by omega) (by omega)) ?_) | refine Exists.intro _ (And.intro (binA_rem_i64 (by omega) (by omega)) ?_) | refine Exists.intro _ (And.intro (binA_sub_i64 (by omega) (by omega)) ?_) | refine Exists.intro _ (And.intro (binA_add_i64 (by omega) (by omega)) ?_) | refine Exists.intro _ (And.intro (conv_i64 (by omega) (by omega)) ?_) | refine Exists.intro _ (And.intro rfl ?_) | refine And.intro rfl ?_ | refine condT ?_ | refine condF ?_ | refine condG1 ?_ | refine condG0 ?_ | refine condDT (by omega) ?_ | refine condDF (by omega) ?_ | refine condBT (by omega) ?_ | refine condBF (by omega) ?_ | refine condNT (by omega) ?_ | refine condNF (by omega) ?_ | refine And.intro (by omega) ?_ | refine And.intro (ble_of (by omega)) ?_ | refine And.intro (room_le (by omega)) ?_ | refine Exists.intro _ (And.intro (by assumption) ?_))
      rfl
  | r :: rs, done, b, hb, T, H, c, n, bi, e, hn, hbi => by
    have hd : l.length = done.length + (rs.length + 1) := by simp [e]
    have hx : (l.map PVRoute.enc)[n.toNat]? = some r.enc := by simp [e, hn]
    have hx0 : l[done.length]? = some r := by simp [e]
    have hlm : (l.map PVRoute.enc).length = l.length := by simp
    have fr := hfit r (List.mem_of_getElem? hx0)
    have hrd : l.getD done.length default = r := by rw [List.getD_eq_getElem?_getD, hx0]; rfl
    have e1 := cost_gives10 cs r (by omega)
    have hdl : (done ++ [r]).length = done.length + 1 := by simp
    have hw : bestR l cs (r :: rs) done.length b = bestR l cs rs (done ++ [r]).length (if winsL l cs done.length r l 0 (costS cs r).2 then bestStep l cs done.length b else b) := by rw [hdl]; rfl
    rw [hw]
    have inner := fun K t cont => wins_loop16 l hl hfit cs hcs done.length r hx0 K t bi (by omega) (costS cs r).2 cont l []
    generalize hwin : winsL l cs done.length r l 0 (costS cs r).2 = win at *
    generalize costS cs r = u at *
    obtain ⟨co, us⟩ := u
    dsimp only at *
    subst hn
    refine ev_loop' (W_ok 200 _ _ _ _ ?_)
    repeat (first | refine Exists.intro _ (And.intro (unA_neg_i64 (by omega) (by omega)) ?_) | refine Exists.intro _ (And.intro (binA_quo_i64 (by omega) (by omega) (by omega)) ?_) | refine Exists.intro _ (And.intro (binA_rem_i64 (by omega) (by omega)) ?_) | refine Exists.intro _ (And.intro (binA_sub_i64 (by omega) (by omega)) ?_) | refine Exists.intro _ (And.intro (binA_add_i64 (by omega) (by omega)) ?_) | refine Exists.intro _ (And.intro (conv_i64 (by omega) (by omega)) ?_) | refine Exists.intro _ (And.intro rfl ?_) | refine And.intro rfl ?_ | refine condT ?_ | refine condF ?_ | refine condG1 ?_ | refine condG0 ?_ | refine condDT (by omega) ?_ | refine condDF (by omega) ?_ | refine condBT (by omega) ?_ | refine condBF (by omega) ?_ | refine condNT (by omega) ?_ | refine condNF (by omega) ?_ | refine And.intro (by omega) ?_ | refine And.intro (ble_of (by omega)) ?_ | refine And.intro (room_le (by omega)) ?_ | refine Exists.intro _ (And.intro (by assumption) ?_))
    refine callV (e1) (by simp [pureL, AV.pure]) (by simp [AV.dry, dryL]) ?_
    repeat (first | refine Exists.intro _ (And.intro (unA_neg_i64 (by omega) (by omega)) ?_) | refine Exists.intro _ (And.intro (binA_quo_i64 (by omega) (by omega) (by omega)) ?_) | refine Exists.intro _ (And.intro (binA_rem_i64 (by omega) (by omega)) ?_) | refine Exists.intro _ (And.intro (binA_sub_i64 (by omega) (by omega)) ?_) | refine Exists.intro _ (And.intro (binA_add_i64 (by omega) (by omega)) ?_) | refine Exists.intro _ (And.intro (conv_i64 (by omega) (by omega)) ?_) | refine Exists.intro _ (And.intro rfl ?_) | refine And.intro rfl ?_ | refine condT ?_ | refine condF ?_ | refine condG1 ?_ | refine condG0 ?_ | refine condDT (by omega) ?_ | refine condDF (by omega) ?_ | refine condBT (by omega) ?_ | refine condBF (by omega) ?_ | refine condNT (by omega) ?_ | refine condNF (by omega) ?_ | refine And.intro (by omega) ?_ | refine And.intro (ble_of (by omega)) ?_ | refine And.intro (room_le (by omega)) ?_ | refine Exists.intro _ (And.intro (by assumption) ?_))
    refine ev_keep [34, 35, 36, 0, 1, 20, 21, 22, 6, 7, 8, 11] [72] ?_
    simp only [hlm]
    refine inner _ _ ?_ _ _ _ _ 0 us rfl rfl hwin.symm
    intro T' H' c' g' acc hacc
    subst hacc
    cases acc with
    | false =>
      refine W_ok 60 _ _ _ _ ?_
      repeat (first | refine Exists.intro _ (And.intro (unA_neg_i64 (by omega) (by omega)) ?_) | refine Exists.intro _ (And.intro (binA_quo_i64 (by omega) (by omega) (by omega)) ?_) | refine Exists.intro _ (And.intro (binA_rem_i64 (by omega) (by omega)) ?_) | refine Exists.intro _ (And.intro (binA_sub_i64 (by omega) (by omega)) ?_) | refine Exists.intro _ (And.intro (binA_add_i64 (by omega) (by omega)) ?_) | refine Exists.intro _ (And.intro (conv_i64 (by omega) (by omega)) ?_) | refine Exists.intro _ (And.intro rfl ?_) | refine And.intro rfl ?_ | refine condT ?_ | refine condF ?_ | refine condG1 ?_ | refine condG0 ?_ | refine condDT (by omega) ?_ | refine condDF (by omega) ?_ | refine condBT (by omega) ?_ | refine condBF (by omega) ?_ | refine condNT (by omega) ?_ | refine condNF (by omega) ?_ | refine And.intro (by omega) ?_ | refine And.intro (ble_of (by omega)) ?_ | refine And.intro (room_le (by omega)) ?_ | refine Exists.intro _ (And.intro (by assumption) ?_))
      refine ev_keep [0, 1, 20, 21, 22, 6] [] ?_
      exact rbest_loop rs (done ++ [r]) b hb _ _ _ _ _ (by simp [e]) (by simp) hbi
    | true =>
      simp only [if_true]
      cases b with
      | none =>
        have hbi : bi = -1 := hbi
        refine W_ok 60 _ _ _ _ ?_
        repeat (first | refine Exists.intro _ (And.intro (unA_neg_i64 (by omega) (by omega)) ?_) | refine Exists.intro _ (And.intro (binA_quo_i64 (by omega) (by omega) (by omega)) ?_) | refine Exists.intro _ (And.intro (binA_rem_i64 (by omega) (by omega)) ?_) | refine Exists.intro _ (And.intro (binA_sub_i64 (by omega) (by omega)) ?_) | refine Exists.intro _ (And.intro (binA_add_i64 (by omega) (by omega)) ?_) | refine Exists.intro _ (And.intro (conv_i64 (by omega) (by omega)) ?_) | refine Exists.intro _ (And.intro rfl ?_) | refine And.intro rfl ?_ | refine condT ?_ | refine condF ?_ | refine condG1 ?_ | refine condG0 ?_ | refine condDT (by omega) ?_ | refine condDF (by omega) ?_ | refine condBT (by omega) ?_ | refine condBF (by omega) ?_ | refine condNT (by omega) ?_ | refine condNF (by omega) ?_ | refine And.intro (by omega) ?_ | refine And.intro (ble_of (by omega)) ?_ | refine And.intro (room_le (by omega)) ?_ | refine Exists.intro _ (And.intro (by assumption) ?_))
        refine ev_keep [0, 1, 20, 21, 22, 6] [] ?_
        exact rbest_loop rs (done ++ [r]) (some done.length) (by intro x hx; cases hx; omega) _ _ _ _ _ (by simp [e]) (by simp) rfl
      | some b =>
        have hbi : bi = b := hbi
        subst hbi
        have hbl : b < l.length := hb b rfl
        obtain ⟨z, hz⟩ : ∃ z, l[b]? = some z := ⟨l[b], List.getElem?_eq_getElem hbl⟩
        have hzd : l.getD b default = z := by rw [List.getD_eq_getElem?_getD, hz]; rfl
        have fz := hfit z (List.mem_of_getElem? hz)
        have hzw : (l.map PVRoute.enc)[((b : Int)).toNat]? = some z.enc := by simp [hz]
        have e3 := compare_gives13 r z cs fr.rb fz.rb fr.ru fz.ru (by omega)
        have hbs : bestStep l cs done.length (some b) = if (compareR r z cs).1 < 0 then some done.length else some b := by show (if (compareR (l.getD done.length default) (l.getD b default) cs).1 < 0 then some done.length else some b) = _; rw [hrd, hzd]
        rw [hbs]
        generalize compareR r z cs = R at *
        obtain ⟨o, st⟩ := R
        dsimp only at *
        by_cases h1 : o < 0
        · rw [if_pos h1]
          refine W_ok 100 _ _ _ _ ?_
          repeat (first | refine Exists.intro _ (And.intro (unA_neg_i64 (by omega) (by omega)) ?_) | refine Exists.intro _ (And.intro (binA_quo_i64 (by omega) (by omega) (by omega)) ?_) | refine Exists.intro _ (And.intro (binA_rem_i64 (by omega) (by omega)) ?_) | refine Exists.intro _ (And.intro (binA_sub_i64 (by omega) (by omega)) ?_) | refine Exists.intro _ (And.intro (binA_add_i64 (by omega) (by omega)) ?_) | refine Exists.intro _ (And.intro (conv_i64 (by omega) (by omega)) ?_) | refine Exists.intro _ (And.intro rfl ?_) | refine And.intro rfl ?_ | refine condT ?_ | refine condF ?_ | refine condG1 ?_ | refine condG0 ?_ | refine condDT (by omega) ?_ | refine condDF (by omega) ?_ | refine condBT (by omega) ?_ | refine condBF (by omega) ?_ | refine condNT (by omega) ?_ | refine condNF (by omega) ?_ | refine And.intro (by omega) ?_ | refine And.intro (ble_of (by omega)) ?_ | refine And.intro (room_le (by omega)) ?_ | refine Exists.intro _ (And.intro (by assumption) ?_))
          refine callV (e3) (by simp [pureL, AV.pure]) (by simp [AV.dry, dryL]) ?_
          repeat (first | refine Exists.intro _ (And.intro (unA_neg_i64 (by omega) (by omega)) ?_) | refine Exists.intro _ (And.intro (binA_quo_i64 (by omega) (by omega) (by omega)) ?_) | refine Exists.intro _ (And.intro (binA_rem_i64 (by omega) (by omega)) ?_) | refine Exists.intro _ (And.intro (binA_sub_i64 (by omega) (by omega)) ?_) | refine Exists.intro _ (And.intro (binA_add_i64 (by omega) (by omega)) ?_) | refine Exists.intro _ (And.intro (conv_i64 (by omega) (by omega)) ?_) | refine Exists.intro _ (And.intro rfl ?_) | refine And.intro rfl ?_ | refine condT ?_ | refine condF ?_ | refine condG1 ?_ | refine condG0 ?_ | refine condDT (by omega) ?_ | refine condDF (by omega) ?_ | refine condBT (by omega) ?_ | refine condBF (by omega) ?_ | refine condNT (by omega) ?_ | refine condNF (by omega) ?_ | refine And.intro (by omega) ?_ | refine And.intro (ble_of (by omega)) ?_ | refine And.intro (room_le (by omega)) ?_ | refine Exists.intro _ (And.intro (by assumption) ?_))
          refine ev_keep [0, 1, 20, 21, 22, 6] [] ?_
          exact rbest_loop rs (done ++ [r]) (some done.length) (by intro x hx; cases hx; omega) _ _ _ _ _ (by simp [e]) (by simp) rfl
        · rw [if_neg h1]
          refine W_ok 100 _ _ _ _ ?_
          repeat (first | refine Exists.intro _ (And.intro (unA_neg_i64 (by omega) (by omega)) ?_) | refine Exists.intro _ (And.intro (binA_quo_i64 (by omega) (by omega) (by omega)) ?_) | refine Exists.intro _ (And.intro (binA_rem_i64 (by omega) (by omega)) ?_) | refine Exists.intro _ (And.intro (binA_sub_i64 (by omega) (by omega)) ?_) | refine Exists.intro _ (And.intro (binA_add_i64 (by omega) (by omega)) ?_) | refine Exists.intro _ (And.intro (conv_i64 (by omega) (by omega)) ?_) | refine Exists.intro _ (And.intro rfl ?_) | refine And.intro rfl ?_ | refine condT ?_ | refine condF ?_ | refine condG1 ?_ | refine condG0 ?_ | refine condDT (by omega) ?_ | refine condDF (by omega) ?_ | refine condBT (by omega) ?_ | refine condBF (by omega) ?_ | refine condNT (by omega) ?_ | refine condNF (by omega) ?_ | refine And.intro (by omega) ?_ | refine And.intro (ble_of (by omega)) ?_ | refine And.intro (room_le (by omega)) ?_ | refine Exists.intro _ (And.intro (by assumption) ?_))
          refine callV (e3) (by simp [pureL, AV.pure]) (by simp [AV.dry, dryL]) ?_
          repeat (first | refine Exists.intro _ (And.intro (unA_neg_i64 (by omega) (by omega)) ?_) | refine Exists.intro _ (And.intro (binA_quo_i64 (by omega) (by omega) (by omega)) ?_) | refine Exists.intro _ (And.intro (binA_rem_i64 (by omega) (by omega)) ?_) | refine Exists.intro _ (And.intro (binA_sub_i64 (by omega) (by omega)) ?_) | refine Exists.intro _ (And.intro (binA_add_i64 (by omega) (by omega)) ?_) | refine Exists.intro _ (And.intro (conv_i64 (by omega) (by omega)) ?_) | refine Exists.intro _ (And.intro rfl ?_) | refine And.intro rfl ?_ | refine condT ?_ | refine condF ?_ | refine condG1 ?_ | refine condG0 ?_ | refine condDT (by omega) ?_ | refine condDF (by omega) ?_ | refine condBT (by omega) ?_ | refine condBF (by omega) ?_ | refine condNT (by omega) ?_ | refine condNF (by omega) ?_ | refine And.intro (by omega) ?_ | refine And.intro (ble_of (by omega)) ?_ | refine And.intro (room_le (by omega)) ?_ | refine Exists.intro _ (And.intro (by assumption) ?_))
          refine ev_keep [0, 1, 20, 21, 22, 6] [] ?_
          exact rbest_loop rs (done ++ [r]) (some b) (by intro x hx; cases hx; exact hbl) _ _ _ _ _ (by simp [e]) (by simp) rfl
theorem best_gives15 : Gives G 15 [.sl 22 (l.map PVRoute.enc), .sl 2 (cs.map IGP.enc)] [] ⟨bestRet (bestR l cs l 0 none), []⟩ := by
  have key := rbest_loop l hl hfit cs hcs l [] none (by intro x hx; cases hx)
  refine gives_code (F := f15) rfl rfl (W_ok 60 _ _ _ _ ?_)
  repeat (first | refine Exists.intro _ (And.intro (unA_neg_i64 (by omega) (by omega)) ?_) | refine Exists.intro _ (And.intro (binA_quo_i64 (by omega) (by omega) (by omega)) ?_) | refine Exists.intro _ (And.intro (binA_rem_i64 (by omega) (by omega)) ?_) | refine Exists.intro _ (And.intro (binA_sub_i64 (by omega) (by omega)) ?_) | refine Exists.intro _ (And.intro (binA_add_i64 (by omega) (by omega)) ?_) | refine Exists.intro _ (And.intro (conv_i64 (by omega) (by omega)) ?_) | refine Exists.intro _ (And.intro rfl ?_) | refine And.intro rfl ?_ | refine condT ?_ | refine condF ?_ | refine condG1 ?_ | refine condG0 ?_ | refine condDT (by omega) ?_ | refine condDF (by omega) ?_ | refine condBT (by omega) ?_ | refine condBF (by omega) ?_ | refine condNT (by omega) ?_ | refine condNF (by omega) ?_ | refine And.intro (by omega) ?_ | refine And.intro (ble_of (by omega)) ?_ | refine And.intro (room_le (by omega)) ?_ | refine Exists.intro _ (And.intro (by assumption) ?_))
  refine ev_keep [0, 1, 20, 21, 22, 6] [] ?_
  simp only [List.length_map]
  exact key _ _ _ 0 _ rfl rfl rfl
end
end Go.AM.IR
namespace Go.AM.IR
set_option maxHeartbeats 4000000
set_option maxRecDepth 100000
def eqStep (l : List PVRoute) (cs : List IGP) (best : Nat) (n : Int) (r : PVRoute) (i : Nat) (out : List Nat) : List Nat :=
  if (costS cs r).2 && decide (i ≠ best) && decide ((out.length : Int) < n) && (decide ((compareR r (l.getD best default) cs).2 = 0) || decide ((compareR r (l.getD best default) cs).2 > 7)) then out ++ [i] else out
def eqL (l : List PVRoute) (cs : List IGP) (best : Nat) (n : Int) : List PVRoute → Nat → List Nat → List Nat
  | [], _, out => out
  | r :: rs, i, out => eqL l cs best n rs (i + 1) (eqStep l cs best n r i out)
section
variable (l : List PVRoute) (hl : l.length < 2 ^ 40) (hfit : ∀ r ∈ l, Fit r) (cs : List IGP) (hcs : cs.length < 2 ^ 40) (best : Nat) (z : PVRoute) (hz : l[best]? = some z) (nn : Int)
include hl hfit hcs hz
theorem eq_loop16 : ∀ (rest done : List PVRoute) (out : List Nat) (hol : out.length ≤ done.length + 1) (T : List (Nat × AV)) (H : Heap) (c g m : Nat) (k : Int) (es : List (List AV)) (e : l = done ++ rest) (hk : k = done.length) (hm : m = out.length) (hes : es = out.map idxE),
    Ev G ⟨[.inLoop f16x13L, .inBlock 0, .code (.seq (.region f16x14 false) .ret)],
      ⟨(30, .sl 22 (l.map PVRoute.enc)) :: (31, .int .i64 l.length) :: (32, .int .i64 k) :: (0, .sl 22 (l.map PVRoute.enc)) :: (1, .sl 2 (cs.map IGP.enc)) :: (2, .int .i64 nn) :: (7, .int .i64 best) :: (9, .vs 93 g m) :: T, (93, some (g, .vec 1 es)) :: H, c⟩, [.t 6], 0⟩
      ⟨.vs 0 0 (eqL l cs best nn rest done.length out).length, [(false, .vec 1 ((eqL l cs best nn rest done.length out).map idxE))]⟩
  | [], done, out, hol, T, H, c, g, m, k, es, e, hk, hm, hes => by
    have hd : l.length = done.length := by simp [e]
    refine ev_loop' (W_ok 200 _ _ _ _ ?_)
    repeat (first | refine Exists.intro _ (And.intro (unA_neg_i64 (by omega) (by omega)) ?_) | refine Exists.intro _ (And.intro (binA_quo_i64 (by omega) (by omega) (by omega)) ?_) | refine Exists.intro _ (And.intro (binA_rem_i64 (by omega) (by omega)) ?_) | refine Exists.intro _ (And.intro (binA_sub_i64 (by omega) (by omega)) ?_) | refine Exists.intro _ (And.intro (binA_add_i64 (by omega) (by omega)) ?_) | refine Exists.intro _ (And.intro (conv_i64 (by omega) (by omega)) ?_) | refine Exists.intro _ (And.intro rfl ?_) | refine And.intro rfl ?_ | refine condT ?_ | refine condF ?_ | refine condG1 ?_ | refine condG0 ?_ | refine condDT (by omega) ?_ | refine condDF (by omega) ?_ | refine condBT (by omega) ?_ | refine condBF (by omega) ?_ | refine condNT (by omega) ?_ | refine condNF (by omega) ?_ | refine And.intro (by omega) ?_ | refine And.intro (ble_of (by omega)) ?_ | refine And.intro (room_le (by omega)) ?_ | refine Exists.intro _ (And.intro (by assumption) ?_))
    refine ret_vs 93 g m (.vec 1 es) ?_ ?_ (by rw [hes]; exact pure_idx _) hm (by rw [hes]; rfl)
    · rfl
    · rfl
  | r :: rs, done, out, hol, T, H, c, g, m, k, es, e, hk, hm, hes => by
    have hd : l.length = done.length + (rs.length + 1) := by simp [e]
    have hx : (l.map PVRoute.enc)[k.toNat]? = some r.enc := by simp [e, hk]
    have hrl : r ∈ l := by simp [e]
    have fr := hfit r hrl
    have fz := hfit z (List.mem_of_getElem? hz)
    have hzd : l.getD best default = z := by rw [List.getD_eq_getElem?_getD, hz]; rfl
    have hzw : (l.map PVRoute.enc)[((best : Int)).toNat]? = some z.enc := by simp [hz]
    have e1 := cost_gives9 cs r (by omega)
    have e3 := compare_gives12 r z cs fr.rb fz.rb (by omega)
    rw [compare_same] at e3
    have hlen : es.length = out.length := by rw [hes]; simp
    have hdl : (done ++ [r]).length = done.length + 1 := by simp
    have hw : eqL l cs best nn (r :: rs) done.length out = eqL l cs best nn rs (done ++ [r]).length (eqStep l cs best nn r done.length out) := by rw [hdl]; rfl
    rw [hw]
    have hst : eqStep l cs best nn r done.length out = if (costS cs r).2 && decide (done.length ≠ best) && decide ((out.length : Int) < nn) && (decide ((compareR r z cs).2 = 0) || decide ((compareR r z cs).2 > 7)) then out ++ [done.length] else out := by
      unfold eqStep; rw [hzd]
    rw [hst]
    generalize costS cs r = u at *
    obtain ⟨co, us⟩ := u
    generalize compareR r z cs = R at *
    obtain ⟨o, st⟩ := R
    dsimp only at *
    cases us with
    | false =>
      simp only [Bool.false_and, Bool.false_eq_true, if_false]
      refine ev_loop' (W_ok 200 _ _ _ _ ?_)
      repeat (first | refine Exists.intro _ (And.intro (unA_neg_i64 (by omega) (by omega)) ?_) | refine Exists.intro _ (And.intro (binA_quo_i64 (by omega) (by omega) (by omega)) ?_) | refine Exists.intro _ (And.intro (binA_rem_i64 (by omega) (by omega)) ?_) | refine Exists.intro _ (And.intro (binA_sub_i64 (by omega) (by omega)) ?_) | refine Exists.intro _ (And.intro (binA_add_i64 (by omega) (by omega)) ?_) | refine Exists.intro _ (And.intro (conv_i64 (by omega) (by omega)) ?_) | refine Exists.intro _ (And.intro rfl ?_) | refine And.intro rfl ?_ | refine condT ?_ | refine condF ?_ | refine condG1 ?_ | refine condG0 ?_ | refine condDT (by omega) ?_ | refine condDF (by omega) ?_ | refine condBT (by omega) ?_ | refine condBF (by omega) ?_ | refine condNT (by omega) ?_ | refine condNF (by omega) ?_ | refine And.intro (by omega) ?_ | refine And.intro (ble_of (by omega)) ?_ | refine And.intro (room_le (by omega)) ?_ | refine Exists.intro _ (And.intro (by assumption) ?_))
      refine callV (e1) (by simp [pureL, AV.pure]) (by simp [AV.dry, dryL]) ?_
      repeat (first | refine Exists.intro _ (And.intro (unA_neg_i64 (by omega) (by omega)) ?_) | refine Exists.intro _ (And.intro (binA_quo_i64 (by omega) (by omega) (by omega)) ?_) | refine Exists.intro _ (And.intro (binA_rem_i64 (by omega) (by omega)) ?_) | refine Exists.intro _ (And.intro (binA_sub_i64 (by omega) (by omega)) ?_) | refine Exists.intro _ (And.intro (binA_add_i64 (by omega) (by omega)) ?_) | refine Exists.intro _ (And.intro (conv_i64 (by omega) (by omega)) ?_) | refine Exists.intro _ (And.intro rfl ?_) | refine And.intro rfl ?_ | refine condT ?_ | refine condF ?_ | refine condG1 ?_ | refine condG0 ?_ | refine condDT (by omega) ?_ | refine condDF (by omega) ?_ | refine condBT (by omega) ?_ | refine condBF (by omega) ?_ | refine condNT (by omega) ?_ | refine condNF (by omega) ?_ | refine And.intro (by omega) ?_ | refine And.intro (ble_of (by omega)) ?_ | refine And.intro (room_le (by omega)) ?_ | refine Exists.intro _ (And.intro (by assumption) ?_))
      refine callV (e3) (by simp [pureL, AV.pure]) (by simp [AV.dry, dryL]) ?_
      repeat (first | refine Exists.intro _ (And.intro (unA_neg_i64 (by omega) (by omega)) ?_) | refine Exists.intro _ (And.intro (binA_quo_i64 (by omega) (by omega) (by omega)) ?_) | refine Exists.intro _ (And.intro (binA_rem_i64 (by omega) (by omega)) ?_) | refine Exists.intro _ (And.intro (binA_sub_i64 (by omega) (by omega)) ?_) | refine Exists.intro _ (And.intro (binA_add_i64 (by omega) (by omega)) ?_) | refine Exists.intro _ (And.intro (conv_i64 (by omega) (by omega)) ?_) | refine Exists.intro _ (And.intro rfl ?_) | refine And.intro rfl ?_ | refine condT ?_ | refine condF ?_ | refine condG1 ?_ | refine condG0 ?_ | refine condDT (by omega) ?_ | refine condDF (by omega) ?_ | refine condBT (by omega) ?_ | refine condBF (by omega) ?_ | refine condNT (by omega) ?_ | refine condNF (by omega) ?_ | refine And.intro (by omega) ?_ | refine And.intro (ble_of (by omega)) ?_ | refine And.intro (room_le (by omega)) ?_ | refine Exists.intro _ (And.intro (by assumption) ?_))
      refine ev_keep [30, 31, 32, 0, 1, 2, 7, 9] [93] ?_
      exact eq_loop16 rs (done ++ [r]) out (by simp; omega) _ _ _ _ _ (k + 1) es (by simp [e]) (by simp [hk]) hm hes
    | true =>
      by_cases hb : done.length = best
      · have hb' : k = (best : Int) := by omega
        simp only [hb, ne_eq, not_true_eq_false, decide_false, Bool.and_false, Bool.false_and, Bool.false_eq_true, if_false]
        refine ev_loop' (W_ok 200 _ _ _ _ ?_)
        repeat (first | refine Exists.intro _ (And.intro (unA_neg_i64 (by omega) (by omega)) ?_) | refine Exists.intro _ (And.intro (binA_quo_i64 (by omega) (by omega) (by omega)) ?_) | refine Exists.intro _ (And.intro (binA_rem_i64 (by omega) (by omega)) ?_) | refine Exists.intro _ (And.intro (binA_sub_i64 (by omega) (by omega)) ?_) | refine Exists.intro _ (And.intro (binA_add_i64 (by omega) (by omega)) ?_) | refine Exists.intro _ (And.intro (conv_i64 (by omega) (by omega)) ?_) | refine Exists.intro _ (And.intro rfl ?_) | refine And.intro rfl ?_ | refine condT ?_ | refine condF ?_ | refine condG1 ?_ | refine condG0 ?_ | refine condDT (by omega) ?_ | refine condDF (by omega) ?_ | refine condBT (by omega) ?_ | refine condBF (by omega) ?_ | refine condNT (by omega) ?_ | refine condNF (by omega) ?_ | refine And.intro (by omega) ?_ | refine And.intro (ble_of (by omega)) ?_ | refine And.intro (room_le (by omega)) ?_ | refine Exists.intro _ (And.intro (by assumption) ?_))
        refine callV (e1) (by simp [pureL, AV.pure]) (by simp [AV.dry, dryL]) ?_
        repeat (first | refine Exists.intro _ (And.intro (unA_neg_i64 (by omega) (by omega)) ?_) | refine Exists.intro _ (And.intro (binA_quo_i64 (by omega) (by omega) (by omega)) ?_) | refine Exists.intro _ (And.intro (binA_rem_i64 (by omega) (by omega)) ?_) | refine Exists.intro _ (And.intro (binA_sub_i64 (by omega) (by omega)) ?_) | refine Exists.intro _ (And.intro (binA_add_i64 (by omega) (by omega)) ?_) | refine Exists.intro _ (And.intro (conv_i64 (by omega) (by omega)) ?_) | refine Exists.intro _ (And.intro rfl ?_) | refine And.intro rfl ?_ | refine condT ?_ | refine condF ?_ | refine condG1 ?_ | refine condG0 ?_ | refine condDT (by omega) ?_ | refine condDF (by omega) ?_ | refine condBT (by omega) ?_ | refine condBF (by omega) ?_ | refine condNT (by omega) ?_ | refine condNF (by omega) ?_ | refine And.intro (by omega) ?_ | refine And.intro (ble_of (by omega)) ?_ | refine And.intro (room_le (by omega)) ?_ | refine Exists.intro _ (And.intro (by assumption) ?_))
        refine callV (e3) (by simp [pureL, AV.pure]) (by simp [AV.dry, dryL]) ?_
        repeat (first | refine Exists.intro _ (And.intro (unA_neg_i64 (by omega) (by omega)) ?_) | refine Exists.intro _ (And.intro (binA_quo_i64 (by omega) (by omega) (by omega)) ?_) | refine Exists.intro _ (And.intro (binA_rem_i64 (by omega) (by omega)) ?_) | refine Exists.intro _ (And.intro (binA_sub_i64 (by omega) (by omega)) ?_) | refine Exists.intro _ (And.intro (binA_add_i64 (by omega) (by omega)) ?_) | refine Exists.intro _ (And.intro (conv_i64 (by omega) (by omega)) ?_) | refine Exists.intro _ (And.intro rfl ?_) | refine And.intro rfl ?_ | refine condT ?_ | refine condF ?_ | refine condG1 ?_ | refine condG0 ?_ | refine condDT (by omega) ?_ | refine condDF (by omega) ?_ | refine condBT (by omega) ?_ | refine condBF (by omega) ?_ | refine condNT (by omega) ?_ | refine condNF (by omega) ?_ | refine And.intro (by omega) ?_ | refine And.intro (ble_of (by omega)) ?_ | refine And.intro (room_le (by omega)) ?_ | refine Exists.intro _ (And.intro (by assumption) ?_))
        refine ev_keep [30, 31, 32, 0, 1, 2, 7, 9] [93] ?_
        exact eq_loop16 rs (done ++ [r]) out (by simp; omega) _ _ _ _ _ (k + 1) es (by simp [e]) (by simp [hk]) hm hes
      · have hb' : ¬ k = (best : Int) := by omega
        by_cases hn : (out.length : Int) < nn
        · have hn' : (m : Int) < nn := by omega
          by_cases h0 : st = 0
          · simp only [hb, hn, h0, ne_eq, not_false_eq_true, decide_true, Bool.and_self, Bool.true_and, Bool.true_or, if_true]
            refine ev_loop' (W_ok 200 _ _ _ _ ?_)
            repeat (first | refine Exists.intro _ (And.intro (unA_neg_i64 (by omega) (by omega)) ?_) | refine Exists.intro _ (And.intro (binA_quo_i64 (by omega) (by omega) (by omega)) ?_) | refine Exists.intro _ (And.intro (binA_rem_i64 (by omega) (by omega)) ?_) | refine Exists.intro _ (And.intro (binA_sub_i64 (by omega) (by omega)) ?_) | refine Exists.intro _ (And.intro (binA_add_i64 (by omega) (by omega)) ?_) | refine Exists.intro _ (And.intro (conv_i64 (by omega) (by omega)) ?_) | refine Exists.intro _ (And.intro rfl ?_) | refine And.intro rfl ?_ | refine condT ?_ | refine condF ?_ | refine condG1 ?_ | refine condG0 ?_ | refine condDT (by omega) ?_ | refine condDF (by omega) ?_ | refine condBT (by omega) ?_ | refine condBF (by omega) ?_ | refine condNT (by omega) ?_ | refine condNF (by omega) ?_ | refine And.intro (by omega) ?_ | refine And.intro (ble_of (by omega)) ?_ | refine And.intro (room_le (by omega)) ?_ | refine Exists.intro _ (And.intro (by assumption) ?_))
            refine callV (e1) (by simp [pureL, AV.pure]) (by simp [AV.dry, dryL]) ?_
            repeat (first | refine Exists.intro _ (And.intro (unA_neg_i64 (by omega) (by omega)) ?_) | refine Exists.intro _ (And.intro (binA_quo_i64 (by omega) (by omega) (by omega)) ?_) | refine Exists.intro _ (And.intro (binA_rem_i64 (by omega) (by omega)) ?_) | refine Exists.intro _ (And.intro (binA_sub_i64 (by omega) (by omega)) ?_) | refine Exists.intro _ (And.intro (binA_add_i64 (by omega) (by omega)) ?_) | refine Exists.intro _ (And.intro (conv_i64 (by omega) (by omega)) ?_) | refine Exists.intro _ (And.intro rfl ?_) | refine And.intro rfl ?_ | refine condT ?_ | refine condF ?_ | refine condG1 ?_ | refine condG0 ?_ | refine condDT (by omega) ?_ | refine condDF (by omega) ?_ | refine condBT (by omega) ?_ | refine condBF (by omega) ?_ | refine condNT (by omega) ?_ | refine condNF (by omega) ?_ | refine And.intro (by omega) ?_ | refine And.intro (ble_of (by omega)) ?_ | refine And.intro (room_le (by omega)) ?_ | refine Exists.intro _ (And.intro (by assumption) ?_))
            refine callV (e3) (by simp [pureL, AV.pure]) (by simp [AV.dry, dryL]) ?_
            repeat (first | refine Exists.intro _ (And.intro (unA_neg_i64 (by omega) (by omega)) ?_) | refine Exists.intro _ (And.intro (binA_quo_i64 (by omega) (by omega) (by omega)) ?_) | refine Exists.intro _ (And.intro (binA_rem_i64 (by omega) (by omega)) ?_) | refine Exists.intro _ (And.intro (binA_sub_i64 (by omega) (by omega)) ?_) | refine Exists.intro _ (And.intro (binA_add_i64 (by omega) (by omega)) ?_) | refine Exists.intro _ (And.intro (conv_i64 (by omega) (by omega)) ?_) | refine Exists.intro _ (And.intro rfl ?_) | refine And.intro rfl ?_ | refine condT ?_ | refine condF ?_ | refine condG1 ?_ | refine condG0 ?_ | refine condDT (by omega) ?_ | refine condDF (by omega) ?_ | refine condBT (by omega) ?_ | refine condBF (by omega) ?_ | refine condNT (by omega) ?_ | refine condNF (by omega) ?_ | refine And.intro (by omega) ?_ | refine And.intro (ble_of (by omega)) ?_ | refine And.intro (room_le (by omega)) ?_ | refine Exists.intro _ (And.intro (by assumption) ?_))
            refine And.intro (room_le (by show (m + 1) * 9 ≤ _; omega)) ?_
            repeat (first | refine Exists.intro _ (And.intro (unA_neg_i64 (by omega) (by omega)) ?_) | refine Exists.intro _ (And.intro (binA_quo_i64 (by omega) (by omega) (by omega)) ?_) | refine Exists.intro _ (And.intro (binA_rem_i64 (by omega) (by omega)) ?_) | refine Exists.intro _ (And.intro (binA_sub_i64 (by omega) (by omega)) ?_) | refine Exists.intro _ (And.intro (binA_add_i64 (by omega) (by omega)) ?_) | refine Exists.intro _ (And.intro (conv_i64 (by omega) (by omega)) ?_) | refine Exists.intro _ (And.intro rfl ?_) | refine And.intro rfl ?_ | refine condT ?_ | refine condF ?_ | refine condG1 ?_ | refine condG0 ?_ | refine condDT (by omega) ?_ | refine condDF (by omega) ?_ | refine condBT (by omega) ?_ | refine condBF (by omega) ?_ | refine condNT (by omega) ?_ | refine condNF (by omega) ?_ | refine And.intro (by omega) ?_ | refine And.intro (ble_of (by omega)) ?_ | refine And.intro (room_le (by omega)) ?_ | refine Exists.intro _ (And.intro (by assumption) ?_))
            refine ev_keep [30, 31, 32, 0, 1, 2, 7, 9] [93] ?_
            refine eq_loop16 rs (done ++ [r]) (out ++ [done.length]) (by simp; omega) _ _ _ _ _ (k + 1) _ (by simp [e]) (by simp [hk]) ?_ ?_
            · rw [hm]; simp [repl]
            · rw [hm, ← hlen, List.take_length, hes]; simp [repl, idxE, hk]
          · by_cases h7 : st > 7
            · simp only [hb, hn, h0, h7, ne_eq, not_false_eq_true, decide_true, decide_false, Bool.and_self, Bool.true_and, Bool.false_or, if_true]
              refine ev_loop' (W_ok 200 _ _ _ _ ?_)
              repeat (first | refine Exists.intro _ (And.intro (unA_neg_i64 (by omega) (by omega)) ?_) | refine Exists.intro _ (And.intro (binA_quo_i64 (by omega) (by omega) (by omega)) ?_) | refine Exists.intro _ (And.intro (binA_rem_i64 (by omega) (by omega)) ?_) | refine Exists.intro _ (And.intro (binA_sub_i64 (by omega) (by omega)) ?_) | refine Exists.intro _ (And.intro (binA_add_i64 (by omega) (by omega)) ?_) | refine Exists.intro _ (And.intro (conv_i64 (by omega) (by omega)) ?_) | refine Exists.intro _ (And.intro rfl ?_) | refine And.intro rfl ?_ | refine condT ?_ | refine condF ?_ | refine condG1 ?_ | refine condG0 ?_ | refine condDT (by omega) ?_ | refine condDF (by omega) ?_ | refine condBT (by omega) ?_ | refine condBF (by omega) ?_ | refine condNT (by omega) ?_ | refine condNF (by omega) ?_ | refine And.intro (by omega) ?_ | refine And.intro (ble_of (by omega)) ?_ | refine And.intro (room_le (by omega)) ?_ | refine Exists.intro _ (And.intro (by assumption) ?_))
              refine callV (e1) (by simp [pureL, AV.pure]) (by simp [AV.dry, dryL]) ?_
              repeat (first | refine Exists.intro _ (And.intro (unA_neg_i64 (by omega) (by omega)) ?_) | refine Exists.intro _ (And.intro (binA_quo_i64 (by omega) (by omega) (by omega)) ?_) | refine Exists.intro _ (And.intro (binA_rem_i64 (by omega) (by omega)) ?_) | refine Exists.intro _ (And.intro (binA_sub_i64 (by omega) (by omega)) ?_) | refine Exists.intro _ (And.intro (binA_add_i64 (by omega) (by omega)) ?_) | refine Exists.intro _ (And.intro (conv_i64 (by omega) (by omega)) ?_) | refine Exists.intro _ (And.intro rfl ?_) | refine And.intro rfl ?_ | refine condT ?_ | refine condF ?_ | refine condG1 ?_ | refine condG0 ?_ | refine condDT (by omega) ?_ | refine condDF (by omega) ?_ | refine condBT (by omega) ?_ | refine condBF (by omega) ?_ | refine condNT (by omega) ?_ | refine condNF (by omega) ?_ | refine And.intro (by omega) ?_ | refine And.intro (ble_of (by omega)) ?_ | refine And.intro (room_le (by omega)) ?_ | refine Exists.intro _ (And.intro (by assumption) ?_))
              refine callV (e3) (by simp [pureL, AV.pure]) (by simp [AV.dry, dryL]) ?_
              repeat (first | refine Exists.intro _ (And.intro (unA_neg_i64 (by omega) (by omega)) ?_) | refine Exists.intro _ (And.intro (binA_quo_i64 (by omega) (by omega) (by omega)) ?_) | refine Exists.intro _ (And.intro (binA_rem_i64 (by omega) (by omega)) ?_) | refine Exists.intro _ (And.intro (binA_sub_i64 (by omega) (by omega)) ?_) | refine Exists.intro _ (And.intro (binA_add_i64 (by omega) (by omega)) ?_) | refine Exists.intro _ (And.intro (conv_i64 (by omega) (by omega)) ?_) | refine Exists.intro _ (And.intro rfl ?_) | refine And.intro rfl ?_ | refine condT ?_ | refine condF ?_ | refine condG1 ?_ | refine condG0 ?_ | refine condDT (by omega) ?_ | refine condDF (by omega) ?_ | refine condBT (by omega) ?_ | refine condBF (by omega) ?_ | refine condNT (by omega) ?_ | refine condNF (by omega) ?_ | refine And.intro (by omega) ?_ | refine And.intro (ble_of (by omega)) ?_ | refine And.intro (room_le (by omega)) ?_ | refine Exists.intro _ (And.intro (by assumption) ?_))
              refine And.intro (room_le (by show (m + 1) * 9 ≤ _; omega)) ?_
              repeat (first | refine Exists.intro _ (And.intro (unA_neg_i64 (by omega) (by omega)) ?_) | refine Exists.intro _ (And.intro (binA_quo_i64 (by omega) (by omega) (by omega)) ?_) | refine Exists.intro _ (And.intro (binA_rem_i64 (by omega) (by omega)) ?_) | refine Exists.intro _ (And.intro (binA_sub_i64 (by omega) (by omega)) ?_) | refine Exists.intro _ (And.intro (binA_add_i64 (by omega) (by omega)) ?_) | refine Exists.intro _ (And.intro (conv_i64 (by omega) (by omega)) ?_) | refine Exists.intro _ (And.intro rfl ?_) | refine And.intro rfl ?_ | refine condT ?_ | refine condF ?_ | refine condG1 ?_ | refine condG0 ?_ | refine condDT (by omega) ?_ | refine condDF (by omega) ?_ | refine condBT (by omega) ?_ | refine condBF (by omega) ?_ | refine condNT (by omega) ?_ | refine condNF (by omega) ?_ | refine And.intro (by omega) ?_ | refine And.intro (ble_of (by omega)) ?_ | refine And.intro (room_le (by omega)) ?_ | refine Exists.intro _ (And.intro (by assumption) ?_))
              refine ev_keep [30, 31, 32, 0, 1, 2, 7, 9] [93] ?_
              refine eq_loop16 rs (done ++ [r]) (out ++ [done.length]) (by simp; omega) _ _ _ _ _ (k + 1) _ (by simp [e]) (by simp [hk]) ?_ ?_
              · rw [hm]; simp [repl]
              · rw [hm, ← hlen, List.take_length, hes]; simp [repl, idxE, hk]
            · simp only [hb, hn, h0, h7, ne_eq, not_false_eq_true, decide_true, decide_false, Bool.and_self, Bool.and_false, Bool.false_or, Bool.false_eq_true, if_false]
              refine ev_loop' (W_ok 200 _ _ _ _ ?_)
              repeat (first | refine Exists.intro _ (And.intro (unA_neg_i64 (by omega) (by omega)) ?_) | refine Exists.intro _ (And.intro (binA_quo_i64 (by omega) (by omega) (by omega)) ?_) | refine Exists.intro _ (And.intro (binA_rem_i64 (by omega) (by omega)) ?_) | refine Exists.intro _ (And.intro (binA_sub_i64 (by omega) (by omega)) ?_) | refine Exists.intro _ (And.intro (binA_add_i64 (by omega) (by omega)) ?_) | refine Exists.intro _ (And.intro (conv_i64 (by omega) (by omega)) ?_) | refine Exists.intro _ (And.intro rfl ?_) | refine And.intro rfl ?_ | refine condT ?_ | refine condF ?_ | refine condG1 ?_ | refine condG0 ?_ | refine condDT (by omega) ?_ | refine condDF (by omega) ?_ | refine condBT (by omega) ?_ | refine condBF (by omega) ?_ | refine condNT (by omega) ?_ | refine condNF (by omega) ?_ | refine And.intro (by omega) ?_ | refine And.intro (ble_of (by omega)) ?_ | refine And.intro (room_le (by omega)) ?_ | refine Exists.intro _ (And.intro (by assumption) ?_))
              refine callV (e1) (by simp [pureL, AV.pure]) (by simp [AV.dry, dryL]) ?_
              repeat (first | refine Exists.intro _ (And.intro (unA_neg_i64 (by omega) (by omega)) ?_) | refine Exists.intro _ (And.intro (binA_quo_i64 (by omega) (by omega) (by omega)) ?_) | refine Exists.intro _ (And.intro (binA_rem_i64 (by omega) (by omega)) ?_) | refine Exists.intro _ (And.intro (binA_sub_i64 (by omega) (by omega)) ?_) | refine Exists.intro _ (And.intro (binA_add_i64 (by omega) (by omega)) ?_) | refine Exists.intro _ (And.intro (conv_i64 (by omega) (by omega)) ?_) | refine Exists.intro _ (And.intro rfl ?_) | refine And.intro rfl ?_ | refine condT ?_ | refine condF ?_ | refine condG1 ?_ | refine condG0 ?_ | refine condDT (by omega) ?_ | refine condDF (by omega) ?_ | refine condBT (by omega) ?_ | refine condBF (by omega) ?_ | refine condNT (by omega) ?_ | refine condNF (by omega) ?_ | refine And.intro (by omega) ?_ | refine And.intro (ble_of (by omega)) ?_ | refine And.intro (room_le (by omega)) ?_ | refine Exists.intro _ (And.intro (by assumption) ?_))
              refine callV (e3) (by simp [pureL, AV.pure]) (by simp [AV.dry, dryL]) ?_
              repeat (first | refine Exists.intro _ (And.intro (unA_neg_i64 (by omega) (by omega)) ?_) | refine Exists.intro _ (And.intro (binA_quo_i64 (by omega) (by omega) (by omega)) ?_) | refine Exists.intro _ (And.intro (binA_rem_i64 (by omega) (by omega)) ?_) | refine Exists.intro _ (And.intro (binA_sub_i64 (by omega) (by omega)) ?_) | refine Exists.intro _ (And.intro (binA_add_i64 (by omega) (by omega)) ?_) | refine Exists.intro _ (And.intro (conv_i64 (by omega) (by omega)) ?_) | refine Exists.intro _ (And.intro rfl ?_) | refine And.intro rfl ?_ | refine condT ?_ | refine condF ?_ | refine condG1 ?_ | refine condG0 ?_ | refine condDT (by omega) ?_ | refine condDF (by omega) ?_ | refine condBT (by omega) ?_ | refine condBF (by omega) ?_ | refine condNT (by omega) ?_ | refine condNF (by omega) ?_ | refine And.intro (by omega) ?_ | refine And.intro (ble_of (by omega)) ?_ | refine And.intro (room_le (by omega)) ?_ | refine Exists.intro _ (And.intro (by assumption) ?_))
              refine ev_keep [30, 31, 32, 0, 1, 2, 7, 9] [93] ?_
              exact eq_loop16 rs (done ++ [r]) out (by simp; omega) _ _ _ _ _ (k + 1) es (by simp [e]) (by simp [hk]) hm hes
        · have hn' : ¬ (m : Int) < nn := by omega
          simp only [hn, decide_false, Bool.and_false, Bool.false_and, Bool.false_eq_true, if_false]
          refine ev_loop' (W_ok 200 _ _ _ _ ?_)
          repeat (first | refine Exists.intro _ (And.intro (unA_neg_i64 (by omega) (by omega)) ?_) | refine Exists.intro _ (And.intro (binA_quo_i64 (by omega) (by omega) (by omega)) ?_) | refine Exists.intro _ (And.intro (binA_rem_i64 (by omega) (by omega)) ?_) | refine Exists.intro _ (And.intro (binA_sub_i64 (by omega) (by omega)) ?_) | refine Exists.intro _ (And.intro (binA_add_i64 (by omega) (by omega)) ?_) | refine Exists.intro _ (And.intro (conv_i64 (by omega) (by omega)) ?_) | refine Exists.intro _ (And.intro rfl ?_) | refine And.intro rfl ?_ | refine condT ?_ | refine condF ?_ | refine condG1 ?_ | refine condG0 ?_ | refine condDT (by omega) ?_ | refine condDF (by omega) ?_ | refine condBT (by omega) ?_ | refine condBF (by omega) ?_ | refine condNT (by omega) ?_ | refine condNF (by omega) ?_ | refine And.intro (by omega) ?_ | refine And.intro (ble_of (by omega)) ?_ | refine And.intro (room_le (by omega)) ?_ | refine Exists.intro _ (And.intro (by assumption) ?_))
          refine callV (e1) (by simp [pureL, AV.pure]) (by simp [AV.dry, dryL]) ?_
          repeat (first | refine Exists.intro _ (And.intro (unA_neg_i64 (by omega) (by omega)) ?_) | refine Exists.intro _ (And.intro (binA_quo_i64 (by omega) (by omega) (by omega)) ?_) | refine Exists.intro _ (And.intro (binA_rem_i64 (by omega) (by omega)) ?_) | refine Exists.intro _ (And.intro (binA_sub_i64 (by omega) (by omega)) ?_) | refine Exists.intro _ (And.intro (binA_add_i64 (by omega) (by omega)) ?_) | refine Exists.intro _ (And.intro (conv_i64 (by omega) (by omega)) ?_) | refine Exists.intro _ (And.intro rfl ?_) | refine And.intro rfl ?_ | refine condT ?_ | refine condF ?_ | refine condG1 ?_ | refine condG0 ?_ | refine condDT (by omega) ?_ | refine condDF (by omega) ?_ | refine condBT (by omega) ?_ | refine condBF (by omega) ?_ | refine condNT (by omega) ?_ | refine condNF (by omega) ?_ | refine And.intro (by omega) ?_ | refine And.intro (ble_of (by omega)) ?_ | refine And.intro (room_le (by omega)) ?_ | refine Exists.intro _ (And.intro (by assumption) ?_))
          refine callV (e3) (by simp [pureL, AV.pure]) (by simp [AV.dry, dryL]) ?_
          repeat (first | refine Exists.intro _ (And.intro (unA_neg_i64 (by omega) (by omega)) ?_) | refine Exists.intro _ (And.intro (binA_quo_i64 (by omega) (by omega) (by omega)) ?_) | refine Exists.intro _ (And.intro (binA_rem_i64 (by omega) (by omega)) ?_) | refine Exists.intro _ (And.intro (binA_sub_i64 (by omega) (by omega)) ?_) | refine Exists.intro _ (And.intro (binA_add_i64 (by omega) (by omega)) ?_) | refine Exists.intro _ (And.intro (conv_i64 (by omega) (by omega)) ?_) | refine Exists.intro _ (And.intro rfl ?_) | refine And.intro rfl ?_ | refine condT ?_ | refine condF ?_ | refine condG1 ?_ | refine condG0 ?_ | refine condDT (by omega) ?_ | refine condDF (by omega) ?_ | refine condBT (by omega) ?_ | refine condBF (by omega) ?_ | refine condNT (by omega) ?_ | refine condNF (by omega) ?_ | refine And.intro (by omega) ?_ | refine And.intro (ble_of (by omega)) ?_ | refine And.intro (room_le (by omega)) ?_ | refine Exists.intro _ (And.intro (by assumption) ?_))
          refine ev_keep [30, 31, 32, 0, 1, 2, 7, 9] [93] ?_
          exact eq_loop16 rs (done ++ [r]) out (by simp; omega) _ _ _ _ _ (k + 1) es (by simp [e]) (by simp [hk]) hm hes
end
end Go.AM.IR
namespace Go.AM.IR
set_option maxHeartbeats 4000000
set_option maxRecDepth 100000
theorem firstP_zero : ∀ (l : List (Int × Int)) (n : Int), 1 ≤ n → ((firstP l n).1 = 0 ↔ (firstP l n).2 = 0)
  | [], _, _ => by simp [firstP]
  | (x, y) :: r, n, h => by
    simp only [firstP]
    split
    · simp; omega
    · split
      · simp; omega
      · exact firstP_zero r (n + 1) (by omega)
theorem compareR_zero (a b : PVRoute) (cs : List IGP) : (compareR a b cs).1 = 0 ↔ (compareR a b cs).2 = 0 := firstP_zero _ 1 (by omega)
section
variable (l : List PVRoute) (hl : l.length < 2 ^ 40) (hfit : ∀ r ∈ l, Fit r) (cs : List IGP) (hcs : cs.length < 2 ^ 40) (best : Nat) (z : PVRoute) (hz : l[best]? = some z) (nn : Int)
include hl hfit hcs hz
theorem eq_loop17 : ∀ (rest done : List PVRoute) (out : List Nat) (hol : out.length ≤ done.length + 1) (T : List (Nat × AV)) (H : Heap) (c g m : Nat) (k : Int) (es : List (List AV)) (e : l = done ++ rest) (hk : k = done.length) (hm : m = out.length) (hes : es = out.map idxE),
    Ev G ⟨[.inLoop f17x13L, .inBlock 0, .code (.seq (.region f17x14 false) .ret)],
      ⟨(30, .sl 22 (l.map PVRoute.enc)) :: (31, .int .i64 l.length) :: (32, .int .i64 k) :: (0, .sl 22 (l.map PVRoute.enc)) :: (1, .sl 2 (cs.map IGP.enc)) :: (2, .int .i64 nn) :: (7, .int .i64 best) :: (9, .vs 93 g m) :: T, (93, some (g, .vec 1 es)) :: H, c⟩, [.t 6], 0⟩
      ⟨.vs 0 0 (eqL l cs best nn rest done.length out).length, [(false, .vec 1 ((eqL l cs best nn rest done.length out).map idxE))]⟩
  | [], done, out, hol, T, H, c, g, m, k, es, e, hk, hm, hes => by
    have hd : l.length = done.length := by simp [e]
    refine ev_loop' (W_ok 200 _ _ _ _ ?_)
    repeat (first | refine Exists.intro _ (And.intro (unA_neg_i64 (by omega) (by omega)) ?_) | refine Exists.intro _ (And.intro (binA_quo_i64 (by omega) (by omega) (by omega)) ?_) | refine Exists.intro _ (And.intro (binA_rem_i64 (by omega) (by omega)) ?_) | refine Exists.intro _ (And.intro (binA_sub_i64 (by omega) (by omega)) ?_) | refine Exists.intro _ (And.intro (binA_add_i64 (by omega) (by omega)) ?_) | refine Exists.intro _ (And.intro (conv_i64 (by omega) (by omega)) ?_) | refine Exists.intro _ (And.intro rfl ?_) | refine And.intro rfl ?_ | refine condT ?_ | refine condF ?_ | refine condG1 ?_ | refine condG0 ?_ | refine condDT (by omega) ?_ | refine condDF (by omega) ?_ | refine condBT (by omega) ?_ | refine condBF (by omega) ?_ | refine condNT (by omega) ?_ | refine condNF (by omega) ?_ | refine And.intro (by omega) ?_ | refine And.intro (ble_of (by omega)) ?_ | refine And.intro (room_le (by omega)) ?_ | refine Exists.intro _ (And.intro (by assumption) ?_))
    refine ret_vs 93 g m (.vec 1 es) ?_ ?_ (by rw [hes]; exact pure_idx _) hm (by rw [hes]; rfl)
    · rfl
    · rfl
  | r :: rs, done, out, hol, T, H, c, g, m, k, es, e, hk, hm, hes => by
    have hd : l.length = done.length + (rs.length + 1) := by simp [e]
    have hx : (l.map PVRoute.enc)[k.toNat]? = some r.enc := by simp [e, hk]
    have hrl : r ∈ l := by simp [e]
    have fr := hfit r hrl
    have fz := hfit z (List.mem_of_getElem? hz)
    have hzd : l.getD best default = z := by rw [List.getD_eq_getElem?_getD, hz]; rfl
    have hzw : (l.map PVRoute.enc)[((best : Int)).toNat]? = some z.enc := by simp [hz]
    have e1 := cost_gives10 cs r (by omega)
    have e3 := compare_gives13 z r cs fz.rb fr.rb fz.ru fr.ru (by omega)
    rw [compareR_swap r z] at e3
    have hz0 := compareR_zero r z cs
    have hlen : es.length = out.length := by rw [hes]; simp
    have hdl : (done ++ [r]).length = done.length + 1 := by simp
    have hw : eqL l cs best nn (r :: rs) done.length out = eqL l cs best nn rs (done ++ [r]).length (eqStep l cs best nn r done.length out) := by rw [hdl]; rfl
    rw [hw]
    have hst : eqStep l cs best nn r done.length out = if (costS cs r).2 && decide (done.length ≠ best) && decide ((out.length : Int) < nn) && (decide ((compareR r z cs).2 = 0) || decide ((compareR r z cs).2 > 7)) then out ++ [done.length] else out := by
      unfold eqStep; rw [hzd]
    rw [hst]
    generalize costS cs r = u at *
    obtain ⟨co, us⟩ := u
    generalize compareR r z cs = R at *
    obtain ⟨o, st⟩ := R
    dsimp only at *
    cases us with
    | false =>
      simp only [Bool.false_and, Bool.false_eq_true, if_false]
      by_cases hb : done.length = best
      · have hb' : k = (best : Int) := by omega
        refine ev_loop' (W_ok 200 _ _ _ _ ?_)
        repeat (first | refine Exists.intro _ (And.intro (unA_neg_i64 (by omega) (by omega)) ?_) | refine Exists.intro _ (And.intro (binA_quo_i64 (by omega) (by omega) (by omega)) ?_) | refine Exists.intro _ (And.intro (binA_rem_i64 (by omega) (by omega)) ?_) | refine Exists.intro _ (And.intro (binA_sub_i64 (by omega) (by omega)) ?_) | refine Exists.intro _ (And.intro (binA_add_i64 (by omega) (by omega)) ?_) | refine Exists.intro _ (And.intro (conv_i64 (by omega) (by omega)) ?_) | refine Exists.intro _ (And.intro rfl ?_) | refine And.intro rfl ?_ | refine condT ?_ | refine condF ?_ | refine condG1 ?_ | refine condG0 ?_ | refine condDT (by omega) ?_ | refine condDF (by omega) ?_ | refine condBT (by omega) ?_ | refine condBF (by omega) ?_ | refine condNT (by omega) ?_ | refine condNF (by omega) ?_ | refine And.intro (by omega) ?_ | refine And.intro (ble_of (by omega)) ?_ | refine And.intro (room_le (by omega)) ?_ | refine Exists.intro _ (And.intro (by assumption) ?_))
        refine callV (e1) (by simp [pureL, AV.pure]) (by simp [AV.dry, dryL]) ?_
        repeat (first | refine Exists.intro _ (And.intro (unA_neg_i64 (by omega) (by omega)) ?_) | refine Exists.intro _ (And.intro (binA_quo_i64 (by omega) (by omega) (by omega)) ?_) | refine Exists.intro _ (And.intro (binA_rem_i64 (by omega) (by omega)) ?_) | refine Exists.intro _ (And.intro (binA_sub_i64 (by omega) (by omega)) ?_) | refine Exists.intro _ (And.intro (binA_add_i64 (by omega) (by omega)) ?_) | refine Exists.intro _ (And.intro (conv_i64 (by omega) (by omega)) ?_) | refine Exists.intro _ (And.intro rfl ?_) | refine And.intro rfl ?_ | refine condT ?_ | refine condF ?_ | refine condG1 ?_ | refine condG0 ?_ | refine condDT (by omega) ?_ | refine condDF (by omega) ?_ | refine condBT (by omega) ?_ | refine condBF (by omega) ?_ | refine condNT (by omega) ?_ | refine condNF (by omega) ?_ | refine And.intro (by omega) ?_ | refine And.intro (ble_of (by omega)) ?_ | refine And.intro (room_le (by omega)) ?_ | refine Exists.intro _ (And.intro (by assumption) ?_))
        refine callV (e3) (by simp [pureL, AV.pure]) (by simp [AV.dry, dryL]) ?_
        repeat (first | refine Exists.intro _ (And.intro (unA_neg_i64 (by omega) (by omega)) ?_) | refine Exists.intro _ (And.intro (binA_quo_i64 (by omega) (by omega) (by omega)) ?_) | refine Exists.intro _ (And.intro (binA_rem_i64 (by omega) (by omega)) ?_) | refine Exists.intro _ (And.intro (binA_sub_i64 (by omega) (by omega)) ?_) | refine Exists.intro _ (And.intro (binA_add_i64 (by omega) (by omega)) ?_) | refine Exists.intro _ (And.intro (conv_i64 (by omega) (by omega)) ?_) | refine Exists.intro _ (And.intro rfl ?_) | refine And.intro rfl ?_ | refine condT ?_ | refine condF ?_ | refine condG1 ?_ | refine condG0 ?_ | refine condDT (by omega) ?_ | refine condDF (by omega) ?_ | refine condBT (by omega) ?_ | refine condBF (by omega) ?_ | refine condNT (by omega) ?_ | refine condNF (by omega) ?_ | refine And.intro (by omega) ?_ | refine And.intro (ble_of (by omega)) ?_ | refine And.intro (room_le (by omega)) ?_ | refine Exists.intro _ (And.intro (by assumption) ?_))
        refine ev_keep [30, 31, 32, 0, 1, 2, 7, 9] [93] ?_
        exact eq_loop17 rs (done ++ [r]) out (by simp; omega) _ _ _ _ _ (k + 1) es (by simp [e]) (by simp [hk]) hm hes
      · have hb' : ¬ k = (best : Int) := by omega
        refine ev_loop' (W_ok 200 _ _ _ _ ?_)
        repeat (first | refine Exists.intro _ (And.intro (unA_neg_i64 (by omega) (by omega)) ?_) | refine Exists.intro _ (And.intro (binA_quo_i64 (by omega) (by omega) (by omega)) ?_) | refine Exists.intro _ (And.intro (binA_rem_i64 (by omega) (by omega)) ?_) | refine Exists.intro _ (And.intro (binA_sub_i64 (by omega) (by omega)) ?_) | refine Exists.intro _ (And.intro (binA_add_i64 (by omega) (by omega)) ?_) | refine Exists.intro _ (And.intro (conv_i64 (by omega) (by omega)) ?_) | refine Exists.intro _ (And.intro rfl ?_) | refine And.intro rfl ?_ | refine condT ?_ | refine condF ?_ | refine condG1 ?_ | refine condG0 ?_ | refine condDT (by omega) ?_ | refine condDF (by omega) ?_ | refine condBT (by omega) ?_ | refine condBF (by omega) ?_ | refine condNT (by omega) ?_ | refine condNF (by omega) ?_ | refine And.intro (by omega) ?_ | refine And.intro (ble_of (by omega)) ?_ | refine And.intro (room_le (by omega)) ?_ | refine Exists.intro _ (And.intro (by assumption) ?_))
        refine callV (e1) (by simp [pureL, AV.pure]) (by simp [AV.dry, dryL]) ?_
        repeat (first | refine Exists.intro _ (And.intro (unA_neg_i64 (by omega) (by omega)) ?_) | refine Exists.intro _ (And.intro (binA_quo_i64 (by omega) (by omega) (by omega)) ?_) | refine Exists.intro _ (And.intro (binA_rem_i64 (by omega) (by omega)) ?_) | refine Exists.intro _ (And.intro (binA_sub_i64 (by omega) (by omega)) ?_) | refine Exists.intro _ (And.intro (binA_add_i64 (by omega) (by omega)) ?_) | refine Exists.intro _ (And.intro (conv_i64 (by omega) (by omega)) ?_) | refine Exists.intro _ (And.intro rfl ?_) | refine And.intro rfl ?_ | refine condT ?_ | refine condF ?_ | refine condG1 ?_ | refine condG0 ?_ | refine condDT (by omega) ?_ | refine condDF (by omega) ?_ | refine condBT (by omega) ?_ | refine condBF (by omega) ?_ | refine condNT (by omega) ?_ | refine condNF (by omega) ?_ | refine And.intro (by omega) ?_ | refine And.intro (ble_of (by omega)) ?_ | refine And.intro (room_le (by omega)) ?_ | refine Exists.intro _ (And.intro (by assumption) ?_))
        refine callV (e3) (by simp [pureL, AV.pure]) (by simp [AV.dry, dryL]) ?_
        repeat (first | refine Exists.intro _ (And.intro (unA_neg_i64 (by omega) (by omega)) ?_) | refine Exists.intro _ (And.intro (binA_quo_i64 (by omega) (by omega) (by omega)) ?_) | refine Exists.intro _ (And.intro (binA_rem_i64 (by omega) (by omega)) ?_) | refine Exists.intro _ (And.intro (binA_sub_i64 (by omega) (by omega)) ?_) | refine Exists.intro _ (And.intro (binA_add_i64 (by omega) (by omega)) ?_) | refine Exists.intro _ (And.intro (conv_i64 (by omega) (by omega)) ?_) | refine Exists.intro _ (And.intro rfl ?_) | refine And.intro rfl ?_ | refine condT ?_ | refine condF ?_ | refine condG1 ?_ | refine condG0 ?_ | refine condDT (by omega) ?_ | refine condDF (by omega) ?_ | refine condBT (by omega) ?_ | refine condBF (by omega) ?_ | refine condNT (by omega) ?_ | refine condNF (by omega) ?_ | refine And.intro (by omega) ?_ | refine And.intro (ble_of (by omega)) ?_ | refine And.intro (room_le (by omega)) ?_ | refine Exists.intro _ (And.intro (by assumption) ?_))
        refine ev_keep [30, 31, 32, 0, 1, 2, 7, 9] [93] ?_
        exact eq_loop17 rs (done ++ [r]) out (by simp; omega) _ _ _ _ _ (k + 1) es (by simp [e]) (by simp [hk]) hm hes
    | true =>
      by_cases hb : done.length = best
      · have hb' : k = (best : Int) := by omega
        simp only [hb, ne_eq, not_true_eq_false, decide_false, Bool.and_false, Bool.false_and, Bool.false_eq_true, if_false]
        refine ev_loop' (W_ok 200 _ _ _ _ ?_)
        repeat (first | refine Exists.intro _ (And.intro (unA_neg_i64 (by omega) (by omega)) ?_) | refine Exists.intro _ (And.intro (binA_quo_i64 (by omega) (by omega) (by omega)) ?_) | refine Exists.intro _ (And.intro (binA_rem_i64 (by omega) (by omega)) ?_) | refine Exists.intro _ (And.intro (binA_sub_i64 (by omega) (by omega)) ?_) | refine Exists.intro _ (And.intro (binA_add_i64 (by omega) (by omega)) ?_) | refine Exists.intro _ (And.intro (conv_i64 (by omega) (by omega)) ?_) | refine Exists.intro _ (And.intro rfl ?_) | refine And.intro rfl ?_ | refine condT ?_ | refine condF ?_ | refine condG1 ?_ | refine condG0 ?_ | refine condDT (by omega) ?_ | refine condDF (by omega) ?_ | refine condBT (by omega) ?_ | refine condBF (by omega) ?_ | refine condNT (by omega) ?_ | refine condNF (by omega) ?_ | refine And.intro (by omega) ?_ | refine And.intro (ble_of (by omega)) ?_ | refine And.intro (room_le (by omega)) ?_ | refine Exists.intro _ (And.intro (by assumption) ?_))
        refine callV (e1) (by simp [pureL, AV.pure]) (by simp [AV.dry, dryL]) ?_
        repeat (first | refine Exists.intro _ (And.intro (unA_neg_i64 (by omega) (by omega)) ?_) | refine Exists.intro _ (And.intro (binA_quo_i64 (by omega) (by omega) (by omega)) ?_) | refine Exists.intro _ (And.intro (binA_rem_i64 (by omega) (by omega)) ?_) | refine Exists.intro _ (And.intro (binA_sub_i64 (by omega) (by omega)) ?_) | refine Exists.intro _ (And.intro (binA_add_i64 (by omega) (by omega)) ?_) | refine Exists.intro _ (And.intro (conv_i64 (by omega) (by omega)) ?_) | refine Exists.intro _ (And.intro rfl ?_) | refine And.intro rfl ?_ | refine condT ?_ | refine condF ?_ | refine condG1 ?_ | refine condG0 ?_ | refine condDT (by omega) ?_ | refine condDF (by omega) ?_ | refine condBT (by omega) ?_ | refine condBF (by omega) ?_ | refine condNT (by omega) ?_ | refine condNF (by omega) ?_ | refine And.intro (by omega) ?_ | refine And.intro (ble_of (by omega)) ?_ | refine And.intro (room_le (by omega)) ?_ | refine Exists.intro _ (And.intro (by assumption) ?_))
        refine callV (e3) (by simp [pureL, AV.pure]) (by simp [AV.dry, dryL]) ?_
        repeat (first | refine Exists.intro _ (And.intro (unA_neg_i64 (by omega) (by omega)) ?_) | refine Exists.intro _ (And.intro (binA_quo_i64 (by omega) (by omega) (by omega)) ?_) | refine Exists.intro _ (And.intro (binA_rem_i64 (by omega) (by omega)) ?_) | refine Exists.intro _ (And.intro (binA_sub_i64 (by omega) (by omega)) ?_) | refine Exists.intro _ (And.intro (binA_add_i64 (by omega) (by omega)) ?_) | refine Exists.intro _ (And.intro (conv_i64 (by omega) (by omega)) ?_) | refine Exists.intro _ (And.intro rfl ?_) | refine And.intro rfl ?_ | refine condT ?_ | refine condF ?_ | refine condG1 ?_ | refine condG0 ?_ | refine condDT (by omega) ?_ | refine condDF (by omega) ?_ | refine condBT (by omega) ?_ | refine condBF (by omega) ?_ | refine condNT (by omega) ?_ | refine condNF (by omega) ?_ | refine And.intro (by omega) ?_ | refine And.intro (ble_of (by omega)) ?_ | refine And.intro (room_le (by omega)) ?_ | refine Exists.intro _ (And.intro (by assumption) ?_))
        refine ev_keep [30, 31, 32, 0, 1, 2, 7, 9] [93] ?_
        exact eq_loop17 rs (done ++ [r]) out (by simp; omega) _ _ _ _ _ (k + 1) es (by simp [e]) (by simp [hk]) hm hes
      · have hb' : ¬ k = (best : Int) := by omega
        by_cases hn : (out.length : Int) < nn
        · have hn' : (m : Int) < nn := by omega
          by_cases h0 : st = 0
          · have ho : -o = 0 := by have := hz0.2 h0; omega
            simp only [hb, hn, h0, ne_eq, not_false_eq_true, decide_true, Bool.and_self, Bool.true_and, Bool.true_or, if_true]
            refine ev_loop' (W_ok 200 _ _ _ _ ?_)
            repeat (first | refine Exists.intro _ (And.intro (unA_neg_i64 (by omega) (by omega)) ?_) | refine Exists.intro _ (And.intro (binA_quo_i64 (by omega) (by omega) (by omega)) ?_) | refine Exists.intro _ (And.intro (binA_rem_i64 (by omega) (by omega)) ?_) | refine Exists.intro _ (And.intro (binA_sub_i64 (by omega) (by omega)) ?_) | refine Exists.intro _ (And.intro (binA_add_i64 (by omega) (by omega)) ?_) | refine Exists.intro _ (And.intro (conv_i64 (by omega) (by omega)) ?_) | refine Exists.intro _ (And.intro rfl ?_) | refine And.intro rfl ?_ | refine condT ?_ | refine condF ?_ | refine condG1 ?_ | refine condG0 ?_ | refine condDT (by omega) ?_ | refine condDF (by omega) ?_ | refine condBT (by omega) ?_ | refine condBF (by omega) ?_ | refine condNT (by omega) ?_ | refine condNF (by omega) ?_ | refine And.intro (by omega) ?_ | refine And.intro (ble_of (by omega)) ?_ | refine And.intro (room_le (by omega)) ?_ | refine Exists.intro _ (And.intro (by assumption) ?_))
            refine callV (e1) (by simp [pureL, AV.pure]) (by simp [AV.dry, dryL]) ?_
            repeat (first | refine Exists.intro _ (And.intro (unA_neg_i64 (by omega) (by omega)) ?_) | refine Exists.intro _ (And.intro (binA_quo_i64 (by omega) (by omega) (by omega)) ?_) | refine Exists.intro _ (And.intro (binA_rem_i64 (by omega) (by omega)) ?_) | refine Exists.intro _ (And.intro (binA_sub_i64 (by omega) (by omega)) ?_) | refine Exists.intro _ (And.intro (binA_add_i64 (by omega) (by omega)) ?_) | refine Exists.intro _ (And.intro (conv_i64 (by omega) (by omega)) ?_) | refine Exists.intro _ (And.intro rfl ?_) | refine And.intro rfl ?_ | refine condT ?_ | refine condF ?_ | refine condG1 ?_ | refine condG0 ?_ | refine condDT (by omega) ?_ | refine condDF (by omega) ?_ | refine condBT (by omega) ?_ | refine condBF (by omega) ?_ | refine condNT (by omega) ?_ | refine condNF (by omega) ?_ | refine And.intro (by omega) ?_ | refine And.intro (ble_of (by omega)) ?_ | refine And.intro (room_le (by omega)) ?_ | refine Exists.intro _ (And.intro (by assumption) ?_))
            refine callV (e3) (by simp [pureL, AV.pure]) (by simp [AV.dry, dryL]) ?_
            repeat (first | refine Exists.intro _ (And.intro (unA_neg_i64 (by omega) (by omega)) ?_) | refine Exists.intro _ (And.intro (binA_quo_i64 (by omega) (by omega) (by omega)) ?_) | refine Exists.intro _ (And.intro (binA_rem_i64 (by omega) (by omega)) ?_) | refine Exists.intro _ (And.intro (binA_sub_i64 (by omega) (by omega)) ?_) | refine Exists.intro _ (And.intro (binA_add_i64 (by omega) (by omega)) ?_) | refine Exists.intro _ (And.intro (conv_i64 (by omega) (by omega)) ?_) | refine Exists.intro _ (And.intro rfl ?_) | refine And.intro rfl ?_ | refine condT ?_ | refine condF ?_ | refine condG1 ?_ | refine condG0 ?_ | refine condDT (by omega) ?_ | refine condDF (by omega) ?_ | refine condBT (by omega) ?_ | refine condBF (by omega) ?_ | refine condNT (by omega) ?_ | refine condNF (by omega) ?_ | refine And.intro (by omega) ?_ | refine And.intro (ble_of (by omega)) ?_ | refine And.intro (room_le (by omega)) ?_ | refine Exists.intro _ (And.intro (by assumption) ?_))
            refine And.intro (room_le (by show (m + 1) * 9 ≤ _; omega)) ?_
            repeat (first | refine Exists.intro _ (And.intro (unA_neg_i64 (by omega) (by omega)) ?_) | refine Exists.intro _ (And.intro (binA_quo_i64 (by omega) (by omega) (by omega)) ?_) | refine Exists.intro _ (And.intro (binA_rem_i64 (by omega) (by omega)) ?_) | refine Exists.intro _ (And.intro (binA_sub_i64 (by omega) (by omega)) ?_) | refine Exists.intro _ (And.intro (binA_add_i64 (by omega) (by omega)) ?_) | refine Exists.intro _ (And.intro (conv_i64 (by omega) (by omega)) ?_) | refine Exists.intro _ (And.intro rfl ?_) | refine And.intro rfl ?_ | refine condT ?_ | refine condF ?_ | refine condG1 ?_ | refine condG0 ?_ | refine condDT (by omega) ?_ | refine condDF (by omega) ?_ | refine condBT (by omega) ?_ | refine condBF (by omega) ?_ | refine condNT (by omega) ?_ | refine condNF (by omega) ?_ | refine And.intro (by omega) ?_ | refine And.intro (ble_of (by omega)) ?_ | refine And.intro (room_le (by omega)) ?_ | refine Exists.intro _ (And.intro (by assumption) ?_))
            refine ev_keep [30, 31, 32, 0, 1, 2, 7, 9] [93] ?_
            refine eq_loop17 rs (done ++ [r]) (out ++ [done.length]) (by simp; omega) _ _ _ _ _ (k + 1) _ (by simp [e]) (by simp [hk]) ?_ ?_
            · rw [hm]; simp [repl]
            · rw [hm, ← hlen, List.take_length, hes]; simp [repl, idxE, hk]
          · have ho : ¬ -o = 0 := by intro h; exact h0 (hz0.1 (by omega))
            by_cases h7 : st > 7
            · simp only [hb, hn, h0, h7, ne_eq, not_false_eq_true, decide_true, decide_false, Bool.and_self, Bool.true_and, Bool.false_or, if_true]
              refine ev_loop' (W_ok 200 _ _ _ _ ?_)
              repeat (first | refine Exists.intro _ (And.intro (unA_neg_i64 (by omega) (by omega)) ?_) | refine Exists.intro _ (And.intro (binA_quo_i64 (by omega) (by omega) (by omega)) ?_) | refine Exists.intro _ (And.intro (binA_rem_i64 (by omega) (by omega)) ?_) | refine Exists.intro _ (And.intro (binA_sub_i64 (by omega) (by omega)) ?_) | refine Exists.intro _ (And.intro (binA_add_i64 (by omega) (by omega)) ?_) | refine Exists.intro _ (And.intro (conv_i64 (by omega) (by omega)) ?_) | refine Exists.intro _ (And.intro rfl ?_) | refine And.intro rfl ?_ | refine condT ?_ | refine condF ?_ | refine condG1 ?_ | refine condG0 ?_ | refine condDT (by omega) ?_ | refine condDF (by omega) ?_ | refine condBT (by omega) ?_ | refine condBF (by omega) ?_ | refine condNT (by omega) ?_ | refine condNF (by omega) ?_ | refine And.intro (by omega) ?_ | refine And.intro (ble_of (by omega)) ?_ | refine And.intro (room_le (by omega)) ?_ | refine Exists.intro _ (And.intro (by assumption) ?_))
              refine callV (e1) (by simp [pureL, AV.pure]) (by simp [AV.dry, dryL]) ?_
              repeat (first | refine Exists.intro _ (And.intro (unA_neg_i64 (by omega) (by omega)) ?_) | refine Exists.intro _ (And.intro (binA_quo_i64 (by omega) (by omega) (by omega)) ?_) | refine Exists.intro _ (And.intro (binA_rem_i64 (by omega) (by omega)) ?_) | refine Exists.intro _ (And.intro (binA_sub_i64 (by omega) (by omega)) ?_) | refine Exists.intro _ (And.intro (binA_add_i64 (by omega) (by omega)) ?_) | refine Exists.intro _ (And.intro (conv_i64 (by omega) (by omega)) ?_) | refine Exists.intro _ (And.intro rfl ?_) | refine And.intro rfl ?_ | refine condT ?_ | refine condF ?_ | refine condG1 ?_ | refine condG0 ?_ | refine condDT (by omega) ?_ | refine condDF (by omega) ?_ | refine condBT (by omega) ?_ | refine condBF (by omega) ?_ | refine condNT (by omega) ?_ | refine condNF (by omega) ?_ | refine And.intro (by omega) ?_ | refine And.intro (ble_of (by omega)) ?_ | refine And.intro (room_le (by omega)) ?_ | refine Exists.intro _ (And.intro (by assumption) ?_))
              refine callV (e3) (by simp [pureL, AV.pure]) (by simp [AV.dry, dryL]) ?_
              repeat (first | refine Exists.intro _ (And.intro (unA_neg_i64 (by omega) (by omega)) ?_) | refine Exists.intro _ (And.intro (binA_quo_i64 (by omega) (by omega) (by omega)) ?_) | refine Exists.intro _ (And.intro (binA_rem_i64 (by omega) (by omega)) ?_) | refine Exists.intro _ (And.intro (binA_sub_i64 (by omega) (by omega)) ?_) | refine Exists.intro _ (And.intro (binA_add_i64 (by omega) (by omega)) ?_) | refine Exists.intro _ (And.intro (conv_i64 (by omega) (by omega)) ?_) | refine Exists.intro _ (And.intro rfl ?_) | refine And.intro rfl ?_ | refine condT ?_ | refine condF ?_ | refine condG1 ?_ | refine condG0 ?_ | refine condDT (by omega) ?_ | refine condDF (by omega) ?_ | refine condBT (by omega) ?_ | refine condBF (by omega) ?_ | refine condNT (by omega) ?_ | refine condNF (by omega) ?_ | refine And.intro (by omega) ?_ | refine And.intro (ble_of (by omega)) ?_ | refine And.intro (room_le (by omega)) ?_ | refine Exists.intro _ (And.intro (by assumption) ?_))
              refine And.intro (room_le (by show (m + 1) * 9 ≤ _; omega)) ?_
              repeat (first | refine Exists.intro _ (And.intro (unA_neg_i64 (by omega) (by omega)) ?_) | refine Exists.intro _ (And.intro (binA_quo_i64 (by omega) (by omega) (by omega)) ?_) | refine Exists.intro _ (And.intro (binA_rem_i64 (by omega) (by omega)) ?_) | refine Exists.intro _ (And.intro (binA_sub_i64 (by omega) (by omega)) ?_) | refine Exists.intro _ (And.intro (binA_add_i64 (by omega) (by omega)) ?_) | refine Exists.intro _ (And.intro (conv_i64 (by omega) (by omega)) ?_) | refine Exists.intro _ (And.intro rfl ?_) | refine And.intro rfl ?_ | refine condT ?_ | refine condF ?_ | refine condG1 ?_ | refine condG0 ?_ | refine condDT (by omega) ?_ | refine condDF (by omega) ?_ | refine condBT (by omega) ?_ | refine condBF (by omega) ?_ | refine condNT (by omega) ?_ | refine condNF (by omega) ?_ | refine And.intro (by omega) ?_ | refine And.intro (ble_of (by omega)) ?_ | refine And.intro (room_le (by omega)) ?_ | refine Exists.intro _ (And.intro (by assumption) ?_))
              refine ev_keep [30, 31, 32, 0, 1, 2, 7, 9] [93] ?_
              refine eq_loop17 rs (done ++ [r]) (out ++ [done.length]) (by simp; omega) _ _ _ _ _ (k + 1) _ (by simp [e]) (by simp [hk]) ?_ ?_
              · rw [hm]; simp [repl]
              · rw [hm, ← hlen, List.take_length, hes]; simp [repl, idxE, hk]
            · simp only [hb, hn, h0, h7, ne_eq, not_false_eq_true, decide_true, decide_false, Bool.and_self, Bool.and_false, Bool.false_or, Bool.false_eq_true, if_false]
              refine ev_loop' (W_ok 200 _ _ _ _ ?_)
              repeat (first | refine Exists.intro _ (And.intro (unA_neg_i64 (by omega) (by omega)) ?_) | refine Exists.intro _ (And.intro (binA_quo_i64 (by omega) (by omega) (by omega)) ?_) | refine Exists.intro _ (And.intro (binA_rem_i64 (by omega) (by omega)) ?_) | refine Exists.intro _ (And.intro (binA_sub_i64 (by omega) (by omega)) ?_) | refine Exists.intro _ (And.intro (binA_add_i64 (by omega) (by omega)) ?_) | refine Exists.intro _ (And.intro (conv_i64 (by omega) (by omega)) ?_) | refine Exists.intro _ (And.intro rfl ?_) | refine And.intro rfl ?_ | refine condT ?_ | refine condF ?_ | refine condG1 ?_ | refine condG0 ?_ | refine condDT (by omega) ?_ | refine condDF (by omega) ?_ | refine condBT (by omega) ?_ | refine condBF (by omega) ?_ | refine condNT (by omega) ?_ | refine condNF (by omega) ?_ | refine And.intro (by omega) ?_ | refine And.intro (ble_of (by omega)) ?_ | refine And.intro (room_le (by omega)) ?_ | refine Exists.intro _ (And.intro (by assumption) ?_))
              refine callV (e1) (by simp [pureL, AV.pure]) (by simp [AV.dry, dryL]) ?_
              repeat (first | refine Exists.intro _ (And.intro (unA_neg_i64 (by omega) (by omega)) ?_) | refine Exists.intro _ (And.intro (binA_quo_i64 (by omega) (by omega) (by omega)) ?_) | refine Exists.intro _ (And.intro (binA_rem_i64 (by omega) (by omega)) ?_) | refine Exists.intro _ (And.intro (binA_sub_i64 (by omega) (by omega)) ?_) | refine Exists.intro _ (And.intro (binA_add_i64 (by omega) (by omega)) ?_) | refine Exists.intro _ (And.intro (conv_i64 (by omega) (by omega)) ?_) | refine Exists.intro _ (And.intro rfl ?_) | refine And.intro rfl ?_ | refine condT ?_ | refine condF ?_ | refine condG1 ?_ | refine condG0 ?_ | refine condDT (by omega) ?_ | refine condDF (by omega) ?_ | refine condBT (by omega) ?_ | refine condBF (by omega) ?_ | refine condNT (by omega) ?_ | refine condNF (by omega) ?_ | refine And.intro (by omega) ?_ | refine And.intro (ble_of (by omega)) ?_ | refine And.intro (room_le (by omega)) ?_ | refine Exists.intro _ (And.intro (by assumption) ?_))
              refine callV (e3) (by simp [pureL, AV.pure]) (by simp [AV.dry, dryL]) ?_
              repeat (first | refine Exists.intro _ (And.intro (unA_neg_i64 (by omega) (by omega)) ?_) | refine Exists.intro _ (And.intro (binA_quo_i64 (by omega) (by omega) (by omega)) ?_) | refine Exists.intro _ (And.intro (binA_rem_i64 (by omega) (by omega)) ?_) | refine Exists.intro _ (And.intro (binA_sub_i64 (by omega) (by omega)) ?_) | refine Exists.intro _ (And.intro (binA_add_i64 (by omega) (by omega)) ?_) | refine Exists.intro _ (And.intro (conv_i64 (by omega) (by omega)) ?_) | refine Exists.intro _ (And.intro rfl ?_) | refine And.intro rfl ?_ | refine condT ?_ | refine condF ?_ | refine condG1 ?_ | refine condG0 ?_ | refine condDT (by omega) ?_ | refine condDF (by omega) ?_ | refine condBT (by omega) ?_ | refine condBF (by omega) ?_ | refine condNT (by omega) ?_ | refine condNF (by omega) ?_ | refine And.intro (by omega) ?_ | refine And.intro (ble_of (by omega)) ?_ | refine And.intro (room_le (by omega)) ?_ | refine Exists.intro _ (And.intro (by assumption) ?_))
              refine ev_keep [30, 31, 32, 0, 1, 2, 7, 9] [93] ?_
              exact eq_loop17 rs (done ++ [r]) out (by simp; omega) _ _ _ _ _ (k + 1) es (by simp [e]) (by simp [hk]) hm hes
        · have hn' : ¬ (m : Int) < nn := by omega
          simp only [hn, decide_false, Bool.and_false, Bool.false_and, Bool.false_eq_true, if_false]
          by_cases h0 : st = 0
          · have ho : -o = 0 := by have := hz0.2 h0; omega
            refine ev_loop' (W_ok 200 _ _ _ _ ?_)
            repeat (first | refine Exists.intro _ (And.intro (unA_neg_i64 (by omega) (by omega)) ?_) | refine Exists.intro _ (And.intro (binA_quo_i64 (by omega) (by omega) (by omega)) ?_) | refine Exists.intro _ (And.intro (binA_rem_i64 (by omega) (by omega)) ?_) | refine Exists.intro _ (And.intro (binA_sub_i64 (by omega) (by omega)) ?_) | refine Exists.intro _ (And.intro (binA_add_i64 (by omega) (by omega)) ?_) | refine Exists.intro _ (And.intro (conv_i64 (by omega) (by omega)) ?_) | refine Exists.intro _ (And.intro rfl ?_) | refine And.intro rfl ?_ | refine condT ?_ | refine condF ?_ | refine condG1 ?_ | refine condG0 ?_ | refine condDT (by omega) ?_ | refine condDF (by omega) ?_ | refine condBT (by omega) ?_ | refine condBF (by omega) ?_ | refine condNT (by omega) ?_ | refine condNF (by omega) ?_ | refine And.intro (by omega) ?_ | refine And.intro (ble_of (by omega)) ?_ | refine And.intro (room_le (by omega)) ?_ | refine Exists.intro _ (And.intro (by assumption) ?_))
            refine callV (e1) (by simp [pureL, AV.pure]) (by simp [AV.dry, dryL]) ?_
            repeat (first | refine Exists.intro _ (And.intro (unA_neg_i64 (by omega) (by omega)) ?_) | refine Exists.intro _ (And.intro (binA_quo_i64 (by omega) (by omega) (by omega)) ?_) | refine Exists.intro _ (And.intro (binA_rem_i64 (by omega) (by omega)) ?_) | refine Exists.intro _ (And.intro (binA_sub_i64 (by omega) (by omega)) ?_) | refine Exists.intro _ (And.intro (binA_add_i64 (by omega) (by omega)) ?_) | refine Exists.intro _ (And.intro (conv_i64 (by omega) (by omega)) ?_) | refine Exists.intro _ (And.intro rfl ?_) | refine And.intro rfl ?_ | refine condT ?_ | refine condF ?_ | refine condG1 ?_ | refine condG0 ?_ | refine condDT (by omega) ?_ | refine condDF (by omega) ?_ | refine condBT (by omega) ?_ | refine condBF (by omega) ?_ | refine condNT (by omega) ?_ | refine condNF (by omega) ?_ | refine And.intro (by omega) ?_ | refine And.intro (ble_of (by omega)) ?_ | refine And.intro (room_le (by omega)) ?_ | refine Exists.intro _ (And.intro (by assumption) ?_))
            refine callV (e3) (by simp [pureL, AV.pure]) (by simp [AV.dry, dryL]) ?_
            repeat (first | refine Exists.intro _ (And.intro (unA_neg_i64 (by omega) (by omega)) ?_) | refine Exists.intro _ (And.intro (binA_quo_i64 (by omega) (by omega) (by omega)) ?_) | refine Exists.intro _ (And.intro (binA_rem_i64 (by omega) (by omega)) ?_) | refine Exists.intro _ (And.intro (binA_sub_i64 (by omega) (by omega)) ?_) | refine Exists.intro _ (And.intro (binA_add_i64 (by omega) (by omega)) ?_) | refine Exists.intro _ (And.intro (conv_i64 (by omega) (by omega)) ?_) | refine Exists.intro _ (And.intro rfl ?_) | refine And.intro rfl ?_ | refine condT ?_ | refine condF ?_ | refine condG1 ?_ | refine condG0 ?_ | refine condDT (by omega) ?_ | refine condDF (by omega) ?_ | refine condBT (by omega) ?_ | refine condBF (by omega) ?_ | refine condNT (by omega) ?_ | refine condNF (by omega) ?_ | refine And.intro (by omega) ?_ | refine And.intro (ble_of (by omega)) ?_ | refine And.intro (room_le (by omega)) ?_ | refine Exists.intro _ (And.intro (by assumption) ?_))
            refine ev_keep [30, 31, 32, 0, 1, 2, 7, 9] [93] ?_
            exact eq_loop17 rs (done ++ [r]) out (by simp; omega) _ _ _ _ _ (k + 1) es (by simp [e]) (by simp [hk]) hm hes
          · have ho : ¬ -o = 0 := by intro h; exact h0 (hz0.1 (by omega))
            by_cases h7 : st > 7
            · refine ev_loop' (W_ok 200 _ _ _ _ ?_)
              repeat (first | refine Exists.intro _ (And.intro (unA_neg_i64 (by omega) (by omega)) ?_) | refine Exists.intro _ (And.intro (binA_quo_i64 (by omega) (by omega) (by omega)) ?_) | refine Exists.intro _ (And.intro (binA_rem_i64 (by omega) (by omega)) ?_) | refine Exists.intro _ (And.intro (binA_sub_i64 (by omega) (by omega)) ?_) | refine Exists.intro _ (And.intro (binA_add_i64 (by omega) (by omega)) ?_) | refine Exists.intro _ (And.intro (conv_i64 (by omega) (by omega)) ?_) | refine Exists.intro _ (And.intro rfl ?_) | refine And.intro rfl ?_ | refine condT ?_ | refine condF ?_ | refine condG1 ?_ | refine condG0 ?_ | refine condDT (by omega) ?_ | refine condDF (by omega) ?_ | refine condBT (by omega) ?_ | refine condBF (by omega) ?_ | refine condNT (by omega) ?_ | refine condNF (by omega) ?_ | refine And.intro (by omega) ?_ | refine And.intro (ble_of (by omega)) ?_ | refine And.intro (room_le (by omega)) ?_ | refine Exists.intro _ (And.intro (by assumption) ?_))
              refine callV (e1) (by simp [pureL, AV.pure]) (by simp [AV.dry, dryL]) ?_
              repeat (first | refine Exists.intro _ (And.intro (unA_neg_i64 (by omega) (by omega)) ?_) | refine Exists.intro _ (And.intro (binA_quo_i64 (by omega) (by omega) (by omega)) ?_) | refine Exists.intro _ (And.intro (binA_rem_i64 (by omega) (by omega)) ?_) | refine Exists.intro _ (And.intro (binA_sub_i64 (by omega) (by omega)) ?_) | refine Exists.intro _ (And.intro (binA_add_i64 (by omega) (by omega)) ?_) | refine Exists.intro _ (And.intro (conv_i64 (by omega) (by omega)) ?_) | refine Exists.intro _ (And.intro rfl ?_) | refine And.intro rfl ?_ | refine condT ?_ | refine condF ?_ | refine condG1 ?_ | refine condG0 ?_ | refine condDT (by omega) ?_ | refine condDF (by omega) ?_ | refine condBT (by omega) ?_ | refine condBF (by omega) ?_ | refine condNT (by omega) ?_ | refine condNF (by omega) ?_ | refine And.intro (by omega) ?_ | refine And.intro (ble_of (by omega)) ?_ | refine And.intro (room_le (by omega)) ?_ | refine Exists.intro _ (And.intro (by assumption) ?_))
              refine callV (e3) (by simp [pureL, AV.pure]) (by simp [AV.dry, dryL]) ?_
              repeat (first | refine Exists.intro _ (And.intro (unA_neg_i64 (by omega) (by omega)) ?_) | refine Exists.intro _ (And.intro (binA_quo_i64 (by omega) (by omega) (by omega)) ?_) | refine Exists.intro _ (And.intro (binA_rem_i64 (by omega) (by omega)) ?_) | refine Exists.intro _ (And.intro (binA_sub_i64 (by omega) (by omega)) ?_) | refine Exists.intro _ (And.intro (binA_add_i64 (by omega) (by omega)) ?_) | refine Exists.intro _ (And.intro (conv_i64 (by omega) (by omega)) ?_) | refine Exists.intro _ (And.intro rfl ?_) | refine And.intro rfl ?_ | refine condT ?_ | refine condF ?_ | refine condG1 ?_ | refine condG0 ?_ | refine condDT (by omega) ?_ | refine condDF (by omega) ?_ | refine condBT (by omega) ?_ | refine condBF (by omega) ?_ | refine condNT (by omega) ?_ | refine condNF (by omega) ?_ | refine And.intro (by omega) ?_ | refine And.intro (ble_of (by omega)) ?_ | refine And.intro (room_le (by omega)) ?_ | refine Exists.intro _ (And.intro (by assumption) ?_))
              refine ev_keep [30, 31, 32, 0, 1, 2, 7, 9] [93] ?_
              exact eq_loop17 rs (done ++ [r]) out (by simp; omega) _ _ _ _ _ (k + 1) es (by simp [e]) (by simp [hk]) hm hes
            · refine ev_loop' (W_ok 200 _ _ _ _ ?_)
              repeat (first | refine Exists.intro _ (And.intro (unA_neg_i64 (by omega) (by omega)) ?_) | refine Exists.intro _ (And.intro (binA_quo_i64 (by omega) (by omega) (by omega)) ?_) | refine Exists.intro _ (And.intro (binA_rem_i64 (by omega) (by omega)) ?_) | refine Exists.intro _ (And.intro (binA_sub_i64 (by omega) (by omega)) ?_) | refine Exists.intro _ (And.intro (binA_add_i64 (by omega) (by omega)) ?_) | refine Exists.intro _ (And.intro (conv_i64 (by omega) (by omega)) ?_) | refine Exists.intro _ (And.intro rfl ?_) | refine And.intro rfl ?_ | refine condT ?_ | refine condF ?_ | refine condG1 ?_ | refine condG0 ?_ | refine condDT (by omega) ?_ | refine condDF (by omega) ?_ | refine condBT (by omega) ?_ | refine condBF (by omega) ?_ | refine condNT (by omega) ?_ | refine condNF (by omega) ?_ | refine And.intro (by omega) ?_ | refine And.intro (ble_of (by omega)) ?_ | refine And.intro (room_le (by omega)) ?_ | refine Exists.intro _ (And.intro (by assumption) ?_))
              refine callV (e1) (by simp [pureL, AV.pure]) (by simp [AV.dry, dryL]) ?_
              repeat (first | refine Exists.intro _ (And.intro (unA_neg_i64 (by omega) (by omega)) ?_) | refine Exists.intro _ (And.intro (binA_quo_i64 (by omega) (by omega) (by omega)) ?_) | refine Exists.intro _ (And.intro (binA_rem_i64 (by omega) (by omega)) ?_) | refine Exists.intro _ (And.intro (binA_sub_i64 (by omega) (by omega)) ?_) | refine Exists.intro _ (And.intro (binA_add_i64 (by omega) (by omega)) ?_) | refine Exists.intro _ (And.intro (conv_i64 (by omega) (by omega)) ?_) | refine Exists.intro _ (And.intro rfl ?_) | refine And.intro rfl ?_ | refine condT ?_ | refine condF ?_ | refine condG1 ?_ | refine condG0 ?_ | refine condDT (by omega) ?_ | refine condDF (by omega) ?_ | refine condBT (by omega) ?_ | refine condBF (by omega) ?_ | refine condNT (by omega) ?_ | refine condNF (by omega) ?_ | refine And.intro (by omega) ?_ | refine And.intro (ble_of (by omega)) ?_ | refine And.intro (room_le (by omega)) ?_ | refine Exists.intro _ (And.intro (by assumption) ?_))
              refine callV (e3) (by simp [pureL, AV.pure]) (by simp [AV.dry, dryL]) ?_
              repeat (first | refine Exists.intro _ (And.intro (unA_neg_i64 (by omega) (by omega)) ?_) | refine Exists.intro _ (And.intro (binA_quo_i64 (by omega) (by omega) (by omega)) ?_) | refine Exists.intro _ (And.intro (binA_rem_i64 (by omega) (by omega)) ?_) | refine Exists.intro _ (And.intro (binA_sub_i64 (by omega) (by omega)) ?_) | refine Exists.intro _ (And.intro (binA_add_i64 (by omega) (by omega)) ?_) | refine Exists.intro _ (And.intro (conv_i64 (by omega) (by omega)) ?_) | refine Exists.intro _ (And.intro rfl ?_) | refine And.intro rfl ?_ | refine condT ?_ | refine condF ?_ | refine condG1 ?_ | refine condG0 ?_ | refine condDT (by omega) ?_ | refine condDF (by omega) ?_ | refine condBT (by omega) ?_ | refine condBF (by omega) ?_ | refine condNT (by omega) ?_ | refine condNF (by omega) ?_ | refine And.intro (by omega) ?_ | refine And.intro (ble_of (by omega)) ?_ | refine And.intro (room_le (by omega)) ?_ | refine Exists.intro _ (And.intro (by assumption) ?_))
              refine ev_keep [30, 31, 32, 0, 1, 2, 7, 9] [93] ?_
              exact eq_loop17 rs (done ++ [r]) out (by simp; omega) _ _ _ _ _ (k + 1) es (by simp [e]) (by simp [hk]) hm hes
end
end Go.AM.IR
namespace Go.AM.IR
/-! ### Comparison is an order -/
def lx : List Int → List Int → Int
  | x :: u, y :: v => if x < y then -1 else if y < x then 1 else lx u v
  | _, _ => 0
theorem lx_range : ∀ u v, lx u v = -1 ∨ lx u v = 0 ∨ lx u v = 1
  | [], v => by cases v <;> simp [lx]
  | x :: u, [] => by simp [lx]
  | x :: u, y :: v => by
    simp only [lx]
    split
    · simp
    · split
      · simp
      · exact lx_range u v
theorem lx_swap : ∀ u v, lx v u = -lx u v
  | [], v => by cases v <;> simp [lx]
  | x :: u, [] => by simp [lx]
  | x :: u, y :: v => by
    simp only [lx, lx_swap u v]
    by_cases h1 : x < y
    · rw [if_neg (by omega), if_pos h1, if_pos h1]; rfl
    · by_cases h2 : y < x
      · rw [if_pos h2, if_neg h1, if_pos h2]
      · rw [if_neg h2, if_neg h1, if_neg h1, if_neg h2]
theorem lx_eq : ∀ u v, u.length = v.length → lx u v = 0 → u = v
  | [], [], _, _ => rfl
  | x :: u, y :: v, hl, h => by
    simp only [lx] at h
    split at h
    · omega
    · split at h
      · omega
      · obtain rfl : x = y := by omega
        rw [lx_eq u v (by simpa using hl) h]
theorem lx_trans : ∀ u v w, u.length = v.length → v.length = w.length → lx u v < 0 → lx v w ≤ 0 → lx u w < 0
  | [], [], [], _, _, h, _ => by simp [lx] at h
  | x :: u, y :: v, z :: w, h1, h2, h3, h4 => by
    simp only [lx] at *
    by_cases a : x < y
    · by_cases b : y < z
      · rw [if_pos (by omega)]; omega
      · by_cases c : z < y
        · rw [if_neg b, if_pos c] at h4; omega
        · rw [if_pos (by omega)]; omega
    · by_cases a2 : y < x
      · rw [if_neg a, if_pos a2] at h3; omega
      · rw [if_neg a, if_neg a2] at h3
        obtain rfl : x = y := by omega
        by_cases b : x < z
        · rw [if_pos b]; omega
        · by_cases c : z < x
          · rw [if_neg b, if_pos c] at h4; omega
          · rw [if_neg b, if_neg c] at h4 ⊢
            exact lx_trans u v w (by simpa using h1) (by simpa using h2) h3 h4
theorem lx_trans' (u v w : List Int) (h1 : u.length = v.length) (h2 : v.length = w.length) (h3 : lx u v ≤ 0) (h4 : lx v w < 0) : lx u w < 0 := by
  rcases lx_range u v with h | h | h
  · exact lx_trans u v w h1 h2 (by omega) (by omega)
  · rw [lx_eq u v h1 h]; exact h4
  · omega
def vecA (m : Int) (r : PVRoute) (cs : List IGP) : List Int :=
  [flg (r.peer == -1), -prefS r, lenS r.attrs.path, r.attrs.origin, m, (if innerS r then 1 else 0), flg (costS cs r).2, (costS cs r).1, routerS r, r.attrs.clusters.length, r.peer]
def grp (a b : PVRoute) : Bool := (firstS a.attrs.path).2 && (firstS b.attrs.path).2 && ((firstS a.attrs.path).1 == (firstS b.attrs.path).1)
theorem cmp_lx (a b : PVRoute) (cs : List IGP) : (compareR a b cs).1 = lx (vecA (if grp a b then medS a else 0) a cs) (vecA (if grp a b then medS b else 0) b cs) := by
  have step : ∀ (x y : Int) (r : List (Int × Int)) (n : Int) (u v : List Int), (firstP r (n + 1)).1 = lx u v → (firstP ((x, y) :: r) n).1 = lx (x :: u) (y :: v) := by
    intro x y r n u v h
    simp only [firstP, lx]
    split
    · rfl
    · split
      · rfl
      · exact h
  unfold compareR pairsR vecA
  refine step _ _ _ _ _ _ ?_
  have neg : ∀ (x y : Int) (r : List (Int × Int)) (n : Int) (u v : List Int), (firstP r (n + 1)).1 = lx u v → (firstP ((y, x) :: r) n).1 = lx (-x :: u) (-y :: v) := by
    intro x y r n u v h
    simp only [firstP, lx]
    by_cases h1 : y < x
    · rw [if_pos h1, if_pos (by omega)]
    · by_cases h2 : x < y
      · rw [if_neg h1, if_pos h2, if_neg (by omega), if_pos (by omega)]
      · rw [if_neg h1, if_neg h2, if_neg (by omega), if_neg (by omega)]; exact h
  refine neg _ _ _ _ _ _ ?_
  refine step _ _ _ _ _ _ ?_
  refine step _ _ _ _ _ _ ?_
  have h5 : rule5R a b = (if grp a b then medS a else 0, if grp a b then medS b else 0) := by
    unfold rule5R grp
    split <;> rfl
  rw [h5]
  refine step _ _ _ _ _ _ ?_
  refine step _ _ _ _ _ _ ?_
  have h7 : ∀ (r : List (Int × Int)) (n : Int) (u v : List Int), (firstP r (n + 1)).1 = lx u v → (firstP (rule7R a b cs :: r) n).1 = lx (flg (costS cs a).2 :: (costS cs a).1 :: u) (flg (costS cs b).2 :: (costS cs b).1 :: v) := by
    intro r n u v h
    have ca := cost_none cs a
    have cb := cost_none cs b
    unfold rule7R
    generalize costS cs a = p at *
    generalize costS cs b = q at *
    obtain ⟨x, p⟩ := p
    obtain ⟨y, q⟩ := q
    cases p <;> cases q
    · obtain rfl : x = 0 := ca rfl
      obtain rfl : y = 0 := cb rfl
      simp only [firstP, lx, flg, Bool.and_false, Bool.false_eq_true, if_false]
      exact h
    · simp only [firstP, lx, flg, Bool.and_true, Bool.false_eq_true, if_false, if_true]
      rfl
    · simp only [firstP, lx, flg, Bool.and_false, Bool.false_eq_true, if_false, if_true]
      rfl
    · simp only [Bool.and_self, if_true, flg]
      have := step x y r n u v h
      rw [this]
      simp only [lx, Int.lt_irrefl, if_false]
  refine h7 _ _ _ _ ?_
  refine step _ _ _ _ _ _ ?_
  refine step _ _ _ _ _ _ ?_
  refine step _ _ _ _ _ _ ?_
  rfl
theorem vec_len (m m' : Int) (a b : PVRoute) (cs : List IGP) : (vecA m a cs).length = (vecA m' b cs).length := rfl
def gm (r : PVRoute) : Int := if (firstS r.attrs.path).2 then medS r else 0
/-- The key of a route's group. -/
def key (r : PVRoute) : Int × Bool := firstS r.attrs.path
theorem group_key (a b : PVRoute) : sameGroupS a b = true ↔ key a = key b := by
  unfold sameGroupS key
  rw [Prod.ext_iff]
  simp only [Bool.and_eq_true, beq_iff_eq]
  exact And.comm
def V (r : PVRoute) (cs : List IGP) : List Int := vecA (gm r) r cs
def V0 (r : PVRoute) (cs : List IGP) : List Int := vecA 0 r cs
theorem cmp_same {a b : PVRoute} (h : key a = key b) (cs : List IGP) : (compareR a b cs).1 = lx (V a cs) (V b cs) := by
  rw [cmp_lx]
  unfold V gm
  unfold key at h
  unfold grp
  rw [← h]
  cases (firstS a.attrs.path).2 <;> simp
theorem cmp_diff {a b : PVRoute} (h : key a ≠ key b) (cs : List IGP) : (compareR a b cs).1 = lx (V0 a cs) (V0 b cs) := by
  rw [cmp_lx]
  unfold V0
  have : grp a b = false := by
    cases hg : grp a b with
    | false => rfl
    | true =>
      refine absurd ?_ h
      unfold grp at hg
      simp only [Bool.and_eq_true, beq_iff_eq] at hg
      unfold key
      exact Prod.ext hg.2 (hg.1.1.trans hg.1.2.symm)
  rw [this]; rfl
end Go.AM.IR
namespace Go.AM.IR
def R (f : Nat → List Int) (k i : Nat) : Prop := lx (f k) (f i) < 0 ∨ (lx (f k) (f i) = 0 ∧ k < i)
section
variable {f : Nat → List Int} {n : Nat} (hf : ∀ i, (f i).length = n)
include hf
theorem R_trans {a b c : Nat} (h1 : R f a b) (h2 : R f b c) : R f a c := by
  have l1 : (f a).length = (f b).length := by rw [hf, hf]
  have l2 : (f b).length = (f c).length := by rw [hf, hf]
  rcases h1 with h1 | ⟨h1, p⟩
  · refine .inl (lx_trans _ _ _ l1 l2 h1 ?_)
    rcases h2 with h2 | ⟨h2, _⟩ <;> omega
  · have e := lx_eq _ _ l1 h1
    rcases h2 with h2 | ⟨h2, q⟩
    · exact .inl (by rw [e]; exact h2)
    · exact .inr ⟨by rw [e]; exact h2, by omega⟩
omit hf in
theorem R_asymm {a b : Nat} (h1 : R f a b) (h2 : R f b a) : False := by
  have := lx_swap (f a) (f b)
  rcases h1 with h1 | ⟨h1, p⟩ <;> rcases h2 with h2 | ⟨h2, q⟩ <;> omega
omit hf in
theorem R_tri {a b : Nat} (h : a ≠ b) : R f a b ∨ R f b a := by
  have h1 := lx_swap (f a) (f b)
  rcases lx_range (f a) (f b) with q | q | q
  · exact .inl (.inl (by omega))
  · rcases Nat.lt_or_gt_of_ne h with z | z
    · exact .inl (.inr ⟨q, z⟩)
    · exact .inr (.inr ⟨by omega, z⟩)
  · exact .inr (.inl (by omega))
end
section
variable (l : List PVRoute) (cs : List IGP)
def atI (i : Nat) : PVRoute := l.getD i default
def kI (i : Nat) : Int × Bool := key (l.getD i default)
def U (i : Nat) : Prop := i < l.length ∧ (costS cs (l.getD i default)).2 = true
def fV (i : Nat) : List Int := V (l.getD i default) cs
def fV0 (i : Nat) : List Int := V0 (l.getD i default) cs
theorem fV_len (i : Nat) : (fV l cs i).length = 11 := rfl
theorem fV0_len (i : Nat) : (fV0 l cs i).length = 11 := rfl
theorem better_same {k i : Nat} (h : kI l k = kI l i) : better l cs k i = true ↔ R (fV l cs) k i := by
  unfold better cm R fV
  rw [cmp_same h]
  simp
theorem better_diff {k i : Nat} (h : kI l k ≠ kI l i) : better l cs k i = true ↔ R (fV0 l cs) k i := by
  unfold better cm R fV0
  rw [cmp_diff h]
  simp
theorem better_asymm {k i : Nat} (h1 : better l cs k i = true) (h2 : better l cs i k = true) : False := by
  by_cases h : kI l k = kI l i
  · exact R_asymm ((better_same l cs h).1 h1) ((better_same l cs h.symm).1 h2)
  · exact R_asymm ((better_diff l cs h).1 h1) ((better_diff l cs (Ne.symm h)).1 h2)
theorem better_tri {k i : Nat} (h : k ≠ i) : better l cs k i = true ∨ better l cs i k = true := by
  by_cases hk : kI l k = kI l i
  · rcases R_tri (f := fV l cs) h with q | q
    · exact .inl ((better_same l cs hk).2 q)
    · exact .inr ((better_same l cs hk.symm).2 q)
  · rcases R_tri (f := fV0 l cs) h with q | q
    · exact .inl ((better_diff l cs hk).2 q)
    · exact .inr ((better_diff l cs (Ne.symm hk)).2 q)
theorem better_trans_same {a b c : Nat} (h : kI l a = kI l b) (h' : kI l b = kI l c) (h1 : better l cs a b = true) (h2 : better l cs b c = true) : better l cs a c = true :=
  (better_same l cs (h.trans h')).2 (R_trans (fV_len l cs) ((better_same l cs h).1 h1) ((better_same l cs h').1 h2))
theorem better_trans_diff {a b c : Nat} (h : kI l a ≠ kI l b) (h' : kI l b ≠ kI l c) (h'' : kI l a ≠ kI l c) (h1 : better l cs a b = true) (h2 : better l cs b c = true) : better l cs a c = true :=
  (better_diff l cs h'').2 (R_trans (fV0_len l cs) ((better_diff l cs h).1 h1) ((better_diff l cs h').1 h2))

/-- Route i wins its group. -/
def Win (i : Nat) : Prop := U l cs i ∧ ∀ k, U l cs k → kI l k = kI l i → k ≠ i → better l cs k i = false
theorem Win.one {i j : Nat} (h : Win l cs i) (h' : Win l cs j) (hk : kI l i = kI l j) : i = j := by
  rcases Nat.decEq i j with q | q
  · rcases better_tri l cs q with z | z
    · have := h'.2 i h.1 hk q; rw [this] at z; cases z
    · have := h.2 j h'.1 hk.symm (Ne.symm q); rw [this] at z; cases z
  · exact q
/-- No winner is better. -/
def IsB (i : Nat) : Prop := Win l cs i ∧ ∀ j, Win l cs j → j ≠ i → better l cs j i = false
theorem IsB.one {i j : Nat} (h : IsB l cs i) (h' : IsB l cs j) : i = j := by
  rcases Nat.decEq i j with q | q
  · rcases better_tri l cs q with z | z
    · have := h'.2 i h.1 q; rw [this] at z; cases z
    · have := h.2 j h'.1 (Ne.symm q); rw [this] at z; cases z
  · exact q

/-! ### The winners -/
structure WinOk (i : Nat) (out : List Nat) : Prop where
  us : ∀ w ∈ out, w < i ∧ U l cs w
  one : ∀ (a b : Nat) (v w : Nat), out[a]? = some v → out[b]? = some w → kI l v = kI l w → a = b
  min : ∀ k, k < i → U l cs k → ∃ w ∈ out, kI l w = kI l k ∧ (w = k ∨ better l cs w k = true)
theorem findW_some (r : PVRoute) : ∀ (out : List Nat) (k : Nat) (x : Nat × Nat), findW l r out k = some x → ∃ j, x.1 = k + j ∧ out[j]? = some x.2 ∧ key r = kI l x.2
  | [], _, _, h => by cases h
  | w :: ws, k, x, h => by
    simp only [findW] at h
    split at h
    · rename_i hg
      obtain rfl := Option.some.inj h
      exact ⟨0, rfl, rfl, (group_key _ _).1 hg⟩
    · obtain ⟨j, h1, h2, h3⟩ := findW_some r ws (k + 1) x h
      exact ⟨j + 1, by omega, h2, h3⟩
theorem findW_none (r : PVRoute) : ∀ (out : List Nat) (k : Nat), findW l r out k = none → ∀ w ∈ out, key r ≠ kI l w
  | [], _, _, w, h => by cases h
  | w :: ws, k, h, v, hv => by
    simp only [findW] at h
    split at h
    · cases h
    · rename_i hg
      rcases List.mem_cons.1 hv with rfl | hv
      · exact fun q => hg ((group_key _ _).2 q)
      · exact findW_none r ws (k + 1) h v hv
theorem step_ok (i : Nat) (out : List Nat) (r : PVRoute) (hi : l[i]? = some r) (h : WinOk l cs i out) : WinOk l cs (i + 1) (stepW l cs out i r) := by
  have hr : l.getD i default = r := by rw [List.getD_eq_getElem?_getD, hi]; rfl
  have hil : i < l.length := (List.getElem?_eq_some_iff.1 hi).1
  have hkr : kI l i = key r := by unfold kI; rw [hr]
  unfold stepW
  cases hu : (costS cs r).2 with
  | false =>
    simp only [Bool.false_eq_true, if_false]
    refine ⟨fun w hw => ⟨by have := (h.us w hw).1; omega, (h.us w hw).2⟩, h.one, fun k hk hU => ?_⟩
    rcases Nat.lt_or_ge k i with q | q
    · exact h.min k q hU
    · obtain rfl : k = i := by omega
      have := hU.2; rw [hr, hu] at this; cases this
  | true =>
    simp only [if_true]
    have hUi : U l cs i := ⟨hil, by rw [hr]; exact hu⟩
    unfold stepG
    cases hf : findW l r out 0 with
    | none =>
      have hn := findW_none l r out 0 hf
      refine ⟨fun w hw => ?_, fun a b v w ha hb hk => ?_, fun k hk hU => ?_⟩
      · rcases List.mem_append.1 hw with q | q
        · exact ⟨by have := (h.us w q).1; omega, (h.us w q).2⟩
        · obtain rfl := List.mem_singleton.1 q; exact ⟨by omega, hUi⟩
      · have at_ : ∀ (a v : Nat), (out ++ [i])[a]? = some v → (a < out.length ∧ out[a]? = some v) ∨ (a = out.length ∧ v = i) := fun a v ha => by
          rcases Nat.lt_or_ge a out.length with q | q
          · rw [List.getElem?_append_left q] at ha; exact .inl ⟨q, ha⟩
          · rw [List.getElem?_append_right q] at ha
            have : a - out.length = 0 := by
              rcases Nat.eq_zero_or_pos (a - out.length) with z | z
              · exact z
              · rw [List.getElem?_eq_none (by simp; omega)] at ha; cases ha
            rw [this] at ha
            simp at ha
            exact .inr ⟨by omega, ha.symm⟩
        rcases at_ a v ha with ⟨q1, q2⟩ | ⟨q1, q2⟩ <;> rcases at_ b w hb with ⟨z1, z2⟩ | ⟨z1, z2⟩
        · exact h.one a b v w q2 z2 hk
        · subst z2; exact absurd (hkr.symm.trans hk.symm) (hn v (List.mem_of_getElem? q2))
        · subst q2; exact absurd (hkr.symm.trans hk) (hn w (List.mem_of_getElem? z2))
        · omega
      · rcases Nat.lt_or_ge k i with q | q
        · obtain ⟨w, hw, h1, h2⟩ := h.min k q hU
          exact ⟨w, List.mem_append_left _ hw, h1, h2⟩
        · obtain rfl : k = i := by omega
          exact ⟨k, by simp, rfl, .inl rfl⟩
    | some x =>
      obtain ⟨p, w⟩ := x
      obtain ⟨j, h1, h2, h3⟩ := findW_some l r out 0 (p, w) hf
      simp only [Nat.zero_add] at h1 h2 h3
      subst h1
      have hwo : w ∈ out := List.mem_of_getElem? h2
      have hkw : kI l i = kI l w := hkr.trans h3
      have hwi := (h.us w hwo).1
      dsimp only
      have hcm : (compareR r (l.getD w default) cs).1 = (cm l cs i w).1 := by unfold cm; rw [hr]
      rw [hcm]
      split
      · rename_i hlt
        have hb : better l cs i w = true := by unfold better; simp [hlt]
        have hj : p < out.length := (List.getElem?_eq_some_iff.1 h2).1
        have at_ : ∀ (a v : Nat), (out.set p i)[a]? = some v → (a = p ∧ v = i) ∨ (a ≠ p ∧ out[a]? = some v) := fun a v ha => by
          rcases Nat.decEq a p with q | q
          · rw [List.getElem?_set_ne (Ne.symm q)] at ha; exact .inr ⟨q, ha⟩
          · subst q
            rw [List.getElem?_set_self hj] at ha
            exact .inl ⟨rfl, (Option.some.inj ha).symm⟩
        refine ⟨fun v hv => ?_, fun a b v v' ha hb' hk => ?_, fun k hk hU => ?_⟩
        · rcases List.mem_or_eq_of_mem_set hv with q | rfl
          · exact ⟨by have := (h.us v q).1; omega, (h.us v q).2⟩
          · exact ⟨by omega, hUi⟩
        · rcases at_ a v ha with ⟨q1, q2⟩ | ⟨q1, q2⟩ <;> rcases at_ b v' hb' with ⟨z1, z2⟩ | ⟨z1, z2⟩
          · omega
          · subst q2; exact absurd (h.one b p v' w z2 h2 (hk.symm.trans hkw)) z1
          · subst z2; exact absurd (h.one a p v w q2 h2 (hk.trans hkw)) q1
          · exact h.one a b v v' q2 z2 hk
        · have hmi : i ∈ out.set p i := by
            have := List.getElem?_set_self (l := out) (i := p) (a := i) hj
            exact List.mem_of_getElem? this
          rcases Nat.lt_or_ge k i with q | q
          · obtain ⟨v, hv, g1, g2⟩ := h.min k q hU
            obtain ⟨a, ha⟩ := List.getElem?_of_mem hv
            rcases Nat.decEq a p with z | z
            · exact ⟨v, List.mem_of_getElem? (by rw [List.getElem?_set_ne (Ne.symm z)]; exact ha), g1, g2⟩
            · subst z
              obtain rfl : v = w := by rw [h2] at ha; exact (Option.some.inj ha).symm
              refine ⟨i, hmi, hkw.trans g1, .inr ?_⟩
              rcases g2 with rfl | g2
              · exact hb
              · exact better_trans_same l cs hkw g1 hb g2
          · obtain rfl : k = i := by omega
            exact ⟨k, hmi, rfl, .inl rfl⟩
      · rename_i hlt
        have hb : better l cs w i = true := by
          have h0 : better l cs i w = false := by
            unfold better
            simp only [hlt, decide_false, Bool.false_or]
            simp; omega
          rcases better_tri l cs (k := w) (i := i) (by omega) with q | q
          · exact q
          · rw [h0] at q; cases q
        refine ⟨fun v hv => ⟨by have := (h.us v hv).1; omega, (h.us v hv).2⟩, h.one, fun k hk hU => ?_⟩
        rcases Nat.lt_or_ge k i with q | q
        · exact h.min k q hU
        · obtain rfl : k = i := by omega
          exact ⟨w, hwo, hkw.symm, .inr hb⟩
theorem winL_win : ∀ (rest done : List PVRoute) (out : List Nat), l = done ++ rest → WinOk l cs done.length out → WinOk l cs l.length (winL l cs rest done.length out)
  | [], done, out, e, h => by
    have : l.length = done.length := by simp [e]
    rw [this]; exact h
  | r :: rs, done, out, e, h => by
    have hs := step_ok l cs done.length out r (by simp [e]) h
    have := winL_win rs (done ++ [r]) (stepW l cs out done.length r) (by simp [e]) (by simpa using hs)
    simpa [winL] using this
theorem win_ok : WinOk l cs l.length (winL l cs l 0 []) := winL_win l cs l [] [] rfl ⟨by simp, by simp, fun k hk => by simp at hk⟩
theorem win_mem (i : Nat) : i ∈ winL l cs l 0 [] ↔ Win l cs i := by
  have h := win_ok l cs
  constructor
  · intro hi
    refine ⟨(h.us i hi).2, fun k hU hk hne => ?_⟩
    obtain ⟨w, hw, g1, g2⟩ := h.min k hU.1 hU
    obtain ⟨a, ha⟩ := List.getElem?_of_mem hi
    obtain ⟨b, hb⟩ := List.getElem?_of_mem hw
    obtain rfl := h.one a b i w ha hb ((g1.trans hk).symm)
    obtain rfl : w = i := by rw [ha] at hb; exact (Option.some.inj hb).symm
    cases hb' : better l cs k w with
    | false => rfl
    | true =>
      rcases g2 with rfl | g2
      · exact absurd rfl hne
      · exact (better_asymm l cs hb' g2).elim
  · intro hW
    obtain ⟨w, hw, g1, g2⟩ := h.min i hW.1.1 hW.1
    rcases g2 with rfl | g2
    · exact hw
    · rcases Nat.decEq w i with q | q
      · have := hW.2 w (h.us w hw).2 g1 q
        rw [this] at g2; cases g2
      · subst q; exact hw
end
end Go.AM.IR
namespace Go.AM.IR
section
variable (l : List PVRoute) (cs : List IGP)
/-- Of these, none is better than b. -/
def Inv (S : List Nat) : Option Nat → Prop
  | none => S = []
  | some b => b ∈ S ∧ ∀ w ∈ S, w ≠ b → better l cs w b = false
theorem inv_step (S : List Nat) (b w : Nat) (hk : ∀ v ∈ S ++ [w], ∀ v' ∈ S ++ [w], kI l v = kI l v' → v = v') (h : Inv l cs S (some b)) : Inv l cs (S ++ [w]) (some (if better l cs w b then w else b)) := by
  obtain ⟨h1, h2⟩ := h
  cases hb : better l cs w b with
  | false =>
    simp only [Bool.false_eq_true, if_false]
    refine ⟨by simp [h1], fun v hv hne => ?_⟩
    rcases List.mem_append.1 hv with q | q
    · exact h2 v q hne
    · obtain rfl := List.mem_singleton.1 q; exact hb
  | true =>
    simp only [if_true]
    refine ⟨by simp, fun v hv hne => ?_⟩
    have hvS : v ∈ S := by
      rcases List.mem_append.1 hv with q | q
      · exact q
      · exact absurd (List.mem_singleton.1 q) hne
    cases hvw : better l cs v w with
    | false => rfl
    | true =>
      rcases Nat.decEq v b with q | q
      · have k1 : kI l v ≠ kI l w := fun z => hne (hk v hv w (by simp) z)
        have k2 : kI l w ≠ kI l b := fun z => by
          have := hk w (by simp) b (by simp [h1]) z
          subst this; exact better_asymm l cs hb hb
        have k3 : kI l v ≠ kI l b := fun z => q (hk v hv b (by simp [h1]) z)
        have := better_trans_diff l cs k1 k2 k3 hvw hb
        rw [h2 v hvS q] at this; cases this
      · subst q; exact (better_asymm l cs hvw hb).elim
theorem bestF_inv : ∀ (ws S : List Nat) (b : Option Nat), (∀ v ∈ S ++ ws, ∀ v' ∈ S ++ ws, kI l v = kI l v' → v = v') → Inv l cs S b → Inv l cs (S ++ ws) (bestF l cs ws b)
  | [], S, b, _, h => by simpa [bestF] using h
  | w :: ws, S, none, hk, h => by
    obtain rfl : S = [] := h
    have := bestF_inv ws [w] (some w) (by simpa using hk) ⟨by simp, fun v hv hne => absurd (by simpa using hv) hne⟩
    simpa [bestF] using this
  | w :: ws, S, some b, hk, h => by
    have hs := inv_step l cs S b w (fun v hv v' hv' => hk v (by simp at hv ⊢; rcases hv with q | q; exact .inl q; exact .inr (.inl q)) v' (by simp at hv' ⊢; rcases hv' with q | q; exact .inl q; exact .inr (.inl q))) h
    have := bestF_inv ws (S ++ [w]) _ (by simpa using hk) hs
    simpa [bestF] using this
theorem winL_keys : ∀ v ∈ winL l cs l 0 [], ∀ v' ∈ winL l cs l 0 [], kI l v = kI l v' → v = v' := fun v hv v' hv' h =>
  Win.one l cs ((win_mem l cs v).1 hv) ((win_mem l cs v').1 hv') h
theorem bestS_spec : match bestS l cs with
    | none => ∀ i, ¬ Win l cs i
    | some b => IsB l cs b := by
  have h := bestF_inv l cs (winL l cs l 0 []) [] none (by simpa using winL_keys l cs) rfl
  simp only [List.nil_append] at h
  unfold bestS
  cases hb : bestF l cs (winL l cs l 0 []) none with
  | none =>
    rw [hb] at h
    intro i hi
    have := (win_mem l cs i).2 hi
    rw [show winL l cs l 0 [] = [] from h] at this
    cases this
  | some b =>
    rw [hb] at h
    exact ⟨(win_mem l cs b).1 h.1, fun j hj hne => h.2 j ((win_mem l cs j).2 hj) hne⟩
theorem winsL_iff (i : Nat) (r : PVRoute) : ∀ (rest : List PVRoute) (k : Nat) (acc : Bool), winsL l cs i r rest k acc = true ↔ acc = true ∧ ∀ j s, rest[j]? = some s → k + j ≠ i → (costS cs s).2 = true → sameGroupS r s = true → better l cs (k + j) i = false
  | [], k, acc => by simp [winsL]
  | s :: ss, k, acc => by
    simp only [winsL]
    rw [winsL_iff i r ss (k + 1)]
    constructor
    · rintro ⟨h1, h2⟩
      refine ⟨?_, fun j s' hj hne hu hg => ?_⟩
      · split at h1
        · exact h1
        · split at h1
          · cases h1
          · exact h1
      · cases j with
        | zero =>
          obtain rfl : s = s' := by simpa using hj
          have hki : k ≠ i := by simpa using hne
          simp only [hki, decide_false, hu, hg, Bool.not_true, Bool.or_self, Bool.false_eq_true, if_false] at h1
          split at h1
          · cases h1
          · rename_i hb; simpa using hb
        | succ j =>
          have := h2 j s' (by simpa using hj) (by omega) hu hg
          rwa [show k + 1 + j = k + (j + 1) from by omega] at this
    · rintro ⟨h1, h2⟩
      refine ⟨?_, fun j s' hj hne hu hg => ?_⟩
      · split
        · exact h1
        · rename_i hc
          simp only [Bool.or_eq_true, decide_eq_true_eq, Bool.not_eq_true', not_or, Bool.not_eq_false] at hc
          have := h2 0 s rfl (by simpa using hc.1.1) hc.1.2 hc.2
          rw [show k + 0 = k from rfl] at this
          rw [this]; simpa using h1
      · have := h2 (j + 1) s' (by simpa using hj) (by omega) hu hg
        rwa [show k + (j + 1) = k + 1 + j from by omega] at this
theorem winsL_win (i : Nat) (r : PVRoute) (hi : l[i]? = some r) : winsL l cs i r l 0 (costS cs r).2 = true ↔ Win l cs i := by
  have hr : l.getD i default = r := by rw [List.getD_eq_getElem?_getD, hi]; rfl
  have hil : i < l.length := (List.getElem?_eq_some_iff.1 hi).1
  rw [winsL_iff]
  simp only [Nat.zero_add]
  constructor
  · rintro ⟨h1, h2⟩
    refine ⟨⟨hil, by rw [hr]; exact h1⟩, fun k hU hk hne => ?_⟩
    have hkd : l[k]? = some (l.getD k default) := by rw [List.getD_eq_getElem?_getD, List.getElem?_eq_getElem hU.1]; rfl
    refine h2 k _ hkd hne hU.2 ((group_key _ _).2 ?_)
    unfold kI at hk; rw [hr] at hk; exact hk.symm
  · rintro ⟨h1, h2⟩
    refine ⟨by rw [← hr]; exact h1.2, fun j s hj hne hu hg => ?_⟩
    have hs : l.getD j default = s := by rw [List.getD_eq_getElem?_getD, hj]; rfl
    refine h2 j ⟨(List.getElem?_eq_some_iff.1 hj).1, by rw [hs]; exact hu⟩ ?_ hne
    unfold kI; rw [hr, hs]; exact ((group_key _ _).1 hg).symm
theorem bestR_inv : ∀ (rest done : List PVRoute) (S : List Nat) (b : Option Nat), l = done ++ rest → (∀ w, w ∈ S ↔ (w < done.length ∧ Win l cs w)) → Inv l cs S b →
    ∃ S', (∀ w, w ∈ S' ↔ Win l cs w) ∧ Inv l cs S' (bestR l cs rest done.length b)
  | [], done, S, b, e, hS, h => by
    refine ⟨S, fun w => ?_, h⟩
    rw [hS w]
    constructor
    · exact fun q => q.2
    · intro q
      have := q.1.1
      simp only [List.append_nil] at e
      rw [e] at this
      exact ⟨this, q⟩
  | r :: rs, done, S, b, e, hS, h => by
    have hi : l[done.length]? = some r := by simp [e]
    have hw := winsL_win l cs done.length r hi
    have hdl : (done ++ [r]).length = done.length + 1 := by simp
    have hgo : bestR l cs (r :: rs) done.length b = bestR l cs rs (done ++ [r]).length (if winsL l cs done.length r l 0 (costS cs r).2 then bestStep l cs done.length b else b) := by rw [hdl]; rfl
    rw [hgo]
    cases hc : winsL l cs done.length r l 0 (costS cs r).2 with
    | false =>
      simp only [Bool.false_eq_true, if_false]
      refine bestR_inv rs (done ++ [r]) S b (by simp [e]) (fun w => ?_) h
      rw [hS w, hdl]
      constructor
      · exact fun q => ⟨by omega, q.2⟩
      · rintro ⟨q1, q2⟩
        refine ⟨?_, q2⟩
        rcases Nat.lt_or_ge w done.length with z | z
        · exact z
        · obtain rfl : w = done.length := by omega
          rw [hc] at hw; exact absurd (hw.2 q2) (by simp)
    | true =>
      simp only [if_true]
      have hW := hw.1 hc
      have hmem : ∀ w, w ∈ S ++ [done.length] ↔ (w < (done ++ [r]).length ∧ Win l cs w) := fun w => by
        simp only [List.mem_append, List.mem_singleton, hS w, hdl]
        constructor
        · rintro (⟨q1, q2⟩ | rfl)
          · exact ⟨by omega, q2⟩
          · exact ⟨by omega, hW⟩
        · rintro ⟨q1, q2⟩
          rcases Nat.lt_or_ge w done.length with z | z
          · exact .inl ⟨z, q2⟩
          · exact .inr (by omega)
      refine bestR_inv rs (done ++ [r]) (S ++ [done.length]) _ (by simp [e]) hmem ?_
      cases b with
      | none =>
        obtain rfl : S = [] := h
        exact ⟨by simp, fun v hv hne => absurd (by simpa using hv) hne⟩
      | some b =>
        have hkeys : ∀ v ∈ S ++ [done.length], ∀ v' ∈ S ++ [done.length], kI l v = kI l v' → v = v' := fun v hv v' hv' hk => Win.one l cs ((hmem v).1 hv).2 ((hmem v').1 hv').2 hk
        have := inv_step l cs S b done.length hkeys h
        have hbl : b < done.length := ((hS b).1 h.1).1
        have hb : better l cs done.length b = decide ((cm l cs done.length b).1 < 0) := by
          unfold better
          rw [show decide (done.length < b) = false from by simp; omega]
          simp
        rw [hb] at this
        unfold bestStep
        by_cases hlt : (cm l cs done.length b).1 < 0
        · simp only [hlt, decide_true, if_true] at this ⊢; exact this
        · simp only [hlt, decide_false, Bool.false_eq_true, if_false] at this ⊢; exact this
theorem best_same : bestR l cs l 0 none = bestS l cs := by
  obtain ⟨S, h1, h2⟩ := bestR_inv l cs l [] [] none rfl (by simp) rfl
  have h3 := bestS_spec l cs
  cases hb : bestR l cs l 0 none with
  | none =>
    rw [show ([] : List PVRoute).length = 0 from rfl, hb] at h2
    obtain rfl : S = [] := h2
    cases hs : bestS l cs with
    | none => rfl
    | some b =>
      rw [hs] at h3
      have := (h1 b).2 h3.1
      cases this
  | some b =>
    rw [show ([] : List PVRoute).length = 0 from rfl, hb] at h2
    have hB : IsB l cs b := ⟨(h1 b).1 h2.1, fun j hj hne => h2.2 j ((h1 j).2 hj) hne⟩
    cases hs : bestS l cs with
    | none => rw [hs] at h3; exact absurd hB.1 (h3 b)
    | some b' => rw [hs] at h3; rw [IsB.one l cs hB h3]
end
end Go.AM.IR
namespace Go.AM.IR
set_option maxHeartbeats 4000000
set_option maxRecDepth 100000
def dupOf (done : List PVRoute) (x : PVRoute) : Bool := done.any fun y => x.peer == y.peer
def distL (done : List PVRoute) : List PVRoute → Bool
  | [] => true
  | x :: r => if dupOf done x then false else distL (done ++ [x]) r
section
variable (l : List PVRoute) (hl : l.length < 2 ^ 40) (x : PVRoute) (i : Nat) (hx : l[i]? = some x) (K : List AItem)
include hl hx
theorem dist_loop10 (ret : Bool) (d : List PVRoute) (hd : d = l.take i) (hdup : dupOf d x = true → ret = false)
    (cont : dupOf d x = false → ∀ (T : List (Nat × AV)) (H : Heap) (c : Nat), Ev G ⟨.inLoop f18x12L :: K, ⟨(5, .sl 22 (l.map PVRoute.enc)) :: (6, .int .i64 l.length) :: (7, .int .i64 (i + 1)) :: (0, .sl 22 (l.map PVRoute.enc)) :: T, H, c⟩, [.t 2], 0⟩ ⟨.bool ret, []⟩) :
    ∀ (rest done : List PVRoute) (T : List (Nat × AV)) (H : Heap) (c : Nat) (k : Int) (e : d = done ++ rest) (hk : k = done.length) (hno : dupOf done x = false),
    Ev G ⟨.inLoop f18x10L :: .inBlock 2 :: .inBlock 1 :: .code (.region f18x11 false) :: .inLoop f18x12L :: K, ⟨(13, .int .i64 d.length) :: (14, .int .i64 k) :: (3, .int .i64 i) :: (5, .sl 22 (l.map PVRoute.enc)) :: (6, .int .i64 l.length) :: (7, .int .i64 i) :: (0, .sl 22 (l.map PVRoute.enc)) :: T, H, c⟩, [.t 2], 0⟩ ⟨.bool ret, []⟩
  | [], done, T, H, c, k, e, hk, hno => by
    have hil := (List.getElem?_eq_some_iff.1 hx).1
    have hdb : d.length ≤ l.length := by rw [hd, List.length_take]; omega
    have hdl : d.length = done.length := by simp [e]
    have hnd : dupOf d x = false := by rw [e, List.append_nil]; exact hno
    refine ev_loop' (W_ok 200 _ _ _ _ ?_)
    repeat (first | refine Exists.intro _ (And.intro (unA_neg_i64 (by omega) (by omega)) ?_) | refine Exists.intro _ (And.intro (binA_quo_i64 (by omega) (by omega) (by omega)) ?_) | refine Exists.intro _ (And.intro (binA_rem_i64 (by omega) (by omega)) ?_) | refine Exists.intro _ (And.intro (binA_sub_i64 (by omega) (by omega)) ?_) | refine Exists.intro _ (And.intro (binA_add_i64 (by omega) (by omega)) ?_) | refine Exists.intro _ (And.intro (conv_i64 (by omega) (by omega)) ?_) | refine Exists.intro _ (And.intro rfl ?_) | refine And.intro rfl ?_ | refine condT ?_ | refine condF ?_ | refine condG1 ?_ | refine condG0 ?_ | refine condDT (by omega) ?_ | refine condDF (by omega) ?_ | refine condBT (by omega) ?_ | refine condBF (by omega) ?_ | refine condNT (by omega) ?_ | refine condNF (by omega) ?_ | refine And.intro (by omega) ?_ | refine And.intro (ble_of (by omega)) ?_ | refine And.intro (room_le (by omega)) ?_ | refine Exists.intro _ (And.intro (by assumption) ?_))
    refine ev_keep [5, 6, 7, 0] [] ?_
    exact cont hnd _ _ _
  | y :: r, done, T, H, c, k, e, hk, hno => by
    have hil := (List.getElem?_eq_some_iff.1 hx).1
    have hdb : d.length ≤ l.length := by rw [hd, List.length_take]; omega
    have hdl : d.length = done.length + (r.length + 1) := by simp [e]
    have hxe : (l.map PVRoute.enc)[((i : Int)).toNat]? = some x.enc := by simp [hx]
    have hy : l[done.length]? = some y := by
      have h1 : d[done.length]? = some y := by rw [e]; simp
      rw [hd, List.getElem?_take] at h1
      split at h1
      · exact h1
      · cases h1
    have hye : (l.map PVRoute.enc)[k.toNat]? = some y.enc := by simp [hk, hy]
    by_cases hp : x.peer = y.peer
    · have : ret = false := hdup (by rw [e]; simp [dupOf, hp])
      subst this
      refine ev_loop' (W_ok 200 _ _ _ _ ?_)
      repeat (first | refine Exists.intro _ (And.intro (unA_neg_i64 (by omega) (by omega)) ?_) | refine Exists.intro _ (And.intro (binA_quo_i64 (by omega) (by omega) (by omega)) ?_) | refine Exists.intro _ (And.intro (binA_rem_i64 (by omega) (by omega)) ?_) | refine Exists.intro _ (And.intro (binA_sub_i64 (by omega) (by omega)) ?_) | refine Exists.intro _ (And.intro (binA_add_i64 (by omega) (by omega)) ?_) | refine Exists.intro _ (And.intro (conv_i64 (by omega) (by omega)) ?_) | refine Exists.intro _ (And.intro rfl ?_) | refine And.intro rfl ?_ | refine condT ?_ | refine condF ?_ | refine condG1 ?_ | refine condG0 ?_ | refine condDT (by omega) ?_ | refine condDF (by omega) ?_ | refine condBT (by omega) ?_ | refine condBF (by omega) ?_ | refine condNT (by omega) ?_ | refine condNF (by omega) ?_ | refine And.intro (by omega) ?_ | refine And.intro (ble_of (by omega)) ?_ | refine And.intro (room_le (by omega)) ?_ | refine Exists.intro _ (And.intro (by assumption) ?_))
      rfl
    · refine ev_loop' (W_ok 200 _ _ _ _ ?_)
      repeat (first | refine Exists.intro _ (And.intro (unA_neg_i64 (by omega) (by omega)) ?_) | refine Exists.intro _ (And.intro (binA_quo_i64 (by omega) (by omega) (by omega)) ?_) | refine Exists.intro _ (And.intro (binA_rem_i64 (by omega) (by omega)) ?_) | refine Exists.intro _ (And.intro (binA_sub_i64 (by omega) (by omega)) ?_) | refine Exists.intro _ (And.intro (binA_add_i64 (by omega) (by omega)) ?_) | refine Exists.intro _ (And.intro (conv_i64 (by omega) (by omega)) ?_) | refine Exists.intro _ (And.intro rfl ?_) | refine And.intro rfl ?_ | refine condT ?_ | refine condF ?_ | refine condG1 ?_ | refine condG0 ?_ | refine condDT (by omega) ?_ | refine condDF (by omega) ?_ | refine condBT (by omega) ?_ | refine condBF (by omega) ?_ | refine condNT (by omega) ?_ | refine condNF (by omega) ?_ | refine And.intro (by omega) ?_ | refine And.intro (ble_of (by omega)) ?_ | refine And.intro (room_le (by omega)) ?_ | refine Exists.intro _ (And.intro (by assumption) ?_))
      refine ev_keep [13, 14, 3, 5, 6, 7, 0] [] ?_
      exact dist_loop10 ret d hd hdup cont r (done ++ [y]) _ _ _ (k + 1) (by simp [e]) (by simp [hk]) (by simp [dupOf] at hno ⊢; exact ⟨hno, hp⟩)
end
section
variable (l : List PVRoute) (hl : l.length < 2 ^ 40)
include hl
theorem dist_loop12 : ∀ (rest done : List PVRoute) (T : List (Nat × AV)) (H : Heap) (c : Nat) (n : Int) (e : l = done ++ rest) (hn : n = done.length),
    Ev G ⟨[.inLoop f18x12L, .inBlock 0, .code (.seq (.region f18x13 false) .ret)], ⟨(5, .sl 22 (l.map PVRoute.enc)) :: (6, .int .i64 l.length) :: (7, .int .i64 n) :: (0, .sl 22 (l.map PVRoute.enc)) :: T, H, c⟩, [.t 2], 0⟩ ⟨.bool (distL done rest), []⟩
  | [], done, T, H, c, n, e, hn => by
    have hd : l.length = done.length := by simp [e]
    refine ev_loop' (W_ok 200 _ _ _ _ ?_)
    repeat (first | refine Exists.intro _ (And.intro (unA_neg_i64 (by omega) (by omega)) ?_) | refine Exists.intro _ (And.intro (binA_quo_i64 (by omega) (by omega) (by omega)) ?_) | refine Exists.intro _ (And.intro (binA_rem_i64 (by omega) (by omega)) ?_) | refine Exists.intro _ (And.intro (binA_sub_i64 (by omega) (by omega)) ?_) | refine Exists.intro _ (And.intro (binA_add_i64 (by omega) (by omega)) ?_) | refine Exists.intro _ (And.intro (conv_i64 (by omega) (by omega)) ?_) | refine Exists.intro _ (And.intro rfl ?_) | refine And.intro rfl ?_ | refine condT ?_ | refine condF ?_ | refine condG1 ?_ | refine condG0 ?_ | refine condDT (by omega) ?_ | refine condDF (by omega) ?_ | refine condBT (by omega) ?_ | refine condBF (by omega) ?_ | refine condNT (by omega) ?_ | refine condNF (by omega) ?_ | refine And.intro (by omega) ?_ | refine And.intro (ble_of (by omega)) ?_ | refine And.intro (room_le (by omega)) ?_ | refine Exists.intro _ (And.intro (by assumption) ?_))
    rfl
  | x :: r, done, T, H, c, n, e, hn => by
    have hd : l.length = done.length + (r.length + 1) := by simp [e]
    have hlm : (l.map PVRoute.enc).length = l.length := by simp
    have hx : l[done.length]? = some x := by simp [e]
    have htk : done = l.take done.length := by rw [e]; simp
    have hlen : (List.take (((done.length : Int)).toNat - 0) (List.drop 0 (l.map PVRoute.enc))).length = done.length := by simp; omega
    subst hn
    refine ev_loop' (W_ok 200 _ _ _ _ ?_)
    repeat (first | refine Exists.intro _ (And.intro (unA_neg_i64 (by omega) (by omega)) ?_) | refine Exists.intro _ (And.intro (binA_quo_i64 (by omega) (by omega) (by omega)) ?_) | refine Exists.intro _ (And.intro (binA_rem_i64 (by omega) (by omega)) ?_) | refine Exists.intro _ (And.intro (binA_sub_i64 (by omega) (by omega)) ?_) | refine Exists.intro _ (And.intro (binA_add_i64 (by omega) (by omega)) ?_) | refine Exists.intro _ (And.intro (conv_i64 (by omega) (by omega)) ?_) | refine Exists.intro _ (And.intro rfl ?_) | refine And.intro rfl ?_ | refine condT ?_ | refine condF ?_ | refine condG1 ?_ | refine condG0 ?_ | refine condDT (by omega) ?_ | refine condDF (by omega) ?_ | refine condBT (by omega) ?_ | refine condBF (by omega) ?_ | refine condNT (by omega) ?_ | refine condNF (by omega) ?_ | refine And.intro (by omega) ?_ | refine And.intro (ble_of (by omega)) ?_ | refine And.intro (room_le (by omega)) ?_ | refine Exists.intro _ (And.intro (by assumption) ?_))
    refine ev_keep [13, 14, 3, 5, 6, 7, 0] [] ?_
    simp only [hlen]
    refine dist_loop10 l hl x done.length hx [.inBlock 0, .code (.seq (.region f18x13 false) .ret)] _ done htk ?_ ?_ done [] _ _ _ 0 rfl rfl rfl
    · intro h; simp [distL, h]
    · intro h T' H' c'
      have := dist_loop12 r (done ++ [x]) T' H' c' (done.length + 1) (by simp [e]) (by simp)
      have hdl : distL done (x :: r) = distL (done ++ [x]) r := by simp [distL, h]
      rw [hdl]; exact this
theorem dist_gives18 : Gives G 18 [.sl 22 (l.map PVRoute.enc)] [] ⟨.bool (distL [] l), []⟩ := by
  refine gives_code (F := f18) rfl rfl (W_ok 60 _ _ _ _ ?_)
  repeat (first | refine Exists.intro _ (And.intro (unA_neg_i64 (by omega) (by omega)) ?_) | refine Exists.intro _ (And.intro (binA_quo_i64 (by omega) (by omega) (by omega)) ?_) | refine Exists.intro _ (And.intro (binA_rem_i64 (by omega) (by omega)) ?_) | refine Exists.intro _ (And.intro (binA_sub_i64 (by omega) (by omega)) ?_) | refine Exists.intro _ (And.intro (binA_add_i64 (by omega) (by omega)) ?_) | refine Exists.intro _ (And.intro (conv_i64 (by omega) (by omega)) ?_) | refine Exists.intro _ (And.intro rfl ?_) | refine And.intro rfl ?_ | refine condT ?_ | refine condF ?_ | refine condG1 ?_ | refine condG0 ?_ | refine condDT (by omega) ?_ | refine condDF (by omega) ?_ | refine condBT (by omega) ?_ | refine condBF (by omega) ?_ | refine condNT (by omega) ?_ | refine condNF (by omega) ?_ | refine And.intro (by omega) ?_ | refine And.intro (ble_of (by omega)) ?_ | refine And.intro (room_le (by omega)) ?_ | refine Exists.intro _ (And.intro (by assumption) ?_))
  refine ev_keep [5, 6, 7, 0] [] ?_
  have key := dist_loop12 l hl l []
  simp only [List.length_map]
  exact key _ _ _ 0 rfl rfl
end
theorem dist_iff : ∀ (rest done : List PVRoute), distL done rest = true ↔ (∀ x ∈ rest, dupOf done x = false) ∧ (rest.map (·.peer)).Nodup
  | [], done => by simp [distL]
  | x :: r, done => by
    simp only [distL]
    constructor
    · intro h
      split at h
      · cases h
      · rename_i hx
        obtain ⟨h1, h2⟩ := (dist_iff r (done ++ [x])).1 h
        refine ⟨fun y hy => ?_, ?_⟩
        · rcases List.mem_cons.1 hy with rfl | hy
          · simpa using hx
          · have := h1 y hy
            simp only [dupOf, List.any_append, Bool.or_eq_false_iff] at this
            exact this.1
        · simp only [List.map_cons, List.nodup_cons]
          refine ⟨fun hm => ?_, h2⟩
          obtain ⟨y, hy, he⟩ := List.mem_map.1 hm
          have := h1 y hy
          simp [dupOf, he] at this
    · rintro ⟨h1, h2⟩
      have hx := h1 x (by simp)
      rw [hx]
      simp only [Bool.false_eq_true, if_false]
      simp only [List.map_cons, List.nodup_cons] at h2
      refine (dist_iff r (done ++ [x])).2 ⟨fun y hy => ?_, h2.2⟩
      have hd := h1 y (by simp [hy])
      simp only [dupOf, List.any_append, Bool.or_eq_false_iff] at hd ⊢
      refine ⟨hd, ?_⟩
      simp
      intro he
      exact h2.1 (List.mem_map.2 ⟨y, hy, he⟩)
theorem distinct_iff (l : List PVRoute) : distL [] l = true ↔ (l.map (·.peer)).Nodup := by
  rw [dist_iff]
  exact ⟨fun h => h.2, fun h => ⟨fun _ _ => rfl, h⟩⟩
end Go.AM.IR
namespace Go.AM.IR
section
variable (l : List PVRoute) (cs : List IGP)
def uE (r : PVRoute) : Prop := (costS cs r).2 = true
def bE (x y : PVRoute) : Prop := (compareR x y cs).1 < 0
def WinE (x : PVRoute) : Prop := x ∈ l ∧ uE cs x ∧ ∀ y ∈ l, uE cs y → key y = key x → ¬ bE cs y x
def BestE (x : PVRoute) : Prop := WinE l cs x ∧ ∀ y, WinE l cs y → ¬ bE cs y x
theorem vec_peer (m m' : Int) (a b : PVRoute) (h : vecA m a cs = vecA m' b cs) : a.peer = b.peer := by
  have := congrArg (fun v : List Int => v[10]?) h
  simpa [vecA] using this
theorem zero_peer (a b : PVRoute) (h : (compareR a b cs).1 = 0) : a.peer = b.peer := by
  by_cases hk : key a = key b
  · rw [cmp_same hk] at h
    exact vec_peer cs _ _ a b (lx_eq _ _ rfl h)
  · rw [cmp_diff hk] at h
    exact vec_peer cs _ _ a b (lx_eq _ _ rfl h)
theorem cmp_tri (a b : PVRoute) (h1 : ¬ bE cs a b) (h2 : ¬ bE cs b a) : a.peer = b.peer := by
  unfold bE at h1 h2
  rw [compareR_swap a b] at h2
  dsimp only at h2
  exact zero_peer cs a b (by omega)
theorem BestE.one {x y : PVRoute} (h : BestE l cs x) (h' : BestE l cs y) : x.peer = y.peer := cmp_tri cs x y (h'.2 x h.1) (h.2 y h'.1)
theorem peer_inj (hn : (l.map (·.peer)).Nodup) {i j : Nat} {x y : PVRoute} (hi : l[i]? = some x) (hj : l[j]? = some y) (h : x.peer = y.peer) : i = j := by
  have h1 : (l.map (·.peer))[i]? = some x.peer := by simp [hi]
  have h2 : (l.map (·.peer))[j]? = some y.peer := by simp [hj]
  rw [← h] at h2
  exact nodup_idx_int hn h1 h2
where
  nodup_idx_int {l : List Int} (hn : l.Nodup) {i j : Nat} {k : Int} (hi : l[i]? = some k) (hj : l[j]? = some k) : i = j := by
    obtain ⟨a, b⟩ := List.getElem?_eq_some_iff.1 hi
    exact (List.getElem?_inj a hn).1 (hi.trans hj.symm)
theorem bE_irr (x : PVRoute) : ¬ bE cs x x := by
  unfold bE
  have := compareR_swap x x cs
  have h2 := congrArg Prod.fst this
  dsimp only at h2
  omega
theorem win_E (hn : (l.map (·.peer)).Nodup) {i : Nat} {x : PVRoute} (hi : l[i]? = some x) : Win l cs i ↔ WinE l cs x := by
  have hx : l.getD i default = x := by rw [List.getD_eq_getElem?_getD, hi]; rfl
  have hil := (List.getElem?_eq_some_iff.1 hi).1
  constructor
  · rintro ⟨h1, h2⟩
    refine ⟨List.mem_of_getElem? hi, by have := h1.2; rwa [hx] at this, fun y hy hu hk hb => ?_⟩
    obtain ⟨k, hk'⟩ := List.getElem?_of_mem hy
    have hyd : l.getD k default = y := by rw [List.getD_eq_getElem?_getD, hk']; rfl
    rcases Nat.decEq k i with q | q
    · have := h2 k ⟨(List.getElem?_eq_some_iff.1 hk').1, by rw [hyd]; exact hu⟩ (by unfold kI; rw [hyd, hx]; exact hk) q
      unfold better cm at this
      rw [hyd, hx] at this
      unfold bE at hb
      simp [hb] at this
    · subst q
      rw [hi] at hk'
      obtain rfl := Option.some.inj hk'
      exact bE_irr cs x hb
  · rintro ⟨h1, h2, h3⟩
    refine ⟨⟨hil, by rw [hx]; exact h2⟩, fun k hU hk hne => ?_⟩
    have hkd : l[k]? = some (l.getD k default) := by rw [List.getD_eq_getElem?_getD, List.getElem?_eq_getElem hU.1]; rfl
    have hk2 : key (l.getD k default) = key x := by unfold kI at hk; rw [hx] at hk; exact hk
    have := h3 _ (List.mem_of_getElem? hkd) hU.2 hk2
    unfold better cm
    rw [hx]
    have hz : (compareR (l.getD k default) x cs).1 ≠ 0 := fun z => hne (peer_inj l hn hkd hi (zero_peer cs _ _ z))
    unfold bE at this
    generalize compareR (l.getD k default) x cs = R at *
    simp [hz]; omega
theorem best_E (hn : (l.map (·.peer)).Nodup) {b : Nat} (h : IsB l cs b) : BestE l cs (l.getD b default) := by
  have hb : l[b]? = some (l.getD b default) := by rw [List.getD_eq_getElem?_getD, List.getElem?_eq_getElem h.1.1.1]; rfl
  refine ⟨(win_E l cs hn hb).1 h.1, fun y hy hby => ?_⟩
  obtain ⟨k, hk⟩ := List.getElem?_of_mem hy.1
  have hyd : l.getD k default = y := by rw [List.getD_eq_getElem?_getD, hk]; rfl
  rcases Nat.decEq k b with q | q
  · have := h.2 k ((win_E l cs hn hk).2 hy) q
    unfold better cm at this
    rw [hyd] at this
    unfold bE at hby
    generalize compareR y (l.getD b default) cs = R at *
    simp [hby] at this
  · subst q
    rw [hyd] at hby
    exact bE_irr cs y hby
theorem best_none (h : bestS l cs = none) : ∀ x ∈ l, ¬ uE cs x := by
  have hs := bestS_spec l cs
  rw [h] at hs
  intro x hx hu
  obtain ⟨k, hk⟩ := List.getElem?_of_mem hx
  have hxd : l.getD k default = x := by rw [List.getD_eq_getElem?_getD, hk]; rfl
  have hkl := (List.getElem?_eq_some_iff.1 hk).1
  obtain ⟨w, hw, _⟩ := (win_ok l cs).min k hkl ⟨hkl, by rw [hxd]; exact hu⟩
  exact hs w ((win_mem l cs w).1 hw)
theorem best_some {b : Nat} (h : bestS l cs = some b) : b < l.length ∧ uE cs (l.getD b default) := by
  have hs := bestS_spec l cs
  rw [h] at hs
  exact hs.1.1
/-- Only which routes there are matters. -/
theorem BestE.congr {l l' : List PVRoute} (h : ∀ x, x ∈ l ↔ x ∈ l') {x : PVRoute} (hb : BestE l cs x) : BestE l' cs x := by
  have hw : ∀ y, WinE l cs y ↔ WinE l' cs y := fun y => by
    unfold WinE
    rw [h y]
    constructor
    · rintro ⟨a, b, c⟩; exact ⟨a, b, fun z hz => c z ((h z).2 hz)⟩
    · rintro ⟨a, b, c⟩; exact ⟨a, b, fun z hz => c z ((h z).1 hz)⟩
  exact ⟨(hw x).1 hb.1, fun y hy => hb.2 y ((hw y).2 hy)⟩
theorem pigeon : ∀ (n : Nat) (p : List Nat), p.Nodup → (∀ x ∈ p, x < n) → p.length = n → ∀ i, i < n → i ∈ p
  | 0, _, _, _, _, i, hi => by omega
  | n + 1, p, hn, hp, hl, i, hi => by
    by_cases hm : n ∈ p
    · have h1 : (p.erase n).length = n := by rw [List.length_erase_of_mem hm]; omega
      have h2 : (p.erase n).Nodup := hn.erase n
      have h3 : ∀ x ∈ p.erase n, x < n := fun x hx => by
        have hx2 := (List.Nodup.mem_erase_iff hn).1 hx
        have := hp x hx2.2
        have := hx2.1
        omega
      rcases Nat.decEq i n with q | q
      · exact List.mem_of_mem_erase (pigeon n (p.erase n) h2 h3 h1 i (by omega))
      · rw [q]; exact hm
    · exfalso
      cases p with
      | nil => simp at hl
      | cons a t =>
        rw [List.nodup_cons] at hn
        have h3 : ∀ x ∈ t, x < n := fun x hx => by
          have := hp x (by simp [hx])
          rcases Nat.decEq x n with q | q
          · omega
          · subst q; exact absurd (by simp [hx]) hm
        have ha : a < n := by
          have := hp a (by simp)
          rcases Nat.decEq a n with q | q
          · omega
          · subst q; exact absurd (by simp) hm
        exact hn.1 (pigeon n t hn.2 h3 (by simpa using hl) a ha)
/-- A permutation: the best one stays the best one. -/
theorem order_law (hn : (l.map (·.peer)).Nodup) (p : List Nat) (hp : p.Nodup) (hlt : ∀ x ∈ p, x < l.length) (hlen : p.length = l.length) :
    (bestS l cs = none ∧ bestS (p.map fun i => l.getD i default) cs = none) ∨
    ∃ a b, bestS l cs = some a ∧ bestS (p.map fun i => l.getD i default) cs = some b ∧ a < l.length ∧ b < p.length ∧ (l.getD a default).peer = ((p.map fun i => l.getD i default).getD b default).peer := by
  have hmem : ∀ x, x ∈ l ↔ x ∈ p.map fun i => l.getD i default := fun x => by
    rw [List.mem_map]
    constructor
    · intro hx
      obtain ⟨k, hk⟩ := List.getElem?_of_mem hx
      refine ⟨k, pigeon l.length p hp hlt hlen k (List.getElem?_eq_some_iff.1 hk).1, ?_⟩
      rw [List.getD_eq_getElem?_getD, hk]; rfl
    · rintro ⟨i, hi, rfl⟩
      rw [List.getD_eq_getElem?_getD, List.getElem?_eq_getElem (hlt i hi)]
      exact List.getElem_mem _
  have hn' : ((p.map fun i => l.getD i default).map (·.peer)).Nodup := by
    rw [List.map_map]
    refine List.pairwise_map.2 (List.Pairwise.imp_of_mem ?_ hp)
    intro a b ha hb hne he
    refine hne (peer_inj l hn (x := l.getD a default) (y := l.getD b default) ?_ ?_ he)
    · rw [List.getD_eq_getElem?_getD, List.getElem?_eq_getElem (hlt a ha)]; rfl
    · rw [List.getD_eq_getElem?_getD, List.getElem?_eq_getElem (hlt b hb)]; rfl
  have s1 := bestS_spec l cs
  have s2 := bestS_spec (p.map fun i => l.getD i default) cs
  cases h1 : bestS l cs with
  | none =>
    left
    refine ⟨rfl, ?_⟩
    cases h2 : bestS (p.map fun i => l.getD i default) cs with
    | none => rfl
    | some b =>
      have hb := best_some _ cs h2
      refine absurd hb.2 (best_none l cs h1 _ ((hmem _).2 ?_))
      rw [List.getD_eq_getElem?_getD, List.getElem?_eq_getElem hb.1]
      exact List.getElem_mem _
  | some a =>
    right
    have ha := best_some _ cs h1
    cases h2 : bestS (p.map fun i => l.getD i default) cs with
    | none =>
      refine absurd ha.2 (best_none _ cs h2 _ ((hmem _).1 ?_))
      rw [List.getD_eq_getElem?_getD, List.getElem?_eq_getElem ha.1]
      exact List.getElem_mem _
    | some b =>
      have hb := best_some _ cs h2
      rw [h1] at s1
      rw [h2] at s2
      refine ⟨a, b, rfl, rfl, ha.1, by simpa using hb.1, ?_⟩
      exact BestE.one _ cs ((best_E l cs hn s1).congr cs hmem) (best_E _ cs hn' s2)
end
end Go.AM.IR
namespace Go.AM.IR
section
variable (l : List PVRoute) (cs : List IGP)
theorem bE_trans {a b c : PVRoute} (h1 : key a = key b) (h2 : key b = key c) (h3 : bE cs a b) (h4 : bE cs b c) : bE cs a c := by
  unfold bE at *
  rw [cmp_same h1] at h3
  rw [cmp_same h2] at h4
  rw [cmp_same (h1.trans h2)]
  exact lx_trans (V a cs) (V b cs) (V c cs) rfl rfl h3 (by omega)
theorem removal_law (hn : (l.map (·.peer)).Nodup) (a k : Nat) (hk : k < l.length) (ha : bestS l cs = some a) (grp : List PVRoute) (hg : grp = l.filter fun r => sameGroupS (l.getD k default) r)
    (hw : ∀ w, bestS grp cs = some w → (grp.getD w default).peer ≠ (l.getD k default).peer) (rest : List PVRoute) (hr : rest = l.take k ++ l.drop (k + 1)) :
    ∃ b, bestS rest cs = some b ∧ b < rest.length ∧ (rest.getD b default).peer = (l.getD a default).peer := by
  have hxk : l[k]? = some (l.getD k default) := by rw [List.getD_eq_getElem?_getD, List.getElem?_eq_getElem hk]; rfl
  generalize hx : l.getD k default = x at *
  have hxl : x ∈ l := List.mem_of_getElem? hxk
  have hgm : ∀ y, y ∈ grp ↔ y ∈ l ∧ key x = key y := fun y => by
    rw [hg, List.mem_filter, group_key]
  have hsub : (grp.map (·.peer)).Nodup := by
    rw [hg]
    exact hn.sublist (List.Sublist.map _ List.filter_sublist)
  have hnw : ¬ WinE l cs x := by
    rintro ⟨h1, h2, h3⟩
    have hxg : x ∈ grp := (hgm x).2 ⟨hxl, rfl⟩
    have s := bestS_spec grp cs
    cases hb : bestS grp cs with
    | none => exact best_none grp cs hb x hxg h2
    | some w =>
      rw [hb] at s
      have hB := best_E grp cs hsub s
      refine hw w hb ?_
      have hwg := (hgm _).1 hB.1.1
      have hxw : WinE grp cs x := ⟨hxg, h2, fun y hy hu hk' => h3 y ((hgm y).1 hy).1 hu hk'⟩
      exact cmp_tri cs _ x (hxw.2.2 _ hB.1.1 hB.1.2.1 hwg.2.symm) (hB.1.2.2 x hxg h2 hwg.2)
  have hmem : ∀ y, y ∈ rest ↔ y ∈ l ∧ y ≠ x := fun y => by
    rw [hr, List.mem_append]
    constructor
    · rintro (h | h)
      · obtain ⟨j, hj⟩ := List.getElem?_of_mem h
        rw [List.getElem?_take] at hj
        split at hj
        · refine ⟨List.mem_of_getElem? hj, fun e => ?_⟩
          subst e
          have := peer_inj l hn hj hxk rfl
          omega
        · cases hj
      · obtain ⟨j, hj⟩ := List.getElem?_of_mem h
        rw [List.getElem?_drop] at hj
        refine ⟨List.mem_of_getElem? hj, fun e => ?_⟩
        subst e
        have := peer_inj l hn hj hxk rfl
        omega
    · rintro ⟨h, hne⟩
      obtain ⟨j, hj⟩ := List.getElem?_of_mem h
      rcases Nat.lt_trichotomy j k with q | q | q
      · left
        refine List.mem_of_getElem? (i := j) ?_
        rw [List.getElem?_take, if_pos q]; exact hj
      · subst q
        rw [hxk] at hj
        exact absurd (Option.some.inj hj).symm hne
      · right
        refine List.mem_of_getElem? (i := j - (k + 1)) ?_
        rw [List.getElem?_drop, show k + 1 + (j - (k + 1)) = j from by omega]; exact hj
  have hwin : ∀ y, WinE l cs y ↔ WinE rest cs y := fun y => by
    constructor
    · rintro h
      refine ⟨(hmem y).2 ⟨h.1, fun e => hnw (e ▸ h)⟩, h.2.1, fun z hz => h.2.2 z ((hmem z).1 hz).1⟩
    · rintro ⟨h1, h2, h3⟩
      refine ⟨((hmem y).1 h1).1, h2, fun z hz hu hkz hb => ?_⟩
      by_cases e : z = x
      · subst e
        refine hnw ⟨hz, hu, fun z' hz' hu' hk' hb' => ?_⟩
        have hne : z' ≠ z := fun e => by subst e; exact bE_irr cs z' hb'
        exact h3 z' ((hmem z').2 ⟨hz', hne⟩) hu' (hk'.trans hkz) (bE_trans cs hk' hkz hb' hb)
      · exact h3 z ((hmem z).2 ⟨hz, e⟩) hu hkz hb
  have hnr : (rest.map (·.peer)).Nodup := by
    rw [hr]
    have : List.Sublist (l.take k ++ l.drop (k + 1)) l := by
      have h1 : l.take k ++ l.drop k = l := List.take_append_drop k l
      conv => rhs; rw [← h1]
      exact List.Sublist.append (List.Sublist.refl _) (List.drop_sublist_drop_left l (by omega))
    exact hn.sublist (List.Sublist.map _ this)
  have s1 := bestS_spec l cs
  rw [ha] at s1
  have hB := best_E l cs hn s1
  have hB' : BestE rest cs (l.getD a default) := ⟨(hwin _).1 hB.1, fun y hy => hB.2 y ((hwin y).2 hy)⟩
  have s2 := bestS_spec rest cs
  cases hb : bestS rest cs with
  | none => exact absurd hB'.1.2.1 (best_none rest cs hb _ hB'.1.1)
  | some b =>
    rw [hb] at s2
    exact ⟨b, rfl, (best_some rest cs hb).1, BestE.one rest cs (best_E rest cs hnr s2) hB'⟩
end
end Go.AM.IR
namespace Go.AM.IR
set_option maxHeartbeats 8000000
set_option maxRecDepth 100000
/-- The rest of the law, behind the loop. -/
def K6 : List AItem := [.code (.seq (.seq (.region f6x16 false) (.seq (.region f6x17 true) (.cond (.t 118) (.seq (.region f6x18 false) .ret) .skip))) (.seq (.region f6x19 true) (.seq (.region f6x20 false) (.seq (.region f6x21 true) .ret))))]
section
variable (l : List PVRoute) (hl : l.length < 2 ^ 30) (hfit : ∀ r ∈ l, Fit r) (cs : List IGP) (k a : Nat) (x : PVRoute) (hk : l[k]? = some x)
include hl hfit hk
theorem grp_loopV
    (cont : ∀ (T : List (Nat × AV)) (H : Heap) (c g m : Nat) (es : List (List AV)), m = (l.filter fun r => sameGroupS x r).length → es = (l.filter fun r => sameGroupS x r).map PVRoute.enc →
      Ev G ⟨K6, ⟨(0, .sl 22 (l.map PVRoute.enc)) :: (1, .int .i64 k) :: (2, .sl 2 (cs.map IGP.enc)) :: (7, .int .i64 a) :: (9, .vs 161 g m) :: T, (161, some (g, .vec 22 es)) :: H, c⟩, [.t 6], 0⟩ ⟨.bool true, []⟩) :
    ∀ (rest done : List PVRoute) (T : List (Nat × AV)) (H : Heap) (c g m : Nat) (n : Int) (es : List (List AV)) (e : l = done ++ rest) (hn : n = done.length) (hm : m = (done.filter fun r => sameGroupS x r).length) (hes : es = (done.filter fun r => sameGroupS x r).map PVRoute.enc),
    Ev G ⟨.inLoop f6x15L :: .inBlock 0 :: K6, ⟨(73, .sl 22 (l.map PVRoute.enc)) :: (74, .int .i64 l.length) :: (75, .int .i64 n) :: (0, .sl 22 (l.map PVRoute.enc)) :: (1, .int .i64 k) :: (2, .sl 2 (cs.map IGP.enc)) :: (7, .int .i64 a) :: (10, .int .i64 (key x).1) :: (11, .bool (key x).2) :: (9, .vs 161 g m) :: T, (161, some (g, .vec 22 es)) :: H, c⟩, [.t 6], 0⟩ ⟨.bool true, []⟩
  | [], done, T, H, c, g, m, n, es, e, hn, hm, hes => by
    have hd : l.length = done.length := by simp [e]
    have hdl : done = l := by simp [e]
    refine ev_loop' (W_ok 7 _ _ _ _ ?_)
    repeat (first | refine Exists.intro _ (And.intro (unA_neg_i64 (by omega) (by omega)) ?_) | refine Exists.intro _ (And.intro (binA_quo_i64 (by omega) (by omega) (by omega)) ?_) | refine Exists.intro _ (And.intro (binA_rem_i64 (by omega) (by omega)) ?_) | refine Exists.intro _ (And.intro (binA_sub_i64 (by omega) (by omega)) ?_) | refine Exists.intro _ (And.intro (binA_add_i64 (by omega) (by omega)) ?_) | refine Exists.intro _ (And.intro (conv_i64 (by omega) (by omega)) ?_) | refine Exists.intro _ (And.intro rfl ?_) | refine And.intro rfl ?_ | refine condT ?_ | refine condF ?_ | refine condG1 ?_ | refine condG0 ?_ | refine condDT (by omega) ?_ | refine condDF (by omega) ?_ | refine condBT (by omega) ?_ | refine condBF (by omega) ?_ | refine condNT (by omega) ?_ | refine condNF (by omega) ?_ | refine And.intro (by omega) ?_ | refine And.intro (ble_of (by omega)) ?_ | refine And.intro (room_le (by omega)) ?_ | refine Exists.intro _ (And.intro (by assumption) ?_))
    show Ev G ⟨K6, ⟨_, _, _⟩, _, _⟩ _
    refine ev_keep [0, 1, 2, 7, 9] [161] ?_
    rw [hdl] at hm hes
    exact cont _ _ _ g m es hm hes
  | r :: rs, done, T, H, c, g, m, n, es, e, hn, hm, hes => by
    have hd : l.length = done.length + (rs.length + 1) := by simp [e]
    have hx : (l.map PVRoute.enc)[n.toNat]? = some r.enc := by simp [e, hn]
    have fr := hfit r (by simp [e])
    have e1 := first_gives19 r.attrs.path fr.rb.path
    rw [show firstS r.attrs.path = key r from rfl] at e1
    have hesl : es.length = m := by rw [hes, hm]; simp
    have hml : m ≤ done.length := by rw [hm]; exact List.length_filter_le _ _
    have py : pureL [AV.agg r.enc] = true := by simp [pureL, AV.pure]
    have hg := group_key x r
    by_cases hkk : key x = key r
    · have hsg := hg.2 hkk
      have h1 := congrArg Prod.fst hkk
      have h2 := congrArg Prod.snd hkk
      have next := fun T' H' c' g' m' es' => grp_loopV cont rs (done ++ [r]) T' H' c' g' m' (n + 1) es' (by simp [e]) (by simp [hn])
      have hf : (done ++ [r]).filter (fun r => sameGroupS x r) = (done.filter fun r => sameGroupS x r) ++ [r] := by simp [hsg]
      rw [hf] at next
      generalize key x = kx at *
      generalize key r = kr at *
      obtain ⟨x1, x2⟩ := kx
      obtain ⟨r1, r2⟩ := kr
      dsimp only at *
      subst h1
      subst h2
      cases x2
      all_goals
        refine ev_loop' (W_ok 200 _ _ _ _ ?_)
        repeat (first | refine Exists.intro _ (And.intro (unA_neg_i64 (by omega) (by omega)) ?_) | refine Exists.intro _ (And.intro (binA_quo_i64 (by omega) (by omega) (by omega)) ?_) | refine Exists.intro _ (And.intro (binA_rem_i64 (by omega) (by omega)) ?_) | refine Exists.intro _ (And.intro (binA_sub_i64 (by omega) (by omega)) ?_) | refine Exists.intro _ (And.intro (binA_add_i64 (by omega) (by omega)) ?_) | refine Exists.intro _ (And.intro (conv_i64 (by omega) (by omega)) ?_) | refine Exists.intro _ (And.intro rfl ?_) | refine And.intro rfl ?_ | refine condT ?_ | refine condF ?_ | refine condG1 ?_ | refine condG0 ?_ | refine condDT (by omega) ?_ | refine condDF (by omega) ?_ | refine condBT (by omega) ?_ | refine condBF (by omega) ?_ | refine condNT (by omega) ?_ | refine condNF (by omega) ?_ | refine And.intro (by omega) ?_ | refine And.intro (ble_of (by omega)) ?_ | refine And.intro (room_le (by omega)) ?_ | refine Exists.intro _ (And.intro (by assumption) ?_))
        refine callV (e1) (by simp [pureL, AV.pure]) (by simp [AV.dry, dryL]) ?_
        repeat (first | refine Exists.intro _ (And.intro (unA_neg_i64 (by omega) (by omega)) ?_) | refine Exists.intro _ (And.intro (binA_quo_i64 (by omega) (by omega) (by omega)) ?_) | refine Exists.intro _ (And.intro (binA_rem_i64 (by omega) (by omega)) ?_) | refine Exists.intro _ (And.intro (binA_sub_i64 (by omega) (by omega)) ?_) | refine Exists.intro _ (And.intro (binA_add_i64 (by omega) (by omega)) ?_) | refine Exists.intro _ (And.intro (conv_i64 (by omega) (by omega)) ?_) | refine Exists.intro _ (And.intro rfl ?_) | refine And.intro rfl ?_ | refine condT ?_ | refine condF ?_ | refine condG1 ?_ | refine condG0 ?_ | refine condDT (by omega) ?_ | refine condDF (by omega) ?_ | refine condBT (by omega) ?_ | refine condBF (by omega) ?_ | refine condNT (by omega) ?_ | refine condNF (by omega) ?_ | refine And.intro (by omega) ?_ | refine And.intro (ble_of (by omega)) ?_ | refine And.intro (room_le (by omega)) ?_ | refine Exists.intro _ (And.intro (by assumption) ?_))
        refine And.intro py ?_
        repeat (first | refine Exists.intro _ (And.intro (unA_neg_i64 (by omega) (by omega)) ?_) | refine Exists.intro _ (And.intro (binA_quo_i64 (by omega) (by omega) (by omega)) ?_) | refine Exists.intro _ (And.intro (binA_rem_i64 (by omega) (by omega)) ?_) | refine Exists.intro _ (And.intro (binA_sub_i64 (by omega) (by omega)) ?_) | refine Exists.intro _ (And.intro (binA_add_i64 (by omega) (by omega)) ?_) | refine Exists.intro _ (And.intro (conv_i64 (by omega) (by omega)) ?_) | refine Exists.intro _ (And.intro rfl ?_) | refine And.intro rfl ?_ | refine condT ?_ | refine condF ?_ | refine condG1 ?_ | refine condG0 ?_ | refine condDT (by omega) ?_ | refine condDF (by omega) ?_ | refine condBT (by omega) ?_ | refine condBF (by omega) ?_ | refine condNT (by omega) ?_ | refine condNF (by omega) ?_ | refine And.intro (by omega) ?_ | refine And.intro (ble_of (by omega)) ?_ | refine And.intro (room_le (by omega)) ?_ | refine Exists.intro _ (And.intro (by assumption) ?_))
        refine And.intro (room_le (by show (m + 1) * 209 ≤ _; omega)) ?_
        repeat (first | refine Exists.intro _ (And.intro (unA_neg_i64 (by omega) (by omega)) ?_) | refine Exists.intro _ (And.intro (binA_quo_i64 (by omega) (by omega) (by omega)) ?_) | refine Exists.intro _ (And.intro (binA_rem_i64 (by omega) (by omega)) ?_) | refine Exists.intro _ (And.intro (binA_sub_i64 (by omega) (by omega)) ?_) | refine Exists.intro _ (And.intro (binA_add_i64 (by omega) (by omega)) ?_) | refine Exists.intro _ (And.intro (conv_i64 (by omega) (by omega)) ?_) | refine Exists.intro _ (And.intro rfl ?_) | refine And.intro rfl ?_ | refine condT ?_ | refine condF ?_ | refine condG1 ?_ | refine condG0 ?_ | refine condDT (by omega) ?_ | refine condDF (by omega) ?_ | refine condBT (by omega) ?_ | refine condBF (by omega) ?_ | refine condNT (by omega) ?_ | refine condNF (by omega) ?_ | refine And.intro (by omega) ?_ | refine And.intro (ble_of (by omega)) ?_ | refine And.intro (room_le (by omega)) ?_ | refine Exists.intro _ (And.intro (by assumption) ?_))
        refine ev_keep [73, 74, 75, 0, 1, 2, 7, 10, 11, 9] [161] ?_
        refine next _ _ _ _ _ _ ?_ ?_
        · rw [hm]; simp [repl]
        · rw [← hesl, List.take_length, hes]; simp [repl]; rfl
    · have hsg : sameGroupS x r = false := by
        cases hq : sameGroupS x r with
        | false => rfl
        | true => exact absurd (hg.1 hq) hkk
      have next := fun T' H' c' g' m' es' => grp_loopV cont rs (done ++ [r]) T' H' c' g' m' (n + 1) es' (by simp [e]) (by simp [hn])
      have hf : (done ++ [r]).filter (fun r => sameGroupS x r) = (done.filter fun r => sameGroupS x r) := by simp [hsg]
      rw [hf] at next
      have hkp : ¬ (key x).1 = (key r).1 ∨ ¬ (key x).2 = (key r).2 := by
        rcases Decidable.em ((key x).1 = (key r).1) with q | q
        · exact .inr fun z => hkk (Prod.ext q z)
        · exact .inl q
      generalize key x = kx at *
      generalize key r = kr at *
      obtain ⟨x1, x2⟩ := kx
      obtain ⟨r1, r2⟩ := kr
      dsimp only at *
      by_cases h1 : x1 = r1
      · have h2 : ¬ x2 = r2 := by
          rcases hkp with q | q
          · exact absurd h1 q
          · exact q
        cases x2 <;> cases r2
        all_goals first
          | (exfalso; exact h2 rfl)
          | (refine ev_loop' (W_ok 200 _ _ _ _ ?_)
             repeat (first | refine Exists.intro _ (And.intro (unA_neg_i64 (by omega) (by omega)) ?_) | refine Exists.intro _ (And.intro (binA_quo_i64 (by omega) (by omega) (by omega)) ?_) | refine Exists.intro _ (And.intro (binA_rem_i64 (by omega) (by omega)) ?_) | refine Exists.intro _ (And.intro (binA_sub_i64 (by omega) (by omega)) ?_) | refine Exists.intro _ (And.intro (binA_add_i64 (by omega) (by omega)) ?_) | refine Exists.intro _ (And.intro (conv_i64 (by omega) (by omega)) ?_) | refine Exists.intro _ (And.intro rfl ?_) | refine And.intro rfl ?_ | refine condT ?_ | refine condF ?_ | refine condG1 ?_ | refine condG0 ?_ | refine condDT (by omega) ?_ | refine condDF (by omega) ?_ | refine condBT (by omega) ?_ | refine condBF (by omega) ?_ | refine condNT (by omega) ?_ | refine condNF (by omega) ?_ | refine And.intro (by omega) ?_ | refine And.intro (ble_of (by omega)) ?_ | refine And.intro (room_le (by omega)) ?_ | refine Exists.intro _ (And.intro (by assumption) ?_))
             refine callV (e1) (by simp [pureL, AV.pure]) (by simp [AV.dry, dryL]) ?_
             repeat (first | refine Exists.intro _ (And.intro (unA_neg_i64 (by omega) (by omega)) ?_) | refine Exists.intro _ (And.intro (binA_quo_i64 (by omega) (by omega) (by omega)) ?_) | refine Exists.intro _ (And.intro (binA_rem_i64 (by omega) (by omega)) ?_) | refine Exists.intro _ (And.intro (binA_sub_i64 (by omega) (by omega)) ?_) | refine Exists.intro _ (And.intro (binA_add_i64 (by omega) (by omega)) ?_) | refine Exists.intro _ (And.intro (conv_i64 (by omega) (by omega)) ?_) | refine Exists.intro _ (And.intro rfl ?_) | refine And.intro rfl ?_ | refine condT ?_ | refine condF ?_ | refine condG1 ?_ | refine condG0 ?_ | refine condDT (by omega) ?_ | refine condDF (by omega) ?_ | refine condBT (by omega) ?_ | refine condBF (by omega) ?_ | refine condNT (by omega) ?_ | refine condNF (by omega) ?_ | refine And.intro (by omega) ?_ | refine And.intro (ble_of (by omega)) ?_ | refine And.intro (room_le (by omega)) ?_ | refine Exists.intro _ (And.intro (by assumption) ?_))
             refine ev_keep [73, 74, 75, 0, 1, 2, 7, 10, 11, 9] [161] ?_
             exact next _ _ _ _ _ _ hm hes)
      · cases x2 <;> cases r2
        all_goals
          refine ev_loop' (W_ok 200 _ _ _ _ ?_)
          repeat (first | refine Exists.intro _ (And.intro (unA_neg_i64 (by omega) (by omega)) ?_) | refine Exists.intro _ (And.intro (binA_quo_i64 (by omega) (by omega) (by omega)) ?_) | refine Exists.intro _ (And.intro (binA_rem_i64 (by omega) (by omega)) ?_) | refine Exists.intro _ (And.intro (binA_sub_i64 (by omega) (by omega)) ?_) | refine Exists.intro _ (And.intro (binA_add_i64 (by omega) (by omega)) ?_) | refine Exists.intro _ (And.intro (conv_i64 (by omega) (by omega)) ?_) | refine Exists.intro _ (And.intro rfl ?_) | refine And.intro rfl ?_ | refine condT ?_ | refine condF ?_ | refine condG1 ?_ | refine condG0 ?_ | refine condDT (by omega) ?_ | refine condDF (by omega) ?_ | refine condBT (by omega) ?_ | refine condBF (by omega) ?_ | refine condNT (by omega) ?_ | refine condNF (by omega) ?_ | refine And.intro (by omega) ?_ | refine And.intro (ble_of (by omega)) ?_ | refine And.intro (room_le (by omega)) ?_ | refine Exists.intro _ (And.intro (by assumption) ?_))
          refine callV (e1) (by simp [pureL, AV.pure]) (by simp [AV.dry, dryL]) ?_
          repeat (first | refine Exists.intro _ (And.intro (unA_neg_i64 (by omega) (by omega)) ?_) | refine Exists.intro _ (And.intro (binA_quo_i64 (by omega) (by omega) (by omega)) ?_) | refine Exists.intro _ (And.intro (binA_rem_i64 (by omega) (by omega)) ?_) | refine Exists.intro _ (And.intro (binA_sub_i64 (by omega) (by omega)) ?_) | refine Exists.intro _ (And.intro (binA_add_i64 (by omega) (by omega)) ?_) | refine Exists.intro _ (And.intro (conv_i64 (by omega) (by omega)) ?_) | refine Exists.intro _ (And.intro rfl ?_) | refine And.intro rfl ?_ | refine condT ?_ | refine condF ?_ | refine condG1 ?_ | refine condG0 ?_ | refine condDT (by omega) ?_ | refine condDF (by omega) ?_ | refine condBT (by omega) ?_ | refine condBF (by omega) ?_ | refine condNT (by omega) ?_ | refine condNF (by omega) ?_ | refine And.intro (by omega) ?_ | refine And.intro (ble_of (by omega)) ?_ | refine And.intro (room_le (by omega)) ?_ | refine Exists.intro _ (And.intro (by assumption) ?_))
          refine ev_keep [73, 74, 75, 0, 1, 2, 7, 10, 11, 9] [161] ?_
          exact next _ _ _ _ _ _ hm hes
theorem grp_loopN
    (cont : ∀ (T : List (Nat × AV)) (H : Heap) (c g m : Nat) (es : List (List AV)), m = (l.filter fun r => sameGroupS x r).length → es = (l.filter fun r => sameGroupS x r).map PVRoute.enc →
      Ev G ⟨K6, ⟨(0, .sl 22 (l.map PVRoute.enc)) :: (1, .int .i64 k) :: (2, .sl 2 (cs.map IGP.enc)) :: (7, .int .i64 a) :: (9, .vs 161 g m) :: T, (161, some (g, .vec 22 es)) :: H, c⟩, [.t 6], 0⟩ ⟨.bool true, []⟩) :
    ∀ (rest done : List PVRoute) (T : List (Nat × AV)) (H : Heap) (c : Nat) (n : Int) (e : l = done ++ rest) (hn : n = done.length) (hm : (done.filter fun r => sameGroupS x r) = []),
    Ev G ⟨.inLoop f6x15L :: .inBlock 0 :: K6, ⟨(73, .sl 22 (l.map PVRoute.enc)) :: (74, .int .i64 l.length) :: (75, .int .i64 n) :: (0, .sl 22 (l.map PVRoute.enc)) :: (1, .int .i64 k) :: (2, .sl 2 (cs.map IGP.enc)) :: (7, .int .i64 a) :: (10, .int .i64 (key x).1) :: (11, .bool (key x).2) :: (9, .con (.slice none 0 0)) :: T, H, c⟩, [.t 6], 0⟩ ⟨.bool true, []⟩
  | [], done, T, H, c, n, e, hn, hm => by
    exfalso
    have hdl : done = l := by simp [e]
    rw [hdl] at hm
    have : x ∈ l.filter fun r => sameGroupS x r := List.mem_filter.2 ⟨List.mem_of_getElem? hk, (group_key x x).2 rfl⟩
    rw [hm] at this; cases this
  | r :: rs, done, T, H, c, n, e, hn, hm => by
    have hd : l.length = done.length + (rs.length + 1) := by simp [e]
    have hx : (l.map PVRoute.enc)[n.toNat]? = some r.enc := by simp [e, hn]
    have fr := hfit r (by simp [e])
    have e1 := first_gives19 r.attrs.path fr.rb.path
    rw [show firstS r.attrs.path = key r from rfl] at e1
    have py : pureL [AV.agg r.enc] = true := by simp [pureL, AV.pure]
    have hg := group_key x r
    by_cases hkk : key x = key r
    · have hsg := hg.2 hkk
      have h1 := congrArg Prod.fst hkk
      have h2 := congrArg Prod.snd hkk
      have next := fun T' H' c' g' m' es' => grp_loopV l hl hfit cs k a x hk cont rs (done ++ [r]) T' H' c' g' m' (n + 1) es' (by simp [e]) (by simp [hn])
      have hf : (done ++ [r]).filter (fun r => sameGroupS x r) = [r] := by simp [hsg]; simpa using hm
      rw [hf] at next
      generalize key x = kx at *
      generalize key r = kr at *
      obtain ⟨x1, x2⟩ := kx
      obtain ⟨r1, r2⟩ := kr
      dsimp only at *
      subst h1
      subst h2
      cases x2
      all_goals
        refine ev_loop' (W_ok 200 _ _ _ _ ?_)
        repeat (first | refine Exists.intro _ (And.intro (unA_neg_i64 (by omega) (by omega)) ?_) | refine Exists.intro _ (And.intro (binA_quo_i64 (by omega) (by omega) (by omega)) ?_) | refine Exists.intro _ (And.intro (binA_rem_i64 (by omega) (by omega)) ?_) | refine Exists.intro _ (And.intro (binA_sub_i64 (by omega) (by omega)) ?_) | refine Exists.intro _ (And.intro (binA_add_i64 (by omega) (by omega)) ?_) | refine Exists.intro _ (And.intro (conv_i64 (by omega) (by omega)) ?_) | refine Exists.intro _ (And.intro rfl ?_) | refine And.intro rfl ?_ | refine condT ?_ | refine condF ?_ | refine condG1 ?_ | refine condG0 ?_ | refine condDT (by omega) ?_ | refine condDF (by omega) ?_ | refine condBT (by omega) ?_ | refine condBF (by omega) ?_ | refine condNT (by omega) ?_ | refine condNF (by omega) ?_ | refine And.intro (by omega) ?_ | refine And.intro (ble_of (by omega)) ?_ | refine And.intro (room_le (by omega)) ?_ | refine Exists.intro _ (And.intro (by assumption) ?_))
        refine callV (e1) (by simp [pureL, AV.pure]) (by simp [AV.dry, dryL]) ?_
        repeat (first | refine Exists.intro _ (And.intro (unA_neg_i64 (by omega) (by omega)) ?_) | refine Exists.intro _ (And.intro (binA_quo_i64 (by omega) (by omega) (by omega)) ?_) | refine Exists.intro _ (And.intro (binA_rem_i64 (by omega) (by omega)) ?_) | refine Exists.intro _ (And.intro (binA_sub_i64 (by omega) (by omega)) ?_) | refine Exists.intro _ (And.intro (binA_add_i64 (by omega) (by omega)) ?_) | refine Exists.intro _ (And.intro (conv_i64 (by omega) (by omega)) ?_) | refine Exists.intro _ (And.intro rfl ?_) | refine And.intro rfl ?_ | refine condT ?_ | refine condF ?_ | refine condG1 ?_ | refine condG0 ?_ | refine condDT (by omega) ?_ | refine condDF (by omega) ?_ | refine condBT (by omega) ?_ | refine condBF (by omega) ?_ | refine condNT (by omega) ?_ | refine condNF (by omega) ?_ | refine And.intro (by omega) ?_ | refine And.intro (ble_of (by omega)) ?_ | refine And.intro (room_le (by omega)) ?_ | refine Exists.intro _ (And.intro (by assumption) ?_))
        refine And.intro py ?_
        repeat (first | refine Exists.intro _ (And.intro (unA_neg_i64 (by omega) (by omega)) ?_) | refine Exists.intro _ (And.intro (binA_quo_i64 (by omega) (by omega) (by omega)) ?_) | refine Exists.intro _ (And.intro (binA_rem_i64 (by omega) (by omega)) ?_) | refine Exists.intro _ (And.intro (binA_sub_i64 (by omega) (by omega)) ?_) | refine Exists.intro _ (And.intro (binA_add_i64 (by omega) (by omega)) ?_) | refine Exists.intro _ (And.intro (conv_i64 (by omega) (by omega)) ?_) | refine Exists.intro _ (And.intro rfl ?_) | refine And.intro rfl ?_ | refine condT ?_ | refine condF ?_ | refine condG1 ?_ | refine condG0 ?_ | refine condDT (by omega) ?_ | refine condDF (by omega) ?_ | refine condBT (by omega) ?_ | refine condBF (by omega) ?_ | refine condNT (by omega) ?_ | refine condNF (by omega) ?_ | refine And.intro (by omega) ?_ | refine And.intro (ble_of (by omega)) ?_ | refine And.intro (room_le (by omega)) ?_ | refine Exists.intro _ (And.intro (by assumption) ?_))
        refine ev_keep [73, 74, 75, 0, 1, 2, 7, 10, 11, 9] [161] ?_
        refine next _ _ _ _ _ _ ?_ ?_
        · simp [repl]
        · simp [repl]; rfl
    · have hsg : sameGroupS x r = false := by
        cases hq : sameGroupS x r with
        | false => rfl
        | true => exact absurd (hg.1 hq) hkk
      have next := fun T' H' c' => grp_loopN cont rs (done ++ [r]) T' H' c' (n + 1) (by simp [e]) (by simp [hn])
      have hf : (done ++ [r]).filter (fun r => sameGroupS x r) = [] := by simp [hsg]; simpa using hm
      have hkp : ¬ (key x).1 = (key r).1 ∨ ¬ (key x).2 = (key r).2 := by
        rcases Decidable.em ((key x).1 = (key r).1) with q | q
        · exact .inr fun z => hkk (Prod.ext q z)
        · exact .inl q
      generalize key x = kx at *
      generalize key r = kr at *
      obtain ⟨x1, x2⟩ := kx
      obtain ⟨r1, r2⟩ := kr
      dsimp only at *
      by_cases h1 : x1 = r1
      · have h2 : ¬ x2 = r2 := by
          rcases hkp with q | q
          · exact absurd h1 q
          · exact q
        cases x2 <;> cases r2
        all_goals first
          | (exfalso; exact h2 rfl)
          | (refine ev_loop' (W_ok 200 _ _ _ _ ?_)
             repeat (first | refine Exists.intro _ (And.intro (unA_neg_i64 (by omega) (by omega)) ?_) | refine Exists.intro _ (And.intro (binA_quo_i64 (by omega) (by omega) (by omega)) ?_) | refine Exists.intro _ (And.intro (binA_rem_i64 (by omega) (by omega)) ?_) | refine Exists.intro _ (And.intro (binA_sub_i64 (by omega) (by omega)) ?_) | refine Exists.intro _ (And.intro (binA_add_i64 (by omega) (by omega)) ?_) | refine Exists.intro _ (And.intro (conv_i64 (by omega) (by omega)) ?_) | refine Exists.intro _ (And.intro rfl ?_) | refine And.intro rfl ?_ | refine condT ?_ | refine condF ?_ | refine condG1 ?_ | refine condG0 ?_ | refine condDT (by omega) ?_ | refine condDF (by omega) ?_ | refine condBT (by omega) ?_ | refine condBF (by omega) ?_ | refine condNT (by omega) ?_ | refine condNF (by omega) ?_ | refine And.intro (by omega) ?_ | refine And.intro (ble_of (by omega)) ?_ | refine And.intro (room_le (by omega)) ?_ | refine Exists.intro _ (And.intro (by assumption) ?_))
             refine callV (e1) (by simp [pureL, AV.pure]) (by simp [AV.dry, dryL]) ?_
             repeat (first | refine Exists.intro _ (And.intro (unA_neg_i64 (by omega) (by omega)) ?_) | refine Exists.intro _ (And.intro (binA_quo_i64 (by omega) (by omega) (by omega)) ?_) | refine Exists.intro _ (And.intro (binA_rem_i64 (by omega) (by omega)) ?_) | refine Exists.intro _ (And.intro (binA_sub_i64 (by omega) (by omega)) ?_) | refine Exists.intro _ (And.intro (binA_add_i64 (by omega) (by omega)) ?_) | refine Exists.intro _ (And.intro (conv_i64 (by omega) (by omega)) ?_) | refine Exists.intro _ (And.intro rfl ?_) | refine And.intro rfl ?_ | refine condT ?_ | refine condF ?_ | refine condG1 ?_ | refine condG0 ?_ | refine condDT (by omega) ?_ | refine condDF (by omega) ?_ | refine condBT (by omega) ?_ | refine condBF (by omega) ?_ | refine condNT (by omega) ?_ | refine condNF (by omega) ?_ | refine And.intro (by omega) ?_ | refine And.intro (ble_of (by omega)) ?_ | refine And.intro (room_le (by omega)) ?_ | refine Exists.intro _ (And.intro (by assumption) ?_))
             refine ev_keep [73, 74, 75, 0, 1, 2, 7, 10, 11, 9] [] ?_
             exact next _ _ _ hf)
      · cases x2 <;> cases r2
        all_goals
          refine ev_loop' (W_ok 200 _ _ _ _ ?_)
          repeat (first | refine Exists.intro _ (And.intro (unA_neg_i64 (by omega) (by omega)) ?_) | refine Exists.intro _ (And.intro (binA_quo_i64 (by omega) (by omega) (by omega)) ?_) | refine Exists.intro _ (And.intro (binA_rem_i64 (by omega) (by omega)) ?_) | refine Exists.intro _ (And.intro (binA_sub_i64 (by omega) (by omega)) ?_) | refine Exists.intro _ (And.intro (binA_add_i64 (by omega) (by omega)) ?_) | refine Exists.intro _ (And.intro (conv_i64 (by omega) (by omega)) ?_) | refine Exists.intro _ (And.intro rfl ?_) | refine And.intro rfl ?_ | refine condT ?_ | refine condF ?_ | refine condG1 ?_ | refine condG0 ?_ | refine condDT (by omega) ?_ | refine condDF (by omega) ?_ | refine condBT (by omega) ?_ | refine condBF (by omega) ?_ | refine condNT (by omega) ?_ | refine condNF (by omega) ?_ | refine And.intro (by omega) ?_ | refine And.intro (ble_of (by omega)) ?_ | refine And.intro (room_le (by omega)) ?_ | refine Exists.intro _ (And.intro (by assumption) ?_))
          refine callV (e1) (by simp [pureL, AV.pure]) (by simp [AV.dry, dryL]) ?_
          repeat (first | refine Exists.intro _ (And.intro (unA_neg_i64 (by omega) (by omega)) ?_) | refine Exists.intro _ (And.intro (binA_quo_i64 (by omega) (by omega) (by omega)) ?_) | refine Exists.intro _ (And.intro (binA_rem_i64 (by omega) (by omega)) ?_) | refine Exists.intro _ (And.intro (binA_sub_i64 (by omega) (by omega)) ?_) | refine Exists.intro _ (And.intro (binA_add_i64 (by omega) (by omega)) ?_) | refine Exists.intro _ (And.intro (conv_i64 (by omega) (by omega)) ?_) | refine Exists.intro _ (And.intro rfl ?_) | refine And.intro rfl ?_ | refine condT ?_ | refine condF ?_ | refine condG1 ?_ | refine condG0 ?_ | refine condDT (by omega) ?_ | refine condDF (by omega) ?_ | refine condBT (by omega) ?_ | refine condBF (by omega) ?_ | refine condNT (by omega) ?_ | refine condNF (by omega) ?_ | refine And.intro (by omega) ?_ | refine And.intro (ble_of (by omega)) ?_ | refine And.intro (room_le (by omega)) ?_ | refine Exists.intro _ (And.intro (by assumption) ?_))
          refine ev_keep [73, 74, 75, 0, 1, 2, 7, 10, 11, 9] [] ?_
          exact next _ _ _ hf
end
end Go.AM.IR
namespace Go.AM.IR
set_option maxHeartbeats 8000000
set_option maxRecDepth 100000
section
variable (l : List PVRoute) (hl : l.length < 2 ^ 30) (hfit : ∀ r ∈ l, Fit r) (cs : List IGP) (hcs : cs.length < 2 ^ 40)
include hl hfit hcs
theorem frz_args (o : List PVRoute) (g m key : Nat) (es : List (List AV)) (hm : m = o.length) (hes : es = o.map PVRoute.enc) :
    (Blk.vec 22 es).pure = true ∧ keysL true [AV.vs key g m, AV.sl 2 (cs.map IGP.enc)] = [key] ∧ keysL false [AV.vs key g m, AV.sl 2 (cs.map IGP.enc)] = [] ∧ renL (φF [(key, g, .vec 22 es)]) [AV.vs key g m, AV.sl 2 (cs.map IGP.enc)] = [.sl 22 (o.map PVRoute.enc), .sl 2 (cs.map IGP.enc)] := by
  refine ⟨by rw [hes]; exact pure_routes _, ?_, ?_, ?_⟩
  · simp only [keysL, AV.keys_pure true (AV.sl 2 (cs.map IGP.enc)) (by simp [AV.pure])]; rfl
  · simp only [keysL, AV.keys_pure false (AV.sl 2 (cs.map IGP.enc)) (by simp [AV.pure])]; rfl
  · have := AV.ren_pure (φF [(key, g, .vec 22 es)]) (AV.sl 2 (cs.map IGP.enc)) (by simp [AV.pure])
    simp only [renL, this]
    simp [AV.ren, φF, hm, hes]
    exact List.take_of_length_le (by simp)
theorem law6_end (hn : (l.map (·.peer)).Nodup) (a k : Nat) (hk : k < l.length) (ha : bestS l cs = some a) (T : List (Nat × AV)) (H : Heap) (c g m : Nat) (es : List (List AV)) (hm : m = (l.filter fun r => sameGroupS (l.getD k default) r).length) (hes : es = (l.filter fun r => sameGroupS (l.getD k default) r).map PVRoute.enc) :
    Ev G ⟨K6, ⟨(0, .sl 22 (l.map PVRoute.enc)) :: (1, .int .i64 k) :: (2, .sl 2 (cs.map IGP.enc)) :: (7, .int .i64 a) :: (9, .vs 161 g m) :: T, (161, some (g, .vec 22 es)) :: H, c⟩, [.t 6], 0⟩ ⟨.bool true, []⟩ := by
  have hal := (best_some l cs ha).1
  have hrm := fun hw => removal_law l cs hn a k hk ha _ rfl hw _ rfl
  have hgf : ∀ r ∈ (l.filter fun r => sameGroupS (l.getD k default) r), Fit r := fun r hr => hfit r (List.mem_filter.1 hr).1
  have hgl : (l.filter fun r => sameGroupS (l.getD k default) r).length ≤ l.length := List.length_filter_le _ _
  have e1 := best_gives14 (l.filter fun r => sameGroupS (l.getD k default) r) (by omega) hgf cs hcs
  have hgs := fun w => best_some (l.filter fun r => sameGroupS (l.getD k default) r) cs (b := w)
  have hxk : l[k]? = some (l.getD k default) := by rw [List.getD_eq_getElem?_getD, List.getElem?_eq_getElem hk]; rfl
  generalize l.getD k default = x at *
  generalize (l.filter fun r => sameGroupS x r) = grp at *
  obtain ⟨pes, hk1, hk0, hren⟩ := frz_args l hl hfit cs hcs grp g m 161 es hm hes
  have hlm : (l.map PVRoute.enc).length = l.length := by simp
  have hl1 : (List.take (((k : Int)).toNat - 0) (List.drop 0 (l.map PVRoute.enc))).length = k := by simp; omega
  have hl2 : (List.take ((l.map PVRoute.enc).length - ((k : Int) + 1).toNat) (List.drop ((k : Int) + 1).toNat (l.map PVRoute.enc))).length = l.length - (k + 1) := by simp
  have hl3 : (List.take (0 + (List.take (((k : Int)).toNat - 0) (List.drop 0 (l.map PVRoute.enc))).length) (List.take 0 [] ++ List.take (((k : Int)).toNat - 0) (List.drop 0 (l.map PVRoute.enc)))).length = k := by simp; omega
  have hl4 : (List.take 0 [] ++ List.take (((k : Int)).toNat - 0) (List.drop 0 (l.map PVRoute.enc))).length = k := by simp; omega
  have hxe : (l.map PVRoute.enc)[((k : Int)).toNat]? = some x.enc := by simp [hxk]
  have hrf : ∀ r ∈ l.take k ++ l.drop (k + 1), Fit r := fun r hr => by
    rcases List.mem_append.1 hr with q | q
    · exact hfit r (List.mem_of_mem_take q)
    · exact hfit r (List.mem_of_mem_drop q)
  have hrl : (l.take k ++ l.drop (k + 1)).length < 2 ^ 40 := by simp; omega
  have fin1 : 0 + (List.take (((k : Int)).toNat - 0) (List.drop 0 (l.map PVRoute.enc))).length + (List.take ((l.map PVRoute.enc).length - ((k : Int) + 1).toNat) (List.drop ((k : Int) + 1).toNat (l.map PVRoute.enc))).length = (l.take k ++ l.drop (k + 1)).length := by
    rw [hl1, hl2, List.length_append, List.length_take, List.length_drop]; omega
  have fin2 : List.take (0 + (List.take (((k : Int)).toNat - 0) (List.drop 0 (l.map PVRoute.enc))).length) (List.take 0 [] ++ List.take (((k : Int)).toNat - 0) (List.drop 0 (l.map PVRoute.enc))) ++ List.take ((l.map PVRoute.enc).length - ((k : Int) + 1).toNat) (List.drop ((k : Int) + 1).toNat (l.map PVRoute.enc)) = (l.take k ++ l.drop (k + 1)).map PVRoute.enc := by
    have t1 : (((k : Int)).toNat - 0) = k := by omega
    have t2 : ((k : Int) + 1).toNat = k + 1 := by omega
    rw [t1, t2, List.take_zero, List.nil_append, List.drop_zero, Nat.zero_add, List.take_length, List.map_append, List.map_take, List.map_drop]
    have t3 : List.take ((l.map PVRoute.enc).length - (k + 1)) (List.drop (k + 1) (l.map PVRoute.enc)) = List.drop (k + 1) (l.map PVRoute.enc) := List.take_of_length_le (by simp)
    rw [t3]
  have F := fun g => frz_args l hl hfit cs hcs (l.take k ++ l.drop (k + 1)) g _ 184 _ fin1 fin2
  have run2 : (∀ w, bestS grp cs = some w → (grp.getD w default).peer ≠ x.peer) → ∃ (b : Nat) (y z : PVRoute), Gives G 14 [.sl 22 ((l.take k ++ l.drop (k + 1)).map PVRoute.enc), .sl 2 (cs.map IGP.enc)] [] ⟨bestRet (some b), []⟩ ∧ (l.map PVRoute.enc)[((a : Int)).toNat]? = some y.enc ∧ ((l.take k ++ l.drop (k + 1)).map PVRoute.enc)[((b : Int)).toNat]? = some z.enc ∧ z.peer = y.peer ∧ b < (l.take k ++ l.drop (k + 1)).length := by
    intro hw
    obtain ⟨b, h1, h2, h3⟩ := hrm hw
    have e2 := best_gives14 (l.take k ++ l.drop (k + 1)) hrl hrf cs hcs
    rw [h1] at e2
    have hya : l[a]? = some (l.getD a default) := by rw [List.getD_eq_getElem?_getD, List.getElem?_eq_getElem hal]; rfl
    refine ⟨b, l.getD a default, (l.take k ++ l.drop (k + 1)).getD b default, e2, ?_, ?_, h3, h2⟩
    · rw [List.getElem?_map, show ((a : Int)).toNat = a from by omega, hya]; rfl
    · rw [List.getElem?_map, show ((b : Int)).toNat = b from by omega, List.getD_eq_getElem?_getD, List.getElem?_eq_getElem h2]; rfl
  rw [← fin2] at run2
  rw [← fin1] at run2
  have F4 := fun g => (F g).2.2.2
  simp only [← fin2] at F4
  clear fin1 fin2 hrm hgf hrf hrl hgl
  cases hB : bestS grp cs with
  | none =>
    rw [hB] at e1
    obtain ⟨b, y, z, e2, hya, hzb, hp, hbl⟩ := run2 (by intro w hw; rw [hB] at hw; cases hw)
    refine W_ok 300 _ _ _ _ ?_
    repeat (first | refine Exists.intro _ (And.intro (unA_neg_i64 (by omega) (by omega)) ?_) | refine Exists.intro _ (And.intro (binA_quo_i64 (by omega) (by omega) (by omega)) ?_) | refine Exists.intro _ (And.intro (binA_rem_i64 (by omega) (by omega)) ?_) | refine Exists.intro _ (And.intro (binA_sub_i64 (by omega) (by omega)) ?_) | refine Exists.intro _ (And.intro (binA_add_i64 (by omega) (by omega)) ?_) | refine Exists.intro _ (And.intro (conv_i64 (by omega) (by omega)) ?_) | refine Exists.intro _ (And.intro rfl ?_) | refine And.intro rfl ?_ | refine condT ?_ | refine condF ?_ | refine condG1 ?_ | refine condG0 ?_ | refine condDT (by omega) ?_ | refine condDF (by omega) ?_ | refine condBT (by omega) ?_ | refine condBF (by omega) ?_ | refine condNT (by omega) ?_ | refine condNF (by omega) ?_ | refine And.intro (by omega) ?_ | refine And.intro (ble_of (by omega)) ?_ | refine And.intro (room_le (by omega)) ?_ | refine Exists.intro _ (And.intro (by assumption) ?_))
    refine callF [(161, _, .vec 22 es)] ⟨rfl, pes, trivial⟩ hk1 (List.cons_ne_nil _ _) hk0 hren e1 rfl ?_
    repeat (first | refine Exists.intro _ (And.intro (unA_neg_i64 (by omega) (by omega)) ?_) | refine Exists.intro _ (And.intro (binA_quo_i64 (by omega) (by omega) (by omega)) ?_) | refine Exists.intro _ (And.intro (binA_rem_i64 (by omega) (by omega)) ?_) | refine Exists.intro _ (And.intro (binA_sub_i64 (by omega) (by omega)) ?_) | refine Exists.intro _ (And.intro (binA_add_i64 (by omega) (by omega)) ?_) | refine Exists.intro _ (And.intro (conv_i64 (by omega) (by omega)) ?_) | refine Exists.intro _ (And.intro rfl ?_) | refine And.intro rfl ?_ | refine condT ?_ | refine condF ?_ | refine condG1 ?_ | refine condG0 ?_ | refine condDT (by omega) ?_ | refine condDF (by omega) ?_ | refine condBT (by omega) ?_ | refine condBF (by omega) ?_ | refine condNT (by omega) ?_ | refine condNF (by omega) ?_ | refine And.intro (by omega) ?_ | refine And.intro (ble_of (by omega)) ?_ | refine And.intro (room_le (by omega)) ?_ | refine Exists.intro _ (And.intro (by assumption) ?_))
    refine And.intro (ble_of (by show _ ≤ (List.take 0 [] ++ List.take (((k : Int)).toNat - 0) (List.drop 0 (l.map PVRoute.enc))).length; omega)) ?_
    repeat (first | refine Exists.intro _ (And.intro (unA_neg_i64 (by omega) (by omega)) ?_) | refine Exists.intro _ (And.intro (binA_quo_i64 (by omega) (by omega) (by omega)) ?_) | refine Exists.intro _ (And.intro (binA_rem_i64 (by omega) (by omega)) ?_) | refine Exists.intro _ (And.intro (binA_sub_i64 (by omega) (by omega)) ?_) | refine Exists.intro _ (And.intro (binA_add_i64 (by omega) (by omega)) ?_) | refine Exists.intro _ (And.intro (conv_i64 (by omega) (by omega)) ?_) | refine Exists.intro _ (And.intro rfl ?_) | refine And.intro rfl ?_ | refine condT ?_ | refine condF ?_ | refine condG1 ?_ | refine condG0 ?_ | refine condDT (by omega) ?_ | refine condDF (by omega) ?_ | refine condBT (by omega) ?_ | refine condBF (by omega) ?_ | refine condNT (by omega) ?_ | refine condNF (by omega) ?_ | refine And.intro (by omega) ?_ | refine And.intro (ble_of (by omega)) ?_ | refine And.intro (room_le (by omega)) ?_ | refine Exists.intro _ (And.intro (by assumption) ?_))
    refine callF [(184, c + 8 + 14 + 9, .vec 22 (List.take (0 + (List.take (((k : Int)).toNat - 0) (List.drop 0 (l.map PVRoute.enc))).length) (List.take 0 [] ++ List.take (((k : Int)).toNat - 0) (List.drop 0 (l.map PVRoute.enc))) ++ List.take ((l.map PVRoute.enc).length - ((k : Int) + 1).toNat) (List.drop ((k : Int) + 1).toNat (l.map PVRoute.enc))))] ?_ ?_ (List.cons_ne_nil _ _) ?_ ?_ e2 rfl ?_
    · exact ⟨rfl, (F 0).1, trivial⟩
    · exact (F (c + 8 + 14 + 9)).2.1
    · exact (F (c + 8 + 14 + 9)).2.2.1
    · exact F4 (c + 8 + 14 + 9)
    repeat (first | refine Exists.intro _ (And.intro (unA_neg_i64 (by omega) (by omega)) ?_) | refine Exists.intro _ (And.intro (binA_quo_i64 (by omega) (by omega) (by omega)) ?_) | refine Exists.intro _ (And.intro (binA_rem_i64 (by omega) (by omega)) ?_) | refine Exists.intro _ (And.intro (binA_sub_i64 (by omega) (by omega)) ?_) | refine Exists.intro _ (And.intro (binA_add_i64 (by omega) (by omega)) ?_) | refine Exists.intro _ (And.intro (conv_i64 (by omega) (by omega)) ?_) | refine Exists.intro _ (And.intro rfl ?_) | refine And.intro rfl ?_ | refine condT ?_ | refine condF ?_ | refine condG1 ?_ | refine condG0 ?_ | refine condDT (by omega) ?_ | refine condDF (by omega) ?_ | refine condBT (by omega) ?_ | refine condBF (by omega) ?_ | refine condNT (by omega) ?_ | refine condNF (by omega) ?_ | refine And.intro (by omega) ?_ | refine And.intro (ble_of (by omega)) ?_ | refine And.intro (room_le (by omega)) ?_ | refine Exists.intro _ (And.intro (by assumption) ?_))
    refine callV (awake_gives) (by simp [pureL, AV.pure]) (by simp [AV.dry, dryL]) ?_
    repeat (first | refine Exists.intro _ (And.intro (unA_neg_i64 (by omega) (by omega)) ?_) | refine Exists.intro _ (And.intro (binA_quo_i64 (by omega) (by omega) (by omega)) ?_) | refine Exists.intro _ (And.intro (binA_rem_i64 (by omega) (by omega)) ?_) | refine Exists.intro _ (And.intro (binA_sub_i64 (by omega) (by omega)) ?_) | refine Exists.intro _ (And.intro (binA_add_i64 (by omega) (by omega)) ?_) | refine Exists.intro _ (And.intro (conv_i64 (by omega) (by omega)) ?_) | refine Exists.intro _ (And.intro rfl ?_) | refine And.intro rfl ?_ | refine condT ?_ | refine condF ?_ | refine condG1 ?_ | refine condG0 ?_ | refine condDT (by omega) ?_ | refine condDF (by omega) ?_ | refine condBT (by omega) ?_ | refine condBF (by omega) ?_ | refine condNT (by omega) ?_ | refine condNF (by omega) ?_ | refine And.intro (by omega) ?_ | refine And.intro (ble_of (by omega)) ?_ | refine And.intro (room_le (by omega)) ?_ | refine Exists.intro _ (And.intro (by assumption) ?_))
    rfl
  | some w =>
    rw [hB] at e1
    have hwl := (hgs w hB).1
    have hzw : grp[w]? = some (grp.getD w default) := by rw [List.getD_eq_getElem?_getD, List.getElem?_eq_getElem hwl]; rfl
    have hze : es[((w : Int)).toNat]? = some (grp.getD w default).enc := by rw [hes, List.getElem?_map, show ((w : Int)).toNat = w from by omega, hzw]; rfl
    by_cases hp : (grp.getD w default).peer = x.peer
    · clear run2
      generalize grp.getD w default = z at *
      refine W_ok 200 _ _ _ _ ?_
      repeat (first | refine Exists.intro _ (And.intro (unA_neg_i64 (by omega) (by omega)) ?_) | refine Exists.intro _ (And.intro (binA_quo_i64 (by omega) (by omega) (by omega)) ?_) | refine Exists.intro _ (And.intro (binA_rem_i64 (by omega) (by omega)) ?_) | refine Exists.intro _ (And.intro (binA_sub_i64 (by omega) (by omega)) ?_) | refine Exists.intro _ (And.intro (binA_add_i64 (by omega) (by omega)) ?_) | refine Exists.intro _ (And.intro (conv_i64 (by omega) (by omega)) ?_) | refine Exists.intro _ (And.intro rfl ?_) | refine And.intro rfl ?_ | refine condT ?_ | refine condF ?_ | refine condG1 ?_ | refine condG0 ?_ | refine condDT (by omega) ?_ | refine condDF (by omega) ?_ | refine condBT (by omega) ?_ | refine condBF (by omega) ?_ | refine condNT (by omega) ?_ | refine condNF (by omega) ?_ | refine And.intro (by omega) ?_ | refine And.intro (ble_of (by omega)) ?_ | refine And.intro (room_le (by omega)) ?_ | refine Exists.intro _ (And.intro (by assumption) ?_))
      refine callF [(161, _, .vec 22 es)] ⟨rfl, pes, trivial⟩ hk1 (List.cons_ne_nil _ _) hk0 hren e1 rfl ?_
      repeat (first | refine Exists.intro _ (And.intro (unA_neg_i64 (by omega) (by omega)) ?_) | refine Exists.intro _ (And.intro (binA_quo_i64 (by omega) (by omega) (by omega)) ?_) | refine Exists.intro _ (And.intro (binA_rem_i64 (by omega) (by omega)) ?_) | refine Exists.intro _ (And.intro (binA_sub_i64 (by omega) (by omega)) ?_) | refine Exists.intro _ (And.intro (binA_add_i64 (by omega) (by omega)) ?_) | refine Exists.intro _ (And.intro (conv_i64 (by omega) (by omega)) ?_) | refine Exists.intro _ (And.intro rfl ?_) | refine And.intro rfl ?_ | refine condT ?_ | refine condF ?_ | refine condG1 ?_ | refine condG0 ?_ | refine condDT (by omega) ?_ | refine condDF (by omega) ?_ | refine condBT (by omega) ?_ | refine condBF (by omega) ?_ | refine condNT (by omega) ?_ | refine condNF (by omega) ?_ | refine And.intro (by omega) ?_ | refine And.intro (ble_of (by omega)) ?_ | refine And.intro (room_le (by omega)) ?_ | refine Exists.intro _ (And.intro (by assumption) ?_))
      refine callV (awake_gives) (by simp [pureL, AV.pure]) (by simp [AV.dry, dryL]) ?_
      repeat (first | refine Exists.intro _ (And.intro (unA_neg_i64 (by omega) (by omega)) ?_) | refine Exists.intro _ (And.intro (binA_quo_i64 (by omega) (by omega) (by omega)) ?_) | refine Exists.intro _ (And.intro (binA_rem_i64 (by omega) (by omega)) ?_) | refine Exists.intro _ (And.intro (binA_sub_i64 (by omega) (by omega)) ?_) | refine Exists.intro _ (And.intro (binA_add_i64 (by omega) (by omega)) ?_) | refine Exists.intro _ (And.intro (conv_i64 (by omega) (by omega)) ?_) | refine Exists.intro _ (And.intro rfl ?_) | refine And.intro rfl ?_ | refine condT ?_ | refine condF ?_ | refine condG1 ?_ | refine condG0 ?_ | refine condDT (by omega) ?_ | refine condDF (by omega) ?_ | refine condBT (by omega) ?_ | refine condBF (by omega) ?_ | refine condNT (by omega) ?_ | refine condNF (by omega) ?_ | refine And.intro (by omega) ?_ | refine And.intro (ble_of (by omega)) ?_ | refine And.intro (room_le (by omega)) ?_ | refine Exists.intro _ (And.intro (by assumption) ?_))
      rfl
    · obtain ⟨b, y, z, e2, hya, hzb, hp2, hbl⟩ := run2 (by intro w' hw'; rw [hB] at hw'; obtain rfl := Option.some.inj hw'; exact hp)
      generalize grp.getD w default = zw at *
      refine W_ok 300 _ _ _ _ ?_
      repeat (first | refine Exists.intro _ (And.intro (unA_neg_i64 (by omega) (by omega)) ?_) | refine Exists.intro _ (And.intro (binA_quo_i64 (by omega) (by omega) (by omega)) ?_) | refine Exists.intro _ (And.intro (binA_rem_i64 (by omega) (by omega)) ?_) | refine Exists.intro _ (And.intro (binA_sub_i64 (by omega) (by omega)) ?_) | refine Exists.intro _ (And.intro (binA_add_i64 (by omega) (by omega)) ?_) | refine Exists.intro _ (And.intro (conv_i64 (by omega) (by omega)) ?_) | refine Exists.intro _ (And.intro rfl ?_) | refine And.intro rfl ?_ | refine condT ?_ | refine condF ?_ | refine condG1 ?_ | refine condG0 ?_ | refine condDT (by omega) ?_ | refine condDF (by omega) ?_ | refine condBT (by omega) ?_ | refine condBF (by omega) ?_ | refine condNT (by omega) ?_ | refine condNF (by omega) ?_ | refine And.intro (by omega) ?_ | refine And.intro (ble_of (by omega)) ?_ | refine And.intro (room_le (by omega)) ?_ | refine Exists.intro _ (And.intro (by assumption) ?_))
      refine callF [(161, _, .vec 22 es)] ⟨rfl, pes, trivial⟩ hk1 (List.cons_ne_nil _ _) hk0 hren e1 rfl ?_
      repeat (first | refine Exists.intro _ (And.intro (unA_neg_i64 (by omega) (by omega)) ?_) | refine Exists.intro _ (And.intro (binA_quo_i64 (by omega) (by omega) (by omega)) ?_) | refine Exists.intro _ (And.intro (binA_rem_i64 (by omega) (by omega)) ?_) | refine Exists.intro _ (And.intro (binA_sub_i64 (by omega) (by omega)) ?_) | refine Exists.intro _ (And.intro (binA_add_i64 (by omega) (by omega)) ?_) | refine Exists.intro _ (And.intro (conv_i64 (by omega) (by omega)) ?_) | refine Exists.intro _ (And.intro rfl ?_) | refine And.intro rfl ?_ | refine condT ?_ | refine condF ?_ | refine condG1 ?_ | refine condG0 ?_ | refine condDT (by omega) ?_ | refine condDF (by omega) ?_ | refine condBT (by omega) ?_ | refine condBF (by omega) ?_ | refine condNT (by omega) ?_ | refine condNF (by omega) ?_ | refine And.intro (by omega) ?_ | refine And.intro (ble_of (by omega)) ?_ | refine And.intro (room_le (by omega)) ?_ | refine Exists.intro _ (And.intro (by assumption) ?_))
      refine And.intro (ble_of (by show _ ≤ (List.take 0 [] ++ List.take (((k : Int)).toNat - 0) (List.drop 0 (l.map PVRoute.enc))).length; omega)) ?_
      repeat (first | refine Exists.intro _ (And.intro (unA_neg_i64 (by omega) (by omega)) ?_) | refine Exists.intro _ (And.intro (binA_quo_i64 (by omega) (by omega) (by omega)) ?_) | refine Exists.intro _ (And.intro (binA_rem_i64 (by omega) (by omega)) ?_) | refine Exists.intro _ (And.intro (binA_sub_i64 (by omega) (by omega)) ?_) | refine Exists.intro _ (And.intro (binA_add_i64 (by omega) (by omega)) ?_) | refine Exists.intro _ (And.intro (conv_i64 (by omega) (by omega)) ?_) | refine Exists.intro _ (And.intro rfl ?_) | refine And.intro rfl ?_ | refine condT ?_ | refine condF ?_ | refine condG1 ?_ | refine condG0 ?_ | refine condDT (by omega) ?_ | refine condDF (by omega) ?_ | refine condBT (by omega) ?_ | refine condBF (by omega) ?_ | refine condNT (by omega) ?_ | refine condNF (by omega) ?_ | refine And.intro (by omega) ?_ | refine And.intro (ble_of (by omega)) ?_ | refine And.intro (room_le (by omega)) ?_ | refine Exists.intro _ (And.intro (by assumption) ?_))
      refine callF [(184, c + 8 + 14 + 9, .vec 22 (List.take (0 + (List.take (((k : Int)).toNat - 0) (List.drop 0 (l.map PVRoute.enc))).length) (List.take 0 [] ++ List.take (((k : Int)).toNat - 0) (List.drop 0 (l.map PVRoute.enc))) ++ List.take ((l.map PVRoute.enc).length - ((k : Int) + 1).toNat) (List.drop ((k : Int) + 1).toNat (l.map PVRoute.enc))))] ?_ ?_ (List.cons_ne_nil _ _) ?_ ?_ e2 rfl ?_
      · exact ⟨rfl, (F 0).1, trivial⟩
      · exact (F (c + 8 + 14 + 9)).2.1
      · exact (F (c + 8 + 14 + 9)).2.2.1
      · exact F4 (c + 8 + 14 + 9)
      repeat (first | refine Exists.intro _ (And.intro (unA_neg_i64 (by omega) (by omega)) ?_) | refine Exists.intro _ (And.intro (binA_quo_i64 (by omega) (by omega) (by omega)) ?_) | refine Exists.intro _ (And.intro (binA_rem_i64 (by omega) (by omega)) ?_) | refine Exists.intro _ (And.intro (binA_sub_i64 (by omega) (by omega)) ?_) | refine Exists.intro _ (And.intro (binA_add_i64 (by omega) (by omega)) ?_) | refine Exists.intro _ (And.intro (conv_i64 (by omega) (by omega)) ?_) | refine Exists.intro _ (And.intro rfl ?_) | refine And.intro rfl ?_ | refine condT ?_ | refine condF ?_ | refine condG1 ?_ | refine condG0 ?_ | refine condDT (by omega) ?_ | refine condDF (by omega) ?_ | refine condBT (by omega) ?_ | refine condBF (by omega) ?_ | refine condNT (by omega) ?_ | refine condNF (by omega) ?_ | refine And.intro (by omega) ?_ | refine And.intro (ble_of (by omega)) ?_ | refine And.intro (room_le (by omega)) ?_ | refine Exists.intro _ (And.intro (by assumption) ?_))
      refine callV (awake_gives) (by simp [pureL, AV.pure]) (by simp [AV.dry, dryL]) ?_
      repeat (first | refine Exists.intro _ (And.intro (unA_neg_i64 (by omega) (by omega)) ?_) | refine Exists.intro _ (And.intro (binA_quo_i64 (by omega) (by omega) (by omega)) ?_) | refine Exists.intro _ (And.intro (binA_rem_i64 (by omega) (by omega)) ?_) | refine Exists.intro _ (And.intro (binA_sub_i64 (by omega) (by omega)) ?_) | refine Exists.intro _ (And.intro (binA_add_i64 (by omega) (by omega)) ?_) | refine Exists.intro _ (And.intro (conv_i64 (by omega) (by omega)) ?_) | refine Exists.intro _ (And.intro rfl ?_) | refine And.intro rfl ?_ | refine condT ?_ | refine condF ?_ | refine condG1 ?_ | refine condG0 ?_ | refine condDT (by omega) ?_ | refine condDF (by omega) ?_ | refine condBT (by omega) ?_ | refine condBF (by omega) ?_ | refine condNT (by omega) ?_ | refine condNF (by omega) ?_ | refine And.intro (by omega) ?_ | refine And.intro (ble_of (by omega)) ?_ | refine And.intro (room_le (by omega)) ?_ | refine Exists.intro _ (And.intro (by assumption) ?_))
      rfl
end
end Go.AM.IR
namespace Go.AM.IR
set_option maxHeartbeats 4000000
set_option maxRecDepth 100000
def nI (i : Nat) : Int := i
/-- The best of no routes, written nil. -/
theorem win_nil24 (cs : List IGP) : Gives G 24 [.con (.slice none 0 0), .sl 2 (cs.map IGP.enc)] [] ⟨.con (.slice none 0 0), []⟩ := by
  refine gives_code (F := f24) rfl rfl (W_ok 60 _ _ _ _ ?_)
  repeat (first | refine Exists.intro _ (And.intro (unA_neg_i64 (by omega) (by omega)) ?_) | refine Exists.intro _ (And.intro (binA_quo_i64 (by omega) (by omega) (by omega)) ?_) | refine Exists.intro _ (And.intro (binA_rem_i64 (by omega) (by omega)) ?_) | refine Exists.intro _ (And.intro (binA_sub_i64 (by omega) (by omega)) ?_) | refine Exists.intro _ (And.intro (binA_add_i64 (by omega) (by omega)) ?_) | refine Exists.intro _ (And.intro (conv_i64 (by omega) (by omega)) ?_) | refine Exists.intro _ (And.intro rfl ?_) | refine And.intro rfl ?_ | refine condT ?_ | refine condF ?_ | refine condG1 ?_ | refine condG0 ?_ | refine condDT (by omega) ?_ | refine condDF (by omega) ?_ | refine condBT (by omega) ?_ | refine condBF (by omega) ?_ | refine condNT (by omega) ?_ | refine condNF (by omega) ?_ | refine And.intro (by omega) ?_ | refine And.intro (ble_of (by omega)) ?_ | refine And.intro (room_le (by omega)) ?_ | refine Exists.intro _ (And.intro (by assumption) ?_))
  refine ev_loop' (W_ok 200 _ _ _ _ ?_)
  repeat (first | refine Exists.intro _ (And.intro (unA_neg_i64 (by omega) (by omega)) ?_) | refine Exists.intro _ (And.intro (binA_quo_i64 (by omega) (by omega) (by omega)) ?_) | refine Exists.intro _ (And.intro (binA_rem_i64 (by omega) (by omega)) ?_) | refine Exists.intro _ (And.intro (binA_sub_i64 (by omega) (by omega)) ?_) | refine Exists.intro _ (And.intro (binA_add_i64 (by omega) (by omega)) ?_) | refine Exists.intro _ (And.intro (conv_i64 (by omega) (by omega)) ?_) | refine Exists.intro _ (And.intro rfl ?_) | refine And.intro rfl ?_ | refine condT ?_ | refine condF ?_ | refine condG1 ?_ | refine condG0 ?_ | refine condDT (by omega) ?_ | refine condDF (by omega) ?_ | refine condBT (by omega) ?_ | refine condBF (by omega) ?_ | refine condNT (by omega) ?_ | refine condNF (by omega) ?_ | refine And.intro (by omega) ?_ | refine And.intro (ble_of (by omega)) ?_ | refine And.intro (room_le (by omega)) ?_ | refine Exists.intro _ (And.intro (by assumption) ?_))
  rfl
theorem best_nil14 (cs : List IGP) : Gives G 14 [.con (.slice none 0 0), .sl 2 (cs.map IGP.enc)] [] ⟨bestRet none, []⟩ := by
  have pl : pureL [AV.con (.slice none 0 0), AV.sl 2 (cs.map IGP.enc)] = true := by simp [pureL, AV.pure]
  refine gives_code (F := f14) rfl rfl (W_ok 60 _ _ _ _ ?_)
  repeat (first | refine Exists.intro _ (And.intro (unA_neg_i64 (by omega) (by omega)) ?_) | refine Exists.intro _ (And.intro (binA_quo_i64 (by omega) (by omega) (by omega)) ?_) | refine Exists.intro _ (And.intro (binA_rem_i64 (by omega) (by omega)) ?_) | refine Exists.intro _ (And.intro (binA_sub_i64 (by omega) (by omega)) ?_) | refine Exists.intro _ (And.intro (binA_add_i64 (by omega) (by omega)) ?_) | refine Exists.intro _ (And.intro (conv_i64 (by omega) (by omega)) ?_) | refine Exists.intro _ (And.intro rfl ?_) | refine And.intro rfl ?_ | refine condT ?_ | refine condF ?_ | refine condG1 ?_ | refine condG0 ?_ | refine condDT (by omega) ?_ | refine condDF (by omega) ?_ | refine condBT (by omega) ?_ | refine condBF (by omega) ?_ | refine condNT (by omega) ?_ | refine condNF (by omega) ?_ | refine And.intro (by omega) ?_ | refine And.intro (ble_of (by omega)) ?_ | refine And.intro (room_le (by omega)) ?_ | refine Exists.intro _ (And.intro (by assumption) ?_))
  refine callV (win_nil24 cs) pl rfl ?_
  repeat (first | refine Exists.intro _ (And.intro (unA_neg_i64 (by omega) (by omega)) ?_) | refine Exists.intro _ (And.intro (binA_quo_i64 (by omega) (by omega) (by omega)) ?_) | refine Exists.intro _ (And.intro (binA_rem_i64 (by omega) (by omega)) ?_) | refine Exists.intro _ (And.intro (binA_sub_i64 (by omega) (by omega)) ?_) | refine Exists.intro _ (And.intro (binA_add_i64 (by omega) (by omega)) ?_) | refine Exists.intro _ (And.intro (conv_i64 (by omega) (by omega)) ?_) | refine Exists.intro _ (And.intro rfl ?_) | refine And.intro rfl ?_ | refine condT ?_ | refine condF ?_ | refine condG1 ?_ | refine condG0 ?_ | refine condDT (by omega) ?_ | refine condDF (by omega) ?_ | refine condBT (by omega) ?_ | refine condBF (by omega) ?_ | refine condNT (by omega) ?_ | refine condNF (by omega) ?_ | refine And.intro (by omega) ?_ | refine And.intro (ble_of (by omega)) ?_ | refine And.intro (room_le (by omega)) ?_ | refine Exists.intro _ (And.intro (by assumption) ?_))
  refine ev_loop' (W_ok 200 _ _ _ _ ?_)
  repeat (first | refine Exists.intro _ (And.intro (unA_neg_i64 (by omega) (by omega)) ?_) | refine Exists.intro _ (And.intro (binA_quo_i64 (by omega) (by omega) (by omega)) ?_) | refine Exists.intro _ (And.intro (binA_rem_i64 (by omega) (by omega)) ?_) | refine Exists.intro _ (And.intro (binA_sub_i64 (by omega) (by omega)) ?_) | refine Exists.intro _ (And.intro (binA_add_i64 (by omega) (by omega)) ?_) | refine Exists.intro _ (And.intro (conv_i64 (by omega) (by omega)) ?_) | refine Exists.intro _ (And.intro rfl ?_) | refine And.intro rfl ?_ | refine condT ?_ | refine condF ?_ | refine condG1 ?_ | refine condG0 ?_ | refine condDT (by omega) ?_ | refine condDF (by omega) ?_ | refine condBT (by omega) ?_ | refine condBF (by omega) ?_ | refine condNT (by omega) ?_ | refine condNF (by omega) ?_ | refine And.intro (by omega) ?_ | refine And.intro (ble_of (by omega)) ?_ | refine And.intro (room_le (by omega)) ?_ | refine Exists.intro _ (And.intro (by assumption) ?_))
  rfl
def metE (b : Bool) : List AV := [.bool b]
def metL (n : Nat) (idx : List Nat) : List Bool := (List.range n).map fun i => decide (i ∈ idx)
section
variable (l : List PVRoute) (hl : l.length < 2 ^ 30) (p : List Int) (hpl : p.length = l.length)
/-- The rest of the law, behind the loop. -/
def K5 : List AItem := [.code (.seq (.region f5x14 false) (.seq (.region f5x15 false) (.seq (.seq (.region f5x16 false) (.cond (.t 89) (.seq (.region f5x17 false) .ret) .skip)) (.seq (.region f5x18 true) .ret))))]
include hl hpl
theorem perm_loopV (cs : List IGP)
    (cont : ∀ (idx : List Nat), p = idx.map nI → idx.Nodup → (∀ i ∈ idx, i < l.length) → ∀ (T : List (Nat × AV)) (H : Heap) (c g m : Nat) (es : List (List AV)), m = idx.length → es = (idx.map fun i => l.getD i default).map PVRoute.enc →
      Ev G ⟨K5, ⟨(0, .sl 22 (l.map PVRoute.enc)) :: (2, .sl 2 (cs.map IGP.enc)) :: (7, .vs 137 g m) :: T, (137, some (g, .vec 22 es)) :: H, c⟩, [.t 6], 0⟩ ⟨.bool true, []⟩) :
    ∀ (rest : List Int) (idx : List Nat) (T : List (Nat × AV)) (H : Heap) (c g m gm : Nat) (k : Int) (es ms : List (List AV)) (e : p = idx.map nI ++ rest) (hk : k = idx.length) (hnd : idx.Nodup) (hlt : ∀ i ∈ idx, i < l.length) (hm : m = idx.length) (hes : es = (idx.map fun i => l.getD i default).map PVRoute.enc) (hms : ms = (metL l.length idx).map metE),
    Ev G ⟨.inLoop f5x13L :: .inBlock 0 :: K5, ⟨(43, .sl 1 (p.map encI)) :: (44, .int .i64 p.length) :: (45, .int .i64 k) :: (0, .sl 22 (l.map PVRoute.enc)) :: (2, .sl 2 (cs.map IGP.enc)) :: (7, .vs 137 g m) :: (8, .vs 106 gm l.length) :: T, (137, some (g, .vec 22 es)) :: (106, some (gm, .vec 1 ms)) :: H, c⟩, [.t 6], 0⟩ ⟨.bool true, []⟩
  | [], idx, T, H, c, g, m, gm, k, es, ms, e, hk, hnd, hlt, hm, hes, hms => by
    have hd : p.length = idx.length := by simp [e]
    refine ev_loop' (W_ok 7 _ _ _ _ ?_)
    repeat (first | refine Exists.intro _ (And.intro (unA_neg_i64 (by omega) (by omega)) ?_) | refine Exists.intro _ (And.intro (binA_quo_i64 (by omega) (by omega) (by omega)) ?_) | refine Exists.intro _ (And.intro (binA_rem_i64 (by omega) (by omega)) ?_) | refine Exists.intro _ (And.intro (binA_sub_i64 (by omega) (by omega)) ?_) | refine Exists.intro _ (And.intro (binA_add_i64 (by omega) (by omega)) ?_) | refine Exists.intro _ (And.intro (conv_i64 (by omega) (by omega)) ?_) | refine Exists.intro _ (And.intro rfl ?_) | refine And.intro rfl ?_ | refine condT ?_ | refine condF ?_ | refine condG1 ?_ | refine condG0 ?_ | refine condDT (by omega) ?_ | refine condDF (by omega) ?_ | refine condBT (by omega) ?_ | refine condBF (by omega) ?_ | refine condNT (by omega) ?_ | refine condNF (by omega) ?_ | refine And.intro (by omega) ?_ | refine And.intro (ble_of (by omega)) ?_ | refine And.intro (room_le (by omega)) ?_ | refine Exists.intro _ (And.intro (by assumption) ?_))
    show Ev G ⟨K5, ⟨_, _, _⟩, _, _⟩ _
    refine ev_keep [0, 2, 7] [137] ?_
    exact cont idx (by simpa using e) hnd hlt _ _ _ g m es hm hes
  | x :: r, idx, T, H, c, g, m, gm, k, es, ms, e, hk, hnd, hlt, hm, hes, hms => by
    have hd : p.length = idx.length + (r.length + 1) := by simp [e]
    have hlm : (l.map PVRoute.enc).length = l.length := by simp
    have hx : (p.map encI)[k.toNat]? = some (encI x) := by simp [e, hk]
    have hesl : es.length = idx.length := by rw [hes]; simp
    by_cases h1 : x < 0
    · refine ev_loop' (W_ok 200 _ _ _ _ ?_)
      repeat (first | refine Exists.intro _ (And.intro (unA_neg_i64 (by omega) (by omega)) ?_) | refine Exists.intro _ (And.intro (binA_quo_i64 (by omega) (by omega) (by omega)) ?_) | refine Exists.intro _ (And.intro (binA_rem_i64 (by omega) (by omega)) ?_) | refine Exists.intro _ (And.intro (binA_sub_i64 (by omega) (by omega)) ?_) | refine Exists.intro _ (And.intro (binA_add_i64 (by omega) (by omega)) ?_) | refine Exists.intro _ (And.intro (conv_i64 (by omega) (by omega)) ?_) | refine Exists.intro _ (And.intro rfl ?_) | refine And.intro rfl ?_ | refine condT ?_ | refine condF ?_ | refine condG1 ?_ | refine condG0 ?_ | refine condDT (by omega) ?_ | refine condDF (by omega) ?_ | refine condBT (by omega) ?_ | refine condBF (by omega) ?_ | refine condNT (by omega) ?_ | refine condNF (by omega) ?_ | refine And.intro (by omega) ?_ | refine And.intro (ble_of (by omega)) ?_ | refine And.intro (room_le (by omega)) ?_ | refine Exists.intro _ (And.intro (by assumption) ?_))
      refine callV (awake_gives) (by simp [pureL, AV.pure]) (by simp [AV.dry, dryL]) ?_
      repeat (first | refine Exists.intro _ (And.intro (unA_neg_i64 (by omega) (by omega)) ?_) | refine Exists.intro _ (And.intro (binA_quo_i64 (by omega) (by omega) (by omega)) ?_) | refine Exists.intro _ (And.intro (binA_rem_i64 (by omega) (by omega)) ?_) | refine Exists.intro _ (And.intro (binA_sub_i64 (by omega) (by omega)) ?_) | refine Exists.intro _ (And.intro (binA_add_i64 (by omega) (by omega)) ?_) | refine Exists.intro _ (And.intro (conv_i64 (by omega) (by omega)) ?_) | refine Exists.intro _ (And.intro rfl ?_) | refine And.intro rfl ?_ | refine condT ?_ | refine condF ?_ | refine condG1 ?_ | refine condG0 ?_ | refine condDT (by omega) ?_ | refine condDF (by omega) ?_ | refine condBT (by omega) ?_ | refine condBF (by omega) ?_ | refine condNT (by omega) ?_ | refine condNF (by omega) ?_ | refine And.intro (by omega) ?_ | refine And.intro (ble_of (by omega)) ?_ | refine And.intro (room_le (by omega)) ?_ | refine Exists.intro _ (And.intro (by assumption) ?_))
      rfl
    · by_cases h2 : x ≥ l.length
      · have h2' : x ≥ ((l.map PVRoute.enc).length : Int) := by omega
        refine ev_loop' (W_ok 200 _ _ _ _ ?_)
        repeat (first | refine Exists.intro _ (And.intro (unA_neg_i64 (by omega) (by omega)) ?_) | refine Exists.intro _ (And.intro (binA_quo_i64 (by omega) (by omega) (by omega)) ?_) | refine Exists.intro _ (And.intro (binA_rem_i64 (by omega) (by omega)) ?_) | refine Exists.intro _ (And.intro (binA_sub_i64 (by omega) (by omega)) ?_) | refine Exists.intro _ (And.intro (binA_add_i64 (by omega) (by omega)) ?_) | refine Exists.intro _ (And.intro (conv_i64 (by omega) (by omega)) ?_) | refine Exists.intro _ (And.intro rfl ?_) | refine And.intro rfl ?_ | refine condT ?_ | refine condF ?_ | refine condG1 ?_ | refine condG0 ?_ | refine condDT (by omega) ?_ | refine condDF (by omega) ?_ | refine condBT (by omega) ?_ | refine condBF (by omega) ?_ | refine condNT (by omega) ?_ | refine condNF (by omega) ?_ | refine And.intro (by omega) ?_ | refine And.intro (ble_of (by omega)) ?_ | refine And.intro (room_le (by omega)) ?_ | refine Exists.intro _ (And.intro (by assumption) ?_))
        refine callV (awake_gives) (by simp [pureL, AV.pure]) (by simp [AV.dry, dryL]) ?_
        repeat (first | refine Exists.intro _ (And.intro (unA_neg_i64 (by omega) (by omega)) ?_) | refine Exists.intro _ (And.intro (binA_quo_i64 (by omega) (by omega) (by omega)) ?_) | refine Exists.intro _ (And.intro (binA_rem_i64 (by omega) (by omega)) ?_) | refine Exists.intro _ (And.intro (binA_sub_i64 (by omega) (by omega)) ?_) | refine Exists.intro _ (And.intro (binA_add_i64 (by omega) (by omega)) ?_) | refine Exists.intro _ (And.intro (conv_i64 (by omega) (by omega)) ?_) | refine Exists.intro _ (And.intro rfl ?_) | refine And.intro rfl ?_ | refine condT ?_ | refine condF ?_ | refine condG1 ?_ | refine condG0 ?_ | refine condDT (by omega) ?_ | refine condDF (by omega) ?_ | refine condBT (by omega) ?_ | refine condBF (by omega) ?_ | refine condNT (by omega) ?_ | refine condNF (by omega) ?_ | refine And.intro (by omega) ?_ | refine And.intro (ble_of (by omega)) ?_ | refine And.intro (room_le (by omega)) ?_ | refine Exists.intro _ (And.intro (by assumption) ?_))
        rfl
      · have h2' : ¬ x ≥ ((l.map PVRoute.enc).length : Int) := by omega
        have hxl : x.toNat < l.length := by omega
        have hmx : ms[x.toNat]? = some (metE (decide (x.toNat ∈ idx))) := by rw [hms]; simp [metL, hxl]
        by_cases h3 : x.toNat ∈ idx
        · rw [decide_eq_true h3] at hmx
          refine ev_loop' (W_ok 200 _ _ _ _ ?_)
          repeat (first | refine Exists.intro _ (And.intro (unA_neg_i64 (by omega) (by omega)) ?_) | refine Exists.intro _ (And.intro (binA_quo_i64 (by omega) (by omega) (by omega)) ?_) | refine Exists.intro _ (And.intro (binA_rem_i64 (by omega) (by omega)) ?_) | refine Exists.intro _ (And.intro (binA_sub_i64 (by omega) (by omega)) ?_) | refine Exists.intro _ (And.intro (binA_add_i64 (by omega) (by omega)) ?_) | refine Exists.intro _ (And.intro (conv_i64 (by omega) (by omega)) ?_) | refine Exists.intro _ (And.intro rfl ?_) | refine And.intro rfl ?_ | refine condT ?_ | refine condF ?_ | refine condG1 ?_ | refine condG0 ?_ | refine condDT (by omega) ?_ | refine condDF (by omega) ?_ | refine condBT (by omega) ?_ | refine condBF (by omega) ?_ | refine condNT (by omega) ?_ | refine condNF (by omega) ?_ | refine And.intro (by omega) ?_ | refine And.intro (ble_of (by omega)) ?_ | refine And.intro (room_le (by omega)) ?_ | refine Exists.intro _ (And.intro (by assumption) ?_))
          refine callV (awake_gives) (by simp [pureL, AV.pure]) (by simp [AV.dry, dryL]) ?_
          repeat (first | refine Exists.intro _ (And.intro (unA_neg_i64 (by omega) (by omega)) ?_) | refine Exists.intro _ (And.intro (binA_quo_i64 (by omega) (by omega) (by omega)) ?_) | refine Exists.intro _ (And.intro (binA_rem_i64 (by omega) (by omega)) ?_) | refine Exists.intro _ (And.intro (binA_sub_i64 (by omega) (by omega)) ?_) | refine Exists.intro _ (And.intro (binA_add_i64 (by omega) (by omega)) ?_) | refine Exists.intro _ (And.intro (conv_i64 (by omega) (by omega)) ?_) | refine Exists.intro _ (And.intro rfl ?_) | refine And.intro rfl ?_ | refine condT ?_ | refine condF ?_ | refine condG1 ?_ | refine condG0 ?_ | refine condDT (by omega) ?_ | refine condDF (by omega) ?_ | refine condBT (by omega) ?_ | refine condBF (by omega) ?_ | refine condNT (by omega) ?_ | refine condNF (by omega) ?_ | refine And.intro (by omega) ?_ | refine And.intro (ble_of (by omega)) ?_ | refine And.intro (room_le (by omega)) ?_ | refine Exists.intro _ (And.intro (by assumption) ?_))
          rfl
        · rw [decide_eq_false h3] at hmx
          obtain ⟨y, hy⟩ : ∃ y, l[x.toNat]? = some y := ⟨l[x.toNat], List.getElem?_eq_getElem hxl⟩
          have hyd : l.getD x.toNat default = y := by rw [List.getD_eq_getElem?_getD, hy]; rfl
          have hye : (l.map PVRoute.enc)[x.toNat]? = some y.enc := by simp [hy]
          have py : pureL [AV.agg y.enc] = true := by simp [pureL, AV.pure]
          have hxc : nI x.toNat = x := by unfold nI; omega
          refine ev_loop' (W_ok 200 _ _ _ _ ?_)
          repeat (first | refine Exists.intro _ (And.intro (unA_neg_i64 (by omega) (by omega)) ?_) | refine Exists.intro _ (And.intro (binA_quo_i64 (by omega) (by omega) (by omega)) ?_) | refine Exists.intro _ (And.intro (binA_rem_i64 (by omega) (by omega)) ?_) | refine Exists.intro _ (And.intro (binA_sub_i64 (by omega) (by omega)) ?_) | refine Exists.intro _ (And.intro (binA_add_i64 (by omega) (by omega)) ?_) | refine Exists.intro _ (And.intro (conv_i64 (by omega) (by omega)) ?_) | refine Exists.intro _ (And.intro rfl ?_) | refine And.intro rfl ?_ | refine condT ?_ | refine condF ?_ | refine condG1 ?_ | refine condG0 ?_ | refine condDT (by omega) ?_ | refine condDF (by omega) ?_ | refine condBT (by omega) ?_ | refine condBF (by omega) ?_ | refine condNT (by omega) ?_ | refine condNF (by omega) ?_ | refine And.intro (by omega) ?_ | refine And.intro (ble_of (by omega)) ?_ | refine And.intro (room_le (by omega)) ?_ | refine Exists.intro _ (And.intro (by assumption) ?_))
          refine And.intro py ?_
          repeat (first | refine Exists.intro _ (And.intro (unA_neg_i64 (by omega) (by omega)) ?_) | refine Exists.intro _ (And.intro (binA_quo_i64 (by omega) (by omega) (by omega)) ?_) | refine Exists.intro _ (And.intro (binA_rem_i64 (by omega) (by omega)) ?_) | refine Exists.intro _ (And.intro (binA_sub_i64 (by omega) (by omega)) ?_) | refine Exists.intro _ (And.intro (binA_add_i64 (by omega) (by omega)) ?_) | refine Exists.intro _ (And.intro (conv_i64 (by omega) (by omega)) ?_) | refine Exists.intro _ (And.intro rfl ?_) | refine And.intro rfl ?_ | refine condT ?_ | refine condF ?_ | refine condG1 ?_ | refine condG0 ?_ | refine condDT (by omega) ?_ | refine condDF (by omega) ?_ | refine condBT (by omega) ?_ | refine condBF (by omega) ?_ | refine condNT (by omega) ?_ | refine condNF (by omega) ?_ | refine And.intro (by omega) ?_ | refine And.intro (ble_of (by omega)) ?_ | refine And.intro (room_le (by omega)) ?_ | refine Exists.intro _ (And.intro (by assumption) ?_))
          refine And.intro (room_le (by show (m + 1) * 209 ≤ _; omega)) ?_
          repeat (first | refine Exists.intro _ (And.intro (unA_neg_i64 (by omega) (by omega)) ?_) | refine Exists.intro _ (And.intro (binA_quo_i64 (by omega) (by omega) (by omega)) ?_) | refine Exists.intro _ (And.intro (binA_rem_i64 (by omega) (by omega)) ?_) | refine Exists.intro _ (And.intro (binA_sub_i64 (by omega) (by omega)) ?_) | refine Exists.intro _ (And.intro (binA_add_i64 (by omega) (by omega)) ?_) | refine Exists.intro _ (And.intro (conv_i64 (by omega) (by omega)) ?_) | refine Exists.intro _ (And.intro rfl ?_) | refine And.intro rfl ?_ | refine condT ?_ | refine condF ?_ | refine condG1 ?_ | refine condG0 ?_ | refine condDT (by omega) ?_ | refine condDF (by omega) ?_ | refine condBT (by omega) ?_ | refine condBF (by omega) ?_ | refine condNT (by omega) ?_ | refine condNF (by omega) ?_ | refine And.intro (by omega) ?_ | refine And.intro (ble_of (by omega)) ?_ | refine And.intro (room_le (by omega)) ?_ | refine Exists.intro _ (And.intro (by assumption) ?_))
          refine ev_keep [43, 44, 45, 0, 2, 7, 8] [137, 106] ?_
          refine perm_loopV cs cont r (idx ++ [x.toNat]) _ _ _ _ _ _ (k + 1) _ _ (by simp [e, hxc]) (by simp [hk]) ?_ ?_ ?_ ?_ ?_
          · rw [List.nodup_append]
            exact ⟨hnd, by simp, by intro a ha b hb; simp at hb; subst hb; intro q; subst q; exact h3 ha⟩
          · intro i hi
            rcases List.mem_append.1 hi with q | q
            · exact hlt i q
            · simp at q; omega
          · rw [hm]; simp [repl]
          · rw [hm, ← hesl, List.take_length, hes]; simp [repl, hy]; rfl
          · rw [hms]
            refine List.ext_getElem? fun j => ?_
            by_cases hj : j = x.toNat
            · subst hj
              simp [splice, metE, metL, hxl]
            · rw [List.getElem?_set_ne (Ne.symm hj)]
              by_cases hjl : j < l.length
              · simp [metL, hjl, hj]
              · simp [metL, hjl]
theorem perm_first (cs : List IGP)
    (cont : ∀ (idx : List Nat), p = idx.map nI → idx.Nodup → (∀ i ∈ idx, i < l.length) → ∀ (T : List (Nat × AV)) (H : Heap) (c g m : Nat) (es : List (List AV)), m = idx.length → es = (idx.map fun i => l.getD i default).map PVRoute.enc →
      Ev G ⟨K5, ⟨(0, .sl 22 (l.map PVRoute.enc)) :: (2, .sl 2 (cs.map IGP.enc)) :: (7, .vs 137 g m) :: T, (137, some (g, .vec 22 es)) :: H, c⟩, [.t 6], 0⟩ ⟨.bool true, []⟩)
    (cont0 : p = [] → ∀ (T : List (Nat × AV)) (H : Heap) (c : Nat), Ev G ⟨K5, ⟨(0, .sl 22 (l.map PVRoute.enc)) :: (2, .sl 2 (cs.map IGP.enc)) :: (7, .con (.slice none 0 0)) :: T, H, c⟩, [.t 6], 0⟩ ⟨.bool true, []⟩)
    (T : List (Nat × AV)) (H : Heap) (c gm : Nat) (ms : List (List AV)) (hms : ms = (metL l.length []).map metE) :
    Ev G ⟨.inLoop f5x13L :: .inBlock 0 :: K5, ⟨(43, .sl 1 (p.map encI)) :: (44, .int .i64 p.length) :: (45, .int .i64 0) :: (0, .sl 22 (l.map PVRoute.enc)) :: (2, .sl 2 (cs.map IGP.enc)) :: (7, .con (.slice none 0 0)) :: (8, .vs 106 gm l.length) :: T, (106, some (gm, .vec 1 ms)) :: H, c⟩, [.t 6], 0⟩ ⟨.bool true, []⟩ := by
  have key := perm_loopV l hl p hpl cs cont
  have hlm : (l.map PVRoute.enc).length = l.length := by simp
  cases p with
  | nil =>
    refine ev_loop' (W_ok 7 _ _ _ _ ?_)
    repeat (first | refine Exists.intro _ (And.intro (unA_neg_i64 (by omega) (by omega)) ?_) | refine Exists.intro _ (And.intro (binA_quo_i64 (by omega) (by omega) (by omega)) ?_) | refine Exists.intro _ (And.intro (binA_rem_i64 (by omega) (by omega)) ?_) | refine Exists.intro _ (And.intro (binA_sub_i64 (by omega) (by omega)) ?_) | refine Exists.intro _ (And.intro (binA_add_i64 (by omega) (by omega)) ?_) | refine Exists.intro _ (And.intro (conv_i64 (by omega) (by omega)) ?_) | refine Exists.intro _ (And.intro rfl ?_) | refine And.intro rfl ?_ | refine condT ?_ | refine condF ?_ | refine condG1 ?_ | refine condG0 ?_ | refine condDT (by omega) ?_ | refine condDF (by omega) ?_ | refine condBT (by omega) ?_ | refine condBF (by omega) ?_ | refine condNT (by omega) ?_ | refine condNF (by omega) ?_ | refine And.intro (by omega) ?_ | refine And.intro (ble_of (by omega)) ?_ | refine And.intro (room_le (by omega)) ?_ | refine Exists.intro _ (And.intro (by assumption) ?_))
    show Ev G ⟨K5, ⟨_, _, _⟩, _, _⟩ _
    refine ev_keep [0, 2, 7] [] ?_
    exact cont0 rfl _ _ _
  | cons x r =>
    have hd : ((x :: r).length : Int) = r.length + 1 := by simp
    have hx : ((x :: r).map encI)[((0 : Int)).toNat]? = some (encI x) := rfl
    by_cases h1 : x < 0
    · refine ev_loop' (W_ok 200 _ _ _ _ ?_)
      repeat (first | refine Exists.intro _ (And.intro (unA_neg_i64 (by omega) (by omega)) ?_) | refine Exists.intro _ (And.intro (binA_quo_i64 (by omega) (by omega) (by omega)) ?_) | refine Exists.intro _ (And.intro (binA_rem_i64 (by omega) (by omega)) ?_) | refine Exists.intro _ (And.intro (binA_sub_i64 (by omega) (by omega)) ?_) | refine Exists.intro _ (And.intro (binA_add_i64 (by omega) (by omega)) ?_) | refine Exists.intro _ (And.intro (conv_i64 (by omega) (by omega)) ?_) | refine Exists.intro _ (And.intro rfl ?_) | refine And.intro rfl ?_ | refine condT ?_ | refine condF ?_ | refine condG1 ?_ | refine condG0 ?_ | refine condDT (by omega) ?_ | refine condDF (by omega) ?_ | refine condBT (by omega) ?_ | refine condBF (by omega) ?_ | refine condNT (by omega) ?_ | refine condNF (by omega) ?_ | refine And.intro (by omega) ?_ | refine And.intro (ble_of (by omega)) ?_ | refine And.intro (room_le (by omega)) ?_ | refine Exists.intro _ (And.intro (by assumption) ?_))
      refine callV (awake_gives) (by simp [pureL, AV.pure]) (by simp [AV.dry, dryL]) ?_
      repeat (first | refine Exists.intro _ (And.intro (unA_neg_i64 (by omega) (by omega)) ?_) | refine Exists.intro _ (And.intro (binA_quo_i64 (by omega) (by omega) (by omega)) ?_) | refine Exists.intro _ (And.intro (binA_rem_i64 (by omega) (by omega)) ?_) | refine Exists.intro _ (And.intro (binA_sub_i64 (by omega) (by omega)) ?_) | refine Exists.intro _ (And.intro (binA_add_i64 (by omega) (by omega)) ?_) | refine Exists.intro _ (And.intro (conv_i64 (by omega) (by omega)) ?_) | refine Exists.intro _ (And.intro rfl ?_) | refine And.intro rfl ?_ | refine condT ?_ | refine condF ?_ | refine condG1 ?_ | refine condG0 ?_ | refine condDT (by omega) ?_ | refine condDF (by omega) ?_ | refine condBT (by omega) ?_ | refine condBF (by omega) ?_ | refine condNT (by omega) ?_ | refine condNF (by omega) ?_ | refine And.intro (by omega) ?_ | refine And.intro (ble_of (by omega)) ?_ | refine And.intro (room_le (by omega)) ?_ | refine Exists.intro _ (And.intro (by assumption) ?_))
      rfl
    · by_cases h2 : x ≥ l.length
      · have h2' : x ≥ ((l.map PVRoute.enc).length : Int) := by omega
        refine ev_loop' (W_ok 200 _ _ _ _ ?_)
        repeat (first | refine Exists.intro _ (And.intro (unA_neg_i64 (by omega) (by omega)) ?_) | refine Exists.intro _ (And.intro (binA_quo_i64 (by omega) (by omega) (by omega)) ?_) | refine Exists.intro _ (And.intro (binA_rem_i64 (by omega) (by omega)) ?_) | refine Exists.intro _ (And.intro (binA_sub_i64 (by omega) (by omega)) ?_) | refine Exists.intro _ (And.intro (binA_add_i64 (by omega) (by omega)) ?_) | refine Exists.intro _ (And.intro (conv_i64 (by omega) (by omega)) ?_) | refine Exists.intro _ (And.intro rfl ?_) | refine And.intro rfl ?_ | refine condT ?_ | refine condF ?_ | refine condG1 ?_ | refine condG0 ?_ | refine condDT (by omega) ?_ | refine condDF (by omega) ?_ | refine condBT (by omega) ?_ | refine condBF (by omega) ?_ | refine condNT (by omega) ?_ | refine condNF (by omega) ?_ | refine And.intro (by omega) ?_ | refine And.intro (ble_of (by omega)) ?_ | refine And.intro (room_le (by omega)) ?_ | refine Exists.intro _ (And.intro (by assumption) ?_))
        refine callV (awake_gives) (by simp [pureL, AV.pure]) (by simp [AV.dry, dryL]) ?_
        repeat (first | refine Exists.intro _ (And.intro (unA_neg_i64 (by omega) (by omega)) ?_) | refine Exists.intro _ (And.intro (binA_quo_i64 (by omega) (by omega) (by omega)) ?_) | refine Exists.intro _ (And.intro (binA_rem_i64 (by omega) (by omega)) ?_) | refine Exists.intro _ (And.intro (binA_sub_i64 (by omega) (by omega)) ?_) | refine Exists.intro _ (And.intro (binA_add_i64 (by omega) (by omega)) ?_) | refine Exists.intro _ (And.intro (conv_i64 (by omega) (by omega)) ?_) | refine Exists.intro _ (And.intro rfl ?_) | refine And.intro rfl ?_ | refine condT ?_ | refine condF ?_ | refine condG1 ?_ | refine condG0 ?_ | refine condDT (by omega) ?_ | refine condDF (by omega) ?_ | refine condBT (by omega) ?_ | refine condBF (by omega) ?_ | refine condNT (by omega) ?_ | refine condNF (by omega) ?_ | refine And.intro (by omega) ?_ | refine And.intro (ble_of (by omega)) ?_ | refine And.intro (room_le (by omega)) ?_ | refine Exists.intro _ (And.intro (by assumption) ?_))
        rfl
      · have h2' : ¬ x ≥ ((l.map PVRoute.enc).length : Int) := by omega
        have hxl : x.toNat < l.length := by omega
        have hmx : ms[x.toNat]? = some (metE false) := by rw [hms]; simp [metL, hxl]
        obtain ⟨y, hy⟩ : ∃ y, l[x.toNat]? = some y := ⟨l[x.toNat], List.getElem?_eq_getElem hxl⟩
        have hye : (l.map PVRoute.enc)[x.toNat]? = some y.enc := by simp [hy]
        have py : pureL [AV.agg y.enc] = true := by simp [pureL, AV.pure]
        have hxc : nI x.toNat = x := by unfold nI; omega
        refine ev_loop' (W_ok 200 _ _ _ _ ?_)
        repeat (first | refine Exists.intro _ (And.intro (unA_neg_i64 (by omega) (by omega)) ?_) | refine Exists.intro _ (And.intro (binA_quo_i64 (by omega) (by omega) (by omega)) ?_) | refine Exists.intro _ (And.intro (binA_rem_i64 (by omega) (by omega)) ?_) | refine Exists.intro _ (And.intro (binA_sub_i64 (by omega) (by omega)) ?_) | refine Exists.intro _ (And.intro (binA_add_i64 (by omega) (by omega)) ?_) | refine Exists.intro _ (And.intro (conv_i64 (by omega) (by omega)) ?_) | refine Exists.intro _ (And.intro rfl ?_) | refine And.intro rfl ?_ | refine condT ?_ | refine condF ?_ | refine condG1 ?_ | refine condG0 ?_ | refine condDT (by omega) ?_ | refine condDF (by omega) ?_ | refine condBT (by omega) ?_ | refine condBF (by omega) ?_ | refine condNT (by omega) ?_ | refine condNF (by omega) ?_ | refine And.intro (by omega) ?_ | refine And.intro (ble_of (by omega)) ?_ | refine And.intro (room_le (by omega)) ?_ | refine Exists.intro _ (And.intro (by assumption) ?_))
        refine And.intro py ?_
        repeat (first | refine Exists.intro _ (And.intro (unA_neg_i64 (by omega) (by omega)) ?_) | refine Exists.intro _ (And.intro (binA_quo_i64 (by omega) (by omega) (by omega)) ?_) | refine Exists.intro _ (And.intro (binA_rem_i64 (by omega) (by omega)) ?_) | refine Exists.intro _ (And.intro (binA_sub_i64 (by omega) (by omega)) ?_) | refine Exists.intro _ (And.intro (binA_add_i64 (by omega) (by omega)) ?_) | refine Exists.intro _ (And.intro (conv_i64 (by omega) (by omega)) ?_) | refine Exists.intro _ (And.intro rfl ?_) | refine And.intro rfl ?_ | refine condT ?_ | refine condF ?_ | refine condG1 ?_ | refine condG0 ?_ | refine condDT (by omega) ?_ | refine condDF (by omega) ?_ | refine condBT (by omega) ?_ | refine condBF (by omega) ?_ | refine condNT (by omega) ?_ | refine condNF (by omega) ?_ | refine And.intro (by omega) ?_ | refine And.intro (ble_of (by omega)) ?_ | refine And.intro (room_le (by omega)) ?_ | refine Exists.intro _ (And.intro (by assumption) ?_))
        refine ev_keep [43, 44, 45, 0, 2, 7, 8] [137, 106] ?_
        refine key r [x.toNat] _ _ _ _ _ _ 1 _ _ (by simp [hxc]) rfl (by simp) (by simp; omega) ?_ ?_ ?_
        · simp [repl]
        · simp [repl, hy]; rfl
        · rw [hms]
          refine List.ext_getElem? fun j => ?_
          by_cases hj : j = x.toNat
          · subst hj
            simp [splice, metE, metL, hxl]
          · rw [List.getElem?_set_ne (Ne.symm hj)]
            by_cases hjl : j < l.length
            · simp [metL, hjl, hj]
            · simp [metL, hjl]
end
section
variable (l : List PVRoute) (hl : l.length < 2 ^ 30) (hfit : ∀ r ∈ l, Fit r) (hn : (l.map (·.peer)).Nodup) (cs : List IGP) (hcs : cs.length < 2 ^ 40)
include hl hfit hn hcs
theorem law5_end (idx : List Nat) (hnd : idx.Nodup) (hlt : ∀ i ∈ idx, i < l.length) (hlen : idx.length = l.length) (T : List (Nat × AV)) (H : Heap) (c g m : Nat) (es : List (List AV)) (hm : m = idx.length) (hes : es = (idx.map fun i => l.getD i default).map PVRoute.enc) :
    Ev G ⟨K5, ⟨(0, .sl 22 (l.map PVRoute.enc)) :: (2, .sl 2 (cs.map IGP.enc)) :: (7, .vs 137 g m) :: T, (137, some (g, .vec 22 es)) :: H, c⟩, [.t 6], 0⟩ ⟨.bool true, []⟩ := by
  have hol := order_law l cs hn idx hnd hlt hlen
  have hfo : ∀ r ∈ idx.map (fun i => l.getD i default), Fit r := fun r hr => by
    obtain ⟨i, hi, rfl⟩ := List.mem_map.1 hr
    have := hlt i hi
    rw [List.getD_eq_getElem?_getD, List.getElem?_eq_getElem this]
    exact hfit _ (List.getElem_mem _)
  have e1 := best_gives14 l (by omega) hfit cs hcs
  have e2 := best_gives14 (idx.map fun i => l.getD i default) (by simp; omega) hfo cs hcs
  have hol2 : (idx.map fun i => l.getD i default).length = idx.length := by simp
  have hoth : ∀ b, b < idx.length → (idx.map fun i => l.getD i default)[b]? = some ((idx.map fun i => l.getD i default).getD b default) := fun b hb => by
    rw [List.getD_eq_getElem?_getD, List.getElem?_eq_getElem (by simpa using hb)]; rfl
  generalize (idx.map fun i => l.getD i default) = oth at *
  have pl : pureL [AV.sl 22 (l.map PVRoute.enc), AV.sl 2 (cs.map IGP.enc)] = true := by simp [pureL, AV.pure]
  have pes : (Blk.vec 22 es).pure = true := by rw [hes]; exact pure_routes _
  have hesl : es.length = m := by rw [hes, hm]; simpa using hol2
  have hk : keysL true [AV.vs 137 g m, AV.sl 2 (cs.map IGP.enc)] = [137] := by
    simp only [keysL, AV.keys_pure true (AV.sl 2 (cs.map IGP.enc)) (by simp [AV.pure])]; rfl
  have hk0 : keysL false [AV.vs 137 g m, AV.sl 2 (cs.map IGP.enc)] = [] := by
    simp only [keysL, AV.keys_pure false (AV.sl 2 (cs.map IGP.enc)) (by simp [AV.pure])]; rfl
  have hren : renL (φF [(137, g, .vec 22 es)]) [AV.vs 137 g m, AV.sl 2 (cs.map IGP.enc)] = [.sl 22 (oth.map PVRoute.enc), .sl 2 (cs.map IGP.enc)] := by
    have := AV.ren_pure (φF [(137, g, .vec 22 es)]) (AV.sl 2 (cs.map IGP.enc)) (by simp [AV.pure])
    simp only [renL, this]
    simp [AV.ren, φF, ← hesl, hes]
    exact List.take_of_length_le (by simp)
  rcases hol with ⟨h1, h2⟩ | ⟨a, b, h1, h2, ha, hb, hp⟩
  · rw [h1] at e1
    rw [h2] at e2
    refine W_ok 200 _ _ _ _ ?_
    repeat (first | refine Exists.intro _ (And.intro (unA_neg_i64 (by omega) (by omega)) ?_) | refine Exists.intro _ (And.intro (binA_quo_i64 (by omega) (by omega) (by omega)) ?_) | refine Exists.intro _ (And.intro (binA_rem_i64 (by omega) (by omega)) ?_) | refine Exists.intro _ (And.intro (binA_sub_i64 (by omega) (by omega)) ?_) | refine Exists.intro _ (And.intro (binA_add_i64 (by omega) (by omega)) ?_) | refine Exists.intro _ (And.intro (conv_i64 (by omega) (by omega)) ?_) | refine Exists.intro _ (And.intro rfl ?_) | refine And.intro rfl ?_ | refine condT ?_ | refine condF ?_ | refine condG1 ?_ | refine condG0 ?_ | refine condDT (by omega) ?_ | refine condDF (by omega) ?_ | refine condBT (by omega) ?_ | refine condBF (by omega) ?_ | refine condNT (by omega) ?_ | refine condNF (by omega) ?_ | refine And.intro (by omega) ?_ | refine And.intro (ble_of (by omega)) ?_ | refine And.intro (room_le (by omega)) ?_ | refine Exists.intro _ (And.intro (by assumption) ?_))
    refine callV e1 pl rfl ?_
    repeat (first | refine Exists.intro _ (And.intro (unA_neg_i64 (by omega) (by omega)) ?_) | refine Exists.intro _ (And.intro (binA_quo_i64 (by omega) (by omega) (by omega)) ?_) | refine Exists.intro _ (And.intro (binA_rem_i64 (by omega) (by omega)) ?_) | refine Exists.intro _ (And.intro (binA_sub_i64 (by omega) (by omega)) ?_) | refine Exists.intro _ (And.intro (binA_add_i64 (by omega) (by omega)) ?_) | refine Exists.intro _ (And.intro (conv_i64 (by omega) (by omega)) ?_) | refine Exists.intro _ (And.intro rfl ?_) | refine And.intro rfl ?_ | refine condT ?_ | refine condF ?_ | refine condG1 ?_ | refine condG0 ?_ | refine condDT (by omega) ?_ | refine condDF (by omega) ?_ | refine condBT (by omega) ?_ | refine condBF (by omega) ?_ | refine condNT (by omega) ?_ | refine condNF (by omega) ?_ | refine And.intro (by omega) ?_ | refine And.intro (ble_of (by omega)) ?_ | refine And.intro (room_le (by omega)) ?_ | refine Exists.intro _ (And.intro (by assumption) ?_))
    refine callF [(137, _, .vec 22 es)] ⟨rfl, pes, trivial⟩ hk (by simp) hk0 hren e2 rfl ?_
    repeat (first | refine Exists.intro _ (And.intro (unA_neg_i64 (by omega) (by omega)) ?_) | refine Exists.intro _ (And.intro (binA_quo_i64 (by omega) (by omega) (by omega)) ?_) | refine Exists.intro _ (And.intro (binA_rem_i64 (by omega) (by omega)) ?_) | refine Exists.intro _ (And.intro (binA_sub_i64 (by omega) (by omega)) ?_) | refine Exists.intro _ (And.intro (binA_add_i64 (by omega) (by omega)) ?_) | refine Exists.intro _ (And.intro (conv_i64 (by omega) (by omega)) ?_) | refine Exists.intro _ (And.intro rfl ?_) | refine And.intro rfl ?_ | refine condT ?_ | refine condF ?_ | refine condG1 ?_ | refine condG0 ?_ | refine condDT (by omega) ?_ | refine condDF (by omega) ?_ | refine condBT (by omega) ?_ | refine condBF (by omega) ?_ | refine condNT (by omega) ?_ | refine condNF (by omega) ?_ | refine And.intro (by omega) ?_ | refine And.intro (ble_of (by omega)) ?_ | refine And.intro (room_le (by omega)) ?_ | refine Exists.intro _ (And.intro (by assumption) ?_))
    refine callV (awake_gives) (by simp [pureL, AV.pure]) (by simp [AV.dry, dryL]) ?_
    repeat (first | refine Exists.intro _ (And.intro (unA_neg_i64 (by omega) (by omega)) ?_) | refine Exists.intro _ (And.intro (binA_quo_i64 (by omega) (by omega) (by omega)) ?_) | refine Exists.intro _ (And.intro (binA_rem_i64 (by omega) (by omega)) ?_) | refine Exists.intro _ (And.intro (binA_sub_i64 (by omega) (by omega)) ?_) | refine Exists.intro _ (And.intro (binA_add_i64 (by omega) (by omega)) ?_) | refine Exists.intro _ (And.intro (conv_i64 (by omega) (by omega)) ?_) | refine Exists.intro _ (And.intro rfl ?_) | refine And.intro rfl ?_ | refine condT ?_ | refine condF ?_ | refine condG1 ?_ | refine condG0 ?_ | refine condDT (by omega) ?_ | refine condDF (by omega) ?_ | refine condBT (by omega) ?_ | refine condBF (by omega) ?_ | refine condNT (by omega) ?_ | refine condNF (by omega) ?_ | refine And.intro (by omega) ?_ | refine And.intro (ble_of (by omega)) ?_ | refine And.intro (room_le (by omega)) ?_ | refine Exists.intro _ (And.intro (by assumption) ?_))
    rfl
  · rw [h1] at e1
    rw [h2] at e2
    have hya : l[a]? = some (l.getD a default) := by rw [List.getD_eq_getElem?_getD, List.getElem?_eq_getElem ha]; rfl
    have hzb := hoth b hb
    generalize l.getD a default = y at *
    generalize oth.getD b default = z at *
    have hye : (l.map PVRoute.enc)[((a : Int)).toNat]? = some y.enc := by simp [hya]
    have hze : es[((b : Int)).toNat]? = some z.enc := by rw [hes]; simp [hzb]
    refine W_ok 200 _ _ _ _ ?_
    repeat (first | refine Exists.intro _ (And.intro (unA_neg_i64 (by omega) (by omega)) ?_) | refine Exists.intro _ (And.intro (binA_quo_i64 (by omega) (by omega) (by omega)) ?_) | refine Exists.intro _ (And.intro (binA_rem_i64 (by omega) (by omega)) ?_) | refine Exists.intro _ (And.intro (binA_sub_i64 (by omega) (by omega)) ?_) | refine Exists.intro _ (And.intro (binA_add_i64 (by omega) (by omega)) ?_) | refine Exists.intro _ (And.intro (conv_i64 (by omega) (by omega)) ?_) | refine Exists.intro _ (And.intro rfl ?_) | refine And.intro rfl ?_ | refine condT ?_ | refine condF ?_ | refine condG1 ?_ | refine condG0 ?_ | refine condDT (by omega) ?_ | refine condDF (by omega) ?_ | refine condBT (by omega) ?_ | refine condBF (by omega) ?_ | refine condNT (by omega) ?_ | refine condNF (by omega) ?_ | refine And.intro (by omega) ?_ | refine And.intro (ble_of (by omega)) ?_ | refine And.intro (room_le (by omega)) ?_ | refine Exists.intro _ (And.intro (by assumption) ?_))
    refine callV e1 pl rfl ?_
    repeat (first | refine Exists.intro _ (And.intro (unA_neg_i64 (by omega) (by omega)) ?_) | refine Exists.intro _ (And.intro (binA_quo_i64 (by omega) (by omega) (by omega)) ?_) | refine Exists.intro _ (And.intro (binA_rem_i64 (by omega) (by omega)) ?_) | refine Exists.intro _ (And.intro (binA_sub_i64 (by omega) (by omega)) ?_) | refine Exists.intro _ (And.intro (binA_add_i64 (by omega) (by omega)) ?_) | refine Exists.intro _ (And.intro (conv_i64 (by omega) (by omega)) ?_) | refine Exists.intro _ (And.intro rfl ?_) | refine And.intro rfl ?_ | refine condT ?_ | refine condF ?_ | refine condG1 ?_ | refine condG0 ?_ | refine condDT (by omega) ?_ | refine condDF (by omega) ?_ | refine condBT (by omega) ?_ | refine condBF (by omega) ?_ | refine condNT (by omega) ?_ | refine condNF (by omega) ?_ | refine And.intro (by omega) ?_ | refine And.intro (ble_of (by omega)) ?_ | refine And.intro (room_le (by omega)) ?_ | refine Exists.intro _ (And.intro (by assumption) ?_))
    refine callF [(137, _, .vec 22 es)] ⟨rfl, pes, trivial⟩ hk (by simp) hk0 hren e2 rfl ?_
    repeat (first | refine Exists.intro _ (And.intro (unA_neg_i64 (by omega) (by omega)) ?_) | refine Exists.intro _ (And.intro (binA_quo_i64 (by omega) (by omega) (by omega)) ?_) | refine Exists.intro _ (And.intro (binA_rem_i64 (by omega) (by omega)) ?_) | refine Exists.intro _ (And.intro (binA_sub_i64 (by omega) (by omega)) ?_) | refine Exists.intro _ (And.intro (binA_add_i64 (by omega) (by omega)) ?_) | refine Exists.intro _ (And.intro (conv_i64 (by omega) (by omega)) ?_) | refine Exists.intro _ (And.intro rfl ?_) | refine And.intro rfl ?_ | refine condT ?_ | refine condF ?_ | refine condG1 ?_ | refine condG0 ?_ | refine condDT (by omega) ?_ | refine condDF (by omega) ?_ | refine condBT (by omega) ?_ | refine condBF (by omega) ?_ | refine condNT (by omega) ?_ | refine condNF (by omega) ?_ | refine And.intro (by omega) ?_ | refine And.intro (ble_of (by omega)) ?_ | refine And.intro (room_le (by omega)) ?_ | refine Exists.intro _ (And.intro (by assumption) ?_))
    refine callV (awake_gives) (by simp [pureL, AV.pure]) (by simp [AV.dry, dryL]) ?_
    repeat (first | refine Exists.intro _ (And.intro (unA_neg_i64 (by omega) (by omega)) ?_) | refine Exists.intro _ (And.intro (binA_quo_i64 (by omega) (by omega) (by omega)) ?_) | refine Exists.intro _ (And.intro (binA_rem_i64 (by omega) (by omega)) ?_) | refine Exists.intro _ (And.intro (binA_sub_i64 (by omega) (by omega)) ?_) | refine Exists.intro _ (And.intro (binA_add_i64 (by omega) (by omega)) ?_) | refine Exists.intro _ (And.intro (conv_i64 (by omega) (by omega)) ?_) | refine Exists.intro _ (And.intro rfl ?_) | refine And.intro rfl ?_ | refine condT ?_ | refine condF ?_ | refine condG1 ?_ | refine condG0 ?_ | refine condDT (by omega) ?_ | refine condDF (by omega) ?_ | refine condBT (by omega) ?_ | refine condBF (by omega) ?_ | refine condNT (by omega) ?_ | refine condNF (by omega) ?_ | refine And.intro (by omega) ?_ | refine And.intro (ble_of (by omega)) ?_ | refine And.intro (room_le (by omega)) ?_ | refine Exists.intro _ (And.intro (by assumption) ?_))
    rfl
theorem law5_endN (h0 : l = []) (T : List (Nat × AV)) (H : Heap) (c : Nat) :
    Ev G ⟨K5, ⟨(0, .sl 22 (l.map PVRoute.enc)) :: (2, .sl 2 (cs.map IGP.enc)) :: (7, .con (.slice none 0 0)) :: T, H, c⟩, [.t 6], 0⟩ ⟨.bool true, []⟩ := by
  have e1 := best_gives14 l (by omega) hfit cs hcs
  have e2 := best_nil14 cs
  have hb : bestS l cs = none := by rw [h0]; rfl
  rw [hb] at e1
  have pl : pureL [AV.sl 22 (l.map PVRoute.enc), AV.sl 2 (cs.map IGP.enc)] = true := by simp [pureL, AV.pure]
  have pl2 : pureL [AV.con (.slice none 0 0), AV.sl 2 (cs.map IGP.enc)] = true := by simp [pureL, AV.pure]
  refine W_ok 200 _ _ _ _ ?_
  repeat (first | refine Exists.intro _ (And.intro (unA_neg_i64 (by omega) (by omega)) ?_) | refine Exists.intro _ (And.intro (binA_quo_i64 (by omega) (by omega) (by omega)) ?_) | refine Exists.intro _ (And.intro (binA_rem_i64 (by omega) (by omega)) ?_) | refine Exists.intro _ (And.intro (binA_sub_i64 (by omega) (by omega)) ?_) | refine Exists.intro _ (And.intro (binA_add_i64 (by omega) (by omega)) ?_) | refine Exists.intro _ (And.intro (conv_i64 (by omega) (by omega)) ?_) | refine Exists.intro _ (And.intro rfl ?_) | refine And.intro rfl ?_ | refine condT ?_ | refine condF ?_ | refine condG1 ?_ | refine condG0 ?_ | refine condDT (by omega) ?_ | refine condDF (by omega) ?_ | refine condBT (by omega) ?_ | refine condBF (by omega) ?_ | refine condNT (by omega) ?_ | refine condNF (by omega) ?_ | refine And.intro (by omega) ?_ | refine And.intro (ble_of (by omega)) ?_ | refine And.intro (room_le (by omega)) ?_ | refine Exists.intro _ (And.intro (by assumption) ?_))
  refine callV e1 pl rfl ?_
  repeat (first | refine Exists.intro _ (And.intro (unA_neg_i64 (by omega) (by omega)) ?_) | refine Exists.intro _ (And.intro (binA_quo_i64 (by omega) (by omega) (by omega)) ?_) | refine Exists.intro _ (And.intro (binA_rem_i64 (by omega) (by omega)) ?_) | refine Exists.intro _ (And.intro (binA_sub_i64 (by omega) (by omega)) ?_) | refine Exists.intro _ (And.intro (binA_add_i64 (by omega) (by omega)) ?_) | refine Exists.intro _ (And.intro (conv_i64 (by omega) (by omega)) ?_) | refine Exists.intro _ (And.intro rfl ?_) | refine And.intro rfl ?_ | refine condT ?_ | refine condF ?_ | refine condG1 ?_ | refine condG0 ?_ | refine condDT (by omega) ?_ | refine condDF (by omega) ?_ | refine condBT (by omega) ?_ | refine condBF (by omega) ?_ | refine condNT (by omega) ?_ | refine condNF (by omega) ?_ | refine And.intro (by omega) ?_ | refine And.intro (ble_of (by omega)) ?_ | refine And.intro (room_le (by omega)) ?_ | refine Exists.intro _ (And.intro (by assumption) ?_))
  refine callV e2 pl2 rfl ?_
  repeat (first | refine Exists.intro _ (And.intro (unA_neg_i64 (by omega) (by omega)) ?_) | refine Exists.intro _ (And.intro (binA_quo_i64 (by omega) (by omega) (by omega)) ?_) | refine Exists.intro _ (And.intro (binA_rem_i64 (by omega) (by omega)) ?_) | refine Exists.intro _ (And.intro (binA_sub_i64 (by omega) (by omega)) ?_) | refine Exists.intro _ (And.intro (binA_add_i64 (by omega) (by omega)) ?_) | refine Exists.intro _ (And.intro (conv_i64 (by omega) (by omega)) ?_) | refine Exists.intro _ (And.intro rfl ?_) | refine And.intro rfl ?_ | refine condT ?_ | refine condF ?_ | refine condG1 ?_ | refine condG0 ?_ | refine condDT (by omega) ?_ | refine condDF (by omega) ?_ | refine condBT (by omega) ?_ | refine condBF (by omega) ?_ | refine condNT (by omega) ?_ | refine condNF (by omega) ?_ | refine And.intro (by omega) ?_ | refine And.intro (ble_of (by omega)) ?_ | refine And.intro (room_le (by omega)) ?_ | refine Exists.intro _ (And.intro (by assumption) ?_))
  refine callV (awake_gives) (by simp [pureL, AV.pure]) (by simp [AV.dry, dryL]) ?_
  repeat (first | refine Exists.intro _ (And.intro (unA_neg_i64 (by omega) (by omega)) ?_) | refine Exists.intro _ (And.intro (binA_quo_i64 (by omega) (by omega) (by omega)) ?_) | refine Exists.intro _ (And.intro (binA_rem_i64 (by omega) (by omega)) ?_) | refine Exists.intro _ (And.intro (binA_sub_i64 (by omega) (by omega)) ?_) | refine Exists.intro _ (And.intro (binA_add_i64 (by omega) (by omega)) ?_) | refine Exists.intro _ (And.intro (conv_i64 (by omega) (by omega)) ?_) | refine Exists.intro _ (And.intro rfl ?_) | refine And.intro rfl ?_ | refine condT ?_ | refine condF ?_ | refine condG1 ?_ | refine condG0 ?_ | refine condDT (by omega) ?_ | refine condDF (by omega) ?_ | refine condBT (by omega) ?_ | refine condBF (by omega) ?_ | refine condNT (by omega) ?_ | refine condNF (by omega) ?_ | refine And.intro (by omega) ?_ | refine And.intro (ble_of (by omega)) ?_ | refine And.intro (room_le (by omega)) ?_ | refine Exists.intro _ (And.intro (by assumption) ?_))
  rfl
end
section
variable (l : List PVRoute) (hl : l.length < 2 ^ 30) (hfit : ∀ r ∈ l, Fit r) (cs : List IGP) (hcs : cs.length < 2 ^ 40)
include hl hfit hcs
theorem law5_gives (p : List Int) : Gives G 5 [.sl 22 (l.map PVRoute.enc), .sl 1 (p.map encI), .sl 2 (cs.map IGP.enc)] [] ⟨.bool true, []⟩ := by
  have e0 := large_gives11 l (by omega) (fun r hr => (hfit r hr).ab)
  have ed := dist_gives18 l (by omega)
  have hlm : (l.map PVRoute.enc).length = l.length := by simp
  have hcm : (cs.map IGP.enc).length = cs.length := by simp
  have hpm : (p.map encI).length = p.length := by simp
  generalize largeS l = L at *
  cases L with
  | true =>
    refine gives_code (F := f5) rfl rfl (W_ok 100 _ _ _ _ ?_)
    repeat (first | refine Exists.intro _ (And.intro (unA_neg_i64 (by omega) (by omega)) ?_) | refine Exists.intro _ (And.intro (binA_quo_i64 (by omega) (by omega) (by omega)) ?_) | refine Exists.intro _ (And.intro (binA_rem_i64 (by omega) (by omega)) ?_) | refine Exists.intro _ (And.intro (binA_sub_i64 (by omega) (by omega)) ?_) | refine Exists.intro _ (And.intro (binA_add_i64 (by omega) (by omega)) ?_) | refine Exists.intro _ (And.intro (conv_i64 (by omega) (by omega)) ?_) | refine Exists.intro _ (And.intro rfl ?_) | refine And.intro rfl ?_ | refine condT ?_ | refine condF ?_ | refine condG1 ?_ | refine condG0 ?_ | refine condDT (by omega) ?_ | refine condDF (by omega) ?_ | refine condBT (by omega) ?_ | refine condBF (by omega) ?_ | refine condNT (by omega) ?_ | refine condNF (by omega) ?_ | refine And.intro (by omega) ?_ | refine And.intro (ble_of (by omega)) ?_ | refine And.intro (room_le (by omega)) ?_ | refine Exists.intro _ (And.intro (by assumption) ?_))
    refine callV (e0) (by simp [pureL, AV.pure]) (by simp [AV.dry, dryL]) ?_
    repeat (first | refine Exists.intro _ (And.intro (unA_neg_i64 (by omega) (by omega)) ?_) | refine Exists.intro _ (And.intro (binA_quo_i64 (by omega) (by omega) (by omega)) ?_) | refine Exists.intro _ (And.intro (binA_rem_i64 (by omega) (by omega)) ?_) | refine Exists.intro _ (And.intro (binA_sub_i64 (by omega) (by omega)) ?_) | refine Exists.intro _ (And.intro (binA_add_i64 (by omega) (by omega)) ?_) | refine Exists.intro _ (And.intro (conv_i64 (by omega) (by omega)) ?_) | refine Exists.intro _ (And.intro rfl ?_) | refine And.intro rfl ?_ | refine condT ?_ | refine condF ?_ | refine condG1 ?_ | refine condG0 ?_ | refine condDT (by omega) ?_ | refine condDF (by omega) ?_ | refine condBT (by omega) ?_ | refine condBF (by omega) ?_ | refine condNT (by omega) ?_ | refine condNF (by omega) ?_ | refine And.intro (by omega) ?_ | refine And.intro (ble_of (by omega)) ?_ | refine And.intro (room_le (by omega)) ?_ | refine Exists.intro _ (And.intro (by assumption) ?_))
    refine callV (awake_gives) (by simp [pureL, AV.pure]) (by simp [AV.dry, dryL]) ?_
    repeat (first | refine Exists.intro _ (And.intro (unA_neg_i64 (by omega) (by omega)) ?_) | refine Exists.intro _ (And.intro (binA_quo_i64 (by omega) (by omega) (by omega)) ?_) | refine Exists.intro _ (And.intro (binA_rem_i64 (by omega) (by omega)) ?_) | refine Exists.intro _ (And.intro (binA_sub_i64 (by omega) (by omega)) ?_) | refine Exists.intro _ (And.intro (binA_add_i64 (by omega) (by omega)) ?_) | refine Exists.intro _ (And.intro (conv_i64 (by omega) (by omega)) ?_) | refine Exists.intro _ (And.intro rfl ?_) | refine And.intro rfl ?_ | refine condT ?_ | refine condF ?_ | refine condG1 ?_ | refine condG0 ?_ | refine condDT (by omega) ?_ | refine condDF (by omega) ?_ | refine condBT (by omega) ?_ | refine condBF (by omega) ?_ | refine condNT (by omega) ?_ | refine condNF (by omega) ?_ | refine And.intro (by omega) ?_ | refine And.intro (ble_of (by omega)) ?_ | refine And.intro (room_le (by omega)) ?_ | refine Exists.intro _ (And.intro (by assumption) ?_))
    rfl
  | false =>
    by_cases h1 : (l.length : Int) > 40
    · refine gives_code (F := f5) rfl rfl (W_ok 100 _ _ _ _ ?_)
      repeat (first | refine Exists.intro _ (And.intro (unA_neg_i64 (by omega) (by omega)) ?_) | refine Exists.intro _ (And.intro (binA_quo_i64 (by omega) (by omega) (by omega)) ?_) | refine Exists.intro _ (And.intro (binA_rem_i64 (by omega) (by omega)) ?_) | refine Exists.intro _ (And.intro (binA_sub_i64 (by omega) (by omega)) ?_) | refine Exists.intro _ (And.intro (binA_add_i64 (by omega) (by omega)) ?_) | refine Exists.intro _ (And.intro (conv_i64 (by omega) (by omega)) ?_) | refine Exists.intro _ (And.intro rfl ?_) | refine And.intro rfl ?_ | refine condT ?_ | refine condF ?_ | refine condG1 ?_ | refine condG0 ?_ | refine condDT (by omega) ?_ | refine condDF (by omega) ?_ | refine condBT (by omega) ?_ | refine condBF (by omega) ?_ | refine condNT (by omega) ?_ | refine condNF (by omega) ?_ | refine And.intro (by omega) ?_ | refine And.intro (ble_of (by omega)) ?_ | refine And.intro (room_le (by omega)) ?_ | refine Exists.intro _ (And.intro (by assumption) ?_))
      refine callV (e0) (by simp [pureL, AV.pure]) (by simp [AV.dry, dryL]) ?_
      repeat (first | refine Exists.intro _ (And.intro (unA_neg_i64 (by omega) (by omega)) ?_) | refine Exists.intro _ (And.intro (binA_quo_i64 (by omega) (by omega) (by omega)) ?_) | refine Exists.intro _ (And.intro (binA_rem_i64 (by omega) (by omega)) ?_) | refine Exists.intro _ (And.intro (binA_sub_i64 (by omega) (by omega)) ?_) | refine Exists.intro _ (And.intro (binA_add_i64 (by omega) (by omega)) ?_) | refine Exists.intro _ (And.intro (conv_i64 (by omega) (by omega)) ?_) | refine Exists.intro _ (And.intro rfl ?_) | refine And.intro rfl ?_ | refine condT ?_ | refine condF ?_ | refine condG1 ?_ | refine condG0 ?_ | refine condDT (by omega) ?_ | refine condDF (by omega) ?_ | refine condBT (by omega) ?_ | refine condBF (by omega) ?_ | refine condNT (by omega) ?_ | refine condNF (by omega) ?_ | refine And.intro (by omega) ?_ | refine And.intro (ble_of (by omega)) ?_ | refine And.intro (room_le (by omega)) ?_ | refine Exists.intro _ (And.intro (by assumption) ?_))
      refine callV (awake_gives) (by simp [pureL, AV.pure]) (by simp [AV.dry, dryL]) ?_
      repeat (first | refine Exists.intro _ (And.intro (unA_neg_i64 (by omega) (by omega)) ?_) | refine Exists.intro _ (And.intro (binA_quo_i64 (by omega) (by omega) (by omega)) ?_) | refine Exists.intro _ (And.intro (binA_rem_i64 (by omega) (by omega)) ?_) | refine Exists.intro _ (And.intro (binA_sub_i64 (by omega) (by omega)) ?_) | refine Exists.intro _ (And.intro (binA_add_i64 (by omega) (by omega)) ?_) | refine Exists.intro _ (And.intro (conv_i64 (by omega) (by omega)) ?_) | refine Exists.intro _ (And.intro rfl ?_) | refine And.intro rfl ?_ | refine condT ?_ | refine condF ?_ | refine condG1 ?_ | refine condG0 ?_ | refine condDT (by omega) ?_ | refine condDF (by omega) ?_ | refine condBT (by omega) ?_ | refine condBF (by omega) ?_ | refine condNT (by omega) ?_ | refine condNF (by omega) ?_ | refine And.intro (by omega) ?_ | refine And.intro (ble_of (by omega)) ?_ | refine And.intro (room_le (by omega)) ?_ | refine Exists.intro _ (And.intro (by assumption) ?_))
      rfl
    · by_cases h2 : (cs.length : Int) > 3000
      · refine gives_code (F := f5) rfl rfl (W_ok 100 _ _ _ _ ?_)
        repeat (first | refine Exists.intro _ (And.intro (unA_neg_i64 (by omega) (by omega)) ?_) | refine Exists.intro _ (And.intro (binA_quo_i64 (by omega) (by omega) (by omega)) ?_) | refine Exists.intro _ (And.intro (binA_rem_i64 (by omega) (by omega)) ?_) | refine Exists.intro _ (And.intro (binA_sub_i64 (by omega) (by omega)) ?_) | refine Exists.intro _ (And.intro (binA_add_i64 (by omega) (by omega)) ?_) | refine Exists.intro _ (And.intro (conv_i64 (by omega) (by omega)) ?_) | refine Exists.intro _ (And.intro rfl ?_) | refine And.intro rfl ?_ | refine condT ?_ | refine condF ?_ | refine condG1 ?_ | refine condG0 ?_ | refine condDT (by omega) ?_ | refine condDF (by omega) ?_ | refine condBT (by omega) ?_ | refine condBF (by omega) ?_ | refine condNT (by omega) ?_ | refine condNF (by omega) ?_ | refine And.intro (by omega) ?_ | refine And.intro (ble_of (by omega)) ?_ | refine And.intro (room_le (by omega)) ?_ | refine Exists.intro _ (And.intro (by assumption) ?_))
        refine callV (e0) (by simp [pureL, AV.pure]) (by simp [AV.dry, dryL]) ?_
        repeat (first | refine Exists.intro _ (And.intro (unA_neg_i64 (by omega) (by omega)) ?_) | refine Exists.intro _ (And.intro (binA_quo_i64 (by omega) (by omega) (by omega)) ?_) | refine Exists.intro _ (And.intro (binA_rem_i64 (by omega) (by omega)) ?_) | refine Exists.intro _ (And.intro (binA_sub_i64 (by omega) (by omega)) ?_) | refine Exists.intro _ (And.intro (binA_add_i64 (by omega) (by omega)) ?_) | refine Exists.intro _ (And.intro (conv_i64 (by omega) (by omega)) ?_) | refine Exists.intro _ (And.intro rfl ?_) | refine And.intro rfl ?_ | refine condT ?_ | refine condF ?_ | refine condG1 ?_ | refine condG0 ?_ | refine condDT (by omega) ?_ | refine condDF (by omega) ?_ | refine condBT (by omega) ?_ | refine condBF (by omega) ?_ | refine condNT (by omega) ?_ | refine condNF (by omega) ?_ | refine And.intro (by omega) ?_ | refine And.intro (ble_of (by omega)) ?_ | refine And.intro (room_le (by omega)) ?_ | refine Exists.intro _ (And.intro (by assumption) ?_))
        refine callV (awake_gives) (by simp [pureL, AV.pure]) (by simp [AV.dry, dryL]) ?_
        repeat (first | refine Exists.intro _ (And.intro (unA_neg_i64 (by omega) (by omega)) ?_) | refine Exists.intro _ (And.intro (binA_quo_i64 (by omega) (by omega) (by omega)) ?_) | refine Exists.intro _ (And.intro (binA_rem_i64 (by omega) (by omega)) ?_) | refine Exists.intro _ (And.intro (binA_sub_i64 (by omega) (by omega)) ?_) | refine Exists.intro _ (And.intro (binA_add_i64 (by omega) (by omega)) ?_) | refine Exists.intro _ (And.intro (conv_i64 (by omega) (by omega)) ?_) | refine Exists.intro _ (And.intro rfl ?_) | refine And.intro rfl ?_ | refine condT ?_ | refine condF ?_ | refine condG1 ?_ | refine condG0 ?_ | refine condDT (by omega) ?_ | refine condDF (by omega) ?_ | refine condBT (by omega) ?_ | refine condBF (by omega) ?_ | refine condNT (by omega) ?_ | refine condNF (by omega) ?_ | refine And.intro (by omega) ?_ | refine And.intro (ble_of (by omega)) ?_ | refine And.intro (room_le (by omega)) ?_ | refine Exists.intro _ (And.intro (by assumption) ?_))
        rfl
      · by_cases h3 : p.length = l.length
        · cases hd : distL [] l with
          | false =>
            rw [hd] at ed
            refine gives_code (F := f5) rfl rfl (W_ok 100 _ _ _ _ ?_)
            repeat (first | refine Exists.intro _ (And.intro (unA_neg_i64 (by omega) (by omega)) ?_) | refine Exists.intro _ (And.intro (binA_quo_i64 (by omega) (by omega) (by omega)) ?_) | refine Exists.intro _ (And.intro (binA_rem_i64 (by omega) (by omega)) ?_) | refine Exists.intro _ (And.intro (binA_sub_i64 (by omega) (by omega)) ?_) | refine Exists.intro _ (And.intro (binA_add_i64 (by omega) (by omega)) ?_) | refine Exists.intro _ (And.intro (conv_i64 (by omega) (by omega)) ?_) | refine Exists.intro _ (And.intro rfl ?_) | refine And.intro rfl ?_ | refine condT ?_ | refine condF ?_ | refine condG1 ?_ | refine condG0 ?_ | refine condDT (by omega) ?_ | refine condDF (by omega) ?_ | refine condBT (by omega) ?_ | refine condBF (by omega) ?_ | refine condNT (by omega) ?_ | refine condNF (by omega) ?_ | refine And.intro (by omega) ?_ | refine And.intro (ble_of (by omega)) ?_ | refine And.intro (room_le (by omega)) ?_ | refine Exists.intro _ (And.intro (by assumption) ?_))
            refine callV (e0) (by simp [pureL, AV.pure]) (by simp [AV.dry, dryL]) ?_
            repeat (first | refine Exists.intro _ (And.intro (unA_neg_i64 (by omega) (by omega)) ?_) | refine Exists.intro _ (And.intro (binA_quo_i64 (by omega) (by omega) (by omega)) ?_) | refine Exists.intro _ (And.intro (binA_rem_i64 (by omega) (by omega)) ?_) | refine Exists.intro _ (And.intro (binA_sub_i64 (by omega) (by omega)) ?_) | refine Exists.intro _ (And.intro (binA_add_i64 (by omega) (by omega)) ?_) | refine Exists.intro _ (And.intro (conv_i64 (by omega) (by omega)) ?_) | refine Exists.intro _ (And.intro rfl ?_) | refine And.intro rfl ?_ | refine condT ?_ | refine condF ?_ | refine condG1 ?_ | refine condG0 ?_ | refine condDT (by omega) ?_ | refine condDF (by omega) ?_ | refine condBT (by omega) ?_ | refine condBF (by omega) ?_ | refine condNT (by omega) ?_ | refine condNF (by omega) ?_ | refine And.intro (by omega) ?_ | refine And.intro (ble_of (by omega)) ?_ | refine And.intro (room_le (by omega)) ?_ | refine Exists.intro _ (And.intro (by assumption) ?_))
            refine callV (ed) (by simp [pureL, AV.pure]) (by simp [AV.dry, dryL]) ?_
            repeat (first | refine Exists.intro _ (And.intro (unA_neg_i64 (by omega) (by omega)) ?_) | refine Exists.intro _ (And.intro (binA_quo_i64 (by omega) (by omega) (by omega)) ?_) | refine Exists.intro _ (And.intro (binA_rem_i64 (by omega) (by omega)) ?_) | refine Exists.intro _ (And.intro (binA_sub_i64 (by omega) (by omega)) ?_) | refine Exists.intro _ (And.intro (binA_add_i64 (by omega) (by omega)) ?_) | refine Exists.intro _ (And.intro (conv_i64 (by omega) (by omega)) ?_) | refine Exists.intro _ (And.intro rfl ?_) | refine And.intro rfl ?_ | refine condT ?_ | refine condF ?_ | refine condG1 ?_ | refine condG0 ?_ | refine condDT (by omega) ?_ | refine condDF (by omega) ?_ | refine condBT (by omega) ?_ | refine condBF (by omega) ?_ | refine condNT (by omega) ?_ | refine condNF (by omega) ?_ | refine And.intro (by omega) ?_ | refine And.intro (ble_of (by omega)) ?_ | refine And.intro (room_le (by omega)) ?_ | refine Exists.intro _ (And.intro (by assumption) ?_))
            refine callV (awake_gives) (by simp [pureL, AV.pure]) (by simp [AV.dry, dryL]) ?_
            repeat (first | refine Exists.intro _ (And.intro (unA_neg_i64 (by omega) (by omega)) ?_) | refine Exists.intro _ (And.intro (binA_quo_i64 (by omega) (by omega) (by omega)) ?_) | refine Exists.intro _ (And.intro (binA_rem_i64 (by omega) (by omega)) ?_) | refine Exists.intro _ (And.intro (binA_sub_i64 (by omega) (by omega)) ?_) | refine Exists.intro _ (And.intro (binA_add_i64 (by omega) (by omega)) ?_) | refine Exists.intro _ (And.intro (conv_i64 (by omega) (by omega)) ?_) | refine Exists.intro _ (And.intro rfl ?_) | refine And.intro rfl ?_ | refine condT ?_ | refine condF ?_ | refine condG1 ?_ | refine condG0 ?_ | refine condDT (by omega) ?_ | refine condDF (by omega) ?_ | refine condBT (by omega) ?_ | refine condBF (by omega) ?_ | refine condNT (by omega) ?_ | refine condNF (by omega) ?_ | refine And.intro (by omega) ?_ | refine And.intro (ble_of (by omega)) ?_ | refine And.intro (room_le (by omega)) ?_ | refine Exists.intro _ (And.intro (by assumption) ?_))
            rfl
          | true =>
            rw [hd] at ed
            have hn := (distinct_iff l).1 hd
            have key := perm_first l hl p h3 cs
              (fun idx hp hnd hlt T H c g m es hm hes => law5_end l hl hfit hn cs hcs idx hnd hlt (by rw [← h3, hp]; simp) T H c g m es hm hes)
              (fun hp T H c => law5_endN l hl hfit hn cs hcs (by rw [hp] at h3; exact List.length_eq_zero_iff.1 h3.symm) T H c)
            refine gives_code (F := f5) rfl rfl (W_ok 100 _ _ _ _ ?_)
            repeat (first | refine Exists.intro _ (And.intro (unA_neg_i64 (by omega) (by omega)) ?_) | refine Exists.intro _ (And.intro (binA_quo_i64 (by omega) (by omega) (by omega)) ?_) | refine Exists.intro _ (And.intro (binA_rem_i64 (by omega) (by omega)) ?_) | refine Exists.intro _ (And.intro (binA_sub_i64 (by omega) (by omega)) ?_) | refine Exists.intro _ (And.intro (binA_add_i64 (by omega) (by omega)) ?_) | refine Exists.intro _ (And.intro (conv_i64 (by omega) (by omega)) ?_) | refine Exists.intro _ (And.intro rfl ?_) | refine And.intro rfl ?_ | refine condT ?_ | refine condF ?_ | refine condG1 ?_ | refine condG0 ?_ | refine condDT (by omega) ?_ | refine condDF (by omega) ?_ | refine condBT (by omega) ?_ | refine condBF (by omega) ?_ | refine condNT (by omega) ?_ | refine condNF (by omega) ?_ | refine And.intro (by omega) ?_ | refine And.intro (ble_of (by omega)) ?_ | refine And.intro (room_le (by omega)) ?_ | refine Exists.intro _ (And.intro (by assumption) ?_))
            refine callV (e0) (by simp [pureL, AV.pure]) (by simp [AV.dry, dryL]) ?_
            repeat (first | refine Exists.intro _ (And.intro (unA_neg_i64 (by omega) (by omega)) ?_) | refine Exists.intro _ (And.intro (binA_quo_i64 (by omega) (by omega) (by omega)) ?_) | refine Exists.intro _ (And.intro (binA_rem_i64 (by omega) (by omega)) ?_) | refine Exists.intro _ (And.intro (binA_sub_i64 (by omega) (by omega)) ?_) | refine Exists.intro _ (And.intro (binA_add_i64 (by omega) (by omega)) ?_) | refine Exists.intro _ (And.intro (conv_i64 (by omega) (by omega)) ?_) | refine Exists.intro _ (And.intro rfl ?_) | refine And.intro rfl ?_ | refine condT ?_ | refine condF ?_ | refine condG1 ?_ | refine condG0 ?_ | refine condDT (by omega) ?_ | refine condDF (by omega) ?_ | refine condBT (by omega) ?_ | refine condBF (by omega) ?_ | refine condNT (by omega) ?_ | refine condNF (by omega) ?_ | refine And.intro (by omega) ?_ | refine And.intro (ble_of (by omega)) ?_ | refine And.intro (room_le (by omega)) ?_ | refine Exists.intro _ (And.intro (by assumption) ?_))
            refine callV (ed) (by simp [pureL, AV.pure]) (by simp [AV.dry, dryL]) ?_
            repeat (first | refine Exists.intro _ (And.intro (unA_neg_i64 (by omega) (by omega)) ?_) | refine Exists.intro _ (And.intro (binA_quo_i64 (by omega) (by omega) (by omega)) ?_) | refine Exists.intro _ (And.intro (binA_rem_i64 (by omega) (by omega)) ?_) | refine Exists.intro _ (And.intro (binA_sub_i64 (by omega) (by omega)) ?_) | refine Exists.intro _ (And.intro (binA_add_i64 (by omega) (by omega)) ?_) | refine Exists.intro _ (And.intro (conv_i64 (by omega) (by omega)) ?_) | refine Exists.intro _ (And.intro rfl ?_) | refine And.intro rfl ?_ | refine condT ?_ | refine condF ?_ | refine condG1 ?_ | refine condG0 ?_ | refine condDT (by omega) ?_ | refine condDF (by omega) ?_ | refine condBT (by omega) ?_ | refine condBF (by omega) ?_ | refine condNT (by omega) ?_ | refine condNF (by omega) ?_ | refine And.intro (by omega) ?_ | refine And.intro (ble_of (by omega)) ?_ | refine And.intro (room_le (by omega)) ?_ | refine Exists.intro _ (And.intro (by assumption) ?_))
            refine ev_keep [43, 44, 45, 0, 2, 7, 8] [106] ?_
            simp only [hlm, hpm]
            refine key _ _ _ _ _ ?_
            unfold metL repl
            rw [List.map_map]
            have hf : (metE ∘ fun i => decide (i ∈ ([] : List Nat))) = fun _ => [AV.bool false] := by funext i; simp [metE]
            rw [hf, List.map_const']
            simp
        · have h3' : ¬ ((p.map encI).length : Int) = ((l.map PVRoute.enc).length : Int) := by omega
          refine gives_code (F := f5) rfl rfl (W_ok 100 _ _ _ _ ?_)
          repeat (first | refine Exists.intro _ (And.intro (unA_neg_i64 (by omega) (by omega)) ?_) | refine Exists.intro _ (And.intro (binA_quo_i64 (by omega) (by omega) (by omega)) ?_) | refine Exists.intro _ (And.intro (binA_rem_i64 (by omega) (by omega)) ?_) | refine Exists.intro _ (And.intro (binA_sub_i64 (by omega) (by omega)) ?_) | refine Exists.intro _ (And.intro (binA_add_i64 (by omega) (by omega)) ?_) | refine Exists.intro _ (And.intro (conv_i64 (by omega) (by omega)) ?_) | refine Exists.intro _ (And.intro rfl ?_) | refine And.intro rfl ?_ | refine condT ?_ | refine condF ?_ | refine condG1 ?_ | refine condG0 ?_ | refine condDT (by omega) ?_ | refine condDF (by omega) ?_ | refine condBT (by omega) ?_ | refine condBF (by omega) ?_ | refine condNT (by omega) ?_ | refine condNF (by omega) ?_ | refine And.intro (by omega) ?_ | refine And.intro (ble_of (by omega)) ?_ | refine And.intro (room_le (by omega)) ?_ | refine Exists.intro _ (And.intro (by assumption) ?_))
          refine callV (e0) (by simp [pureL, AV.pure]) (by simp [AV.dry, dryL]) ?_
          repeat (first | refine Exists.intro _ (And.intro (unA_neg_i64 (by omega) (by omega)) ?_) | refine Exists.intro _ (And.intro (binA_quo_i64 (by omega) (by omega) (by omega)) ?_) | refine Exists.intro _ (And.intro (binA_rem_i64 (by omega) (by omega)) ?_) | refine Exists.intro _ (And.intro (binA_sub_i64 (by omega) (by omega)) ?_) | refine Exists.intro _ (And.intro (binA_add_i64 (by omega) (by omega)) ?_) | refine Exists.intro _ (And.intro (conv_i64 (by omega) (by omega)) ?_) | refine Exists.intro _ (And.intro rfl ?_) | refine And.intro rfl ?_ | refine condT ?_ | refine condF ?_ | refine condG1 ?_ | refine condG0 ?_ | refine condDT (by omega) ?_ | refine condDF (by omega) ?_ | refine condBT (by omega) ?_ | refine condBF (by omega) ?_ | refine condNT (by omega) ?_ | refine condNF (by omega) ?_ | refine And.intro (by omega) ?_ | refine And.intro (ble_of (by omega)) ?_ | refine And.intro (room_le (by omega)) ?_ | refine Exists.intro _ (And.intro (by assumption) ?_))
          refine callV (awake_gives) (by simp [pureL, AV.pure]) (by simp [AV.dry, dryL]) ?_
          repeat (first | refine Exists.intro _ (And.intro (unA_neg_i64 (by omega) (by omega)) ?_) | refine Exists.intro _ (And.intro (binA_quo_i64 (by omega) (by omega) (by omega)) ?_) | refine Exists.intro _ (And.intro (binA_rem_i64 (by omega) (by omega)) ?_) | refine Exists.intro _ (And.intro (binA_sub_i64 (by omega) (by omega)) ?_) | refine Exists.intro _ (And.intro (binA_add_i64 (by omega) (by omega)) ?_) | refine Exists.intro _ (And.intro (conv_i64 (by omega) (by omega)) ?_) | refine Exists.intro _ (And.intro rfl ?_) | refine And.intro rfl ?_ | refine condT ?_ | refine condF ?_ | refine condG1 ?_ | refine condG0 ?_ | refine condDT (by omega) ?_ | refine condDF (by omega) ?_ | refine condBT (by omega) ?_ | refine condBF (by omega) ?_ | refine condNT (by omega) ?_ | refine condNF (by omega) ?_ | refine And.intro (by omega) ?_ | refine And.intro (ble_of (by omega)) ?_ | refine And.intro (room_le (by omega)) ?_ | refine Exists.intro _ (And.intro (by assumption) ?_))
          rfl
end
end Go.AM.IR
