/- What the functions of this program give, on the abstract machine. -/
import Derived.Test.YtndmifcopcaenaaDataB
import Derived.Test.YtndmifcopcaenaaMachineB
import Derived.Test.YtndmifcopcaenaaDataA
set_option linter.unusedVariables false
set_option linter.unusedSimpArgs false
set_option linter.unusedSectionVars false
namespace Go.AM.IR
set_option maxHeartbeats 2000000
set_option maxRecDepth 100000
/-- What route k does to the question whether route i wins its group. -/
def lose (l : List PVRoute) (cs : List IGP) (i k : Nat) : Bool := better l cs k i
def winsL (l : List PVRoute) (cs : List IGP) (i : Nat) (r : PVRoute) : List PVRoute → Nat → Bool → Bool
  | [], _, acc => acc
  | s :: ss, k, acc => winsL l cs i r ss (k + 1) (if decide (k = i) || !(costS cs s).2 || !sameGroupS r s then acc else if better l cs k i then false else acc)
section
variable (l : List PVRoute) (hl : l.length < 2 ^ 40) (hfit : ∀ r ∈ l, Fit r) (cs : List IGP) (hcs : cs.length < 2 ^ 40) (i : Nat) (r : PVRoute) (hr : l[i]? = some r) (K : List AItem) (t : Ret)
include hl hfit hcs hr
theorem wins_loop16 (bi : Int) (hi : i < l.length) (us : Bool)
    (cont : ∀ (T : List (Nat × AV)) (H : Heap) (c g8 : Nat) (acc : Bool), acc = winsL l cs i r l 0 us → Ev G ⟨K, ⟨(0, .sl 22 (l.map PVRoute.enc)) :: (1, .sl 2 (cs.map IGP.enc)) :: (20, .sl 22 (l.map PVRoute.enc)) :: (21, .int .i64 l.length) :: (22, .int .i64 i) :: (6, .int .i64 bi) :: (7, .int .i64 i) :: (8, .ref 72 g8 0) :: (11, .bool acc) :: T, (72, some (g8, .cells r.enc)) :: H, c⟩, [.t 4, .t 5], 0⟩ t) :
    ∀ (rest done : List PVRoute) (T : List (Nat × AV)) (H : Heap) (c g8 : Nat) (k : Int) (acc : Bool) (e : l = done ++ rest) (hk : k = done.length) (hacc : winsL l cs i r l 0 us = winsL l cs i r rest done.length acc),
    Ev G ⟨.inLoop f15x16L :: .inBlock 2 :: K, ⟨(34, .sl 22 (l.map PVRoute.enc)) :: (35, .int .i64 l.length) :: (36, .int .i64 k) :: (0, .sl 22 (l.map PVRoute.enc)) :: (1, .sl 2 (cs.map IGP.enc)) :: (20, .sl 22 (l.map PVRoute.enc)) :: (21, .int .i64 l.length) :: (22, .int .i64 i) :: (6, .int .i64 bi) :: (7, .int .i64 i) :: (8, .ref 72 g8 0) :: (11, .bool acc) :: T, (72, some (g8, .cells r.enc)) :: H, c⟩, [.t 4, .t 5], 0⟩ t
  | [], done, T, H, c, g8, k, acc, e, hk, hacc => by
    have hd : l.length = done.length := by simp [e]
    refine ev_loop' (W_ok 7 _ _ _ _ ?_)
    repeat (first | refine Exists.intro _ (And.intro (unA_neg_i64 (by omega) (by omega)) ?_) | refine Exists.intro _ (And.intro (binA_quo_i64 (by omega) (by omega) (by omega)) ?_) | refine Exists.intro _ (And.intro (binA_rem_i64 (by omega) (by omega)) ?_) | refine Exists.intro _ (And.intro (binA_sub_i64 (by omega) (by omega)) ?_) | refine Exists.intro _ (And.intro (binA_add_i64 (by omega) (by omega)) ?_) | refine Exists.intro _ (And.intro (conv_i64 (by omega) (by omega)) ?_) | refine Exists.intro _ (And.intro rfl ?_) | refine And.intro rfl ?_ | refine condT ?_ | refine condF ?_ | refine condG1 ?_ | refine condG0 ?_ | refine condDT (by omega) ?_ | refine condDF (by omega) ?_ | refine condBT (by omega) ?_ | refine condBF (by omega) ?_ | refine condNT (by omega) ?_ | refine condNF (by omega) ?_ | refine And.intro (by omega) ?_ | refine And.intro (ble_of (by omega)) ?_ | refine And.intro (room_le (by omega)) ?_ | refine Exists.intro _ (And.intro (by assumption) ?_))
    show Ev G ⟨K, ⟨_, _, _⟩, _, _⟩ t
    refine ev_keep [0, 1, 20, 21, 22, 6, 7, 8, 11] [72] ?_
    exact cont _ _ _ _ acc hacc.symm
  | s :: ss, done, T, H, c, g8, k, acc, e, hk, hacc => by
    have hd : l.length = done.length + (ss.length + 1) := by simp [e]
    have hx : (l.map PVRoute.enc)[k.toNat]? = some s.enc := by simp [e, hk]
    have hsl : s ∈ l := by simp [e]
    have fs := hfit s hsl
    have fr := hfit r (List.mem_of_getElem? hr)
    have hrd : l.getD i default = r := by rw [List.getD_eq_getElem?_getD, hr]; rfl
    have hsd : l.getD done.length default = s := by rw [List.getD_eq_getElem?_getD]; simp [e]
    have e1 := cost_gives10 cs s (by omega)
    have e2 := sameGroup_gives r s fr.rb fs.rb
    have e3 := compare_gives13 s r cs fs.rb fr.rb fs.ru fr.ru (by omega)
    have hdl : (done ++ [s]).length = done.length + 1 := by simp
    have hw : winsL l cs i r (s :: ss) done.length acc = winsL l cs i r ss (done ++ [s]).length (if decide (done.length = i) || !(costS cs s).2 || !sameGroupS r s then acc else if better l cs done.length i then false else acc) := by rw [hdl]; rfl
    rw [hw] at hacc
    have hbt : better l cs done.length i = (decide ((compareR s r cs).1 < 0) || (decide ((compareR s r cs).1 = 0) && decide (done.length < i))) := by unfold better cm; rw [hrd, hsd]
    rw [hbt] at hacc
    generalize costS cs s = u at *
    obtain ⟨co, us'⟩ := u
    generalize sameGroupS r s = sg at *
    generalize compareR s r cs = R at *
    obtain ⟨o, st⟩ := R
    dsimp only at *
    by_cases hki : done.length = i
    · simp only [decide_eq_true hki, Bool.true_or, if_true] at hacc
      have hki' : k = (i : Int) := by omega
      refine ev_loop' (W_ok 200 _ _ _ _ ?_)
      repeat (first | refine Exists.intro _ (And.intro (unA_neg_i64 (by omega) (by omega)) ?_) | refine Exists.intro _ (And.intro (binA_quo_i64 (by omega) (by omega) (by omega)) ?_) | refine Exists.intro _ (And.intro (binA_rem_i64 (by omega) (by omega)) ?_) | refine Exists.intro _ (And.intro (binA_sub_i64 (by omega) (by omega)) ?_) | refine Exists.intro _ (And.intro (binA_add_i64 (by omega) (by omega)) ?_) | refine Exists.intro _ (And.intro (conv_i64 (by omega) (by omega)) ?_) | refine Exists.intro _ (And.intro rfl ?_) | refine And.intro rfl ?_ | refine condT ?_ | refine condF ?_ | refine condG1 ?_ | refine condG0 ?_ | refine condDT (by omega) ?_ | refine condDF (by omega) ?_ | refine condBT (by omega) ?_ | refine condBF (by omega) ?_ | refine condNT (by omega) ?_ | refine condNF (by omega) ?_ | refine And.intro (by omega) ?_ | refine And.intro (ble_of (by omega)) ?_ | refine And.intro (room_le (by omega)) ?_ | refine Exists.intro _ (And.intro (by assumption) ?_))
      refine callV (e1) (by simp [pureL, AV.pure]) (by simp [AV.dry, dryL]) ?_
      repeat (first | refine Exists.intro _ (And.intro (unA_neg_i64 (by omega) (by omega)) ?_) | refine Exists.intro _ (And.intro (binA_quo_i64 (by omega) (by omega) (by omega)) ?_) | refine Exists.intro _ (And.intro (binA_rem_i64 (by omega) (by omega)) ?_) | refine Exists.intro _ (And.intro (binA_sub_i64 (by omega) (by omega)) ?_) | refine Exists.intro _ (And.intro (binA_add_i64 (by omega) (by omega)) ?_) | refine Exists.intro _ (And.intro (conv_i64 (by omega) (by omega)) ?_) | refine Exists.intro _ (And.intro rfl ?_) | refine And.intro rfl ?_ | refine condT ?_ | refine condF ?_ | refine condG1 ?_ | refine condG0 ?_ | refine condDT (by omega) ?_ | refine condDF (by omega) ?_ | refine condBT (by omega) ?_ | refine condBF (by omega) ?_ | refine condNT (by omega) ?_ | refine condNF (by omega) ?_ | refine And.intro (by omega) ?_ | refine And.intro (ble_of (by omega)) ?_ | refine And.intro (room_le (by omega)) ?_ | refine Exists.intro _ (And.intro (by assumption) ?_))
      refine ev_keep [34, 35, 36, 0, 1, 20, 21, 22, 6, 7, 8, 11] [72] ?_
      exact wins_loop16 bi hi us cont ss (done ++ [s]) _ _ _ _ (k + 1) acc (by simp [e]) (by simp [hk]) hacc
    · have hki' : ¬ k = (i : Int) := by omega
      simp only [decide_eq_false hki, Bool.false_or] at hacc
      cases us' with
      | false =>
        simp only [Bool.not_false, Bool.true_or, if_true] at hacc
        refine ev_loop' (W_ok 200 _ _ _ _ ?_)
        repeat (first | refine Exists.intro _ (And.intro (unA_neg_i64 (by omega) (by omega)) ?_) | refine Exists.intro _ (And.intro (binA_quo_i64 (by omega) (by omega) (by omega)) ?_) | refine Exists.intro _ (And.intro (binA_rem_i64 (by omega) (by omega)) ?_) | refine Exists.intro _ (And.intro (binA_sub_i64 (by omega) (by omega)) ?_) | refine Exists.intro _ (And.intro (binA_add_i64 (by omega) (by omega)) ?_) | refine Exists.intro _ (And.intro (conv_i64 (by omega) (by omega)) ?_) | refine Exists.intro _ (And.intro rfl ?_) | refine And.intro rfl ?_ | refine condT ?_ | refine condF ?_ | refine condG1 ?_ | refine condG0 ?_ | refine condDT (by omega) ?_ | refine condDF (by omega) ?_ | refine condBT (by omega) ?_ | refine condBF (by omega) ?_ | refine condNT (by omega) ?_ | refine condNF (by omega) ?_ | refine And.intro (by omega) ?_ | refine And.intro (ble_of (by omega)) ?_ | refine And.intro (room_le (by omega)) ?_ | refine Exists.intro _ (And.intro (by assumption) ?_))
        refine callV (e1) (by simp [pureL, AV.pure]) (by simp [AV.dry, dryL]) ?_
        repeat (first | refine Exists.intro _ (And.intro (unA_neg_i64 (by omega) (by omega)) ?_) | refine Exists.intro _ (And.intro (binA_quo_i64 (by omega) (by omega) (by omega)) ?_) | refine Exists.intro _ (And.intro (binA_rem_i64 (by omega) (by omega)) ?_) | refine Exists.intro _ (And.intro (binA_sub_i64 (by omega) (by omega)) ?_) | refine Exists.intro _ (And.intro (binA_add_i64 (by omega) (by omega)) ?_) | refine Exists.intro _ (And.intro (conv_i64 (by omega) (by omega)) ?_) | refine Exists.intro _ (And.intro rfl ?_) | refine And.intro rfl ?_ | refine condT ?_ | refine condF ?_ | refine condG1 ?_ | refine condG0 ?_ | refine condDT (by omega) ?_ | refine condDF (by omega) ?_ | refine condBT (by omega) ?_ | refine condBF (by omega) ?_ | refine condNT (by omega) ?_ | refine condNF (by omega) ?_ | refine And.intro (by omega) ?_ | refine And.intro (ble_of (by omega)) ?_ | refine And.intro (room_le (by omega)) ?_ | refine Exists.intro _ (And.intro (by assumption) ?_))
        refine ev_keep [34, 35, 36, 0, 1, 20, 21, 22, 6, 7, 8, 11] [72] ?_
        exact wins_loop16 bi hi us cont ss (done ++ [s]) _ _ _ _ (k + 1) acc (by simp [e]) (by simp [hk]) hacc
      | true =>
        simp only [Bool.not_true, Bool.false_or] at hacc
        cases sg with
        | false =>
          simp only [Bool.not_false, if_true] at hacc
          refine ev_loop' (W_ok 200 _ _ _ _ ?_)
          repeat (first | refine Exists.intro _ (And.intro (unA_neg_i64 (by omega) (by omega)) ?_) | refine Exists.intro _ (And.intro (binA_quo_i64 (by omega) (by omega) (by omega)) ?_) | refine Exists.intro _ (And.intro (binA_rem_i64 (by omega) (by omega)) ?_) | refine Exists.intro _ (And.intro (binA_sub_i64 (by omega) (by omega)) ?_) | refine Exists.intro _ (And.intro (binA_add_i64 (by omega) (by omega)) ?_) | refine Exists.intro _ (And.intro (conv_i64 (by omega) (by omega)) ?_) | refine Exists.intro _ (And.intro rfl ?_) | refine And.intro rfl ?_ | refine condT ?_ | refine condF ?_ | refine condG1 ?_ | refine condG0 ?_ | refine condDT (by omega) ?_ | refine condDF (by omega) ?_ | refine condBT (by omega) ?_ | refine condBF (by omega) ?_ | refine condNT (by omega) ?_ | refine condNF (by omega) ?_ | refine And.intro (by omega) ?_ | refine And.intro (ble_of (by omega)) ?_ | refine And.intro (room_le (by omega)) ?_ | refine Exists.intro _ (And.intro (by assumption) ?_))
          refine callV (e1) (by simp [pureL, AV.pure]) (by simp [AV.dry, dryL]) ?_
          repeat (first | refine Exists.intro _ (And.intro (unA_neg_i64 (by omega) (by omega)) ?_) | refine Exists.intro _ (And.intro (binA_quo_i64 (by omega) (by omega) (by omega)) ?_) | refine Exists.intro _ (And.intro (binA_rem_i64 (by omega) (by omega)) ?_) | refine Exists.intro _ (And.intro (binA_sub_i64 (by omega) (by omega)) ?_) | refine Exists.intro _ (And.intro (binA_add_i64 (by omega) (by omega)) ?_) | refine Exists.intro _ (And.intro (conv_i64 (by omega) (by omega)) ?_) | refine Exists.intro _ (And.intro rfl ?_) | refine And.intro rfl ?_ | refine condT ?_ | refine condF ?_ | refine condG1 ?_ | refine condG0 ?_ | refine condDT (by omega) ?_ | refine condDF (by omega) ?_ | refine condBT (by omega) ?_ | refine condBF (by omega) ?_ | refine condNT (by omega) ?_ | refine condNF (by omega) ?_ | refine And.intro (by omega) ?_ | refine And.intro (ble_of (by omega)) ?_ | refine And.intro (room_le (by omega)) ?_ | refine Exists.intro _ (And.intro (by assumption) ?_))
          refine callV (e2) (by simp [pureL, AV.pure]) (by simp [AV.dry, dryL]) ?_
          repeat (first | refine Exists.intro _ (And.intro (unA_neg_i64 (by omega) (by omega)) ?_) | refine Exists.intro _ (And.intro (binA_quo_i64 (by omega) (by omega) (by omega)) ?_) | refine Exists.intro _ (And.intro (binA_rem_i64 (by omega) (by omega)) ?_) | refine Exists.intro _ (And.intro (binA_sub_i64 (by omega) (by omega)) ?_) | refine Exists.intro _ (And.intro (binA_add_i64 (by omega) (by omega)) ?_) | refine Exists.intro _ (And.intro (conv_i64 (by omega) (by omega)) ?_) | refine Exists.intro _ (And.intro rfl ?_) | refine And.intro rfl ?_ | refine condT ?_ | refine condF ?_ | refine condG1 ?_ | refine condG0 ?_ | refine condDT (by omega) ?_ | refine condDF (by omega) ?_ | refine condBT (by omega) ?_ | refine condBF (by omega) ?_ | refine condNT (by omega) ?_ | refine condNF (by omega) ?_ | refine And.intro (by omega) ?_ | refine And.intro (ble_of (by omega)) ?_ | refine And.intro (room_le (by omega)) ?_ | refine Exists.intro _ (And.intro (by assumption) ?_))
          refine ev_keep [34, 35, 36, 0, 1, 20, 21, 22, 6, 7, 8, 11] [72] ?_
          exact wins_loop16 bi hi us cont ss (done ++ [s]) _ _ _ _ (k + 1) acc (by simp [e]) (by simp [hk]) hacc
        | true =>
          simp only [Bool.not_true, Bool.false_eq_true, if_false] at hacc
          by_cases h1 : o < 0
          · simp only [decide_eq_true h1, Bool.true_or, if_true] at hacc
            refine ev_loop' (W_ok 200 _ _ _ _ ?_)
            repeat (first | refine Exists.intro _ (And.intro (unA_neg_i64 (by omega) (by omega)) ?_) | refine Exists.intro _ (And.intro (binA_quo_i64 (by omega) (by omega) (by omega)) ?_) | refine Exists.intro _ (And.intro (binA_rem_i64 (by omega) (by omega)) ?_) | refine Exists.intro _ (And.intro (binA_sub_i64 (by omega) (by omega)) ?_) | refine Exists.intro _ (And.intro (binA_add_i64 (by omega) (by omega)) ?_) | refine Exists.intro _ (And.intro (conv_i64 (by omega) (by omega)) ?_) | refine Exists.intro _ (And.intro rfl ?_) | refine And.intro rfl ?_ | refine condT ?_ | refine condF ?_ | refine condG1 ?_ | refine condG0 ?_ | refine condDT (by omega) ?_ | refine condDF (by omega) ?_ | refine condBT (by omega) ?_ | refine condBF (by omega) ?_ | refine condNT (by omega) ?_ | refine condNF (by omega) ?_ | refine And.intro (by omega) ?_ | refine And.intro (ble_of (by omega)) ?_ | refine And.intro (room_le (by omega)) ?_ | refine Exists.intro _ (And.intro (by assumption) ?_))
            refine callV (e1) (by simp [pureL, AV.pure]) (by simp [AV.dry, dryL]) ?_
            repeat (first | refine Exists.intro _ (And.intro (unA_neg_i64 (by omega) (by omega)) ?_) | refine Exists.intro _ (And.intro (binA_quo_i64 (by omega) (by omega) (by omega)) ?_) | refine Exists.intro _ (And.intro (binA_rem_i64 (by omega) (by omega)) ?_) | refine Exists.intro _ (And.intro (binA_sub_i64 (by omega) (by omega)) ?_) | refine Exists.intro _ (And.intro (binA_add_i64 (by omega) (by omega)) ?_) | refine Exists.intro _ (And.intro (conv_i64 (by omega) (by omega)) ?_) | refine Exists.intro _ (And.intro rfl ?_) | refine And.intro rfl ?_ | refine condT ?_ | refine condF ?_ | refine condG1 ?_ | refine condG0 ?_ | refine condDT (by omega) ?_ | refine condDF (by omega) ?_ | refine condBT (by omega) ?_ | refine condBF (by omega) ?_ | refine condNT (by omega) ?_ | refine condNF (by omega) ?_ | refine And.intro (by omega) ?_ | refine And.intro (ble_of (by omega)) ?_ | refine And.intro (room_le (by omega)) ?_ | refine Exists.intro _ (And.intro (by assumption) ?_))
            refine callV (e2) (by simp [pureL, AV.pure]) (by simp [AV.dry, dryL]) ?_
            repeat (first | refine Exists.intro _ (And.intro (unA_neg_i64 (by omega) (by omega)) ?_) | refine Exists.intro _ (And.intro (binA_quo_i64 (by omega) (by omega) (by omega)) ?_) | refine Exists.intro _ (And.intro (binA_rem_i64 (by omega) (by omega)) ?_) | refine Exists.intro _ (And.intro (binA_sub_i64 (by omega) (by omega)) ?_) | refine Exists.intro _ (And.intro (binA_add_i64 (by omega) (by omega)) ?_) | refine Exists.intro _ (And.intro (conv_i64 (by omega) (by omega)) ?_) | refine Exists.intro _ (And.intro rfl ?_) | refine And.intro rfl ?_ | refine condT ?_ | refine condF ?_ | refine condG1 ?_ | refine condG0 ?_ | refine condDT (by omega) ?_ | refine condDF (by omega) ?_ | refine condBT (by omega) ?_ | refine condBF (by omega) ?_ | refine condNT (by omega) ?_ | refine condNF (by omega) ?_ | refine And.intro (by omega) ?_ | refine And.intro (ble_of (by omega)) ?_ | refine And.intro (room_le (by omega)) ?_ | refine Exists.intro _ (And.intro (by assumption) ?_))
            refine callV (e3) (by simp [pureL, AV.pure]) (by simp [AV.dry, dryL]) ?_
            repeat (first | refine Exists.intro _ (And.intro (unA_neg_i64 (by omega) (by omega)) ?_) | refine Exists.intro _ (And.intro (binA_quo_i64 (by omega) (by omega) (by omega)) ?_) | refine Exists.intro _ (And.intro (binA_rem_i64 (by omega) (by omega)) ?_) | refine Exists.intro _ (And.intro (binA_sub_i64 (by omega) (by omega)) ?_) | refine Exists.intro _ (And.intro (binA_add_i64 (by omega) (by omega)) ?_) | refine Exists.intro _ (And.intro (conv_i64 (by omega) (by omega)) ?_) | refine Exists.intro _ (And.intro rfl ?_) | refine And.intro rfl ?_ | refine condT ?_ | refine condF ?_ | refine condG1 ?_ | refine condG0 ?_ | refine condDT (by omega) ?_ | refine condDF (by omega) ?_ | refine condBT (by omega) ?_ | refine condBF (by omega) ?_ | refine condNT (by omega) ?_ | refine condNF (by omega) ?_ | refine And.intro (by omega) ?_ | refine And.intro (ble_of (by omega)) ?_ | refine And.intro (room_le (by omega)) ?_ | refine Exists.intro _ (And.intro (by assumption) ?_))
            refine ev_keep [34, 35, 36, 0, 1, 20, 21, 22, 6, 7, 8, 11] [72] ?_
            exact wins_loop16 bi hi us cont ss (done ++ [s]) _ _ _ _ (k + 1) false (by simp [e]) (by simp [hk]) hacc
          · by_cases h2 : o = 0
            · by_cases h3 : done.length < i
              · have h3' : k < (i : Int) := by omega
                simp only [decide_eq_false h1, decide_eq_true h2, decide_eq_true h3, Bool.and_self, Bool.or_true, if_true] at hacc
                refine ev_loop' (W_ok 200 _ _ _ _ ?_)
                repeat (first | refine Exists.intro _ (And.intro (unA_neg_i64 (by omega) (by omega)) ?_) | refine Exists.intro _ (And.intro (binA_quo_i64 (by omega) (by omega) (by omega)) ?_) | refine Exists.intro _ (And.intro (binA_rem_i64 (by omega) (by omega)) ?_) | refine Exists.intro _ (And.intro (binA_sub_i64 (by omega) (by omega)) ?_) | refine Exists.intro _ (And.intro (binA_add_i64 (by omega) (by omega)) ?_) | refine Exists.intro _ (And.intro (conv_i64 (by omega) (by omega)) ?_) | refine Exists.intro _ (And.intro rfl ?_) | refine And.intro rfl ?_ | refine condT ?_ | refine condF ?_ | refine condG1 ?_ | refine condG0 ?_ | refine condDT (by omega) ?_ | refine condDF (by omega) ?_ | refine condBT (by omega) ?_ | refine condBF (by omega) ?_ | refine condNT (by omega) ?_ | refine condNF (by omega) ?_ | refine And.intro (by omega) ?_ | refine And.intro (ble_of (by omega)) ?_ | refine And.intro (room_le (by omega)) ?_ | refine Exists.intro _ (And.intro (by assumption) ?_))
                refine callV (e1) (by simp [pureL, AV.pure]) (by simp [AV.dry, dryL]) ?_
                repeat (first | refine Exists.intro _ (And.intro (unA_neg_i64 (by omega) (by omega)) ?_) | refine Exists.intro _ (And.intro (binA_quo_i64 (by omega) (by omega) (by omega)) ?_) | refine Exists.intro _ (And.intro (binA_rem_i64 (by omega) (by omega)) ?_) | refine Exists.intro _ (And.intro (binA_sub_i64 (by omega) (by omega)) ?_) | refine Exists.intro _ (And.intro (binA_add_i64 (by omega) (by omega)) ?_) | refine Exists.intro _ (And.intro (conv_i64 (by omega) (by omega)) ?_) | refine Exists.intro _ (And.intro rfl ?_) | refine And.intro rfl ?_ | refine condT ?_ | refine condF ?_ | refine condG1 ?_ | refine condG0 ?_ | refine condDT (by omega) ?_ | refine condDF (by omega) ?_ | refine condBT (by omega) ?_ | refine condBF (by omega) ?_ | refine condNT (by omega) ?_ | refine condNF (by omega) ?_ | refine And.intro (by omega) ?_ | refine And.intro (ble_of (by omega)) ?_ | refine And.intro (room_le (by omega)) ?_ | refine Exists.intro _ (And.intro (by assumption) ?_))
                refine callV (e2) (by simp [pureL, AV.pure]) (by simp [AV.dry, dryL]) ?_
                repeat (first | refine Exists.intro _ (And.intro (unA_neg_i64 (by omega) (by omega)) ?_) | refine Exists.intro _ (And.intro (binA_quo_i64 (by omega) (by omega) (by omega)) ?_) | refine Exists.intro _ (And.intro (binA_rem_i64 (by omega) (by omega)) ?_) | refine Exists.intro _ (And.intro (binA_sub_i64 (by omega) (by omega)) ?_) | refine Exists.intro _ (And.intro (binA_add_i64 (by omega) (by omega)) ?_) | refine Exists.intro _ (And.intro (conv_i64 (by omega) (by omega)) ?_) | refine Exists.intro _ (And.intro rfl ?_) | refine And.intro rfl ?_ | refine condT ?_ | refine condF ?_ | refine condG1 ?_ | refine condG0 ?_ | refine condDT (by omega) ?_ | refine condDF (by omega) ?_ | refine condBT (by omega) ?_ | refine condBF (by omega) ?_ | refine condNT (by omega) ?_ | refine condNF (by omega) ?_ | refine And.intro (by omega) ?_ | refine And.intro (ble_of (by omega)) ?_ | refine And.intro (room_le (by omega)) ?_ | refine Exists.intro _ (And.intro (by assumption) ?_))
                refine callV (e3) (by simp [pureL, AV.pure]) (by simp [AV.dry, dryL]) ?_
                repeat (first | refine Exists.intro _ (And.intro (unA_neg_i64 (by omega) (by omega)) ?_) | refine Exists.intro _ (And.intro (binA_quo_i64 (by omega) (by omega) (by omega)) ?_) | refine Exists.intro _ (And.intro (binA_rem_i64 (by omega) (by omega)) ?_) | refine Exists.intro _ (And.intro (binA_sub_i64 (by omega) (by omega)) ?_) | refine Exists.intro _ (And.intro (binA_add_i64 (by omega) (by omega)) ?_) | refine Exists.intro _ (And.intro (conv_i64 (by omega) (by omega)) ?_) | refine Exists.intro _ (And.intro rfl ?_) | refine And.intro rfl ?_ | refine condT ?_ | refine condF ?_ | refine condG1 ?_ | refine condG0 ?_ | refine condDT (by omega) ?_ | refine condDF (by omega) ?_ | refine condBT (by omega) ?_ | refine condBF (by omega) ?_ | refine condNT (by omega) ?_ | refine condNF (by omega) ?_ | refine And.intro (by omega) ?_ | refine And.intro (ble_of (by omega)) ?_ | refine And.intro (room_le (by omega)) ?_ | refine Exists.intro _ (And.intro (by assumption) ?_))
                refine ev_keep [34, 35, 36, 0, 1, 20, 21, 22, 6, 7, 8, 11] [72] ?_
                exact wins_loop16 bi hi us cont ss (done ++ [s]) _ _ _ _ (k + 1) false (by simp [e]) (by simp [hk]) hacc
              · have h3' : ¬ k < (i : Int) := by omega
                simp only [decide_eq_false h1, decide_eq_true h2, decide_eq_false h3, Bool.and_false, Bool.or_self, Bool.false_eq_true, if_false] at hacc
                refine ev_loop' (W_ok 200 _ _ _ _ ?_)
                repeat (first | refine Exists.intro _ (And.intro (unA_neg_i64 (by omega) (by omega)) ?_) | refine Exists.intro _ (And.intro (binA_quo_i64 (by omega) (by omega) (by omega)) ?_) | refine Exists.intro _ (And.intro (binA_rem_i64 (by omega) (by omega)) ?_) | refine Exists.intro _ (And.intro (binA_sub_i64 (by omega) (by omega)) ?_) | refine Exists.intro _ (And.intro (binA_add_i64 (by omega) (by omega)) ?_) | refine Exists.intro _ (And.intro (conv_i64 (by omega) (by omega)) ?_) | refine Exists.intro _ (And.intro rfl ?_) | refine And.intro rfl ?_ | refine condT ?_ | refine condF ?_ | refine condG1 ?_ | refine condG0 ?_ | refine condDT (by omega) ?_ | refine condDF (by omega) ?_ | refine condBT (by omega) ?_ | refine condBF (by omega) ?_ | refine condNT (by omega) ?_ | refine condNF (by omega) ?_ | refine And.intro (by omega) ?_ | refine And.intro (ble_of (by omega)) ?_ | refine And.intro (room_le (by omega)) ?_ | refine Exists.intro _ (And.intro (by assumption) ?_))
                refine callV (e1) (by simp [pureL, AV.pure]) (by simp [AV.dry, dryL]) ?_
                repeat (first | refine Exists.intro _ (And.intro (unA_neg_i64 (by omega) (by omega)) ?_) | refine Exists.intro _ (And.intro (binA_quo_i64 (by omega) (by omega) (by omega)) ?_) | refine Exists.intro _ (And.intro (binA_rem_i64 (by omega) (by omega)) ?_) | refine Exists.intro _ (And.intro (binA_sub_i64 (by omega) (by omega)) ?_) | refine Exists.intro _ (And.intro (binA_add_i64 (by omega) (by omega)) ?_) | refine Exists.intro _ (And.intro (conv_i64 (by omega) (by omega)) ?_) | refine Exists.intro _ (And.intro rfl ?_) | refine And.intro rfl ?_ | refine condT ?_ | refine condF ?_ | refine condG1 ?_ | refine condG0 ?_ | refine condDT (by omega) ?_ | refine condDF (by omega) ?_ | refine condBT (by omega) ?_ | refine condBF (by omega) ?_ | refine condNT (by omega) ?_ | refine condNF (by omega) ?_ | refine And.intro (by omega) ?_ | refine And.intro (ble_of (by omega)) ?_ | refine And.intro (room_le (by omega)) ?_ | refine Exists.intro _ (And.intro (by assumption) ?_))
                refine callV (e2) (by simp [pureL, AV.pure]) (by simp [AV.dry, dryL]) ?_
                repeat (first | refine Exists.intro _ (And.intro (unA_neg_i64 (by omega) (by omega)) ?_) | refine Exists.intro _ (And.intro (binA_quo_i64 (by omega) (by omega) (by omega)) ?_) | refine Exists.intro _ (And.intro (binA_rem_i64 (by omega) (by omega)) ?_) | refine Exists.intro _ (And.intro (binA_sub_i64 (by omega) (by omega)) ?_) | refine Exists.intro _ (And.intro (binA_add_i64 (by omega) (by omega)) ?_) | refine Exists.intro _ (And.intro (conv_i64 (by omega) (by omega)) ?_) | refine Exists.intro _ (And.intro rfl ?_) | refine And.intro rfl ?_ | refine condT ?_ | refine condF ?_ | refine condG1 ?_ | refine condG0 ?_ | refine condDT (by omega) ?_ | refine condDF (by omega) ?_ | refine condBT (by omega) ?_ | refine condBF (by omega) ?_ | refine condNT (by omega) ?_ | refine condNF (by omega) ?_ | refine And.intro (by omega) ?_ | refine And.intro (ble_of (by omega)) ?_ | refine And.intro (room_le (by omega)) ?_ | refine Exists.intro _ (And.intro (by assumption) ?_))
                refine callV (e3) (by simp [pureL, AV.pure]) (by simp [AV.dry, dryL]) ?_
                repeat (first | refine Exists.intro _ (And.intro (unA_neg_i64 (by omega) (by omega)) ?_) | refine Exists.intro _ (And.intro (binA_quo_i64 (by omega) (by omega) (by omega)) ?_) | refine Exists.intro _ (And.intro (binA_rem_i64 (by omega) (by omega)) ?_) | refine Exists.intro _ (And.intro (binA_sub_i64 (by omega) (by omega)) ?_) | refine Exists.intro _ (And.intro (binA_add_i64 (by omega) (by omega)) ?_) | refine Exists.intro _ (And.intro (conv_i64 (by omega) (by omega)) ?_) | refine Exists.intro _ (And.intro rfl ?_) | refine And.intro rfl ?_ | refine condT ?_ | refine condF ?_ | refine condG1 ?_ | refine condG0 ?_ | refine condDT (by omega) ?_ | refine condDF (by omega) ?_ | refine condBT (by omega) ?_ | refine condBF (by omega) ?_ | refine condNT (by omega) ?_ | refine condNF (by omega) ?_ | refine And.intro (by omega) ?_ | refine And.intro (ble_of (by omega)) ?_ | refine And.intro (room_le (by omega)) ?_ | refine Exists.intro _ (And.intro (by assumption) ?_))
                refine ev_keep [34, 35, 36, 0, 1, 20, 21, 22, 6, 7, 8, 11] [72] ?_
                exact wins_loop16 bi hi us cont ss (done ++ [s]) _ _ _ _ (k + 1) acc (by simp [e]) (by simp [hk]) hacc
            · simp only [decide_eq_false h1, decide_eq_false h2, Bool.false_and, Bool.or_self, Bool.false_eq_true, if_false] at hacc
              refine ev_loop' (W_ok 200 _ _ _ _ ?_)
              repeat (first | refine Exists.intro _ (And.intro (unA_neg_i64 (by omega) (by omega)) ?_) | refine Exists.intro _ (And.intro (binA_quo_i64 (by omega) (by omega) (by omega)) ?_) | refine Exists.intro _ (And.intro (binA_rem_i64 (by omega) (by omega)) ?_) | refine Exists.intro _ (And.intro (binA_sub_i64 (by omega) (by omega)) ?_) | refine Exists.intro _ (And.intro (binA_add_i64 (by omega) (by omega)) ?_) | refine Exists.intro _ (And.intro (conv_i64 (by omega) (by omega)) ?_) | refine Exists.intro _ (And.intro rfl ?_) | refine And.intro rfl ?_ | refine condT ?_ | refine condF ?_ | refine condG1 ?_ | refine condG0 ?_ | refine condDT (by omega) ?_ | refine condDF (by omega) ?_ | refine condBT (by omega) ?_ | refine condBF (by omega) ?_ | refine condNT (by omega) ?_ | refine condNF (by omega) ?_ | refine And.intro (by omega) ?_ | refine And.intro (ble_of (by omega)) ?_ | refine And.intro (room_le (by omega)) ?_ | refine Exists.intro _ (And.intro (by assumption) ?_))
              refine callV (e1) (by simp [pureL, AV.pure]) (by simp [AV.dry, dryL]) ?_
              repeat (first | refine Exists.intro _ (And.intro (unA_neg_i64 (by omega) (by omega)) ?_) | refine Exists.intro _ (And.intro (binA_quo_i64 (by omega) (by omega) (by omega)) ?_) | refine Exists.intro _ (And.intro (binA_rem_i64 (by omega) (by omega)) ?_) | refine Exists.intro _ (And.intro (binA_sub_i64 (by omega) (by omega)) ?_) | refine Exists.intro _ (And.intro (binA_add_i64 (by omega) (by omega)) ?_) | refine Exists.intro _ (And.intro (conv_i64 (by omega) (by omega)) ?_) | refine Exists.intro _ (And.intro rfl ?_) | refine And.intro rfl ?_ | refine condT ?_ | refine condF ?_ | refine condG1 ?_ | refine condG0 ?_ | refine condDT (by omega) ?_ | refine condDF (by omega) ?_ | refine condBT (by omega) ?_ | refine condBF (by omega) ?_ | refine condNT (by omega) ?_ | refine condNF (by omega) ?_ | refine And.intro (by omega) ?_ | refine And.intro (ble_of (by omega)) ?_ | refine And.intro (room_le (by omega)) ?_ | refine Exists.intro _ (And.intro (by assumption) ?_))
              refine callV (e2) (by simp [pureL, AV.pure]) (by simp [AV.dry, dryL]) ?_
              repeat (first | refine Exists.intro _ (And.intro (unA_neg_i64 (by omega) (by omega)) ?_) | refine Exists.intro _ (And.intro (binA_quo_i64 (by omega) (by omega) (by omega)) ?_) | refine Exists.intro _ (And.intro (binA_rem_i64 (by omega) (by omega)) ?_) | refine Exists.intro _ (And.intro (binA_sub_i64 (by omega) (by omega)) ?_) | refine Exists.intro _ (And.intro (binA_add_i64 (by omega) (by omega)) ?_) | refine Exists.intro _ (And.intro (conv_i64 (by omega) (by omega)) ?_) | refine Exists.intro _ (And.intro rfl ?_) | refine And.intro rfl ?_ | refine condT ?_ | refine condF ?_ | refine condG1 ?_ | refine condG0 ?_ | refine condDT (by omega) ?_ | refine condDF (by omega) ?_ | refine condBT (by omega) ?_ | refine condBF (by omega) ?_ | refine condNT (by omega) ?_ | refine condNF (by omega) ?_ | refine And.intro (by omega) ?_ | refine And.intro (ble_of (by omega)) ?_ | refine And.intro (room_le (by omega)) ?_ | refine Exists.intro _ (And.intro (by assumption) ?_))
              refine callV (e3) (by simp [pureL, AV.pure]) (by simp [AV.dry, dryL]) ?_
              repeat (first | refine Exists.intro _ (And.intro (unA_neg_i64 (by omega) (by omega)) ?_) | refine Exists.intro _ (And.intro (binA_quo_i64 (by omega) (by omega) (by omega)) ?_) | refine Exists.intro _ (And.intro (binA_rem_i64 (by omega) (by omega)) ?_) | refine Exists.intro _ (And.intro (binA_sub_i64 (by omega) (by omega)) ?_) | refine Exists.intro _ (And.intro (binA_add_i64 (by omega) (by omega)) ?_) | refine Exists.intro _ (And.intro (conv_i64 (by omega) (by omega)) ?_) | refine Exists.intro _ (And.intro rfl ?_) | refine And.intro rfl ?_ | refine condT ?_ | refine condF ?_ | refine condG1 ?_ | refine condG0 ?_ | refine condDT (by omega) ?_ | refine condDF (by omega) ?_ | refine condBT (by omega) ?_ | refine condBF (by omega) ?_ | refine condNT (by omega) ?_ | refine condNF (by omega) ?_ | refine And.intro (by omega) ?_ | refine And.intro (ble_of (by omega)) ?_ | refine And.intro (room_le (by omega)) ?_ | refine Exists.intro _ (And.intro (by assumption) ?_))
              refine ev_keep [34, 35, 36, 0, 1, 20, 21, 22, 6, 7, 8, 11] [72] ?_
              exact wins_loop16 bi hi us cont ss (done ++ [s]) _ _ _ _ (k + 1) acc (by simp [e]) (by simp [hk]) hacc
end
end Go.AM.IR
namespace Go.AM.IR
set_option maxHeartbeats 2000000
set_option maxRecDepth 100000
def bestStep (l : List PVRoute) (cs : List IGP) (i : Nat) (b : Option Nat) : Option Nat := match b with
  | none => some i
  | some b => if (cm l cs i b).1 < 0 then some i else some b
def bestR (l : List PVRoute) (cs : List IGP) : List PVRoute → Nat → Option Nat → Option Nat
  | [], _, b => b
  | r :: rs, i, b => bestR l cs rs (i + 1) (if winsL l cs i r l 0 (costS cs r).2 then bestStep l cs i b else b)
section
variable (l : List PVRoute) (hl : l.length < 2 ^ 40) (hfit : ∀ r ∈ l, Fit r) (cs : List IGP) (hcs : cs.length < 2 ^ 40)
include hl hfit hcs
theorem rbest_loop : ∀ (rest done : List PVRoute) (b : Option Nat) (hb : ∀ x, b = some x → x < l.length) (T : List (Nat × AV)) (H : Heap) (c : Nat) (n bi : Int) (e : l = done ++ rest) (hn : n = done.length) (hbi : bi = oI b),
    Ev G ⟨[.inLoop f15x23L, .inBlock 0, .code (.seq (.seq (.region f15x24 false) (.cond (.t 98) (.seq (.region f15x25 false) .ret) .skip)) (.seq (.region f15x26 false) .ret))],
      ⟨(0, .sl 22 (l.map PVRoute.enc)) :: (1, .sl 2 (cs.map IGP.enc)) :: (20, .sl 22 (l.map PVRoute.enc)) :: (21, .int .i64 l.length) :: (22, .int .i64 n) :: (6, .int .i64 bi) :: T, H, c⟩, [.t 4, .t 5], 0⟩ ⟨bestRet (bestR l cs rest done.length b), []⟩
  | [], done, b, hb, T, H, c, n, bi, e, hn, hbi => by
    have hd : l.length = done.length := by simp [e]
    cases b with
    | none =>
      have hbi : bi = -1 := hbi
      refine ev_loop' (W_ok 200 _ _ _ _ ?_)
      repeat (first | refine Exists.intro _ (And.intro (unA_neg_i64 (by omega) (by omega)) ?_) | refine Exists.intro _ (And.intro (binA_quo_i64 (by omega) (by omega) (by omega)) ?_) | refine Exists.intro _ (And.intro (binA_rem_i64 (by omega) (by omega)) ?_) | refine Exists.intro _ (And.intro (binA_sub_i64 (by omega) (by omega)) ?_) | refine Exists.intro _ (And.intro (binA_add_i64 (by omega) (by omega)) ?_) | refine Exists.intro _ (And.intro (conv_i64 (by omega) (by omega)) ?_) | refine Exists.intro _ (And.intro rfl ?_) | refine And.intro rfl ?_ | refine condT ?_ | refine condF ?_ | refine condG1 ?_ | refine condG0 ?_ | refine condDT (by omega) ?_ | refine condDF (by omega) ?_ | refine condBT (by omega) ?_ | refine condBF (by omega) ?_ | refine condNT (by omega) ?_ | refine condNF (by omega) ?_ | refine And.intro (by omega) ?_ | refine And.intro (ble_of (by omega)) ?_ | refine And.intro (room_le (by omega)) ?_ | refine Exists.intro _ (And.intro (by assumption) ?_))
      rfl
    | some b =>
      have hbi : bi = b := hbi
      subst hbi
      refine ev_loop' (W_ok 200 _ _ _ _ ?_)
      repeat (first | refine Exists.intro _ (And.intro (unA_neg_i64 (by omega) (by omega)) ?_) | refine Exists.intro _ (And.intro (binA_quo_i64 (by omega) (by omega) (by omega)) ?_) | refine Exists.intro _ (And.intro (binA_rem_i64 (by omega) (by omega)) ?_) | refine Exists.intro _ (And.intro (binA_sub_i64 (by omega) (by omega)) ?_) | refine Exists.intro _ (And.intro (binA_add_i64 (by omega) (by omega)) ?_) | refine Exists.intro _ (And.intro (conv_i64 (by omega) (by omega)) ?_) | refine Exists.intro _ (And.intro rfl ?_) | refine And.intro rfl ?_ | refine condT ?_ | refine condF ?_ | refine condG1 ?_ | refine condG0 ?_ | refine condDT (by omega) ?_ | refine condDF (by omega) ?_ | refine condBT (by omega) ?_ | refine condBF (by omega) ?_ | refine condNT (by omega) ?_ | refine condNF (by omega) ?_ | refine And.intro (by omega) ?_ | refine And.intro (ble_of (by omega)) ?_ | refine And.intro (room_le (by omega)) ?_ | refine Exists.intro _ (And.intro (by assumption) ?_))
      rfl
  | r :: rs, done, b, hb, T, H, c, n, bi, e, hn, hbi => by
    have hd : l.length = done.length + (rs.length + 1) := by simp [e]
    have hx : (l.map PVRoute.enc)[n.toNat]? = some r.enc := by simp [e, hn]
    have hx0 : l[done.length]? = some r := by simp [e]
    have hlm : (l.map PVRoute.enc).length = l.length := by simp
    have fr := hfit r (List.mem_of_getElem? hx0)
    have hrd : l.getD done.length default = r := by rw [List.getD_eq_getElem?_getD, hx0]; rfl
    have e1 := cost_gives10 cs r (by omega)
    have hdl : (done ++ [r]).length = done.length + 1 := by simp
    have hw : bestR l cs (r :: rs) done.length b = bestR l cs rs (done ++ [r]).length (if winsL l cs done.length r l 0 (costS cs r).2 then bestStep l cs done.length b else b) := by rw [hdl]; rfl
    rw [hw]
    have inner := fun K t cont => wins_loop16 l hl hfit cs hcs done.length r hx0 K t bi (by omega) (costS cs r).2 cont l []
    generalize hwin : winsL l cs done.length r l 0 (costS cs r).2 = win at *
    generalize costS cs r = u at *
    obtain ⟨co, us⟩ := u
    dsimp only at *
    subst hn
    refine ev_loop' (W_ok 200 _ _ _ _ ?_)
    repeat (first | refine Exists.intro _ (And.intro (unA_neg_i64 (by omega) (by omega)) ?_) | refine Exists.intro _ (And.intro (binA_quo_i64 (by omega) (by omega) (by omega)) ?_) | refine Exists.intro _ (And.intro (binA_rem_i64 (by omega) (by omega)) ?_) | refine Exists.intro _ (And.intro (binA_sub_i64 (by omega) (by omega)) ?_) | refine Exists.intro _ (And.intro (binA_add_i64 (by omega) (by omega)) ?_) | refine Exists.intro _ (And.intro (conv_i64 (by omega) (by omega)) ?_) | refine Exists.intro _ (And.intro rfl ?_) | refine And.intro rfl ?_ | refine condT ?_ | refine condF ?_ | refine condG1 ?_ | refine condG0 ?_ | refine condDT (by omega) ?_ | refine condDF (by omega) ?_ | refine condBT (by omega) ?_ | refine condBF (by omega) ?_ | refine condNT (by omega) ?_ | refine condNF (by omega) ?_ | refine And.intro (by omega) ?_ | refine And.intro (ble_of (by omega)) ?_ | refine And.intro (room_le (by omega)) ?_ | refine Exists.intro _ (And.intro (by assumption) ?_))
    refine callV (e1) (by simp [pureL, AV.pure]) (by simp [AV.dry, dryL]) ?_
    repeat (first | refine Exists.intro _ (And.intro (unA_neg_i64 (by omega) (by omega)) ?_) | refine Exists.intro _ (And.intro (binA_quo_i64 (by omega) (by omega) (by omega)) ?_) | refine Exists.intro _ (And.intro (binA_rem_i64 (by omega) (by omega)) ?_) | refine Exists.intro _ (And.intro (binA_sub_i64 (by omega) (by omega)) ?_) | refine Exists.intro _ (And.intro (binA_add_i64 (by omega) (by omega)) ?_) | refine Exists.intro _ (And.intro (conv_i64 (by omega) (by omega)) ?_) | refine Exists.intro _ (And.intro rfl ?_) | refine And.intro rfl ?_ | refine condT ?_ | refine condF ?_ | refine condG1 ?_ | refine condG0 ?_ | refine condDT (by omega) ?_ | refine condDF (by omega) ?_ | refine condBT (by omega) ?_ | refine condBF (by omega) ?_ | refine condNT (by omega) ?_ | refine condNF (by omega) ?_ | refine And.intro (by omega) ?_ | refine And.intro (ble_of (by omega)) ?_ | refine And.intro (room_le (by omega)) ?_ | refine Exists.intro _ (And.intro (by assumption) ?_))
    refine ev_keep [34, 35, 36, 0, 1, 20, 21, 22, 6, 7, 8, 11] [72] ?_
    simp only [hlm]
    refine inner _ _ ?_ _ _ _ _ 0 us rfl rfl hwin.symm
    intro T' H' c' g' acc hacc
    subst hacc
    cases acc with
    | false =>
      refine W_ok 60 _ _ _ _ ?_
      repeat (first | refine Exists.intro _ (And.intro (unA_neg_i64 (by omega) (by omega)) ?_) | refine Exists.intro _ (And.intro (binA_quo_i64 (by omega) (by omega) (by omega)) ?_) | refine Exists.intro _ (And.intro (binA_rem_i64 (by omega) (by omega)) ?_) | refine Exists.intro _ (And.intro (binA_sub_i64 (by omega) (by omega)) ?_) | refine Exists.intro _ (And.intro (binA_add_i64 (by omega) (by omega)) ?_) | refine Exists.intro _ (And.intro (conv_i64 (by omega) (by omega)) ?_) | refine Exists.intro _ (And.intro rfl ?_) | refine And.intro rfl ?_ | refine condT ?_ | refine condF ?_ | refine condG1 ?_ | refine condG0 ?_ | refine condDT (by omega) ?_ | refine condDF (by omega) ?_ | refine condBT (by omega) ?_ | refine condBF (by omega) ?_ | refine condNT (by omega) ?_ | refine condNF (by omega) ?_ | refine And.intro (by omega) ?_ | refine And.intro (ble_of (by omega)) ?_ | refine And.intro (room_le (by omega)) ?_ | refine Exists.intro _ (And.intro (by assumption) ?_))
      refine ev_keep [0, 1, 20, 21, 22, 6] [] ?_
      exact rbest_loop rs (done ++ [r]) b hb _ _ _ _ _ (by simp [e]) (by simp) hbi
    | true =>
      simp only [if_true]
      cases b with
      | none =>
        have hbi : bi = -1 := hbi
        refine W_ok 60 _ _ _ _ ?_
        repeat (first | refine Exists.intro _ (And.intro (unA_neg_i64 (by omega) (by omega)) ?_) | refine Exists.intro _ (And.intro (binA_quo_i64 (by omega) (by omega) (by omega)) ?_) | refine Exists.intro _ (And.intro (binA_rem_i64 (by omega) (by omega)) ?_) | refine Exists.intro _ (And.intro (binA_sub_i64 (by omega) (by omega)) ?_) | refine Exists.intro _ (And.intro (binA_add_i64 (by omega) (by omega)) ?_) | refine Exists.intro _ (And.intro (conv_i64 (by omega) (by omega)) ?_) | refine Exists.intro _ (And.intro rfl ?_) | refine And.intro rfl ?_ | refine condT ?_ | refine condF ?_ | refine condG1 ?_ | refine condG0 ?_ | refine condDT (by omega) ?_ | refine condDF (by omega) ?_ | refine condBT (by omega) ?_ | refine condBF (by omega) ?_ | refine condNT (by omega) ?_ | refine condNF (by omega) ?_ | refine And.intro (by omega) ?_ | refine And.intro (ble_of (by omega)) ?_ | refine And.intro (room_le (by omega)) ?_ | refine Exists.intro _ (And.intro (by assumption) ?_))
        refine ev_keep [0, 1, 20, 21, 22, 6] [] ?_
        exact rbest_loop rs (done ++ [r]) (some done.length) (by intro x hx; cases hx; omega) _ _ _ _ _ (by simp [e]) (by simp) rfl
      | some b =>
        have hbi : bi = b := hbi
        subst hbi
        have hbl : b < l.length := hb b rfl
        obtain ⟨z, hz⟩ : ∃ z, l[b]? = some z := ⟨l[b], List.getElem?_eq_getElem hbl⟩
        have hzd : l.getD b default = z := by rw [List.getD_eq_getElem?_getD, hz]; rfl
        have fz := hfit z (List.mem_of_getElem? hz)
        have hzw : (l.map PVRoute.enc)[((b : Int)).toNat]? = some z.enc := by simp [hz]
        have e3 := compare_gives13 r z cs fr.rb fz.rb fr.ru fz.ru (by omega)
        have hbs : bestStep l cs done.length (some b) = if (compareR r z cs).1 < 0 then some done.length else some b := by show (if (compareR (l.getD done.length default) (l.getD b default) cs).1 < 0 then some done.length else some b) = _; rw [hrd, hzd]
        rw [hbs]
        generalize compareR r z cs = R at *
        obtain ⟨o, st⟩ := R
        dsimp only at *
        by_cases h1 : o < 0
        · rw [if_pos h1]
          refine W_ok 100 _ _ _ _ ?_
          repeat (first | refine Exists.intro _ (And.intro (unA_neg_i64 (by omega) (by omega)) ?_) | refine Exists.intro _ (And.intro (binA_quo_i64 (by omega) (by omega) (by omega)) ?_) | refine Exists.intro _ (And.intro (binA_rem_i64 (by omega) (by omega)) ?_) | refine Exists.intro _ (And.intro (binA_sub_i64 (by omega) (by omega)) ?_) | refine Exists.intro _ (And.intro (binA_add_i64 (by omega) (by omega)) ?_) | refine Exists.intro _ (And.intro (conv_i64 (by omega) (by omega)) ?_) | refine Exists.intro _ (And.intro rfl ?_) | refine And.intro rfl ?_ | refine condT ?_ | refine condF ?_ | refine condG1 ?_ | refine condG0 ?_ | refine condDT (by omega) ?_ | refine condDF (by omega) ?_ | refine condBT (by omega) ?_ | refine condBF (by omega) ?_ | refine condNT (by omega) ?_ | refine condNF (by omega) ?_ | refine And.intro (by omega) ?_ | refine And.intro (ble_of (by omega)) ?_ | refine And.intro (room_le (by omega)) ?_ | refine Exists.intro _ (And.intro (by assumption) ?_))
          refine callV (e3) (by simp [pureL, AV.pure]) (by simp [AV.dry, dryL]) ?_
          repeat (first | refine Exists.intro _ (And.intro (unA_neg_i64 (by omega) (by omega)) ?_) | refine Exists.intro _ (And.intro (binA_quo_i64 (by omega) (by omega) (by omega)) ?_) | refine Exists.intro _ (And.intro (binA_rem_i64 (by omega) (by omega)) ?_) | refine Exists.intro _ (And.intro (binA_sub_i64 (by omega) (by omega)) ?_) | refine Exists.intro _ (And.intro (binA_add_i64 (by omega) (by omega)) ?_) | refine Exists.intro _ (And.intro (conv_i64 (by omega) (by omega)) ?_) | refine Exists.intro _ (And.intro rfl ?_) | refine And.intro rfl ?_ | refine condT ?_ | refine condF ?_ | refine condG1 ?_ | refine condG0 ?_ | refine condDT (by omega) ?_ | refine condDF (by omega) ?_ | refine condBT (by omega) ?_ | refine condBF (by omega) ?_ | refine condNT (by omega) ?_ | refine condNF (by omega) ?_ | refine And.intro (by omega) ?_ | refine And.intro (ble_of (by omega)) ?_ | refine And.intro (room_le (by omega)) ?_ | refine Exists.intro _ (And.intro (by assumption) ?_))
          refine ev_keep [0, 1, 20, 21, 22, 6] [] ?_
          exact rbest_loop rs (done ++ [r]) (some done.length) (by intro x hx; cases hx; omega) _ _ _ _ _ (by simp [e]) (by simp) rfl
        · rw [if_neg h1]
          refine W_ok 100 _ _ _ _ ?_
          repeat (first | refine Exists.intro _ (And.intro (unA_neg_i64 (by omega) (by omega)) ?_) | refine Exists.intro _ (And.intro (binA_quo_i64 (by omega) (by omega) (by omega)) ?_) | refine Exists.intro _ (And.intro (binA_rem_i64 (by omega) (by omega)) ?_) | refine Exists.intro _ (And.intro (binA_sub_i64 (by omega) (by omega)) ?_) | refine Exists.intro _ (And.intro (binA_add_i64 (by omega) (by omega)) ?_) | refine Exists.intro _ (And.intro (conv_i64 (by omega) (by omega)) ?_) | refine Exists.intro _ (And.intro rfl ?_) | refine And.intro rfl ?_ | refine condT ?_ | refine condF ?_ | refine condG1 ?_ | refine condG0 ?_ | refine condDT (by omega) ?_ | refine condDF (by omega) ?_ | refine condBT (by omega) ?_ | refine condBF (by omega) ?_ | refine condNT (by omega) ?_ | refine condNF (by omega) ?_ | refine And.intro (by omega) ?_ | refine And.intro (ble_of (by omega)) ?_ | refine And.intro (room_le (by omega)) ?_ | refine Exists.intro _ (And.intro (by assumption) ?_))
          refine callV (e3) (by simp [pureL, AV.pure]) (by simp [AV.dry, dryL]) ?_
          repeat (first | refine Exists.intro _ (And.intro (unA_neg_i64 (by omega) (by omega)) ?_) | refine Exists.intro _ (And.intro (binA_quo_i64 (by omega) (by omega) (by omega)) ?_) | refine Exists.intro _ (And.intro (binA_rem_i64 (by omega) (by omega)) ?_) | refine Exists.intro _ (And.intro (binA_sub_i64 (by omega) (by omega)) ?_) | refine Exists.intro _ (And.intro (binA_add_i64 (by omega) (by omega)) ?_) | refine Exists.intro _ (And.intro (conv_i64 (by omega) (by omega)) ?_) | refine Exists.intro _ (And.intro rfl ?_) | refine And.intro rfl ?_ | refine condT ?_ | refine condF ?_ | refine condG1 ?_ | refine condG0 ?_ | refine condDT (by omega) ?_ | refine condDF (by omega) ?_ | refine condBT (by omega) ?_ | refine condBF (by omega) ?_ | refine condNT (by omega) ?_ | refine condNF (by omega) ?_ | refine And.intro (by omega) ?_ | refine And.intro (ble_of (by omega)) ?_ | refine And.intro (room_le (by omega)) ?_ | refine Exists.intro _ (And.intro (by assumption) ?_))
          refine ev_keep [0, 1, 20, 21, 22, 6] [] ?_
          exact rbest_loop rs (done ++ [r]) (some b) (by intro x hx; cases hx; exact hbl) _ _ _ _ _ (by simp [e]) (by simp) rfl
theorem best_gives15 : Gives G 15 [.sl 22 (l.map PVRoute.enc), .sl 2 (cs.map IGP.enc)] [] ⟨bestRet (bestR l cs l 0 none), []⟩ := by
  have key := rbest_loop l hl hfit cs hcs l [] none (by intro x hx; cases hx)
  refine gives_code (F := f15) rfl rfl (W_ok 60 _ _ _ _ ?_)
  repeat (first | refine Exists.intro _ (And.intro (unA_neg_i64 (by omega) (by omega)) ?_) | refine Exists.intro _ (And.intro (binA_quo_i64 (by omega) (by omega) (by omega)) ?_) | refine Exists.intro _ (And.intro (binA_rem_i64 (by omega) (by omega)) ?_) | refine Exists.intro _ (And.intro (binA_sub_i64 (by omega) (by omega)) ?_) | refine Exists.intro _ (And.intro (binA_add_i64 (by omega) (by omega)) ?_) | refine Exists.intro _ (And.intro (conv_i64 (by omega) (by omega)) ?_) | refine Exists.intro _ (And.intro rfl ?_) | refine And.intro rfl ?_ | refine condT ?_ | refine condF ?_ | refine condG1 ?_ | refine condG0 ?_ | refine condDT (by omega) ?_ | refine condDF (by omega) ?_ | refine condBT (by omega) ?_ | refine condBF (by omega) ?_ | refine condNT (by omega) ?_ | refine condNF (by omega) ?_ | refine And.intro (by omega) ?_ | refine And.intro (ble_of (by omega)) ?_ | refine And.intro (room_le (by omega)) ?_ | refine Exists.intro _ (And.intro (by assumption) ?_))
  refine ev_keep [0, 1, 20, 21, 22, 6] [] ?_
  simp only [List.length_map]
  exact key _ _ _ 0 _ rfl rfl rfl
end
end Go.AM.IR
namespace Go.AM.IR
set_option maxHeartbeats 4000000
set_option maxRecDepth 100000
def eqStep (l : List PVRoute) (cs : List IGP) (best : Nat) (n : Int) (r : PVRoute) (i : Nat) (out : List Nat) : List Nat :=
  if (costS cs r).2 && decide (i ≠ best) && decide ((out.length : Int) < n) && (decide ((compareR r (l.getD best default) cs).2 = 0) || decide ((compareR r (l.getD best default) cs).2 > 7)) then out ++ [i] else out
def eqL (l : List PVRoute) (cs : List IGP) (best : Nat) (n : Int) : List PVRoute → Nat → List Nat → List Nat
  | [], _, out => out
  | r :: rs, i, out => eqL l cs best n rs (i + 1) (eqStep l cs best n r i out)
section
variable (l : List PVRoute) (hl : l.length < 2 ^ 40) (hfit : ∀ r ∈ l, Fit r) (cs : List IGP) (hcs : cs.length < 2 ^ 40) (best : Nat) (z : PVRoute) (hz : l[best]? = some z) (nn : Int)
include hl hfit hcs hz
theorem eq_loop16 : ∀ (rest done : List PVRoute) (out : List Nat) (hol : out.length ≤ done.length + 1) (T : List (Nat × AV)) (H : Heap) (c g m : Nat) (k : Int) (es : List (List AV)) (e : l = done ++ rest) (hk : k = done.length) (hm : m = out.length) (hes : es = out.map idxE),
    Ev G ⟨[.inLoop f16x13L, .inBlock 0, .code (.seq (.region f16x14 false) .ret)],
      ⟨(30, .sl 22 (l.map PVRoute.enc)) :: (31, .int .i64 l.length) :: (32, .int .i64 k) :: (0, .sl 22 (l.map PVRoute.enc)) :: (1, .sl 2 (cs.map IGP.enc)) :: (2, .int .i64 nn) :: (7, .int .i64 best) :: (9, .vs 93 g m) :: T, (93, some (g, .vec 1 es)) :: H, c⟩, [.t 6], 0⟩
      ⟨.vs 0 0 (eqL l cs best nn rest done.length out).length, [(false, .vec 1 ((eqL l cs best nn rest done.length out).map idxE))]⟩
  | [], done, out, hol, T, H, c, g, m, k, es, e, hk, hm, hes => by
    have hd : l.length = done.length := by simp [e]
    refine ev_loop' (W_ok 200 _ _ _ _ ?_)
    repeat (first | refine Exists.intro _ (And.intro (unA_neg_i64 (by omega) (by omega)) ?_) | refine Exists.intro _ (And.intro (binA_quo_i64 (by omega) (by omega) (by omega)) ?_) | refine Exists.intro _ (And.intro (binA_rem_i64 (by omega) (by omega)) ?_) | refine Exists.intro _ (And.intro (binA_sub_i64 (by omega) (by omega)) ?_) | refine Exists.intro _ (And.intro (binA_add_i64 (by omega) (by omega)) ?_) | refine Exists.intro _ (And.intro (conv_i64 (by omega) (by omega)) ?_) | refine Exists.intro _ (And.intro rfl ?_) | refine And.intro rfl ?_ | refine condT ?_ | refine condF ?_ | refine condG1 ?_ | refine condG0 ?_ | refine condDT (by omega) ?_ | refine condDF (by omega) ?_ | refine condBT (by omega) ?_ | refine condBF (by omega) ?_ | refine condNT (by omega) ?_ | refine condNF (by omega) ?_ | refine And.intro (by omega) ?_ | refine And.intro (ble_of (by omega)) ?_ | refine And.intro (room_le (by omega)) ?_ | refine Exists.intro _ (And.intro (by assumption) ?_))
    refine ret_vs 93 g m (.vec 1 es) ?_ ?_ (by rw [hes]; exact pure_idx _) hm (by rw [hes]; rfl)
    · rfl
    · rfl
  | r :: rs, done, out, hol, T, H, c, g, m, k, es, e, hk, hm, hes => by
    have hd : l.length = done.length + (rs.length + 1) := by simp [e]
    have hx : (l.map PVRoute.enc)[k.toNat]? = some r.enc := by simp [e, hk]
    have hrl : r ∈ l := by simp [e]
    have fr := hfit r hrl
    have fz := hfit z (List.mem_of_getElem? hz)
    have hzd : l.getD best default = z := by rw [List.getD_eq_getElem?_getD, hz]; rfl
    have hzw : (l.map PVRoute.enc)[((best : Int)).toNat]? = some z.enc := by simp [hz]
    have e1 := cost_gives9 cs r (by omega)
    have e3 := compare_gives12 r z cs fr.rb fz.rb (by omega)
    rw [compare_same] at e3
    have hlen : es.length = out.length := by rw [hes]; simp
    have hdl : (done ++ [r]).length = done.length + 1 := by simp
    have hw : eqL l cs best nn (r :: rs) done.length out = eqL l cs best nn rs (done ++ [r]).length (eqStep l cs best nn r done.length out) := by rw [hdl]; rfl
    rw [hw]
    have hst : eqStep l cs best nn r done.length out = if (costS cs r).2 && decide (done.length ≠ best) && decide ((out.length : Int) < nn) && (decide ((compareR r z cs).2 = 0) || decide ((compareR r z cs).2 > 7)) then out ++ [done.length] else out := by
      unfold eqStep; rw [hzd]
    rw [hst]
    generalize costS cs r = u at *
    obtain ⟨co, us⟩ := u
    generalize compareR r z cs = R at *
    obtain ⟨o, st⟩ := R
    dsimp only at *
    cases us with
    | false =>
      simp only [Bool.false_and, Bool.false_eq_true, if_false]
      refine ev_loop' (W_ok 200 _ _ _ _ ?_)
      repeat (first | refine Exists.intro _ (And.intro (unA_neg_i64 (by omega) (by omega)) ?_) | refine Exists.intro _ (And.intro (binA_quo_i64 (by omega) (by omega) (by omega)) ?_) | refine Exists.intro _ (And.intro (binA_rem_i64 (by omega) (by omega)) ?_) | refine Exists.intro _ (And.intro (binA_sub_i64 (by omega) (by omega)) ?_) | refine Exists.intro _ (And.intro (binA_add_i64 (by omega) (by omega)) ?_) | refine Exists.intro _ (And.intro (conv_i64 (by omega) (by omega)) ?_) | refine Exists.intro _ (And.intro rfl ?_) | refine And.intro rfl ?_ | refine condT ?_ | refine condF ?_ | refine condG1 ?_ | refine condG0 ?_ | refine condDT (by omega) ?_ | refine condDF (by omega) ?_ | refine condBT (by omega) ?_ | refine condBF (by omega) ?_ | refine condNT (by omega) ?_ | refine condNF (by omega) ?_ | refine And.intro (by omega) ?_ | refine And.intro (ble_of (by omega)) ?_ | refine And.intro (room_le (by omega)) ?_ | refine Exists.intro _ (And.intro (by assumption) ?_))
      refine callV (e1) (by simp [pureL, AV.pure]) (by simp [AV.dry, dryL]) ?_
      repeat (first | refine Exists.intro _ (And.intro (unA_neg_i64 (by omega) (by omega)) ?_) | refine Exists.intro _ (And.intro (binA_quo_i64 (by omega) (by omega) (by omega)) ?_) | refine Exists.intro _ (And.intro (binA_rem_i64 (by omega) (by omega)) ?_) | refine Exists.intro _ (And.intro (binA_sub_i64 (by omega) (by omega)) ?_) | refine Exists.intro _ (And.intro (binA_add_i64 (by omega) (by omega)) ?_) | refine Exists.intro _ (And.intro (conv_i64 (by omega) (by omega)) ?_) | refine Exists.intro _ (And.intro rfl ?_) | refine And.intro rfl ?_ | refine condT ?_ | refine condF ?_ | refine condG1 ?_ | refine condG0 ?_ | refine condDT (by omega) ?_ | refine condDF (by omega) ?_ | refine condBT (by omega) ?_ | refine condBF (by omega) ?_ | refine condNT (by omega) ?_ | refine condNF (by omega) ?_ | refine And.intro (by omega) ?_ | refine And.intro (ble_of (by omega)) ?_ | refine And.intro (room_le (by omega)) ?_ | refine Exists.intro _ (And.intro (by assumption) ?_))
      refine callV (e3) (by simp [pureL, AV.pure]) (by simp [AV.dry, dryL]) ?_
      repeat (first | refine Exists.intro _ (And.intro (unA_neg_i64 (by omega) (by omega)) ?_) | refine Exists.intro _ (And.intro (binA_quo_i64 (by omega) (by omega) (by omega)) ?_) | refine Exists.intro _ (And.intro (binA_rem_i64 (by omega) (by omega)) ?_) | refine Exists.intro _ (And.intro (binA_sub_i64 (by omega) (by omega)) ?_) | refine Exists.intro _ (And.intro (binA_add_i64 (by omega) (by omega)) ?_) | refine Exists.intro _ (And.intro (conv_i64 (by omega) (by omega)) ?_) | refine Exists.intro _ (And.intro rfl ?_) | refine And.intro rfl ?_ | refine condT ?_ | refine condF ?_ | refine condG1 ?_ | refine condG0 ?_ | refine condDT (by omega) ?_ | refine condDF (by omega) ?_ | refine condBT (by omega) ?_ | refine condBF (by omega) ?_ | refine condNT (by omega) ?_ | refine condNF (by omega) ?_ | refine And.intro (by omega) ?_ | refine And.intro (ble_of (by omega)) ?_ | refine And.intro (room_le (by omega)) ?_ | refine Exists.intro _ (And.intro (by assumption) ?_))
      refine ev_keep [30, 31, 32, 0, 1, 2, 7, 9] [93] ?_
      exact eq_loop16 rs (done ++ [r]) out (by simp; omega) _ _ _ _ _ (k + 1) es (by simp [e]) (by simp [hk]) hm hes
    | true =>
      by_cases hb : done.length = best
      · have hb' : k = (best : Int) := by omega
        simp only [hb, ne_eq, not_true_eq_false, decide_false, Bool.and_false, Bool.false_and, Bool.false_eq_true, if_false]
        refine ev_loop' (W_ok 200 _ _ _ _ ?_)
        repeat (first | refine Exists.intro _ (And.intro (unA_neg_i64 (by omega) (by omega)) ?_) | refine Exists.intro _ (And.intro (binA_quo_i64 (by omega) (by omega) (by omega)) ?_) | refine Exists.intro _ (And.intro (binA_rem_i64 (by omega) (by omega)) ?_) | refine Exists.intro _ (And.intro (binA_sub_i64 (by omega) (by omega)) ?_) | refine Exists.intro _ (And.intro (binA_add_i64 (by omega) (by omega)) ?_) | refine Exists.intro _ (And.intro (conv_i64 (by omega) (by omega)) ?_) | refine Exists.intro _ (And.intro rfl ?_) | refine And.intro rfl ?_ | refine condT ?_ | refine condF ?_ | refine condG1 ?_ | refine condG0 ?_ | refine condDT (by omega) ?_ | refine condDF (by omega) ?_ | refine condBT (by omega) ?_ | refine condBF (by omega) ?_ | refine condNT (by omega) ?_ | refine condNF (by omega) ?_ | refine And.intro (by omega) ?_ | refine And.intro (ble_of (by omega)) ?_ | refine And.intro (room_le (by omega)) ?_ | refine Exists.intro _ (And.intro (by assumption) ?_))
        refine callV (e1) (by simp [pureL, AV.pure]) (by simp [AV.dry, dryL]) ?_
        repeat (first | refine Exists.intro _ (And.intro (unA_neg_i64 (by omega) (by omega)) ?_) | refine Exists.intro _ (And.intro (binA_quo_i64 (by omega) (by omega) (by omega)) ?_) | refine Exists.intro _ (And.intro (binA_rem_i64 (by omega) (by omega)) ?_) | refine Exists.intro _ (And.intro (binA_sub_i64 (by omega) (by omega)) ?_) | refine Exists.intro _ (And.intro (binA_add_i64 (by omega) (by omega)) ?_) | refine Exists.intro _ (And.intro (conv_i64 (by omega) (by omega)) ?_) | refine Exists.intro _ (And.intro rfl ?_) | refine And.intro rfl ?_ | refine condT ?_ | refine condF ?_ | refine condG1 ?_ | refine condG0 ?_ | refine condDT (by omega) ?_ | refine condDF (by omega) ?_ | refine condBT (by omega) ?_ | refine condBF (by omega) ?_ | refine condNT (by omega) ?_ | refine condNF (by omega) ?_ | refine And.intro (by omega) ?_ | refine And.intro (ble_of (by omega)) ?_ | refine And.intro (room_le (by omega)) ?_ | refine Exists.intro _ (And.intro (by assumption) ?_))
        refine callV (e3) (by simp [pureL, AV.pure]) (by simp [AV.dry, dryL]) ?_
        repeat (first | refine Exists.intro _ (And.intro (unA_neg_i64 (by omega) (by omega)) ?_) | refine Exists.intro _ (And.intro (binA_quo_i64 (by omega) (by omega) (by omega)) ?_) | refine Exists.intro _ (And.intro (binA_rem_i64 (by omega) (by omega)) ?_) | refine Exists.intro _ (And.intro (binA_sub_i64 (by omega) (by omega)) ?_) | refine Exists.intro _ (And.intro (binA_add_i64 (by omega) (by omega)) ?_) | refine Exists.intro _ (And.intro (conv_i64 (by omega) (by omega)) ?_) | refine Exists.intro _ (And.intro rfl ?_) | refine And.intro rfl ?_ | refine condT ?_ | refine condF ?_ | refine condG1 ?_ | refine condG0 ?_ | refine condDT (by omega) ?_ | refine condDF (by omega) ?_ | refine condBT (by omega) ?_ | refine condBF (by omega) ?_ | refine condNT (by omega) ?_ | refine condNF (by omega) ?_ | refine And.intro (by omega) ?_ | refine And.intro (ble_of (by omega)) ?_ | refine And.intro (room_le (by omega)) ?_ | refine Exists.intro _ (And.intro (by assumption) ?_))
        refine ev_keep [30, 31, 32, 0, 1, 2, 7, 9] [93] ?_
        exact eq_loop16 rs (done ++ [r]) out (by simp; omega) _ _ _ _ _ (k + 1) es (by simp [e]) (by simp [hk]) hm hes
      · have hb' : ¬ k = (best : Int) := by omega
        by_cases hn : (out.length : Int) < nn
        · have hn' : (m : Int) < nn := by omega
          by_cases h0 : st = 0
          · simp only [hb, hn, h0, ne_eq, not_false_eq_true, decide_true, Bool.and_self, Bool.true_and, Bool.true_or, if_true]
            refine ev_loop' (W_ok 200 _ _ _ _ ?_)
            repeat (first | refine Exists.intro _ (And.intro (unA_neg_i64 (by omega) (by omega)) ?_) | refine Exists.intro _ (And.intro (binA_quo_i64 (by omega) (by omega) (by omega)) ?_) | refine Exists.intro _ (And.intro (binA_rem_i64 (by omega) (by omega)) ?_) | refine Exists.intro _ (And.intro (binA_sub_i64 (by omega) (by omega)) ?_) | refine Exists.intro _ (And.intro (binA_add_i64 (by omega) (by omega)) ?_) | refine Exists.intro _ (And.intro (conv_i64 (by omega) (by omega)) ?_) | refine Exists.intro _ (And.intro rfl ?_) | refine And.intro rfl ?_ | refine condT ?_ | refine condF ?_ | refine condG1 ?_ | refine condG0 ?_ | refine condDT (by omega) ?_ | refine condDF (by omega) ?_ | refine condBT (by omega) ?_ | refine condBF (by omega) ?_ | refine condNT (by omega) ?_ | refine condNF (by omega) ?_ | refine And.intro (by omega) ?_ | refine And.intro (ble_of (by omega)) ?_ | refine And.intro (room_le (by omega)) ?_ | refine Exists.intro _ (And.intro (by assumption) ?_))
            refine callV (e1) (by simp [pureL, AV.pure]) (by simp [AV.dry, dryL]) ?_
            repeat (first | refine Exists.intro _ (And.intro (unA_neg_i64 (by omega) (by omega)) ?_) | refine Exists.intro _ (And.intro (binA_quo_i64 (by omega) (by omega) (by omega)) ?_) | refine Exists.intro _ (And.intro (binA_rem_i64 (by omega) (by omega)) ?_) | refine Exists.intro _ (And.intro (binA_sub_i64 (by omega) (by omega)) ?_) | refine Exists.intro _ (And.intro (binA_add_i64 (by omega) (by omega)) ?_) | refine Exists.intro _ (And.intro (conv_i64 (by omega) (by omega)) ?_) | refine Exists.intro _ (And.intro rfl ?_) | refine And.intro rfl ?_ | refine condT ?_ | refine condF ?_ | refine condG1 ?_ | refine condG0 ?_ | refine condDT (by omega) ?_ | refine condDF (by omega) ?_ | refine condBT (by omega) ?_ | refine condBF (by omega) ?_ | refine condNT (by omega) ?_ | refine condNF (by omega) ?_ | refine And.intro (by omega) ?_ | refine And.intro (ble_of (by omega)) ?_ | refine And.intro (room_le (by omega)) ?_ | refine Exists.intro _ (And.intro (by assumption) ?_))
            refine callV (e3) (by simp [pureL, AV.pure]) (by simp [AV.dry, dryL]) ?_
            repeat (first | refine Exists.intro _ (And.intro (unA_neg_i64 (by omega) (by omega)) ?_) | refine Exists.intro _ (And.intro (binA_quo_i64 (by omega) (by omega) (by omega)) ?_) | refine Exists.intro _ (And.intro (binA_rem_i64 (by omega) (by omega)) ?_) | refine Exists.intro _ (And.intro (binA_sub_i64 (by omega) (by omega)) ?_) | refine Exists.intro _ (And.intro (binA_add_i64 (by omega) (by omega)) ?_) | refine Exists.intro _ (And.intro (conv_i64 (by omega) (by omega)) ?_) | refine Exists.intro _ (And.intro rfl ?_) | refine And.intro rfl ?_ | refine condT ?_ | refine condF ?_ | refine condG1 ?_ | refine condG0 ?_ | refine condDT (by omega) ?_ | refine condDF (by omega) ?_ | refine condBT (by omega) ?_ | refine condBF (by omega) ?_ | refine condNT (by omega) ?_ | refine condNF (by omega) ?_ | refine And.intro (by omega) ?_ | refine And.intro (ble_of (by omega)) ?_ | refine And.intro (room_le (by omega)) ?_ | refine Exists.intro _ (And.intro (by assumption) ?_))
            refine And.intro (room_le (by show (m + 1) * 9 ≤ _; omega)) ?_
            repeat (first | refine Exists.intro _ (And.intro (unA_neg_i64 (by omega) (by omega)) ?_) | refine Exists.intro _ (And.intro (binA_quo_i64 (by omega) (by omega) (by omega)) ?_) | refine Exists.intro _ (And.intro (binA_rem_i64 (by omega) (by omega)) ?_) | refine Exists.intro _ (And.intro (binA_sub_i64 (by omega) (by omega)) ?_) | refine Exists.intro _ (And.intro (binA_add_i64 (by omega) (by omega)) ?_) | refine Exists.intro _ (And.intro (conv_i64 (by omega) (by omega)) ?_) | refine Exists.intro _ (And.intro rfl ?_) | refine And.intro rfl ?_ | refine condT ?_ | refine condF ?_ | refine condG1 ?_ | refine condG0 ?_ | refine condDT (by omega) ?_ | refine condDF (by omega) ?_ | refine condBT (by omega) ?_ | refine condBF (by omega) ?_ | refine condNT (by omega) ?_ | refine condNF (by omega) ?_ | refine And.intro (by omega) ?_ | refine And.intro (ble_of (by omega)) ?_ | refine And.intro (room_le (by omega)) ?_ | refine Exists.intro _ (And.intro (by assumption) ?_))
            refine ev_keep [30, 31, 32, 0, 1, 2, 7, 9] [93] ?_
            refine eq_loop16 rs (done ++ [r]) (out ++ [done.length]) (by simp; omega) _ _ _ _ _ (k + 1) _ (by simp [e]) (by simp [hk]) ?_ ?_
            · rw [hm]; simp [repl]
            · rw [hm, ← hlen, List.take_length, hes]; simp [repl, idxE, hk]
          · by_cases h7 : st > 7
            · simp only [hb, hn, h0, h7, ne_eq, not_false_eq_true, decide_true, decide_false, Bool.and_self, Bool.true_and, Bool.false_or, if_true]
              refine ev_loop' (W_ok 200 _ _ _ _ ?_)
              repeat (first | refine Exists.intro _ (And.intro (unA_neg_i64 (by omega) (by omega)) ?_) | refine Exists.intro _ (And.intro (binA_quo_i64 (by omega) (by omega) (by omega)) ?_) | refine Exists.intro _ (And.intro (binA_rem_i64 (by omega) (by omega)) ?_) | refine Exists.intro _ (And.intro (binA_sub_i64 (by omega) (by omega)) ?_) | refine Exists.intro _ (And.intro (binA_add_i64 (by omega) (by omega)) ?_) | refine Exists.intro _ (And.intro (conv_i64 (by omega) (by omega)) ?_) | refine Exists.intro _ (And.intro rfl ?_) | refine And.intro rfl ?_ | refine condT ?_ | refine condF ?_ | refine condG1 ?_ | refine condG0 ?_ | refine condDT (by omega) ?_ | refine condDF (by omega) ?_ | refine condBT (by omega) ?_ | refine condBF (by omega) ?_ | refine condNT (by omega) ?_ | refine condNF (by omega) ?_ | refine And.intro (by omega) ?_ | refine And.intro (ble_of (by omega)) ?_ | refine And.intro (room_le (by omega)) ?_ | refine Exists.intro _ (And.intro (by assumption) ?_))
              refine callV (e1) (by simp [pureL, AV.pure]) (by simp [AV.dry, dryL]) ?_
              repeat (first | refine Exists.intro _ (And.intro (unA_neg_i64 (by omega) (by omega)) ?_) | refine Exists.intro _ (And.intro (binA_quo_i64 (by omega) (by omega) (by omega)) ?_) | refine Exists.intro _ (And.intro (binA_rem_i64 (by omega) (by omega)) ?_) | refine Exists.intro _ (And.intro (binA_sub_i64 (by omega) (by omega)) ?_) | refine Exists.intro _ (And.intro (binA_add_i64 (by omega) (by omega)) ?_) | refine Exists.intro _ (And.intro (conv_i64 (by omega) (by omega)) ?_) | refine Exists.intro _ (And.intro rfl ?_) | refine And.intro rfl ?_ | refine condT ?_ | refine condF ?_ | refine condG1 ?_ | refine condG0 ?_ | refine condDT (by omega) ?_ | refine condDF (by omega) ?_ | refine condBT (by omega) ?_ | refine condBF (by omega) ?_ | refine condNT (by omega) ?_ | refine condNF (by omega) ?_ | refine And.intro (by omega) ?_ | refine And.intro (ble_of (by omega)) ?_ | refine And.intro (room_le (by omega)) ?_ | refine Exists.intro _ (And.intro (by assumption) ?_))
              refine callV (e3) (by simp [pureL, AV.pure]) (by simp [AV.dry, dryL]) ?_
              repeat (first | refine Exists.intro _ (And.intro (unA_neg_i64 (by omega) (by omega)) ?_) | refine Exists.intro _ (And.intro (binA_quo_i64 (by omega) (by omega) (by omega)) ?_) | refine Exists.intro _ (And.intro (binA_rem_i64 (by omega) (by omega)) ?_) | refine Exists.intro _ (And.intro (binA_sub_i64 (by omega) (by omega)) ?_) | refine Exists.intro _ (And.intro (binA_add_i64 (by omega) (by omega)) ?_) | refine Exists.intro _ (And.intro (conv_i64 (by omega) (by omega)) ?_) | refine Exists.intro _ (And.intro rfl ?_) | refine And.intro rfl ?_ | refine condT ?_ | refine condF ?_ | refine condG1 ?_ | refine condG0 ?_ | refine condDT (by omega) ?_ | refine condDF (by omega) ?_ | refine condBT (by omega) ?_ | refine condBF (by omega) ?_ | refine condNT (by omega) ?_ | refine condNF (by omega) ?_ | refine And.intro (by omega) ?_ | refine And.intro (ble_of (by omega)) ?_ | refine And.intro (room_le (by omega)) ?_ | refine Exists.intro _ (And.intro (by assumption) ?_))
              refine And.intro (room_le (by show (m + 1) * 9 ≤ _; omega)) ?_
              repeat (first | refine Exists.intro _ (And.intro (unA_neg_i64 (by omega) (by omega)) ?_) | refine Exists.intro _ (And.intro (binA_quo_i64 (by omega) (by omega) (by omega)) ?_) | refine Exists.intro _ (And.intro (binA_rem_i64 (by omega) (by omega)) ?_) | refine Exists.intro _ (And.intro (binA_sub_i64 (by omega) (by omega)) ?_) | refine Exists.intro _ (And.intro (binA_add_i64 (by omega) (by omega)) ?_) | refine Exists.intro _ (And.intro (conv_i64 (by omega) (by omega)) ?_) | refine Exists.intro _ (And.intro rfl ?_) | refine And.intro rfl ?_ | refine condT ?_ | refine condF ?_ | refine condG1 ?_ | refine condG0 ?_ | refine condDT (by omega) ?_ | refine condDF (by omega) ?_ | refine condBT (by omega) ?_ | refine condBF (by omega) ?_ | refine condNT (by omega) ?_ | refine condNF (by omega) ?_ | refine And.intro (by omega) ?_ | refine And.intro (ble_of (by omega)) ?_ | refine And.intro (room_le (by omega)) ?_ | refine Exists.intro _ (And.intro (by assumption) ?_))
              refine ev_keep [30, 31, 32, 0, 1, 2, 7, 9] [93] ?_
              refine eq_loop16 rs (done ++ [r]) (out ++ [done.length]) (by simp; omega) _ _ _ _ _ (k + 1) _ (by simp [e]) (by simp [hk]) ?_ ?_
              · rw [hm]; simp [repl]
              · rw [hm, ← hlen, List.take_length, hes]; simp [repl, idxE, hk]
            · simp only [hb, hn, h0, h7, ne_eq, not_false_eq_true, decide_true, decide_false, Bool.and_self, Bool.and_false, Bool.false_or, Bool.false_eq_true, if_false]
              refine ev_loop' (W_ok 200 _ _ _ _ ?_)
              repeat (first | refine Exists.intro _ (And.intro (unA_neg_i64 (by omega) (by omega)) ?_) | refine Exists.intro _ (And.intro (binA_quo_i64 (by omega) (by omega) (by omega)) ?_) | refine Exists.intro _ (And.intro (binA_rem_i64 (by omega) (by omega)) ?_) | refine Exists.intro _ (And.intro (binA_sub_i64 (by omega) (by omega)) ?_) | refine Exists.intro _ (And.intro (binA_add_i64 (by omega) (by omega)) ?_) | refine Exists.intro _ (And.intro (conv_i64 (by omega) (by omega)) ?_) | refine Exists.intro _ (And.intro rfl ?_) | refine And.intro rfl ?_ | refine condT ?_ | refine condF ?_ | refine condG1 ?_ | refine condG0 ?_ | refine condDT (by omega) ?_ | refine condDF (by omega) ?_ | refine condBT (by omega) ?_ | refine condBF (by omega) ?_ | refine condNT (by omega) ?_ | refine condNF (by omega) ?_ | refine And.intro (by omega) ?_ | refine And.intro (ble_of (by omega)) ?_ | refine And.intro (room_le (by omega)) ?_ | refine Exists.intro _ (And.intro (by assumption) ?_))
              refine callV (e1) (by simp [pureL, AV.pure]) (by simp [AV.dry, dryL]) ?_
              repeat (first | refine Exists.intro _ (And.intro (unA_neg_i64 (by omega) (by omega)) ?_) | refine Exists.intro _ (And.intro (binA_quo_i64 (by omega) (by omega) (by omega)) ?_) | refine Exists.intro _ (And.intro (binA_rem_i64 (by omega) (by omega)) ?_) | refine Exists.intro _ (And.intro (binA_sub_i64 (by omega) (by omega)) ?_) | refine Exists.intro _ (And.intro (binA_add_i64 (by omega) (by omega)) ?_) | refine Exists.intro _ (And.intro (conv_i64 (by omega) (by omega)) ?_) | refine Exists.intro _ (And.intro rfl ?_) | refine And.intro rfl ?_ | refine condT ?_ | refine condF ?_ | refine condG1 ?_ | refine condG0 ?_ | refine condDT (by omega) ?_ | refine condDF (by omega) ?_ | refine condBT (by omega) ?_ | refine condBF (by omega) ?_ | refine condNT (by omega) ?_ | refine condNF (by omega) ?_ | refine And.intro (by omega) ?_ | refine And.intro (ble_of (by omega)) ?_ | refine And.intro (room_le (by omega)) ?_ | refine Exists.intro _ (And.intro (by assumption) ?_))
              refine callV (e3) (by simp [pureL, AV.pure]) (by simp [AV.dry, dryL]) ?_
              repeat (first | refine Exists.intro _ (And.intro (unA_neg_i64 (by omega) (by omega)) ?_) | refine Exists.intro _ (And.intro (binA_quo_i64 (by omega) (by omega) (by omega)) ?_) | refine Exists.intro _ (And.intro (binA_rem_i64 (by omega) (by omega)) ?_) | refine Exists.intro _ (And.intro (binA_sub_i64 (by omega) (by omega)) ?_) | refine Exists.intro _ (And.intro (binA_add_i64 (by omega) (by omega)) ?_) | refine Exists.intro _ (And.intro (conv_i64 (by omega) (by omega)) ?_) | refine Exists.intro _ (And.intro rfl ?_) | refine And.intro rfl ?_ | refine condT ?_ | refine condF ?_ | refine condG1 ?_ | refine condG0 ?_ | refine condDT (by omega) ?_ | refine condDF (by omega) ?_ | refine condBT (by omega) ?_ | refine condBF (by omega) ?_ | refine condNT (by omega) ?_ | refine condNF (by omega) ?_ | refine And.intro (by omega) ?_ | refine And.intro (ble_of (by omega)) ?_ | refine And.intro (room_le (by omega)) ?_ | refine Exists.intro _ (And.intro (by assumption) ?_))
              refine ev_keep [30, 31, 32, 0, 1, 2, 7, 9] [93] ?_
              exact eq_loop16 rs (done ++ [r]) out (by simp; omega) _ _ _ _ _ (k + 1) es (by simp [e]) (by simp [hk]) hm hes
        · have hn' : ¬ (m : Int) < nn := by omega
          simp only [hn, decide_false, Bool.and_false, Bool.false_and, Bool.false_eq_true, if_false]
          refine ev_loop' (W_ok 200 _ _ _ _ ?_)
          repeat (first | refine Exists.intro _ (And.intro (unA_neg_i64 (by omega) (by omega)) ?_) | refine Exists.intro _ (And.intro (binA_quo_i64 (by omega) (by omega) (by omega)) ?_) | refine Exists.intro _ (And.intro (binA_rem_i64 (by omega) (by omega)) ?_) | refine Exists.intro _ (And.intro (binA_sub_i64 (by omega) (by omega)) ?_) | refine Exists.intro _ (And.intro (binA_add_i64 (by omega) (by omega)) ?_) | refine Exists.intro _ (And.intro (conv_i64 (by omega) (by omega)) ?_) | refine Exists.intro _ (And.intro rfl ?_) | refine And.intro rfl ?_ | refine condT ?_ | refine condF ?_ | refine condG1 ?_ | refine condG0 ?_ | refine condDT (by omega) ?_ | refine condDF (by omega) ?_ | refine condBT (by omega) ?_ | refine condBF (by omega) ?_ | refine condNT (by omega) ?_ | refine condNF (by omega) ?_ | refine And.intro (by omega) ?_ | refine And.intro (ble_of (by omega)) ?_ | refine And.intro (room_le (by omega)) ?_ | refine Exists.intro _ (And.intro (by assumption) ?_))
          refine callV (e1) (by simp [pureL, AV.pure]) (by simp [AV.dry, dryL]) ?_
          repeat (first | refine Exists.intro _ (And.intro (unA_neg_i64 (by omega) (by omega)) ?_) | refine Exists.intro _ (And.intro (binA_quo_i64 (by omega) (by omega) (by omega)) ?_) | refine Exists.intro _ (And.intro (binA_rem_i64 (by omega) (by omega)) ?_) | refine Exists.intro _ (And.intro (binA_sub_i64 (by omega) (by omega)) ?_) | refine Exists.intro _ (And.intro (binA_add_i64 (by omega) (by omega)) ?_) | refine Exists.intro _ (And.intro (conv_i64 (by omega) (by omega)) ?_) | refine Exists.intro _ (And.intro rfl ?_) | refine And.intro rfl ?_ | refine condT ?_ | refine condF ?_ | refine condG1 ?_ | refine condG0 ?_ | refine condDT (by omega) ?_ | refine condDF (by omega) ?_ | refine condBT (by omega) ?_ | refine condBF (by omega) ?_ | refine condNT (by omega) ?_ | refine condNF (by omega) ?_ | refine And.intro (by omega) ?_ | refine And.intro (ble_of (by omega)) ?_ | refine And.intro (room_le (by omega)) ?_ | refine Exists.intro _ (And.intro (by assumption) ?_))
          refine callV (e3) (by simp [pureL, AV.pure]) (by simp [AV.dry, dryL]) ?_
          repeat (first | refine Exists.intro _ (And.intro (unA_neg_i64 (by omega) (by omega)) ?_) | refine Exists.intro _ (And.intro (binA_quo_i64 (by omega) (by omega) (by omega)) ?_) | refine Exists.intro _ (And.intro (binA_rem_i64 (by omega) (by omega)) ?_) | refine Exists.intro _ (And.intro (binA_sub_i64 (by omega) (by omega)) ?_) | refine Exists.intro _ (And.intro (binA_add_i64 (by omega) (by omega)) ?_) | refine Exists.intro _ (And.intro (conv_i64 (by omega) (by omega)) ?_) | refine Exists.intro _ (And.intro rfl ?_) | refine And.intro rfl ?_ | refine condT ?_ | refine condF ?_ | refine condG1 ?_ | refine condG0 ?_ | refine condDT (by omega) ?_ | refine condDF (by omega) ?_ | refine condBT (by omega) ?_ | refine condBF (by omega) ?_ | refine condNT (by omega) ?_ | refine condNF (by omega) ?_ | refine And.intro (by omega) ?_ | refine And.intro (ble_of (by omega)) ?_ | refine And.intro (room_le (by omega)) ?_ | refine Exists.intro _ (And.intro (by assumption) ?_))
          refine ev_keep [30, 31, 32, 0, 1, 2, 7, 9] [93] ?_
          exact eq_loop16 rs (done ++ [r]) out (by simp; omega) _ _ _ _ _ (k + 1) es (by simp [e]) (by simp [hk]) hm hes
end
end Go.AM.IR
namespace Go.AM.IR
set_option maxHeartbeats 4000000
set_option maxRecDepth 100000
theorem firstP_zero : ∀ (l : List (Int × Int)) (n : Int), 1 ≤ n → ((firstP l n).1 = 0 ↔ (firstP l n).2 = 0)
  | [], _, _ => by simp [firstP]
  | (x, y) :: r, n, h => by
    simp only [firstP]
    split
    · simp; omega
    · split
      · simp; omega
      · exact firstP_zero r (n + 1) (by omega)
theorem compareR_zero (a b : PVRoute) (cs : List IGP) : (compareR a b cs).1 = 0 ↔ (compareR a b cs).2 = 0 := firstP_zero _ 1 (by omega)
section
variable (l : List PVRoute) (hl : l.length < 2 ^ 40) (hfit : ∀ r ∈ l, Fit r) (cs : List IGP) (hcs : cs.length < 2 ^ 40) (best : Nat) (z : PVRoute) (hz : l[best]? = some z) (nn : Int)
include hl hfit hcs hz
theorem eq_loop17 : ∀ (rest done : List PVRoute) (out : List Nat) (hol : out.length ≤ done.length + 1) (T : List (Nat × AV)) (H : Heap) (c g m : Nat) (k : Int) (es : List (List AV)) (e : l = done ++ rest) (hk : k = done.length) (hm : m = out.length) (hes : es = out.map idxE),
    Ev G ⟨[.inLoop f17x13L, .inBlock 0, .code (.seq (.region f17x14 false) .ret)],
      ⟨(30, .sl 22 (l.map PVRoute.enc)) :: (31, .int .i64 l.length) :: (32, .int .i64 k) :: (0, .sl 22 (l.map PVRoute.enc)) :: (1, .sl 2 (cs.map IGP.enc)) :: (2, .int .i64 nn) :: (7, .int .i64 best) :: (9, .vs 93 g m) :: T, (93, some (g, .vec 1 es)) :: H, c⟩, [.t 6], 0⟩
      ⟨.vs 0 0 (eqL l cs best nn rest done.length out).length, [(false, .vec 1 ((eqL l cs best nn rest done.length out).map idxE))]⟩
  | [], done, out, hol, T, H, c, g, m, k, es, e, hk, hm, hes => by
    have hd : l.length = done.length := by simp [e]
    refine ev_loop' (W_ok 200 _ _ _ _ ?_)
    repeat (first | refine Exists.intro _ (And.intro (unA_neg_i64 (by omega) (by omega)) ?_) | refine Exists.intro _ (And.intro (binA_quo_i64 (by omega) (by omega) (by omega)) ?_) | refine Exists.intro _ (And.intro (binA_rem_i64 (by omega) (by omega)) ?_) | refine Exists.intro _ (And.intro (binA_sub_i64 (by omega) (by omega)) ?_) | refine Exists.intro _ (And.intro (binA_add_i64 (by omega) (by omega)) ?_) | refine Exists.intro _ (And.intro (conv_i64 (by omega) (by omega)) ?_) | refine Exists.intro _ (And.intro rfl ?_) | refine And.intro rfl ?_ | refine condT ?_ | refine condF ?_ | refine condG1 ?_ | refine condG0 ?_ | refine condDT (by omega) ?_ | refine condDF (by omega) ?_ | refine condBT (by omega) ?_ | refine condBF (by omega) ?_ | refine condNT (by omega) ?_ | refine condNF (by omega) ?_ | refine And.intro (by omega) ?_ | refine And.intro (ble_of (by omega)) ?_ | refine And.intro (room_le (by omega)) ?_ | refine Exists.intro _ (And.intro (by assumption) ?_))
    refine ret_vs 93 g m (.vec 1 es) ?_ ?_ (by rw [hes]; exact pure_idx _) hm (by rw [hes]; rfl)
    · rfl
    · rfl
  | r :: rs, done, out, hol, T, H, c, g, m, k, es, e, hk, hm, hes => by
    have hd : l.length = done.length + (rs.length + 1) := by simp [e]
    have hx : (l.map PVRoute.enc)[k.toNat]? = some r.enc := by simp [e, hk]
    have hrl : r ∈ l := by simp [e]
    have fr := hfit r hrl
    have fz := hfit z (List.mem_of_getElem? hz)
    have hzd : l.getD best default = z := by rw [List.getD_eq_getElem?_getD, hz]; rfl
    have hzw : (l.map PVRoute.enc)[((best : Int)).toNat]? = some z.enc := by simp [hz]
    have e1 := cost_gives10 cs r (by omega)
    have e3 := compare_gives13 z r cs fz.rb fr.rb fz.ru fr.ru (by omega)
    rw [compareR_swap r z] at e3
    have hz0 := compareR_zero r z cs
    have hlen : es.length = out.length := by rw [hes]; simp
    have hdl : (done ++ [r]).length = done.length + 1 := by simp
    have hw : eqL l cs best nn (r :: rs) done.length out = eqL l cs best nn rs (done ++ [r]).length (eqStep l cs best nn r done.length out) := by rw [hdl]; rfl
    rw [hw]
    have hst : eqStep l cs best nn r done.length out = if (costS cs r).2 && decide (done.length ≠ best) && decide ((out.length : Int) < nn) && (decide ((compareR r z cs).2 = 0) || decide ((compareR r z cs).2 > 7)) then out ++ [done.length] else out := by
      unfold eqStep; rw [hzd]
    rw [hst]
    generalize costS cs r = u at *
    obtain ⟨co, us⟩ := u
    generalize compareR r z cs = R at *
    obtain ⟨o, st⟩ := R
    dsimp only at *
    cases us with
    | false =>
      simp only [Bool.false_and, Bool.false_eq_true, if_false]
      by_cases hb : done.length = best
      · have hb' : k = (best : Int) := by omega
        refine ev_loop' (W_ok 200 _ _ _ _ ?_)
        repeat (first | refine Exists.intro _ (And.intro (unA_neg_i64 (by omega) (by omega)) ?_) | refine Exists.intro _ (And.intro (binA_quo_i64 (by omega) (by omega) (by omega)) ?_) | refine Exists.intro _ (And.intro (binA_rem_i64 (by omega) (by omega)) ?_) | refine Exists.intro _ (And.intro (binA_sub_i64 (by omega) (by omega)) ?_) | refine Exists.intro _ (And.intro (binA_add_i64 (by omega) (by omega)) ?_) | refine Exists.intro _ (And.intro (conv_i64 (by omega) (by omega)) ?_) | refine Exists.intro _ (And.intro rfl ?_) | refine And.intro rfl ?_ | refine condT ?_ | refine condF ?_ | refine condG1 ?_ | refine condG0 ?_ | refine condDT (by omega) ?_ | refine condDF (by omega) ?_ | refine condBT (by omega) ?_ | refine condBF (by omega) ?_ | refine condNT (by omega) ?_ | refine condNF (by omega) ?_ | refine And.intro (by omega) ?_ | refine And.intro (ble_of (by omega)) ?_ | refine And.intro (room_le (by omega)) ?_ | refine Exists.intro _ (And.intro (by assumption) ?_))
        refine callV (e1) (by simp [pureL, AV.pure]) (by simp [AV.dry, dryL]) ?_
        repeat (first | refine Exists.intro _ (And.intro (unA_neg_i64 (by omega) (by omega)) ?_) | refine Exists.intro _ (And.intro (binA_quo_i64 (by omega) (by omega) (by omega)) ?_) | refine Exists.intro _ (And.intro (binA_rem_i64 (by omega) (by omega)) ?_) | refine Exists.intro _ (And.intro (binA_sub_i64 (by omega) (by omega)) ?_) | refine Exists.intro _ (And.intro (binA_add_i64 (by omega) (by omega)) ?_) | refine Exists.intro _ (And.intro (conv_i64 (by omega) (by omega)) ?_) | refine Exists.intro _ (And.intro rfl ?_) | refine And.intro rfl ?_ | refine condT ?_ | refine condF ?_ | refine condG1 ?_ | refine condG0 ?_ | refine condDT (by omega) ?_ | refine condDF (by omega) ?_ | refine condBT (by omega) ?_ | refine condBF (by omega) ?_ | refine condNT (by omega) ?_ | refine condNF (by omega) ?_ | refine And.intro (by omega) ?_ | refine And.intro (ble_of (by omega)) ?_ | refine And.intro (room_le (by omega)) ?_ | refine Exists.intro _ (And.intro (by assumption) ?_))
        refine callV (e3) (by simp [pureL, AV.pure]) (by simp [AV.dry, dryL]) ?_
        repeat (first | refine Exists.intro _ (And.intro (unA_neg_i64 (by omega) (by omega)) ?_) | refine Exists.intro _ (And.intro (binA_quo_i64 (by omega) (by omega) (by omega)) ?_) | refine Exists.intro _ (And.intro (binA_rem_i64 (by omega) (by omega)) ?_) | refine Exists.intro _ (And.intro (binA_sub_i64 (by omega) (by omega)) ?_) | refine Exists.intro _ (And.intro (binA_add_i64 (by omega) (by omega)) ?_) | refine Exists.intro _ (And.intro (conv_i64 (by omega) (by omega)) ?_) | refine Exists.intro _ (And.intro rfl ?_) | refine And.intro rfl ?_ | refine condT ?_ | refine condF ?_ | refine condG1 ?_ | refine condG0 ?_ | refine condDT (by omega) ?_ | refine condDF (by omega) ?_ | refine condBT (by omega) ?_ | refine condBF (by omega) ?_ | refine condNT (by omega) ?_ | refine condNF (by omega) ?_ | refine And.intro (by omega) ?_ | refine And.intro (ble_of (by omega)) ?_ | refine And.intro (room_le (by omega)) ?_ | refine Exists.intro _ (And.intro (by assumption) ?_))
        refine ev_keep [30, 31, 32, 0, 1, 2, 7, 9] [93] ?_
        exact eq_loop17 rs (done ++ [r]) out (by simp; omega) _ _ _ _ _ (k + 1) es (by simp [e]) (by simp [hk]) hm hes
      · have hb' : ¬ k = (best : Int) := by omega
        refine ev_loop' (W_ok 200 _ _ _ _ ?_)
        repeat (first | refine Exists.intro _ (And.intro (unA_neg_i64 (by omega) (by omega)) ?_) | refine Exists.intro _ (And.intro (binA_quo_i64 (by omega) (by omega) (by omega)) ?_) | refine Exists.intro _ (And.intro (binA_rem_i64 (by omega) (by omega)) ?_) | refine Exists.intro _ (And.intro (binA_sub_i64 (by omega) (by omega)) ?_) | refine Exists.intro _ (And.intro (binA_add_i64 (by omega) (by omega)) ?_) | refine Exists.intro _ (And.intro (conv_i64 (by omega) (by omega)) ?_) | refine Exists.intro _ (And.intro rfl ?_) | refine And.intro rfl ?_ | refine condT ?_ | refine condF ?_ | refine condG1 ?_ | refine condG0 ?_ | refine condDT (by omega) ?_ | refine condDF (by omega) ?_ | refine condBT (by omega) ?_ | refine condBF (by omega) ?_ | refine condNT (by omega) ?_ | refine condNF (by omega) ?_ | refine And.intro (by omega) ?_ | refine And.intro (ble_of (by omega)) ?_ | refine And.intro (room_le (by omega)) ?_ | refine Exists.intro _ (And.intro (by assumption) ?_))
        refine callV (e1) (by simp [pureL, AV.pure]) (by simp [AV.dry, dryL]) ?_
        repeat (first | refine Exists.intro _ (And.intro (unA_neg_i64 (by omega) (by omega)) ?_) | refine Exists.intro _ (And.intro (binA_quo_i64 (by omega) (by omega) (by omega)) ?_) | refine Exists.intro _ (And.intro (binA_rem_i64 (by omega) (by omega)) ?_) | refine Exists.intro _ (And.intro (binA_sub_i64 (by omega) (by omega)) ?_) | refine Exists.intro _ (And.intro (binA_add_i64 (by omega) (by omega)) ?_) | refine Exists.intro _ (And.intro (conv_i64 (by omega) (by omega)) ?_) | refine Exists.intro _ (And.intro rfl ?_) | refine And.intro rfl ?_ | refine condT ?_ | refine condF ?_ | refine condG1 ?_ | refine condG0 ?_ | refine condDT (by omega) ?_ | refine condDF (by omega) ?_ | refine condBT (by omega) ?_ | refine condBF (by omega) ?_ | refine condNT (by omega) ?_ | refine condNF (by omega) ?_ | refine And.intro (by omega) ?_ | refine And.intro (ble_of (by omega)) ?_ | refine And.intro (room_le (by omega)) ?_ | refine Exists.intro _ (And.intro (by assumption) ?_))
        refine callV (e3) (by simp [pureL, AV.pure]) (by simp [AV.dry, dryL]) ?_
        repeat (first | refine Exists.intro _ (And.intro (unA_neg_i64 (by omega) (by omega)) ?_) | refine Exists.intro _ (And.intro (binA_quo_i64 (by omega) (by omega) (by omega)) ?_) | refine Exists.intro _ (And.intro (binA_rem_i64 (by omega) (by omega)) ?_) | refine Exists.intro _ (And.intro (binA_sub_i64 (by omega) (by omega)) ?_) | refine Exists.intro _ (And.intro (binA_add_i64 (by omega) (by omega)) ?_) | refine Exists.intro _ (And.intro (conv_i64 (by omega) (by omega)) ?_) | refine Exists.intro _ (And.intro rfl ?_) | refine And.intro rfl ?_ | refine condT ?_ | refine condF ?_ | refine condG1 ?_ | refine condG0 ?_ | refine condDT (by omega) ?_ | refine condDF (by omega) ?_ | refine condBT (by omega) ?_ | refine condBF (by omega) ?_ | refine condNT (by omega) ?_ | refine condNF (by omega) ?_ | refine And.intro (by omega) ?_ | refine And.intro (ble_of (by omega)) ?_ | refine And.intro (room_le (by omega)) ?_ | refine Exists.intro _ (And.intro (by assumption) ?_))
        refine ev_keep [30, 31, 32, 0, 1, 2, 7, 9] [93] ?_
        exact eq_loop17 rs (done ++ [r]) out (by simp; omega) _ _ _ _ _ (k + 1) es (by simp [e]) (by simp [hk]) hm hes
    | true =>
      by_cases hb : done.length = best
      · have hb' : k = (best : Int) := by omega
        simp only [hb, ne_eq, not_true_eq_false, decide_false, Bool.and_false, Bool.false_and, Bool.false_eq_true, if_false]
        refine ev_loop' (W_ok 200 _ _ _ _ ?_)
        repeat (first | refine Exists.intro _ (And.intro (unA_neg_i64 (by omega) (by omega)) ?_) | refine Exists.intro _ (And.intro (binA_quo_i64 (by omega) (by omega) (by omega)) ?_) | refine Exists.intro _ (And.intro (binA_rem_i64 (by omega) (by omega)) ?_) | refine Exists.intro _ (And.intro (binA_sub_i64 (by omega) (by omega)) ?_) | refine Exists.intro _ (And.intro (binA_add_i64 (by omega) (by omega)) ?_) | refine Exists.intro _ (And.intro (conv_i64 (by omega) (by omega)) ?_) | refine Exists.intro _ (And.intro rfl ?_) | refine And.intro rfl ?_ | refine condT ?_ | refine condF ?_ | refine condG1 ?_ | refine condG0 ?_ | refine condDT (by omega) ?_ | refine condDF (by omega) ?_ | refine condBT (by omega) ?_ | refine condBF (by omega) ?_ | refine condNT (by omega) ?_ | refine condNF (by omega) ?_ | refine And.intro (by omega) ?_ | refine And.intro (ble_of (by omega)) ?_ | refine And.intro (room_le (by omega)) ?_ | refine Exists.intro _ (And.intro (by assumption) ?_))
        refine callV (e1) (by simp [pureL, AV.pure]) (by simp [AV.dry, dryL]) ?_
        repeat (first | refine Exists.intro _ (And.intro (unA_neg_i64 (by omega) (by omega)) ?_) | refine Exists.intro _ (And.intro (binA_quo_i64 (by omega) (by omega) (by omega)) ?_) | refine Exists.intro _ (And.intro (binA_rem_i64 (by omega) (by omega)) ?_) | refine Exists.intro _ (And.intro (binA_sub_i64 (by omega) (by omega)) ?_) | refine Exists.intro _ (And.intro (binA_add_i64 (by omega) (by omega)) ?_) | refine Exists.intro _ (And.intro (conv_i64 (by omega) (by omega)) ?_) | refine Exists.intro _ (And.intro rfl ?_) | refine And.intro rfl ?_ | refine condT ?_ | refine condF ?_ | refine condG1 ?_ | refine condG0 ?_ | refine condDT (by omega) ?_ | refine condDF (by omega) ?_ | refine condBT (by omega) ?_ | refine condBF (by omega) ?_ | refine condNT (by omega) ?_ | refine condNF (by omega) ?_ | refine And.intro (by omega) ?_ | refine And.intro (ble_of (by omega)) ?_ | refine And.intro (room_le (by omega)) ?_ | refine Exists.intro _ (And.intro (by assumption) ?_))
        refine callV (e3) (by simp [pureL, AV.pure]) (by simp [AV.dry, dryL]) ?_
        repeat (first | refine Exists.intro _ (And.intro (unA_neg_i64 (by omega) (by omega)) ?_) | refine Exists.intro _ (And.intro (binA_quo_i64 (by omega) (by omega) (by omega)) ?_) | refine Exists.intro _ (And.intro (binA_rem_i64 (by omega) (by omega)) ?_) | refine Exists.intro _ (And.intro (binA_sub_i64 (by omega) (by omega)) ?_) | refine Exists.intro _ (And.intro (binA_add_i64 (by omega) (by omega)) ?_) | refine Exists.intro _ (And.intro (conv_i64 (by omega) (by omega)) ?_) | refine Exists.intro _ (And.intro rfl ?_) | refine And.intro rfl ?_ | refine condT ?_ | refine condF ?_ | refine condG1 ?_ | refine condG0 ?_ | refine condDT (by omega) ?_ | refine condDF (by omega) ?_ | refine condBT (by omega) ?_ | refine condBF (by omega) ?_ | refine condNT (by omega) ?_ | refine condNF (by omega) ?_ | refine And.intro (by omega) ?_ | refine And.intro (ble_of (by omega)) ?_ | refine And.intro (room_le (by omega)) ?_ | refine Exists.intro _ (And.intro (by assumption) ?_))
        refine ev_keep [30, 31, 32, 0, 1, 2, 7, 9] [93] ?_
        exact eq_loop17 rs (done ++ [r]) out (by simp; omega) _ _ _ _ _ (k + 1) es (by simp [e]) (by simp [hk]) hm hes
      · have hb' : ¬ k = (best : Int) := by omega
        by_cases hn : (out.length : Int) < nn
        · have hn' : (m : Int) < nn := by omega
          by_cases h0 : st = 0
          · have ho : -o = 0 := by have := hz0.2 h0; omega
            simp only [hb, hn, h0, ne_eq, not_false_eq_true, decide_true, Bool.and_self, Bool.true_and, Bool.true_or, if_true]
            refine ev_loop' (W_ok 200 _ _ _ _ ?_)
            repeat (first | refine Exists.intro _ (And.intro (unA_neg_i64 (by omega) (by omega)) ?_) | refine Exists.intro _ (And.intro (binA_quo_i64 (by omega) (by omega) (by omega)) ?_) | refine Exists.intro _ (And.intro (binA_rem_i64 (by omega) (by omega)) ?_) | refine Exists.intro _ (And.intro (binA_sub_i64 (by omega) (by omega)) ?_) | refine Exists.intro _ (And.intro (binA_add_i64 (by omega) (by omega)) ?_) | refine Exists.intro _ (And.intro (conv_i64 (by omega) (by omega)) ?_) | refine Exists.intro _ (And.intro rfl ?_) | refine And.intro rfl ?_ | refine condT ?_ | refine condF ?_ | refine condG1 ?_ | refine condG0 ?_ | refine condDT (by omega) ?_ | refine condDF (by omega) ?_ | refine condBT (by omega) ?_ | refine condBF (by omega) ?_ | refine condNT (by omega) ?_ | refine condNF (by omega) ?_ | refine And.intro (by omega) ?_ | refine And.intro (ble_of (by omega)) ?_ | refine And.intro (room_le (by omega)) ?_ | refine Exists.intro _ (And.intro (by assumption) ?_))
            refine callV (e1) (by simp [pureL, AV.pure]) (by simp [AV.dry, dryL]) ?_
            repeat (first | refine Exists.intro _ (And.intro (unA_neg_i64 (by omega) (by omega)) ?_) | refine Exists.intro _ (And.intro (binA_quo_i64 (by omega) (by omega) (by omega)) ?_) | refine Exists.intro _ (And.intro (binA_rem_i64 (by omega) (by omega)) ?_) | refine Exists.intro _ (And.intro (binA_sub_i64 (by omega) (by omega)) ?_) | refine Exists.intro _ (And.intro (binA_add_i64 (by omega) (by omega)) ?_) | refine Exists.intro _ (And.intro (conv_i64 (by omega) (by omega)) ?_) | refine Exists.intro _ (And.intro rfl ?_) | refine And.intro rfl ?_ | refine condT ?_ | refine condF ?_ | refine condG1 ?_ | refine condG0 ?_ | refine condDT (by omega) ?_ | refine condDF (by omega) ?_ | refine condBT (by omega) ?_ | refine condBF (by omega) ?_ | refine condNT (by omega) ?_ | refine condNF (by omega) ?_ | refine And.intro (by omega) ?_ | refine And.intro (ble_of (by omega)) ?_ | refine And.intro (room_le (by omega)) ?_ | refine Exists.intro _ (And.intro (by assumption) ?_))
            refine callV (e3) (by simp [pureL, AV.pure]) (by simp [AV.dry, dryL]) ?_
            repeat (first | refine Exists.intro _ (And.intro (unA_neg_i64 (by omega) (by omega)) ?_) | refine Exists.intro _ (And.intro (binA_quo_i64 (by omega) (by omega) (by omega)) ?_) | refine Exists.intro _ (And.intro (binA_rem_i64 (by omega) (by omega)) ?_) | refine Exists.intro _ (And.intro (binA_sub_i64 (by omega) (by omega)) ?_) | refine Exists.intro _ (And.intro (binA_add_i64 (by omega) (by omega)) ?_) | refine Exists.intro _ (And.intro (conv_i64 (by omega) (by omega)) ?_) | refine Exists.intro _ (And.intro rfl ?_) | refine And.intro rfl ?_ | refine condT ?_ | refine condF ?_ | refine condG1 ?_ | refine condG0 ?_ | refine condDT (by omega) ?_ | refine condDF (by omega) ?_ | refine condBT (by omega) ?_ | refine condBF (by omega) ?_ | refine condNT (by omega) ?_ | refine condNF (by omega) ?_ | refine And.intro (by omega) ?_ | refine And.intro (ble_of (by omega)) ?_ | refine And.intro (room_le (by omega)) ?_ | refine Exists.intro _ (And.intro (by assumption) ?_))
            refine And.intro (room_le (by show (m + 1) * 9 ≤ _; omega)) ?_
            repeat (first | refine Exists.intro _ (And.intro (unA_neg_i64 (by omega) (by omega)) ?_) | refine Exists.intro _ (And.intro (binA_quo_i64 (by omega) (by omega) (by omega)) ?_) | refine Exists.intro _ (And.intro (binA_rem_i64 (by omega) (by omega)) ?_) | refine Exists.intro _ (And.intro (binA_sub_i64 (by omega) (by omega)) ?_) | refine Exists.intro _ (And.intro (binA_add_i64 (by omega) (by omega)) ?_) | refine Exists.intro _ (And.intro (conv_i64 (by omega) (by omega)) ?_) | refine Exists.intro _ (And.intro rfl ?_) | refine And.intro rfl ?_ | refine condT ?_ | refine condF ?_ | refine condG1 ?_ | refine condG0 ?_ | refine condDT (by omega) ?_ | refine condDF (by omega) ?_ | refine condBT (by omega) ?_ | refine condBF (by omega) ?_ | refine condNT (by omega) ?_ | refine condNF (by omega) ?_ | refine And.intro (by omega) ?_ | refine And.intro (ble_of (by omega)) ?_ | refine And.intro (room_le (by omega)) ?_ | refine Exists.intro _ (And.intro (by assumption) ?_))
            refine ev_keep [30, 31, 32, 0, 1, 2, 7, 9] [93] ?_
            refine eq_loop17 rs (done ++ [r]) (out ++ [done.length]) (by simp; omega) _ _ _ _ _ (k + 1) _ (by simp [e]) (by simp [hk]) ?_ ?_
            · rw [hm]; simp [repl]
            · rw [hm, ← hlen, List.take_length, hes]; simp [repl, idxE, hk]
          · have ho : ¬ -o = 0 := by intro h; exact h0 (hz0.1 (by omega))
            by_cases h7 : st > 7
            · simp only [hb, hn, h0, h7, ne_eq, not_false_eq_true, decide_true, decide_false, Bool.and_self, Bool.true_and, Bool.false_or, if_true]
              refine ev_loop' (W_ok 200 _ _ _ _ ?_)
              repeat (first | refine Exists.intro _ (And.intro (unA_neg_i64 (by omega) (by omega)) ?_) | refine Exists.intro _ (And.intro (binA_quo_i64 (by omega) (by omega) (by omega)) ?_) | refine Exists.intro _ (And.intro (binA_rem_i64 (by omega) (by omega)) ?_) | refine Exists.intro _ (And.intro (binA_sub_i64 (by omega) (by omega)) ?_) | refine Exists.intro _ (And.intro (binA_add_i64 (by omega) (by omega)) ?_) | refine Exists.intro _ (And.intro (conv_i64 (by omega) (by omega)) ?_) | refine Exists.intro _ (And.intro rfl ?_) | refine And.intro rfl ?_ | refine condT ?_ | refine condF ?_ | refine condG1 ?_ | refine condG0 ?_ | refine condDT (by omega) ?_ | refine condDF (by omega) ?_ | refine condBT (by omega) ?_ | refine condBF (by omega) ?_ | refine condNT (by omega) ?_ | refine condNF (by omega) ?_ | refine And.intro (by omega) ?_ | refine And.intro (ble_of (by omega)) ?_ | refine And.intro (room_le (by omega)) ?_ | refine Exists.intro _ (And.intro (by assumption) ?_))
              refine callV (e1) (by simp [pureL, AV.pure]) (by simp [AV.dry, dryL]) ?_
              repeat (first | refine Exists.intro _ (And.intro (unA_neg_i64 (by omega) (by omega)) ?_) | refine Exists.intro _ (And.intro (binA_quo_i64 (by omega) (by omega) (by omega)) ?_) | refine Exists.intro _ (And.intro (binA_rem_i64 (by omega) (by omega)) ?_) | refine Exists.intro _ (And.intro (binA_sub_i64 (by omega) (by omega)) ?_) | refine Exists.intro _ (And.intro (binA_add_i64 (by omega) (by omega)) ?_) | refine Exists.intro _ (And.intro (conv_i64 (by omega) (by omega)) ?_) | refine Exists.intro _ (And.intro rfl ?_) | refine And.intro rfl ?_ | refine condT ?_ | refine condF ?_ | refine condG1 ?_ | refine condG0 ?_ | refine condDT (by omega) ?_ | refine condDF (by omega) ?_ | refine condBT (by omega) ?_ | refine condBF (by omega) ?_ | refine condNT (by omega) ?_ | refine condNF (by omega) ?_ | refine And.intro (by omega) ?_ | refine And.intro (ble_of (by omega)) ?_ | refine And.intro (room_le (by omega)) ?_ | refine Exists.intro _ (And.intro (by assumption) ?_))
              refine callV (e3) (by simp [pureL, AV.pure]) (by simp [AV.dry, dryL]) ?_
              repeat (first | refine Exists.intro _ (And.intro (unA_neg_i64 (by omega) (by omega)) ?_) | refine Exists.intro _ (And.intro (binA_quo_i64 (by omega) (by omega) (by omega)) ?_) | refine Exists.intro _ (And.intro (binA_rem_i64 (by omega) (by omega)) ?_) | refine Exists.intro _ (And.intro (binA_sub_i64 (by omega) (by omega)) ?_) | refine Exists.intro _ (And.intro (binA_add_i64 (by omega) (by omega)) ?_) | refine Exists.intro _ (And.intro (conv_i64 (by omega) (by omega)) ?_) | refine Exists.intro _ (And.intro rfl ?_) | refine And.intro rfl ?_ | refine condT ?_ | refine condF ?_ | refine condG1 ?_ | refine condG0 ?_ | refine condDT (by omega) ?_ | refine condDF (by omega) ?_ | refine condBT (by omega) ?_ | refine condBF (by omega) ?_ | refine condNT (by omega) ?_ | refine condNF (by omega) ?_ | refine And.intro (by omega) ?_ | refine And.intro (ble_of (by omega)) ?_ | refine And.intro (room_le (by omega)) ?_ | refine Exists.intro _ (And.intro (by assumption) ?_))
              refine And.intro (room_le (by show (m + 1) * 9 ≤ _; omega)) ?_
              repeat (first | refine Exists.intro _ (And.intro (unA_neg_i64 (by omega) (by omega)) ?_) | refine Exists.intro _ (And.intro (binA_quo_i64 (by omega) (by omega) (by omega)) ?_) | refine Exists.intro _ (And.intro (binA_rem_i64 (by omega) (by omega)) ?_) | refine Exists.intro _ (And.intro (binA_sub_i64 (by omega) (by omega)) ?_) | refine Exists.intro _ (And.intro (binA_add_i64 (by omega) (by omega)) ?_) | refine Exists.intro _ (And.intro (conv_i64 (by omega) (by omega)) ?_) | refine Exists.intro _ (And.intro rfl ?_) | refine And.intro rfl ?_ | refine condT ?_ | refine condF ?_ | refine condG1 ?_ | refine condG0 ?_ | refine condDT (by omega) ?_ | refine condDF (by omega) ?_ | refine condBT (by omega) ?_ | refine condBF (by omega) ?_ | refine condNT (by omega) ?_ | refine condNF (by omega) ?_ | refine And.intro (by omega) ?_ | refine And.intro (ble_of (by omega)) ?_ | refine And.intro (room_le (by omega)) ?_ | refine Exists.intro _ (And.intro (by assumption) ?_))
              refine ev_keep [30, 31, 32, 0, 1, 2, 7, 9] [93] ?_
              refine eq_loop17 rs (done ++ [r]) (out ++ [done.length]) (by simp; omega) _ _ _ _ _ (k + 1) _ (by simp [e]) (by simp [hk]) ?_ ?_
              · rw [hm]; simp [repl]
              · rw [hm, ← hlen, List.take_length, hes]; simp [repl, idxE, hk]
            · simp only [hb, hn, h0, h7, ne_eq, not_false_eq_true, decide_true, decide_false, Bool.and_self, Bool.and_false, Bool.false_or, Bool.false_eq_true, if_false]
              refine ev_loop' (W_ok 200 _ _ _ _ ?_)
              repeat (first | refine Exists.intro _ (And.intro (unA_neg_i64 (by omega) (by omega)) ?_) | refine Exists.intro _ (And.intro (binA_quo_i64 (by omega) (by omega) (by omega)) ?_) | refine Exists.intro _ (And.intro (binA_rem_i64 (by omega) (by omega)) ?_) | refine Exists.intro _ (And.intro (binA_sub_i64 (by omega) (by omega)) ?_) | refine Exists.intro _ (And.intro (binA_add_i64 (by omega) (by omega)) ?_) | refine Exists.intro _ (And.intro (conv_i64 (by omega) (by omega)) ?_) | refine Exists.intro _ (And.intro rfl ?_) | refine And.intro rfl ?_ | refine condT ?_ | refine condF ?_ | refine condG1 ?_ | refine condG0 ?_ | refine condDT (by omega) ?_ | refine condDF (by omega) ?_ | refine condBT (by omega) ?_ | refine condBF (by omega) ?_ | refine condNT (by omega) ?_ | refine condNF (by omega) ?_ | refine And.intro (by omega) ?_ | refine And.intro (ble_of (by omega)) ?_ | refine And.intro (room_le (by omega)) ?_ | refine Exists.intro _ (And.intro (by assumption) ?_))
              refine callV (e1) (by simp [pureL, AV.pure]) (by simp [AV.dry, dryL]) ?_
              repeat (first | refine Exists.intro _ (And.intro (unA_neg_i64 (by omega) (by omega)) ?_) | refine Exists.intro _ (And.intro (binA_quo_i64 (by omega) (by omega) (by omega)) ?_) | refine Exists.intro _ (And.intro (binA_rem_i64 (by omega) (by omega)) ?_) | refine Exists.intro _ (And.intro (binA_sub_i64 (by omega) (by omega)) ?_) | refine Exists.intro _ (And.intro (binA_add_i64 (by omega) (by omega)) ?_) | refine Exists.intro _ (And.intro (conv_i64 (by omega) (by omega)) ?_) | refine Exists.intro _ (And.intro rfl ?_) | refine And.intro rfl ?_ | refine condT ?_ | refine condF ?_ | refine condG1 ?_ | refine condG0 ?_ | refine condDT (by omega) ?_ | refine condDF (by omega) ?_ | refine condBT (by omega) ?_ | refine condBF (by omega) ?_ | refine condNT (by omega) ?_ | refine condNF (by omega) ?_ | refine And.intro (by omega) ?_ | refine And.intro (ble_of (by omega)) ?_ | refine And.intro (room_le (by omega)) ?_ | refine Exists.intro _ (And.intro (by assumption) ?_))
              refine callV (e3) (by simp [pureL, AV.pure]) (by simp [AV.dry, dryL]) ?_
              repeat (first | refine Exists.intro _ (And.intro (unA_neg_i64 (by omega) (by omega)) ?_) | refine Exists.intro _ (And.intro (binA_quo_i64 (by omega) (by omega) (by omega)) ?_) | refine Exists.intro _ (And.intro (binA_rem_i64 (by omega) (by omega)) ?_) | refine Exists.intro _ (And.intro (binA_sub_i64 (by omega) (by omega)) ?_) | refine Exists.intro _ (And.intro (binA_add_i64 (by omega) (by omega)) ?_) | refine Exists.intro _ (And.intro (conv_i64 (by omega) (by omega)) ?_) | refine Exists.intro _ (And.intro rfl ?_) | refine And.intro rfl ?_ | refine condT ?_ | refine condF ?_ | refine condG1 ?_ | refine condG0 ?_ | refine condDT (by omega) ?_ | refine condDF (by omega) ?_ | refine condBT (by omega) ?_ | refine condBF (by omega) ?_ | refine condNT (by omega) ?_ | refine condNF (by omega) ?_ | refine And.intro (by omega) ?_ | refine And.intro (ble_of (by omega)) ?_ | refine And.intro (room_le (by omega)) ?_ | refine Exists.intro _ (And.intro (by assumption) ?_))
              refine ev_keep [30, 31, 32, 0, 1, 2, 7, 9] [93] ?_
              exact eq_loop17 rs (done ++ [r]) out (by simp; omega) _ _ _ _ _ (k + 1) es (by simp [e]) (by simp [hk]) hm hes
        · have hn' : ¬ (m : Int) < nn := by omega
          simp only [hn, decide_false, Bool.and_false, Bool.false_and, Bool.false_eq_true, if_false]
          by_cases h0 : st = 0
          · have ho : -o = 0 := by have := hz0.2 h0; omega
            refine ev_loop' (W_ok 200 _ _ _ _ ?_)
            repeat (first | refine Exists.intro _ (And.intro (unA_neg_i64 (by omega) (by omega)) ?_) | refine Exists.intro _ (And.intro (binA_quo_i64 (by omega) (by omega) (by omega)) ?_) | refine Exists.intro _ (And.intro (binA_rem_i64 (by omega) (by omega)) ?_) | refine Exists.intro _ (And.intro (binA_sub_i64 (by omega) (by omega)) ?_) | refine Exists.intro _ (And.intro (binA_add_i64 (by omega) (by omega)) ?_) | refine Exists.intro _ (And.intro (conv_i64 (by omega) (by omega)) ?_) | refine Exists.intro _ (And.intro rfl ?_) | refine And.intro rfl ?_ | refine condT ?_ | refine condF ?_ | refine condG1 ?_ | refine condG0 ?_ | refine condDT (by omega) ?_ | refine condDF (by omega) ?_ | refine condBT (by omega) ?_ | refine condBF (by omega) ?_ | refine condNT (by omega) ?_ | refine condNF (by omega) ?_ | refine And.intro (by omega) ?_ | refine And.intro (ble_of (by omega)) ?_ | refine And.intro (room_le (by omega)) ?_ | refine Exists.intro _ (And.intro (by assumption) ?_))
            refine callV (e1) (by simp [pureL, AV.pure]) (by simp [AV.dry, dryL]) ?_
            repeat (first | refine Exists.intro _ (And.intro (unA_neg_i64 (by omega) (by omega)) ?_) | refine Exists.intro _ (And.intro (binA_quo_i64 (by omega) (by omega) (by omega)) ?_) | refine Exists.intro _ (And.intro (binA_rem_i64 (by omega) (by omega)) ?_) | refine Exists.intro _ (And.intro (binA_sub_i64 (by omega) (by omega)) ?_) | refine Exists.intro _ (And.intro (binA_add_i64 (by omega) (by omega)) ?_) | refine Exists.intro _ (And.intro (conv_i64 (by omega) (by omega)) ?_) | refine Exists.intro _ (And.intro rfl ?_) | refine And.intro rfl ?_ | refine condT ?_ | refine condF ?_ | refine condG1 ?_ | refine condG0 ?_ | refine condDT (by omega) ?_ | refine condDF (by omega) ?_ | refine condBT (by omega) ?_ | refine condBF (by omega) ?_ | refine condNT (by omega) ?_ | refine condNF (by omega) ?_ | refine And.intro (by omega) ?_ | refine And.intro (ble_of (by omega)) ?_ | refine And.intro (room_le (by omega)) ?_ | refine Exists.intro _ (And.intro (by assumption) ?_))
            refine callV (e3) (by simp [pureL, AV.pure]) (by simp [AV.dry, dryL]) ?_
            repeat (first | refine Exists.intro _ (And.intro (unA_neg_i64 (by omega) (by omega)) ?_) | refine Exists.intro _ (And.intro (binA_quo_i64 (by omega) (by omega) (by omega)) ?_) | refine Exists.intro _ (And.intro (binA_rem_i64 (by omega) (by omega)) ?_) | refine Exists.intro _ (And.intro (binA_sub_i64 (by omega) (by omega)) ?_) | refine Exists.intro _ (And.intro (binA_add_i64 (by omega) (by omega)) ?_) | refine Exists.intro _ (And.intro (conv_i64 (by omega) (by omega)) ?_) | refine Exists.intro _ (And.intro rfl ?_) | refine And.intro rfl ?_ | refine condT ?_ | refine condF ?_ | refine condG1 ?_ | refine condG0 ?_ | refine condDT (by omega) ?_ | refine condDF (by omega) ?_ | refine condBT (by omega) ?_ | refine condBF (by omega) ?_ | refine condNT (by omega) ?_ | refine condNF (by omega) ?_ | refine And.intro (by omega) ?_ | refine And.intro (ble_of (by omega)) ?_ | refine And.intro (room_le (by omega)) ?_ | refine Exists.intro _ (And.intro (by assumption) ?_))
            refine ev_keep [30, 31, 32, 0, 1, 2, 7, 9] [93] ?_
            exact eq_loop17 rs (done ++ [r]) out (by simp; omega) _ _ _ _ _ (k + 1) es (by simp [e]) (by simp [hk]) hm hes
          · have ho : ¬ -o = 0 := by intro h; exact h0 (hz0.1 (by omega))
            by_cases h7 : st > 7
            · refine ev_loop' (W_ok 200 _ _ _ _ ?_)
              repeat (first | refine Exists.intro _ (And.intro (unA_neg_i64 (by omega) (by omega)) ?_) | refine Exists.intro _ (And.intro (binA_quo_i64 (by omega) (by omega) (by omega)) ?_) | refine Exists.intro _ (And.intro (binA_rem_i64 (by omega) (by omega)) ?_) | refine Exists.intro _ (And.intro (binA_sub_i64 (by omega) (by omega)) ?_) | refine Exists.intro _ (And.intro (binA_add_i64 (by omega) (by omega)) ?_) | refine Exists.intro _ (And.intro (conv_i64 (by omega) (by omega)) ?_) | refine Exists.intro _ (And.intro rfl ?_) | refine And.intro rfl ?_ | refine condT ?_ | refine condF ?_ | refine condG1 ?_ | refine condG0 ?_ | refine condDT (by omega) ?_ | refine condDF (by omega) ?_ | refine condBT (by omega) ?_ | refine condBF (by omega) ?_ | refine condNT (by omega) ?_ | refine condNF (by omega) ?_ | refine And.intro (by omega) ?_ | refine And.intro (ble_of (by omega)) ?_ | refine And.intro (room_le (by omega)) ?_ | refine Exists.intro _ (And.intro (by assumption) ?_))
              refine callV (e1) (by simp [pureL, AV.pure]) (by simp [AV.dry, dryL]) ?_
              repeat (first | refine Exists.intro _ (And.intro (unA_neg_i64 (by omega) (by omega)) ?_) | refine Exists.intro _ (And.intro (binA_quo_i64 (by omega) (by omega) (by omega)) ?_) | refine Exists.intro _ (And.intro (binA_rem_i64 (by omega) (by omega)) ?_) | refine Exists.intro _ (And.intro (binA_sub_i64 (by omega) (by omega)) ?_) | refine Exists.intro _ (And.intro (binA_add_i64 (by omega) (by omega)) ?_) | refine Exists.intro _ (And.intro (conv_i64 (by omega) (by omega)) ?_) | refine Exists.intro _ (And.intro rfl ?_) | refine And.intro rfl ?_ | refine condT ?_ | refine condF ?_ | refine condG1 ?_ | refine condG0 ?_ | refine condDT (by omega) ?_ | refine condDF (by omega) ?_ | refine condBT (by omega) ?_ | refine condBF (by omega) ?_ | refine condNT (by omega) ?_ | refine condNF (by omega) ?_ | refine And.intro (by omega) ?_ | refine And.intro (ble_of (by omega)) ?_ | refine And.intro (room_le (by omega)) ?_ | refine Exists.intro _ (And.intro (by assumption) ?_))
              refine callV (e3) (by simp [pureL, AV.pure]) (by simp [AV.dry, dryL]) ?_
              repeat (first | refine Exists.intro _ (And.intro (unA_neg_i64 (by omega) (by omega)) ?_) | refine Exists.intro _ (And.intro (binA_quo_i64 (by omega) (by omega) (by omega)) ?_) | refine Exists.intro _ (And.intro (binA_rem_i64 (by omega) (by omega)) ?_) | refine Exists.intro _ (And.intro (binA_sub_i64 (by omega) (by omega)) ?_) | refine Exists.intro _ (And.intro (binA_add_i64 (by omega) (by omega)) ?_) | refine Exists.intro _ (And.intro (conv_i64 (by omega) (by omega)) ?_) | refine Exists.intro _ (And.intro rfl ?_) | refine And.intro rfl ?_ | refine condT ?_ | refine condF ?_ | refine condG1 ?_ | refine condG0 ?_ | refine condDT (by omega) ?_ | refine condDF (by omega) ?_ | refine condBT (by omega) ?_ | refine condBF (by omega) ?_ | refine condNT (by omega) ?_ | refine condNF (by omega) ?_ | refine And.intro (by omega) ?_ | refine And.intro (ble_of (by omega)) ?_ | refine And.intro (room_le (by omega)) ?_ | refine Exists.intro _ (And.intro (by assumption) ?_))
              refine ev_keep [30, 31, 32, 0, 1, 2, 7, 9] [93] ?_
              exact eq_loop17 rs (done ++ [r]) out (by simp; omega) _ _ _ _ _ (k + 1) es (by simp [e]) (by simp [hk]) hm hes
            · refine ev_loop' (W_ok 200 _ _ _ _ ?_)
              repeat (first | refine Exists.intro _ (And.intro (unA_neg_i64 (by omega) (by omega)) ?_) | refine Exists.intro _ (And.intro (binA_quo_i64 (by omega) (by omega) (by omega)) ?_) | refine Exists.intro _ (And.intro (binA_rem_i64 (by omega) (by omega)) ?_) | refine Exists.intro _ (And.intro (binA_sub_i64 (by omega) (by omega)) ?_) | refine Exists.intro _ (And.intro (binA_add_i64 (by omega) (by omega)) ?_) | refine Exists.intro _ (And.intro (conv_i64 (by omega) (by omega)) ?_) | refine Exists.intro _ (And.intro rfl ?_) | refine And.intro rfl ?_ | refine condT ?_ | refine condF ?_ | refine condG1 ?_ | refine condG0 ?_ | refine condDT (by omega) ?_ | refine condDF (by omega) ?_ | refine condBT (by omega) ?_ | refine condBF (by omega) ?_ | refine condNT (by omega) ?_ | refine condNF (by omega) ?_ | refine And.intro (by omega) ?_ | refine And.intro (ble_of (by omega)) ?_ | refine And.intro (room_le (by omega)) ?_ | refine Exists.intro _ (And.intro (by assumption) ?_))
              refine callV (e1) (by simp [pureL, AV.pure]) (by simp [AV.dry, dryL]) ?_
              repeat (first | refine Exists.intro _ (And.intro (unA_neg_i64 (by omega) (by omega)) ?_) | refine Exists.intro _ (And.intro (binA_quo_i64 (by omega) (by omega) (by omega)) ?_) | refine Exists.intro _ (And.intro (binA_rem_i64 (by omega) (by omega)) ?_) | refine Exists.intro _ (And.intro (binA_sub_i64 (by omega) (by omega)) ?_) | refine Exists.intro _ (And.intro (binA_add_i64 (by omega) (by omega)) ?_) | refine Exists.intro _ (And.intro (conv_i64 (by omega) (by omega)) ?_) | refine Exists.intro _ (And.intro rfl ?_) | refine And.intro rfl ?_ | refine condT ?_ | refine condF ?_ | refine condG1 ?_ | refine condG0 ?_ | refine condDT (by omega) ?_ | refine condDF (by omega) ?_ | refine condBT (by omega) ?_ | refine condBF (by omega) ?_ | refine condNT (by omega) ?_ | refine condNF (by omega) ?_ | refine And.intro (by omega) ?_ | refine And.intro (ble_of (by omega)) ?_ | refine And.intro (room_le (by omega)) ?_ | refine Exists.intro _ (And.intro (by assumption) ?_))
              refine callV (e3) (by simp [pureL, AV.pure]) (by simp [AV.dry, dryL]) ?_
              repeat (first | refine Exists.intro _ (And.intro (unA_neg_i64 (by omega) (by omega)) ?_) | refine Exists.intro _ (And.intro (binA_quo_i64 (by omega) (by omega) (by omega)) ?_) | refine Exists.intro _ (And.intro (binA_rem_i64 (by omega) (by omega)) ?_) | refine Exists.intro _ (And.intro (binA_sub_i64 (by omega) (by omega)) ?_) | refine Exists.intro _ (And.intro (binA_add_i64 (by omega) (by omega)) ?_) | refine Exists.intro _ (And.intro (conv_i64 (by omega) (by omega)) ?_) | refine Exists.intro _ (And.intro rfl ?_) | refine And.intro rfl ?_ | refine condT ?_ | refine condF ?_ | refine condG1 ?_ | refine condG0 ?_ | refine condDT (by omega) ?_ | refine condDF (by omega) ?_ | refine condBT (by omega) ?_ | refine condBF (by omega) ?_ | refine condNT (by omega) ?_ | refine condNF (by omega) ?_ | refine And.intro (by omega) ?_ | refine And.intro (ble_of (by omega)) ?_ | refine And.intro (room_le (by omega)) ?_ | refine Exists.intro _ (And.intro (by assumption) ?_))
              refine ev_keep [30, 31, 32, 0, 1, 2, 7, 9] [93] ?_
              exact eq_loop17 rs (done ++ [r]) out (by simp; omega) _ _ _ _ _ (k + 1) es (by simp [e]) (by simp [hk]) hm hes
end
end Go.AM.IR
namespace Go.AM.IR
/-! ### Comparison is an order -/
def lx : List Int → List Int → Int
  | x :: u, y :: v => if x < y then -1 else if y < x then 1 else lx u v
  | _, _ => 0
theorem lx_range : ∀ u v, lx u v = -1 ∨ lx u v = 0 ∨ lx u v = 1
  | [], v => by cases v <;> simp [lx]
  | x :: u, [] => by simp [lx]
  | x :: u, y :: v => by
    simp only [lx]
    split
    · simp
    · split
      · simp
      · exact lx_range u v
theorem lx_swap : ∀ u v, lx v u = -lx u v
  | [], v => by cases v <;> simp [lx]
  | x :: u, [] => by simp [lx]
  | x :: u, y :: v => by
    simp only [lx, lx_swap u v]
    by_cases h1 : x < y
    · rw [if_neg (by omega), if_pos h1, if_pos h1]; rfl
    · by_cases h2 : y < x
      · rw [if_pos h2, if_neg h1, if_pos h2]
      · rw [if_neg h2, if_neg h1, if_neg h1, if_neg h2]
theorem lx_eq : ∀ u v, u.length = v.length → lx u v = 0 → u = v
  | [], [], _, _ => rfl
  | x :: u, y :: v, hl, h => by
    simp only [lx] at h
    split at h
    · omega
    · split at h
      · omega
      · obtain rfl : x = y := by omega
        rw [lx_eq u v (by simpa using hl) h]
theorem lx_trans : ∀ u v w, u.length = v.length → v.length = w.length → lx u v < 0 → lx v w ≤ 0 → lx u w < 0
  | [], [], [], _, _, h, _ => by simp [lx] at h
  | x :: u, y :: v, z :: w, h1, h2, h3, h4 => by
    simp only [lx] at *
    by_cases a : x < y
    · by_cases b : y < z
      · rw [if_pos (by omega)]; omega
      · by_cases c : z < y
        · rw [if_neg b, if_pos c] at h4; omega
        · rw [if_pos (by omega)]; omega
    · by_cases a2 : y < x
      · rw [if_neg a, if_pos a2] at h3; omega
      · rw [if_neg a, if_neg a2] at h3
        obtain rfl : x = y := by omega
        by_cases b : x < z
        · rw [if_pos b]; omega
        · by_cases c : z < x
          · rw [if_neg b, if_pos c] at h4; omega
          · rw [if_neg b, if_neg c] at h4 ⊢
            exact lx_trans u v w (by simpa using h1) (by simpa using h2) h3 h4
theorem lx_trans' (u v w : List Int) (h1 : u.length = v.length) (h2 : v.length = w.length) (h3 : lx u v ≤ 0) (h4 : lx v w < 0) : lx u w < 0 := by
  rcases lx_range u v with h | h | h
  · exact lx_trans u v w h1 h2 (by omega) (by omega)
  · rw [lx_eq u v h1 h]; exact h4
  · omega
def vecA (m : Int) (r : PVRoute) (cs : List IGP) : List Int :=
  [flg (r.peer == -1), -prefS r, lenS r.attrs.path, r.attrs.origin, m, (if innerS r then 1 else 0), flg (costS cs r).2, (costS cs r).1, routerS r, r.attrs.clusters.length, r.peer]
def grp (a b : PVRoute) : Bool := (firstS a.attrs.path).2 && (firstS b.attrs.path).2 && ((firstS a.attrs.path).1 == (firstS b.attrs.path).1)
theorem cmp_lx (a b : PVRoute) (cs : List IGP) : (compareR a b cs).1 = lx (vecA (if grp a b then medS a else 0) a cs) (vecA (if grp a b then medS b else 0) b cs) := by
  have step : ∀ (x y : Int) (r : List (Int × Int)) (n : Int) (u v : List Int), (firstP r (n + 1)).1 = lx u v → (firstP ((x, y) :: r) n).1 = lx (x :: u) (y :: v) := by
    intro x y r n u v h
    simp only [firstP, lx]
    split
    · rfl
    · split
      · rfl
      · exact h
  unfold compareR pairsR vecA
  refine step _ _ _ _ _ _ ?_
  have neg : ∀ (x y : Int) (r : List (Int × Int)) (n : Int) (u v : List Int), (firstP r (n + 1)).1 = lx u v → (firstP ((y, x) :: r) n).1 = lx (-x :: u) (-y :: v) := by
    intro x y r n u v h
    simp only [firstP, lx]
    by_cases h1 : y < x
    · rw [if_pos h1, if_pos (by omega)]
    · by_cases h2 : x < y
      · rw [if_neg h1, if_pos h2, if_neg (by omega), if_pos (by omega)]
      · rw [if_neg h1, if_neg h2, if_neg (by omega), if_neg (by omega)]; exact h
  refine neg _ _ _ _ _ _ ?_
  refine step _ _ _ _ _ _ ?_
  refine step _ _ _ _ _ _ ?_
  have h5 : rule5R a b = (if grp a b then medS a else 0, if grp a b then medS b else 0) := by
    unfold rule5R grp
    split <;> rfl
  rw [h5]
  refine step _ _ _ _ _ _ ?_
  refine step _ _ _ _ _ _ ?_
  have h7 : ∀ (r : List (Int × Int)) (n : Int) (u v : List Int), (firstP r (n + 1)).1 = lx u v → (firstP (rule7R a b cs :: r) n).1 = lx (flg (costS cs a).2 :: (costS cs a).1 :: u) (flg (costS cs b).2 :: (costS cs b).1 :: v) := by
    intro r n u v h
    have ca := cost_none cs a
    have cb := cost_none cs b
    unfold rule7R
    generalize costS cs a = p at *
    generalize costS cs b = q at *
    obtain ⟨x, p⟩ := p
    obtain ⟨y, q⟩ := q
    cases p <;> cases q
    · obtain rfl : x = 0 := ca rfl
      obtain rfl : y = 0 := cb rfl
      simp only [firstP, lx, flg, Bool.and_false, Bool.false_eq_true, if_false]
      exact h
    · simp only [firstP, lx, flg, Bool.and_true, Bool.false_eq_true, if_false, if_true]
      rfl
    · simp only [firstP, lx, flg, Bool.and_false, Bool.false_eq_true, if_false, if_true]
      rfl
    · simp only [Bool.and_self, if_true, flg]
      have := step x y r n u v h
      rw [this]
      simp only [lx, Int.lt_irrefl, if_false]
  refine h7 _ _ _ _ ?_
  refine step _ _ _ _ _ _ ?_
  refine step _ _ _ _ _ _ ?_
  refine step _ _ _ _ _ _ ?_
  rfl
theorem vec_len (m m' : Int) (a b : PVRoute) (cs : List IGP) : (vecA m a cs).length = (vecA m' b cs).length := rfl
def gm (r : PVRoute) : Int := if (firstS r.attrs.path).2 then medS r else 0
/-- The key of a route's group. -/
def key (r : PVRoute) : Int × Bool := firstS r.attrs.path
theorem group_key (a b : PVRoute) : sameGroupS a b = true ↔ key a = key b := by
  unfold sameGroupS key
  rw [Prod.ext_iff]
  simp only [Bool.and_eq_true, beq_iff_eq]
  exact And.comm
def V (r : PVRoute) (cs : List IGP) : List Int := vecA (gm r) r cs
def V0 (r : PVRoute) (cs : List IGP) : List Int := vecA 0 r cs
theorem cmp_same {a b : PVRoute} (h : key a = key b) (cs : List IGP) : (compareR a b cs).1 = lx (V a cs) (V b cs) := by
  rw [cmp_lx]
  unfold V gm
  unfold key at h
  unfold grp
  rw [← h]
  cases (firstS a.attrs.path).2 <;> simp
theorem cmp_diff {a b : PVRoute} (h : key a ≠ key b) (cs : List IGP) : (compareR a b cs).1 = lx (V0 a cs) (V0 b cs) := by
  rw [cmp_lx]
  unfold V0
  have : grp a b = false := by
    cases hg : grp a b with
    | false => rfl
    | true =>
      refine absurd ?_ h
      unfold grp at hg
      simp only [Bool.and_eq_true, beq_iff_eq] at hg
      unfold key
      exact Prod.ext hg.2 (hg.1.1.trans hg.1.2.symm)
  rw [this]; rfl
end Go.AM.IR
namespace Go.AM.IR
def R (f : Nat → List Int) (k i : Nat) : Prop := lx (f k) (f i) < 0 ∨ (lx (f k) (f i) = 0 ∧ k < i)
section
variable {f : Nat → List Int} {n : Nat} (hf : ∀ i, (f i).length = n)
include hf
theorem R_trans {a b c : Nat} (h1 : R f a b) (h2 : R f b c) : R f a c := by
  have l1 : (f a).length = (f b).length := by rw [hf, hf]
  have l2 : (f b).length = (f c).length := by rw [hf, hf]
  rcases h1 with h1 | ⟨h1, p⟩
  · refine .inl (lx_trans _ _ _ l1 l2 h1 ?_)
    rcases h2 with h2 | ⟨h2, _⟩ <;> omega
  · have e := lx_eq _ _ l1 h1
    rcases h2 with h2 | ⟨h2, q⟩
    · exact .inl (by rw [e]; exact h2)
    · exact .inr ⟨by rw [e]; exact h2, by omega⟩
omit hf in
theorem R_asymm {a b : Nat} (h1 : R f a b) (h2 : R f b a) : False := by
  have := lx_swap (f a) (f b)
  rcases h1 with h1 | ⟨h1, p⟩ <;> rcases h2 with h2 | ⟨h2, q⟩ <;> omega
omit hf in
theorem R_tri {a b : Nat} (h : a ≠ b) : R f a b ∨ R f b a := by
  have h1 := lx_swap (f a) (f b)
  rcases lx_range (f a) (f b) with q | q | q
  · exact .inl (.inl (by omega))
  · rcases Nat.lt_or_gt_of_ne h with z | z
    · exact .inl (.inr ⟨q, z⟩)
    · exact .inr (.inr ⟨by omega, z⟩)
  · exact .inr (.inl (by omega))
end
section
variable (l : List PVRoute) (cs : List IGP)
def atI (i : Nat) : PVRoute := l.getD i default
def kI (i : Nat) : Int × Bool := key (l.getD i default)
def U (i : Nat) : Prop := i < l.length ∧ (costS cs (l.getD i default)).2 = true
def fV (i : Nat) : List Int := V (l.getD i default) cs
def fV0 (i : Nat) : List Int := V0 (l.getD i default) cs
theorem fV_len (i : Nat) : (fV l cs i).length = 11 := rfl
theorem fV0_len (i : Nat) : (fV0 l cs i).length = 11 := rfl
theorem better_same {k i : Nat} (h : kI l k = kI l i) : better l cs k i = true ↔ R (fV l cs) k i := by
  unfold better cm R fV
  rw [cmp_same h]
  simp
theorem better_diff {k i : Nat} (h : kI l k ≠ kI l i) : better l cs k i = true ↔ R (fV0 l cs) k i := by
  unfold better cm R fV0
  rw [cmp_diff h]
  simp
theorem better_asymm {k i : Nat} (h1 : better l cs k i = true) (h2 : better l cs i k = true) : False := by
  by_cases h : kI l k = kI l i
  · exact R_asymm ((better_same l cs h).1 h1) ((better_same l cs h.symm).1 h2)
  · exact R_asymm ((better_diff l cs h).1 h1) ((better_diff l cs (Ne.symm h)).1 h2)
theorem better_tri {k i : Nat} (h : k ≠ i) : better l cs k i = true ∨ better l cs i k = true := by
  by_cases hk : kI l k = kI l i
  · rcases R_tri (f := fV l cs) h with q | q
    · exact .inl ((better_same l cs hk).2 q)
    · exact .inr ((better_same l cs hk.symm).2 q)
  · rcases R_tri (f := fV0 l cs) h with q | q
    · exact .inl ((better_diff l cs hk).2 q)
    · exact .inr ((better_diff l cs (Ne.symm hk)).2 q)
theorem better_trans_same {a b c : Nat} (h : kI l a = kI l b) (h' : kI l b = kI l c) (h1 : better l cs a b = true) (h2 : better l cs b c = true) : better l cs a c = true :=
  (better_same l cs (h.trans h')).2 (R_trans (fV_len l cs) ((better_same l cs h).1 h1) ((better_same l cs h').1 h2))
theorem better_trans_diff {a b c : Nat} (h : kI l a ≠ kI l b) (h' : kI l b ≠ kI l c) (h'' : kI l a ≠ kI l c) (h1 : better l cs a b = true) (h2 : better l cs b c = true) : better l cs a c = true :=
  (better_diff l cs h'').2 (R_trans (fV0_len l cs) ((better_diff l cs h).1 h1) ((better_diff l cs h').1 h2))

/-- Route i wins its group. -/
def Win (i : Nat) : Prop := U l cs i ∧ ∀ k, U l cs k → kI l k = kI l i → k ≠ i → better l cs k i = false
theorem Win.one {i j : Nat} (h : Win l cs i) (h' : Win l cs j) (hk : kI l i = kI l j) : i = j := by
  rcases Nat.decEq i j with q | q
  · rcases better_tri l cs q with z | z
    · have := h'.2 i h.1 hk q; rw [this] at z; cases z
    · have := h.2 j h'.1 hk.symm (Ne.symm q); rw [this] at z; cases z
  · exact q
/-- No winner is better. -/
def IsB (i : Nat) : Prop := Win l cs i ∧ ∀ j, Win l cs j → j ≠ i → better l cs j i = false
theorem IsB.one {i j : Nat} (h : IsB l cs i) (h' : IsB l cs j) : i = j := by
  rcases Nat.decEq i j with q | q
  · rcases better_tri l cs q with z | z
    · have := h'.2 i h.1 q; rw [this] at z; cases z
    · have := h.2 j h'.1 (Ne.symm q); rw [this] at z; cases z
  · exact q

/-! ### The winners -/
structure WinOk (i : Nat) (out : List Nat) : Prop where
  us : ∀ w ∈ out, w < i ∧ U l cs w
  one : ∀ (a b : Nat) (v w : Nat), out[a]? = some v → out[b]? = some w → kI l v = kI l w → a = b
  min : ∀ k, k < i → U l cs k → ∃ w ∈ out, kI l w = kI l k ∧ (w = k ∨ better l cs w k = true)
theorem findW_some (r : PVRoute) : ∀ (out : List Nat) (k : Nat) (x : Nat × Nat), findW l r out k = some x → ∃ j, x.1 = k + j ∧ out[j]? = some x.2 ∧ key r = kI l x.2
  | [], _, _, h => by cases h
  | w :: ws, k, x, h => by
    simp only [findW] at h
    split at h
    · rename_i hg
      obtain rfl := Option.some.inj h
      exact ⟨0, rfl, rfl, (group_key _ _).1 hg⟩
    · obtain ⟨j, h1, h2, h3⟩ := findW_some r ws (k + 1) x h
      exact ⟨j + 1, by omega, h2, h3⟩
theorem findW_none (r : PVRoute) : ∀ (out : List Nat) (k : Nat), findW l r out k = none → ∀ w ∈ out, key r ≠ kI l w
  | [], _, _, w, h => by cases h
  | w :: ws, k, h, v, hv => by
    simp only [findW] at h
    split at h
    · cases h
    · rename_i hg
      rcases List.mem_cons.1 hv with rfl | hv
      · exact fun q => hg ((group_key _ _).2 q)
      · exact findW_none r ws (k + 1) h v hv
theorem step_ok (i : Nat) (out : List Nat) (r : PVRoute) (hi : l[i]? = some r) (h : WinOk l cs i out) : WinOk l cs (i + 1) (stepW l cs out i r) := by
  have hr : l.getD i default = r := by rw [List.getD_eq_getElem?_getD, hi]; rfl
  have hil : i < l.length := (List.getElem?_eq_some_iff.1 hi).1
  have hkr : kI l i = key r := by unfold kI; rw [hr]
  unfold stepW
  cases hu : (costS cs r).2 with
  | false =>
    simp only [Bool.false_eq_true, if_false]
    refine ⟨fun w hw => ⟨by have := (h.us w hw).1; omega, (h.us w hw).2⟩, h.one, fun k hk hU => ?_⟩
    rcases Nat.lt_or_ge k i with q | q
    · exact h.min k q hU
    · obtain rfl : k = i := by omega
      have := hU.2; rw [hr, hu] at this; cases this
  | true =>
    simp only [if_true]
    have hUi : U l cs i := ⟨hil, by rw [hr]; exact hu⟩
    unfold stepG
    cases hf : findW l r out 0 with
    | none =>
      have hn := findW_none l r out 0 hf
      refine ⟨fun w hw => ?_, fun a b v w ha hb hk => ?_, fun k hk hU => ?_⟩
      · rcases List.mem_append.1 hw with q | q
        · exact ⟨by have := (h.us w q).1; omega, (h.us w q).2⟩
        · obtain rfl := List.mem_singleton.1 q; exact ⟨by omega, hUi⟩
      · have at_ : ∀ (a v : Nat), (out ++ [i])[a]? = some v → (a < out.length ∧ out[a]? = some v) ∨ (a = out.length ∧ v = i) := fun a v ha => by
          rcases Nat.lt_or_ge a out.length with q | q
          · rw [List.getElem?_append_left q] at ha; exact .inl ⟨q, ha⟩
          · rw [List.getElem?_append_right q] at ha
            have : a - out.length = 0 := by
              rcases Nat.eq_zero_or_pos (a - out.length) with z | z
              · exact z
              · rw [List.getElem?_eq_none (by simp; omega)] at ha; cases ha
            rw [this] at ha
            simp at ha
            exact .inr ⟨by omega, ha.symm⟩
        rcases at_ a v ha with ⟨q1, q2⟩ | ⟨q1, q2⟩ <;> rcases at_ b w hb with ⟨z1, z2⟩ | ⟨z1, z2⟩
        · exact h.one a b v w q2 z2 hk
        · subst z2; exact absurd (hkr.symm.trans hk.symm) (hn v (List.mem_of_getElem? q2))
        · subst q2; exact absurd (hkr.symm.trans hk) (hn w (List.mem_of_getElem? z2))
        · omega
      · rcases Nat.lt_or_ge k i with q | q
        · obtain ⟨w, hw, h1, h2⟩ := h.min k q hU
          exact ⟨w, List.mem_append_left _ hw, h1, h2⟩
        · obtain rfl : k = i := by omega
          exact ⟨k, by simp, rfl, .inl rfl⟩
    | some x =>
      obtain ⟨p, w⟩ := x
      obtain ⟨j, h1, h2, h3⟩ := findW_some l r out 0 (p, w) hf
      simp only [Nat.zero_add] at h1 h2 h3
      subst h1
      have hwo : w ∈ out := List.mem_of_getElem? h2
      have hkw : kI l i = kI l w := hkr.trans h3
      have hwi := (h.us w hwo).1
      dsimp only
      have hcm : (compareR r (l.getD w default) cs).1 = (cm l cs i w).1 := by unfold cm; rw [hr]
      rw [hcm]
      split
      · rename_i hlt
        have hb : better l cs i w = true := by unfold better; simp [hlt]
        have hj : p < out.length := (List.getElem?_eq_some_iff.1 h2).1
        have at_ : ∀ (a v : Nat), (out.set p i)[a]? = some v → (a = p ∧ v = i) ∨ (a ≠ p ∧ out[a]? = some v) := fun a v ha => by
          rcases Nat.decEq a p with q | q
          · rw [List.getElem?_set_ne (Ne.symm q)] at ha; exact .inr ⟨q, ha⟩
          · subst q
            rw [List.getElem?_set_self hj] at ha
            exact .inl ⟨rfl, (Option.some.inj ha).symm⟩
        refine ⟨fun v hv => ?_, fun a b v v' ha hb' hk => ?_, fun k hk hU => ?_⟩
        · rcases List.mem_or_eq_of_mem_set hv with q | rfl
          · exact ⟨by have := (h.us v q).1; omega, (h.us v q).2⟩
          · exact ⟨by omega, hUi⟩
        · rcases at_ a v ha with ⟨q1, q2⟩ | ⟨q1, q2⟩ <;> rcases at_ b v' hb' with ⟨z1, z2⟩ | ⟨z1, z2⟩
          · omega
          · subst q2; exact absurd (h.one b p v' w z2 h2 (hk.symm.trans hkw)) z1
          · subst z2; exact absurd (h.one a p v w q2 h2 (hk.trans hkw)) q1
          · exact h.one a b v v' q2 z2 hk
        · have hmi : i ∈ out.set p i := by
            have := List.getElem?_set_self (l := out) (i := p) (a := i) hj
            exact List.mem_of_getElem? this
          rcases Nat.lt_or_ge k i with q | q
          · obtain ⟨v, hv, g1, g2⟩ := h.min k q hU
            obtain ⟨a, ha⟩ := List.getElem?_of_mem hv
            rcases Nat.decEq a p with z | z
            · exact ⟨v, List.mem_of_getElem? (by rw [List.getElem?_set_ne (Ne.symm z)]; exact ha), g1, g2⟩
            · subst z
              obtain rfl : v = w := by rw [h2] at ha; exact (Option.some.inj ha).symm
              refine ⟨i, hmi, hkw.trans g1, .inr ?_⟩
              rcases g2 with rfl | g2
              · exact hb
              · exact better_trans_same l cs hkw g1 hb g2
          · obtain rfl : k = i := by omega
            exact ⟨k, hmi, rfl, .inl rfl⟩
      · rename_i hlt
        have hb : better l cs w i = true := by
          have h0 : better l cs i w = false := by
            unfold better
            simp only [hlt, decide_false, Bool.false_or]
            simp; omega
          rcases better_tri l cs (k := w) (i := i) (by omega) with q | q
          · exact q
          · rw [h0] at q; cases q
        refine ⟨fun v hv => ⟨by have := (h.us v hv).1; omega, (h.us v hv).2⟩, h.one, fun k hk hU => ?_⟩
        rcases Nat.lt_or_ge k i with q | q
        · exact h.min k q hU
        · obtain rfl : k = i := by omega
          exact ⟨w, hwo, hkw.symm, .inr hb⟩
theorem winL_win : ∀ (rest done : List PVRoute) (out : List Nat), l = done ++ rest → WinOk l cs done.length out → WinOk l cs l.length (winL l cs rest done.length out)
  | [], done, out, e, h => by
    have : l.length = done.length := by simp [e]
    rw [this]; exact h
  | r :: rs, done, out, e, h => by
    have hs := step_ok l cs done.length out r (by simp [e]) h
    have := winL_win rs (done ++ [r]) (stepW l cs out done.length r) (by simp [e]) (by simpa using hs)
    simpa [winL] using this
theorem win_ok : WinOk l cs l.length (winL l cs l 0 []) := winL_win l cs l [] [] rfl ⟨by simp, by simp, fun k hk => by simp at hk⟩
theorem win_mem (i : Nat) : i ∈ winL l cs l 0 [] ↔ Win l cs i := by
  have h := win_ok l cs
  constructor
  · intro hi
    refine ⟨(h.us i hi).2, fun k hU hk hne => ?_⟩
    obtain ⟨w, hw, g1, g2⟩ := h.min k hU.1 hU
    obtain ⟨a, ha⟩ := List.getElem?_of_mem hi
    obtain ⟨b, hb⟩ := List.getElem?_of_mem hw
    obtain rfl := h.one a b i w ha hb ((g1.trans hk).symm)
    obtain rfl : w = i := by rw [ha] at hb; exact (Option.some.inj hb).symm
    cases hb' : better l cs k w with
    | false => rfl
    | true =>
      rcases g2 with rfl | g2
      · exact absurd rfl hne
      · exact (better_asymm l cs hb' g2).elim
  · intro hW
    obtain ⟨w, hw, g1, g2⟩ := h.min i hW.1.1 hW.1
    rcases g2 with rfl | g2
    · exact hw
    · rcases Nat.decEq w i with q | q
      · have := hW.2 w (h.us w hw).2 g1 q
        rw [this] at g2; cases g2
      · subst q; exact hw
end
end Go.AM.IR
namespace Go.AM.IR
section
variable (l : List PVRoute) (cs : List IGP)
/-- Of these, none is better than b. -/
def Inv (S : List Nat) : Option Nat → Prop
  | none => S = []
  | some b => b ∈ S ∧ ∀ w ∈ S, w ≠ b → better l cs w b = false
theorem inv_step (S : List Nat) (b w : Nat) (hk : ∀ v ∈ S ++ [w], ∀ v' ∈ S ++ [w], kI l v = kI l v' → v = v') (h : Inv l cs S (some b)) : Inv l cs (S ++ [w]) (some (if better l cs w b then w else b)) := by
  obtain ⟨h1, h2⟩ := h
  cases hb : better l cs w b with
  | false =>
    simp only [Bool.false_eq_true, if_false]
    refine ⟨by simp [h1], fun v hv hne => ?_⟩
    rcases List.mem_append.1 hv with q | q
    · exact h2 v q hne
    · obtain rfl := List.mem_singleton.1 q; exact hb
  | true =>
    simp only [if_true]
    refine ⟨by simp, fun v hv hne => ?_⟩
    have hvS : v ∈ S := by
      rcases List.mem_append.1 hv with q | q
      · exact q
      · exact absurd (List.mem_singleton.1 q) hne
    cases hvw : better l cs v w with
    | false => rfl
    | true =>
      rcases Nat.decEq v b with q | q
      · have k1 : kI l v ≠ kI l w := fun z => hne (hk v hv w (by simp) z)
        have k2 : kI l w ≠ kI l b := fun z => by
          have := hk w (by simp) b (by simp [h1]) z
          subst this; exact better_asymm l cs hb hb
        have k3 : kI l v ≠ kI l b := fun z => q (hk v hv b (by simp [h1]) z)
        have := better_trans_diff l cs k1 k2 k3 hvw hb
        rw [h2 v hvS q] at this; cases this
      · subst q; exact (better_asymm l cs hvw hb).elim
theorem bestF_inv : ∀ (ws S : List Nat) (b : Option Nat), (∀ v ∈ S ++ ws, ∀ v' ∈ S ++ ws, kI l v = kI l v' → v = v') → Inv l cs S b → Inv l cs (S ++ ws) (bestF l cs ws b)
  | [], S, b, _, h => by simpa [bestF] using h
  | w :: ws, S, none, hk, h => by
    obtain rfl : S = [] := h
    have := bestF_inv ws [w] (some w) (by simpa using hk) ⟨by simp, fun v hv hne => absurd (by simpa using hv) hne⟩
    simpa [bestF] using this
  | w :: ws, S, some b, hk, h => by
    have hs := inv_step l cs S b w (fun v hv v' hv' => hk v (by simp at hv ⊢; rcases hv with q | q; exact .inl q; exact .inr (.inl q)) v' (by simp at hv' ⊢; rcases hv' with q | q; exact .inl q; exact .inr (.inl q))) h
    have := bestF_inv ws (S ++ [w]) _ (by simpa using hk) hs
    simpa [bestF] using this
theorem winL_keys : ∀ v ∈ winL l cs l 0 [], ∀ v' ∈ winL l cs l 0 [], kI l v = kI l v' → v = v' := fun v hv v' hv' h =>
  Win.one l cs ((win_mem l cs v).1 hv) ((win_mem l cs v').1 hv') h
theorem bestS_spec : match bestS l cs with
    | none => ∀ i, ¬ Win l cs i
    | some b => IsB l cs b := by
  have h := bestF_inv l cs (winL l cs l 0 []) [] none (by simpa using winL_keys l cs) rfl
  simp only [List.nil_append] at h
  unfold bestS
  cases hb : bestF l cs (winL l cs l 0 []) none with
  | none =>
    rw [hb] at h
    intro i hi
    have := (win_mem l cs i).2 hi
    rw [show winL l cs l 0 [] = [] from h] at this
    cases this
  | some b =>
    rw [hb] at h
    exact ⟨(win_mem l cs b).1 h.1, fun j hj hne => h.2 j ((win_mem l cs j).2 hj) hne⟩
theorem winsL_iff (i : Nat) (r : PVRoute) : ∀ (rest : List PVRoute) (k : Nat) (acc : Bool), winsL l cs i r rest k acc = true ↔ acc = true ∧ ∀ j s, rest[j]? = some s → k + j ≠ i → (costS cs s).2 = true → sameGroupS r s = true → better l cs (k + j) i = false
  | [], k, acc => by simp [winsL]
  | s :: ss, k, acc => by
    simp only [winsL]
    rw [winsL_iff i r ss (k + 1)]
    constructor
    · rintro ⟨h1, h2⟩
      refine ⟨?_, fun j s' hj hne hu hg => ?_⟩
      · split at h1
        · exact h1
        · split at h1
          · cases h1
          · exact h1
      · cases j with
        | zero =>
          obtain rfl : s = s' := by simpa using hj
          have hki : k ≠ i := by simpa using hne
          simp only [hki, decide_false, hu, hg, Bool.not_true, Bool.or_self, Bool.false_eq_true, if_false] at h1
          split at h1
          · cases h1
          · rename_i hb; simpa using hb
        | succ j =>
          have := h2 j s' (by simpa using hj) (by omega) hu hg
          rwa [show k + 1 + j = k + (j + 1) from by omega] at this
    · rintro ⟨h1, h2⟩
      refine ⟨?_, fun j s' hj hne hu hg => ?_⟩
      · split
        · exact h1
        · rename_i hc
          simp only [Bool.or_eq_true, decide_eq_true_eq, Bool.not_eq_true', not_or, Bool.not_eq_false] at hc
          have := h2 0 s rfl (by simpa using hc.1.1) hc.1.2 hc.2
          rw [show k + 0 = k from rfl] at this
          rw [this]; simpa using h1
      · have := h2 (j + 1) s' (by simpa using hj) (by omega) hu hg
        rwa [show k + (j + 1) = k + 1 + j from by omega] at this
theorem winsL_win (i : Nat) (r : PVRoute) (hi : l[i]? = some r) : winsL l cs i r l 0 (costS cs r).2 = true ↔ Win l cs i := by
  have hr : l.getD i default = r := by rw [List.getD_eq_getElem?_getD, hi]; rfl
  have hil : i < l.length := (List.getElem?_eq_some_iff.1 hi).1
  rw [winsL_iff]
  simp only [Nat.zero_add]
  constructor
  · rintro ⟨h1, h2⟩
    refine ⟨⟨hil, by rw [hr]; exact h1⟩, fun k hU hk hne => ?_⟩
    have hkd : l[k]? = some (l.getD k default) := by rw [List.getD_eq_getElem?_getD, List.getElem?_eq_getElem hU.1]; rfl
    refine h2 k _ hkd hne hU.2 ((group_key _ _).2 ?_)
    unfold kI at hk; rw [hr] at hk; exact hk.symm
  · rintro ⟨h1, h2⟩
    refine ⟨by rw [← hr]; exact h1.2, fun j s hj hne hu hg => ?_⟩
    have hs : l.getD j default = s := by rw [List.getD_eq_getElem?_getD, hj]; rfl
    refine h2 j ⟨(List.getElem?_eq_some_iff.1 hj).1, by rw [hs]; exact hu⟩ ?_ hne
    unfold kI; rw [hr, hs]; exact ((group_key _ _).1 hg).symm
theorem bestR_inv : ∀ (rest done : List PVRoute) (S : List Nat) (b : Option Nat), l = done ++ rest → (∀ w, w ∈ S ↔ (w < done.length ∧ Win l cs w)) → Inv l cs S b →
    ∃ S', (∀ w, w ∈ S' ↔ Win l cs w) ∧ Inv l cs S' (bestR l cs rest done.length b)
  | [], done, S, b, e, hS, h => by
    refine ⟨S, fun w => ?_, h⟩
    rw [hS w]
    constructor
    · exact fun q => q.2
    · intro q
      have := q.1.1
      simp only [List.append_nil] at e
      rw [e] at this
      exact ⟨this, q⟩
  | r :: rs, done, S, b, e, hS, h => by
    have hi : l[done.length]? = some r := by simp [e]
    have hw := winsL_win l cs done.length r hi
    have hdl : (done ++ [r]).length = done.length + 1 := by simp
    have hgo : bestR l cs (r :: rs) done.length b = bestR l cs rs (done ++ [r]).length (if winsL l cs done.length r l 0 (costS cs r).2 then bestStep l cs done.length b else b) := by rw [hdl]; rfl
    rw [hgo]
    cases hc : winsL l cs done.length r l 0 (costS cs r).2 with
    | false =>
      simp only [Bool.false_eq_true, if_false]
      refine bestR_inv rs (done ++ [r]) S b (by simp [e]) (fun w => ?_) h
      rw [hS w, hdl]
      constructor
      · exact fun q => ⟨by omega, q.2⟩
      · rintro ⟨q1, q2⟩
        refine ⟨?_, q2⟩
        rcases Nat.lt_or_ge w done.length with z | z
        · exact z
        · obtain rfl : w = done.length := by omega
          rw [hc] at hw; exact absurd (hw.2 q2) (by simp)
    | true =>
      simp only [if_true]
      have hW := hw.1 hc
      have hmem : ∀ w, w ∈ S ++ [done.length] ↔ (w < (done ++ [r]).length ∧ Win l cs w) := fun w => by
        simp only [List.mem_append, List.mem_singleton, hS w, hdl]
        constructor
        · rintro (⟨q1, q2⟩ | rfl)
          · exact ⟨by omega, q2⟩
          · exact ⟨by omega, hW⟩
        · rintro ⟨q1, q2⟩
          rcases Nat.lt_or_ge w done.length with z | z
          · exact .inl ⟨z, q2⟩
          · exact .inr (by omega)
      refine bestR_inv rs (done ++ [r]) (S ++ [done.length]) _ (by simp [e]) hmem ?_
      cases b with
      | none =>
        obtain rfl : S = [] := h
        exact ⟨by simp, fun v hv hne => absurd (by simpa using hv) hne⟩
      | some b =>
        have hkeys : ∀ v ∈ S ++ [done.length], ∀ v' ∈ S ++ [done.length], kI l v = kI l v' → v = v' := fun v hv v' hv' hk => Win.one l cs ((hmem v).1 hv).2 ((hmem v').1 hv').2 hk
        have := inv_step l cs S b done.length hkeys h
        have hbl : b < done.length := ((hS b).1 h.1).1
        have hb : better l cs done.length b = decide ((cm l cs done.length b).1 < 0) := by
          unfold better
          rw [show decide (done.length < b) = false from by simp; omega]
          simp
        rw [hb] at this
        unfold bestStep
        by_cases hlt : (cm l cs done.length b).1 < 0
        · simp only [hlt, decide_true, if_true] at this ⊢; exact this
        · simp only [hlt, decide_false, Bool.false_eq_true, if_false] at this ⊢; exact this
theorem best_same : bestR l cs l 0 none = bestS l cs := by
  obtain ⟨S, h1, h2⟩ := bestR_inv l cs l [] [] none rfl (by simp) rfl
  have h3 := bestS_spec l cs
  cases hb : bestR l cs l 0 none with
  | none =>
    rw [show ([] : List PVRoute).length = 0 from rfl, hb] at h2
    obtain rfl : S = [] := h2
    cases hs : bestS l cs with
    | none => rfl
    | some b =>
      rw [hs] at h3
      have := (h1 b).2 h3.1
      cases this
  | some b =>
    rw [show ([] : List PVRoute).length = 0 from rfl, hb] at h2
    have hB : IsB l cs b := ⟨(h1 b).1 h2.1, fun j hj hne => h2.2 j ((h1 j).2 hj) hne⟩
    cases hs : bestS l cs with
    | none => rw [hs] at h3; exact absurd hB.1 (h3 b)
    | some b' => rw [hs] at h3; rw [IsB.one l cs hB h3]
end
end Go.AM.IR
namespace Go.AM.IR
set_option maxHeartbeats 4000000
set_option maxRecDepth 100000
def equalS (l : List PVRoute) (cs : List IGP) (n : Int) : Option (List Nat) := match bestS l cs with
  | none => none
  | some b => if n < 1 then none else some (eqL l cs b n l 0 [b])
def eqRet : Option (List Nat) → Ret
  | none => ⟨.con (.slice none 0 0), []⟩
  | some out => ⟨.vs 0 0 out.length, [(false, .vec 1 (out.map idxE))]⟩
section
variable (l : List PVRoute) (hl : l.length < 2 ^ 40) (hfit : ∀ r ∈ l, Fit r) (cs : List IGP) (hcs : cs.length < 2 ^ 40)
include hl hfit hcs
theorem equal_gives16 (n : Int) : Gives G 16 [.sl 22 (l.map PVRoute.enc), .sl 2 (cs.map IGP.enc), .int .i64 n] [] (eqRet (equalS l cs n)) := by
  have e1 := best_gives14 l hl hfit cs hcs
  have pl : pureL [AV.sl 22 (l.map PVRoute.enc), AV.sl 2 (cs.map IGP.enc)] = true := by simp [pureL, AV.pure]
  have hsp := bestS_spec l cs
  have hlm : (l.map PVRoute.enc).length = l.length := by simp
  unfold equalS
  generalize bestS l cs = B at *
  cases B with
  | none =>
    refine gives_code (F := f16) rfl rfl (W_ok 100 _ _ _ _ ?_)
    repeat (first | refine Exists.intro _ (And.intro (unA_neg_i64 (by omega) (by omega)) ?_) | refine Exists.intro _ (And.intro (binA_quo_i64 (by omega) (by omega) (by omega)) ?_) | refine Exists.intro _ (And.intro (binA_rem_i64 (by omega) (by omega)) ?_) | refine Exists.intro _ (And.intro (binA_sub_i64 (by omega) (by omega)) ?_) | refine Exists.intro _ (And.intro (binA_add_i64 (by omega) (by omega)) ?_) | refine Exists.intro _ (And.intro (conv_i64 (by omega) (by omega)) ?_) | refine Exists.intro _ (And.intro rfl ?_) | refine And.intro rfl ?_ | refine condT ?_ | refine condF ?_ | refine condG1 ?_ | refine condG0 ?_ | refine condDT (by omega) ?_ | refine condDF (by omega) ?_ | refine condBT (by omega) ?_ | refine condBF (by omega) ?_ | refine condNT (by omega) ?_ | refine condNF (by omega) ?_ | refine And.intro (by omega) ?_ | refine And.intro (ble_of (by omega)) ?_ | refine And.intro (room_le (by omega)) ?_ | refine Exists.intro _ (And.intro (by assumption) ?_))
    refine callV e1 pl rfl ?_
    repeat (first | refine Exists.intro _ (And.intro (unA_neg_i64 (by omega) (by omega)) ?_) | refine Exists.intro _ (And.intro (binA_quo_i64 (by omega) (by omega) (by omega)) ?_) | refine Exists.intro _ (And.intro (binA_rem_i64 (by omega) (by omega)) ?_) | refine Exists.intro _ (And.intro (binA_sub_i64 (by omega) (by omega)) ?_) | refine Exists.intro _ (And.intro (binA_add_i64 (by omega) (by omega)) ?_) | refine Exists.intro _ (And.intro (conv_i64 (by omega) (by omega)) ?_) | refine Exists.intro _ (And.intro rfl ?_) | refine And.intro rfl ?_ | refine condT ?_ | refine condF ?_ | refine condG1 ?_ | refine condG0 ?_ | refine condDT (by omega) ?_ | refine condDF (by omega) ?_ | refine condBT (by omega) ?_ | refine condBF (by omega) ?_ | refine condNT (by omega) ?_ | refine condNF (by omega) ?_ | refine And.intro (by omega) ?_ | refine And.intro (ble_of (by omega)) ?_ | refine And.intro (room_le (by omega)) ?_ | refine Exists.intro _ (And.intro (by assumption) ?_))
    rfl
  | some b =>
    have hb : b < l.length := hsp.1.1.1
    have hz : l[b]? = some (l.getD b default) := by rw [List.getD_eq_getElem?_getD, List.getElem?_eq_getElem hb]; rfl
    by_cases hn : n < 1
    · simp only [hn, if_true]
      refine gives_code (F := f16) rfl rfl (W_ok 100 _ _ _ _ ?_)
      repeat (first | refine Exists.intro _ (And.intro (unA_neg_i64 (by omega) (by omega)) ?_) | refine Exists.intro _ (And.intro (binA_quo_i64 (by omega) (by omega) (by omega)) ?_) | refine Exists.intro _ (And.intro (binA_rem_i64 (by omega) (by omega)) ?_) | refine Exists.intro _ (And.intro (binA_sub_i64 (by omega) (by omega)) ?_) | refine Exists.intro _ (And.intro (binA_add_i64 (by omega) (by omega)) ?_) | refine Exists.intro _ (And.intro (conv_i64 (by omega) (by omega)) ?_) | refine Exists.intro _ (And.intro rfl ?_) | refine And.intro rfl ?_ | refine condT ?_ | refine condF ?_ | refine condG1 ?_ | refine condG0 ?_ | refine condDT (by omega) ?_ | refine condDF (by omega) ?_ | refine condBT (by omega) ?_ | refine condBF (by omega) ?_ | refine condNT (by omega) ?_ | refine condNF (by omega) ?_ | refine And.intro (by omega) ?_ | refine And.intro (ble_of (by omega)) ?_ | refine And.intro (room_le (by omega)) ?_ | refine Exists.intro _ (And.intro (by assumption) ?_))
      refine callV e1 pl rfl ?_
      repeat (first | refine Exists.intro _ (And.intro (unA_neg_i64 (by omega) (by omega)) ?_) | refine Exists.intro _ (And.intro (binA_quo_i64 (by omega) (by omega) (by omega)) ?_) | refine Exists.intro _ (And.intro (binA_rem_i64 (by omega) (by omega)) ?_) | refine Exists.intro _ (And.intro (binA_sub_i64 (by omega) (by omega)) ?_) | refine Exists.intro _ (And.intro (binA_add_i64 (by omega) (by omega)) ?_) | refine Exists.intro _ (And.intro (conv_i64 (by omega) (by omega)) ?_) | refine Exists.intro _ (And.intro rfl ?_) | refine And.intro rfl ?_ | refine condT ?_ | refine condF ?_ | refine condG1 ?_ | refine condG0 ?_ | refine condDT (by omega) ?_ | refine condDF (by omega) ?_ | refine condBT (by omega) ?_ | refine condBF (by omega) ?_ | refine condNT (by omega) ?_ | refine condNF (by omega) ?_ | refine And.intro (by omega) ?_ | refine And.intro (ble_of (by omega)) ?_ | refine And.intro (room_le (by omega)) ?_ | refine Exists.intro _ (And.intro (by assumption) ?_))
      rfl
    · simp only [hn, if_false]
      have key := eq_loop16 l hl hfit cs hcs b _ hz n l [] [b] (by simp)
      refine gives_code (F := f16) rfl rfl (W_ok 100 _ _ _ _ ?_)
      repeat (first | refine Exists.intro _ (And.intro (unA_neg_i64 (by omega) (by omega)) ?_) | refine Exists.intro _ (And.intro (binA_quo_i64 (by omega) (by omega) (by omega)) ?_) | refine Exists.intro _ (And.intro (binA_rem_i64 (by omega) (by omega)) ?_) | refine Exists.intro _ (And.intro (binA_sub_i64 (by omega) (by omega)) ?_) | refine Exists.intro _ (And.intro (binA_add_i64 (by omega) (by omega)) ?_) | refine Exists.intro _ (And.intro (conv_i64 (by omega) (by omega)) ?_) | refine Exists.intro _ (And.intro rfl ?_) | refine And.intro rfl ?_ | refine condT ?_ | refine condF ?_ | refine condG1 ?_ | refine condG0 ?_ | refine condDT (by omega) ?_ | refine condDF (by omega) ?_ | refine condBT (by omega) ?_ | refine condBF (by omega) ?_ | refine condNT (by omega) ?_ | refine condNF (by omega) ?_ | refine And.intro (by omega) ?_ | refine And.intro (ble_of (by omega)) ?_ | refine And.intro (room_le (by omega)) ?_ | refine Exists.intro _ (And.intro (by assumption) ?_))
      refine callV e1 pl rfl ?_
      repeat (first | refine Exists.intro _ (And.intro (unA_neg_i64 (by omega) (by omega)) ?_) | refine Exists.intro _ (And.intro (binA_quo_i64 (by omega) (by omega) (by omega)) ?_) | refine Exists.intro _ (And.intro (binA_rem_i64 (by omega) (by omega)) ?_) | refine Exists.intro _ (And.intro (binA_sub_i64 (by omega) (by omega)) ?_) | refine Exists.intro _ (And.intro (binA_add_i64 (by omega) (by omega)) ?_) | refine Exists.intro _ (And.intro (conv_i64 (by omega) (by omega)) ?_) | refine Exists.intro _ (And.intro rfl ?_) | refine And.intro rfl ?_ | refine condT ?_ | refine condF ?_ | refine condG1 ?_ | refine condG0 ?_ | refine condDT (by omega) ?_ | refine condDF (by omega) ?_ | refine condBT (by omega) ?_ | refine condBF (by omega) ?_ | refine condNT (by omega) ?_ | refine condNF (by omega) ?_ | refine And.intro (by omega) ?_ | refine And.intro (ble_of (by omega)) ?_ | refine And.intro (room_le (by omega)) ?_ | refine Exists.intro _ (And.intro (by assumption) ?_))
      refine ev_keep [30, 31, 32, 0, 1, 2, 7, 9] [93] ?_
      simp only [hlm]
      exact key _ _ _ _ _ 0 _ rfl rfl rfl rfl
theorem equal_gives17 (n : Int) : Gives G 17 [.sl 22 (l.map PVRoute.enc), .sl 2 (cs.map IGP.enc), .int .i64 n] [] (eqRet (equalS l cs n)) := by
  have e1 := best_gives15 l hl hfit cs hcs
  rw [best_same] at e1
  have pl : pureL [AV.sl 22 (l.map PVRoute.enc), AV.sl 2 (cs.map IGP.enc)] = true := by simp [pureL, AV.pure]
  have hsp := bestS_spec l cs
  have hlm : (l.map PVRoute.enc).length = l.length := by simp
  unfold equalS
  generalize bestS l cs = B at *
  cases B with
  | none =>
    refine gives_code (F := f17) rfl rfl (W_ok 100 _ _ _ _ ?_)
    repeat (first | refine Exists.intro _ (And.intro (unA_neg_i64 (by omega) (by omega)) ?_) | refine Exists.intro _ (And.intro (binA_quo_i64 (by omega) (by omega) (by omega)) ?_) | refine Exists.intro _ (And.intro (binA_rem_i64 (by omega) (by omega)) ?_) | refine Exists.intro _ (And.intro (binA_sub_i64 (by omega) (by omega)) ?_) | refine Exists.intro _ (And.intro (binA_add_i64 (by omega) (by omega)) ?_) | refine Exists.intro _ (And.intro (conv_i64 (by omega) (by omega)) ?_) | refine Exists.intro _ (And.intro rfl ?_) | refine And.intro rfl ?_ | refine condT ?_ | refine condF ?_ | refine condG1 ?_ | refine condG0 ?_ | refine condDT (by omega) ?_ | refine condDF (by omega) ?_ | refine condBT (by omega) ?_ | refine condBF (by omega) ?_ | refine condNT (by omega) ?_ | refine condNF (by omega) ?_ | refine And.intro (by omega) ?_ | refine And.intro (ble_of (by omega)) ?_ | refine And.intro (room_le (by omega)) ?_ | refine Exists.intro _ (And.intro (by assumption) ?_))
    refine callV e1 pl rfl ?_
    repeat (first | refine Exists.intro _ (And.intro (unA_neg_i64 (by omega) (by omega)) ?_) | refine Exists.intro _ (And.intro (binA_quo_i64 (by omega) (by omega) (by omega)) ?_) | refine Exists.intro _ (And.intro (binA_rem_i64 (by omega) (by omega)) ?_) | refine Exists.intro _ (And.intro (binA_sub_i64 (by omega) (by omega)) ?_) | refine Exists.intro _ (And.intro (binA_add_i64 (by omega) (by omega)) ?_) | refine Exists.intro _ (And.intro (conv_i64 (by omega) (by omega)) ?_) | refine Exists.intro _ (And.intro rfl ?_) | refine And.intro rfl ?_ | refine condT ?_ | refine condF ?_ | refine condG1 ?_ | refine condG0 ?_ | refine condDT (by omega) ?_ | refine condDF (by omega) ?_ | refine condBT (by omega) ?_ | refine condBF (by omega) ?_ | refine condNT (by omega) ?_ | refine condNF (by omega) ?_ | refine And.intro (by omega) ?_ | refine And.intro (ble_of (by omega)) ?_ | refine And.intro (room_le (by omega)) ?_ | refine Exists.intro _ (And.intro (by assumption) ?_))
    rfl
  | some b =>
    have hb : b < l.length := hsp.1.1.1
    have hz : l[b]? = some (l.getD b default) := by rw [List.getD_eq_getElem?_getD, List.getElem?_eq_getElem hb]; rfl
    by_cases hn : n < 1
    · simp only [hn, if_true]
      refine gives_code (F := f17) rfl rfl (W_ok 100 _ _ _ _ ?_)
      repeat (first | refine Exists.intro _ (And.intro (unA_neg_i64 (by omega) (by omega)) ?_) | refine Exists.intro _ (And.intro (binA_quo_i64 (by omega) (by omega) (by omega)) ?_) | refine Exists.intro _ (And.intro (binA_rem_i64 (by omega) (by omega)) ?_) | refine Exists.intro _ (And.intro (binA_sub_i64 (by omega) (by omega)) ?_) | refine Exists.intro _ (And.intro (binA_add_i64 (by omega) (by omega)) ?_) | refine Exists.intro _ (And.intro (conv_i64 (by omega) (by omega)) ?_) | refine Exists.intro _ (And.intro rfl ?_) | refine And.intro rfl ?_ | refine condT ?_ | refine condF ?_ | refine condG1 ?_ | refine condG0 ?_ | refine condDT (by omega) ?_ | refine condDF (by omega) ?_ | refine condBT (by omega) ?_ | refine condBF (by omega) ?_ | refine condNT (by omega) ?_ | refine condNF (by omega) ?_ | refine And.intro (by omega) ?_ | refine And.intro (ble_of (by omega)) ?_ | refine And.intro (room_le (by omega)) ?_ | refine Exists.intro _ (And.intro (by assumption) ?_))
      refine callV e1 pl rfl ?_
      repeat (first | refine Exists.intro _ (And.intro (unA_neg_i64 (by omega) (by omega)) ?_) | refine Exists.intro _ (And.intro (binA_quo_i64 (by omega) (by omega) (by omega)) ?_) | refine Exists.intro _ (And.intro (binA_rem_i64 (by omega) (by omega)) ?_) | refine Exists.intro _ (And.intro (binA_sub_i64 (by omega) (by omega)) ?_) | refine Exists.intro _ (And.intro (binA_add_i64 (by omega) (by omega)) ?_) | refine Exists.intro _ (And.intro (conv_i64 (by omega) (by omega)) ?_) | refine Exists.intro _ (And.intro rfl ?_) | refine And.intro rfl ?_ | refine condT ?_ | refine condF ?_ | refine condG1 ?_ | refine condG0 ?_ | refine condDT (by omega) ?_ | refine condDF (by omega) ?_ | refine condBT (by omega) ?_ | refine condBF (by omega) ?_ | refine condNT (by omega) ?_ | refine condNF (by omega) ?_ | refine And.intro (by omega) ?_ | refine And.intro (ble_of (by omega)) ?_ | refine And.intro (room_le (by omega)) ?_ | refine Exists.intro _ (And.intro (by assumption) ?_))
      rfl
    · simp only [hn, if_false]
      have key := eq_loop17 l hl hfit cs hcs b _ hz n l [] [b] (by simp)
      refine gives_code (F := f17) rfl rfl (W_ok 100 _ _ _ _ ?_)
      repeat (first | refine Exists.intro _ (And.intro (unA_neg_i64 (by omega) (by omega)) ?_) | refine Exists.intro _ (And.intro (binA_quo_i64 (by omega) (by omega) (by omega)) ?_) | refine Exists.intro _ (And.intro (binA_rem_i64 (by omega) (by omega)) ?_) | refine Exists.intro _ (And.intro (binA_sub_i64 (by omega) (by omega)) ?_) | refine Exists.intro _ (And.intro (binA_add_i64 (by omega) (by omega)) ?_) | refine Exists.intro _ (And.intro (conv_i64 (by omega) (by omega)) ?_) | refine Exists.intro _ (And.intro rfl ?_) | refine And.intro rfl ?_ | refine condT ?_ | refine condF ?_ | refine condG1 ?_ | refine condG0 ?_ | refine condDT (by omega) ?_ | refine condDF (by omega) ?_ | refine condBT (by omega) ?_ | refine condBF (by omega) ?_ | refine condNT (by omega) ?_ | refine condNF (by omega) ?_ | refine And.intro (by omega) ?_ | refine And.intro (ble_of (by omega)) ?_ | refine And.intro (room_le (by omega)) ?_ | refine Exists.intro _ (And.intro (by assumption) ?_))
      refine callV e1 pl rfl ?_
      repeat (first | refine Exists.intro _ (And.intro (unA_neg_i64 (by omega) (by omega)) ?_) | refine Exists.intro _ (And.intro (binA_quo_i64 (by omega) (by omega) (by omega)) ?_) | refine Exists.intro _ (And.intro (binA_rem_i64 (by omega) (by omega)) ?_) | refine Exists.intro _ (And.intro (binA_sub_i64 (by omega) (by omega)) ?_) | refine Exists.intro _ (And.intro (binA_add_i64 (by omega) (by omega)) ?_) | refine Exists.intro _ (And.intro (conv_i64 (by omega) (by omega)) ?_) | refine Exists.intro _ (And.intro rfl ?_) | refine And.intro rfl ?_ | refine condT ?_ | refine condF ?_ | refine condG1 ?_ | refine condG0 ?_ | refine condDT (by omega) ?_ | refine condDF (by omega) ?_ | refine condBT (by omega) ?_ | refine condBF (by omega) ?_ | refine condNT (by omega) ?_ | refine condNF (by omega) ?_ | refine And.intro (by omega) ?_ | refine And.intro (ble_of (by omega)) ?_ | refine And.intro (room_le (by omega)) ?_ | refine Exists.intro _ (And.intro (by assumption) ?_))
      refine ev_keep [30, 31, 32, 0, 1, 2, 7, 9] [93] ?_
      simp only [hlm]
      exact key _ _ _ _ _ 0 _ rfl rfl rfl rfl
theorem law3_gives : Gives G 3 [.sl 22 (l.map PVRoute.enc), .sl 2 (cs.map IGP.enc)] [] ⟨.bool true, []⟩ := by
  have e1 := best_gives14 l hl hfit cs hcs
  have e2 := best_gives15 l hl hfit cs hcs
  have e0 := large_gives11 l hl (fun r hr => (hfit r hr).ab)
  rw [best_same] at e2
  have pl : pureL [AV.sl 22 (l.map PVRoute.enc), AV.sl 2 (cs.map IGP.enc)] = true := by simp [pureL, AV.pure]
  have hlm : (l.map PVRoute.enc).length = l.length := by simp
  have hcm : (cs.map IGP.enc).length = cs.length := by simp
  generalize largeS l = L at *
  cases L with
  | true =>
    refine gives_code (F := f3) rfl rfl (W_ok 100 _ _ _ _ ?_)
    repeat (first | refine Exists.intro _ (And.intro (unA_neg_i64 (by omega) (by omega)) ?_) | refine Exists.intro _ (And.intro (binA_quo_i64 (by omega) (by omega) (by omega)) ?_) | refine Exists.intro _ (And.intro (binA_rem_i64 (by omega) (by omega)) ?_) | refine Exists.intro _ (And.intro (binA_sub_i64 (by omega) (by omega)) ?_) | refine Exists.intro _ (And.intro (binA_add_i64 (by omega) (by omega)) ?_) | refine Exists.intro _ (And.intro (conv_i64 (by omega) (by omega)) ?_) | refine Exists.intro _ (And.intro rfl ?_) | refine And.intro rfl ?_ | refine condT ?_ | refine condF ?_ | refine condG1 ?_ | refine condG0 ?_ | refine condDT (by omega) ?_ | refine condDF (by omega) ?_ | refine condBT (by omega) ?_ | refine condBF (by omega) ?_ | refine condNT (by omega) ?_ | refine condNF (by omega) ?_ | refine And.intro (by omega) ?_ | refine And.intro (ble_of (by omega)) ?_ | refine And.intro (room_le (by omega)) ?_ | refine Exists.intro _ (And.intro (by assumption) ?_))
    refine callV (e0) (by simp [pureL, AV.pure]) (by simp [AV.dry, dryL]) ?_
    repeat (first | refine Exists.intro _ (And.intro (unA_neg_i64 (by omega) (by omega)) ?_) | refine Exists.intro _ (And.intro (binA_quo_i64 (by omega) (by omega) (by omega)) ?_) | refine Exists.intro _ (And.intro (binA_rem_i64 (by omega) (by omega)) ?_) | refine Exists.intro _ (And.intro (binA_sub_i64 (by omega) (by omega)) ?_) | refine Exists.intro _ (And.intro (binA_add_i64 (by omega) (by omega)) ?_) | refine Exists.intro _ (And.intro (conv_i64 (by omega) (by omega)) ?_) | refine Exists.intro _ (And.intro rfl ?_) | refine And.intro rfl ?_ | refine condT ?_ | refine condF ?_ | refine condG1 ?_ | refine condG0 ?_ | refine condDT (by omega) ?_ | refine condDF (by omega) ?_ | refine condBT (by omega) ?_ | refine condBF (by omega) ?_ | refine condNT (by omega) ?_ | refine condNF (by omega) ?_ | refine And.intro (by omega) ?_ | refine And.intro (ble_of (by omega)) ?_ | refine And.intro (room_le (by omega)) ?_ | refine Exists.intro _ (And.intro (by assumption) ?_))
    refine callV (awake_gives) (by simp [pureL, AV.pure]) (by simp [AV.dry, dryL]) ?_
    repeat (first | refine Exists.intro _ (And.intro (unA_neg_i64 (by omega) (by omega)) ?_) | refine Exists.intro _ (And.intro (binA_quo_i64 (by omega) (by omega) (by omega)) ?_) | refine Exists.intro _ (And.intro (binA_rem_i64 (by omega) (by omega)) ?_) | refine Exists.intro _ (And.intro (binA_sub_i64 (by omega) (by omega)) ?_) | refine Exists.intro _ (And.intro (binA_add_i64 (by omega) (by omega)) ?_) | refine Exists.intro _ (And.intro (conv_i64 (by omega) (by omega)) ?_) | refine Exists.intro _ (And.intro rfl ?_) | refine And.intro rfl ?_ | refine condT ?_ | refine condF ?_ | refine condG1 ?_ | refine condG0 ?_ | refine condDT (by omega) ?_ | refine condDF (by omega) ?_ | refine condBT (by omega) ?_ | refine condBF (by omega) ?_ | refine condNT (by omega) ?_ | refine condNF (by omega) ?_ | refine And.intro (by omega) ?_ | refine And.intro (ble_of (by omega)) ?_ | refine And.intro (room_le (by omega)) ?_ | refine Exists.intro _ (And.intro (by assumption) ?_))
    rfl
  | false =>
    by_cases h1 : (l.length : Int) > 40
    · refine gives_code (F := f3) rfl rfl (W_ok 100 _ _ _ _ ?_)
      repeat (first | refine Exists.intro _ (And.intro (unA_neg_i64 (by omega) (by omega)) ?_) | refine Exists.intro _ (And.intro (binA_quo_i64 (by omega) (by omega) (by omega)) ?_) | refine Exists.intro _ (And.intro (binA_rem_i64 (by omega) (by omega)) ?_) | refine Exists.intro _ (And.intro (binA_sub_i64 (by omega) (by omega)) ?_) | refine Exists.intro _ (And.intro (binA_add_i64 (by omega) (by omega)) ?_) | refine Exists.intro _ (And.intro (conv_i64 (by omega) (by omega)) ?_) | refine Exists.intro _ (And.intro rfl ?_) | refine And.intro rfl ?_ | refine condT ?_ | refine condF ?_ | refine condG1 ?_ | refine condG0 ?_ | refine condDT (by omega) ?_ | refine condDF (by omega) ?_ | refine condBT (by omega) ?_ | refine condBF (by omega) ?_ | refine condNT (by omega) ?_ | refine condNF (by omega) ?_ | refine And.intro (by omega) ?_ | refine And.intro (ble_of (by omega)) ?_ | refine And.intro (room_le (by omega)) ?_ | refine Exists.intro _ (And.intro (by assumption) ?_))
      refine callV (e0) (by simp [pureL, AV.pure]) (by simp [AV.dry, dryL]) ?_
      repeat (first | refine Exists.intro _ (And.intro (unA_neg_i64 (by omega) (by omega)) ?_) | refine Exists.intro _ (And.intro (binA_quo_i64 (by omega) (by omega) (by omega)) ?_) | refine Exists.intro _ (And.intro (binA_rem_i64 (by omega) (by omega)) ?_) | refine Exists.intro _ (And.intro (binA_sub_i64 (by omega) (by omega)) ?_) | refine Exists.intro _ (And.intro (binA_add_i64 (by omega) (by omega)) ?_) | refine Exists.intro _ (And.intro (conv_i64 (by omega) (by omega)) ?_) | refine Exists.intro _ (And.intro rfl ?_) | refine And.intro rfl ?_ | refine condT ?_ | refine condF ?_ | refine condG1 ?_ | refine condG0 ?_ | refine condDT (by omega) ?_ | refine condDF (by omega) ?_ | refine condBT (by omega) ?_ | refine condBF (by omega) ?_ | refine condNT (by omega) ?_ | refine condNF (by omega) ?_ | refine And.intro (by omega) ?_ | refine And.intro (ble_of (by omega)) ?_ | refine And.intro (room_le (by omega)) ?_ | refine Exists.intro _ (And.intro (by assumption) ?_))
      refine callV (awake_gives) (by simp [pureL, AV.pure]) (by simp [AV.dry, dryL]) ?_
      repeat (first | refine Exists.intro _ (And.intro (unA_neg_i64 (by omega) (by omega)) ?_) | refine Exists.intro _ (And.intro (binA_quo_i64 (by omega) (by omega) (by omega)) ?_) | refine Exists.intro _ (And.intro (binA_rem_i64 (by omega) (by omega)) ?_) | refine Exists.intro _ (And.intro (binA_sub_i64 (by omega) (by omega)) ?_) | refine Exists.intro _ (And.intro (binA_add_i64 (by omega) (by omega)) ?_) | refine Exists.intro _ (And.intro (conv_i64 (by omega) (by omega)) ?_) | refine Exists.intro _ (And.intro rfl ?_) | refine And.intro rfl ?_ | refine condT ?_ | refine condF ?_ | refine condG1 ?_ | refine condG0 ?_ | refine condDT (by omega) ?_ | refine condDF (by omega) ?_ | refine condBT (by omega) ?_ | refine condBF (by omega) ?_ | refine condNT (by omega) ?_ | refine condNF (by omega) ?_ | refine And.intro (by omega) ?_ | refine And.intro (ble_of (by omega)) ?_ | refine And.intro (room_le (by omega)) ?_ | refine Exists.intro _ (And.intro (by assumption) ?_))
      rfl
    · by_cases h2 : (cs.length : Int) > 3000
      · refine gives_code (F := f3) rfl rfl (W_ok 100 _ _ _ _ ?_)
        repeat (first | refine Exists.intro _ (And.intro (unA_neg_i64 (by omega) (by omega)) ?_) | refine Exists.intro _ (And.intro (binA_quo_i64 (by omega) (by omega) (by omega)) ?_) | refine Exists.intro _ (And.intro (binA_rem_i64 (by omega) (by omega)) ?_) | refine Exists.intro _ (And.intro (binA_sub_i64 (by omega) (by omega)) ?_) | refine Exists.intro _ (And.intro (binA_add_i64 (by omega) (by omega)) ?_) | refine Exists.intro _ (And.intro (conv_i64 (by omega) (by omega)) ?_) | refine Exists.intro _ (And.intro rfl ?_) | refine And.intro rfl ?_ | refine condT ?_ | refine condF ?_ | refine condG1 ?_ | refine condG0 ?_ | refine condDT (by omega) ?_ | refine condDF (by omega) ?_ | refine condBT (by omega) ?_ | refine condBF (by omega) ?_ | refine condNT (by omega) ?_ | refine condNF (by omega) ?_ | refine And.intro (by omega) ?_ | refine And.intro (ble_of (by omega)) ?_ | refine And.intro (room_le (by omega)) ?_ | refine Exists.intro _ (And.intro (by assumption) ?_))
        refine callV (e0) (by simp [pureL, AV.pure]) (by simp [AV.dry, dryL]) ?_
        repeat (first | refine Exists.intro _ (And.intro (unA_neg_i64 (by omega) (by omega)) ?_) | refine Exists.intro _ (And.intro (binA_quo_i64 (by omega) (by omega) (by omega)) ?_) | refine Exists.intro _ (And.intro (binA_rem_i64 (by omega) (by omega)) ?_) | refine Exists.intro _ (And.intro (binA_sub_i64 (by omega) (by omega)) ?_) | refine Exists.intro _ (And.intro (binA_add_i64 (by omega) (by omega)) ?_) | refine Exists.intro _ (And.intro (conv_i64 (by omega) (by omega)) ?_) | refine Exists.intro _ (And.intro rfl ?_) | refine And.intro rfl ?_ | refine condT ?_ | refine condF ?_ | refine condG1 ?_ | refine condG0 ?_ | refine condDT (by omega) ?_ | refine condDF (by omega) ?_ | refine condBT (by omega) ?_ | refine condBF (by omega) ?_ | refine condNT (by omega) ?_ | refine condNF (by omega) ?_ | refine And.intro (by omega) ?_ | refine And.intro (ble_of (by omega)) ?_ | refine And.intro (room_le (by omega)) ?_ | refine Exists.intro _ (And.intro (by assumption) ?_))
        refine callV (awake_gives) (by simp [pureL, AV.pure]) (by simp [AV.dry, dryL]) ?_
        repeat (first | refine Exists.intro _ (And.intro (unA_neg_i64 (by omega) (by omega)) ?_) | refine Exists.intro _ (And.intro (binA_quo_i64 (by omega) (by omega) (by omega)) ?_) | refine Exists.intro _ (And.intro (binA_rem_i64 (by omega) (by omega)) ?_) | refine Exists.intro _ (And.intro (binA_sub_i64 (by omega) (by omega)) ?_) | refine Exists.intro _ (And.intro (binA_add_i64 (by omega) (by omega)) ?_) | refine Exists.intro _ (And.intro (conv_i64 (by omega) (by omega)) ?_) | refine Exists.intro _ (And.intro rfl ?_) | refine And.intro rfl ?_ | refine condT ?_ | refine condF ?_ | refine condG1 ?_ | refine condG0 ?_ | refine condDT (by omega) ?_ | refine condDF (by omega) ?_ | refine condBT (by omega) ?_ | refine condBF (by omega) ?_ | refine condNT (by omega) ?_ | refine condNF (by omega) ?_ | refine And.intro (by omega) ?_ | refine And.intro (ble_of (by omega)) ?_ | refine And.intro (room_le (by omega)) ?_ | refine Exists.intro _ (And.intro (by assumption) ?_))
        rfl
      · generalize bestS l cs = B at *
        cases B with
        | none =>
          refine gives_code (F := f3) rfl rfl (W_ok 100 _ _ _ _ ?_)
          repeat (first | refine Exists.intro _ (And.intro (unA_neg_i64 (by omega) (by omega)) ?_) | refine Exists.intro _ (And.intro (binA_quo_i64 (by omega) (by omega) (by omega)) ?_) | refine Exists.intro _ (And.intro (binA_rem_i64 (by omega) (by omega)) ?_) | refine Exists.intro _ (And.intro (binA_sub_i64 (by omega) (by omega)) ?_) | refine Exists.intro _ (And.intro (binA_add_i64 (by omega) (by omega)) ?_) | refine Exists.intro _ (And.intro (conv_i64 (by omega) (by omega)) ?_) | refine Exists.intro _ (And.intro rfl ?_) | refine And.intro rfl ?_ | refine condT ?_ | refine condF ?_ | refine condG1 ?_ | refine condG0 ?_ | refine condDT (by omega) ?_ | refine condDF (by omega) ?_ | refine condBT (by omega) ?_ | refine condBF (by omega) ?_ | refine condNT (by omega) ?_ | refine condNF (by omega) ?_ | refine And.intro (by omega) ?_ | refine And.intro (ble_of (by omega)) ?_ | refine And.intro (room_le (by omega)) ?_ | refine Exists.intro _ (And.intro (by assumption) ?_))
          refine callV (e0) (by simp [pureL, AV.pure]) (by simp [AV.dry, dryL]) ?_
          repeat (first | refine Exists.intro _ (And.intro (unA_neg_i64 (by omega) (by omega)) ?_) | refine Exists.intro _ (And.intro (binA_quo_i64 (by omega) (by omega) (by omega)) ?_) | refine Exists.intro _ (And.intro (binA_rem_i64 (by omega) (by omega)) ?_) | refine Exists.intro _ (And.intro (binA_sub_i64 (by omega) (by omega)) ?_) | refine Exists.intro _ (And.intro (binA_add_i64 (by omega) (by omega)) ?_) | refine Exists.intro _ (And.intro (conv_i64 (by omega) (by omega)) ?_) | refine Exists.intro _ (And.intro rfl ?_) | refine And.intro rfl ?_ | refine condT ?_ | refine condF ?_ | refine condG1 ?_ | refine condG0 ?_ | refine condDT (by omega) ?_ | refine condDF (by omega) ?_ | refine condBT (by omega) ?_ | refine condBF (by omega) ?_ | refine condNT (by omega) ?_ | refine condNF (by omega) ?_ | refine And.intro (by omega) ?_ | refine And.intro (ble_of (by omega)) ?_ | refine And.intro (room_le (by omega)) ?_ | refine Exists.intro _ (And.intro (by assumption) ?_))
          refine callV e1 pl rfl ?_
          repeat (first | refine Exists.intro _ (And.intro (unA_neg_i64 (by omega) (by omega)) ?_) | refine Exists.intro _ (And.intro (binA_quo_i64 (by omega) (by omega) (by omega)) ?_) | refine Exists.intro _ (And.intro (binA_rem_i64 (by omega) (by omega)) ?_) | refine Exists.intro _ (And.intro (binA_sub_i64 (by omega) (by omega)) ?_) | refine Exists.intro _ (And.intro (binA_add_i64 (by omega) (by omega)) ?_) | refine Exists.intro _ (And.intro (conv_i64 (by omega) (by omega)) ?_) | refine Exists.intro _ (And.intro rfl ?_) | refine And.intro rfl ?_ | refine condT ?_ | refine condF ?_ | refine condG1 ?_ | refine condG0 ?_ | refine condDT (by omega) ?_ | refine condDF (by omega) ?_ | refine condBT (by omega) ?_ | refine condBF (by omega) ?_ | refine condNT (by omega) ?_ | refine condNF (by omega) ?_ | refine And.intro (by omega) ?_ | refine And.intro (ble_of (by omega)) ?_ | refine And.intro (room_le (by omega)) ?_ | refine Exists.intro _ (And.intro (by assumption) ?_))
          refine callV e2 pl rfl ?_
          repeat (first | refine Exists.intro _ (And.intro (unA_neg_i64 (by omega) (by omega)) ?_) | refine Exists.intro _ (And.intro (binA_quo_i64 (by omega) (by omega) (by omega)) ?_) | refine Exists.intro _ (And.intro (binA_rem_i64 (by omega) (by omega)) ?_) | refine Exists.intro _ (And.intro (binA_sub_i64 (by omega) (by omega)) ?_) | refine Exists.intro _ (And.intro (binA_add_i64 (by omega) (by omega)) ?_) | refine Exists.intro _ (And.intro (conv_i64 (by omega) (by omega)) ?_) | refine Exists.intro _ (And.intro rfl ?_) | refine And.intro rfl ?_ | refine condT ?_ | refine condF ?_ | refine condG1 ?_ | refine condG0 ?_ | refine condDT (by omega) ?_ | refine condDF (by omega) ?_ | refine condBT (by omega) ?_ | refine condBF (by omega) ?_ | refine condNT (by omega) ?_ | refine condNF (by omega) ?_ | refine And.intro (by omega) ?_ | refine And.intro (ble_of (by omega)) ?_ | refine And.intro (room_le (by omega)) ?_ | refine Exists.intro _ (And.intro (by assumption) ?_))
          refine callV (awake_gives) (by simp [pureL, AV.pure]) (by simp [AV.dry, dryL]) ?_
          repeat (first | refine Exists.intro _ (And.intro (unA_neg_i64 (by omega) (by omega)) ?_) | refine Exists.intro _ (And.intro (binA_quo_i64 (by omega) (by omega) (by omega)) ?_) | refine Exists.intro _ (And.intro (binA_rem_i64 (by omega) (by omega)) ?_) | refine Exists.intro _ (And.intro (binA_sub_i64 (by omega) (by omega)) ?_) | refine Exists.intro _ (And.intro (binA_add_i64 (by omega) (by omega)) ?_) | refine Exists.intro _ (And.intro (conv_i64 (by omega) (by omega)) ?_) | refine Exists.intro _ (And.intro rfl ?_) | refine And.intro rfl ?_ | refine condT ?_ | refine condF ?_ | refine condG1 ?_ | refine condG0 ?_ | refine condDT (by omega) ?_ | refine condDF (by omega) ?_ | refine condBT (by omega) ?_ | refine condBF (by omega) ?_ | refine condNT (by omega) ?_ | refine condNF (by omega) ?_ | refine And.intro (by omega) ?_ | refine And.intro (ble_of (by omega)) ?_ | refine And.intro (room_le (by omega)) ?_ | refine Exists.intro _ (And.intro (by assumption) ?_))
          rfl
        | some b =>
          refine gives_code (F := f3) rfl rfl (W_ok 100 _ _ _ _ ?_)
          repeat (first | refine Exists.intro _ (And.intro (unA_neg_i64 (by omega) (by omega)) ?_) | refine Exists.intro _ (And.intro (binA_quo_i64 (by omega) (by omega) (by omega)) ?_) | refine Exists.intro _ (And.intro (binA_rem_i64 (by omega) (by omega)) ?_) | refine Exists.intro _ (And.intro (binA_sub_i64 (by omega) (by omega)) ?_) | refine Exists.intro _ (And.intro (binA_add_i64 (by omega) (by omega)) ?_) | refine Exists.intro _ (And.intro (conv_i64 (by omega) (by omega)) ?_) | refine Exists.intro _ (And.intro rfl ?_) | refine And.intro rfl ?_ | refine condT ?_ | refine condF ?_ | refine condG1 ?_ | refine condG0 ?_ | refine condDT (by omega) ?_ | refine condDF (by omega) ?_ | refine condBT (by omega) ?_ | refine condBF (by omega) ?_ | refine condNT (by omega) ?_ | refine condNF (by omega) ?_ | refine And.intro (by omega) ?_ | refine And.intro (ble_of (by omega)) ?_ | refine And.intro (room_le (by omega)) ?_ | refine Exists.intro _ (And.intro (by assumption) ?_))
          refine callV (e0) (by simp [pureL, AV.pure]) (by simp [AV.dry, dryL]) ?_
          repeat (first | refine Exists.intro _ (And.intro (unA_neg_i64 (by omega) (by omega)) ?_) | refine Exists.intro _ (And.intro (binA_quo_i64 (by omega) (by omega) (by omega)) ?_) | refine Exists.intro _ (And.intro (binA_rem_i64 (by omega) (by omega)) ?_) | refine Exists.intro _ (And.intro (binA_sub_i64 (by omega) (by omega)) ?_) | refine Exists.intro _ (And.intro (binA_add_i64 (by omega) (by omega)) ?_) | refine Exists.intro _ (And.intro (conv_i64 (by omega) (by omega)) ?_) | refine Exists.intro _ (And.intro rfl ?_) | refine And.intro rfl ?_ | refine condT ?_ | refine condF ?_ | refine condG1 ?_ | refine condG0 ?_ | refine condDT (by omega) ?_ | refine condDF (by omega) ?_ | refine condBT (by omega) ?_ | refine condBF (by omega) ?_ | refine condNT (by omega) ?_ | refine condNF (by omega) ?_ | refine And.intro (by omega) ?_ | refine And.intro (ble_of (by omega)) ?_ | refine And.intro (room_le (by omega)) ?_ | refine Exists.intro _ (And.intro (by assumption) ?_))
          refine callV e1 pl rfl ?_
          repeat (first | refine Exists.intro _ (And.intro (unA_neg_i64 (by omega) (by omega)) ?_) | refine Exists.intro _ (And.intro (binA_quo_i64 (by omega) (by omega) (by omega)) ?_) | refine Exists.intro _ (And.intro (binA_rem_i64 (by omega) (by omega)) ?_) | refine Exists.intro _ (And.intro (binA_sub_i64 (by omega) (by omega)) ?_) | refine Exists.intro _ (And.intro (binA_add_i64 (by omega) (by omega)) ?_) | refine Exists.intro _ (And.intro (conv_i64 (by omega) (by omega)) ?_) | refine Exists.intro _ (And.intro rfl ?_) | refine And.intro rfl ?_ | refine condT ?_ | refine condF ?_ | refine condG1 ?_ | refine condG0 ?_ | refine condDT (by omega) ?_ | refine condDF (by omega) ?_ | refine condBT (by omega) ?_ | refine condBF (by omega) ?_ | refine condNT (by omega) ?_ | refine condNF (by omega) ?_ | refine And.intro (by omega) ?_ | refine And.intro (ble_of (by omega)) ?_ | refine And.intro (room_le (by omega)) ?_ | refine Exists.intro _ (And.intro (by assumption) ?_))
          refine callV e2 pl rfl ?_
          repeat (first | refine Exists.intro _ (And.intro (unA_neg_i64 (by omega) (by omega)) ?_) | refine Exists.intro _ (And.intro (binA_quo_i64 (by omega) (by omega) (by omega)) ?_) | refine Exists.intro _ (And.intro (binA_rem_i64 (by omega) (by omega)) ?_) | refine Exists.intro _ (And.intro (binA_sub_i64 (by omega) (by omega)) ?_) | refine Exists.intro _ (And.intro (binA_add_i64 (by omega) (by omega)) ?_) | refine Exists.intro _ (And.intro (conv_i64 (by omega) (by omega)) ?_) | refine Exists.intro _ (And.intro rfl ?_) | refine And.intro rfl ?_ | refine condT ?_ | refine condF ?_ | refine condG1 ?_ | refine condG0 ?_ | refine condDT (by omega) ?_ | refine condDF (by omega) ?_ | refine condBT (by omega) ?_ | refine condBF (by omega) ?_ | refine condNT (by omega) ?_ | refine condNF (by omega) ?_ | refine And.intro (by omega) ?_ | refine And.intro (ble_of (by omega)) ?_ | refine And.intro (room_le (by omega)) ?_ | refine Exists.intro _ (And.intro (by assumption) ?_))
          refine callV (awake_gives) (by simp [pureL, AV.pure]) (by simp [AV.dry, dryL]) ?_
          repeat (first | refine Exists.intro _ (And.intro (unA_neg_i64 (by omega) (by omega)) ?_) | refine Exists.intro _ (And.intro (binA_quo_i64 (by omega) (by omega) (by omega)) ?_) | refine Exists.intro _ (And.intro (binA_rem_i64 (by omega) (by omega)) ?_) | refine Exists.intro _ (And.intro (binA_sub_i64 (by omega) (by omega)) ?_) | refine Exists.intro _ (And.intro (binA_add_i64 (by omega) (by omega)) ?_) | refine Exists.intro _ (And.intro (conv_i64 (by omega) (by omega)) ?_) | refine Exists.intro _ (And.intro rfl ?_) | refine And.intro rfl ?_ | refine condT ?_ | refine condF ?_ | refine condG1 ?_ | refine condG0 ?_ | refine condDT (by omega) ?_ | refine condDF (by omega) ?_ | refine condBT (by omega) ?_ | refine condBF (by omega) ?_ | refine condNT (by omega) ?_ | refine condNF (by omega) ?_ | refine And.intro (by omega) ?_ | refine And.intro (ble_of (by omega)) ?_ | refine And.intro (room_le (by omega)) ?_ | refine Exists.intro _ (And.intro (by assumption) ?_))
          rfl
end
end Go.AM.IR
namespace Go.AM.IR
set_option maxHeartbeats 4000000
set_option maxRecDepth 100000
theorem law4_loop (es : List (List AV)) (hes : ∃ o : List Nat, es = o.map idxE) (hl : es.length < 2 ^ 40) : ∀ (n : Nat) (k : Nat) (T : List (Nat × AV)) (H : Heap) (c g g2 m : Nat) (ki : Int) (hk : ki = k) (hm : m = es.length) (hn : n + k = es.length),
    Ev G ⟨[.inLoop f4x12L, .inBlock 0, .code (.seq (.region f4x13 false) .ret)], ⟨(36, .vs 90 g m) :: (37, .int .i64 m) :: (38, .int .i64 ki) :: (7, .vs 90 g m) :: (8, .vs 94 g2 m) :: T, (90, some (g, .vec 1 es)) :: (94, some (g2, .vec 1 es)) :: H, c⟩, [.t 6], 0⟩ ⟨.bool true, []⟩
  | 0, k, T, H, c, g, g2, m, ki, hk, hm, hn => by
    refine ev_loop' (W_ok 200 _ _ _ _ ?_)
    repeat (first | refine Exists.intro _ (And.intro (unA_neg_i64 (by omega) (by omega)) ?_) | refine Exists.intro _ (And.intro (binA_quo_i64 (by omega) (by omega) (by omega)) ?_) | refine Exists.intro _ (And.intro (binA_rem_i64 (by omega) (by omega)) ?_) | refine Exists.intro _ (And.intro (binA_sub_i64 (by omega) (by omega)) ?_) | refine Exists.intro _ (And.intro (binA_add_i64 (by omega) (by omega)) ?_) | refine Exists.intro _ (And.intro (conv_i64 (by omega) (by omega)) ?_) | refine Exists.intro _ (And.intro rfl ?_) | refine And.intro rfl ?_ | refine condT ?_ | refine condF ?_ | refine condG1 ?_ | refine condG0 ?_ | refine condDT (by omega) ?_ | refine condDF (by omega) ?_ | refine condBT (by omega) ?_ | refine condBF (by omega) ?_ | refine condNT (by omega) ?_ | refine condNF (by omega) ?_ | refine And.intro (by omega) ?_ | refine And.intro (ble_of (by omega)) ?_ | refine And.intro (room_le (by omega)) ?_ | refine Exists.intro _ (And.intro (by assumption) ?_))
    refine callV (awake_gives) (by simp [pureL, AV.pure]) (by simp [AV.dry, dryL]) ?_
    repeat (first | refine Exists.intro _ (And.intro (unA_neg_i64 (by omega) (by omega)) ?_) | refine Exists.intro _ (And.intro (binA_quo_i64 (by omega) (by omega) (by omega)) ?_) | refine Exists.intro _ (And.intro (binA_rem_i64 (by omega) (by omega)) ?_) | refine Exists.intro _ (And.intro (binA_sub_i64 (by omega) (by omega)) ?_) | refine Exists.intro _ (And.intro (binA_add_i64 (by omega) (by omega)) ?_) | refine Exists.intro _ (And.intro (conv_i64 (by omega) (by omega)) ?_) | refine Exists.intro _ (And.intro rfl ?_) | refine And.intro rfl ?_ | refine condT ?_ | refine condF ?_ | refine condG1 ?_ | refine condG0 ?_ | refine condDT (by omega) ?_ | refine condDF (by omega) ?_ | refine condBT (by omega) ?_ | refine condBF (by omega) ?_ | refine condNT (by omega) ?_ | refine condNF (by omega) ?_ | refine And.intro (by omega) ?_ | refine And.intro (ble_of (by omega)) ?_ | refine And.intro (room_le (by omega)) ?_ | refine Exists.intro _ (And.intro (by assumption) ?_))
    rfl
  | n + 1, k, T, H, c, g, g2, m, ki, hk, hm, hn => by
    obtain ⟨w, hw⟩ : ∃ w : Nat, es[ki.toNat]? = some (idxE w) := by
      obtain ⟨o, rfl⟩ := hes
      have : k < o.length := by simp at hn; omega
      exact ⟨o[k], by rw [hk]; simp [this]⟩
    refine ev_loop' (W_ok 200 _ _ _ _ ?_)
    repeat (first | refine Exists.intro _ (And.intro (unA_neg_i64 (by omega) (by omega)) ?_) | refine Exists.intro _ (And.intro (binA_quo_i64 (by omega) (by omega) (by omega)) ?_) | refine Exists.intro _ (And.intro (binA_rem_i64 (by omega) (by omega)) ?_) | refine Exists.intro _ (And.intro (binA_sub_i64 (by omega) (by omega)) ?_) | refine Exists.intro _ (And.intro (binA_add_i64 (by omega) (by omega)) ?_) | refine Exists.intro _ (And.intro (conv_i64 (by omega) (by omega)) ?_) | refine Exists.intro _ (And.intro rfl ?_) | refine And.intro rfl ?_ | refine condT ?_ | refine condF ?_ | refine condG1 ?_ | refine condG0 ?_ | refine condDT (by omega) ?_ | refine condDF (by omega) ?_ | refine condBT (by omega) ?_ | refine condBF (by omega) ?_ | refine condNT (by omega) ?_ | refine condNF (by omega) ?_ | refine And.intro (by omega) ?_ | refine And.intro (ble_of (by omega)) ?_ | refine And.intro (room_le (by omega)) ?_ | refine Exists.intro _ (And.intro (by assumption) ?_))
    refine ev_keep [36, 37, 38, 7, 8] [90, 94] ?_
    exact law4_loop es hes hl n (k + 1) _ _ _ _ _ _ (ki + 1) (by omega) hm (by omega)
section
variable (l : List PVRoute) (hl : l.length < 2 ^ 40) (hfit : ∀ r ∈ l, Fit r) (cs : List IGP) (hcs : cs.length < 2 ^ 40)
theorem eqL_len (b : Nat) (n : Int) : ∀ (rest : List PVRoute) (i : Nat) (out : List Nat), (eqL l cs b n rest i out).length ≤ out.length + rest.length
  | [], i, out => by simp [eqL]
  | r :: rs, i, out => by
    have := eqL_len b n rs (i + 1) (eqStep l cs b n r i out)
    have h2 : (eqStep l cs b n r i out).length ≤ out.length + 1 := by
      unfold eqStep
      split <;> simp
    simp only [eqL, List.length_cons]
    omega
include hl hfit hcs
theorem law4_gives (n : Int) : Gives G 4 [.sl 22 (l.map PVRoute.enc), .sl 2 (cs.map IGP.enc), .int .i64 n] [] ⟨.bool true, []⟩ := by
  have e1 := equal_gives16 l hl hfit cs hcs n
  have e2 := equal_gives17 l hl hfit cs hcs n
  have e0 := large_gives11 l hl (fun r hr => (hfit r hr).ab)
  have pl : pureL [AV.sl 22 (l.map PVRoute.enc), AV.sl 2 (cs.map IGP.enc), AV.int .i64 n] = true := by simp [pureL, AV.pure]
  have hlm : (l.map PVRoute.enc).length = l.length := by simp
  have hcm : (cs.map IGP.enc).length = cs.length := by simp
  generalize largeS l = L at *
  cases L with
  | true =>
    refine gives_code (F := f4) rfl rfl (W_ok 100 _ _ _ _ ?_)
    repeat (first | refine Exists.intro _ (And.intro (unA_neg_i64 (by omega) (by omega)) ?_) | refine Exists.intro _ (And.intro (binA_quo_i64 (by omega) (by omega) (by omega)) ?_) | refine Exists.intro _ (And.intro (binA_rem_i64 (by omega) (by omega)) ?_) | refine Exists.intro _ (And.intro (binA_sub_i64 (by omega) (by omega)) ?_) | refine Exists.intro _ (And.intro (binA_add_i64 (by omega) (by omega)) ?_) | refine Exists.intro _ (And.intro (conv_i64 (by omega) (by omega)) ?_) | refine Exists.intro _ (And.intro rfl ?_) | refine And.intro rfl ?_ | refine condT ?_ | refine condF ?_ | refine condG1 ?_ | refine condG0 ?_ | refine condDT (by omega) ?_ | refine condDF (by omega) ?_ | refine condBT (by omega) ?_ | refine condBF (by omega) ?_ | refine condNT (by omega) ?_ | refine condNF (by omega) ?_ | refine And.intro (by omega) ?_ | refine And.intro (ble_of (by omega)) ?_ | refine And.intro (room_le (by omega)) ?_ | refine Exists.intro _ (And.intro (by assumption) ?_))
    refine callV (e0) (by simp [pureL, AV.pure]) (by simp [AV.dry, dryL]) ?_
    repeat (first | refine Exists.intro _ (And.intro (unA_neg_i64 (by omega) (by omega)) ?_) | refine Exists.intro _ (And.intro (binA_quo_i64 (by omega) (by omega) (by omega)) ?_) | refine Exists.intro _ (And.intro (binA_rem_i64 (by omega) (by omega)) ?_) | refine Exists.intro _ (And.intro (binA_sub_i64 (by omega) (by omega)) ?_) | refine Exists.intro _ (And.intro (binA_add_i64 (by omega) (by omega)) ?_) | refine Exists.intro _ (And.intro (conv_i64 (by omega) (by omega)) ?_) | refine Exists.intro _ (And.intro rfl ?_) | refine And.intro rfl ?_ | refine condT ?_ | refine condF ?_ | refine condG1 ?_ | refine condG0 ?_ | refine condDT (by omega) ?_ | refine condDF (by omega) ?_ | refine condBT (by omega) ?_ | refine condBF (by omega) ?_ | refine condNT (by omega) ?_ | refine condNF (by omega) ?_ | refine And.intro (by omega) ?_ | refine And.intro (ble_of (by omega)) ?_ | refine And.intro (room_le (by omega)) ?_ | refine Exists.intro _ (And.intro (by assumption) ?_))
    refine callV (awake_gives) (by simp [pureL, AV.pure]) (by simp [AV.dry, dryL]) ?_
    repeat (first | refine Exists.intro _ (And.intro (unA_neg_i64 (by omega) (by omega)) ?_) | refine Exists.intro _ (And.intro (binA_quo_i64 (by omega) (by omega) (by omega)) ?_) | refine Exists.intro _ (And.intro (binA_rem_i64 (by omega) (by omega)) ?_) | refine Exists.intro _ (And.intro (binA_sub_i64 (by omega) (by omega)) ?_) | refine Exists.intro _ (And.intro (binA_add_i64 (by omega) (by omega)) ?_) | refine Exists.intro _ (And.intro (conv_i64 (by omega) (by omega)) ?_) | refine Exists.intro _ (And.intro rfl ?_) | refine And.intro rfl ?_ | refine condT ?_ | refine condF ?_ | refine condG1 ?_ | refine condG0 ?_ | refine condDT (by omega) ?_ | refine condDF (by omega) ?_ | refine condBT (by omega) ?_ | refine condBF (by omega) ?_ | refine condNT (by omega) ?_ | refine condNF (by omega) ?_ | refine And.intro (by omega) ?_ | refine And.intro (ble_of (by omega)) ?_ | refine And.intro (room_le (by omega)) ?_ | refine Exists.intro _ (And.intro (by assumption) ?_))
    rfl
  | false =>
    by_cases h1 : (l.length : Int) > 40
    · refine gives_code (F := f4) rfl rfl (W_ok 100 _ _ _ _ ?_)
      repeat (first | refine Exists.intro _ (And.intro (unA_neg_i64 (by omega) (by omega)) ?_) | refine Exists.intro _ (And.intro (binA_quo_i64 (by omega) (by omega) (by omega)) ?_) | refine Exists.intro _ (And.intro (binA_rem_i64 (by omega) (by omega)) ?_) | refine Exists.intro _ (And.intro (binA_sub_i64 (by omega) (by omega)) ?_) | refine Exists.intro _ (And.intro (binA_add_i64 (by omega) (by omega)) ?_) | refine Exists.intro _ (And.intro (conv_i64 (by omega) (by omega)) ?_) | refine Exists.intro _ (And.intro rfl ?_) | refine And.intro rfl ?_ | refine condT ?_ | refine condF ?_ | refine condG1 ?_ | refine condG0 ?_ | refine condDT (by omega) ?_ | refine condDF (by omega) ?_ | refine condBT (by omega) ?_ | refine condBF (by omega) ?_ | refine condNT (by omega) ?_ | refine condNF (by omega) ?_ | refine And.intro (by omega) ?_ | refine And.intro (ble_of (by omega)) ?_ | refine And.intro (room_le (by omega)) ?_ | refine Exists.intro _ (And.intro (by assumption) ?_))
      refine callV (e0) (by simp [pureL, AV.pure]) (by simp [AV.dry, dryL]) ?_
      repeat (first | refine Exists.intro _ (And.intro (unA_neg_i64 (by omega) (by omega)) ?_) | refine Exists.intro _ (And.intro (binA_quo_i64 (by omega) (by omega) (by omega)) ?_) | refine Exists.intro _ (And.intro (binA_rem_i64 (by omega) (by omega)) ?_) | refine Exists.intro _ (And.intro (binA_sub_i64 (by omega) (by omega)) ?_) | refine Exists.intro _ (And.intro (binA_add_i64 (by omega) (by omega)) ?_) | refine Exists.intro _ (And.intro (conv_i64 (by omega) (by omega)) ?_) | refine Exists.intro _ (And.intro rfl ?_) | refine And.intro rfl ?_ | refine condT ?_ | refine condF ?_ | refine condG1 ?_ | refine condG0 ?_ | refine condDT (by omega) ?_ | refine condDF (by omega) ?_ | refine condBT (by omega) ?_ | refine condBF (by omega) ?_ | refine condNT (by omega) ?_ | refine condNF (by omega) ?_ | refine And.intro (by omega) ?_ | refine And.intro (ble_of (by omega)) ?_ | refine And.intro (room_le (by omega)) ?_ | refine Exists.intro _ (And.intro (by assumption) ?_))
      refine callV (awake_gives) (by simp [pureL, AV.pure]) (by simp [AV.dry, dryL]) ?_
      repeat (first | refine Exists.intro _ (And.intro (unA_neg_i64 (by omega) (by omega)) ?_) | refine Exists.intro _ (And.intro (binA_quo_i64 (by omega) (by omega) (by omega)) ?_) | refine Exists.intro _ (And.intro (binA_rem_i64 (by omega) (by omega)) ?_) | refine Exists.intro _ (And.intro (binA_sub_i64 (by omega) (by omega)) ?_) | refine Exists.intro _ (And.intro (binA_add_i64 (by omega) (by omega)) ?_) | refine Exists.intro _ (And.intro (conv_i64 (by omega) (by omega)) ?_) | refine Exists.intro _ (And.intro rfl ?_) | refine And.intro rfl ?_ | refine condT ?_ | refine condF ?_ | refine condG1 ?_ | refine condG0 ?_ | refine condDT (by omega) ?_ | refine condDF (by omega) ?_ | refine condBT (by omega) ?_ | refine condBF (by omega) ?_ | refine condNT (by omega) ?_ | refine condNF (by omega) ?_ | refine And.intro (by omega) ?_ | refine And.intro (ble_of (by omega)) ?_ | refine And.intro (room_le (by omega)) ?_ | refine Exists.intro _ (And.intro (by assumption) ?_))
      rfl
    · by_cases h2 : (cs.length : Int) > 3000
      · refine gives_code (F := f4) rfl rfl (W_ok 100 _ _ _ _ ?_)
        repeat (first | refine Exists.intro _ (And.intro (unA_neg_i64 (by omega) (by omega)) ?_) | refine Exists.intro _ (And.intro (binA_quo_i64 (by omega) (by omega) (by omega)) ?_) | refine Exists.intro _ (And.intro (binA_rem_i64 (by omega) (by omega)) ?_) | refine Exists.intro _ (And.intro (binA_sub_i64 (by omega) (by omega)) ?_) | refine Exists.intro _ (And.intro (binA_add_i64 (by omega) (by omega)) ?_) | refine Exists.intro _ (And.intro (conv_i64 (by omega) (by omega)) ?_) | refine Exists.intro _ (And.intro rfl ?_) | refine And.intro rfl ?_ | refine condT ?_ | refine condF ?_ | refine condG1 ?_ | refine condG0 ?_ | refine condDT (by omega) ?_ | refine condDF (by omega) ?_ | refine condBT (by omega) ?_ | refine condBF (by omega) ?_ | refine condNT (by omega) ?_ | refine condNF (by omega) ?_ | refine And.intro (by omega) ?_ | refine And.intro (ble_of (by omega)) ?_ | refine And.intro (room_le (by omega)) ?_ | refine Exists.intro _ (And.intro (by assumption) ?_))
        refine callV (e0) (by simp [pureL, AV.pure]) (by simp [AV.dry, dryL]) ?_
        repeat (first | refine Exists.intro _ (And.intro (unA_neg_i64 (by omega) (by omega)) ?_) | refine Exists.intro _ (And.intro (binA_quo_i64 (by omega) (by omega) (by omega)) ?_) | refine Exists.intro _ (And.intro (binA_rem_i64 (by omega) (by omega)) ?_) | refine Exists.intro _ (And.intro (binA_sub_i64 (by omega) (by omega)) ?_) | refine Exists.intro _ (And.intro (binA_add_i64 (by omega) (by omega)) ?_) | refine Exists.intro _ (And.intro (conv_i64 (by omega) (by omega)) ?_) | refine Exists.intro _ (And.intro rfl ?_) | refine And.intro rfl ?_ | refine condT ?_ | refine condF ?_ | refine condG1 ?_ | refine condG0 ?_ | refine condDT (by omega) ?_ | refine condDF (by omega) ?_ | refine condBT (by omega) ?_ | refine condBF (by omega) ?_ | refine condNT (by omega) ?_ | refine condNF (by omega) ?_ | refine And.intro (by omega) ?_ | refine And.intro (ble_of (by omega)) ?_ | refine And.intro (room_le (by omega)) ?_ | refine Exists.intro _ (And.intro (by assumption) ?_))
        refine callV (awake_gives) (by simp [pureL, AV.pure]) (by simp [AV.dry, dryL]) ?_
        repeat (first | refine Exists.intro _ (And.intro (unA_neg_i64 (by omega) (by omega)) ?_) | refine Exists.intro _ (And.intro (binA_quo_i64 (by omega) (by omega) (by omega)) ?_) | refine Exists.intro _ (And.intro (binA_rem_i64 (by omega) (by omega)) ?_) | refine Exists.intro _ (And.intro (binA_sub_i64 (by omega) (by omega)) ?_) | refine Exists.intro _ (And.intro (binA_add_i64 (by omega) (by omega)) ?_) | refine Exists.intro _ (And.intro (conv_i64 (by omega) (by omega)) ?_) | refine Exists.intro _ (And.intro rfl ?_) | refine And.intro rfl ?_ | refine condT ?_ | refine condF ?_ | refine condG1 ?_ | refine condG0 ?_ | refine condDT (by omega) ?_ | refine condDF (by omega) ?_ | refine condBT (by omega) ?_ | refine condBF (by omega) ?_ | refine condNT (by omega) ?_ | refine condNF (by omega) ?_ | refine And.intro (by omega) ?_ | refine And.intro (ble_of (by omega)) ?_ | refine And.intro (room_le (by omega)) ?_ | refine Exists.intro _ (And.intro (by assumption) ?_))
        rfl
      · have hlen : ∀ out, equalS l cs n = some out → out.length ≤ l.length + 1 := by
          intro out ho
          unfold equalS at ho
          split at ho
          · cases ho
          · split at ho
            · cases ho
            · rename_i b _ _
              have := eqL_len l cs b n l 0 [b]
              rw [Option.some.inj ho] at this
              simp at this; omega
        generalize equalS l cs n = B at *
        cases B with
        | none =>
          refine gives_code (F := f4) rfl rfl (W_ok 100 _ _ _ _ ?_)
          repeat (first | refine Exists.intro _ (And.intro (unA_neg_i64 (by omega) (by omega)) ?_) | refine Exists.intro _ (And.intro (binA_quo_i64 (by omega) (by omega) (by omega)) ?_) | refine Exists.intro _ (And.intro (binA_rem_i64 (by omega) (by omega)) ?_) | refine Exists.intro _ (And.intro (binA_sub_i64 (by omega) (by omega)) ?_) | refine Exists.intro _ (And.intro (binA_add_i64 (by omega) (by omega)) ?_) | refine Exists.intro _ (And.intro (conv_i64 (by omega) (by omega)) ?_) | refine Exists.intro _ (And.intro rfl ?_) | refine And.intro rfl ?_ | refine condT ?_ | refine condF ?_ | refine condG1 ?_ | refine condG0 ?_ | refine condDT (by omega) ?_ | refine condDF (by omega) ?_ | refine condBT (by omega) ?_ | refine condBF (by omega) ?_ | refine condNT (by omega) ?_ | refine condNF (by omega) ?_ | refine And.intro (by omega) ?_ | refine And.intro (ble_of (by omega)) ?_ | refine And.intro (room_le (by omega)) ?_ | refine Exists.intro _ (And.intro (by assumption) ?_))
          refine callV (e0) (by simp [pureL, AV.pure]) (by simp [AV.dry, dryL]) ?_
          repeat (first | refine Exists.intro _ (And.intro (unA_neg_i64 (by omega) (by omega)) ?_) | refine Exists.intro _ (And.intro (binA_quo_i64 (by omega) (by omega) (by omega)) ?_) | refine Exists.intro _ (And.intro (binA_rem_i64 (by omega) (by omega)) ?_) | refine Exists.intro _ (And.intro (binA_sub_i64 (by omega) (by omega)) ?_) | refine Exists.intro _ (And.intro (binA_add_i64 (by omega) (by omega)) ?_) | refine Exists.intro _ (And.intro (conv_i64 (by omega) (by omega)) ?_) | refine Exists.intro _ (And.intro rfl ?_) | refine And.intro rfl ?_ | refine condT ?_ | refine condF ?_ | refine condG1 ?_ | refine condG0 ?_ | refine condDT (by omega) ?_ | refine condDF (by omega) ?_ | refine condBT (by omega) ?_ | refine condBF (by omega) ?_ | refine condNT (by omega) ?_ | refine condNF (by omega) ?_ | refine And.intro (by omega) ?_ | refine And.intro (ble_of (by omega)) ?_ | refine And.intro (room_le (by omega)) ?_ | refine Exists.intro _ (And.intro (by assumption) ?_))
          refine callV e1 pl rfl ?_
          repeat (first | refine Exists.intro _ (And.intro (unA_neg_i64 (by omega) (by omega)) ?_) | refine Exists.intro _ (And.intro (binA_quo_i64 (by omega) (by omega) (by omega)) ?_) | refine Exists.intro _ (And.intro (binA_rem_i64 (by omega) (by omega)) ?_) | refine Exists.intro _ (And.intro (binA_sub_i64 (by omega) (by omega)) ?_) | refine Exists.intro _ (And.intro (binA_add_i64 (by omega) (by omega)) ?_) | refine Exists.intro _ (And.intro (conv_i64 (by omega) (by omega)) ?_) | refine Exists.intro _ (And.intro rfl ?_) | refine And.intro rfl ?_ | refine condT ?_ | refine condF ?_ | refine condG1 ?_ | refine condG0 ?_ | refine condDT (by omega) ?_ | refine condDF (by omega) ?_ | refine condBT (by omega) ?_ | refine condBF (by omega) ?_ | refine condNT (by omega) ?_ | refine condNF (by omega) ?_ | refine And.intro (by omega) ?_ | refine And.intro (ble_of (by omega)) ?_ | refine And.intro (room_le (by omega)) ?_ | refine Exists.intro _ (And.intro (by assumption) ?_))
          refine callV e2 pl rfl ?_
          repeat (first | refine Exists.intro _ (And.intro (unA_neg_i64 (by omega) (by omega)) ?_) | refine Exists.intro _ (And.intro (binA_quo_i64 (by omega) (by omega) (by omega)) ?_) | refine Exists.intro _ (And.intro (binA_rem_i64 (by omega) (by omega)) ?_) | refine Exists.intro _ (And.intro (binA_sub_i64 (by omega) (by omega)) ?_) | refine Exists.intro _ (And.intro (binA_add_i64 (by omega) (by omega)) ?_) | refine Exists.intro _ (And.intro (conv_i64 (by omega) (by omega)) ?_) | refine Exists.intro _ (And.intro rfl ?_) | refine And.intro rfl ?_ | refine condT ?_ | refine condF ?_ | refine condG1 ?_ | refine condG0 ?_ | refine condDT (by omega) ?_ | refine condDF (by omega) ?_ | refine condBT (by omega) ?_ | refine condBF (by omega) ?_ | refine condNT (by omega) ?_ | refine condNF (by omega) ?_ | refine And.intro (by omega) ?_ | refine And.intro (ble_of (by omega)) ?_ | refine And.intro (room_le (by omega)) ?_ | refine Exists.intro _ (And.intro (by assumption) ?_))
          refine ev_loop' (W_ok 200 _ _ _ _ ?_)
          repeat (first | refine Exists.intro _ (And.intro (unA_neg_i64 (by omega) (by omega)) ?_) | refine Exists.intro _ (And.intro (binA_quo_i64 (by omega) (by omega) (by omega)) ?_) | refine Exists.intro _ (And.intro (binA_rem_i64 (by omega) (by omega)) ?_) | refine Exists.intro _ (And.intro (binA_sub_i64 (by omega) (by omega)) ?_) | refine Exists.intro _ (And.intro (binA_add_i64 (by omega) (by omega)) ?_) | refine Exists.intro _ (And.intro (conv_i64 (by omega) (by omega)) ?_) | refine Exists.intro _ (And.intro rfl ?_) | refine And.intro rfl ?_ | refine condT ?_ | refine condF ?_ | refine condG1 ?_ | refine condG0 ?_ | refine condDT (by omega) ?_ | refine condDF (by omega) ?_ | refine condBT (by omega) ?_ | refine condBF (by omega) ?_ | refine condNT (by omega) ?_ | refine condNF (by omega) ?_ | refine And.intro (by omega) ?_ | refine And.intro (ble_of (by omega)) ?_ | refine And.intro (room_le (by omega)) ?_ | refine Exists.intro _ (And.intro (by assumption) ?_))
          refine callV (awake_gives) (by simp [pureL, AV.pure]) (by simp [AV.dry, dryL]) ?_
          repeat (first | refine Exists.intro _ (And.intro (unA_neg_i64 (by omega) (by omega)) ?_) | refine Exists.intro _ (And.intro (binA_quo_i64 (by omega) (by omega) (by omega)) ?_) | refine Exists.intro _ (And.intro (binA_rem_i64 (by omega) (by omega)) ?_) | refine Exists.intro _ (And.intro (binA_sub_i64 (by omega) (by omega)) ?_) | refine Exists.intro _ (And.intro (binA_add_i64 (by omega) (by omega)) ?_) | refine Exists.intro _ (And.intro (conv_i64 (by omega) (by omega)) ?_) | refine Exists.intro _ (And.intro rfl ?_) | refine And.intro rfl ?_ | refine condT ?_ | refine condF ?_ | refine condG1 ?_ | refine condG0 ?_ | refine condDT (by omega) ?_ | refine condDF (by omega) ?_ | refine condBT (by omega) ?_ | refine condBF (by omega) ?_ | refine condNT (by omega) ?_ | refine condNF (by omega) ?_ | refine And.intro (by omega) ?_ | refine And.intro (ble_of (by omega)) ?_ | refine And.intro (room_le (by omega)) ?_ | refine Exists.intro _ (And.intro (by assumption) ?_))
          rfl
        | some out =>
          have hb : pureBs [(false, Blk.vec 1 (out.map idxE))] = true := by show (pureLL (out.map idxE) && true) = true; rw [pure_idx]; rfl
          have hout := hlen out rfl
          refine gives_code (F := f4) rfl rfl (W_ok 100 _ _ _ _ ?_)
          repeat (first | refine Exists.intro _ (And.intro (unA_neg_i64 (by omega) (by omega)) ?_) | refine Exists.intro _ (And.intro (binA_quo_i64 (by omega) (by omega) (by omega)) ?_) | refine Exists.intro _ (And.intro (binA_rem_i64 (by omega) (by omega)) ?_) | refine Exists.intro _ (And.intro (binA_sub_i64 (by omega) (by omega)) ?_) | refine Exists.intro _ (And.intro (binA_add_i64 (by omega) (by omega)) ?_) | refine Exists.intro _ (And.intro (conv_i64 (by omega) (by omega)) ?_) | refine Exists.intro _ (And.intro rfl ?_) | refine And.intro rfl ?_ | refine condT ?_ | refine condF ?_ | refine condG1 ?_ | refine condG0 ?_ | refine condDT (by omega) ?_ | refine condDF (by omega) ?_ | refine condBT (by omega) ?_ | refine condBF (by omega) ?_ | refine condNT (by omega) ?_ | refine condNF (by omega) ?_ | refine And.intro (by omega) ?_ | refine And.intro (ble_of (by omega)) ?_ | refine And.intro (room_le (by omega)) ?_ | refine Exists.intro _ (And.intro (by assumption) ?_))
          refine callV (e0) (by simp [pureL, AV.pure]) (by simp [AV.dry, dryL]) ?_
          repeat (first | refine Exists.intro _ (And.intro (unA_neg_i64 (by omega) (by omega)) ?_) | refine Exists.intro _ (And.intro (binA_quo_i64 (by omega) (by omega) (by omega)) ?_) | refine Exists.intro _ (And.intro (binA_rem_i64 (by omega) (by omega)) ?_) | refine Exists.intro _ (And.intro (binA_sub_i64 (by omega) (by omega)) ?_) | refine Exists.intro _ (And.intro (binA_add_i64 (by omega) (by omega)) ?_) | refine Exists.intro _ (And.intro (conv_i64 (by omega) (by omega)) ?_) | refine Exists.intro _ (And.intro rfl ?_) | refine And.intro rfl ?_ | refine condT ?_ | refine condF ?_ | refine condG1 ?_ | refine condG0 ?_ | refine condDT (by omega) ?_ | refine condDF (by omega) ?_ | refine condBT (by omega) ?_ | refine condBF (by omega) ?_ | refine condNT (by omega) ?_ | refine condNF (by omega) ?_ | refine And.intro (by omega) ?_ | refine And.intro (ble_of (by omega)) ?_ | refine And.intro (room_le (by omega)) ?_ | refine Exists.intro _ (And.intro (by assumption) ?_))
          refine callN e1 pl rfl hb rfl ?_
          repeat (first | refine Exists.intro _ (And.intro (unA_neg_i64 (by omega) (by omega)) ?_) | refine Exists.intro _ (And.intro (binA_quo_i64 (by omega) (by omega) (by omega)) ?_) | refine Exists.intro _ (And.intro (binA_rem_i64 (by omega) (by omega)) ?_) | refine Exists.intro _ (And.intro (binA_sub_i64 (by omega) (by omega)) ?_) | refine Exists.intro _ (And.intro (binA_add_i64 (by omega) (by omega)) ?_) | refine Exists.intro _ (And.intro (conv_i64 (by omega) (by omega)) ?_) | refine Exists.intro _ (And.intro rfl ?_) | refine And.intro rfl ?_ | refine condT ?_ | refine condF ?_ | refine condG1 ?_ | refine condG0 ?_ | refine condDT (by omega) ?_ | refine condDF (by omega) ?_ | refine condBT (by omega) ?_ | refine condBF (by omega) ?_ | refine condNT (by omega) ?_ | refine condNF (by omega) ?_ | refine And.intro (by omega) ?_ | refine And.intro (ble_of (by omega)) ?_ | refine And.intro (room_le (by omega)) ?_ | refine Exists.intro _ (And.intro (by assumption) ?_))
          refine callN e2 pl rfl hb rfl ?_
          repeat (first | refine Exists.intro _ (And.intro (unA_neg_i64 (by omega) (by omega)) ?_) | refine Exists.intro _ (And.intro (binA_quo_i64 (by omega) (by omega) (by omega)) ?_) | refine Exists.intro _ (And.intro (binA_rem_i64 (by omega) (by omega)) ?_) | refine Exists.intro _ (And.intro (binA_sub_i64 (by omega) (by omega)) ?_) | refine Exists.intro _ (And.intro (binA_add_i64 (by omega) (by omega)) ?_) | refine Exists.intro _ (And.intro (conv_i64 (by omega) (by omega)) ?_) | refine Exists.intro _ (And.intro rfl ?_) | refine And.intro rfl ?_ | refine condT ?_ | refine condF ?_ | refine condG1 ?_ | refine condG0 ?_ | refine condDT (by omega) ?_ | refine condDF (by omega) ?_ | refine condBT (by omega) ?_ | refine condBF (by omega) ?_ | refine condNT (by omega) ?_ | refine condNF (by omega) ?_ | refine And.intro (by omega) ?_ | refine And.intro (ble_of (by omega)) ?_ | refine And.intro (room_le (by omega)) ?_ | refine Exists.intro _ (And.intro (by assumption) ?_))
          refine ev_keep [36, 37, 38, 7, 8] [90, 94] ?_
          exact law4_loop (out.map idxE) ⟨out, rfl⟩ (by simp; omega) out.length 0 _ _ _ _ _ _ 0 rfl (by simp) (by simp)
end
end Go.AM.IR
namespace Go.AM.IR
set_option maxHeartbeats 4000000
set_option maxRecDepth 100000
def costs7 (a b : PVRoute) : List IGP := [⟨a.attrs.nextHop, 3⟩, ⟨b.attrs.nextHop, 3⟩]
def test7 (p q s : Int) : Bool := (decide (p > 0) || decide (q > 0) || decide (s ≤ 0)) && (decide (p ≥ 0) || decide (q ≥ 0) || decide (s < 0))
theorem test7_ok (a b c : PVRoute) (cs : List IGP) (h1 : key a = key b) (h2 : key a = key c) : test7 (compareR a b cs).1 (compareR b c cs).1 (compareR a c cs).1 = true := by
  rw [cmp_same h1, cmp_same (h1.symm.trans h2), cmp_same h2]
  have l1 : (V a cs).length = (V b cs).length := rfl
  have l2 : (V b cs).length = (V c cs).length := rfl
  generalize V a cs = u at *
  generalize V b cs = v at *
  generalize V c cs = w at *
  unfold test7
  rcases lx_range u v with p | p | p <;> rcases lx_range v w with q | q | q
  · have := lx_trans u v w l1 l2 (by omega) (by omega)
    simp [p, q]; omega
  · have := lx_trans u v w l1 l2 (by omega) (by omega)
    simp [p, q]; omega
  · simp [p, q]
  · have := lx_trans' u v w l1 l2 (by omega) (by omega)
    simp [p, q]; omega
  · have e1 := lx_eq _ _ l1 p
    have e2 : lx u w = 0 := by rw [e1]; exact q
    simp [p, q, e2]
  · simp [p, q]
  · simp [p, q]
  · simp [p, q]
  · simp [p, q]
section
variable (a b c : PVRoute) (ha : Fit a) (hb : Fit b) (hc : Fit c)
include ha hb hc
theorem law7_end (T : List (Nat × AV)) (H : Heap) (ct g g3 g4 g5 : Nat) (hk1 : key a = key b) (hk2 : key a = key c) :
    Ev G ⟨[.code (.seq (.region f7x13 false) (.seq (.region f7x14 false) (.seq (.region f7x15 false) (.seq (.region f7x16 false) (.seq (.region f7x17 false) .ret)))))], ⟨(3, .ref 67 g3 0) :: (4, .ref 68 g4 0) :: (5, .ref 69 g5 0) :: T, (67, some (g3, .cells a.enc)) :: (68, some (g4, .cells b.enc)) :: (69, some (g5, .cells c.enc)) :: H, ct⟩, [.t 6], 0⟩ ⟨.bool true, []⟩ := by
  have hcl : (costs7 a b).length < 2 ^ 62 := by simp [costs7]
  have e1 := compare_gives12 a b (costs7 a b) ha.rb hb.rb hcl
  have e2 := compare_gives12 b c (costs7 a b) hb.rb hc.rb hcl
  have e3 := compare_gives12 a c (costs7 a b) ha.rb hc.rb hcl
  have ht := test7_ok a b c (costs7 a b) hk1 hk2
  rw [compare_same] at e1 e2 e3
  have pc : (Blk.vec 2 [IGP.enc ⟨a.attrs.nextHop, 3⟩, IGP.enc ⟨b.attrs.nextHop, 3⟩]).pure = true := rfl
  have hren : ∀ (g : Nat) (x y : PVRoute), renL (φF [(130, g, Blk.vec 2 [IGP.enc ⟨a.attrs.nextHop, 3⟩, IGP.enc ⟨b.attrs.nextHop, 3⟩])]) [.agg x.enc, .agg y.enc, .vs 130 g 2] = [.agg x.enc, .agg y.enc, .sl 2 ((costs7 a b).map IGP.enc)] := by
    intro g x y
    have p1 := AV.ren_pure (φF [(130, g, Blk.vec 2 [IGP.enc ⟨a.attrs.nextHop, 3⟩, IGP.enc ⟨b.attrs.nextHop, 3⟩])]) (.agg x.enc) (PVRoute.pure x)
    have p2 := AV.ren_pure (φF [(130, g, Blk.vec 2 [IGP.enc ⟨a.attrs.nextHop, 3⟩, IGP.enc ⟨b.attrs.nextHop, 3⟩])]) (.agg y.enc) (PVRoute.pure y)
    simp only [renL, p1, p2]
    simp [AV.ren, φF, costs7]
  have hkeys : ∀ (g : Nat) (x y : PVRoute), keysL true [.agg x.enc, .agg y.enc, .vs 130 g 2] = [130] := by
    intro g x y
    simp only [keysL, AV.keys_pure true (.agg x.enc) (PVRoute.pure x), AV.keys_pure true (.agg y.enc) (PVRoute.pure y)]
    rfl
  have hkeys0 : ∀ (g : Nat) (x y : PVRoute), keysL false [.agg x.enc, .agg y.enc, .vs 130 g 2] = [] := by
    intro g x y
    simp only [keysL, AV.keys_pure false (.agg x.enc) (PVRoute.pure x), AV.keys_pure false (.agg y.enc) (PVRoute.pure y)]
    rfl
  generalize compareR a b (costs7 a b) = P1 at *
  generalize compareR b c (costs7 a b) = P2 at *
  generalize compareR a c (costs7 a b) = P3 at *
  obtain ⟨p, p'⟩ := P1
  obtain ⟨q, q'⟩ := P2
  obtain ⟨s, s'⟩ := P3
  dsimp only at *
  refine W_ok 200 _ _ _ _ ?_
  repeat (first | refine Exists.intro _ (And.intro (unA_neg_i64 (by omega) (by omega)) ?_) | refine Exists.intro _ (And.intro (binA_quo_i64 (by omega) (by omega) (by omega)) ?_) | refine Exists.intro _ (And.intro (binA_rem_i64 (by omega) (by omega)) ?_) | refine Exists.intro _ (And.intro (binA_sub_i64 (by omega) (by omega)) ?_) | refine Exists.intro _ (And.intro (binA_add_i64 (by omega) (by omega)) ?_) | refine Exists.intro _ (And.intro (conv_i64 (by omega) (by omega)) ?_) | refine Exists.intro _ (And.intro rfl ?_) | refine And.intro rfl ?_ | refine condT ?_ | refine condF ?_ | refine condG1 ?_ | refine condG0 ?_ | refine condDT (by omega) ?_ | refine condDF (by omega) ?_ | refine condBT (by omega) ?_ | refine condBF (by omega) ?_ | refine condNT (by omega) ?_ | refine condNF (by omega) ?_ | refine And.intro (by omega) ?_ | refine And.intro (ble_of (by omega)) ?_ | refine And.intro (room_le (by omega)) ?_ | refine Exists.intro _ (And.intro (by assumption) ?_))
  refine callF [(130, _, .vec 2 [IGP.enc ⟨a.attrs.nextHop, 3⟩, IGP.enc ⟨b.attrs.nextHop, 3⟩])] ⟨rfl, pc, trivial⟩ (hkeys _ _ _) (by simp) (hkeys0 _ _ _) (hren _ _ _) e1 rfl ?_
  repeat (first | refine Exists.intro _ (And.intro (unA_neg_i64 (by omega) (by omega)) ?_) | refine Exists.intro _ (And.intro (binA_quo_i64 (by omega) (by omega) (by omega)) ?_) | refine Exists.intro _ (And.intro (binA_rem_i64 (by omega) (by omega)) ?_) | refine Exists.intro _ (And.intro (binA_sub_i64 (by omega) (by omega)) ?_) | refine Exists.intro _ (And.intro (binA_add_i64 (by omega) (by omega)) ?_) | refine Exists.intro _ (And.intro (conv_i64 (by omega) (by omega)) ?_) | refine Exists.intro _ (And.intro rfl ?_) | refine And.intro rfl ?_ | refine condT ?_ | refine condF ?_ | refine condG1 ?_ | refine condG0 ?_ | refine condDT (by omega) ?_ | refine condDF (by omega) ?_ | refine condBT (by omega) ?_ | refine condBF (by omega) ?_ | refine condNT (by omega) ?_ | refine condNF (by omega) ?_ | refine And.intro (by omega) ?_ | refine And.intro (ble_of (by omega)) ?_ | refine And.intro (room_le (by omega)) ?_ | refine Exists.intro _ (And.intro (by assumption) ?_))
  refine callF [(130, _, .vec 2 [IGP.enc ⟨a.attrs.nextHop, 3⟩, IGP.enc ⟨b.attrs.nextHop, 3⟩])] ⟨rfl, pc, trivial⟩ (hkeys _ _ _) (by simp) (hkeys0 _ _ _) (hren _ _ _) e2 rfl ?_
  repeat (first | refine Exists.intro _ (And.intro (unA_neg_i64 (by omega) (by omega)) ?_) | refine Exists.intro _ (And.intro (binA_quo_i64 (by omega) (by omega) (by omega)) ?_) | refine Exists.intro _ (And.intro (binA_rem_i64 (by omega) (by omega)) ?_) | refine Exists.intro _ (And.intro (binA_sub_i64 (by omega) (by omega)) ?_) | refine Exists.intro _ (And.intro (binA_add_i64 (by omega) (by omega)) ?_) | refine Exists.intro _ (And.intro (conv_i64 (by omega) (by omega)) ?_) | refine Exists.intro _ (And.intro rfl ?_) | refine And.intro rfl ?_ | refine condT ?_ | refine condF ?_ | refine condG1 ?_ | refine condG0 ?_ | refine condDT (by omega) ?_ | refine condDF (by omega) ?_ | refine condBT (by omega) ?_ | refine condBF (by omega) ?_ | refine condNT (by omega) ?_ | refine condNF (by omega) ?_ | refine And.intro (by omega) ?_ | refine And.intro (ble_of (by omega)) ?_ | refine And.intro (room_le (by omega)) ?_ | refine Exists.intro _ (And.intro (by assumption) ?_))
  refine callF [(130, _, .vec 2 [IGP.enc ⟨a.attrs.nextHop, 3⟩, IGP.enc ⟨b.attrs.nextHop, 3⟩])] ⟨rfl, pc, trivial⟩ (hkeys _ _ _) (by simp) (hkeys0 _ _ _) (hren _ _ _) e3 rfl ?_
  repeat (first | refine Exists.intro _ (And.intro (unA_neg_i64 (by omega) (by omega)) ?_) | refine Exists.intro _ (And.intro (binA_quo_i64 (by omega) (by omega) (by omega)) ?_) | refine Exists.intro _ (And.intro (binA_rem_i64 (by omega) (by omega)) ?_) | refine Exists.intro _ (And.intro (binA_sub_i64 (by omega) (by omega)) ?_) | refine Exists.intro _ (And.intro (binA_add_i64 (by omega) (by omega)) ?_) | refine Exists.intro _ (And.intro (conv_i64 (by omega) (by omega)) ?_) | refine Exists.intro _ (And.intro rfl ?_) | refine And.intro rfl ?_ | refine condT ?_ | refine condF ?_ | refine condG1 ?_ | refine condG0 ?_ | refine condDT (by omega) ?_ | refine condDF (by omega) ?_ | refine condBT (by omega) ?_ | refine condBF (by omega) ?_ | refine condNT (by omega) ?_ | refine condNF (by omega) ?_ | refine And.intro (by omega) ?_ | refine And.intro (ble_of (by omega)) ?_ | refine And.intro (room_le (by omega)) ?_ | refine Exists.intro _ (And.intro (by assumption) ?_))
  have hbad : ¬ (p ≤ 0 ∧ q ≤ 0 ∧ s > 0) ∧ ¬ (p < 0 ∧ q < 0 ∧ s ≥ 0) := by
    unfold test7 at ht
    simp only [Bool.and_eq_true, Bool.or_eq_true, decide_eq_true_eq] at ht
    omega
  rcases Int.lt_trichotomy p 0 with hp | hp | hp <;> rcases Int.lt_trichotomy q 0 with hq | hq | hq <;> rcases Int.lt_trichotomy s 0 with hs | hs | hs
  all_goals first
    | (exfalso; omega)
    | (repeat (first | refine Exists.intro _ (And.intro (unA_neg_i64 (by omega) (by omega)) ?_) | refine Exists.intro _ (And.intro (binA_quo_i64 (by omega) (by omega) (by omega)) ?_) | refine Exists.intro _ (And.intro (binA_rem_i64 (by omega) (by omega)) ?_) | refine Exists.intro _ (And.intro (binA_sub_i64 (by omega) (by omega)) ?_) | refine Exists.intro _ (And.intro (binA_add_i64 (by omega) (by omega)) ?_) | refine Exists.intro _ (And.intro (conv_i64 (by omega) (by omega)) ?_) | refine Exists.intro _ (And.intro rfl ?_) | refine And.intro rfl ?_ | refine condT ?_ | refine condF ?_ | refine condG1 ?_ | refine condG0 ?_ | refine condDT (by omega) ?_ | refine condDF (by omega) ?_ | refine condBT (by omega) ?_ | refine condBF (by omega) ?_ | refine condNT (by omega) ?_ | refine condNF (by omega) ?_ | refine And.intro (by omega) ?_ | refine And.intro (ble_of (by omega)) ?_ | refine And.intro (room_le (by omega)) ?_ | refine Exists.intro _ (And.intro (by assumption) ?_))
       refine callV (awake_gives) (by simp [pureL, AV.pure]) (by simp [AV.dry, dryL]) ?_
       repeat (first | refine Exists.intro _ (And.intro (unA_neg_i64 (by omega) (by omega)) ?_) | refine Exists.intro _ (And.intro (binA_quo_i64 (by omega) (by omega) (by omega)) ?_) | refine Exists.intro _ (And.intro (binA_rem_i64 (by omega) (by omega)) ?_) | refine Exists.intro _ (And.intro (binA_sub_i64 (by omega) (by omega)) ?_) | refine Exists.intro _ (And.intro (binA_add_i64 (by omega) (by omega)) ?_) | refine Exists.intro _ (And.intro (conv_i64 (by omega) (by omega)) ?_) | refine Exists.intro _ (And.intro rfl ?_) | refine And.intro rfl ?_ | refine condT ?_ | refine condF ?_ | refine condG1 ?_ | refine condG0 ?_ | refine condDT (by omega) ?_ | refine condDF (by omega) ?_ | refine condBT (by omega) ?_ | refine condBF (by omega) ?_ | refine condNT (by omega) ?_ | refine condNF (by omega) ?_ | refine And.intro (by omega) ?_ | refine And.intro (ble_of (by omega)) ?_ | refine And.intro (room_le (by omega)) ?_ | refine Exists.intro _ (And.intro (by assumption) ?_))
       rfl)
theorem law7_loop : ∀ (rest : List PVRoute) (done : List PVRoute) (hd : [a, b, c] = done ++ rest) (hdone : ∀ r ∈ done, key a = key r) (T : List (Nat × AV)) (H : Heap) (ct g g3 g4 g5 : Nat) (n : Int) (hn : n = done.length),
    Ev G ⟨[.inLoop f7x12L, .inBlock 0, .code (.seq (.region f7x13 false) (.seq (.region f7x14 false) (.seq (.region f7x15 false) (.seq (.region f7x16 false) (.seq (.region f7x17 false) .ret)))))], ⟨(35, .vs 88 g 3) :: (36, .int .i64 3) :: (37, .int .i64 n) :: (8, .int .i64 (firstS a.attrs.path).1) :: (9, .bool (firstS a.attrs.path).2) :: (3, .ref 67 g3 0) :: (4, .ref 68 g4 0) :: (5, .ref 69 g5 0) :: T,
      (88, some (g, .vec 22 [a.enc, b.enc, c.enc])) :: (67, some (g3, .cells a.enc)) :: (68, some (g4, .cells b.enc)) :: (69, some (g5, .cells c.enc)) :: H, ct⟩, [.t 6], 0⟩ ⟨.bool true, []⟩
  | [], done, hd, hdone, T, H, ct, g, g3, g4, g5, n, hn => by
    have hlen : done.length = 3 := by have := congrArg List.length hd; simpa using this.symm
    have hb' : b ∈ done := by rw [List.append_nil] at hd; rw [← hd]; simp
    have hc' : c ∈ done := by rw [List.append_nil] at hd; rw [← hd]; simp
    refine ev_loop' (W_ok 7 _ _ _ _ ?_)
    repeat (first | refine Exists.intro _ (And.intro (unA_neg_i64 (by omega) (by omega)) ?_) | refine Exists.intro _ (And.intro (binA_quo_i64 (by omega) (by omega) (by omega)) ?_) | refine Exists.intro _ (And.intro (binA_rem_i64 (by omega) (by omega)) ?_) | refine Exists.intro _ (And.intro (binA_sub_i64 (by omega) (by omega)) ?_) | refine Exists.intro _ (And.intro (binA_add_i64 (by omega) (by omega)) ?_) | refine Exists.intro _ (And.intro (conv_i64 (by omega) (by omega)) ?_) | refine Exists.intro _ (And.intro rfl ?_) | refine And.intro rfl ?_ | refine condT ?_ | refine condF ?_ | refine condG1 ?_ | refine condG0 ?_ | refine condDT (by omega) ?_ | refine condDF (by omega) ?_ | refine condBT (by omega) ?_ | refine condBF (by omega) ?_ | refine condNT (by omega) ?_ | refine condNF (by omega) ?_ | refine And.intro (by omega) ?_ | refine And.intro (ble_of (by omega)) ?_ | refine And.intro (room_le (by omega)) ?_ | refine Exists.intro _ (And.intro (by assumption) ?_))
    refine ev_keep [3, 4, 5] [67, 68, 69] ?_
    exact law7_end a b c ha hb hc _ _ _ g _ _ _ (hdone b hb') (hdone c hc')
  | x :: rs, done, hd, hdone, T, H, ct, g, g3, g4, g5, n, hn => by
    have hlen : done.length + (rs.length + 1) = 3 := by have := congrArg List.length hd; simpa using this.symm
    have hx0 : [a, b, c][done.length]? = some x := by rw [hd]; simp
    have hx : [a.enc, b.enc, c.enc][n.toNat]? = some x.enc := by
      have : ([a, b, c].map PVRoute.enc)[n.toNat]? = some x.enc := by rw [List.getElem?_map, hn]; simp [hx0]
      exact this
    have fx : Fit x := by
      have : x ∈ [a, b, c] := List.mem_of_getElem? hx0
      simp at this
      rcases this with rfl | rfl | rfl
      · exact ha
      · exact hb
      · exact hc
    have e1 := first_gives19 x.attrs.path fx.rb.path
    rw [show firstS x.attrs.path = key x from rfl] at e1
    by_cases hk : key a = key x
    · have hkk : firstS a.attrs.path = key x := hk
      have next := fun T' H' c' g' g3' g4' g5' => law7_loop rs (done ++ [x]) (by simp [hd]) (by intro r hr; rcases List.mem_append.1 hr with q | q; exact hdone r q; obtain rfl := List.mem_singleton.1 q; exact hk) T' H' c' g' g3' g4' g5' (n + 1) (by simp [hn])
      rw [hkk] at next ⊢
      generalize key x = kx at *
      obtain ⟨x1, x2⟩ := kx
      dsimp only at *
      cases x2
      · refine ev_loop' (W_ok 200 _ _ _ _ ?_)
        repeat (first | refine Exists.intro _ (And.intro (unA_neg_i64 (by omega) (by omega)) ?_) | refine Exists.intro _ (And.intro (binA_quo_i64 (by omega) (by omega) (by omega)) ?_) | refine Exists.intro _ (And.intro (binA_rem_i64 (by omega) (by omega)) ?_) | refine Exists.intro _ (And.intro (binA_sub_i64 (by omega) (by omega)) ?_) | refine Exists.intro _ (And.intro (binA_add_i64 (by omega) (by omega)) ?_) | refine Exists.intro _ (And.intro (conv_i64 (by omega) (by omega)) ?_) | refine Exists.intro _ (And.intro rfl ?_) | refine And.intro rfl ?_ | refine condT ?_ | refine condF ?_ | refine condG1 ?_ | refine condG0 ?_ | refine condDT (by omega) ?_ | refine condDF (by omega) ?_ | refine condBT (by omega) ?_ | refine condBF (by omega) ?_ | refine condNT (by omega) ?_ | refine condNF (by omega) ?_ | refine And.intro (by omega) ?_ | refine And.intro (ble_of (by omega)) ?_ | refine And.intro (room_le (by omega)) ?_ | refine Exists.intro _ (And.intro (by assumption) ?_))
        refine callV (e1) (by simp [pureL, AV.pure]) (by simp [AV.dry, dryL]) ?_
        repeat (first | refine Exists.intro _ (And.intro (unA_neg_i64 (by omega) (by omega)) ?_) | refine Exists.intro _ (And.intro (binA_quo_i64 (by omega) (by omega) (by omega)) ?_) | refine Exists.intro _ (And.intro (binA_rem_i64 (by omega) (by omega)) ?_) | refine Exists.intro _ (And.intro (binA_sub_i64 (by omega) (by omega)) ?_) | refine Exists.intro _ (And.intro (binA_add_i64 (by omega) (by omega)) ?_) | refine Exists.intro _ (And.intro (conv_i64 (by omega) (by omega)) ?_) | refine Exists.intro _ (And.intro rfl ?_) | refine And.intro rfl ?_ | refine condT ?_ | refine condF ?_ | refine condG1 ?_ | refine condG0 ?_ | refine condDT (by omega) ?_ | refine condDF (by omega) ?_ | refine condBT (by omega) ?_ | refine condBF (by omega) ?_ | refine condNT (by omega) ?_ | refine condNF (by omega) ?_ | refine And.intro (by omega) ?_ | refine And.intro (ble_of (by omega)) ?_ | refine And.intro (room_le (by omega)) ?_ | refine Exists.intro _ (And.intro (by assumption) ?_))
        refine ev_keep [35, 36, 37, 8, 9, 3, 4, 5] [88, 67, 68, 69] ?_
        exact next _ _ _ _ _ _ _
      · refine ev_loop' (W_ok 200 _ _ _ _ ?_)
        repeat (first | refine Exists.intro _ (And.intro (unA_neg_i64 (by omega) (by omega)) ?_) | refine Exists.intro _ (And.intro (binA_quo_i64 (by omega) (by omega) (by omega)) ?_) | refine Exists.intro _ (And.intro (binA_rem_i64 (by omega) (by omega)) ?_) | refine Exists.intro _ (And.intro (binA_sub_i64 (by omega) (by omega)) ?_) | refine Exists.intro _ (And.intro (binA_add_i64 (by omega) (by omega)) ?_) | refine Exists.intro _ (And.intro (conv_i64 (by omega) (by omega)) ?_) | refine Exists.intro _ (And.intro rfl ?_) | refine And.intro rfl ?_ | refine condT ?_ | refine condF ?_ | refine condG1 ?_ | refine condG0 ?_ | refine condDT (by omega) ?_ | refine condDF (by omega) ?_ | refine condBT (by omega) ?_ | refine condBF (by omega) ?_ | refine condNT (by omega) ?_ | refine condNF (by omega) ?_ | refine And.intro (by omega) ?_ | refine And.intro (ble_of (by omega)) ?_ | refine And.intro (room_le (by omega)) ?_ | refine Exists.intro _ (And.intro (by assumption) ?_))
        refine callV (e1) (by simp [pureL, AV.pure]) (by simp [AV.dry, dryL]) ?_
        repeat (first | refine Exists.intro _ (And.intro (unA_neg_i64 (by omega) (by omega)) ?_) | refine Exists.intro _ (And.intro (binA_quo_i64 (by omega) (by omega) (by omega)) ?_) | refine Exists.intro _ (And.intro (binA_rem_i64 (by omega) (by omega)) ?_) | refine Exists.intro _ (And.intro (binA_sub_i64 (by omega) (by omega)) ?_) | refine Exists.intro _ (And.intro (binA_add_i64 (by omega) (by omega)) ?_) | refine Exists.intro _ (And.intro (conv_i64 (by omega) (by omega)) ?_) | refine Exists.intro _ (And.intro rfl ?_) | refine And.intro rfl ?_ | refine condT ?_ | refine condF ?_ | refine condG1 ?_ | refine condG0 ?_ | refine condDT (by omega) ?_ | refine condDF (by omega) ?_ | refine condBT (by omega) ?_ | refine condBF (by omega) ?_ | refine condNT (by omega) ?_ | refine condNF (by omega) ?_ | refine And.intro (by omega) ?_ | refine And.intro (ble_of (by omega)) ?_ | refine And.intro (room_le (by omega)) ?_ | refine Exists.intro _ (And.intro (by assumption) ?_))
        refine ev_keep [35, 36, 37, 8, 9, 3, 4, 5] [88, 67, 68, 69] ?_
        exact next _ _ _ _ _ _ _
    · have hkk : ¬ (key a).1 = (key x).1 ∨ ¬ (key a).2 = (key x).2 := by
        rcases Decidable.em ((key a).1 = (key x).1) with q | q
        · exact .inr fun z => hk (Prod.ext q z)
        · exact .inl q
      rw [show firstS a.attrs.path = key a from rfl]
      generalize key x = kx at *
      generalize key a = ka at *
      obtain ⟨x1, x2⟩ := kx
      obtain ⟨a1, a2⟩ := ka
      dsimp only at *
      by_cases h1 : a1 = x1
      · cases a2 <;> cases x2
        all_goals first
          | (exfalso; revert hkk; simp [h1]; done)
          | (refine ev_loop' (W_ok 200 _ _ _ _ ?_)
             repeat (first | refine Exists.intro _ (And.intro (unA_neg_i64 (by omega) (by omega)) ?_) | refine Exists.intro _ (And.intro (binA_quo_i64 (by omega) (by omega) (by omega)) ?_) | refine Exists.intro _ (And.intro (binA_rem_i64 (by omega) (by omega)) ?_) | refine Exists.intro _ (And.intro (binA_sub_i64 (by omega) (by omega)) ?_) | refine Exists.intro _ (And.intro (binA_add_i64 (by omega) (by omega)) ?_) | refine Exists.intro _ (And.intro (conv_i64 (by omega) (by omega)) ?_) | refine Exists.intro _ (And.intro rfl ?_) | refine And.intro rfl ?_ | refine condT ?_ | refine condF ?_ | refine condG1 ?_ | refine condG0 ?_ | refine condDT (by omega) ?_ | refine condDF (by omega) ?_ | refine condBT (by omega) ?_ | refine condBF (by omega) ?_ | refine condNT (by omega) ?_ | refine condNF (by omega) ?_ | refine And.intro (by omega) ?_ | refine And.intro (ble_of (by omega)) ?_ | refine And.intro (room_le (by omega)) ?_ | refine Exists.intro _ (And.intro (by assumption) ?_))
             refine callV (e1) (by simp [pureL, AV.pure]) (by simp [AV.dry, dryL]) ?_
             repeat (first | refine Exists.intro _ (And.intro (unA_neg_i64 (by omega) (by omega)) ?_) | refine Exists.intro _ (And.intro (binA_quo_i64 (by omega) (by omega) (by omega)) ?_) | refine Exists.intro _ (And.intro (binA_rem_i64 (by omega) (by omega)) ?_) | refine Exists.intro _ (And.intro (binA_sub_i64 (by omega) (by omega)) ?_) | refine Exists.intro _ (And.intro (binA_add_i64 (by omega) (by omega)) ?_) | refine Exists.intro _ (And.intro (conv_i64 (by omega) (by omega)) ?_) | refine Exists.intro _ (And.intro rfl ?_) | refine And.intro rfl ?_ | refine condT ?_ | refine condF ?_ | refine condG1 ?_ | refine condG0 ?_ | refine condDT (by omega) ?_ | refine condDF (by omega) ?_ | refine condBT (by omega) ?_ | refine condBF (by omega) ?_ | refine condNT (by omega) ?_ | refine condNF (by omega) ?_ | refine And.intro (by omega) ?_ | refine And.intro (ble_of (by omega)) ?_ | refine And.intro (room_le (by omega)) ?_ | refine Exists.intro _ (And.intro (by assumption) ?_))
             refine callV (awake_gives) (by simp [pureL, AV.pure]) (by simp [AV.dry, dryL]) ?_
             repeat (first | refine Exists.intro _ (And.intro (unA_neg_i64 (by omega) (by omega)) ?_) | refine Exists.intro _ (And.intro (binA_quo_i64 (by omega) (by omega) (by omega)) ?_) | refine Exists.intro _ (And.intro (binA_rem_i64 (by omega) (by omega)) ?_) | refine Exists.intro _ (And.intro (binA_sub_i64 (by omega) (by omega)) ?_) | refine Exists.intro _ (And.intro (binA_add_i64 (by omega) (by omega)) ?_) | refine Exists.intro _ (And.intro (conv_i64 (by omega) (by omega)) ?_) | refine Exists.intro _ (And.intro rfl ?_) | refine And.intro rfl ?_ | refine condT ?_ | refine condF ?_ | refine condG1 ?_ | refine condG0 ?_ | refine condDT (by omega) ?_ | refine condDF (by omega) ?_ | refine condBT (by omega) ?_ | refine condBF (by omega) ?_ | refine condNT (by omega) ?_ | refine condNF (by omega) ?_ | refine And.intro (by omega) ?_ | refine And.intro (ble_of (by omega)) ?_ | refine And.intro (room_le (by omega)) ?_ | refine Exists.intro _ (And.intro (by assumption) ?_))
             rfl)
      · cases a2 <;> cases x2
        all_goals
          refine ev_loop' (W_ok 200 _ _ _ _ ?_)
          repeat (first | refine Exists.intro _ (And.intro (unA_neg_i64 (by omega) (by omega)) ?_) | refine Exists.intro _ (And.intro (binA_quo_i64 (by omega) (by omega) (by omega)) ?_) | refine Exists.intro _ (And.intro (binA_rem_i64 (by omega) (by omega)) ?_) | refine Exists.intro _ (And.intro (binA_sub_i64 (by omega) (by omega)) ?_) | refine Exists.intro _ (And.intro (binA_add_i64 (by omega) (by omega)) ?_) | refine Exists.intro _ (And.intro (conv_i64 (by omega) (by omega)) ?_) | refine Exists.intro _ (And.intro rfl ?_) | refine And.intro rfl ?_ | refine condT ?_ | refine condF ?_ | refine condG1 ?_ | refine condG0 ?_ | refine condDT (by omega) ?_ | refine condDF (by omega) ?_ | refine condBT (by omega) ?_ | refine condBF (by omega) ?_ | refine condNT (by omega) ?_ | refine condNF (by omega) ?_ | refine And.intro (by omega) ?_ | refine And.intro (ble_of (by omega)) ?_ | refine And.intro (room_le (by omega)) ?_ | refine Exists.intro _ (And.intro (by assumption) ?_))
          refine callV (e1) (by simp [pureL, AV.pure]) (by simp [AV.dry, dryL]) ?_
          repeat (first | refine Exists.intro _ (And.intro (unA_neg_i64 (by omega) (by omega)) ?_) | refine Exists.intro _ (And.intro (binA_quo_i64 (by omega) (by omega) (by omega)) ?_) | refine Exists.intro _ (And.intro (binA_rem_i64 (by omega) (by omega)) ?_) | refine Exists.intro _ (And.intro (binA_sub_i64 (by omega) (by omega)) ?_) | refine Exists.intro _ (And.intro (binA_add_i64 (by omega) (by omega)) ?_) | refine Exists.intro _ (And.intro (conv_i64 (by omega) (by omega)) ?_) | refine Exists.intro _ (And.intro rfl ?_) | refine And.intro rfl ?_ | refine condT ?_ | refine condF ?_ | refine condG1 ?_ | refine condG0 ?_ | refine condDT (by omega) ?_ | refine condDF (by omega) ?_ | refine condBT (by omega) ?_ | refine condBF (by omega) ?_ | refine condNT (by omega) ?_ | refine condNF (by omega) ?_ | refine And.intro (by omega) ?_ | refine And.intro (ble_of (by omega)) ?_ | refine And.intro (room_le (by omega)) ?_ | refine Exists.intro _ (And.intro (by assumption) ?_))
          refine callV (awake_gives) (by simp [pureL, AV.pure]) (by simp [AV.dry, dryL]) ?_
          repeat (first | refine Exists.intro _ (And.intro (unA_neg_i64 (by omega) (by omega)) ?_) | refine Exists.intro _ (And.intro (binA_quo_i64 (by omega) (by omega) (by omega)) ?_) | refine Exists.intro _ (And.intro (binA_rem_i64 (by omega) (by omega)) ?_) | refine Exists.intro _ (And.intro (binA_sub_i64 (by omega) (by omega)) ?_) | refine Exists.intro _ (And.intro (binA_add_i64 (by omega) (by omega)) ?_) | refine Exists.intro _ (And.intro (conv_i64 (by omega) (by omega)) ?_) | refine Exists.intro _ (And.intro rfl ?_) | refine And.intro rfl ?_ | refine condT ?_ | refine condF ?_ | refine condG1 ?_ | refine condG0 ?_ | refine condDT (by omega) ?_ | refine condDF (by omega) ?_ | refine condBT (by omega) ?_ | refine condBF (by omega) ?_ | refine condNT (by omega) ?_ | refine condNF (by omega) ?_ | refine And.intro (by omega) ?_ | refine And.intro (ble_of (by omega)) ?_ | refine And.intro (room_le (by omega)) ?_ | refine Exists.intro _ (And.intro (by assumption) ?_))
          rfl
theorem law7_gives : Gives G 7 [.agg a.enc, .agg b.enc, .agg c.enc] [] ⟨.bool true, []⟩ := by
  have pv : pureLL [a.enc, b.enc, c.enc] = true := by simp [pureLL]
  have e0 := large_gives11 [a, b, c] (by simp) (by simp; exact ⟨ha.ab, hb.ab, hc.ab⟩)
  have e1 := first_gives19 a.attrs.path ha.rb.path
  have key := law7_loop a b c ha hb hc [a, b, c] [] rfl (by simp)
  generalize largeS [a, b, c] = L at *
  cases L with
  | true =>
    refine gives_code (F := f7) rfl rfl (W_ok 100 _ _ _ _ ?_)
    repeat (first | refine Exists.intro _ (And.intro (unA_neg_i64 (by omega) (by omega)) ?_) | refine Exists.intro _ (And.intro (binA_quo_i64 (by omega) (by omega) (by omega)) ?_) | refine Exists.intro _ (And.intro (binA_rem_i64 (by omega) (by omega)) ?_) | refine Exists.intro _ (And.intro (binA_sub_i64 (by omega) (by omega)) ?_) | refine Exists.intro _ (And.intro (binA_add_i64 (by omega) (by omega)) ?_) | refine Exists.intro _ (And.intro (conv_i64 (by omega) (by omega)) ?_) | refine Exists.intro _ (And.intro rfl ?_) | refine And.intro rfl ?_ | refine condT ?_ | refine condF ?_ | refine condG1 ?_ | refine condG0 ?_ | refine condDT (by omega) ?_ | refine condDF (by omega) ?_ | refine condBT (by omega) ?_ | refine condBF (by omega) ?_ | refine condNT (by omega) ?_ | refine condNF (by omega) ?_ | refine And.intro (by omega) ?_ | refine And.intro (ble_of (by omega)) ?_ | refine And.intro (room_le (by omega)) ?_ | refine Exists.intro _ (And.intro (by assumption) ?_))
    refine And.intro (by simp [pureL, AV.pure]) ?_
    repeat (first | refine Exists.intro _ (And.intro (unA_neg_i64 (by omega) (by omega)) ?_) | refine Exists.intro _ (And.intro (binA_quo_i64 (by omega) (by omega) (by omega)) ?_) | refine Exists.intro _ (And.intro (binA_rem_i64 (by omega) (by omega)) ?_) | refine Exists.intro _ (And.intro (binA_sub_i64 (by omega) (by omega)) ?_) | refine Exists.intro _ (And.intro (binA_add_i64 (by omega) (by omega)) ?_) | refine Exists.intro _ (And.intro (conv_i64 (by omega) (by omega)) ?_) | refine Exists.intro _ (And.intro rfl ?_) | refine And.intro rfl ?_ | refine condT ?_ | refine condF ?_ | refine condG1 ?_ | refine condG0 ?_ | refine condDT (by omega) ?_ | refine condDF (by omega) ?_ | refine condBT (by omega) ?_ | refine condBF (by omega) ?_ | refine condNT (by omega) ?_ | refine condNF (by omega) ?_ | refine And.intro (by omega) ?_ | refine And.intro (ble_of (by omega)) ?_ | refine And.intro (room_le (by omega)) ?_ | refine Exists.intro _ (And.intro (by assumption) ?_))
    refine callF [(88, _, .vec 22 [a.enc, b.enc, c.enc])] ⟨rfl, pv, trivial⟩ rfl (by simp) rfl rfl e0 rfl ?_
    repeat (first | refine Exists.intro _ (And.intro (unA_neg_i64 (by omega) (by omega)) ?_) | refine Exists.intro _ (And.intro (binA_quo_i64 (by omega) (by omega) (by omega)) ?_) | refine Exists.intro _ (And.intro (binA_rem_i64 (by omega) (by omega)) ?_) | refine Exists.intro _ (And.intro (binA_sub_i64 (by omega) (by omega)) ?_) | refine Exists.intro _ (And.intro (binA_add_i64 (by omega) (by omega)) ?_) | refine Exists.intro _ (And.intro (conv_i64 (by omega) (by omega)) ?_) | refine Exists.intro _ (And.intro rfl ?_) | refine And.intro rfl ?_ | refine condT ?_ | refine condF ?_ | refine condG1 ?_ | refine condG0 ?_ | refine condDT (by omega) ?_ | refine condDF (by omega) ?_ | refine condBT (by omega) ?_ | refine condBF (by omega) ?_ | refine condNT (by omega) ?_ | refine condNF (by omega) ?_ | refine And.intro (by omega) ?_ | refine And.intro (ble_of (by omega)) ?_ | refine And.intro (room_le (by omega)) ?_ | refine Exists.intro _ (And.intro (by assumption) ?_))
    refine callV (awake_gives) (by simp [pureL, AV.pure]) (by simp [AV.dry, dryL]) ?_
    repeat (first | refine Exists.intro _ (And.intro (unA_neg_i64 (by omega) (by omega)) ?_) | refine Exists.intro _ (And.intro (binA_quo_i64 (by omega) (by omega) (by omega)) ?_) | refine Exists.intro _ (And.intro (binA_rem_i64 (by omega) (by omega)) ?_) | refine Exists.intro _ (And.intro (binA_sub_i64 (by omega) (by omega)) ?_) | refine Exists.intro _ (And.intro (binA_add_i64 (by omega) (by omega)) ?_) | refine Exists.intro _ (And.intro (conv_i64 (by omega) (by omega)) ?_) | refine Exists.intro _ (And.intro rfl ?_) | refine And.intro rfl ?_ | refine condT ?_ | refine condF ?_ | refine condG1 ?_ | refine condG0 ?_ | refine condDT (by omega) ?_ | refine condDF (by omega) ?_ | refine condBT (by omega) ?_ | refine condBF (by omega) ?_ | refine condNT (by omega) ?_ | refine condNF (by omega) ?_ | refine And.intro (by omega) ?_ | refine And.intro (ble_of (by omega)) ?_ | refine And.intro (room_le (by omega)) ?_ | refine Exists.intro _ (And.intro (by assumption) ?_))
    rfl
  | false =>
    refine gives_code (F := f7) rfl rfl (W_ok 100 _ _ _ _ ?_)
    repeat (first | refine Exists.intro _ (And.intro (unA_neg_i64 (by omega) (by omega)) ?_) | refine Exists.intro _ (And.intro (binA_quo_i64 (by omega) (by omega) (by omega)) ?_) | refine Exists.intro _ (And.intro (binA_rem_i64 (by omega) (by omega)) ?_) | refine Exists.intro _ (And.intro (binA_sub_i64 (by omega) (by omega)) ?_) | refine Exists.intro _ (And.intro (binA_add_i64 (by omega) (by omega)) ?_) | refine Exists.intro _ (And.intro (conv_i64 (by omega) (by omega)) ?_) | refine Exists.intro _ (And.intro rfl ?_) | refine And.intro rfl ?_ | refine condT ?_ | refine condF ?_ | refine condG1 ?_ | refine condG0 ?_ | refine condDT (by omega) ?_ | refine condDF (by omega) ?_ | refine condBT (by omega) ?_ | refine condBF (by omega) ?_ | refine condNT (by omega) ?_ | refine condNF (by omega) ?_ | refine And.intro (by omega) ?_ | refine And.intro (ble_of (by omega)) ?_ | refine And.intro (room_le (by omega)) ?_ | refine Exists.intro _ (And.intro (by assumption) ?_))
    refine And.intro (by simp [pureL, AV.pure]) ?_
    repeat (first | refine Exists.intro _ (And.intro (unA_neg_i64 (by omega) (by omega)) ?_) | refine Exists.intro _ (And.intro (binA_quo_i64 (by omega) (by omega) (by omega)) ?_) | refine Exists.intro _ (And.intro (binA_rem_i64 (by omega) (by omega)) ?_) | refine Exists.intro _ (And.intro (binA_sub_i64 (by omega) (by omega)) ?_) | refine Exists.intro _ (And.intro (binA_add_i64 (by omega) (by omega)) ?_) | refine Exists.intro _ (And.intro (conv_i64 (by omega) (by omega)) ?_) | refine Exists.intro _ (And.intro rfl ?_) | refine And.intro rfl ?_ | refine condT ?_ | refine condF ?_ | refine condG1 ?_ | refine condG0 ?_ | refine condDT (by omega) ?_ | refine condDF (by omega) ?_ | refine condBT (by omega) ?_ | refine condBF (by omega) ?_ | refine condNT (by omega) ?_ | refine condNF (by omega) ?_ | refine And.intro (by omega) ?_ | refine And.intro (ble_of (by omega)) ?_ | refine And.intro (room_le (by omega)) ?_ | refine Exists.intro _ (And.intro (by assumption) ?_))
    refine callF [(88, _, .vec 22 [a.enc, b.enc, c.enc])] ⟨rfl, pv, trivial⟩ rfl (by simp) rfl rfl e0 rfl ?_
    repeat (first | refine Exists.intro _ (And.intro (unA_neg_i64 (by omega) (by omega)) ?_) | refine Exists.intro _ (And.intro (binA_quo_i64 (by omega) (by omega) (by omega)) ?_) | refine Exists.intro _ (And.intro (binA_rem_i64 (by omega) (by omega)) ?_) | refine Exists.intro _ (And.intro (binA_sub_i64 (by omega) (by omega)) ?_) | refine Exists.intro _ (And.intro (binA_add_i64 (by omega) (by omega)) ?_) | refine Exists.intro _ (And.intro (conv_i64 (by omega) (by omega)) ?_) | refine Exists.intro _ (And.intro rfl ?_) | refine And.intro rfl ?_ | refine condT ?_ | refine condF ?_ | refine condG1 ?_ | refine condG0 ?_ | refine condDT (by omega) ?_ | refine condDF (by omega) ?_ | refine condBT (by omega) ?_ | refine condBF (by omega) ?_ | refine condNT (by omega) ?_ | refine condNF (by omega) ?_ | refine And.intro (by omega) ?_ | refine And.intro (ble_of (by omega)) ?_ | refine And.intro (room_le (by omega)) ?_ | refine Exists.intro _ (And.intro (by assumption) ?_))
    refine callV (e1) (by simp [pureL, AV.pure]) (by simp [AV.dry, dryL]) ?_
    repeat (first | refine Exists.intro _ (And.intro (unA_neg_i64 (by omega) (by omega)) ?_) | refine Exists.intro _ (And.intro (binA_quo_i64 (by omega) (by omega) (by omega)) ?_) | refine Exists.intro _ (And.intro (binA_rem_i64 (by omega) (by omega)) ?_) | refine Exists.intro _ (And.intro (binA_sub_i64 (by omega) (by omega)) ?_) | refine Exists.intro _ (And.intro (binA_add_i64 (by omega) (by omega)) ?_) | refine Exists.intro _ (And.intro (conv_i64 (by omega) (by omega)) ?_) | refine Exists.intro _ (And.intro rfl ?_) | refine And.intro rfl ?_ | refine condT ?_ | refine condF ?_ | refine condG1 ?_ | refine condG0 ?_ | refine condDT (by omega) ?_ | refine condDF (by omega) ?_ | refine condBT (by omega) ?_ | refine condBF (by omega) ?_ | refine condNT (by omega) ?_ | refine condNF (by omega) ?_ | refine And.intro (by omega) ?_ | refine And.intro (ble_of (by omega)) ?_ | refine And.intro (room_le (by omega)) ?_ | refine Exists.intro _ (And.intro (by assumption) ?_))
    refine ev_keep [35, 36, 37, 8, 9, 3, 4, 5] [88, 67, 68, 69] ?_
    exact key _ _ _ _ _ _ _ 0 rfl
end
end Go.AM.IR
namespace Go.AM.IR

theorem lift_enc {α : Type} {e : List AV → Prop} {enc : α → List AV} {Q : α → Prop} (h : ∀ x, e x → ∃ a, x = enc a ∧ Q a) : ∀ es : List (List AV), (∀ x ∈ es, e x) → ∃ l : List α, es = l.map enc ∧ ∀ a ∈ l, Q a
  | [], _ => ⟨[], rfl, by simp⟩
  | x :: r, hx => by
    obtain ⟨a, rfl, ha⟩ := h x (hx x (by simp))
    obtain ⟨l, rfl, hl⟩ := lift_enc h r fun y hy => hx y (by simp [hy])
    exact ⟨a :: l, rfl, by simpa using ⟨ha, hl⟩⟩

def okI (x : Int) : Prop := -9223372036854775808 ≤ x ∧ x ≤ 9223372036854775807
def okU (x : Int) : Prop := 0 ≤ x ∧ x ≤ 4294967295

theorem T_i64 {as : List AV} (h : Ty.T (.int .i64) as) : ∃ x, as = encI x ∧ okI x := by
  obtain ⟨n, rfl, h1, h2⟩ := h
  exact ⟨n, rfl, by simpa [IntKind.min, IntKind.max, IntKind.signed, IntKind.bits, okI] using And.intro h1 h2⟩
theorem T_u32 {as : List AV} (h : Ty.T (.int .u32) as) : ∃ x, as = encU x ∧ okU x := by
  obtain ⟨n, rfl, h1, h2⟩ := h
  exact ⟨n, rfl, by simpa [IntKind.min, IntKind.max, IntKind.signed, IntKind.bits, okU] using And.intro h1 h2⟩
theorem T_u8 {as : List AV} (h : Ty.T (.int .u8) as) : ∃ b : UInt8, as = [.int .u8 b.toNat] ∧ True := by
  obtain ⟨n, rfl, h1, h2⟩ := h
  have h1 : 0 ≤ n := by simpa [IntKind.min, IntKind.signed] using h1
  have h2 : n ≤ 255 := by simpa [IntKind.max, IntKind.signed, IntKind.bits] using h2
  refine ⟨UInt8.ofNat n.toNat, ?_, trivial⟩
  have : ((UInt8.ofNat n.toNat).toNat : Int) = n := by simp; omega
  rw [this]
theorem T_sl {α : Type} {τ : Ty} {enc : α → List AV} {Q : α → Prop} (h : ∀ x, τ.T x → ∃ a, x = enc a ∧ Q a) {as : List AV} (hs : Ty.T (.sl τ) as) : ∃ l : List α, as = [.sl τ.cells (l.map enc)] ∧ ∀ a ∈ l, Q a := by
  obtain ⟨es, rfl, h1, _⟩ := hs
  obtain ⟨l, rfl, h2⟩ := lift_enc h es h1
  exact ⟨l, rfl, h2⟩
theorem T_bytes {as : List AV} (hs : Ty.T (.sl (.int .u8)) as) : ∃ l : List UInt8, as = [.sl 1 (byteCells l)] := by
  obtain ⟨l, rfl, _⟩ := T_sl (fun x => T_u8) hs
  exact ⟨l, rfl⟩

def tSeg : Ty := .st [.int .i64, .sl (.int .i64)]
def tTLV : Ty := .st [.int .i64, .sl (.int .u8)]
def tAttrs : Ty := .st [.int .i64, .sl tSeg, .int .u32, .bool, .int .i64, .bool, .int .i64, .bool, .bool, .int .i64, .int .u32, .sl (.int .u32), .bool, .int .u32, .sl (.int .u32), .sl tTLV]
def tRoute : Ty := .st [.st [.int .u32, .int .i64], tAttrs, .int .i64, .int .i64, .int .u32, .bool]
def tIGP : Ty := .st [.int .u32, .int .i64]

structure Seg.ok (s : Seg) : Prop where
  kind : okI s.kind
  as : ∀ x ∈ s.as, okI x
theorem T_seg {as : List AV} (h : tSeg.T as) : ∃ s : Seg, as = s.enc ∧ s.ok := by
  simp only [tSeg, Ty.T.eq_5, TT] at h
  obtain ⟨a1, b1, rfl, h1, a2, b2, rfl, h2, rfl⟩ := h
  obtain ⟨x1, rfl, k1⟩ := T_i64 h1
  obtain ⟨x2, rfl, k2⟩ := T_sl (fun x => T_i64) h2
  exact ⟨⟨x1, x2⟩, rfl, k1, k2⟩
structure TLV.ok (s : TLV) : Prop where
  kind : okI s.kind
theorem T_tlv {as : List AV} (h : tTLV.T as) : ∃ s : TLV, as = s.enc ∧ s.ok := by
  simp only [tTLV, Ty.T.eq_5, TT] at h
  obtain ⟨a1, b1, rfl, h1, a2, b2, rfl, h2, rfl⟩ := h
  obtain ⟨x1, rfl, k1⟩ := T_i64 h1
  obtain ⟨x2, rfl⟩ := T_bytes h2
  exact ⟨⟨x1, x2⟩, rfl, ⟨k1⟩⟩
structure IGP.ok (s : IGP) : Prop where
  addr : okU s.addr
  cost : okI s.cost
theorem T_igp {as : List AV} (h : tIGP.T as) : ∃ s : IGP, as = s.enc ∧ s.ok := by
  simp only [tIGP, Ty.T.eq_5, TT] at h
  obtain ⟨a1, b1, rfl, h1, a2, b2, rfl, h2, rfl⟩ := h
  obtain ⟨x1, rfl, k1⟩ := T_u32 h1
  obtain ⟨x2, rfl, k2⟩ := T_i64 h2
  exact ⟨⟨x1, x2⟩, rfl, k1, k2⟩
structure Attrs.ok (a : Attrs) : Prop where
  origin : okI a.origin
  path : ∀ s ∈ a.path, s.ok
  nextHop : okU a.nextHop
  med : okI a.med
  pref : okI a.pref
  aggrAS : okI a.aggrAS
  aggrAddr : okU a.aggrAddr
  comms : ∀ x ∈ a.comms, okU x
  orig : okU a.orig
  clusters : ∀ x ∈ a.clusters, okU x
  unknown : ∀ x ∈ a.unknown, x.ok
theorem T_attrs {as : List AV} (h : tAttrs.T as) : ∃ s : Attrs, as = s.enc ∧ s.ok := by
  simp only [tAttrs, Ty.T.eq_5, TT] at h
  obtain ⟨a1, b1, rfl, h1, a2, b2, rfl, h2, a3, b3, rfl, h3, a4, b4, rfl, h4, a5, b5, rfl, h5, a6, b6, rfl, h6, a7, b7, rfl, h7, a8, b8, rfl, h8, a9, b9, rfl, h9, a10, b10, rfl, h10, a11, b11, rfl, h11, a12, b12, rfl, h12, a13, b13, rfl, h13, a14, b14, rfl, h14, a15, b15, rfl, h15, a16, b16, rfl, h16, rfl⟩ := h
  obtain ⟨x1, rfl, k1⟩ := T_i64 h1
  obtain ⟨x2, rfl, k2⟩ := T_sl (fun x => T_seg) h2
  obtain ⟨x3, rfl, k3⟩ := T_u32 h3
  obtain ⟨x4, rfl⟩ := h4
  obtain ⟨x5, rfl, k5⟩ := T_i64 h5
  obtain ⟨x6, rfl⟩ := h6
  obtain ⟨x7, rfl, k7⟩ := T_i64 h7
  obtain ⟨x8, rfl⟩ := h8
  obtain ⟨x9, rfl⟩ := h9
  obtain ⟨x10, rfl, k10⟩ := T_i64 h10
  obtain ⟨x11, rfl, k11⟩ := T_u32 h11
  obtain ⟨x12, rfl, k12⟩ := T_sl (fun x => T_u32) h12
  obtain ⟨x13, rfl⟩ := h13
  obtain ⟨x14, rfl, k14⟩ := T_u32 h14
  obtain ⟨x15, rfl, k15⟩ := T_sl (fun x => T_u32) h15
  obtain ⟨x16, rfl, k16⟩ := T_sl (fun x => T_tlv) h16
  exact ⟨⟨x1, x2, x3, x4, x5, x6, x7, x8, x9, x10, x11, x12, x13, x14, x15, x16⟩, rfl, k1, k2, k3, k5, k7, k10, k11, k12, k14, k15, k16⟩
structure PVRoute.ok (r : PVRoute) : Prop where
  paddr : okU r.paddr
  plen : okI r.plen
  attrs : r.attrs.ok
  peer : okI r.peer
  kind : okI r.kind
  router : okU r.router
theorem T_route {as : List AV} (h : tRoute.T as) : ∃ s : PVRoute, as = s.enc ∧ s.ok := by
  simp only [tRoute, Ty.T.eq_5, TT] at h
  obtain ⟨a1, b1, rfl, ⟨a0, b0, rfl, h0, a00, b00, rfl, h00, rfl⟩, a2, b2, rfl, h2, a3, b3, rfl, h3, a4, b4, rfl, h4, a5, b5, rfl, h5, a6, b6, rfl, h6, rfl⟩ := h
  obtain ⟨x0, rfl, k0⟩ := T_u32 h0
  obtain ⟨x00, rfl, k00⟩ := T_i64 h00
  obtain ⟨x2, rfl, k2⟩ := T_attrs h2
  obtain ⟨x3, rfl, k3⟩ := T_i64 h3
  obtain ⟨x4, rfl, k4⟩ := T_i64 h4
  obtain ⟨x5, rfl, k5⟩ := T_u32 h5
  obtain ⟨x6, rfl⟩ := h6
  exact ⟨⟨x0, x00, x2, x3, x4, x5, x6⟩, rfl, k0, k00, k2, k3, k4, k5⟩
end Go.AM.IR
namespace Go.AM.IR
set_option maxHeartbeats 2000000
theorem bkLL_map_le {α : Type} (f : α → List AV) (g : α → Nat) (h : ∀ x, g x ≤ bkL (f x)) : ∀ l : List α, (l.map g).sum ≤ bkLL (l.map f)
  | [] => by simp
  | x :: r => by
    have := bkLL_map_le f g h r
    have := h x
    simp only [List.map_cons, List.sum_cons, bkLL]
    omega
theorem sum_one {α : Type} : ∀ l : List α, (l.map fun _ => 1).sum = l.length
  | [] => rfl
  | x :: r => by simp only [List.map_cons, List.sum_cons, List.length_cons, sum_one r]; omega
theorem len_bk {α : Type} (f : α → List AV) (h : ∀ x, 1 ≤ bkL (f x)) (l : List α) : l.length ≤ bkLL (l.map f) := by
  have := bkLL_map_le f (fun _ => 1) h l
  rwa [sum_one] at this
theorem mem_bk {α : Type} (f : α → List AV) : ∀ (l : List α) (x : α), x ∈ l → bkL (f x) ≤ bkLL (l.map f)
  | y :: r, x, h => by
    simp only [List.map_cons, bkLL]
    rcases List.mem_cons.1 h with rfl | h
    · omega
    · have := mem_bk f r x h; omega
theorem bk_bytes (l : List UInt8) : l.length ≤ bkLL (byteCells l) := len_bk (f := fun b : UInt8 => [AV.int .u8 (b.toNat : Int)]) (fun _ => by simp [bkL, AV.bk]) l
theorem seg_bk (s : Seg) : s.as.length + 1 ≤ bkL s.enc := by
  have := len_bk encI (fun _ => by simp [encI, bkL, AV.bk]) s.as
  simp only [Seg.enc, bkL, AV.bk]; omega
theorem tlv_bk (s : TLV) : s.value.length + 1 ≤ bkL s.enc := by
  have := bk_bytes s.value
  simp only [TLV.enc, bkL, AV.bk]; omega
theorem flat_len : ∀ l : List Seg, (flatS l).length = (l.map fun s => s.as.length).sum
  | [] => rfl
  | s :: r => by
    have := flat_len r
    simp only [flatS, List.flatMap_cons, List.length_append, List.map_cons, List.sum_cons] at this ⊢
    omega
theorem unk_le : ∀ l : List TLV, unkS l ≤ ((l.map fun t => t.value.length).sum : Nat)
  | [] => by simp [unkS]
  | t :: r => by
    have := unk_le r
    simp only [unkS, List.map_cons, List.sum_cons] at this ⊢
    omega
theorem ab_of (a : Attrs) (h : bkL a.enc ≤ 1048576) : AB a := by
  simp only [Attrs.enc, bkL, AV.bk] at h
  have h1 := len_bk Seg.enc (fun s => by have := seg_bk s; omega) a.path
  have h2 := bkLL_map_le Seg.enc (fun s => s.as.length) (fun s => by have := seg_bk s; omega) a.path
  have h3 := len_bk encU (fun _ => by simp [encU, bkL, AV.bk]) a.comms
  have h4 := len_bk encU (fun _ => by simp [encU, bkL, AV.bk]) a.clusters
  have h5 := len_bk TLV.enc (fun s => by have := tlv_bk s; omega) a.unknown
  have h6 := bkLL_map_le TLV.enc (fun t => t.value.length) (fun s => by have := tlv_bk s; omega) a.unknown
  have h7 := unk_le a.unknown
  rw [← flat_len] at h2
  generalize bkLL (a.path.map Seg.enc) = z1 at *
  generalize bkLL (a.comms.map encU) = z2 at *
  generalize bkLL (a.clusters.map encU) = z3 at *
  refine ⟨by omega, by omega, by omega, by omega, by omega, fun t ht => ?_, by omega⟩
  have := mem_bk TLV.enc a.unknown t ht
  have := tlv_bk t
  omega
theorem route_bk (r : PVRoute) : bkL r.attrs.enc ≤ bkL r.enc ∧ 1 ≤ bkL r.enc := by
  simp only [PVRoute.enc, Attrs.enc, bkL, AV.bk]; omega
theorem fit_of (r : PVRoute) (ho : r.ok) (h : bkL r.enc ≤ 1048576) : Fit r := by
  have := route_bk r
  refine ⟨ab_of r.attrs (by omega), ⟨?_⟩⟩
  have h1 := ho.attrs.orig
  have h2 := ho.router
  unfold okU at h1 h2
  omega
theorem fits_of (l : List PVRoute) (ho : ∀ r ∈ l, r.ok) (h : bkLL (l.map PVRoute.enc) ≤ 1048576) : (∀ r ∈ l, Fit r) ∧ l.length ≤ 1048576 := by
  refine ⟨fun r hr => fit_of r (ho r hr) ?_, ?_⟩
  · have := mem_bk PVRoute.enc l r hr; omega
  · have := len_bk PVRoute.enc (fun r => (route_bk r).2) l; omega
theorem igps_len (l : List IGP) (h : bkLL (l.map IGP.enc) ≤ 1048576) : l.length ≤ 1048576 := by
  have := len_bk IGP.enc (fun r => by simp [IGP.enc, bkL, AV.bk]) l; omega
end Go.AM.IR
namespace Go.AM.IR
theorem law1_gives (cs : List IGP) (r : PVRoute) : Gives G 1 [.sl 2 (cs.map IGP.enc), .agg r.enc] [] ⟨.bool true, []⟩ := by
  refine gives_code (F := f1) rfl rfl (W_ok 100 _ _ _ _ ?_)
  repeat (first | refine Exists.intro _ (And.intro (unA_neg_i64 (by omega) (by omega)) ?_) | refine Exists.intro _ (And.intro (binA_quo_i64 (by omega) (by omega) (by omega)) ?_) | refine Exists.intro _ (And.intro (binA_rem_i64 (by omega) (by omega)) ?_) | refine Exists.intro _ (And.intro (binA_sub_i64 (by omega) (by omega)) ?_) | refine Exists.intro _ (And.intro (binA_add_i64 (by omega) (by omega)) ?_) | refine Exists.intro _ (And.intro (conv_i64 (by omega) (by omega)) ?_) | refine Exists.intro _ (And.intro rfl ?_) | refine And.intro rfl ?_ | refine condT ?_ | refine condF ?_ | refine condG1 ?_ | refine condG0 ?_ | refine condDT (by omega) ?_ | refine condDF (by omega) ?_ | refine condBT (by omega) ?_ | refine condBF (by omega) ?_ | refine condNT (by omega) ?_ | refine condNF (by omega) ?_)
  refine condD (fun h => ?_) (fun h => ?_)
  · repeat (first | refine Exists.intro _ (And.intro (unA_neg_i64 (by omega) (by omega)) ?_) | refine Exists.intro _ (And.intro (binA_quo_i64 (by omega) (by omega) (by omega)) ?_) | refine Exists.intro _ (And.intro (binA_rem_i64 (by omega) (by omega)) ?_) | refine Exists.intro _ (And.intro (binA_sub_i64 (by omega) (by omega)) ?_) | refine Exists.intro _ (And.intro (binA_add_i64 (by omega) (by omega)) ?_) | refine Exists.intro _ (And.intro (conv_i64 (by omega) (by omega)) ?_) | refine Exists.intro _ (And.intro rfl ?_) | refine And.intro rfl ?_ | refine condT ?_ | refine condF ?_ | refine condG1 ?_ | refine condG0 ?_ | refine condDT (by omega) ?_ | refine condDF (by omega) ?_ | refine condBT (by omega) ?_ | refine condBF (by omega) ?_ | refine condNT (by omega) ?_ | refine condNF (by omega) ?_)
    refine callV (awake_gives) (by simp [pureL, AV.pure]) (by simp [AV.dry, dryL]) ?_
    repeat (first | refine Exists.intro _ (And.intro (unA_neg_i64 (by omega) (by omega)) ?_) | refine Exists.intro _ (And.intro (binA_quo_i64 (by omega) (by omega) (by omega)) ?_) | refine Exists.intro _ (And.intro (binA_rem_i64 (by omega) (by omega)) ?_) | refine Exists.intro _ (And.intro (binA_sub_i64 (by omega) (by omega)) ?_) | refine Exists.intro _ (And.intro (binA_add_i64 (by omega) (by omega)) ?_) | refine Exists.intro _ (And.intro (conv_i64 (by omega) (by omega)) ?_) | refine Exists.intro _ (And.intro rfl ?_) | refine And.intro rfl ?_ | refine condT ?_ | refine condF ?_ | refine condG1 ?_ | refine condG0 ?_ | refine condDT (by omega) ?_ | refine condDF (by omega) ?_ | refine condBT (by omega) ?_ | refine condBF (by omega) ?_ | refine condNT (by omega) ?_ | refine condNF (by omega) ?_)
    rfl
  · have hl : cs.length < 2 ^ 62 := by simp at h; omega
    repeat (first | refine Exists.intro _ (And.intro (unA_neg_i64 (by omega) (by omega)) ?_) | refine Exists.intro _ (And.intro (binA_quo_i64 (by omega) (by omega) (by omega)) ?_) | refine Exists.intro _ (And.intro (binA_rem_i64 (by omega) (by omega)) ?_) | refine Exists.intro _ (And.intro (binA_sub_i64 (by omega) (by omega)) ?_) | refine Exists.intro _ (And.intro (binA_add_i64 (by omega) (by omega)) ?_) | refine Exists.intro _ (And.intro (conv_i64 (by omega) (by omega)) ?_) | refine Exists.intro _ (And.intro rfl ?_) | refine And.intro rfl ?_ | refine condT ?_ | refine condF ?_ | refine condG1 ?_ | refine condG0 ?_ | refine condDT (by omega) ?_ | refine condDF (by omega) ?_ | refine condBT (by omega) ?_ | refine condBF (by omega) ?_ | refine condNT (by omega) ?_ | refine condNF (by omega) ?_)
    refine callV (cost_gives9 cs r hl) (by simp [pureL, AV.pure]) (by simp [AV.dry, dryL]) ?_
    repeat (first | refine Exists.intro _ (And.intro (unA_neg_i64 (by omega) (by omega)) ?_) | refine Exists.intro _ (And.intro (binA_quo_i64 (by omega) (by omega) (by omega)) ?_) | refine Exists.intro _ (And.intro (binA_rem_i64 (by omega) (by omega)) ?_) | refine Exists.intro _ (And.intro (binA_sub_i64 (by omega) (by omega)) ?_) | refine Exists.intro _ (And.intro (binA_add_i64 (by omega) (by omega)) ?_) | refine Exists.intro _ (And.intro (conv_i64 (by omega) (by omega)) ?_) | refine Exists.intro _ (And.intro rfl ?_) | refine And.intro rfl ?_ | refine condT ?_ | refine condF ?_ | refine condG1 ?_ | refine condG0 ?_ | refine condDT (by omega) ?_ | refine condDF (by omega) ?_ | refine condBT (by omega) ?_ | refine condBF (by omega) ?_ | refine condNT (by omega) ?_ | refine condNF (by omega) ?_)
    refine callV (cost_gives10 cs r hl) (by simp [pureL, AV.pure]) (by simp [AV.dry, dryL]) ?_
    repeat (first | refine Exists.intro _ (And.intro (unA_neg_i64 (by omega) (by omega)) ?_) | refine Exists.intro _ (And.intro (binA_quo_i64 (by omega) (by omega) (by omega)) ?_) | refine Exists.intro _ (And.intro (binA_rem_i64 (by omega) (by omega)) ?_) | refine Exists.intro _ (And.intro (binA_sub_i64 (by omega) (by omega)) ?_) | refine Exists.intro _ (And.intro (binA_add_i64 (by omega) (by omega)) ?_) | refine Exists.intro _ (And.intro (conv_i64 (by omega) (by omega)) ?_) | refine Exists.intro _ (And.intro rfl ?_) | refine And.intro rfl ?_ | refine condT ?_ | refine condF ?_ | refine condG1 ?_ | refine condG0 ?_ | refine condDT (by omega) ?_ | refine condDF (by omega) ?_ | refine condBT (by omega) ?_ | refine condBF (by omega) ?_ | refine condNT (by omega) ?_ | refine condNF (by omega) ?_)
    refine condV (fun _ => ?_) (fun h => absurd h (by simp))
    repeat (first | refine Exists.intro _ (And.intro (unA_neg_i64 (by omega) (by omega)) ?_) | refine Exists.intro _ (And.intro (binA_quo_i64 (by omega) (by omega) (by omega)) ?_) | refine Exists.intro _ (And.intro (binA_rem_i64 (by omega) (by omega)) ?_) | refine Exists.intro _ (And.intro (binA_sub_i64 (by omega) (by omega)) ?_) | refine Exists.intro _ (And.intro (binA_add_i64 (by omega) (by omega)) ?_) | refine Exists.intro _ (And.intro (conv_i64 (by omega) (by omega)) ?_) | refine Exists.intro _ (And.intro rfl ?_) | refine And.intro rfl ?_ | refine condT ?_ | refine condF ?_ | refine condG1 ?_ | refine condG0 ?_ | refine condDT (by omega) ?_ | refine condDF (by omega) ?_ | refine condBT (by omega) ?_ | refine condBF (by omega) ?_ | refine condNT (by omega) ?_ | refine condNF (by omega) ?_)
    refine callV (awake_gives) (by simp [pureL, AV.pure]) (by simp [AV.dry, dryL]) ?_
    repeat (first | refine Exists.intro _ (And.intro (unA_neg_i64 (by omega) (by omega)) ?_) | refine Exists.intro _ (And.intro (binA_quo_i64 (by omega) (by omega) (by omega)) ?_) | refine Exists.intro _ (And.intro (binA_rem_i64 (by omega) (by omega)) ?_) | refine Exists.intro _ (And.intro (binA_sub_i64 (by omega) (by omega)) ?_) | refine Exists.intro _ (And.intro (binA_add_i64 (by omega) (by omega)) ?_) | refine Exists.intro _ (And.intro (conv_i64 (by omega) (by omega)) ?_) | refine Exists.intro _ (And.intro rfl ?_) | refine And.intro rfl ?_ | refine condT ?_ | refine condF ?_ | refine condG1 ?_ | refine condG0 ?_ | refine condDT (by omega) ?_ | refine condDF (by omega) ?_ | refine condBT (by omega) ?_ | refine condBF (by omega) ?_ | refine condNT (by omega) ?_ | refine condNF (by omega) ?_)
    refine condV (fun _ => ?_) (fun h => absurd h (by simp))
    repeat (first | refine Exists.intro _ (And.intro (unA_neg_i64 (by omega) (by omega)) ?_) | refine Exists.intro _ (And.intro (binA_quo_i64 (by omega) (by omega) (by omega)) ?_) | refine Exists.intro _ (And.intro (binA_rem_i64 (by omega) (by omega)) ?_) | refine Exists.intro _ (And.intro (binA_sub_i64 (by omega) (by omega)) ?_) | refine Exists.intro _ (And.intro (binA_add_i64 (by omega) (by omega)) ?_) | refine Exists.intro _ (And.intro (conv_i64 (by omega) (by omega)) ?_) | refine Exists.intro _ (And.intro rfl ?_) | refine And.intro rfl ?_ | refine condT ?_ | refine condF ?_ | refine condG1 ?_ | refine condG0 ?_ | refine condDT (by omega) ?_ | refine condDF (by omega) ?_ | refine condBT (by omega) ?_ | refine condBF (by omega) ?_ | refine condNT (by omega) ?_ | refine condNF (by omega) ?_)
    rfl
end Go.AM.IR
namespace Go.AM.IR
theorem law1_all (ass : List (List AV)) (h : ArgsT [.sl tIGP, tRoute] ass) : Gives G 1 (argsA [.sl tIGP, tRoute] ass) [] ⟨.bool true, []⟩ := by
  obtain ⟨a, s1, rfl, h1, h⟩ := argsT_cons h
  obtain ⟨b, s2, rfl, h2, h⟩ := argsT_cons h
  obtain rfl := argsT_nil h
  obtain ⟨cs, rfl, _⟩ := T_sl (fun x => T_igp) h1
  obtain ⟨r, rfl, _⟩ := T_route h2
  exact law1_gives cs r
end Go.AM.IR
namespace Go.AM.IR
theorem law2_all (ass : List (List AV)) (h : ArgsT [tRoute, tRoute, .sl tIGP] ass) (hb : bkLL ass ≤ 1048576) : Gives G 2 (argsA [tRoute, tRoute, .sl tIGP] ass) [] ⟨.bool true, []⟩ := by
  obtain ⟨a, s1, rfl, h1, h⟩ := argsT_cons h
  obtain ⟨b, s2, rfl, h2, h⟩ := argsT_cons h
  obtain ⟨c, s3, rfl, h3, h⟩ := argsT_cons h
  obtain rfl := argsT_nil h
  obtain ⟨r1, rfl, k1⟩ := T_route h1
  obtain ⟨r2, rfl, k2⟩ := T_route h2
  obtain ⟨cs, rfl, _⟩ := T_sl (fun x => T_igp) h3
  simp only [bkLL] at hb
  have hc := igps_len cs (by simp only [bkL, AV.bk] at hb; omega)
  exact law2_gives r1 r2 cs (fit_of r1 k1 (by omega)) (fit_of r2 k2 (by omega)) (by omega)
theorem law3_all (ass : List (List AV)) (h : ArgsT [.sl tRoute, .sl tIGP] ass) (hb : bkLL ass ≤ 1048576) : Gives G 3 (argsA [.sl tRoute, .sl tIGP] ass) [] ⟨.bool true, []⟩ := by
  obtain ⟨a, s1, rfl, h1, h⟩ := argsT_cons h
  obtain ⟨b, s2, rfl, h2, h⟩ := argsT_cons h
  obtain rfl := argsT_nil h
  obtain ⟨l, rfl, k1⟩ := T_sl (fun x => T_route) h1
  obtain ⟨cs, rfl, _⟩ := T_sl (fun x => T_igp) h2
  simp only [bkLL, bkL, AV.bk] at hb
  have hl := fits_of l k1 (by omega)
  have hc := igps_len cs (by omega)
  exact law3_gives l (by omega) hl.1 cs (by omega)
theorem law4_all (ass : List (List AV)) (h : ArgsT [.sl tRoute, .sl tIGP, .int .i64] ass) (hb : bkLL ass ≤ 1048576) : Gives G 4 (argsA [.sl tRoute, .sl tIGP, .int .i64] ass) [] ⟨.bool true, []⟩ := by
  obtain ⟨a, s1, rfl, h1, h⟩ := argsT_cons h
  obtain ⟨b, s2, rfl, h2, h⟩ := argsT_cons h
  obtain ⟨c, s3, rfl, h3, h⟩ := argsT_cons h
  obtain rfl := argsT_nil h
  obtain ⟨l, rfl, k1⟩ := T_sl (fun x => T_route) h1
  obtain ⟨cs, rfl, _⟩ := T_sl (fun x => T_igp) h2
  obtain ⟨n, rfl, _⟩ := T_i64 h3
  simp only [bkLL, bkL, AV.bk] at hb
  have hl := fits_of l k1 (by omega)
  have hc := igps_len cs (by omega)
  exact law4_gives l (by omega) hl.1 cs (by omega) n
theorem law7_all (ass : List (List AV)) (h : ArgsT [tRoute, tRoute, tRoute] ass) (hb : bkLL ass ≤ 1048576) : Gives G 7 (argsA [tRoute, tRoute, tRoute] ass) [] ⟨.bool true, []⟩ := by
  obtain ⟨a, s1, rfl, h1, h⟩ := argsT_cons h
  obtain ⟨b, s2, rfl, h2, h⟩ := argsT_cons h
  obtain ⟨c, s3, rfl, h3, h⟩ := argsT_cons h
  obtain rfl := argsT_nil h
  obtain ⟨r1, rfl, k1⟩ := T_route h1
  obtain ⟨r2, rfl, k2⟩ := T_route h2
  obtain ⟨r3, rfl, k3⟩ := T_route h3
  simp only [bkLL] at hb
  exact law7_gives r1 r2 r3 (fit_of r1 k1 (by omega)) (fit_of r2 k2 (by omega)) (fit_of r3 k3 (by omega))
end Go.AM.IR
