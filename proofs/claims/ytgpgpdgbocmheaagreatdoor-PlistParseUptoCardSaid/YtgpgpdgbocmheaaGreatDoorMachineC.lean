/- An abstract machine for programs of this language: its functions give what the calls of the program give (theorem gives_fsem). -/
import Derived.Test.YtgpgpdgbocmheaaGreatDoorMachineB
import Derived.Carry
import Derived.JoinedCond
set_option linter.unusedVariables false
set_option linter.unusedSimpArgs false
namespace Go.AM
open Go.RowKit
def Ty.isAgg : Ty → Bool
  | .st _ => true
  | .arr _ _ => true
  | _ => false
def parB (P : Program) (t : TypeId) : Bool := P.readableRec t && decide (t < P.types.size)
section
variable {H : Type} {enc : TypeId × Value → H} {P : Program} {w : World} {E : Env} {B : Bulk} {N : Nums} {G : Nat → Fun}
theorem isAgg_of {m : Nat} {t : TypeId} {τ : Ty} (h : tyOf P m t = some τ) : (τ.isAgg = true ∧ ((∃ fs, P.underlying t = some (.struct fs)) ∨ ∃ n e, P.underlying t = some (.array n e))) ∨
    (τ.isAgg = false ∧ (∀ a, argA τ [a] = a) ∧ (P.underlying t = some .bool ∨ (∃ k, P.underlying t = some (.int k)) ∨ P.underlying t = some .string ∨ ∃ e, P.underlying t = some (.slice e))) := by
  cases m with
  | zero => cases h
  | succ m =>
    simp only [tyOf] at h
    split at h
    · obtain rfl := Option.some.inj h
      rename_i hu; exact .inr ⟨rfl, fun a => rfl, .inl hu⟩
    · obtain rfl := Option.some.inj h
      rename_i hu; exact .inr ⟨rfl, fun a => rfl, .inr (.inl ⟨_, hu⟩)⟩
    · obtain rfl := Option.some.inj h
      rename_i hu; exact .inr ⟨rfl, fun a => rfl, .inr (.inr (.inl hu))⟩
    · rename_i hu
      split at h
      · split at h
        · obtain rfl := Option.some.inj h
          exact .inr ⟨rfl, fun a => rfl, .inr (.inr (.inr ⟨_, hu⟩))⟩
        · cases h
      · cases h
    · rename_i hu
      split at h
      · split at h
        · obtain rfl := Option.some.inj h
          exact .inl ⟨rfl, .inl ⟨_, hu⟩⟩
        · cases h
      · cases h
    · rename_i hu
      split at h
      · split at h
        · obtain rfl := Option.some.inj h
          exact .inl ⟨rfl, .inr ⟨_, _, hu⟩⟩
        · cases h
      · cases h
    · cases h
theorem arg_ok (hro : ∀ b o u, w.cell? ⟨b, o, none⟩ = some u → u.oneCell' = true → E.ro b o u) {m : Nat} {t : TypeId} {τ : Ty} (hτ : tyOf P m t = some τ) {base : Nat} {v : Value} {d : DataW H} {ps : List MemPlace}
    (hok : Value.okWide P w .any base t v) (h : DataW.Trod enc P w 0 (fun _ => true) true t v d ps) : ∃ as, τ.T as ∧ V E v (argA τ as) ∧ bkL as ≤ B.f d := by
  obtain ⟨n, hn⟩ := h
  obtain ⟨as, hA⟩ := trod_ok (E := E) (B := B) hro m t τ n _ d ps hτ hn
  refine ⟨as, hA.t, ?_, hA.bk⟩
  rcases isAgg_of hτ with ⟨h1, h2⟩ | ⟨h1, h2, h3⟩
  · have hv : ∃ cs : Array Value, v = .agg cs := by
      rcases h2 with ⟨fs, hu⟩ | ⟨k, e, hu⟩
      · simp only [Value.okWide, hu] at hok; obtain ⟨cs, rfl, _⟩ := hok; exact ⟨cs, rfl⟩
      · simp only [Value.okWide, hu] at hok; obtain ⟨cs, rfl, _⟩ := hok; exact ⟨cs, rfl⟩
    obtain ⟨cs, rfl⟩ := hv
    have e : argA τ as = .agg as := by cases τ <;> simp [Ty.isAgg] at h1 <;> rfl
    rw [e]
    have ecs : ∀ i, ((Value.agg cs).cells.toList).getD i undef = cs.getD i undef := fun i => by
      simp [Value.cells, List.getD_eq_getElem?_getD, Array.getD_eq_getD_getElem?]
    refine .agg cs as (by have := hA.len; simpa [Value.cells] using this.symm) (fun i hi => ?_) fun i hi => ?_
    · rw [← ecs]; exact hA.one i hi
    · rw [← ecs]; exact hA.v i hi
  · have hv : v.cells.toList = [v] := by
      rcases h3 with hu | ⟨k, hu⟩ | hu | ⟨e, hu⟩ <;> simp only [Value.okWide, hu, Cell.okWide] at hok <;> cases v <;> simp_all [Cell.ok, Value.cells]
    have hl := hA.len
    rw [hv] at hl
    obtain ⟨a, rfl⟩ : ∃ a, as = [a] := List.length_eq_one_iff.1 (by simpa using hl)
    rw [h2]
    have := hA.v 0 (by simp)
    rw [hv] at this
    simpa using this
theorem args_ok (hro : ∀ b o u, w.cell? ⟨b, o, none⟩ = some u → u.oneCell' = true → E.ro b o u) {m : Nat} {base : Nat} : ∀ {ts : List TypeId} {τs : List Ty} {vs : List Value} {ds : List (DataW H)} {ps : List MemPlace}, tysOf P m ts = some τs →
    (∀ (j : Nat) t v, ts[j]? = some t → vs[j]? = some v → Value.okWide P w .any base t v) → DataW.TrodAll enc P w 0 (fun _ => true) true ts vs ds ps →
    ∃ ass, ArgsT τs ass ∧ (argsA τs ass).length = vs.length ∧ (∀ i, i < vs.length → V E (vs.getD i undef) ((argsA τs ass).getD i .any)) ∧ bkLL ass ≤ B.g ds
  | [], τs, [], [], ps, h1, h2, h3 => by
    obtain rfl : [] = τs := by simpa [tysOf] using h1
    exact ⟨[], trivial, rfl, by simp, by simp [bkLL]⟩
  | t :: ts, τs, v :: vs, d :: ds, ps, h1, h2, h3 => by
    simp only [tysOf] at h1
    split at h1
    · rename_i τ l q1 q2
      obtain rfl := Option.some.inj h1
      obtain ⟨p, q, z1, z2, z3⟩ := h3
      obtain ⟨as, k1, k2, k3⟩ := arg_ok (E := E) (B := B) hro q1 (h2 0 t v rfl rfl) z1
      obtain ⟨ass, y1, y2, y3, y4⟩ := args_ok hro q2 (fun j t v a b => h2 (j + 1) t v (by simpa using a) (by simpa using b)) z2
      refine ⟨as :: ass, ⟨k1, y1⟩, by simp [argsA, y2], fun i hi => ?_, by simp only [bkLL, B.cons]; omega⟩
      cases i with
      | zero => simpa [argsA] using k2
      | succ i => simpa [argsA] using y3 i (by simpa using hi)
    · cases h1
  | [], _, _ :: _, _, _, _, _, h3 => h3.elim
  | [], _, [], _ :: _, _, _, _, h3 => h3.elim
  | _ :: _, _, [], _, _, _, _, h3 => h3.elim
  | _ :: _, _, _ :: _, [], _, _, _, h3 => h3.elim
theorem trodAll_len {base : Nat} {spare : Nat → Bool} {held : Bool} : ∀ {ts : List TypeId} {vs : List Value} {ds : List (DataW H)} {ps : List MemPlace}, DataW.TrodAll enc P w base spare held ts vs ds ps → ds.length = ts.length
  | [], [], [], _, _ => rfl
  | _ :: _, _ :: _, _ :: _, _, h => by
    obtain ⟨p, q, h1, h2, h3⟩ := h
    simp [trodAll_len h2]
  | [], _ :: _, _, _, h => h.elim
  | [], [], _ :: _, _, h => h.elim
  | _ :: _, [], _, _, h => h.elim
  | _ :: _, _ :: _, [], _, h => h.elim
def GlW (N : Nums) (W : World) : Prop := ∀ g cs, N.gl g = some cs → ∃ u : Nat → Value, ∀ j, j < cs.length → W.cell? ⟨g, j, none⟩ = some (u j) ∧ (u j).oneCell' = true ∧ ∀ E, V E (u j) (cs.getD j .any)
theorem glw_none {N : Nums} (h : N.gl = fun _ => none) (W : World) : GlW N W := fun g cs hg => by rw [h] at hg; cases hg
def GoW (N : Nums) (W : World) : Prop := ∀ g o, N.go g = some o → W.heap[g]? = some o
theorem goc_of {N : Nums} {C : Ctx} {W : World} (hgo : GoW N W) (hw : C.W0 = W) (hX : ∀ b, ¬ C.X b) (hS : ∀ b, ¬ C.S0 b) : GoC N C := fun g o hg => by
  have h1 := hgo g o hg
  rw [← hw] at h1
  refine ⟨?_, hX g, hS g, h1⟩
  rcases Nat.lt_or_ge g C.W0.heap.size with q | q
  · exact q
  · rw [Array.getElem?_eq_none q] at h1; cases h1
theorem cell?_lt {w : World} {a : Addr} {u : Value} (h : w.cell? a = some u) : a.block < w.heap.size := by
  unfold World.cell? at h
  split at h
  · rename_i hb
    rcases Nat.lt_or_ge a.block w.heap.size with q | q
    · exact q
    · rw [Array.getElem?_eq_none q] at hb; cases hb
  · cases h
theorem glc_of {N : Nums} {C : Ctx} {W : World} (hgl : GlW N W) (hw : C.W0 = W) (hX : ∀ b, ¬ C.X b) (hS : ∀ b, ¬ C.S0 b) : GlC N C := fun g cs hg _ => by
  obtain ⟨u, hu⟩ := hgl g cs hg
  refine .rp g 0 cs u (fun j hj => ?_) fun j hj => (hu j hj).2.2 _
  obtain ⟨h1, h2, _⟩ := hu j hj
  have := cell?_lt h1
  rw [← hw] at h1 this
  exact ⟨this, hX g, hS g, by rw [Nat.zero_add]; exact h1, h2⟩
theorem law_post {W : World} (hgl : GlW N W) (hgo : GoW N W) (hG : GOk P N G) (hm : P.follows .mixedOrders = true) (hl : laidOutB P = true) {f k : Nat} {fn : Func} (hf : N.num f = k) {tb : TypeId} (hb : P.underlying tb = some .bool) (hres : fn.resultTypes = #[tb])
    {m : Nat} {τs : List Ty} (hτ : tysOf P m fn.params.toList = some τs) (hpar : fn.params.toList.all (parB P) = true) {s : ChangeSpec} (hvars : s.vars = [])
    (hspec : ∀ (ds : List (DataW H)), ds.length = fn.params.size → (s.fn H ds).results = [.lit (.bool true)] ∧ (s.fn H ds).args = ds ∧ (s.fn H ds).vars = [])
    {base : Nat} {args : Array Value} {ds gs : List (DataW H)} {before : List MemPlace}
    (hval : ∀ (j : Nat) t v, fn.params[j]? = some t → args[j]? = some v → Value.okWide P W .any base t v)
    (hW : DataW.Whole enc P fn.params.toList s.vars false W args.toList ds gs before)
    (hgive : ∀ ass, ArgsT τs ass → bkLL ass ≤ B.g (ds ++ gs) → Gives G f (argsA τs ass) [] ⟨.bool true, []⟩) :
    Calls P k args W fun e W' => ∃ v, e = .returned v ∧ s.post enc P fn false true false false W args v W' := by
  have hW' := hW
  obtain ⟨p, q, hA, hV, rfl, hfz, hnd⟩ := hW
  rw [hvars] at hV
  have hgs : gs = [] ∧ q = [] := by cases gs with
    | nil => exact ⟨rfl, hV⟩
    | cons => exact hV.elim
  obtain ⟨rfl, rfl⟩ := hgs
  subst hf
  let C : Ctx := { num := N.num, tnum := N.tnum, W0 := W, X := fun _ => False, S0 := fun _ => False, π := fun _ => ⟨0, 0, 0, 0, true⟩, n := 0 }
  have hro : ∀ b o u, W.cell? ⟨b, o, none⟩ = some u → u.oneCell' = true → (mkEnv C C.S0 C.π (used0 0) (hpB []) W).ro b o u := fun b o u h1 h2 => ⟨id, h1, h2⟩
  obtain ⟨ass, k1, k2, k3, k4⟩ := args_ok (E := mkEnv C C.S0 C.π (used0 0) (hpB []) W) (B := B) hro hτ (fun j t v a b => hval j t v (by simpa using a) (by simpa using b)) hA
  have hent : Entry C N args (argsA τs ass) [] := by
    refine ⟨⟨rfl, glc_of hgl rfl (fun _ h => h) (fun _ h => h), goc_of hgo rfl (fun _ h => h) (fun _ h => h)⟩, rfl, ⟨.refl _ _, fun b h => h.elim, fun b h => h.elim, fun b h => h.elim, fun k g hu => hu.2, fun k g b q => by simp [hpB] at q, fun k k' x x' q => by simp [hpB] at q, fun k b q => by simp [hpB] at q⟩, by rw [k2]; simp, fun i hi => ?_⟩
    have := k3 i (by rw [← k2]; exact hi)
    have e : args.toList.getD i undef = args.getD i undef := by simp [List.getD_eq_getElem?_getD, Array.getD_eq_getD_getElem?]
    rwa [e] at this
  refine (gives_fsem hG hm (hgive ass k1 (by rw [bulk_append, B.none]; exact k4)) C args hent).mono fun e W' he => ?_
  obtain ⟨v, rfl, S1, β1, hr⟩ := he
  have hv : v = .bool true := by have := hr.val; generalize mkEnv C S1 β1 _ _ W' = E' at this; cases this; rfl
  subst hv
  have hbelow : Below W.heap.size W W' := Kept.below hr.kept
  have hlen := trodAll_len hA
  obtain ⟨s1, s2, s3⟩ := hspec ds (by rw [hlen]; simp)
  have hlt := hA.lt
  refine ⟨_, rfl, ds, [], p ++ [], [], p, [], hW', ?_, ?_, ?_, hbelow.frame _, fun h => by cases h⟩
  · rw [List.append_nil, s1, hres]
    exact ChangeShapes.trodAll_mk1 (shut_bool hb true)
  · rw [List.append_nil, s2]
    clear hW' hτ hval hent k1 k2 k3 k4 hgive hspec hfz hnd
    generalize fn.params.toList = ts at hA hpar
    generalize args.toList = vs at hA
    have go : ∀ (ts : List TypeId) (vs : List Value) (ds : List (DataW H)) (p : List MemPlace), (∀ t ∈ ts, parB P t = true) → (∀ x ∈ p, x.block < W.heap.size) → DataW.TrodAll enc P W 0 (fun _ => true) true ts vs ds p →
        DataW.TrodAll enc P W' 0 (fun b => decide (b < W.heap.size)) true ts vs ds p := by
      intro ts
      induction ts with
      | nil => intro vs ds p _ _ h
               match vs, ds, h with
               | [], [], h => exact h
      | cons t ts ih => intro vs ds p ht hp h
                        match vs, ds, h with
                        | v :: vs, d :: ds, h =>
                          obtain ⟨p1, p2, h1, h2, rfl⟩ := h
                          have := ht t (by simp)
                          simp only [parB, Bool.and_eq_true, decide_eq_true_eq] at this
                          exact ⟨p1, p2, Below.trod hl this.1 this.2 h1 hbelow (fun x hx => hp x (by simp [hx])), ih vs ds p2 (fun t ht' => ht t (by simp [ht'])) (fun x hx => hp x (by simp [hx])) h2, rfl⟩
    exact go ts vs ds p (fun t ht => List.all_eq_true.1 hpar t ht) hlt hA
  · rw [List.append_nil, s3, hvars]; rfl
end
end Go.AM
namespace Go.AM
def OkF (P : Program) (N : Nums) (f : Nat) : Fun → Prop
  | .code F => ∃ fn, P.funcs[N.num f]? = some fn ∧ compFun P N F.raw fn = some F
  | .prim _ p => (∃ fn, P.funcs[N.num f]? = some fn ∧ fn.body.isSome = true ∧ fn.name ≠ "runtime.NumGoroutine") ∧ ∀ args bs t, p args bs = some t → FSem P N f args bs t
  | .none => True
theorem gok_of {P : Program} {N : Nums} {G : Nat → Fun} (h : ∀ f, OkF P N f (G f)) : GOk P N G := h
theorem okF_ite {P : Program} {N : Nums} {f : Nat} {b : Bool} {x y : Fun} (h1 : b = true → OkF P N f x) (h2 : b = false → OkF P N f y) : OkF P N f (bif b then x else y) := by
  cases b with
  | true => exact h1 rfl
  | false => exact h2 rfl
theorem okF_leaf {P : Program} {N : Nums} {f k i : Nat} {F : AFunc} (hi : N.num k = i) (h : (P.funcs[i]?).bind (compFun P N F.raw) = some F) : OkF P N f (bif Nat.beq f k then .code F else .none) := by
  subst hi
  refine okF_ite (fun e => ?_) fun _ => trivial
  obtain rfl := Nat.eq_of_beq_eq_true e
  obtain ⟨fn, h1, h2⟩ := Option.bind_eq_some_iff.1 h
  exact ⟨fn, h1, h2⟩
end Go.AM
namespace Go.AM
theorem argsT_cons {τ : Ty} {r : List Ty} {ass : List (List AV)} (h : ArgsT (τ :: r) ass) : ∃ a s, ass = a :: s ∧ τ.T a ∧ ArgsT r s := by
  cases ass with
  | nil => exact h.elim
  | cons a s => exact ⟨a, s, rfl, h.1, h.2⟩
theorem argsT_nil {ass : List (List AV)} (h : ArgsT [] ass) : ass = [] := by
  cases ass with
  | nil => rfl
  | cons a s => exact h.elim
end Go.AM
namespace Go.AM
end Go.AM
