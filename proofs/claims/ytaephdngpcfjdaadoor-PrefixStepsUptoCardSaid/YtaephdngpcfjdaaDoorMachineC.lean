/- An abstract machine for programs of this language: its functions give what the calls of the program give (theorem gives_fsem). -/
import Derived.Test.YtaephdngpcfjdaaDoorMachineB
import Derived.Shelf.Vars
import Derived.Stop.LaidErr
import Derived.Lib.LaidTab
set_option linter.unusedVariables false
set_option linter.unusedSimpArgs false
namespace Go.AM
open Go Go.RowKit Go.Proofs
theorem obj_of_var {P : Program} {W : World} {n : String} {g : Nat} {cs : Array Value} (hg : P.globalNamed n = some g) (h : World.var? P W n = some cs) : ∃ t z, W.heap[g]? = some (.cells cs t z) := by
  unfold World.var? at h
  rw [hg] at h
  simp only [Option.bind_some] at h
  split at h
  · rename_i cs' t z hh
    obtain rfl := Option.some.inj h
    exact ⟨t, z, hh⟩
  · cases h
theorem tabAt_of {P : Program} {N : Nums} {W : World} {name : String} {k : IntKind} {zs : List Int} {g : Nat} (hN : N.go = fun g => W.heap[g]?) (hg : P.globalNamed name = some g) (h : Lib.TabIs P W name k zs) : TabAt P N name k zs := by
  obtain ⟨t, z, h1⟩ := obj_of_var hg h
  exact ⟨g, t, z, hg, by rw [hN]; exact h1⟩
theorem errAt_of {P : Program} {N : Nums} {W : World} {n nm : String} {d : DataW Unit} {r : List (String × DataW Unit)} {g : Nat} {ti : TypeId} {ms : Array (String × TypeId)} (hN : N.go = fun g => W.heap[g]?)
    (h : laidMet P ((n, .iface nm d) :: r) W) (hg : P.globalNamed n = some g) (ht : (P.globals[g]?).map (·.type) = some ti) (hi : P.underlying ti = some (.interface ms)) : ErrAt N g := by
  obtain ⟨ps, ⟨g0, t0, cs0, f0, p0, q0, hg0, ht0, hv0, hd0, _, e0⟩, _⟩ := h
  obtain rfl := Option.some.inj (hg.symm.trans hg0)
  obtain rfl := Option.some.inj (ht.symm.trans ht0)
  obtain ⟨l0⟩ := cs0
  obtain ⟨f1, u, v, hl, _, _⟩ := iface_of_trod hi hd0
  have hl' : l0 = [.iface u v] := hl
  subst hl'
  obtain ⟨t, z, h1⟩ := obj_of_var hg hv0
  exact ⟨.iface u v, t, z, by rw [hN]; exact h1, .inr ⟨u, v, rfl⟩⟩
theorem intAt_of {N : Nums} {W : World} {g : Nat} (hN : N.go = fun g => W.heap[g]?) (h : ∃ m, W.cell? ⟨g, 0, none⟩ = some (.int .i64 m)) : IntAt N g := by
  obtain ⟨m, h⟩ := h
  unfold World.cell? at h
  split at h
  · rename_i c t z hh
    exact ⟨c, m, t, z, by rw [hN]; exact hh, by simpa using h⟩
  · cases h
theorem okF_prim {P : Program} {N : Nums} {f k i : Nat} {b : Bool} {p : List AV → List Blk → Option Ret} (hi : N.num k = i) (hb : ∃ fn, P.funcs[i]? = some fn ∧ fn.body.isSome = true ∧ fn.name ≠ "runtime.NumGoroutine") (h : ∀ args bs t, p args bs = some t → FSem P N k args bs t) :
    OkF P N f (bif Nat.beq f k then .prim b p else .none) := by
  subst hi
  refine okF_ite (fun e => ?_) fun _ => trivial
  obtain rfl := Nat.eq_of_beq_eq_true e
  exact ⟨hb, h⟩
end Go.AM
namespace Go.AM
end Go.AM
