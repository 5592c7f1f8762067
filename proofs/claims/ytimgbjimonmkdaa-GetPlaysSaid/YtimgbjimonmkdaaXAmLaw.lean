import Derived.Test.YtimgbjimonmkdaaXAmLift
import Derived.ProofKit
set_option linter.unusedSimpArgs false
set_option linter.unusedVariables false
namespace Go.Am
open Go.ChangeShapes Go.WideShapes Go.ChangeAt Go.RowKit
section
variable {H : Type} {enc : TypeId × Value → H} {P : Program}
theorem trodAll_below (hl : laidOutB P = true) {W W' : World} (hb : Below W.heap.size W W') : ∀ {ts : List TypeId} {vs : List Value} {ds : List (DataW H)} {p : List MemPlace},
    (∀ t, t ∈ ts → P.readableRec t = true ∧ t < P.types.size) → DataW.TrodAll enc P W 0 (fun _ => true) true ts vs ds p → (∀ x, x ∈ p → x.block < W.heap.size) →
    DataW.TrodAll enc P W' 0 (fun b => decide (b < W.heap.size)) true ts vs ds p
  | [], vs, ds, p, _, h, _ => by
    obtain ⟨rfl, rfl, rfl⟩ := trodAll_nil h
    exact rfl
  | t :: ts, vs, ds, p, ht, h, hp => by
    obtain ⟨v, vs', d, ds', p1, q1, rfl, rfl, rfl, h1, h2⟩ := trodAll_cons h
    have := ht t (by simp)
    exact ⟨p1, q1, Below.trod hl this.1 this.2 h1 hb (fun x hx => hp x (by simp [hx])), trodAll_below hl hb (fun t h => ht t (by simp [h])) h2 (fun x hx => hp x (by simp [hx])), rfl⟩
theorem law_post {f : Func} {s : ChangeSpec} {W W' : World} {args : Array Value} {ds gs : List (DataW H)} {before : List MemPlace} {tb : TypeId} (hW : DataW.Whole enc P f.params.toList s.vars false W args.toList ds gs before)
    (hvars : s.vars = []) (hfn : (s.fn H (ds ++ gs)) = { results := [.lit (.bool true)], args := ds }) (hres : f.resultTypes = #[tb]) (htb : P.underlying tb = some .bool) (hl : laidOutB P = true)
    (hr : ∀ t, t ∈ f.params.toList → P.readableRec t = true ∧ t < P.types.size) (hb : Below W.heap.size W W') : s.post enc P f false true false false W args (.bool true) W' := by
  have hlt : ∀ p ∈ before, p.block < W.heap.size := fun p hp => by simpa using hW.lt p hp
  have hW' := hW
  obtain ⟨p, q, hA, hV, rfl, _, _⟩ := hW
  rw [hvars] at hV
  obtain ⟨rfl, rfl⟩ := trodVars_none hV
  refine ⟨ds, [], p ++ [], [], p, [], hW', ?_, ?_, ?_, Below.frame hb _, fun h => by cases h⟩
  · rw [hfn, hres]
    exact trodAll_mk1 (shut_bool htb true)
  · rw [hfn]
    exact trodAll_below hl hb hr hA (fun x hx => hlt x (by simp [hx]))
  · rw [hvars, hfn]; rfl
end
section
variable {X : Type} {A : AbsSem X} {num : Nat → Nat} {P : Program}
theorem law_calls {k : FuncId} {f : AFun X} (hf : Sound A num P k f) {μ : Mu} {m : Mem X} {W : World} {args : List AV} {vs : List Value} {m' : Mem X} (hS : Sim A num (fun _ => False) μ m W.heap) (hV : VRL num μ args vs) (h : f args m = some (.bool true, m')) :
    Calls P k vs.toArray W fun e W' => e = .returned (.bool true) ∧ Below W.heap.size W W' := by
  refine (hf _ μ m W args vs _ m' hS hV h).mono fun e W' ⟨F', μ', cv, he, hv, _, hE⟩ => ?_
  subst he
  cases hv
  exact ⟨rfl, hE.os, hE.tape, hE.output, hE.size, fun c hc => hE.keep c hc (fun h => h)⟩
theorem sim_nil (H : Array Obj) : Sim A num (fun _ => False) (fun _ => none) ([] : Mem X) H :=
  ⟨fun _ => none, ⟨fun c i h => (by cases h), fun c h => False.elim h, fun _ _ => rfl, fun i c p h => (by simp at h)⟩⟩
theorem known_nil : Known A num P ([] : List (Nat × AFun X)) := fun g f h => by cases h
theorem known_cons {G : List (Nat × AFun X)} {g : Nat} {f : AFun X} (hc : callOk P (num g) = true) (hs : Sound A num P (num g) f) (hm : Mono f) (hG : Known A num P G) : Known A num P ((g, f) :: G) := by
  intro g' f' h
  simp only [assoc] at h
  split at h
  · rename_i he; subst he; injection h with h; subst h; exact ⟨hc, hs, hm⟩
  · exact hG g' f' h
end
end Go.Am
