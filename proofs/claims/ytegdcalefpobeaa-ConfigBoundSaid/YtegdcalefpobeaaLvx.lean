/- A function that defers a call and ranges over a function once: how it leaves: the range's mark first, then the deferred calls. -/
import Derived.Test.YtegdcalefpobeaaRngx
import Derived.Defers
set_option linter.unusedVariables false
set_option linter.unusedSimpArgs false
namespace Go.Proofs.Ytegdcalefpobeaa.A
open Go.RowKit Go.Shelf

/-- one mark, then what is deferred -/
def MarkLeaves (P : Program) (fn : Func) (tmps : Array Value) (R : Ending → World → Prop) (u : FrameMode) (w : World) : List Deferred → Prop
  | ⟨.collected r, xs⟩ :: ds => u ≠ .run ∧ ∃ w', (Instr.takeDeferred r).run P w = .ok [] w' ∧ Leaves P fn tmps R ds u w'
  | ds => Leaves P fn tmps R ds u w
theorem mark_steps {P : Program} {fn : Func} {tmps : Array Value} {R : Ending → World → Prop} (ds : List Deferred) (u : FrameMode) (w : World) (fr : Frame) (cs : List Frame)
    (hu : fr.mode = u) (hd : fr.defers = ds) (ht : fr.tmps = tmps) (hf : P.funcs[fr.fn]? = some fn) (hk : fr.kind = .normal) (h : MarkLeaves P fn tmps R u w ds) :
    ∃ e w' fr', R e w' ∧ Comes P (lone fr cs w) (lone fr' cs w') e ∧ fr'.fn = fr.fn ∧ fr'.leaving P w' e := by
  unfold MarkLeaves at h
  split at h
  · rename_i r xs ds
    obtain ⟨hrun, w', htake, h⟩ := h
    have h1 := step_collected (cs := cs) (hu ▸ hrun) hd rfl htake
    obtain ⟨e', w'', fr', hR, hs, hfn, hl⟩ := leaves_steps ds u w' { fr with defers := [] ++ ds } cs hu rfl ht hf hk h
    exact ⟨e', w'', fr', hR, Comes.of_steps (.one h1) hs, hfn, hl⟩
  · exact leaves_steps ds u w fr cs hu hd ht hf hk h
def postMark (P : Program) (fn : Func) (R : Ending → World → Prop) : Exit → Act → World → Prop
  | .normal, a, w => MarkLeaves P fn a.tmps R .returning w a.defers
  | .ret, a, w => MarkLeaves P fn a.tmps R .returning w a.defers
  | .panic chain, a, w => MarkLeaves P fn a.tmps R (.panicking chain) w a.defers
  | .outgrown, _, w => R .outgrown w
  | _, _, _ => False
theorem calls_of_mark {P : Program} {f : FuncId} {fn : Func} {c : Code} {args : Array Value} {w : World} {R : Ending → World → Prop} (hf : P.funcs[f]? = some fn) (hb : fn.body = some c)
    (h : c.wp P (postMark P fn R) { tmps := args ++ Array.replicate (fn.ntmps - args.size) undef, defers := [] } w) : Calls P f args w R := by
  intro cs
  obtain ⟨b, hbb⟩ : ∃ b : Frame, b = { (default : Frame) with fn := f, kind := .normal } := ⟨_, rfl⟩
  have henter : Frame.enter P f args .normal = b.at { tmps := args ++ Array.replicate (fn.ntmps - args.size) undef, defers := [] } [.code c] := by
    subst hbb
    simp [Frame.enter, Frame.at, hf, hb]
  have hfn' : ∀ a t, P.funcs[(b.at a t).fn]? = some fn := fun a t => by subst hbb; exact hf
  have hk' : ∀ a t, (b.at a t).kind = .normal := fun a t => by subst hbb; rfl
  have hff : ∀ a t, (b.at a t).fn = f := fun a t => by subst hbb; rfl
  obtain ⟨e, a', w', hq, harr⟩ := h b [] cs
  rw [← henter] at harr
  cases e with
  | normal =>
    obtain ⟨e', w'', fr', hR, hs, hfn, hl⟩ := mark_steps a'.defers .returning w' { b.at a' [] with mode := .returning } cs rfl rfl rfl (hfn' a' []) (hk' a' []) hq
    exact ⟨e', w'', fr', hR, Comes.of_steps (Steps.trans harr (.one step_end)) hs, hfn.trans (hff a' []), hl⟩
  | ret =>
    obtain ⟨todo, hs₀⟩ := harr
    obtain ⟨e', w'', fr', hR, hs, hfn, hl⟩ := mark_steps a'.defers .returning w' { b.at a' todo with mode := .returning } cs rfl rfl rfl (hfn' a' todo) (hk' a' todo) hq
    exact ⟨e', w'', fr', hR, Comes.of_steps hs₀ hs, hfn.trans (hff a' todo), hl⟩
  | panic chain =>
    obtain ⟨todo, hs₀⟩ := harr
    obtain ⟨e', w'', fr', hR, hs, hfn, hl⟩ := mark_steps a'.defers (.panicking chain) w' { b.at a' todo with mode := .panicking chain } cs rfl rfl rfl (hfn' a' todo) (hk' a' todo) hq
    exact ⟨e', w'', fr', hR, Comes.of_steps hs₀ hs, hfn.trans (hff a' todo), hl⟩
  | exit id => exact hq.elim
  | goto l => exact hq.elim
  | outgrown => exact ⟨.outgrown, w', b, hq, harr.resolve_left (by subst hbb; simp), hbb ▸ rfl, trivial⟩
end Go.Proofs.Ytegdcalefpobeaa.A
