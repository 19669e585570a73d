/- config: clones of prefixes; what is caught, whatever is cleared. -/
import Derived.Test.YtegdcalefpobeaaOwn2
set_option linter.unusedVariables false
set_option linter.unusedSimpArgs false
namespace Go.Proofs.Ytegdcalefpobeaa.A
open Go.RowKit Go.Proofs.YtegdcalefpobeaaW.PrintWords Go.Proofs.YtegdcalefpobeaaW.PrintLast Go.Proofs.YtegdcalefpobeaaW.PrintMore Go.Proofs.Ytegdcalefpobeaa.PConfigChecks

/-- a slice literal of nothing -/
theorem R_lit_none {α : Type} (d : Kd α) (e : TypeId) (w : World) (base : Nat) (hb : base ≤ w.heap.size) : Kd.R d e (w.alloc (.cells #[] e)) base (fun _ => True) (.slice (some ⟨w.heap.size, 0, none⟩) 0 0) [] := by
  refine ⟨fun _ _ => trivial, [], ?_, Reps.none _ _⟩
  have := World.ownsRow_lit (base := base) (e := e) (size := d.sz) w #[] 0 hb (by decide) (by simp)
  simpa using this
theorem info_pfx : (Try.prog.info? 28).map (fun i => (i.zero, i.size, i.bytes)) = some (some (.agg #[.int .u32 0, .int .i64 0]), 2, 16) := by kernel_rfl
theorem pfx_KM {w : World} {base : Nat} {ok : Nat → Prop} (x : Pfx) (cs : List Value) (h : k28.K w x cs) : k28.M w base ok x cs := by
  rw [k28_open h]
  exact k28_mkM _ _ _ _
set_option maxHeartbeats 1000000 in
theorem clonep_any (A : Option Addr) (l : List Pfx) (c : Nat) (w : World) (hr : Kd.C k28 w A l.length l) (hc : l.length ≤ c) (hm : l.length * 16 ≤ 140737488355328) :
    Calls Try.prog 35 #[.slice A l.length c] w fun e w' => ∃ v, e = .returned v ∧ Kd.R k28 28 w' w.heap.size (fun _ => True) v l ∧ Below w.heap.size w w' := by
  have hq := fun A n c w => eqnil 22 28 Try.underlying22 A n c w
  cases A with
  | none =>
    obtain rfl := nil_of_none hr
    go_enter Try.func35, Try.ntmps35
    go_wp2
    go_ret
    exact ⟨_, rfl, Kd.R_nil _ _ _ _ _, Below.refl _ _⟩
  | some ad =>
    have HR := Aside0.mk hr
    have HM := Aside0.mk hm
    clear hr hm
    go_enter Try.func35, Try.ntmps35
    go_wp2_with (at_builtin; go_loud (refine Kd.R_append_rows (w0 := w) k28 (Rr := k28.K (w.alloc (.cells #[] 28))) w.heap.size rfl _ _ 22 28 (.agg #[.int .u32 0, .int .i64 0]) 16 rfl Try.underlying22 info_pfx rfl (by decide) (by decide) _ [] l (some ad) l.length c (fun _ => True) (fun _ => False) rfl rfl (R_lit_none k28 28 w w.heap.size (Nat.le_refl _)) (Kd.C_alloc HR.out _) pfx_KM (fun _ h => h.elim) (fun _ _ => trivial) (below_alloc (Below.refl _ _) _) (by simp) (by simpa using HM.out) ?_); intro v1 w1 hR hB hG hO)
    go_ret
    exact ⟨_, rfl, hR, hB⟩
theorem clonep_sl (A : Option Addr) (l : List Pfx) (c : Nat) (w : World) (hr : Kd.C k28 w A l.length l) (hc : l.length ≤ c) (hm : l.length * 16 ≤ 140737488355328) :
    Calls Try.prog 35 #[.slice A l.length c] w fun e w' => ∃ B d, e = .returned (.slice B l.length d) ∧ Kd.R k28 28 w' w.heap.size (fun _ => True) (.slice B l.length d) l ∧ Below w.heap.size w w' :=
  (clonep_any A l c w hr hc hm).mono fun _ _ ⟨v, he, hR, hB⟩ => by
    obtain ⟨B, d, rfl⟩ := Kd.R_slice hR
    exact ⟨B, d, he, hR, hB⟩

/-- how what was caught ends -/
def CaughtBy (R : World → Prop) (p : Addr) (e0 : Int) (w' : World) : Prop := ∃ w2, R w2 ∧ w' = w2.setCell p (.int .i64 e0)
set_option maxRecDepth 20000 in
set_option maxHeartbeats 1000000 in
theorem caught_any (F : FuncId) (caps : Array Value) (p : Addr) (e0 : Int) (w : World) (R : World → Prop) (hF : ∀ (args : Array Value) (w : World), (callFunc F args).run Try.prog w = .ok (.enter F args) w)
    (hcl : Calls Try.prog F caps w fun e w' => e = .returned (.tuple #[]) ∧ R w' ∧ (∃ x, w'.cell? p = some (.int .i64 x)) ∧ w'.frozen? p = false) :
    CallsD Try.prog 30 #[.pointer (some p), .func (.func F) #[] caps] (.panicking [given e0]) w fun e u' w' => e = .returned (.tuple #[]) ∧ u' = .panicking [{ given e0 with recovered := true }] ∧ CaughtBy R p e0 w' := by
  have HC := Aside0.mk hcl
  clear hcl
  refine callsD_of_wpS Try.func30 rfl fun c₀ cs hu => ?_
  unfold given at hu
  apply wpS_seq
  apply wpS_region
  simp [wpOpsS, go_sem, recoverD, hu, Try.ntmps30, Exit.thenS]
  refine wpS_of_wp (Code.wp_mono (Q := fun e a' w' => e = .normal ∧ a'.defers = [] ∧ CaughtBy R p e0 w') ?_ ?_)
  · rintro e a' w' ⟨rfl, hd, hR⟩
    cases c₀
    simp_all [bodyPostS, results, Try.results30, Exit.thenS, given]
  · clear hu
    rw [tmps_caught]
    have hta : ∀ w : World, (Instr.typeAssert (.iface 32 (.int .i64 e0)) 20 32 true).run Try.prog w = .ok (.tuple #[.int .i64 e0, .bool true]) w := fun _ => by kernel_rfl
    go_wp2_with ((with_reducible refine HC.out.mono ?_); rintro e w1 ⟨rfl, hR, ⟨x, hx⟩, hz⟩; have HR := Aside0.mk hR; clear hR)
    exact ⟨_, HR.out, rfl⟩
end Go.Proofs.Ytegdcalefpobeaa.A
