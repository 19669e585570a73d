import Derived.Test.YtegdcalefpobeaaBlk
import Derived.Test.YtegdcalefpobeaaOwn2
import Derived.Deep.RegionHeld3
/- A block of cells that is written whole; how two or three results in cells are told. -/
set_option linter.unusedVariables false
set_option linter.unusedSimpArgs false
namespace Go.Proofs.Ytegdcalefpobeaa.A
open Go.RowKit

theorem Blk.new' (w : World) (t : TypeId) (cs : Array Value) (g : Nat) (h : w.heap.size = g) : Blk (w.alloc (.cells cs t)) g t cs := by
  subst h
  exact Blk.new w t cs
/-- one block is written, and no other -/
structure OneSet (w : World) (g : Nat) (t : TypeId) (cs : Array Value) (w' : World) : Prop where
  blk : Blk w' g t cs
  far : ∀ b, b ≠ g → w'.heap[b]? = w.heap[b]?
  bel : Below g w w'
theorem OneSet.start {w : World} {g : Nat} {t : TypeId} {cs : Array Value} (h : Blk w g t cs) : OneSet w g t cs w := ⟨h, fun _ _ => rfl, Below.refl _ _⟩
theorem OneSet.set_ {w w1 : World} {g : Nat} {t : TypeId} {cs : Array Value} (h : OneSet w g t cs w1) (i : Nat) (u : Value) : OneSet w g t (cs.setIfInBounds i u) (w1.setCell ⟨g, i, none⟩ u) :=
  ⟨h.blk.set_ i u, fun b hb => (Below.heap_setCell w1 _ u b hb).trans (h.far b hb), h.bel.setCell (p := ⟨g, i, none⟩) (Nat.le_refl _) u⟩
theorem OneSet.other {w w1 : World} {g g2 : Nat} {t t2 : TypeId} {cs cs2 : Array Value} (h : OneSet w g t cs w1) (h2 : Blk w g2 t2 cs2) (hne : g2 ≠ g) : Blk w1 g2 t2 cs2 := (h.far g2 hne).trans h2
def sets (w : World) (g : Nat) : Nat → List Value → World
  | _, [] => w
  | i, u :: us => sets (w.setCell ⟨g, i, none⟩ u) g (i + 1) us
theorem sets_one {w : World} {g : Nat} {t : TypeId} : ∀ (us rest pre : List Value) (w1 : World), OneSet w g t (pre ++ rest).toArray w1 → rest.length = us.length → OneSet w g t (pre ++ us).toArray (sets w1 g pre.length us) := by
  intro us
  induction us with
  | nil =>
    intro rest pre w1 h hl
    obtain rfl : rest = [] := List.eq_nil_of_length_eq_zero hl
    exact h
  | cons u us ih =>
    intro rest pre w1 h hl
    match rest, hl with
    | r :: rest, hl =>
      have h1 := h.set_ pre.length u
      have e : (pre ++ r :: rest).toArray.setIfInBounds pre.length u = ((pre ++ [u]) ++ rest).toArray := by
        apply Array.ext'
        simp [List.set_append]
      rw [e] at h1
      have h2 := ih rest (pre ++ [u]) _ h1 (by simpa using hl)
      rw [List.length_append, List.append_assoc] at h2
      exact h2
/-- a block is written whole -/
theorem OneSet.whole {w : World} {g : Nat} {t : TypeId} {cs : Array Value} (h : Blk w g t cs) (us : List Value) (hs : cs.size = us.length) : OneSet w g t us.toArray (sets w g 0 us) :=
  sets_one us cs.toList [] w (by simpa using OneSet.start h) (by simpa using hs)
/-- the cell of a result: a struct's -/
theorem load_blk {P : Program} {w : World} {g : Nat} {t ty : TypeId} {cs : Array Value} {d : TypeDesc} (hg : Blk w g t cs) (hu : P.underlying ty = some d) (hd : (match d with | .struct _ | .array _ _ => true | _ => false) = true) (hi : (P.info? ty).map (·.size) = some cs.size) :
    (loadVar ty ⟨g, 0, none⟩).run P w = .ok (.agg cs) w := run_loadVar_row w g t ty cs (0, 0) d hg hu hd hi
theorem results_2c {P : Program} {fn : Func} {p q : Tmp} {tp tq : TypeId} (h : fn.results = #[.cell p tp, .cell q tq]) (tmps : Array Value) (w : World) (ap aq : Addr) (u v : Value)
    (hp : tmps.getD p undef = .pointer (some ap)) (hu : (loadVar tp ap).run P w = .ok u w) (hq : tmps.getD q undef = .pointer (some aq)) (hv : (loadVar tq aq).run P w = .ok v w) : (results fn tmps).run P w = .ok (.tuple #[u, v]) w := by
  have hp' : tmps[p]?.getD undef = .pointer (some ap) := by simpa [Array.getD_eq_getD_getElem?] using hp
  have hq' : tmps[q]?.getD undef = .pointer (some aq) := by simpa [Array.getD_eq_getD_getElem?] using hq
  simp only [results, h]
  simp [Sem.run_bind, Result.andThen, hp', hq', asAddr, hu, hv]
theorem results_3c {P : Program} {fn : Func} {p q r : Tmp} {tp tq tr : TypeId} (h : fn.results = #[.cell p tp, .cell q tq, .cell r tr]) (tmps : Array Value) (w : World) (ap aq ar : Addr) (u v x : Value)
    (hp : tmps.getD p undef = .pointer (some ap)) (hu : (loadVar tp ap).run P w = .ok u w) (hq : tmps.getD q undef = .pointer (some aq)) (hv : (loadVar tq aq).run P w = .ok v w)
    (hr : tmps.getD r undef = .pointer (some ar)) (hx : (loadVar tr ar).run P w = .ok x w) : (results fn tmps).run P w = .ok (.tuple #[u, v, x]) w := by
  have hp' : tmps[p]?.getD undef = .pointer (some ap) := by simpa [Array.getD_eq_getD_getElem?] using hp
  have hq' : tmps[q]?.getD undef = .pointer (some aq) := by simpa [Array.getD_eq_getD_getElem?] using hq
  have hr' : tmps[r]?.getD undef = .pointer (some ar) := by simpa [Array.getD_eq_getD_getElem?] using hr
  simp only [results, h]
  simp [Sem.run_bind, Result.andThen, hp', hq', hr', asAddr, hu, hv, hx]
theorem results_ct {P : Program} {fn : Func} {p u : Tmp} {tp : TypeId} (h : fn.results = #[.cell p tp, .tmp u]) (tmps : Array Value) (w : World) (ap : Addr) (x : Value)
    (hp : tmps.getD p undef = .pointer (some ap)) (hx : (loadVar tp ap).run P w = .ok x w) : (results fn tmps).run P w = .ok (.tuple #[x, tmps.getD u undef]) w := by
  rw [results_cell_tmp h, hp]
  simp [asAddr, Result.andThen, hx]
theorem results_c {P : Program} {fn : Func} {p : Tmp} {tp : TypeId} (h : fn.results = #[.cell p tp]) (tmps : Array Value) (w : World) (ap : Addr) (x : Value)
    (hp : tmps.getD p undef = .pointer (some ap)) (hx : (loadVar tp ap).run P w = .ok x w) : (results fn tmps).run P w = .ok x w := by
  have hp' : tmps[p]?.getD undef = .pointer (some ap) := by simpa [Array.getD_eq_getD_getElem?] using hp
  simp only [results, h]
  simp [Sem.run_bind, Result.andThen, hp', asAddr, hx]
end Go.Proofs.Ytegdcalefpobeaa.A

/- Blocks of the call's own, kept together. -/
set_option linter.unusedVariables false
set_option linter.unusedSimpArgs false
namespace Go.Proofs.Ytegdcalefpobeaa.A
open Go.RowKit Go.Proofs.YtegdcalefpobeaaW.PrintWords Go.Proofs.YtegdcalefpobeaaW.PrintLast Go.Proofs.YtegdcalefpobeaaW.PrintMore

structure Many (w : World) (bs : List (Nat × TypeId × Array Value)) (w' : World) : Prop where
  blk : ∀ (i : Nat) (g : Nat) (t : TypeId) (cs : Array Value), bs[i]? = some (g, t, cs) → Blk w' g t cs
  bel : Below w.heap.size w w'
section
variable {w w1 w2 : World} {bs : List (Nat × TypeId × Array Value)}
theorem Many.none (w : World) : Many w [] w := ⟨fun i g t cs h => by simp at h, Below.refl _ _⟩
theorem Many.later (h : Many w bs w1) (hb : Below w1.heap.size w1 w2) : Many w bs w2 := ⟨fun i g t cs hi => (h.blk i g t cs hi).later hb, thenB h.bel h.bel.size hb⟩
theorem Many.drew (h : Many w bs w1) : Many w bs w1.drew := ⟨fun i g t cs hi => h.blk i g t cs hi, below_drew h.bel⟩
theorem Many.alloc (h : Many w bs w1) (o : Obj) : Many w bs (w1.alloc o) := h.later (below_alloc (Below.refl _ _) o)
/-- a new block -/
theorem Many.grow (h : Many w bs w1) (t : TypeId) (cs : Array Value) : Many w (bs ++ [(w1.heap.size, t, cs)]) (w1.alloc (.cells cs t)) := by
  refine ⟨fun i g t' cs' hi => ?_, below_alloc h.bel _⟩
  rcases Nat.lt_or_ge i bs.length with hl | hl
  · rw [List.getElem?_append_left hl] at hi
    exact (h.blk i g t' cs' hi).alloc _
  · rw [List.getElem?_append_right hl] at hi
    cases hk : i - bs.length with
    | zero =>
      rw [hk] at hi
      simp at hi
      obtain ⟨rfl, rfl, rfl⟩ := hi
      exact Blk.new w1 _ _
    | succ k =>
      rw [hk] at hi
      simp at hi
/-- a block is written whole -/
theorem Many.set (h : Many w bs w1) (i g : Nat) (t : TypeId) (cs : Array Value) (hi : bs[i]? = some (g, t, cs)) (us : List Value) (hs : cs.size = us.length) (hg : w.heap.size ≤ g) (hd : ∀ (j g' : Nat) (t' : TypeId) (cs' : Array Value), bs[j]? = some (g', t', cs') → j ≠ i → g' ≠ g) :
    Many w (bs.set i (g, t, us.toArray)) (sets w1 g 0 us) := by
  have O := OneSet.whole (h.blk i g t cs hi) us hs
  refine ⟨fun j g' t' cs' hj => ?_, h.bel.trans (O.bel.mono hg)⟩
  rw [List.getElem?_set] at hj
  split at hj
  · split at hj
    · simp at hj
      obtain ⟨rfl, rfl, rfl⟩ := hj
      exact O.blk
    · cases hj
  · rename_i hne
    exact O.other (h.blk j g' t' cs' hj) (hd j g' t' cs' hj (fun e => hne e.symm))
end
end Go.Proofs.Ytegdcalefpobeaa.A

/- config: clones of prefixes; what is caught, whatever is cleared. -/
set_option linter.unusedVariables false
set_option linter.unusedSimpArgs false
namespace Go.Proofs.Ytegdcalefpobeaa.A
open Go.RowKit Go.Proofs.YtegdcalefpobeaaW.PrintWords Go.Proofs.YtegdcalefpobeaaW.PrintLast Go.Proofs.YtegdcalefpobeaaW.PrintMore Go.Proofs.Ytegdcalefpobeaa.PConfigChecks

/-- a slice literal of nothing -/
theorem R_lit_none {α : Type} (d : Kd α) (e : TypeId) (w : World) (base : Nat) (hb : base ≤ w.heap.size) : Kd.R d e (w.alloc (.cells #[] e)) base (fun _ => True) (.slice (some ⟨w.heap.size, 0, none⟩) 0 0) [] := by
  refine ⟨fun _ _ => trivial, [], ?_, Reps.none _ _⟩
  have := World.ownsRow_lit (base := base) (e := e) (size := d.sz) w #[] 0 hb (by decide) (by simp)
  simpa using this
theorem info_pfx : (Try.prog.info? 28).map (fun i => (i.zero, i.size, i.bytes)) = some (some (.agg #[.int .u32 0, .int .i64 0]), 2, 16) := by kernel_rfl
theorem pfx_KM {w : World} {base : Nat} {ok : Nat → Prop} (x : Pfx) (cs : List Value) (h : k28.K w x cs) : k28.M w base ok x cs := by
  rw [k28_open h]
  exact k28_mkM _ _ _ _
set_option maxHeartbeats 1000000 in
theorem clonep_any (A : Option Addr) (l : List Pfx) (c : Nat) (w : World) (hr : Kd.C k28 w A l.length l) (hc : l.length ≤ c) (hm : l.length * 16 ≤ 140737488355328) :
    Calls Try.prog 35 #[.slice A l.length c] w fun e w' => ∃ v, e = .returned v ∧ Kd.R k28 28 w' w.heap.size (fun _ => True) v l ∧ Below w.heap.size w w' := by
  have hq := fun A n c w => eqnil 22 28 Try.underlying22 A n c w
  cases A with
  | none =>
    obtain rfl := nil_of_none hr
    go_enter Try.func35, Try.ntmps35
    go_wp2
    go_ret
    exact ⟨_, rfl, Kd.R_nil _ _ _ _ _, Below.refl _ _⟩
  | some ad =>
    have HR := Aside0.mk hr
    have HM := Aside0.mk hm
    clear hr hm
    go_enter Try.func35, Try.ntmps35
    go_wp2_with (at_builtin; go_loud (refine Kd.R_append_rows (w0 := w) k28 (Rr := k28.K (w.alloc (.cells #[] 28))) w.heap.size rfl _ _ 22 28 (.agg #[.int .u32 0, .int .i64 0]) 16 rfl Try.underlying22 info_pfx rfl (by decide) (by decide) _ [] l (some ad) l.length c (fun _ => True) (fun _ => False) rfl rfl (R_lit_none k28 28 w w.heap.size (Nat.le_refl _)) (Kd.C_alloc HR.out _) pfx_KM (fun _ h => h.elim) (fun _ _ => trivial) (below_alloc (Below.refl _ _) _) (by simp) (by simpa using HM.out) ?_); intro v1 w1 hR hB hG hO)
    go_ret
    exact ⟨_, rfl, hR, hB⟩
theorem clonep_sl (A : Option Addr) (l : List Pfx) (c : Nat) (w : World) (hr : Kd.C k28 w A l.length l) (hc : l.length ≤ c) (hm : l.length * 16 ≤ 140737488355328) :
    Calls Try.prog 35 #[.slice A l.length c] w fun e w' => ∃ B d, e = .returned (.slice B l.length d) ∧ Kd.R k28 28 w' w.heap.size (fun _ => True) (.slice B l.length d) l ∧ Below w.heap.size w w' :=
  (clonep_any A l c w hr hc hm).mono fun _ _ ⟨v, he, hR, hB⟩ => by
    obtain ⟨B, d, rfl⟩ := Kd.R_slice hR
    exact ⟨B, d, he, hR, hB⟩

/-- how what was caught ends -/
def CaughtBy (R : World → Prop) (p : Addr) (e0 : Int) (w' : World) : Prop := ∃ w2, R w2 ∧ w' = w2.setCell p (.int .i64 e0)
set_option maxRecDepth 20000 in
set_option maxHeartbeats 1000000 in
theorem caught_any (F : FuncId) (caps : Array Value) (p : Addr) (e0 : Int) (w : World) (R : World → Prop) (hF : ∀ (args : Array Value) (w : World), (callFunc F args).run Try.prog w = .ok (.enter F args) w)
    (hcl : Calls Try.prog F caps w fun e w' => e = .returned (.tuple #[]) ∧ R w' ∧ (∃ x, w'.cell? p = some (.int .i64 x)) ∧ w'.frozen? p = false) :
    CallsD Try.prog 30 #[.pointer (some p), .func (.func F) #[] caps] (.panicking [given e0]) w fun e u' w' => e = .returned (.tuple #[]) ∧ u' = .panicking [{ given e0 with recovered := true }] ∧ CaughtBy R p e0 w' := by
  have HC := Aside0.mk hcl
  clear hcl
  refine callsD_of_wpS Try.func30 rfl fun c₀ cs hu => ?_
  unfold given at hu
  apply wpS_seq
  apply wpS_region
  simp [wpOpsS, go_sem, recoverD, hu, Try.ntmps30, Exit.thenS]
  refine wpS_of_wp (Code.wp_mono (Q := fun e a' w' => e = .normal ∧ a'.defers = [] ∧ CaughtBy R p e0 w') ?_ ?_)
  · rintro e a' w' ⟨rfl, hd, hR⟩
    cases c₀
    simp_all [bodyPostS, results, Try.results30, Exit.thenS, given]
  · clear hu
    rw [tmps_caught]
    have hta : ∀ w : World, (Instr.typeAssert (.iface 32 (.int .i64 e0)) 20 32 true).run Try.prog w = .ok (.tuple #[.int .i64 e0, .bool true]) w := fun _ => by kernel_rfl
    go_wp2_with ((with_reducible refine HC.out.mono ?_); rintro e w1 ⟨rfl, hR, ⟨x, hx⟩, hz⟩; have HR := Aside0.mk hR; clear hR)
    exact ⟨_, HR.out, rfl⟩
end Go.Proofs.Ytegdcalefpobeaa.A

/- config: Standard. -/
set_option linter.unusedVariables false
set_option linter.unusedSimpArgs false
namespace Go.Proofs.Ytegdcalefpobeaa.A
open Go.RowKit Go.Proofs.YtegdcalefpobeaaW.PrintWords Go.Proofs.YtegdcalefpobeaaW.PrintLast Go.Proofs.YtegdcalefpobeaaW.PrintMore Go.Proofs.Ytegdcalefpobeaa.PConfigChecks

theorem OneSet.nine {w : World} {g : Nat} {t : TypeId} {cs : Array Value} (h : Blk w g t cs) (hs : cs.size = 9) (u0 u1 u2 u3 u4 u5 u6 u7 u8 : Value) :
    OneSet w g t #[u0, u1, u2, u3, u4, u5, u6, u7, u8] (((((((((w.setCell ⟨g, 0, none⟩ u0).setCell ⟨g, 1, none⟩ u1).setCell ⟨g, 2, none⟩ u2).setCell ⟨g, 3, none⟩ u3).setCell ⟨g, 4, none⟩ u4).setCell ⟨g, 5, none⟩ u5).setCell ⟨g, 6, none⟩ u6).setCell ⟨g, 7, none⟩ u7).setCell ⟨g, 8, none⟩ u8) := by
  obtain ⟨x0, x1, x2, x3, x4, x5, x6, x7, x8, rfl⟩ : ∃ x0 x1 x2 x3 x4 x5 x6 x7 x8, cs = #[x0, x1, x2, x3, x4, x5, x6, x7, x8] := by
    obtain ⟨l⟩ := cs
    match l, hs with
    | [x0, x1, x2, x3, x4, x5, x6, x7, x8], _ => exact ⟨x0, x1, x2, x3, x4, x5, x6, x7, x8, rfl⟩
  have h9 := (((((((((OneSet.start h).set_ 0 u0).set_ 1 u1).set_ 2 u2).set_ 3 u3).set_ 4 u4).set_ 5 u5).set_ 6 u6).set_ 7 u7).set_ 8 u8
  simp only [List.setIfInBounds_toArray, List.set_cons_zero, List.set_cons_succ] at h9
  exact h9
/-- a struct in a cell and a number in a cell: what is told -/
theorem results_blk_cell {P : Program} {fn : Func} {p q : Tmp} {ty tq : TypeId} (h : fn.results = #[.cell p ty, .cell q tq]) (tmps : Array Value) (w : World) (g : Nat) (t : TypeId) (cs : Array Value) (d : TypeDesc) (aq : Addr) (v : Value)
    (hp : tmps.getD p undef = .pointer (some ⟨g, 0, none⟩)) (hg : Blk w g t cs)
    (hu : P.underlying ty = some d) (hd : (match d with | .struct _ | .array _ _ => true | _ => false) = true) (hi : (P.info? ty).map (·.size) = some cs.size)
    (hq : tmps.getD q undef = .pointer (some aq)) (hv : (loadVar tq aq).run P w = .ok v w) :
    (results fn tmps).run P w = .ok (.tuple #[.agg cs, v]) w := by
  have hp' : tmps[p]?.getD undef = .pointer (some ⟨g, 0, none⟩) := by simpa [Array.getD_eq_getD_getElem?] using hp
  have hq' : tmps[q]?.getD undef = .pointer (some aq) := by simpa [Array.getD_eq_getD_getElem?] using hq
  simp only [results, h]
  simp [Sem.run_bind, Result.andThen, hp', hq', asAddr, run_loadVar_row w g t ty cs (0, 0) d hg hu hd hi, hv]
set_option maxHeartbeats 2000000 in
theorem std_clear (g : Nat) (v0 v1 v2 v3 v4 v5 v6 v7 v8 : Value) (w : World) (hg : Blk w g 24 #[v0, v1, v2, v3, v4, v5, v6, v7, v8]) :
    Calls Try.prog 33 #[.pointer (some ⟨g, 0, none⟩)] w fun e w' => e = .returned (.tuple #[]) ∧ OneSet w g 24 #[.int .i64 0, .int .i64 0, .int .i64 0, .int .i64 0, .int .i64 0, .int .i64 0, .int .i64 0, .int .i64 0, .slice none 0 0] w' := by
  have c0 := hg.cell 0 _ rfl; have f0 := hg.frozen 0; have c1 := hg.cell 1 _ rfl; have f1 := hg.frozen 1; have c2 := hg.cell 2 _ rfl; have f2 := hg.frozen 2; have c3 := hg.cell 3 _ rfl; have f3 := hg.frozen 3; have c4 := hg.cell 4 _ rfl; have f4 := hg.frozen 4; have c5 := hg.cell 5 _ rfl; have f5 := hg.frozen 5; have c6 := hg.cell 6 _ rfl; have f6 := hg.frozen 6; have c7 := hg.cell 7 _ rfl; have f7 := hg.frozen 7; have c8 := hg.cell 8 _ rfl; have f8 := hg.frozen 8
  have HG := Aside0.mk hg
  clear hg
  go_enter Try.func33, Try.ntmps33
  go_wp2
  go_end0
  exact ⟨rfl, OneSet.nine HG.out rfl _ _ _ _ _ _ _ _ _⟩
theorem call_std1 : ∀ (args : Array Value) (w : World), (callFunc 33 args).run Try.prog w = .ok (.enter 33 args) w := fun _ _ => by kernel_rfl
set_option maxRecDepth 20000 in
set_option maxHeartbeats 4000000 in
theorem std_no (A : Option Addr) (l : List Pfx) (c : Nat) (w : World) (hr : Kd.C k28 w A l.length l) (hc : l.length ≤ c) (ha : AdrP l) (hm : l.length ≤ 140737488355328) (hn : ownN l = false) :
    Calls Try.prog 12 #[.slice A l.length c] w fun e w' => e = .returned (.tuple #[.agg #[.int .i64 0, .int .i64 0, .int .i64 0, .int .i64 0, .int .i64 0, .int .i64 0, .int .i64 0, .int .i64 0, .slice none 0 0], .int .i64 2]) ∧ Below w.heap.size w w' := by
  have hmf : ∀ (fn : Fn) (first cap : Array Value) (w : World), (Instr.makeFunc fn first cap).run Try.prog w = .ok (.func fn first cap) w := fun _ _ _ _ => rfl
  have HR := Aside0.mk hr
  have HA := Aside0.mk ha
  clear hr ha
  go_enter_defers Try.func12, Try.ntmps12
  go_wp2_with (go_at_call 34; go_loud ((with_reducible refine (owned_any A l c _ (Kd.C_alloc (Kd.C_alloc HR.out _) _) hc HA.out hm).mono ?_); rintro e w1 ⟨h1, hb1⟩; rw [ownEnd, hn, if_neg Bool.false_ne_true] at h1; cases h1))
  have B0 := (blk0 w 24 #[.int .i64 0, .int .i64 0, .int .i64 0, .int .i64 0, .int .i64 0, .int .i64 0, .int .i64 0, .int .i64 0, .slice none 0 0] (.cells #[.int .i64 0] 32)).later hb1
  have B1 := (blk1 w 32 #[.int .i64 0] (.cells #[.int .i64 0, .int .i64 0, .int .i64 0, .int .i64 0, .int .i64 0, .int .i64 0, .int .i64 0, .int .i64 0, .slice none 0 0] 24)).later hb1
  refine leaves_cons (f := 30) (args := #[.pointer (some ⟨w.heap.size + 1, 0, none⟩), .func (.func 33) #[] #[.pointer (some ⟨w.heap.size, 0, none⟩)]]) (by simp) (by simp [go_sem]) ?_
  refine (caught_any 33 #[.pointer (some ⟨w.heap.size, 0, none⟩)] ⟨w.heap.size + 1, 0, none⟩ 2 w1 (OneSet w1 w.heap.size 24 #[.int .i64 0, .int .i64 0, .int .i64 0, .int .i64 0, .int .i64 0, .int .i64 0, .int .i64 0, .int .i64 0, .slice none 0 0]) call_std1 ((std_clear w.heap.size _ _ _ _ _ _ _ _ _ w1 B0).mono ?_)).mono ?_
  · rintro e w2 ⟨rfl, h2⟩
    exact ⟨rfl, h2, ⟨_, (h2.other B1 (by omega)).cell 0 _ rfl⟩, (h2.other B1 (by omega)).frozen 0⟩
  rintro e u' w'' ⟨rfl, rfl, w2, h2, rfl⟩
  have B0' := h2.blk.far (p := ⟨w.heap.size + 1, 0, none⟩) (by simp) (.int .i64 2)
  have z1 := ((h2.other B1 (by omega)).set_ 0 (.int .i64 2)).cell 0 _ rfl
  refine ⟨_, results_blk_cell (p := 2) (q := 3) rfl _ _ w.heap.size 24 #[.int .i64 0, .int .i64 0, .int .i64 0, .int .i64 0, .int .i64 0, .int .i64 0, .int .i64 0, .int .i64 0, .slice none 0 0] _ ⟨w.heap.size + 1, 0, none⟩ (.int .i64 2) rfl B0' Try.underlying24 rfl (by kernel_rfl) rfl (by simp [go_sem, z1]), rfl, ?_⟩
  exact Below.setCell (p := ⟨w.heap.size + 1, 0, none⟩) ((thenB (below_two w _ _) (by simp; omega) hb1).trans h2.bel) (by simp) _
set_option maxRecDepth 20000 in
set_option maxHeartbeats 4000000 in
theorem std_yes (A : Option Addr) (l : List Pfx) (c : Nat) (w : World) (hr : Kd.C k28 w A l.length l) (hc : l.length ≤ c) (ha : AdrP l) (hm : l.length ≤ 140737488355328) (hn : ownN l = true) :
    Calls Try.prog 12 #[.slice A l.length c] w fun e w' => (∃ B n d, e = .returned (.tuple #[.agg #[.int .i64 25, .int .i64 10, .int .i64 180, .int .i64 120, .int .i64 120, .int .i64 1, .int .i64 4, .int .i64 256, .slice B n d], .int .i64 0]) ∧ n = l.length ∧ n ≤ d ∧ Kd.C k28 w' B l.length l) ∧ Below w.heap.size w w' := by
  have hmf : ∀ (fn : Fn) (first cap : Array Value) (w : World), (Instr.makeFunc fn first cap).run Try.prog w = .ok (.func fn first cap) w := fun _ _ _ _ => rfl
  have HR := Aside0.mk hr
  have HA := Aside0.mk ha
  have h16 : l.length ≤ 16 := by
    unfold ownN at hn
    simp at hn
    exact hn.1
  clear hr ha
  go_enter_defers Try.func12, Try.ntmps12
  go_wp2_with (first
    | (go_at_call 34; go_loud ((with_reducible refine (owned_any A l c _ (Kd.C_alloc (Kd.C_alloc HR.out _) _) hc HA.out hm).mono ?_); rintro e w1 ⟨h1, hb1⟩; rw [ownEnd, hn, if_pos rfl] at h1; cases h1; have HB1 := Aside0.mk hb1))
    | (go_at_call 35; go_loud ((with_reducible refine (clonep_sl A l c _ (Kd.C_below (Kd.C_alloc (Kd.C_alloc HR.out _) _) HB1.out) hc (by omega)).mono ?_); rintro e w2 ⟨B, d, rfl, hR, hb2⟩; have B0 := (((blk0 w 24 #[.int .i64 0, .int .i64 0, .int .i64 0, .int .i64 0, .int .i64 0, .int .i64 0, .int .i64 0, .int .i64 0, .slice none 0 0] (.cells #[.int .i64 0] 32)).later HB1.out).later hb2); have B1 := (((blk1 w 32 #[.int .i64 0] (.cells #[.int .i64 0, .int .i64 0, .int .i64 0, .int .i64 0, .int .i64 0, .int .i64 0, .int .i64 0, .int .i64 0, .slice none 0 0] 24)).later HB1.out).later hb2); have c0 := B0.cell 0 _ rfl; have f0 := B0.frozen 0; have c1 := B0.cell 1 _ rfl; have f1 := B0.frozen 1; have c2 := B0.cell 2 _ rfl; have f2 := B0.frozen 2; have c3 := B0.cell 3 _ rfl; have f3 := B0.frozen 3; have c4 := B0.cell 4 _ rfl; have f4 := B0.frozen 4; have c5 := B0.cell 5 _ rfl; have f5 := B0.frozen 5; have c6 := B0.cell 6 _ rfl; have f6 := B0.frozen 6; have c7 := B0.cell 7 _ rfl; have f7 := B0.frozen 7; have c8 := B0.cell 8 _ rfl; have f8 := B0.frozen 8; have c1 := B1.cell 0 _ rfl; have f1 := B1.frozen 0; have HB2 := Aside0.mk hb2; have HRR := Aside0.mk hR; have HB0 := Aside0.mk B0; have HBE := Aside0.mk B1; clear hb2 hR B0 B1)))
  have O := OneSet.nine HB0.out rfl (.int .i64 25) (.int .i64 10) (.int .i64 180) (.int .i64 120) (.int .i64 120) (.int .i64 1) (.int .i64 4) (.int .i64 256) (.slice B l.length d)
  refine leaves_cons (f := 30) (args := #[.pointer (some ⟨w.heap.size + 1, 0, none⟩), .func (.func 33) #[] #[.pointer (some ⟨w.heap.size, 0, none⟩)]]) (by simp) (by simp [go_sem]) ?_
  refine (caught_idle _ _ _).mono ?_
  rintro e u' w'' ⟨rfl, rfl, rfl⟩
  have B0' := O.blk.far (p := ⟨w.heap.size + 1, 0, none⟩) (by simp) (.int .i64 0)
  have z1 := ((O.other HBE.out (by omega)).set_ 0 (.int .i64 0)).cell 0 _ rfl
  refine ⟨_, results_blk_cell (p := 2) (q := 3) rfl _ _ w.heap.size 24 #[.int .i64 25, .int .i64 10, .int .i64 180, .int .i64 120, .int .i64 120, .int .i64 1, .int .i64 4, .int .i64 256, .slice B l.length d] _ ⟨w.heap.size + 1, 0, none⟩ (.int .i64 0) rfl B0' Try.underlying24 rfl (by kernel_rfl) rfl (by simp [go_sem, z1]), ⟨B, _, d, rfl, rfl, (Kd.R_reads' HRR.out).2.1, ?_⟩, ?_⟩
  · have h1 := HB1.out.size
    simp at h1
    have r := Kd.R_mono (Kd.R_bound HRR.out) (ok' := fun k => k ≠ w.heap.size ∧ k ≠ w.heap.size + 1) (fun k hk => by have := hk.2.1; omega)
    have r' := Kd.R_far (p := ⟨w.heap.size + 1, 0, none⟩) (Kd.R_step r (fun k hk _ => O.far k hk.1)) (fun k hk => hk.2) (.int .i64 0)
    exact (Kd.R_reads' r').2.2
  · exact Below.setCell (p := ⟨w.heap.size + 1, 0, none⟩) ((thenB (thenB (below_two w _ _) (by simp; omega) HB1.out) (by have := HB1.out.size; simp at this; omega) HB2.out).trans O.bel) (by simp) _
end Go.Proofs.Ytegdcalefpobeaa.A
