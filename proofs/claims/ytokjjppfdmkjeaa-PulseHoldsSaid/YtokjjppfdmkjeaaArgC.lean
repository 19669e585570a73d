/- What is given: a configuration, a prefix: how they read. -/
import Derived.Test.YtokjjppfdmkjeaaArgs
import Derived.Test.YtokjjppfdmkjeaaOwn1
import Derived.Lib.SmallJoins
set_option linter.unusedVariables false
set_option linter.unusedSimpArgs false
namespace Go.Proofs.Ytokjjppfdmkjeaa.A
open Go.RowKit Go.Joins Go.ChangeShapes Go.WideShapes Go.Deep Go.Proofs.YtokjjppfdmkjeaaW.PrintWords Go.Proofs.YtokjjppfdmkjeaaW.PrintLast Go.Proofs.YtokjjppfdmkjeaaW.PrintMore Go.Proofs.Ytokjjppfdmkjeaa.PPulseHolds
set_option maxRecDepth 100000

section
variable {H : Type} {enc : TypeId × Value → H} {P : Program} {w : World} {base : Nat} {spare : Nat → Bool} {held : Bool}
/-- a struct of cells, by value -/
theorem open_agg_any {r : Reach} {b0 : Nat} {t : TypeId} {fs : Array Field} {v : Value} {d : DataW H} {p : List MemPlace} (hs : P.underlying t = some (.struct fs)) (hone : oneCellFields P fs = true) (hC : P.cellsOf t = fs.size)
    (hv : Value.okWide P w r b0 t v) (h : DataW.Trod enc P w base spare held t v d p) :
    ∃ cs : List Value, v = .agg cs.toArray ∧ cs.length = fs.size ∧ ∀ (j : Nat) (f : Field), fs[j]? = some f → ∃ u x n, cs[j]? = some u ∧ DataW.trod enc P w base spare held n f.type [u] = some x := by
  obtain ⟨cs, rfl, hsz⟩ := okWide_struct hs hv
  obtain ⟨l⟩ := cs
  have hl : l.length = fs.size := hsz.trans hC
  obtain ⟨fuel, hf⟩ := h
  obtain ⟨xs, n, _, hx, _, hlen, hg⟩ := DataW.trod_struct hs hf
  refine ⟨l, rfl, hl, fun j f hj => ?_⟩
  have hjl : j < fs.size := (Array.getElem?_eq_some_iff.1 hj).1
  obtain ⟨o0, k0⟩ := hone_of hone j f hj
  have h1 := hg j f hj
  rw [o0, k0] at h1
  have h2 : (Value.agg ⟨l⟩).cells.toList = l := rfl
  have h3 : ((l.drop j).take 1) = [l[j]'(by omega)] := by
    rw [List.drop_eq_getElem_cons (by omega)]
    rfl
  have h4 : DataW.trod enc P w base spare held n f.type ((l.drop j).take 1) = xs[j]? := h1
  rw [h3, List.getElem?_eq_getElem (by omega)] at h4
  exact ⟨_, _, _, List.getElem?_eq_getElem (by omega), h4⟩
theorem trod_int1 {t : TypeId} {k : IntKind} (hu : P.underlying t = some (.int k)) {n : Nat} {u : Value} {x : DataW H × List MemPlace} (h : DataW.trod enc P w base spare held n t [u] = some x) : ∃ m, u = .int k m ∧ (Lit.int k m).wf = true := by
  obtain ⟨m, hm, _, hw⟩ := DataW.trod_int hu h
  exact ⟨m, by simpa using hm, hw⟩
theorem trod_bool1 {t : TypeId} (hu : P.underlying t = some .bool) {n : Nat} {u : Value} {x : DataW H × List MemPlace} (h : DataW.trod enc P w base spare held n t [u] = some x) : ∃ b, u = .bool b := by
  obtain ⟨b, hb, _⟩ := DataW.trod_bool hu h
  exact ⟨b, by simpa using hb⟩
theorem trod_slice1 {t e : TypeId} (hu : P.underlying t = some (.slice e)) {n : Nat} {u : Value} {x : DataW H × List MemPlace} (h : DataW.trod enc P w base spare held n t [u] = some x) : ∃ A len cap, u = .slice A len cap ∧ DataW.Trod enc P w base spare held t (.slice A len cap) x.1 x.2 := by
  rcases open_slice hu h with ⟨h0, _⟩ | ⟨a, len, cap, m, n', D, Pl, hcs, _⟩
  · obtain rfl : u = .slice none 0 0 := by simpa using h0
    exact ⟨none, 0, 0, rfl, n, h⟩
  · obtain rfl : u = .slice (some a) len cap := by simpa using hcs
    exact ⟨some a, len, cap, rfl, n, h⟩
end
theorem u32_wf {n : Int} (h : (Lit.int .u32 n).wf = true) : Adr n := by
  simp only [Lit.wf, Bool.and_eq_true, decide_eq_true_eq] at h
  have h1 : IntKind.u32.min = 0 := rfl
  have h2 : IntKind.u32.max = 4294967295 := rfl
  rw [h1, h2] at h
  unfold Adr
  omega
def encP (p : Pfx) : List Value := [.int .u32 p.f0, .int .i64 p.f1]
theorem row_pfx (r : List Value) (h : AllOk [.int .u32, .int .i64] r) : ∃ p : Pfx, r = encP p ∧ Adr p.f0 := by
  cases r with
  | nil => exact h.elim
  | cons u0 r =>
    cases r with
    | nil => exact h.2.elim
    | cons u1 r =>
      cases r with
      | nil =>
        obtain ⟨⟨a, rfl, hw⟩, ⟨n, rfl, _⟩, _⟩ := h
        exact ⟨⟨a, n⟩, rfl, u32_wf hw⟩
      | cons _ _ => exact h.2.2.elim
theorem pfx_of_rows (rows : List (List Value)) (h : ∀ r ∈ rows, AllOk [.int .u32, .int .i64] r) : ∃ l : List Pfx, rows = l.map encP ∧ AdrP l := by
  induction rows with
  | nil => exact ⟨[], rfl, fun x hx => by cases hx⟩
  | cons r rows ih =>
    obtain ⟨l, rfl, ha⟩ := ih (fun r hr => h r (List.mem_cons_of_mem _ hr))
    obtain ⟨p, rfl, hp⟩ := row_pfx r (h r (List.mem_cons_self ..))
    refine ⟨p :: l, rfl, fun x hx => ?_⟩
    rcases List.mem_cons.1 hx with rfl | hx
    · exact hp
    · exact ha x hx
theorem C_of_rows {w : World} {A : Option Addr} {l : List Pfx} (h : RowsAt w A 2 (l.map encP)) (hA : 0 < l.length → ∃ ad, A = some ad) (hm : l.length ≤ maxLen) : Kd.C k81 w A l.length l := by
  refine ⟨rfl, by simpa [maxLen] using hm, fun h0 => ?_⟩
  obtain ⟨ad, rfl⟩ := hA h0
  refine ⟨ad, rfl, fun j p hj => ⟨encP p, rfl, k81_mk _ _, fun i u hi => h ad rfl j (encP p) ?_ i u hi⟩⟩
  rw [List.getElem?_map, hj]
  rfl
section
variable {H : Type} {enc : TypeId × Value → H} {w : World} {base : Nat} {spare : Nat → Bool} {held : Bool}
theorem open_pfxs {A : Option Addr} {len cap : Nat} {d : DataW H} {ps : List MemPlace} (h : DataW.Trod enc Try.prog w base spare held 22 (.slice A len cap) d ps) :
    ∃ l : List Pfx, l.length = len ∧ Kd.C k81 w A l.length l ∧ l.length ≤ cap ∧ AdrP l := by
  obtain ⟨rows, hl, hk, hr, hlc, hm, hA⟩ := open_rows (ks := [.int .u32, .int .i64]) Try.underlying22 (by kernel_rfl) (by kernel_rfl) h
  obtain ⟨l, rfl, ha⟩ := pfx_of_rows rows hk
  rw [List.length_map] at hl
  exact ⟨l, hl, C_of_rows hr (fun h0 => hA (by omega)) (by omega), by omega, ha⟩
theorem open_pfx {r : Reach} {b0 : Nat} {v : Value} {d : DataW H} {p : List MemPlace} (hv : Value.okWide Try.prog w r b0 81 v) (h : DataW.Trod enc Try.prog w base spare held 81 v d p) :
    ∃ a n : Int, v = .agg #[.int .u32 a, .int .i64 n] ∧ Adr a := by
  obtain ⟨cs, rfl, hl, hf⟩ := open_agg_any Try.underlying81 (by kernel_rfl) (by kernel_rfl) hv h
  match cs, hl with
  | [u0, u1], _ =>
    obtain ⟨v0, x0, n0, e0, t0⟩ := hf 0 _ rfl
    obtain ⟨v1, x1, n1, e1, t1⟩ := hf 1 _ rfl
    obtain rfl : u0 = v0 := by simpa using e0
    obtain rfl : u1 = v1 := by simpa using e1
    obtain ⟨a, rfl, hw⟩ := trod_int1 (by kernel_rfl : Try.prog.underlying 79 = some (.int .u32)) t0
    obtain ⟨n, rfl, _⟩ := trod_int1 (by kernel_rfl : Try.prog.underlying 3 = some (.int .i64)) t1
    exact ⟨a, n, rfl, u32_wf hw⟩
theorem open_cfg {r : Reach} {b0 : Nat} {v : Value} {d : DataW H} {p : List MemPlace} (hv : Value.okWide Try.prog w r b0 24 v) (h : DataW.Trod enc Try.prog w base spare held 24 v d p) :
    ∃ (c0 c1 c2 c3 c4 c5 c6 cap : Int) (A : Option Addr) (l : List Pfx) (cc : Nat), v = .agg #[.int .i64 c0, .int .i64 c1, .int .i64 c2, .int .i64 c3, .int .i64 c4, .int .i64 c5, .int .i64 c6, .int .i64 cap, .slice A l.length cc] ∧
      Kd.C k81 w A l.length l ∧ l.length ≤ cc ∧ AdrP l := by
  obtain ⟨cs, rfl, hl, hf⟩ := open_agg_any Try.underlying24 (by kernel_rfl) (by kernel_rfl) hv h
  match cs, hl with
  | [u0, u1, u2, u3, u4, u5, u6, u7, u8], _ =>
    obtain ⟨v0, x0, n0, e0, t0⟩ := hf 0 _ rfl
    obtain rfl : u0 = v0 := by simpa using e0
    obtain ⟨v1, x1, n1, e1, t1⟩ := hf 1 _ rfl
    obtain rfl : u1 = v1 := by simpa using e1
    obtain ⟨v2, x2, n2, e2, t2⟩ := hf 2 _ rfl
    obtain rfl : u2 = v2 := by simpa using e2
    obtain ⟨v3, x3, n3, e3, t3⟩ := hf 3 _ rfl
    obtain rfl : u3 = v3 := by simpa using e3
    obtain ⟨v4, x4, n4, e4, t4⟩ := hf 4 _ rfl
    obtain rfl : u4 = v4 := by simpa using e4
    obtain ⟨v5, x5, n5, e5, t5⟩ := hf 5 _ rfl
    obtain rfl : u5 = v5 := by simpa using e5
    obtain ⟨v6, x6, n6, e6, t6⟩ := hf 6 _ rfl
    obtain rfl : u6 = v6 := by simpa using e6
    obtain ⟨v7, x7, n7, e7, t7⟩ := hf 7 _ rfl
    obtain rfl : u7 = v7 := by simpa using e7
    obtain ⟨v8, x8, n8, e8, t8⟩ := hf 8 _ rfl
    obtain rfl : u8 = v8 := by simpa using e8
    obtain ⟨c0, rfl, _⟩ := trod_int1 (by kernel_rfl : Try.prog.underlying 2 = some (.int .i64)) t0
    obtain ⟨c1, rfl, _⟩ := trod_int1 (by kernel_rfl : Try.prog.underlying 2 = some (.int .i64)) t1
    obtain ⟨c2, rfl, _⟩ := trod_int1 (by kernel_rfl : Try.prog.underlying 2 = some (.int .i64)) t2
    obtain ⟨c3, rfl, _⟩ := trod_int1 (by kernel_rfl : Try.prog.underlying 2 = some (.int .i64)) t3
    obtain ⟨c4, rfl, _⟩ := trod_int1 (by kernel_rfl : Try.prog.underlying 2 = some (.int .i64)) t4
    obtain ⟨c5, rfl, _⟩ := trod_int1 (by kernel_rfl : Try.prog.underlying 2 = some (.int .i64)) t5
    obtain ⟨c6, rfl, _⟩ := trod_int1 (by kernel_rfl : Try.prog.underlying 2 = some (.int .i64)) t6
    obtain ⟨c7, rfl, _⟩ := trod_int1 (by kernel_rfl : Try.prog.underlying 3 = some (.int .i64)) t7
    obtain ⟨A, len, cc, rfl, hT⟩ := trod_slice1 Try.underlying22 t8
    obtain ⟨l, rfl, hC, hc, ha⟩ := open_pfxs hT
    exact ⟨c0, c1, c2, c3, c4, c5, c6, c7, A, l, cc, rfl, hC, hc, ha⟩
end
end Go.Proofs.Ytokjjppfdmkjeaa.A
