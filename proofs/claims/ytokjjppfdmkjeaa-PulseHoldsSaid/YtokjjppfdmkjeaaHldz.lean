import Derived.Test.YtokjjppfdmkjeaaArgC
import Derived.Test.YtokjjppfdmkjeaaHldp
/- What is given: slices of whole numbers, of booleans: how they read. -/
set_option linter.unusedVariables false
set_option linter.unusedSimpArgs false
namespace Go.Proofs.Ytokjjppfdmkjeaa.A
open Go.RowKit Go.Joins Go.ChangeShapes Go.WideShapes Go.Deep Go.Proofs.YtokjjppfdmkjeaaW.PrintWords Go.Proofs.YtokjjppfdmkjeaaW.PrintLast Go.Proofs.YtokjjppfdmkjeaaW.PrintMore
set_option maxRecDepth 100000
theorem i64_of_rows (rows : List (List Value)) (h : ∀ r ∈ rows, AllOk [.int .i64] r) : ∃ l : List Int, rows = l.map fun x => [Value.int .i64 x] := by
  induction rows with
  | nil => exact ⟨[], rfl⟩
  | cons r rows ih =>
    obtain ⟨l, rfl⟩ := ih (fun r hr => h r (List.mem_cons_of_mem _ hr))
    have hr := h r (List.mem_cons_self ..)
    match r, hr with
    | [], hr => exact hr.elim
    | [u], hr =>
      obtain ⟨⟨n, rfl, _⟩, _⟩ := hr
      exact ⟨n :: l, rfl⟩
    | _ :: _ :: _, hr => exact hr.2.elim
theorem bool_of_rows (rows : List (List Value)) (h : ∀ r ∈ rows, AllOk [.bool] r) : ∃ l : List Bool, rows = l.map fun x => [Value.bool x] := by
  induction rows with
  | nil => exact ⟨[], rfl⟩
  | cons r rows ih =>
    obtain ⟨l, rfl⟩ := ih (fun r hr => h r (List.mem_cons_of_mem _ hr))
    have hr := h r (List.mem_cons_self ..)
    match r, hr with
    | [], hr => exact hr.elim
    | [u], hr =>
      obtain ⟨⟨n, rfl⟩, _⟩ := hr
      exact ⟨n :: l, rfl⟩
    | _ :: _ :: _, hr => exact hr.2.elim
theorem scalar_C {α : Type} {enc : α → Value} {h1 : ∀ x, (enc x).oneCell' = true} {w : World} {A : Option Addr} {l : List α} (h : RowsAt w A 1 (l.map fun x => [enc x])) (hA : 0 < l.length → ∃ ad, A = some ad) (hm : l.length ≤ maxLen) : Kd.C (Kd.scalar enc h1) w A l.length l := by
  refine ⟨rfl, by simpa [maxLen] using hm, fun h0 => ?_⟩
  obtain ⟨ad, rfl⟩ := hA h0
  refine ⟨ad, rfl, fun j p hj => ⟨[enc p], rfl, rfl, fun i u hi => h ad rfl j [enc p] ?_ i u hi⟩⟩
  rw [List.getElem?_map, hj]
  rfl
section
variable {H : Type} {enc : TypeId × Value → H} {w : World} {base : Nat} {spare : Nat → Bool} {held : Bool}
theorem open_i64s {r : Reach} {b0 : Nat} {v : Value} {d : DataW H} {p : List MemPlace} (hv : Value.okWide Try.prog w r b0 44 v) (h : DataW.Trod enc Try.prog w base spare held 44 v d p) :
    ∃ (A : Option Addr) (l : List Int) (cc : Nat), v = .slice A l.length cc ∧ Kd.C (Kd.int .i64) w A l.length l ∧ l.length ≤ cc := by
  obtain ⟨A, len, cap, rfl⟩ := okWide_slice Try.underlying44 hv
  obtain ⟨rows, hl, hk, hr, hlc, hm, hA⟩ := open_rows (ks := [.int .i64]) Try.underlying44 (by kernel_rfl) (by kernel_rfl) h
  obtain ⟨l, rfl⟩ := i64_of_rows rows hk
  rw [List.length_map] at hl
  subst hl
  exact ⟨A, l, cap, rfl, scalar_C hr hA (by omega), hlc⟩
theorem open_bools {r : Reach} {b0 : Nat} {v : Value} {d : DataW H} {p : List MemPlace} (hv : Value.okWide Try.prog w r b0 43 v) (h : DataW.Trod enc Try.prog w base spare held 43 v d p) :
    ∃ (A : Option Addr) (l : List Bool) (cc : Nat), v = .slice A l.length cc ∧ Kd.C Kd.bool w A l.length l ∧ l.length ≤ cc := by
  obtain ⟨A, len, cap, rfl⟩ := okWide_slice Try.underlying43 hv
  obtain ⟨rows, hl, hk, hr, hlc, hm, hA⟩ := open_rows (ks := [.bool]) Try.underlying43 (by kernel_rfl) (by kernel_rfl) h
  obtain ⟨l, rfl⟩ := bool_of_rows rows hk
  rw [List.length_map] at hl
  subst hl
  exact ⟨A, l, cap, rfl, scalar_C hr hA (by omega), hlc⟩
end
end Go.Proofs.Ytokjjppfdmkjeaa.A

/- pulse: the law PulseHolds: every case. -/
set_option linter.unusedVariables false
set_option linter.unusedSimpArgs false
namespace Go.Proofs.Ytokjjppfdmkjeaa.A
open Go.RowKit Go.Proofs.YtokjjppfdmkjeaaW.PrintWords Go.Proofs.YtokjjppfdmkjeaaW.PrintLast Go.Proofs.YtokjjppfdmkjeaaW.PrintMore Go.Proofs.Ytokjjppfdmkjeaa.PPulseHolds
theorem hld_walk (c0 c1 c2 c3 c4 c5 c6 cap : Int) (A : Option Addr) (l : List Pfx) (cc : Nat) (CA : Option Addr) (ch : List Bool) (chc : Nat) (DA : Option Addr) (dr : List Int) (drc : Nat) {w : World} (hr : Kd.C k81 w A l.length l) (hc : l.length ≤ cc) (ha : AdrP l) (hch : Kd.C Kd.bool w CA ch.length ch) (hchc : ch.length ≤ chc) (hdr : Kd.C (Kd.int .i64) w DA dr.length dr) (hdrc : dr.length ≤ drc) : ∀ w1, w1 = w →
    Calls Try.prog 6 #[.agg #[.int .i64 c0, .int .i64 c1, .int .i64 c2, .int .i64 c3, .int .i64 c4, .int .i64 c5, .int .i64 c6, .int .i64 cap, .slice A l.length cc], .slice CA ch.length chc, .slice DA dr.length drc] w1 fun e w' => e = .returned (.bool true) ∧ Below w.heap.size w w' := by
  rintro _ rfl
  by_cases h0 : l.length ≤ 20
  · skip
    cases hn : rightN c0 c1 c2 c3 c4 c5 c6 cap l with
    | false => exact hld_out1 c0 c1 c2 c3 c4 c5 c6 cap A l cc CA ch chc DA dr drc _ hr hc ha h0 hn
    | true =>
      by_cases h2 : ch.length ≤ 120
      · skip
        by_cases h3 : dr.length ≤ 120
        · skip
          by_cases h4 : c0 ≤ 40
          · skip
            by_cases h5 : c1 ≤ 40
            · skip
              by_cases h6 : c5 ≤ 40
              · skip
                by_cases h7 : c6 ≤ 40
                · skip
                  exact hld_good c0 c1 c2 c3 c4 c5 c6 cap A l cc CA ch chc DA dr drc _ hr hc ha hch hchc hdr hdrc h0 hn h2 h3 h4 h5 h6 h7
                · exact hld_out7 c0 c1 c2 c3 c4 c5 c6 cap A l cc CA ch chc DA dr drc _ hr hc ha h0 h2 h3 h4 h5 h6 hn h7
              · exact hld_out6 c0 c1 c2 c3 c4 c5 c6 cap A l cc CA ch chc DA dr drc _ hr hc ha h0 h2 h3 h4 h5 hn h6
            · exact hld_out5 c0 c1 c2 c3 c4 c5 c6 cap A l cc CA ch chc DA dr drc _ hr hc ha h0 h2 h3 h4 hn h5
          · exact hld_out4 c0 c1 c2 c3 c4 c5 c6 cap A l cc CA ch chc DA dr drc _ hr hc ha h0 h2 h3 hn h4
        · exact hld_out3 c0 c1 c2 c3 c4 c5 c6 cap A l cc CA ch chc DA dr drc _ hr hc ha h0 h2 hn h3
      · exact hld_out2 c0 c1 c2 c3 c4 c5 c6 cap A l cc CA ch chc DA dr drc _ hr hc ha h0 hn h2
  · exact hld_out0 c0 c1 c2 c3 c4 c5 c6 cap A l cc CA ch chc DA dr drc _ hr hc ha  h0
end Go.Proofs.Ytokjjppfdmkjeaa.A
