import Derived.Test.YtegdcalefpobeaaBase
import Derived.Deep.Slices
import Derived.Deep.Fields
import Derived.ChangeSame
import Derived.ChangeArms
import Derived.WideShapes
import Derived.Test.YtegdcalefpobeaaOwn1
import Derived.Lib.SmallJoins
/- What is given: numbers, bools, strings, structs of these, slices of such: how they read. -/
set_option linter.unusedVariables false
set_option linter.unusedSimpArgs false
namespace Go.Proofs.Ytegdcalefpobeaa.A
open Go.RowKit Go.ChangeShapes Go.WideShapes Go.Deep Go.Proofs.YtegdcalefpobeaaW.PrintWords Go.Proofs.YtegdcalefpobeaaW.PrintLast Go.Proofs.YtegdcalefpobeaaW.PrintMore

/-- a cell's kind -/
inductive CK where
  | int (k : IntKind)
  | bool
  | str
def CK.ok : CK → Value → Prop
  | .int k, v => ∃ n, v = .int k n ∧ (Lit.int k n).wf = true
  | .bool, v => ∃ b, v = .bool b
  | .str, v => ∃ s : ByteArray, v = .string s ∧ s.size ≤ maxLen
def AllOk : List CK → List Value → Prop
  | [], [] => True
  | k :: ks, v :: vs => k.ok v ∧ AllOk ks vs
  | _, _ => False
theorem AllOk.length : ∀ {ks : List CK} {vs : List Value}, AllOk ks vs → vs.length = ks.length
  | [], [], _ => rfl
  | _ :: _, _ :: _, h => by simp [AllOk.length h.2]
theorem AllOk.append : ∀ {ks ks' : List CK} {vs vs' : List Value}, AllOk ks vs → AllOk ks' vs' → AllOk (ks ++ ks') (vs ++ vs')
  | [], _, [], _, _, h => h
  | _ :: _, _, _ :: _, _, h, h' => ⟨h.1, AllOk.append h.2 h'⟩
theorem CK.one {k : CK} {v : Value} (h : k.ok v) : v.oneCell' = true := by
  cases k with
  | int k => obtain ⟨n, rfl, _⟩ := h; rfl
  | bool => obtain ⟨b, rfl⟩ := h; rfl
  | str => obtain ⟨s, rfl, _⟩ := h; rfl

def flatFields (F : TypeId → Option (List CK)) (C : TypeId → Nat) : List Field → Nat → Option (List CK)
  | [], _ => some []
  | f :: fs, off => if f.offset = off then
      match F f.type with
      | some a => if a.length = C f.type then
          match flatFields F C fs (off + C f.type) with
          | some b => some (a ++ b)
          | none => none
        else none
      | none => none
    else none
/-- the kinds of a type's cells, where it is made of numbers, bools and strings alone -/
def flatOf (P : Program) : Nat → TypeId → Option (List CK)
  | 0, _ => none
  | n + 1, t => match P.underlying t with
    | some (.int k) => some [.int k]
    | some .bool => some [.bool]
    | some .string => some [.str]
    | some (.struct fs) => match flatFields (flatOf P n) P.cellsOf fs.toList 0 with
      | some ks => if ks.length = P.cellsOf t then some ks else none
      | none => none
    | _ => none

section
variable {H : Type} {enc : TypeId × Value → H} {P : Program} {w : World} {base : Nat} {spare : Nat → Bool} {held : Bool}
theorem flatFields_ok {F : TypeId → Option (List CK)} {n : Nat}
    (hF : ∀ t ks cs x, F t = some ks → DataW.trod enc P w base spare held n t cs = some x → AllOk ks cs) (cs : List Value) (xs : List (DataW H × List MemPlace)) :
    ∀ (fs : List Field) (off j : Nat) (ks : List CK), flatFields F P.cellsOf fs off = some ks → off + ks.length = cs.length → j + fs.length = xs.length →
      (∀ (i : Nat) (f : Field), fs[i]? = some f → DataW.trod enc P w base spare held n f.type ((cs.drop f.offset).take (P.cellsOf f.type)) = xs[j + i]?) → AllOk ks (cs.drop off) := by
  intro fs
  induction fs with
  | nil =>
    intro off j ks h hl hx hf
    obtain rfl : [] = ks := by simpa [flatFields] using h
    rw [List.drop_eq_nil_of_le (by simp at hl; omega)]
    trivial
  | cons f fs ih =>
    intro off j ks h hl hx hf
    unfold flatFields at h
    by_cases h1 : f.offset = off
    · rw [if_pos h1] at h
      cases ha : F f.type with
      | none => rw [ha] at h; simp at h
      | some a =>
        rw [ha] at h
        by_cases h2 : a.length = P.cellsOf f.type
        · simp only [h2, if_true] at h
          cases hb : flatFields F P.cellsOf fs (off + P.cellsOf f.type) with
          | none => rw [hb] at h; simp at h
          | some b =>
            rw [hb] at h
            obtain rfl : a ++ b = ks := by simpa using h
            rw [List.length_append] at hl
            have h3 := hf 0 f rfl
            rw [h1, Nat.add_zero, List.getElem?_eq_getElem (by simp at hx; omega)] at h3
            have h4 := hF _ _ _ _ ha h3
            have h5 := ih (off + P.cellsOf f.type) (j + 1) b hb (by omega) (by simp at hx; omega) (fun i g hg => by
              have := hf (i + 1) g (by simpa using hg)
              rwa [show j + 1 + i = j + (i + 1) by omega])
            have h6 := AllOk.append h4 h5
            rw [← List.drop_drop, List.take_append_drop] at h6
            exact h6
        · simp [h2] at h
    · rw [if_neg h1] at h; cases h
theorem flatOf_ok : ∀ (n : Nat) (fuel : Nat) (t : TypeId) (ks : List CK) (cs : List Value) (x : DataW H × List MemPlace), flatOf P n t = some ks → DataW.trod enc P w base spare held fuel t cs = some x → AllOk ks cs := by
  intro n
  induction n with
  | zero => intro fuel t ks cs x h; cases h
  | succ n ih =>
    intro fuel t ks cs x h ht
    unfold flatOf at h
    split at h
    · rename_i k hu
      obtain rfl : [CK.int k] = ks := by simpa using h
      obtain ⟨m, rfl, _, hw⟩ := DataW.trod_int hu ht
      exact ⟨⟨m, rfl, hw⟩, trivial⟩
    · rename_i hu
      obtain rfl : [CK.bool] = ks := by simpa using h
      obtain ⟨b, rfl, _⟩ := DataW.trod_bool hu ht
      exact ⟨⟨b, rfl⟩, trivial⟩
    · rename_i hu
      obtain rfl : [CK.str] = ks := by simpa using h
      obtain ⟨s, rfl, _, hs⟩ := DataW.trod_string hu ht
      exact ⟨⟨s, rfl, hs⟩, trivial⟩
    · rename_i fs hu
      split at h
      · rename_i ks' hk
        split at h
        · rename_i hl
          obtain rfl : ks' = ks := by simpa using h
          obtain ⟨xs, m, _, _, hc, hx, hf⟩ := DataW.trod_struct hu ht
          have := flatFields_ok (F := flatOf P n) (n := m) (fun t ks cs x h1 h2 => ih m t ks cs x h1 h2) cs xs fs.toList 0 0 ks' hk (by omega) (by simp [hx]) (fun i f hi => by
            rw [Nat.zero_add]; exact hf i f (by simpa using hi))
          simpa using this
        · cases h
      · cases h
    · cases h

/-- rows of cells -/
def RowsAt (w : World) (A : Option Addr) (sz : Nat) (rows : List (List Value)) : Prop :=
  ∀ ad, A = some ad → ∀ i row, rows[i]? = some row → ∀ j v, row[j]? = some v → w.cell? (ad.add (i * sz + j)) = some v
theorem open_rows {t e : TypeId} {ks : List CK} (hu : P.underlying t = some (.slice e)) (hk : flatOf P 5 e = some ks) (hC : P.cellsOf e = ks.length) {A : Option Addr} {len cap : Nat} {d : DataW H} {ps : List MemPlace} (h : DataW.Trod enc P w base spare held t (.slice A len cap) d ps) :
    ∃ rows : List (List Value), rows.length = len ∧ (∀ r ∈ rows, AllOk ks r) ∧ RowsAt w A ks.length rows ∧ len ≤ cap ∧ cap ≤ maxLen ∧ (0 < len → ∃ ad, A = some ad) := by
  obtain ⟨fuel, hf⟩ := h
  rcases open_slice hu hf with ⟨h0, _⟩ | ⟨a, len', cap', m, n, D, Pl, hcs, hb, hl, hm, hmm, hx, hi⟩
  · simp [Value.cells] at h0
    obtain ⟨rfl, rfl, rfl⟩ := h0
    refine ⟨[], rfl, ?_, ?_, Nat.le_refl _, by unfold maxLen; omega, fun h => absurd h (Nat.lt_irrefl 0)⟩
    · intro r hr; cases hr
    · intro ad h; cases h
  · simp [Value.cells] at hcs
    obtain ⟨rfl, rfl, rfl⟩ := hcs
    have hle : len ≤ m := by rw [hmm]; split <;> omega
    obtain ⟨f, hfr⟩ := choose_lt (n := len) (p := fun i cs' => w.cells? base (a.add (i * P.cellsOf e)) (P.cellsOf e) = some cs' ∧ ∃ x, DataW.trod enc P w base spare held n e cs' = some x) (fun i hi' => by
      obtain ⟨cs', h1, h2⟩ := hi i (by omega)
      exact ⟨cs', h1, _, h2⟩)
    refine ⟨(List.range len).map f, by simp, ?_, ?_, hl, hm, fun _ => ⟨a, rfl⟩⟩
    · intro r hr
      obtain ⟨i, hi', rfl⟩ := List.mem_map.1 hr
      obtain ⟨_, x, hx⟩ := hfr i (List.mem_range.1 hi')
      exact flatOf_ok 5 n e ks _ x hk hx
    · rintro ad ⟨⟩ i row hrow j v hj
      have hlt : i < len := by
        have := (List.getElem?_eq_some_iff.1 hrow).1
        simpa using this
      obtain rfl : f i = row := by simpa [hlt] using hrow
      obtain ⟨h1, _⟩ := hfr i hlt
      obtain ⟨_, hcl, hat⟩ := World.cells?_some h1
      have hjl := (List.getElem?_eq_some_iff.1 hj).1
      have := hat j (by omega)
      rw [hC, Go.Deep.add_add] at this
      rw [this, hj]
end

/-- a kind whose values are so many plain cells -/
def flatK {α : Type} (n : Nat) (enc : α → List Value) (h1 : ∀ x, ∀ u ∈ enc x, u.oneCell' = true) (hn : ∀ x, (enc x).length = n) : Kd α where
  sz := n
  E := []
  K := fun _ x cs => cs = enc x
  M := fun _ _ _ x cs => cs = enc x
  K_len := fun h => by rw [h]; exact hn _
  K_one := fun h u hu => by rw [h] at hu; exact h1 _ u hu
  K_below := fun _ h => h
  K_of_M := fun h => h
  M_mono := fun _ h => h
  M_bound := fun h => h
  M_move := fun _ h => h
  M_lower := fun _ h => h
theorem flatK_C {α : Type} {n : Nat} {enc : α → List Value} {h1 : ∀ x, ∀ u ∈ enc x, u.oneCell' = true} {hn : ∀ x, (enc x).length = n} {w : World} {A : Option Addr} {len : Nat} (l : List α) (hl : l.length = len) (hm : len ≤ maxLen) (hA : 0 < len → ∃ ad, A = some ad)
    (h : RowsAt w A n (l.map enc)) : (flatK n enc h1 hn).C w A len l := by
  refine ⟨hl, by simpa [maxLen] using hm, fun h0 => ?_⟩
  obtain ⟨ad, rfl⟩ := hA h0
  refine ⟨ad, rfl, fun j p hj => ⟨enc p, hn p, rfl, fun i u hu => h ad rfl j (enc p) ?_ i u hu⟩⟩
  rw [List.getElem?_map, hj]
  rfl
theorem flatK_at {α : Type} {n : Nat} {enc : α → List Value} {h1 : ∀ x, ∀ u ∈ enc x, u.oneCell' = true} {hn : ∀ x, (enc x).length = n} {w : World} {A : Option Addr} {l : List α} {len : Nat} (h : (flatK n enc h1 hn).C w A len l) (i : Nat) (hi : i < l.length) :
    ∃ ad, A = some ad ∧ ∀ j u, (enc l[i])[j]? = some u → w.cell? (ad.add (i * n + j)) = some u := by
  obtain ⟨e, _, h⟩ := h
  obtain ⟨ad, hA, hc⟩ := h (by omega)
  obtain ⟨c, _, hk, hcell⟩ := hc i l[i] (List.getElem?_eq_getElem hi)
  obtain rfl : c = enc l[i] := hk
  exact ⟨ad, hA, hcell⟩
end Go.Proofs.Ytegdcalefpobeaa.A

/- What is given: a configuration, a prefix: how they read. -/
set_option linter.unusedVariables false
set_option linter.unusedSimpArgs false
namespace Go.Proofs.Ytegdcalefpobeaa.A
open Go.RowKit Go.Joins Go.ChangeShapes Go.WideShapes Go.Deep Go.Proofs.YtegdcalefpobeaaW.PrintWords Go.Proofs.YtegdcalefpobeaaW.PrintLast Go.Proofs.YtegdcalefpobeaaW.PrintMore Go.Proofs.Ytegdcalefpobeaa.PConfigChecks
set_option maxRecDepth 100000

section
variable {H : Type} {enc : TypeId × Value → H} {P : Program} {w : World} {base : Nat} {spare : Nat → Bool} {held : Bool}
/-- a struct of cells, by value -/
theorem open_agg_any {r : Reach} {b0 : Nat} {t : TypeId} {fs : Array Field} {v : Value} {d : DataW H} {p : List MemPlace} (hs : P.underlying t = some (.struct fs)) (hone : oneCellFields P fs = true) (hC : P.cellsOf t = fs.size)
    (hv : Value.okWide P w r b0 t v) (h : DataW.Trod enc P w base spare held t v d p) :
    ∃ cs : List Value, v = .agg cs.toArray ∧ cs.length = fs.size ∧ ∀ (j : Nat) (f : Field), fs[j]? = some f → ∃ u x n, cs[j]? = some u ∧ DataW.trod enc P w base spare held n f.type [u] = some x := by
  obtain ⟨cs, rfl, hsz⟩ := okWide_struct hs hv
  obtain ⟨l⟩ := cs
  have hl : l.length = fs.size := hsz.trans hC
  obtain ⟨fuel, hf⟩ := h
  obtain ⟨xs, n, _, hx, _, hlen, hg⟩ := DataW.trod_struct hs hf
  refine ⟨l, rfl, hl, fun j f hj => ?_⟩
  have hjl : j < fs.size := (Array.getElem?_eq_some_iff.1 hj).1
  obtain ⟨o0, k0⟩ := hone_of hone j f hj
  have h1 := hg j f hj
  rw [o0, k0] at h1
  have h2 : (Value.agg ⟨l⟩).cells.toList = l := rfl
  have h3 : ((l.drop j).take 1) = [l[j]'(by omega)] := by
    rw [List.drop_eq_getElem_cons (by omega)]
    rfl
  have h4 : DataW.trod enc P w base spare held n f.type ((l.drop j).take 1) = xs[j]? := h1
  rw [h3, List.getElem?_eq_getElem (by omega)] at h4
  exact ⟨_, _, _, List.getElem?_eq_getElem (by omega), h4⟩
theorem trod_int1 {t : TypeId} {k : IntKind} (hu : P.underlying t = some (.int k)) {n : Nat} {u : Value} {x : DataW H × List MemPlace} (h : DataW.trod enc P w base spare held n t [u] = some x) : ∃ m, u = .int k m ∧ (Lit.int k m).wf = true := by
  obtain ⟨m, hm, _, hw⟩ := DataW.trod_int hu h
  exact ⟨m, by simpa using hm, hw⟩
theorem trod_bool1 {t : TypeId} (hu : P.underlying t = some .bool) {n : Nat} {u : Value} {x : DataW H × List MemPlace} (h : DataW.trod enc P w base spare held n t [u] = some x) : ∃ b, u = .bool b := by
  obtain ⟨b, hb, _⟩ := DataW.trod_bool hu h
  exact ⟨b, by simpa using hb⟩
theorem trod_slice1 {t e : TypeId} (hu : P.underlying t = some (.slice e)) {n : Nat} {u : Value} {x : DataW H × List MemPlace} (h : DataW.trod enc P w base spare held n t [u] = some x) : ∃ A len cap, u = .slice A len cap ∧ DataW.Trod enc P w base spare held t (.slice A len cap) x.1 x.2 := by
  rcases open_slice hu h with ⟨h0, _⟩ | ⟨a, len, cap, m, n', D, Pl, hcs, _⟩
  · obtain rfl : u = .slice none 0 0 := by simpa using h0
    exact ⟨none, 0, 0, rfl, n, h⟩
  · obtain rfl : u = .slice (some a) len cap := by simpa using hcs
    exact ⟨some a, len, cap, rfl, n, h⟩
end
theorem u32_wf {n : Int} (h : (Lit.int .u32 n).wf = true) : Adr n := by
  simp only [Lit.wf, Bool.and_eq_true, decide_eq_true_eq] at h
  have h1 : IntKind.u32.min = 0 := rfl
  have h2 : IntKind.u32.max = 4294967295 := rfl
  rw [h1, h2] at h
  unfold Adr
  omega
def encP (p : Pfx) : List Value := [.int .u32 p.f0, .int .i64 p.f1]
theorem row_pfx (r : List Value) (h : AllOk [.int .u32, .int .i64] r) : ∃ p : Pfx, r = encP p ∧ Adr p.f0 := by
  cases r with
  | nil => exact h.elim
  | cons u0 r =>
    cases r with
    | nil => exact h.2.elim
    | cons u1 r =>
      cases r with
      | nil =>
        obtain ⟨⟨a, rfl, hw⟩, ⟨n, rfl, _⟩, _⟩ := h
        exact ⟨⟨a, n⟩, rfl, u32_wf hw⟩
      | cons _ _ => exact h.2.2.elim
theorem pfx_of_rows (rows : List (List Value)) (h : ∀ r ∈ rows, AllOk [.int .u32, .int .i64] r) : ∃ l : List Pfx, rows = l.map encP ∧ AdrP l := by
  induction rows with
  | nil => exact ⟨[], rfl, fun x hx => by cases hx⟩
  | cons r rows ih =>
    obtain ⟨l, rfl, ha⟩ := ih (fun r hr => h r (List.mem_cons_of_mem _ hr))
    obtain ⟨p, rfl, hp⟩ := row_pfx r (h r (List.mem_cons_self ..))
    refine ⟨p :: l, rfl, fun x hx => ?_⟩
    rcases List.mem_cons.1 hx with rfl | hx
    · exact hp
    · exact ha x hx
theorem C_of_rows {w : World} {A : Option Addr} {l : List Pfx} (h : RowsAt w A 2 (l.map encP)) (hA : 0 < l.length → ∃ ad, A = some ad) (hm : l.length ≤ maxLen) : Kd.C k28 w A l.length l := by
  refine ⟨rfl, by simpa [maxLen] using hm, fun h0 => ?_⟩
  obtain ⟨ad, rfl⟩ := hA h0
  refine ⟨ad, rfl, fun j p hj => ⟨encP p, rfl, k28_mk _ _, fun i u hi => h ad rfl j (encP p) ?_ i u hi⟩⟩
  rw [List.getElem?_map, hj]
  rfl
section
variable {H : Type} {enc : TypeId × Value → H} {w : World} {base : Nat} {spare : Nat → Bool} {held : Bool}
theorem open_pfxs {A : Option Addr} {len cap : Nat} {d : DataW H} {ps : List MemPlace} (h : DataW.Trod enc Try.prog w base spare held 22 (.slice A len cap) d ps) :
    ∃ l : List Pfx, l.length = len ∧ Kd.C k28 w A l.length l ∧ l.length ≤ cap ∧ AdrP l := by
  obtain ⟨rows, hl, hk, hr, hlc, hm, hA⟩ := open_rows (ks := [.int .u32, .int .i64]) Try.underlying22 (by kernel_rfl) (by kernel_rfl) h
  obtain ⟨l, rfl, ha⟩ := pfx_of_rows rows hk
  rw [List.length_map] at hl
  exact ⟨l, hl, C_of_rows hr (fun h0 => hA (by omega)) (by omega), by omega, ha⟩
theorem open_pfx {r : Reach} {b0 : Nat} {v : Value} {d : DataW H} {p : List MemPlace} (hv : Value.okWide Try.prog w r b0 28 v) (h : DataW.Trod enc Try.prog w base spare held 28 v d p) :
    ∃ a n : Int, v = .agg #[.int .u32 a, .int .i64 n] ∧ Adr a := by
  obtain ⟨cs, rfl, hl, hf⟩ := open_agg_any Try.underlying28 (by kernel_rfl) (by kernel_rfl) hv h
  match cs, hl with
  | [u0, u1], _ =>
    obtain ⟨v0, x0, n0, e0, t0⟩ := hf 0 _ rfl
    obtain ⟨v1, x1, n1, e1, t1⟩ := hf 1 _ rfl
    obtain rfl : u0 = v0 := by simpa using e0
    obtain rfl : u1 = v1 := by simpa using e1
    obtain ⟨a, rfl, hw⟩ := trod_int1 (by kernel_rfl : Try.prog.underlying 26 = some (.int .u32)) t0
    obtain ⟨n, rfl, _⟩ := trod_int1 (by kernel_rfl : Try.prog.underlying 3 = some (.int .i64)) t1
    exact ⟨a, n, rfl, u32_wf hw⟩
theorem open_cfg {r : Reach} {b0 : Nat} {v : Value} {d : DataW H} {p : List MemPlace} (hv : Value.okWide Try.prog w r b0 24 v) (h : DataW.Trod enc Try.prog w base spare held 24 v d p) :
    ∃ (c0 c1 c2 c3 c4 c5 c6 cap : Int) (A : Option Addr) (l : List Pfx) (cc : Nat), v = .agg #[.int .i64 c0, .int .i64 c1, .int .i64 c2, .int .i64 c3, .int .i64 c4, .int .i64 c5, .int .i64 c6, .int .i64 cap, .slice A l.length cc] ∧
      Kd.C k28 w A l.length l ∧ l.length ≤ cc ∧ AdrP l := by
  obtain ⟨cs, rfl, hl, hf⟩ := open_agg_any Try.underlying24 (by kernel_rfl) (by kernel_rfl) hv h
  match cs, hl with
  | [u0, u1, u2, u3, u4, u5, u6, u7, u8], _ =>
    obtain ⟨v0, x0, n0, e0, t0⟩ := hf 0 _ rfl
    obtain rfl : u0 = v0 := by simpa using e0
    obtain ⟨v1, x1, n1, e1, t1⟩ := hf 1 _ rfl
    obtain rfl : u1 = v1 := by simpa using e1
    obtain ⟨v2, x2, n2, e2, t2⟩ := hf 2 _ rfl
    obtain rfl : u2 = v2 := by simpa using e2
    obtain ⟨v3, x3, n3, e3, t3⟩ := hf 3 _ rfl
    obtain rfl : u3 = v3 := by simpa using e3
    obtain ⟨v4, x4, n4, e4, t4⟩ := hf 4 _ rfl
    obtain rfl : u4 = v4 := by simpa using e4
    obtain ⟨v5, x5, n5, e5, t5⟩ := hf 5 _ rfl
    obtain rfl : u5 = v5 := by simpa using e5
    obtain ⟨v6, x6, n6, e6, t6⟩ := hf 6 _ rfl
    obtain rfl : u6 = v6 := by simpa using e6
    obtain ⟨v7, x7, n7, e7, t7⟩ := hf 7 _ rfl
    obtain rfl : u7 = v7 := by simpa using e7
    obtain ⟨v8, x8, n8, e8, t8⟩ := hf 8 _ rfl
    obtain rfl : u8 = v8 := by simpa using e8
    obtain ⟨c0, rfl, _⟩ := trod_int1 (by kernel_rfl : Try.prog.underlying 2 = some (.int .i64)) t0
    obtain ⟨c1, rfl, _⟩ := trod_int1 (by kernel_rfl : Try.prog.underlying 2 = some (.int .i64)) t1
    obtain ⟨c2, rfl, _⟩ := trod_int1 (by kernel_rfl : Try.prog.underlying 2 = some (.int .i64)) t2
    obtain ⟨c3, rfl, _⟩ := trod_int1 (by kernel_rfl : Try.prog.underlying 2 = some (.int .i64)) t3
    obtain ⟨c4, rfl, _⟩ := trod_int1 (by kernel_rfl : Try.prog.underlying 2 = some (.int .i64)) t4
    obtain ⟨c5, rfl, _⟩ := trod_int1 (by kernel_rfl : Try.prog.underlying 2 = some (.int .i64)) t5
    obtain ⟨c6, rfl, _⟩ := trod_int1 (by kernel_rfl : Try.prog.underlying 2 = some (.int .i64)) t6
    obtain ⟨c7, rfl, _⟩ := trod_int1 (by kernel_rfl : Try.prog.underlying 3 = some (.int .i64)) t7
    obtain ⟨A, len, cc, rfl, hT⟩ := trod_slice1 Try.underlying22 t8
    obtain ⟨l, rfl, hC, hc, ha⟩ := open_pfxs hT
    exact ⟨c0, c1, c2, c3, c4, c5, c6, c7, A, l, cc, rfl, hC, hc, ha⟩
end
end Go.Proofs.Ytegdcalefpobeaa.A
