/- What is given: numbers, bools, strings, structs of these, slices of such: how they read. -/
import Derived.Test.YtokjjppfdmkjeaaBase
import Derived.Deep.Slices
import Derived.Deep.Fields
import Derived.ChangeSame
import Derived.ChangeArms
import Derived.WideShapes
set_option linter.unusedVariables false
set_option linter.unusedSimpArgs false
namespace Go.Proofs.Ytokjjppfdmkjeaa.A
open Go.RowKit Go.ChangeShapes Go.WideShapes Go.Deep Go.Proofs.YtokjjppfdmkjeaaW.PrintWords Go.Proofs.YtokjjppfdmkjeaaW.PrintLast Go.Proofs.YtokjjppfdmkjeaaW.PrintMore

/-- a cell's kind -/
inductive CK where
  | int (k : IntKind)
  | bool
  | str
def CK.ok : CK → Value → Prop
  | .int k, v => ∃ n, v = .int k n ∧ (Lit.int k n).wf = true
  | .bool, v => ∃ b, v = .bool b
  | .str, v => ∃ s : ByteArray, v = .string s ∧ s.size ≤ maxLen
def AllOk : List CK → List Value → Prop
  | [], [] => True
  | k :: ks, v :: vs => k.ok v ∧ AllOk ks vs
  | _, _ => False
theorem AllOk.length : ∀ {ks : List CK} {vs : List Value}, AllOk ks vs → vs.length = ks.length
  | [], [], _ => rfl
  | _ :: _, _ :: _, h => by simp [AllOk.length h.2]
theorem AllOk.append : ∀ {ks ks' : List CK} {vs vs' : List Value}, AllOk ks vs → AllOk ks' vs' → AllOk (ks ++ ks') (vs ++ vs')
  | [], _, [], _, _, h => h
  | _ :: _, _, _ :: _, _, h, h' => ⟨h.1, AllOk.append h.2 h'⟩
theorem CK.one {k : CK} {v : Value} (h : k.ok v) : v.oneCell' = true := by
  cases k with
  | int k => obtain ⟨n, rfl, _⟩ := h; rfl
  | bool => obtain ⟨b, rfl⟩ := h; rfl
  | str => obtain ⟨s, rfl, _⟩ := h; rfl

def flatFields (F : TypeId → Option (List CK)) (C : TypeId → Nat) : List Field → Nat → Option (List CK)
  | [], _ => some []
  | f :: fs, off => if f.offset = off then
      match F f.type with
      | some a => if a.length = C f.type then
          match flatFields F C fs (off + C f.type) with
          | some b => some (a ++ b)
          | none => none
        else none
      | none => none
    else none
/-- the kinds of a type's cells, where it is made of numbers, bools and strings alone -/
def flatOf (P : Program) : Nat → TypeId → Option (List CK)
  | 0, _ => none
  | n + 1, t => match P.underlying t with
    | some (.int k) => some [.int k]
    | some .bool => some [.bool]
    | some .string => some [.str]
    | some (.struct fs) => match flatFields (flatOf P n) P.cellsOf fs.toList 0 with
      | some ks => if ks.length = P.cellsOf t then some ks else none
      | none => none
    | _ => none

section
variable {H : Type} {enc : TypeId × Value → H} {P : Program} {w : World} {base : Nat} {spare : Nat → Bool} {held : Bool}
theorem flatFields_ok {F : TypeId → Option (List CK)} {n : Nat}
    (hF : ∀ t ks cs x, F t = some ks → DataW.trod enc P w base spare held n t cs = some x → AllOk ks cs) (cs : List Value) (xs : List (DataW H × List MemPlace)) :
    ∀ (fs : List Field) (off j : Nat) (ks : List CK), flatFields F P.cellsOf fs off = some ks → off + ks.length = cs.length → j + fs.length = xs.length →
      (∀ (i : Nat) (f : Field), fs[i]? = some f → DataW.trod enc P w base spare held n f.type ((cs.drop f.offset).take (P.cellsOf f.type)) = xs[j + i]?) → AllOk ks (cs.drop off) := by
  intro fs
  induction fs with
  | nil =>
    intro off j ks h hl hx hf
    obtain rfl : [] = ks := by simpa [flatFields] using h
    rw [List.drop_eq_nil_of_le (by simp at hl; omega)]
    trivial
  | cons f fs ih =>
    intro off j ks h hl hx hf
    unfold flatFields at h
    by_cases h1 : f.offset = off
    · rw [if_pos h1] at h
      cases ha : F f.type with
      | none => rw [ha] at h; simp at h
      | some a =>
        rw [ha] at h
        by_cases h2 : a.length = P.cellsOf f.type
        · simp only [h2, if_true] at h
          cases hb : flatFields F P.cellsOf fs (off + P.cellsOf f.type) with
          | none => rw [hb] at h; simp at h
          | some b =>
            rw [hb] at h
            obtain rfl : a ++ b = ks := by simpa using h
            rw [List.length_append] at hl
            have h3 := hf 0 f rfl
            rw [h1, Nat.add_zero, List.getElem?_eq_getElem (by simp at hx; omega)] at h3
            have h4 := hF _ _ _ _ ha h3
            have h5 := ih (off + P.cellsOf f.type) (j + 1) b hb (by omega) (by simp at hx; omega) (fun i g hg => by
              have := hf (i + 1) g (by simpa using hg)
              rwa [show j + 1 + i = j + (i + 1) by omega])
            have h6 := AllOk.append h4 h5
            rw [← List.drop_drop, List.take_append_drop] at h6
            exact h6
        · simp [h2] at h
    · rw [if_neg h1] at h; cases h
theorem flatOf_ok : ∀ (n : Nat) (fuel : Nat) (t : TypeId) (ks : List CK) (cs : List Value) (x : DataW H × List MemPlace), flatOf P n t = some ks → DataW.trod enc P w base spare held fuel t cs = some x → AllOk ks cs := by
  intro n
  induction n with
  | zero => intro fuel t ks cs x h; cases h
  | succ n ih =>
    intro fuel t ks cs x h ht
    unfold flatOf at h
    split at h
    · rename_i k hu
      obtain rfl : [CK.int k] = ks := by simpa using h
      obtain ⟨m, rfl, _, hw⟩ := DataW.trod_int hu ht
      exact ⟨⟨m, rfl, hw⟩, trivial⟩
    · rename_i hu
      obtain rfl : [CK.bool] = ks := by simpa using h
      obtain ⟨b, rfl, _⟩ := DataW.trod_bool hu ht
      exact ⟨⟨b, rfl⟩, trivial⟩
    · rename_i hu
      obtain rfl : [CK.str] = ks := by simpa using h
      obtain ⟨s, rfl, _, hs⟩ := DataW.trod_string hu ht
      exact ⟨⟨s, rfl, hs⟩, trivial⟩
    · rename_i fs hu
      split at h
      · rename_i ks' hk
        split at h
        · rename_i hl
          obtain rfl : ks' = ks := by simpa using h
          obtain ⟨xs, m, _, _, hc, hx, hf⟩ := DataW.trod_struct hu ht
          have := flatFields_ok (F := flatOf P n) (n := m) (fun t ks cs x h1 h2 => ih m t ks cs x h1 h2) cs xs fs.toList 0 0 ks' hk (by omega) (by simp [hx]) (fun i f hi => by
            rw [Nat.zero_add]; exact hf i f (by simpa using hi))
          simpa using this
        · cases h
      · cases h
    · cases h

/-- rows of cells -/
def RowsAt (w : World) (A : Option Addr) (sz : Nat) (rows : List (List Value)) : Prop :=
  ∀ ad, A = some ad → ∀ i row, rows[i]? = some row → ∀ j v, row[j]? = some v → w.cell? (ad.add (i * sz + j)) = some v
theorem open_rows {t e : TypeId} {ks : List CK} (hu : P.underlying t = some (.slice e)) (hk : flatOf P 5 e = some ks) (hC : P.cellsOf e = ks.length) {A : Option Addr} {len cap : Nat} {d : DataW H} {ps : List MemPlace} (h : DataW.Trod enc P w base spare held t (.slice A len cap) d ps) :
    ∃ rows : List (List Value), rows.length = len ∧ (∀ r ∈ rows, AllOk ks r) ∧ RowsAt w A ks.length rows ∧ len ≤ cap ∧ cap ≤ maxLen ∧ (0 < len → ∃ ad, A = some ad) := by
  obtain ⟨fuel, hf⟩ := h
  rcases open_slice hu hf with ⟨h0, _⟩ | ⟨a, len', cap', m, n, D, Pl, hcs, hb, hl, hm, hmm, hx, hi⟩
  · simp [Value.cells] at h0
    obtain ⟨rfl, rfl, rfl⟩ := h0
    refine ⟨[], rfl, ?_, ?_, Nat.le_refl _, by unfold maxLen; omega, fun h => absurd h (Nat.lt_irrefl 0)⟩
    · intro r hr; cases hr
    · intro ad h; cases h
  · simp [Value.cells] at hcs
    obtain ⟨rfl, rfl, rfl⟩ := hcs
    have hle : len ≤ m := by rw [hmm]; split <;> omega
    obtain ⟨f, hfr⟩ := choose_lt (n := len) (p := fun i cs' => w.cells? base (a.add (i * P.cellsOf e)) (P.cellsOf e) = some cs' ∧ ∃ x, DataW.trod enc P w base spare held n e cs' = some x) (fun i hi' => by
      obtain ⟨cs', h1, h2⟩ := hi i (by omega)
      exact ⟨cs', h1, _, h2⟩)
    refine ⟨(List.range len).map f, by simp, ?_, ?_, hl, hm, fun _ => ⟨a, rfl⟩⟩
    · intro r hr
      obtain ⟨i, hi', rfl⟩ := List.mem_map.1 hr
      obtain ⟨_, x, hx⟩ := hfr i (List.mem_range.1 hi')
      exact flatOf_ok 5 n e ks _ x hk hx
    · rintro ad ⟨⟩ i row hrow j v hj
      have hlt : i < len := by
        have := (List.getElem?_eq_some_iff.1 hrow).1
        simpa using this
      obtain rfl : f i = row := by simpa [hlt] using hrow
      obtain ⟨h1, _⟩ := hfr i hlt
      obtain ⟨_, hcl, hat⟩ := World.cells?_some h1
      have hjl := (List.getElem?_eq_some_iff.1 hj).1
      have := hat j (by omega)
      rw [hC, Go.Deep.add_add] at this
      rw [this, hj]
end

/-- a kind whose values are so many plain cells -/
def flatK {α : Type} (n : Nat) (enc : α → List Value) (h1 : ∀ x, ∀ u ∈ enc x, u.oneCell' = true) (hn : ∀ x, (enc x).length = n) : Kd α where
  sz := n
  E := []
  K := fun _ x cs => cs = enc x
  M := fun _ _ _ x cs => cs = enc x
  K_len := fun h => by rw [h]; exact hn _
  K_one := fun h u hu => by rw [h] at hu; exact h1 _ u hu
  K_below := fun _ h => h
  K_of_M := fun h => h
  M_mono := fun _ h => h
  M_bound := fun h => h
  M_move := fun _ h => h
  M_lower := fun _ h => h
theorem flatK_C {α : Type} {n : Nat} {enc : α → List Value} {h1 : ∀ x, ∀ u ∈ enc x, u.oneCell' = true} {hn : ∀ x, (enc x).length = n} {w : World} {A : Option Addr} {len : Nat} (l : List α) (hl : l.length = len) (hm : len ≤ maxLen) (hA : 0 < len → ∃ ad, A = some ad)
    (h : RowsAt w A n (l.map enc)) : (flatK n enc h1 hn).C w A len l := by
  refine ⟨hl, by simpa [maxLen] using hm, fun h0 => ?_⟩
  obtain ⟨ad, rfl⟩ := hA h0
  refine ⟨ad, rfl, fun j p hj => ⟨enc p, hn p, rfl, fun i u hu => h ad rfl j (enc p) ?_ i u hu⟩⟩
  rw [List.getElem?_map, hj]
  rfl
theorem flatK_at {α : Type} {n : Nat} {enc : α → List Value} {h1 : ∀ x, ∀ u ∈ enc x, u.oneCell' = true} {hn : ∀ x, (enc x).length = n} {w : World} {A : Option Addr} {l : List α} {len : Nat} (h : (flatK n enc h1 hn).C w A len l) (i : Nat) (hi : i < l.length) :
    ∃ ad, A = some ad ∧ ∀ j u, (enc l[i])[j]? = some u → w.cell? (ad.add (i * n + j)) = some u := by
  obtain ⟨e, _, h⟩ := h
  obtain ⟨ad, hA, hc⟩ := h (by omega)
  obtain ⟨c, _, hk, hcell⟩ := hc i l[i] (List.getElem?_eq_getElem hi)
  obtain rfl : c = enc l[i] := hk
  exact ⟨ad, hA, hcell⟩
end Go.Proofs.Ytokjjppfdmkjeaa.A
