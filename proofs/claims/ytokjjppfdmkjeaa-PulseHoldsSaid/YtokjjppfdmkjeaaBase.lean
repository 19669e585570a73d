/- Small lemmas used by the walks of this seat: rows of whole numbers that are made, read, cloned. No conditions. -/
import Derived.Test.YtokjjppfdmkjeaaProg
import Derived.Test.YtokjjppfdmkjeaaWMore
import Derived.Test.YtokjjppfdmkjeaaWNEv
import Derived.Test.YtokjjppfdmkjeaaWFootNe
import Derived.WalkSpells
import Derived.Lib.SliceRun
import Derived.Laws.BitsAllLaws
set_option linter.unusedVariables false
set_option linter.unusedSimpArgs false
namespace Go.Proofs.Ytokjjppfdmkjeaa.A
open Go.RowKit Go.Proofs.YtokjjppfdmkjeaaW.PrintWords Go.Proofs.YtokjjppfdmkjeaaW.PrintLast Go.Proofs.YtokjjppfdmkjeaaW.PrintMore

/-- a new block of plain cells reads as its list -/
theorem C_new (k : IntKind) (w : World) (l : List Int) (e : TypeId) (hl : l.length ≤ 9223372036854775807) :
    Kd.C (Kd.int k) (w.alloc (.cells (l.map (Value.int k)).toArray e)) (some ⟨w.heap.size, 0, none⟩) l.length l := by
  refine ⟨rfl, hl, fun _ => ⟨_, rfl, fun j p hj => ⟨[.int k p], rfl, rfl, fun i u hi => ?_⟩⟩⟩
  cases i with
  | succ i => simp at hi
  | zero =>
    obtain rfl : Value.int k p = u := by simpa using hi
    show (w.alloc _).cell? ((⟨w.heap.size, 0, none⟩ : Addr).add (j * 1 + 0)) = _
    rw [Nat.mul_one, Nat.add_zero, add_plain]
    rw [blk_cell (heap_alloc_new w _)]
    simp [hj]
/-- a slice literal of whole numbers is a row of the call's own -/
theorem R_lit0 (k : IntKind) (e : TypeId) (l : List Int) (w : World) (base : Nat) (hb : base ≤ w.heap.size) (hm : l.length ≤ maxLen) :
    Kd.R (Kd.int k) e (w.alloc (.cells (l.map (Value.int k)).toArray e)) base (fun _ => True) (.slice (some ⟨w.heap.size, 0, none⟩) l.length l.length) l := by
  refine Kd.R_of_own ?_ (fun _ _ => trivial)
  have := World.ownsRow_lit (base := base) (e := e) (size := 1) w (l.map (Value.int k)).toArray l.length hb hm (by simp)
  simpa [encs] using this
theorem eqnil (t e : TypeId) (h : Try.prog.underlying t = some (.slice e)) (A : Option Addr) (n c : Nat) (w : World) : (binOp .eql t (.slice A n c) (.slice none 0 0)).run Try.prog w = .ok (.bool A.isNone) w :=
  Lib.run_eql_slice_nil w t e A n c 0 0 h
theorem nil_of_none {α : Type} {d : Kd α} {w : World} {l : List α} {n : Nat} (h : d.C w none n l) : l = [] := by
  cases l with
  | nil => rfl
  | cons x l =>
    obtain ⟨h1, _, h⟩ := h
    obtain ⟨ad, h, _⟩ := h (by rw [← h1]; simp)
    simp at h
/-- a row of the call's own, its length under a name of its own -/
theorem R_any {α : Type} {d : Kd α} {e : Nat} {w : World} {base : Nat} {ok : Nat → Prop} {v : Value} {xs : List α} (h : d.R e w base ok v xs) :
    ∃ N A c, xs.length = N ∧ v = .slice A N c ∧ N ≤ c ∧ d.C w A xs.length xs ∧ d.R e w base ok (.slice A N c) xs := by
  obtain ⟨A, c, rfl⟩ := Kd.R_slice h
  obtain ⟨_, h1, h2⟩ := Kd.R_reads' h
  exact ⟨_, A, c, rfl, rfl, h1, h2, h⟩
theorem wrap_id {z : Int} (h0 : -9223372036854775808 ≤ z) (h1 : z < 9223372036854775808) : wrap64 z = z := by
  unfold wrap64
  omega
/-- the two newest blocks -/
theorem blk_two0 (w : World) (o o' : Obj) : ((w.alloc o).alloc o').heap[w.heap.size]? = some o := (Below.heap_alloc _ _ _ (by simp)).trans (blk_new w o)
theorem blk_two1 (w : World) (o o' : Obj) : ((w.alloc o).alloc o').heap[w.heap.size + 1]? = some o' := by
  have h := blk_new (w.alloc o) o'
  have e : (w.alloc o).heap.size = w.heap.size + 1 := by simp
  rw [e] at h
  exact h
theorem below_two (w : World) (o o' : Obj) : Below w.heap.size w ((w.alloc o).alloc o') := below_alloc (below_alloc (Below.refl _ _) _) _
end Go.Proofs.Ytokjjppfdmkjeaa.A
