/- octet: a reader. -/
import Derived.Test.YtheocodbceidlaaOct3
import Derived.StillTailTactics
set_option linter.unusedVariables false
set_option linter.unusedSimpArgs false
namespace Go.Proofs.Ytheocodbceidlaa.A
open Go.RowKit Go.Proofs.YtheocodbceidlaaW.PrintWords Go.Proofs.YtheocodbceidlaaW.PrintLast Go.Proofs.YtheocodbceidlaaW.PrintMore Go.Proofs.Ytheocodbceidlaa.POctetPuts

/-- a reader at block g: its bytes, its place -/
structure Rdr (w : World) (base g : Nat) (A : Option Addr) (c : Nat) (l : List Int) (p : Int) : Prop where
  blk : w.heap[g]? = some (.cells #[.slice A l.length c, .int .i64 p] 65 (0, 0))
  row : Kd.R (Kd.int .u8) 5 w base (fun k => k ≠ g) (.slice A l.length c) l
  hg : base ≤ g
  lim : l.length ≤ 140737488355328

theorem Rdr.below {w w1 : World} {base g : Nat} {A : Option Addr} {c : Nat} {l : List Int} {p : Int} (h : Rdr w base g A c l p) (hb : Below w.heap.size w w1) : Rdr w1 base g A c l p :=
  ⟨(hb.block _ (blk_lt h.blk)).trans h.blk, Kd.R_below h.row hb, h.hg, h.lim⟩

theorem clone_sl (A : Option Addr) (l : List Int) (c : Nat) (w : World) (hr : Kd.C (Kd.int .u8) w A l.length l) (hc : l.length ≤ c) (hm : l.length ≤ 140737488355328) :
    Calls Try.prog 25 #[.slice A l.length c] w fun e w' => ∃ B d, e = .returned (.slice B l.length d) ∧ Kd.R (Kd.int .u8) 5 w' w.heap.size (fun _ => True) (.slice B l.length d) l ∧ Below w.heap.size w w' :=
  (clone_any A l c w hr hc hm).mono fun _ _ ⟨v, he, hR, hB⟩ => by
    obtain ⟨B, d, rfl⟩ := Kd.R_slice hR
    exact ⟨B, d, he, hR, hB⟩
theorem cloneb_at (A : Option Addr) (m : List Int) (x c : Nat) (hx : m.length = x) (hxc : x ≤ c) (hm : x ≤ 140737488355328) (w : World) (hr : Kd.C (Kd.int .u8) w A m.length m) :
    Calls Try.prog 28 #[.slice A x c] w fun e w' => ∃ B d, e = .returned (.slice B x d) ∧ Kd.R (Kd.int .u8) 5 w' w.heap.size (fun _ => True) (.slice B x d) m ∧ Below w.heap.size w w' := by
  subst hx
  exact (cloneb_any A m c w hr hxc hm).mono fun _ _ ⟨v, he, hR, hB⟩ => by
    obtain ⟨B, d, rfl⟩ := Kd.R_slice hR
    exact ⟨B, d, he, hR, hB⟩
theorem new_any (A : Option Addr) (l : List Int) (c : Nat) (w : World) (hr : Kd.C (Kd.int .u8) w A l.length l) (hc : l.length ≤ c) (hm : l.length ≤ 140737488355328) :
    Calls Try.prog 14 #[.slice A l.length c] w fun e w' => ∃ g B d, e = .returned (.pointer (some ⟨g, 0, none⟩)) ∧ Rdr w' w.heap.size g B d l 0 ∧ Below w.heap.size w w' := by
  have HR := Aside0.mk hr
  have HM := Aside0.mk hm
  clear hr hm
  go_enter Try.func14, Try.ntmps14
  go_wp2_with (first | (go_at_call 25; go_loud (refine (clone_sl A l c _ (by first | exact HR.out | exact Kd.C_alloc HR.out _) hc HM.out).mono ?_); rintro e w1 ⟨B, d, rfl, hR, hB⟩))
  go_ret
  refine ⟨_, B, d, rfl, ⟨blk_new _ _, Kd.R_alloc (Kd.R_mono (Kd.R_bound hR) (fun k hk => by have := hk.2.2.1; omega)) _, hB.size, HM.out⟩, below_alloc hB _⟩

theorem left_nil (w : World) : Calls Try.prog 16 #[.pointer none] w fun e w' => e = .returned (.int .i64 0) ∧ Drawn0 w w' := by
  go_enter Try.func16, Try.ntmps16
  go_wp2
  go_ret
  exact ⟨rfl, Drawn0.refl _⟩
theorem at_nil (w : World) : Calls Try.prog 21 #[.pointer none] w fun e w' => e = .returned (.int .i64 0) ∧ Drawn0 w w' := by
  go_enter Try.func21, Try.ntmps21
  go_wp2
  go_ret
  exact ⟨rfl, Drawn0.refl _⟩
theorem rest_nil (w : World) : Calls Try.prog 20 #[.pointer none] w fun e w' => e = .returned (.slice none 0 0) ∧ Drawn0 w w' := by
  go_enter Try.func20, Try.ntmps20
  go_wp2
  go_ret
  exact ⟨rfl, Drawn0.refl _⟩
theorem skip_nil (n : Int) (w : World) : Calls Try.prog 19 #[.pointer none, .int .i64 n] w fun e w' => e = .returned (.int .i64 1) ∧ Drawn0 w w' := by
  go_enter Try.func19, Try.ntmps19
  go_wp2
  go_ret
  exact ⟨rfl, Drawn0.refl _⟩
theorem take_nil (n : Int) (w : World) : Calls Try.prog 15 #[.pointer none, .int .i64 n] w fun e w' => e = .returned (.tuple #[.int .u32 0, .int .i64 1]) ∧ Drawn0 w w' := by
  go_enter Try.func15, Try.ntmps15
  go_wp2
  go_ret2
  exact ⟨rfl, Drawn0.refl _⟩

theorem rdr_cells (g : Nat) (A : Option Addr) (n c : Nat) (p : Nat) (w : World) (h : w.heap[g]? = some (.cells #[.slice A n c, .int .i64 p] 65 (0, 0))) : w.cell? ⟨g, 0, none⟩ = some (.slice A n c) ∧ w.cell? ⟨g, 1, none⟩ = some (.int .i64 p) ∧ w.frozen? ⟨g, 1, none⟩ = false :=
  ⟨by rw [blk_cell h]; rfl, by rw [blk_cell h]; rfl, blk_frozen h 1⟩
theorem at_any (g : Nat) (A : Option Addr) (n c : Nat) (p : Nat) (w : World) (h : w.heap[g]? = some (.cells #[.slice A n c, .int .i64 p] 65 (0, 0))) : Calls Try.prog 21 #[.pointer (some ⟨g, 0, none⟩)] w fun e w' => e = .returned (.int .i64 p) ∧ Drawn0 w w' := by
  obtain ⟨c0, c1, _⟩ := rdr_cells g A n c p w h
  clear h
  go_enter Try.func21, Try.ntmps21
  go_wp2
  go_ret
  exact ⟨rfl, Drawn0.refl _⟩
theorem left_any (g : Nat) (A : Option Addr) (n c : Nat) (p : Nat) (w : World) (h : w.heap[g]? = some (.cells #[.slice A n c, .int .i64 p] 65 (0, 0))) (hn : n ≤ 140737488355328) (hp : p ≤ n) : Calls Try.prog 16 #[.pointer (some ⟨g, 0, none⟩)] w fun e w' => e = .returned (.int .i64 ((n : Int) - p)) ∧ Drawn0 w w' := by
  obtain ⟨c0, c1, _⟩ := rdr_cells g A n c p w h
  clear h
  go_enter Try.func16, Try.ntmps16
  go_wp2
  go_quiet (fail)
  go_wp2
  go_ret
  exact ⟨rfl, ⟨nq, rfl⟩⟩
theorem skip_neg (g : Nat) (A : Option Addr) (n c : Nat) (p : Nat) (w : World) (h : w.heap[g]? = some (.cells #[.slice A n c, .int .i64 p] 65 (0, 0))) (hn : n ≤ 140737488355328) (hp : p ≤ n) (x : Int) (hx : x < 0) : Calls Try.prog 19 #[.pointer (some ⟨g, 0, none⟩), .int .i64 x] w fun e w' => e = .returned (.int .i64 4) ∧ Drawn0 w w' := by
  clear h
  go_enter Try.func19, Try.ntmps19
  go_wp2
  go_ret
  exact ⟨rfl, Drawn0.refl _⟩
theorem skip_far (g : Nat) (A : Option Addr) (n c : Nat) (p : Nat) (w : World) (h : w.heap[g]? = some (.cells #[.slice A n c, .int .i64 p] 65 (0, 0))) (hn : n ≤ 140737488355328) (hp : p ≤ n) (x : Int) (h0 : 0 ≤ x) (hx : decide ((n : Int) - p < x) = true) : Calls Try.prog 19 #[.pointer (some ⟨g, 0, none⟩), .int .i64 x] w fun e w' => e = .returned (.int .i64 130) ∧ Drawn0 w w' := by
  have H := Aside0.mk h
  clear h
  go_enter Try.func19, Try.ntmps19
  go_wp2_with (go_at_call 16; go_loud (refine (left_any g A n c p _ H.out hn hp).mono ?_); rintro e w1 ⟨rfl, ⟨nq, rfl⟩⟩)
  go_ret
  exact ⟨rfl, ⟨nq, rfl⟩⟩
theorem skip_ok (g : Nat) (A : Option Addr) (n c : Nat) (p : Nat) (w : World) (h : w.heap[g]? = some (.cells #[.slice A n c, .int .i64 p] 65 (0, 0))) (hn : n ≤ 140737488355328) (hp : p ≤ n) (x : Nat) (hx : x + p ≤ n) : Calls Try.prog 19 #[.pointer (some ⟨g, 0, none⟩), .int .i64 x] w fun e w' => e = .returned (.int .i64 0) ∧ ∃ m, w' = (w.setCell ⟨g, 1, none⟩ (.int .i64 (p + x))).drewN m := by
  have hx' : (x : Int) ≤ (n : Int) - p := by omega
  obtain ⟨c0, c1, f1⟩ := rdr_cells g A n c p w h
  have H := Aside0.mk h
  clear h
  go_enter Try.func19, Try.ntmps19
  go_wp2_with (go_at_call 16; go_loud (refine (left_any g A n c p _ H.out hn hp).mono ?_); rintro e w1 ⟨rfl, ⟨nq, rfl⟩⟩)
  go_ret
  exact ⟨rfl, ⟨nq, by rfl⟩⟩
theorem rest_any (g : Nat) (A : Option Addr) (n c : Nat) (p : Nat) (w : World) (h : w.heap[g]? = some (.cells #[.slice A n c, .int .i64 p] 65 (0, 0))) (hn : n ≤ 140737488355328) (hc : n ≤ c) (hp' : p ≤ n) (l : List Int) (hl : l.length = n) (hr : Kd.C (Kd.int .u8) w A l.length l) : Calls Try.prog 20 #[.pointer (some ⟨g, 0, none⟩)] w fun e w' => ∃ B d, e = .returned (.slice B (l.length - p) d) ∧ Kd.R (Kd.int .u8) 5 w' w.heap.size (fun _ => True) (.slice B (l.length - p) d) (l.drop p) ∧ Below w.heap.size w w' := by
  obtain ⟨c0, c1, f1⟩ := rdr_cells g A n c p w h
  subst hl
  have hpp : (p : Int) ≤ (l.length : Int) := by omega
  have hpc : l.length ≤ c := hc
  have HR := Aside0.mk hr
  clear h hr
  go_enter Try.func20, Try.ntmps20
  go_wp2
  go_still_tail 9, (by kernel_rfl)
  go_wp2_with (go_at_call 28; go_loud (refine (cloneb_at _ (l.drop p) (l.length - p) (c - p) (by simp) (by omega) (by omega) w.drew (Kd.C_drew (by have := Kd.C_drop (c := c) (m := p) HR.out hp' hc; simpa [show (Kd.int .u8).sz = 1 from rfl] using this))).mono ?_); rintro e w1 ⟨B, d, rfl, hR, hB⟩)
  all_goals go_ret
  all_goals exact ⟨B, d, rfl, Kd.R_lower hR (by simp), below_then (below_drew (Below.refl _ _)) (by simp) hB⟩
theorem take_err (g : Nat) (A : Option Addr) (n c : Nat) (p : Nat) (w : World) (h : w.heap[g]? = some (.cells #[.slice A n c, .int .i64 p] 65 (0, 0))) (hn : n ≤ 140737488355328) (hp : p ≤ n) (x : Int) (v e : Int) (he : (e == 0) = false) (hcall : ∀ w1 : World, Below w.heap.size w w1 → Calls Try.prog 27 #[.slice A n c, .int .i64 p, .int .i64 x] w1 fun e' w' => e' = .returned (.tuple #[.int .u32 v, .int .i64 e]) ∧ Below w1.heap.size w1 w') :
   Calls Try.prog 15 #[.pointer (some ⟨g, 0, none⟩), .int .i64 x] w fun e' w' => e' = .returned (.tuple #[.int .u32 v, .int .i64 e]) ∧ Below w.heap.size w w' := by
  obtain ⟨c0, c1, f1⟩ := rdr_cells g A n c p w h
  have HC := Aside0.mk hcall
  have hB0 := Below.refl w.heap.size w
  clear h hcall
  go_enter Try.func15, Try.ntmps15
  go_wp2
  go_region_held3 (fun w' => w'.cell? ⟨g, 0, none⟩ = some (.slice A n c) ∧ w'.cell? ⟨g, 1, none⟩ = some (.int .i64 p))
    (first
      | go_keep
      | (refine ⟨?_, ?_⟩
         · exact pw_cell_below hb1 (by assumption)
         · exact pw_cell_below hb1 (by assumption)))
    (first | (go_at_call 27; refine (HC.out _ (by exact below_drew (Below.refl _ _))).mono ?_; rintro e' w1 ⟨rfl, hb1⟩))
  go_wp2
  go_ret2
  exact ⟨rfl, below_then (below_drew (Below.refl _ _)) (by simp) hb1⟩
theorem take_ok (g : Nat) (A : Option Addr) (n c : Nat) (p : Nat) (w : World) (h : w.heap[g]? = some (.cells #[.slice A n c, .int .i64 p] 65 (0, 0))) (hn : n ≤ 140737488355328) (hp : p ≤ n) (x : Int) (v : Int) (hpx : (p : Int) + x ≤ n) (hx : 0 ≤ x) (hcall : ∀ w1 : World, Below w.heap.size w w1 → Calls Try.prog 27 #[.slice A n c, .int .i64 p, .int .i64 x] w1 fun e' w' => e' = .returned (.tuple #[.int .u32 v, .int .i64 0]) ∧ Below w1.heap.size w1 w') :
   Calls Try.prog 15 #[.pointer (some ⟨g, 0, none⟩), .int .i64 x] w fun e' w' => e' = .returned (.tuple #[.int .u32 v, .int .i64 0]) ∧ ∃ w1, Below w.heap.size w w1 ∧ w' = w1.setCell ⟨g, 1, none⟩ (.int .i64 (p + x)) := by
  obtain ⟨c0, c1, f1⟩ := rdr_cells g A n c p w h
  have hg := blk_lt h
  have HC := Aside0.mk hcall
  clear h hcall
  go_enter Try.func15, Try.ntmps15
  go_wp2
  go_region_held3 (fun w' => w'.cell? ⟨g, 0, none⟩ = some (.slice A n c) ∧ w'.cell? ⟨g, 1, none⟩ = some (.int .i64 p))
    (first
      | go_keep
      | (refine ⟨?_, ?_⟩
         · exact pw_cell_below hb1 (by assumption)
         · exact pw_cell_below hb1 (by assumption)))
    (first | (go_at_call 27; refine (HC.out _ (by exact below_drew (Below.refl _ _))).mono ?_; rintro e' w1 ⟨rfl, hb1⟩))
  have d1 : w1.cell? ⟨g, 1, none⟩ = some (.int .i64 p) := pw_cell_below hb1 c1
  have g1 : w1.frozen? ⟨g, 1, none⟩ = false := (hb1.frozen (p := ⟨g, 1, none⟩) hg).trans f1
  go_wp2
  go_ret2
  exact ⟨rfl, w1, below_then (below_drew (Below.refl _ _)) (by simp) hb1, rfl⟩
end Go.Proofs.Ytheocodbceidlaa.A
