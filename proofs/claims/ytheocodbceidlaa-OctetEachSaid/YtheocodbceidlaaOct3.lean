/- octet: the bytes of a number. -/
import Derived.Test.YtheocodbceidlaaOct2
set_option linter.unusedVariables false
set_option linter.unusedSimpArgs false
namespace Go.Proofs.Ytheocodbceidlaa.A
open Go.RowKit Go.Proofs.YtheocodbceidlaaW.PrintWords Go.Proofs.YtheocodbceidlaaW.PrintLast Go.Proofs.YtheocodbceidlaaW.PrintMore Go.Proofs.Ytheocodbceidlaa.POctetPuts

/-- a part of a block reads as its list -/
theorem C_seg (k : IntKind) (w : World) (g : Nat) (cs : Array Value) (e : TypeId) (fr : Nat × Nat) (hb : w.heap[g]? = some (.cells cs e fr)) (j : Nat) (m : List Int) (hl : m.length ≤ 9223372036854775807)
    (h : ∀ i p, m[i]? = some p → cs[j + i]? = some (.int k p)) : Kd.C (Kd.int k) w (some ⟨g, j, none⟩) m.length m := by
  refine ⟨rfl, hl, fun _ => ⟨_, rfl, fun i p hi => ⟨[.int k p], rfl, rfl, fun q u hq => ?_⟩⟩⟩
  cases q with
  | succ q => simp at hq
  | zero =>
    obtain rfl : Value.int k p = u := by simpa using hq
    have e1 : ((⟨g, j, none⟩ : Addr).add (i * 1 + 0)) = ⟨g, j + i, none⟩ := by
      rw [Nat.mul_one, Nat.add_zero]; unfold Addr.add; split <;> simp_all
    show w.cell? ((⟨g, j, none⟩ : Addr).add (i * 1 + 0)) = _
    rw [e1, cell_of_row w g (j + i) cs e fr hb]
    exact h i p hi
/-- the four bytes of a number -/
def b4 (n : Int) : List Int := [n / 16777216, n / 65536 % 256, n / 256 % 256, n % 256]
theorem clone_at (A : Option Addr) (m : List Int) (x c : Nat) (hx : m.length = x) (hxc : x ≤ c) (hm : x ≤ 140737488355328) (w : World) (hr : Kd.C (Kd.int .u8) w A m.length m) :
    Calls Try.prog 25 #[.slice A x c] w fun e w' => ∃ v, e = .returned v ∧ Kd.R (Kd.int .u8) 5 w' w.heap.size (fun _ => True) v m ∧ Below w.heap.size w w' := by
  subst hx
  exact clone_any A m c w hr hxc hm
theorem below_set4 {w w1 : World} {e : TypeId} {cs : Array Value} (hb : Below (w.alloc (.cells cs e)).heap.size (w.alloc (.cells cs e)) w1) (a b c d : Value) :
    Below w.heap.size w ((((w1.setCell ⟨w.heap.size, 0, none⟩ a).setCell ⟨w.heap.size, 1, none⟩ b).setCell ⟨w.heap.size, 2, none⟩ c).setCell ⟨w.heap.size, 3, none⟩ d) := by
  have h1 : Below w.heap.size w w1 := below_then (below_alloc (Below.refl _ _) _) (by simp) hb
  exact (((h1.setCell (Nat.le_refl _) _).setCell (Nat.le_refl _) _).setCell (Nat.le_refl _) _).setCell (Nat.le_refl _) _

theorem put_arg (n x : Int) (w : World) (h : wd x = false) :
    Calls Try.prog 9 #[.int .u32 n, .int .i64 x] w fun e w' => e = .returned (.tuple #[.slice none 0 0, .int .i64 2]) ∧ Below w.heap.size w w' := by
  go_enter Try.func9, Try.ntmps9
  go_wp2_with (go_at_call 23; (with_reducible refine (right_b _ _ h _).mono ?_); rintro e w1 ⟨rfl, hb⟩)
  go_ret2
  exact ⟨rfl, below_then (below_alloc (Below.refl _ _) _) (by simp) hb⟩

set_option maxHeartbeats 1000000 in
theorem put1_big (n : Int) (w : World) (hn : 0 ≤ n ∧ n < 4294967296) (v : Int) (hv : octet_folded_byte.f 5 ((b4 n).take 3) = some v) (h : (v == 0) = false) :
    Calls Try.prog 9 #[.int .u32 n, .int .i64 1] w fun e w' => e = .returned (.tuple #[.slice none 0 0, .int .i64 4]) ∧ Below w.heap.size w w' := by
  obtain ⟨hn0, hn1⟩ := hn
  have HV := Aside0.mk hv
  clear hv
  go_enter Try.func9, Try.ntmps9
  go_wp2_with (go_at_call 23; (with_reducible refine (right_b _ true rfl _).mono ?_); rintro e w1 ⟨rfl, hb⟩)
  have hB : w1.heap[w.heap.size]? = some (.cells #[.int .u8 0, .int .u8 0, .int .u8 0, .int .u8 0] 58 (0, 0)) := (hb.block _ (by simp)).trans (blk_new w _)
  have h0 : w1.cell? ⟨w.heap.size, 0, none⟩ = some (.int .u8 0) := by rw [blk_cell hB]; rfl
  have h1 : w1.cell? ⟨w.heap.size, 1, none⟩ = some (.int .u8 0) := by rw [blk_cell hB]; rfl
  have h2 : w1.cell? ⟨w.heap.size, 2, none⟩ = some (.int .u8 0) := by rw [blk_cell hB]; rfl
  have h3 : w1.cell? ⟨w.heap.size, 3, none⟩ = some (.int .u8 0) := by rw [blk_cell hB]; rfl
  have f0 : ∀ i, w1.frozen? ⟨w.heap.size, i, none⟩ = false := fun i => blk_frozen hB i
  have HB4 := Aside0.mk (blk_set (blk_set (blk_set (blk_set hB 0 (.int .u8 (n / 16777216))) 1 (.int .u8 (n / 65536 % 256))) 2 (.int .u8 (n / 256 % 256))) 3 (.int .u8 (n % 256)))
  have Hb := Aside0.mk hb
  have hz : w.heap.size < w1.heap.size := blk_lt hB
  clear hB hb
  refine wp_loop_rounds 5 ?_
  rw [rounds_succ]; go_wp2
  rw [rounds_succ]; go_wp2
  rw [rounds_succ]; go_wp2
  rw [rounds_succ]; go_wp2
  rw [rounds_succ]
  go_wp2_with (first | (go_at_call 24; go_loud (refine (folded_at _ ((b4 n).take 3) 3 _ rfl (by decide) _ (C_seg .u8 _ w.heap.size _ _ _ HB4.out 0 ((b4 n).take 3) (by simp [b4]) (by intro i p hi; match i, hi with | 0, hi => simp [b4] at hi; simp [hi] | 1, hi => simp [b4] at hi; simp [hi] | 2, hi => simp [b4] at hi; simp [hi] | i + 3, hi => simp [b4] at hi)) 5 v HV.out).mono ?_); rintro e w2 ⟨rfl, hd⟩))
  go_ret2
  exact ⟨rfl, below_then (below_set4 Hb.out _ _ _ _) (by simp [World.setCell]; omega) hd.below⟩

set_option maxHeartbeats 1000000 in
theorem put1_ok (n : Int) (w : World) (hn : 0 ≤ n ∧ n < 4294967296) (v : Int) (hv : octet_folded_byte.f 5 ((b4 n).take 3) = some v) (h : (v == 0) = true) :
    Calls Try.prog 9 #[.int .u32 n, .int .i64 1] w fun e w' => ∃ v, e = .returned (.tuple #[v, .int .i64 0]) ∧ Kd.R (Kd.int .u8) 5 w' w.heap.size (fun _ => True) v ((b4 n).drop 3) ∧ Below w.heap.size w w' := by
  obtain ⟨hn0, hn1⟩ := hn
  have HV := Aside0.mk hv
  clear hv
  go_enter Try.func9, Try.ntmps9
  go_wp2_with (go_at_call 23; (with_reducible refine (right_b _ true rfl _).mono ?_); rintro e w1 ⟨rfl, hb⟩)
  have hB : w1.heap[w.heap.size]? = some (.cells #[.int .u8 0, .int .u8 0, .int .u8 0, .int .u8 0] 58 (0, 0)) := (hb.block _ (by simp)).trans (blk_new w _)
  have h0 : w1.cell? ⟨w.heap.size, 0, none⟩ = some (.int .u8 0) := by rw [blk_cell hB]; rfl
  have h1 : w1.cell? ⟨w.heap.size, 1, none⟩ = some (.int .u8 0) := by rw [blk_cell hB]; rfl
  have h2 : w1.cell? ⟨w.heap.size, 2, none⟩ = some (.int .u8 0) := by rw [blk_cell hB]; rfl
  have h3 : w1.cell? ⟨w.heap.size, 3, none⟩ = some (.int .u8 0) := by rw [blk_cell hB]; rfl
  have f0 : ∀ i, w1.frozen? ⟨w.heap.size, i, none⟩ = false := fun i => blk_frozen hB i
  have HB4 := Aside0.mk (blk_set (blk_set (blk_set (blk_set hB 0 (.int .u8 (n / 16777216))) 1 (.int .u8 (n / 65536 % 256))) 2 (.int .u8 (n / 256 % 256))) 3 (.int .u8 (n % 256)))
  have Hb := Aside0.mk hb
  have hz : w.heap.size < w1.heap.size := blk_lt hB
  clear hB hb
  refine wp_loop_rounds 5 ?_
  rw [rounds_succ]; go_wp2
  rw [rounds_succ]; go_wp2
  rw [rounds_succ]; go_wp2
  rw [rounds_succ]; go_wp2
  rw [rounds_succ]
  go_wp2_with (first | (go_at_call 24; go_loud (refine (folded_at _ ((b4 n).take 3) 3 _ rfl (by decide) _ (C_seg .u8 _ w.heap.size _ _ _ HB4.out 0 ((b4 n).take 3) (by simp [b4]) (by intro i p hi; match i, hi with | 0, hi => simp [b4] at hi; simp [hi] | 1, hi => simp [b4] at hi; simp [hi] | 2, hi => simp [b4] at hi; simp [hi] | i + 3, hi => simp [b4] at hi)) 5 v HV.out).mono ?_); rintro e w2 ⟨rfl, hd⟩) | (go_at_call 25; go_loud (refine (clone_at _ ((b4 n).drop 3) 1 _ rfl (by decide) (by decide) _ (C_seg .u8 _ w.heap.size _ _ _ (hd.below.block _ (by have := hz; simp; omega) |>.trans HB4.out) 3 ((b4 n).drop 3) (by simp [b4]) (by intro i p hi; match i, hi with | 0, hi => simp [b4] at hi; simp [hi] | i + 1, hi => simp [b4] at hi))).mono ?_); rintro e w3 ⟨v, rfl, hR, hB3⟩))
  go_ret2
  exact ⟨_, rfl, Kd.R_lower hR (by have := hd.below.size; simp [World.setCell] at this; omega), below_then (below_then (below_set4 Hb.out _ _ _ _) (by simp [World.setCell]; omega) hd.below) (by have := hd.below.size; simp [World.setCell] at this; omega) hB3⟩

set_option maxHeartbeats 1000000 in
theorem put2_big (n : Int) (w : World) (hn : 0 ≤ n ∧ n < 4294967296) (v : Int) (hv : octet_folded_byte.f 5 ((b4 n).take 2) = some v) (h : (v == 0) = false) :
    Calls Try.prog 9 #[.int .u32 n, .int .i64 2] w fun e w' => e = .returned (.tuple #[.slice none 0 0, .int .i64 4]) ∧ Below w.heap.size w w' := by
  obtain ⟨hn0, hn1⟩ := hn
  have HV := Aside0.mk hv
  clear hv
  go_enter Try.func9, Try.ntmps9
  go_wp2_with (go_at_call 23; (with_reducible refine (right_b _ true rfl _).mono ?_); rintro e w1 ⟨rfl, hb⟩)
  have hB : w1.heap[w.heap.size]? = some (.cells #[.int .u8 0, .int .u8 0, .int .u8 0, .int .u8 0] 58 (0, 0)) := (hb.block _ (by simp)).trans (blk_new w _)
  have h0 : w1.cell? ⟨w.heap.size, 0, none⟩ = some (.int .u8 0) := by rw [blk_cell hB]; rfl
  have h1 : w1.cell? ⟨w.heap.size, 1, none⟩ = some (.int .u8 0) := by rw [blk_cell hB]; rfl
  have h2 : w1.cell? ⟨w.heap.size, 2, none⟩ = some (.int .u8 0) := by rw [blk_cell hB]; rfl
  have h3 : w1.cell? ⟨w.heap.size, 3, none⟩ = some (.int .u8 0) := by rw [blk_cell hB]; rfl
  have f0 : ∀ i, w1.frozen? ⟨w.heap.size, i, none⟩ = false := fun i => blk_frozen hB i
  have HB4 := Aside0.mk (blk_set (blk_set (blk_set (blk_set hB 0 (.int .u8 (n / 16777216))) 1 (.int .u8 (n / 65536 % 256))) 2 (.int .u8 (n / 256 % 256))) 3 (.int .u8 (n % 256)))
  have Hb := Aside0.mk hb
  have hz : w.heap.size < w1.heap.size := blk_lt hB
  clear hB hb
  refine wp_loop_rounds 5 ?_
  rw [rounds_succ]; go_wp2
  rw [rounds_succ]; go_wp2
  rw [rounds_succ]; go_wp2
  rw [rounds_succ]; go_wp2
  rw [rounds_succ]
  go_wp2_with (first | (go_at_call 24; go_loud (refine (folded_at _ ((b4 n).take 2) 2 _ rfl (by decide) _ (C_seg .u8 _ w.heap.size _ _ _ HB4.out 0 ((b4 n).take 2) (by simp [b4]) (by intro i p hi; match i, hi with | 0, hi => simp [b4] at hi; simp [hi] | 1, hi => simp [b4] at hi; simp [hi] | i + 2, hi => simp [b4] at hi)) 5 v HV.out).mono ?_); rintro e w2 ⟨rfl, hd⟩))
  go_ret2
  exact ⟨rfl, below_then (below_set4 Hb.out _ _ _ _) (by simp [World.setCell]; omega) hd.below⟩

set_option maxHeartbeats 1000000 in
theorem put2_ok (n : Int) (w : World) (hn : 0 ≤ n ∧ n < 4294967296) (v : Int) (hv : octet_folded_byte.f 5 ((b4 n).take 2) = some v) (h : (v == 0) = true) :
    Calls Try.prog 9 #[.int .u32 n, .int .i64 2] w fun e w' => ∃ v, e = .returned (.tuple #[v, .int .i64 0]) ∧ Kd.R (Kd.int .u8) 5 w' w.heap.size (fun _ => True) v ((b4 n).drop 2) ∧ Below w.heap.size w w' := by
  obtain ⟨hn0, hn1⟩ := hn
  have HV := Aside0.mk hv
  clear hv
  go_enter Try.func9, Try.ntmps9
  go_wp2_with (go_at_call 23; (with_reducible refine (right_b _ true rfl _).mono ?_); rintro e w1 ⟨rfl, hb⟩)
  have hB : w1.heap[w.heap.size]? = some (.cells #[.int .u8 0, .int .u8 0, .int .u8 0, .int .u8 0] 58 (0, 0)) := (hb.block _ (by simp)).trans (blk_new w _)
  have h0 : w1.cell? ⟨w.heap.size, 0, none⟩ = some (.int .u8 0) := by rw [blk_cell hB]; rfl
  have h1 : w1.cell? ⟨w.heap.size, 1, none⟩ = some (.int .u8 0) := by rw [blk_cell hB]; rfl
  have h2 : w1.cell? ⟨w.heap.size, 2, none⟩ = some (.int .u8 0) := by rw [blk_cell hB]; rfl
  have h3 : w1.cell? ⟨w.heap.size, 3, none⟩ = some (.int .u8 0) := by rw [blk_cell hB]; rfl
  have f0 : ∀ i, w1.frozen? ⟨w.heap.size, i, none⟩ = false := fun i => blk_frozen hB i
  have HB4 := Aside0.mk (blk_set (blk_set (blk_set (blk_set hB 0 (.int .u8 (n / 16777216))) 1 (.int .u8 (n / 65536 % 256))) 2 (.int .u8 (n / 256 % 256))) 3 (.int .u8 (n % 256)))
  have Hb := Aside0.mk hb
  have hz : w.heap.size < w1.heap.size := blk_lt hB
  clear hB hb
  refine wp_loop_rounds 5 ?_
  rw [rounds_succ]; go_wp2
  rw [rounds_succ]; go_wp2
  rw [rounds_succ]; go_wp2
  rw [rounds_succ]; go_wp2
  rw [rounds_succ]
  go_wp2_with (first | (go_at_call 24; go_loud (refine (folded_at _ ((b4 n).take 2) 2 _ rfl (by decide) _ (C_seg .u8 _ w.heap.size _ _ _ HB4.out 0 ((b4 n).take 2) (by simp [b4]) (by intro i p hi; match i, hi with | 0, hi => simp [b4] at hi; simp [hi] | 1, hi => simp [b4] at hi; simp [hi] | i + 2, hi => simp [b4] at hi)) 5 v HV.out).mono ?_); rintro e w2 ⟨rfl, hd⟩) | (go_at_call 25; go_loud (refine (clone_at _ ((b4 n).drop 2) 2 _ rfl (by decide) (by decide) _ (C_seg .u8 _ w.heap.size _ _ _ (hd.below.block _ (by have := hz; simp; omega) |>.trans HB4.out) 2 ((b4 n).drop 2) (by simp [b4]) (by intro i p hi; match i, hi with | 0, hi => simp [b4] at hi; simp [hi] | 1, hi => simp [b4] at hi; simp [hi] | i + 2, hi => simp [b4] at hi))).mono ?_); rintro e w3 ⟨v, rfl, hR, hB3⟩))
  go_ret2
  exact ⟨_, rfl, Kd.R_lower hR (by have := hd.below.size; simp [World.setCell] at this; omega), below_then (below_then (below_set4 Hb.out _ _ _ _) (by simp [World.setCell]; omega) hd.below) (by have := hd.below.size; simp [World.setCell] at this; omega) hB3⟩

set_option maxHeartbeats 1000000 in
theorem put4_big (n : Int) (w : World) (hn : 0 ≤ n ∧ n < 4294967296) (v : Int) (hv : octet_folded_byte.f 5 ((b4 n).take 0) = some v) (h : (v == 0) = false) :
    Calls Try.prog 9 #[.int .u32 n, .int .i64 4] w fun e w' => e = .returned (.tuple #[.slice none 0 0, .int .i64 4]) ∧ Below w.heap.size w w' := by
  obtain ⟨hn0, hn1⟩ := hn
  have HV := Aside0.mk hv
  clear hv
  go_enter Try.func9, Try.ntmps9
  go_wp2_with (go_at_call 23; (with_reducible refine (right_b _ true rfl _).mono ?_); rintro e w1 ⟨rfl, hb⟩)
  have hB : w1.heap[w.heap.size]? = some (.cells #[.int .u8 0, .int .u8 0, .int .u8 0, .int .u8 0] 58 (0, 0)) := (hb.block _ (by simp)).trans (blk_new w _)
  have h0 : w1.cell? ⟨w.heap.size, 0, none⟩ = some (.int .u8 0) := by rw [blk_cell hB]; rfl
  have h1 : w1.cell? ⟨w.heap.size, 1, none⟩ = some (.int .u8 0) := by rw [blk_cell hB]; rfl
  have h2 : w1.cell? ⟨w.heap.size, 2, none⟩ = some (.int .u8 0) := by rw [blk_cell hB]; rfl
  have h3 : w1.cell? ⟨w.heap.size, 3, none⟩ = some (.int .u8 0) := by rw [blk_cell hB]; rfl
  have f0 : ∀ i, w1.frozen? ⟨w.heap.size, i, none⟩ = false := fun i => blk_frozen hB i
  have HB4 := Aside0.mk (blk_set (blk_set (blk_set (blk_set hB 0 (.int .u8 (n / 16777216))) 1 (.int .u8 (n / 65536 % 256))) 2 (.int .u8 (n / 256 % 256))) 3 (.int .u8 (n % 256)))
  have Hb := Aside0.mk hb
  have hz : w.heap.size < w1.heap.size := blk_lt hB
  clear hB hb
  refine wp_loop_rounds 5 ?_
  rw [rounds_succ]; go_wp2
  rw [rounds_succ]; go_wp2
  rw [rounds_succ]; go_wp2
  rw [rounds_succ]; go_wp2
  rw [rounds_succ]
  go_wp2_with (first | (go_at_call 24; go_loud (refine (folded_at _ ((b4 n).take 0) 0 _ rfl (by decide) _ (C_seg .u8 _ w.heap.size _ _ _ HB4.out 0 ((b4 n).take 0) (by simp [b4]) (by intro i p hi; match i, hi with  | i + 0, hi => simp [b4] at hi)) 5 v HV.out).mono ?_); rintro e w2 ⟨rfl, hd⟩))
  go_ret2
  exact ⟨rfl, below_then (below_set4 Hb.out _ _ _ _) (by simp [World.setCell]; omega) hd.below⟩

set_option maxHeartbeats 1000000 in
theorem put4_ok (n : Int) (w : World) (hn : 0 ≤ n ∧ n < 4294967296) (v : Int) (hv : octet_folded_byte.f 5 ((b4 n).take 0) = some v) (h : (v == 0) = true) :
    Calls Try.prog 9 #[.int .u32 n, .int .i64 4] w fun e w' => ∃ v, e = .returned (.tuple #[v, .int .i64 0]) ∧ Kd.R (Kd.int .u8) 5 w' w.heap.size (fun _ => True) v ((b4 n).drop 0) ∧ Below w.heap.size w w' := by
  obtain ⟨hn0, hn1⟩ := hn
  have HV := Aside0.mk hv
  clear hv
  go_enter Try.func9, Try.ntmps9
  go_wp2_with (go_at_call 23; (with_reducible refine (right_b _ true rfl _).mono ?_); rintro e w1 ⟨rfl, hb⟩)
  have hB : w1.heap[w.heap.size]? = some (.cells #[.int .u8 0, .int .u8 0, .int .u8 0, .int .u8 0] 58 (0, 0)) := (hb.block _ (by simp)).trans (blk_new w _)
  have h0 : w1.cell? ⟨w.heap.size, 0, none⟩ = some (.int .u8 0) := by rw [blk_cell hB]; rfl
  have h1 : w1.cell? ⟨w.heap.size, 1, none⟩ = some (.int .u8 0) := by rw [blk_cell hB]; rfl
  have h2 : w1.cell? ⟨w.heap.size, 2, none⟩ = some (.int .u8 0) := by rw [blk_cell hB]; rfl
  have h3 : w1.cell? ⟨w.heap.size, 3, none⟩ = some (.int .u8 0) := by rw [blk_cell hB]; rfl
  have f0 : ∀ i, w1.frozen? ⟨w.heap.size, i, none⟩ = false := fun i => blk_frozen hB i
  have HB4 := Aside0.mk (blk_set (blk_set (blk_set (blk_set hB 0 (.int .u8 (n / 16777216))) 1 (.int .u8 (n / 65536 % 256))) 2 (.int .u8 (n / 256 % 256))) 3 (.int .u8 (n % 256)))
  have Hb := Aside0.mk hb
  have hz : w.heap.size < w1.heap.size := blk_lt hB
  clear hB hb
  refine wp_loop_rounds 5 ?_
  rw [rounds_succ]; go_wp2
  rw [rounds_succ]; go_wp2
  rw [rounds_succ]; go_wp2
  rw [rounds_succ]; go_wp2
  rw [rounds_succ]
  go_wp2_with (first | (go_at_call 24; go_loud (refine (folded_at _ ((b4 n).take 0) 0 _ rfl (by decide) _ (C_seg .u8 _ w.heap.size _ _ _ HB4.out 0 ((b4 n).take 0) (by simp [b4]) (by intro i p hi; match i, hi with  | i + 0, hi => simp [b4] at hi)) 5 v HV.out).mono ?_); rintro e w2 ⟨rfl, hd⟩) | (go_at_call 25; go_loud (refine (clone_at _ ((b4 n).drop 0) 4 _ rfl (by decide) (by decide) _ (C_seg .u8 _ w.heap.size _ _ _ (hd.below.block _ (by have := hz; simp; omega) |>.trans HB4.out) 0 ((b4 n).drop 0) (by simp [b4]) (by intro i p hi; match i, hi with | 0, hi => simp [b4] at hi; simp [hi] | 1, hi => simp [b4] at hi; simp [hi] | 2, hi => simp [b4] at hi; simp [hi] | 3, hi => simp [b4] at hi; simp [hi] | i + 4, hi => simp [b4] at hi))).mono ?_); rintro e w3 ⟨v, rfl, hR, hB3⟩))
  go_ret2
  exact ⟨_, rfl, Kd.R_lower hR (by have := hd.below.size; simp [World.setCell] at this; omega), below_then (below_then (below_set4 Hb.out _ _ _ _) (by simp [World.setCell]; omega) hd.below) (by have := hd.below.size; simp [World.setCell] at this; omega) hB3⟩

end Go.Proofs.Ytheocodbceidlaa.A
