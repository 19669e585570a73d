/- octet: a reader's calls, told of the reader; the chapter's rows. -/
import Derived.Test.YtheocodbceidlaaOctP
set_option linter.unusedVariables false
set_option linter.unusedSimpArgs false
namespace Go.Proofs.Ytheocodbceidlaa.A
open Go.RowKit Go.Proofs.YtheocodbceidlaaW.PrintWords Go.Proofs.YtheocodbceidlaaW.PrintLast Go.Proofs.YtheocodbceidlaaW.PrintMore Go.Proofs.Ytheocodbceidlaa.POctetPuts

theorem Rdr.size {w : World} {base g : Nat} {A : Option Addr} {c : Nat} {l : List Int} {p : Nat} (h : Rdr w base g A c l p) : base ≤ w.heap.size := Nat.le_trans h.hg (Nat.le_of_lt (blk_lt h.blk))
theorem Rdr.reads {w : World} {base g : Nat} {A : Option Addr} {c : Nat} {l : List Int} {p : Nat} (h : Rdr w base g A c l p) : l.length ≤ c ∧ Kd.C (Kd.int .u8) w A l.length l := (Kd.R_reads' h.row).2
/-- the place moves on -/
theorem Rdr.moved {w : World} {base g : Nat} {A : Option Addr} {c : Nat} {l : List Int} {p : Nat} (h : Rdr w base g A c l p) {w1 : World} (hb : Below w.heap.size w w1) (q : Int) : Rdr (w1.setCell ⟨g, 1, none⟩ (.int .i64 q)) base g A c l q := by
  have h1 := h.below hb
  exact ⟨by have := blk_set h1.blk 1 (.int .i64 q); simpa using this, Kd.R_far h1.row (fun k hk => hk) _, h1.hg, h1.lim⟩
theorem Rdr.movedBelow {w : World} {base g : Nat} {A : Option Addr} {c : Nat} {l : List Int} {p : Nat} (h : Rdr w base g A c l p) {w1 : World} (hb : Below w.heap.size w w1) (q : Int) : Below base w (w1.setCell ⟨g, 1, none⟩ (.int .i64 q)) :=
  (hb.mono h.size).setCell h.hg _

theorem rtake_ok {w : World} {base g : Nat} {A : Option Addr} {c : Nat} {l : List Int} {p : Nat} (h : Rdr w base g A c l p) (hB : Byt l) (hp : p ≤ l.length) (x : Nat) (v : Int) (hs : rdS l p x = (v, 0)) :
    Calls Try.prog 15 #[.pointer (some ⟨g, 0, none⟩), .int .i64 x] w fun e' w' => e' = .returned (.tuple #[.int .u32 v, .int .i64 0]) ∧ Rdr w' base g A c l ((p + x : Nat) : Int) ∧ Below base w w' ∧ p + x ≤ l.length := by
  have hx : (p : Int) + x ≤ l.length := by
    unfold rdS at hs
    by_cases h0 : wd x = false
    · rw [if_pos h0] at hs; injection hs with _ e; cases e
    · rw [if_neg h0, if_neg (by omega)] at hs
      by_cases h2 : (l.length : Int) < p + x
      · rw [if_pos h2] at hs; injection hs with _ e; cases e
      · omega
  refine (take_ok g A l.length c p w h.blk h.lim hp x v hx (by omega) (fun w1 hb => num_spec A l c p x v 0 (by have := h.lim; omega) hs hB h.lim h.reads.1 w1 (Kd.C_below h.reads.2 hb))).mono ?_
  rintro e' w' ⟨he, w1, hb, rfl⟩
  refine ⟨he, ?_, h.movedBelow hb _, by omega⟩
  have := h.moved hb (p + x)
  simpa using this
theorem rtake_err {w : World} {base g : Nat} {A : Option Addr} {c : Nat} {l : List Int} {p : Nat} (h : Rdr w base g A c l p) (hB : Byt l) (hp : p ≤ l.length) (x v e : Int) (he : (e == 0) = false) (hs : rdS l p x = (v, e)) :
    Calls Try.prog 15 #[.pointer (some ⟨g, 0, none⟩), .int .i64 x] w fun e' w' => e' = .returned (.tuple #[.int .u32 v, .int .i64 e]) ∧ Rdr w' base g A c l p ∧ Below w.heap.size w w' := by
  refine (take_err g A l.length c p w h.blk h.lim hp x v e he (fun w1 hb => num_spec A l c p x v e (by have := h.lim; omega) hs hB h.lim h.reads.1 w1 (Kd.C_below h.reads.2 hb))).mono ?_
  rintro e' w' ⟨he, hb⟩
  exact ⟨he, h.below hb, hb⟩
theorem rleft {w : World} {base g : Nat} {A : Option Addr} {c : Nat} {l : List Int} {p : Nat} (h : Rdr w base g A c l p) (hp : p ≤ l.length) (r : Int) (hr : (l.length : Int) - p = r) :
    Calls Try.prog 16 #[.pointer (some ⟨g, 0, none⟩)] w fun e' w' => e' = .returned (.int .i64 r) ∧ Rdr w' base g A c l p ∧ Below w.heap.size w w' := by
  subst hr
  exact (left_any g A l.length c p w h.blk h.lim hp).mono fun _ _ ⟨he, hd⟩ => ⟨he, h.below hd.below, hd.below⟩
theorem rat {w : World} {base g : Nat} {A : Option Addr} {c : Nat} {l : List Int} {p : Nat} (h : Rdr w base g A c l p) :
    Calls Try.prog 21 #[.pointer (some ⟨g, 0, none⟩)] w fun e' w' => e' = .returned (.int .i64 p) ∧ Rdr w' base g A c l p ∧ Below w.heap.size w w' :=
  (at_any g A l.length c p w h.blk).mono fun _ _ ⟨he, hd⟩ => ⟨he, h.below hd.below, hd.below⟩
theorem rrest {w : World} {base g : Nat} {A : Option Addr} {c : Nat} {l : List Int} {p : Nat} (h : Rdr w base g A c l p) (hp : p ≤ l.length) :
    Calls Try.prog 20 #[.pointer (some ⟨g, 0, none⟩)] w fun e' w' => ∃ B d, e' = .returned (.slice B (l.length - p) d) ∧ Kd.R (Kd.int .u8) 5 w' w.heap.size (fun _ => True) (.slice B (l.length - p) d) (l.drop p) ∧ Rdr w' base g A c l p ∧ Below w.heap.size w w' :=
  (rest_any g A l.length c p w h.blk h.lim h.reads.1 hp l rfl h.reads.2).mono fun _ _ ⟨B, d, he, hR, hb⟩ => ⟨B, d, he, hR, h.below hb, hb⟩

instance (l : List Int) : Decidable (Byt l) := inferInstanceAs (Decidable (∀ x ∈ l, 0 ≤ x ∧ x < 256))
theorem num_any (a : Int) (w : World) : Calls Try.prog 11 #[.int .i64 a] w fun e w' => e = .returned (.int .i64 a) ∧ w = w' := by
  go_enter Try.func11, Try.ntmps11
  go_wp2
  go_ret
  exact ⟨rfl, rfl⟩

theorem read_lit (l : List Int) (p x v e : Int) (hp : p < 9223372036854775808) (hs : rdS l p x = (v, e)) (hB : Byt l) (n : Nat) (hn : l.length = n) (hm : n ≤ 140737488355328) (w : World) :
    Calls Try.prog 12 #[.slice (some ⟨w.heap.size, 0, none⟩) n n, .int .i64 p, .int .i64 x] (w.alloc (.cells (l.map (Value.int .u8)).toArray 5)) fun e' w' => e' = .returned (.tuple #[.int .u32 v, .int .i64 e]) ∧ Below w.heap.size w w' := by
  subst hn
  exact (read_spec _ l l.length p x v e hp hs hB hm (Nat.le_refl _) _ (C_new .u8 w l 5 (by omega))).mono fun _ _ ⟨he, hb⟩ => ⟨he, below_then (below_alloc (Below.refl _ _) _) (by simp) hb⟩
theorem new_lit (l : List Int) (n : Nat) (hn : l.length = n) (hm : n ≤ 140737488355328) (w : World) :
    Calls Try.prog 14 #[.slice (some ⟨w.heap.size, 0, none⟩) n n] (w.alloc (.cells (l.map (Value.int .u8)).toArray 5)) fun e w' => ∃ g B d, e = .returned (.pointer (some ⟨g, 0, none⟩)) ∧ Rdr w' w.heap.size g B d l 0 ∧ Below w.heap.size w w' := by
  subst hn
  refine (new_any _ l l.length _ (C_new .u8 w l 5 (by omega)) (Nat.le_refl _) hm).mono ?_
  rintro e w' ⟨g, B, d, he, hR, hb⟩
  exact ⟨g, B, d, he, ⟨hR.blk, Kd.R_lower hR.row (by simp), by have := hR.hg; simp at this; omega, hR.lim⟩, below_then (below_alloc (Below.refl _ _) _) (by simp) hb⟩

set_option maxHeartbeats 4000000 in
set_option maxRecDepth 100000 in
theorem works_any (w : World) : Calls Try.prog 8 #[] w fun e w' => e = .returned (.bool true) ∧ Below w.heap.size w w' := by
  go_enter Try.func8, Try.ntmps8
  go_wp2_with fail
  refine (put_spec 258 2 [1, 2] 0 (by decide) (by decide) _).mono ?_
  rintro e w1 ⟨B1, d1, rfl, hR1, hb1⟩
  have HR1 := Aside0.mk hR1; clear hR1
  have HB1 := Aside0.mk hb1; clear hb1
  go_wp2_with fail
  refine (put_spec 256 1 [] 4 (by decide) (by decide) _).mono ?_
  rintro e w2 ⟨B2, d2, rfl, _, hb2⟩
  have K := Aside0.mk (Below.trans (Below.refl w1.heap.size w1) hb2); clear hb2
  go_wp2_with fail
  refine (put_spec 1 3 [] 2 (by decide) (by decide) _).mono ?_
  rintro e w3 ⟨B3, d3, rfl, _, hb⟩
  replace K := Aside0.mk (below_then K.out K.out.size hb); clear hb
  go_wp2_with fail
  refine (read_lit [1, 2, 3] 1 2 515 0 (by decide) (by decide) (by decide) 3 rfl (by decide) _).mono ?_
  rintro e w4 ⟨rfl, hb⟩
  replace K := Aside0.mk (below_then K.out K.out.size hb); clear hb
  go_wp2_with fail
  refine (read_lit [1, 2, 3] 2 2 0 130 (by decide) (by decide) (by decide) 3 rfl (by decide) _).mono ?_
  rintro e w5 ⟨rfl, hb⟩
  replace K := Aside0.mk (below_then K.out K.out.size hb); clear hb
  go_wp2_with fail
  refine (new_lit [0, 1, 2] 3 rfl (by decide) _).mono ?_
  rintro e w6 ⟨g, B, d, rfl, hR, hb⟩
  have R := Aside0.mk hR; clear hR
  have hby : Aside0 (Byt [0, 1, 2]) := ⟨by decide⟩
  have L := Aside0.mk K.out.size
  replace K := Aside0.mk (below_then K.out K.out.size hb); clear hb
  go_wp2_with fail
  refine (rtake_ok (p := 0) R.out hby.out (by decide) 2 1 (by decide)).mono ?_
  rintro e w7 ⟨rfl, hR, hb, _⟩
  replace R := Aside0.mk hR; clear hR
  replace K := Aside0.mk (K.out.trans (hb.mono L.out)); clear hb
  go_wp2_with fail
  refine (rleft (p := 2) R.out (by decide) 1 (by decide)).mono ?_
  rintro e w8 ⟨rfl, hR, hb⟩
  replace R := Aside0.mk hR; clear hR
  replace K := Aside0.mk (below_then K.out K.out.size hb); clear hb
  go_wp2_with fail
  refine (rtake_err (p := 2) R.out hby.out (by decide) 2 0 130 rfl (by decide)).mono ?_
  rintro e w9 ⟨rfl, hR, hb⟩
  replace R := Aside0.mk hR; clear hR
  replace K := Aside0.mk (below_then K.out K.out.size hb); clear hb
  go_wp2_with fail
  refine (rtake_ok (p := 2) R.out hby.out (by decide) 1 2 (by decide)).mono ?_
  rintro e w10 ⟨rfl, hR, hb, _⟩
  replace R := Aside0.mk hR; clear hR
  replace K := Aside0.mk (K.out.trans (hb.mono L.out)); clear hb
  have hcv : (convert 23 9 (.slice B1 2 d1)).run Try.prog w10 = .ok (.string ⟨#[1, 2]⟩) w10 := Kd.C_string Try.underlying23 Try.underlying5 Try.underlying9 (Kd.C_below (Kd.R_reads' HR1.out).2.2 K.out)
  go_wp2_with (first | (go_at_call 11; (with_reducible refine (num_any _ _).mono ?_); rintro e w' ⟨rfl, rfl⟩) | (go_at_call 21; go_loud (refine (rat (p := 3) R.out).mono ?_); rintro e w11 ⟨rfl, hR2, hb2⟩) | (go_at_call 20; go_loud (refine (rrest (p := 3) hR2 (by decide)).mono ?_); rintro e w12 ⟨B9, d9, rfl, _, hR3, hb3⟩))
  go_ret
  exact ⟨rfl, below_then HB1.out HB1.out.size (below_then (below_then K.out K.out.size hb2) (Nat.le_trans K.out.size hb2.size) hb3)⟩
end Go.Proofs.Ytheocodbceidlaa.A
