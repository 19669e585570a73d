/- octet: the walk of the stage's theorem. -/
import Derived.Test.YtheocodbceidlaaHldP
set_option linter.unusedVariables false
set_option linter.unusedSimpArgs false
namespace Go.Proofs.Ytheocodbceidlaa.A
open Go.RowKit Go.Proofs.YtheocodbceidlaaW.PrintWords Go.Proofs.YtheocodbceidlaaW.PrintLast Go.Proofs.YtheocodbceidlaaW.PrintMore

theorem C_at {k : IntKind} {w : World} {A : Option Addr} {l : List Int} (h : Kd.C (Kd.int k) w A l.length l) (i : Nat) (hi : i < l.length) : ∃ ad, A = some ad ∧ w.cell? (ad.add i) = some (.int k l[i]) := by
  obtain ⟨ad, e, hc⟩ := Kd.at_int h (i : Int) (by omega) (by omega)
  refine ⟨ad, e, ?_⟩
  rw [Int.toNat_natCast] at hc
  rw [hc]
  simp [rd, List.getElem?_eq_getElem hi]
theorem putS4 (n : Int) (hn : 0 ≤ n ∧ n < 4294967296) : putS n 4 = (b4 n, 0) := by
  unfold putS
  rw [if_neg (by decide), if_neg (by simp [two]; omega)]
  simp

theorem holds_long (m n x : Int) (A : Option Addr) (k c : Nat) (w : World) (h1 : k ≤ 140737488351232) (h : 20 < k) :
    Calls Try.prog 5 #[.int .u32 m, .int .u32 n, .int .i64 x, .slice A k c] w fun e w' => e = .returned (.bool true) ∧ Below w.heap.size w w' := by
  have ha' : decide ((20 : Int) < (k : Int)) = true := by simp; omega
  clear h
  go_enter Try.func5, Try.ntmps5
  go_wp2_with (go_at_call 8; (with_reducible refine (works_any _).mono ?_); rintro e w1 ⟨rfl, hb⟩)
  go_ret
  exact ⟨rfl, hb⟩


theorem flat_len (l : List Int) : (l.flatMap b4).length = 4 * l.length := by
  induction l with
  | nil => rfl
  | cons x l ih => rw [List.flatMap_cons, List.length_append, ih]; simp [b4]; omega
theorem flat_byt (l : List Int) (h : ∀ y ∈ l, 0 ≤ y ∧ y < 4294967296) : Byt (l.flatMap b4) := by
  intro z hz
  obtain ⟨y, hy, hz⟩ := List.mem_flatMap.1 hz
  exact b4_byt y (h y hy).1 (h y hy).2 z hz
theorem flat_succ (l : List Int) (k : Nat) (h : k < l.length) : (l.take (k + 1)).flatMap b4 = (l.take k).flatMap b4 ++ b4 l[k] := by
  rw [List.take_succ_eq_append_getElem h, List.flatMap_append]
  simp
theorem val_b4 (n : Int) (h : 0 ≤ n ∧ n < 4294967296) : val (b4 n) = n := by
  simp [val, valf, b4]
  omega
theorem flat_rd (l : List Int) (h : ∀ y ∈ l, 0 ≤ y ∧ y < 4294967296) (k : Nat) (hk : k < l.length) : rdS (l.flatMap b4) ((4 * k : Nat) : Int) ((4 : Nat) : Int) = (l[k], 0) := by
  have e : l.flatMap b4 = (l.take k).flatMap b4 ++ b4 l[k] ++ (l.drop (k + 1)).flatMap b4 := by
    rw [← flat_succ l k hk, ← List.flatMap_append, List.take_append_drop]
  have hl : ((l.take k).flatMap b4).length = 4 * k := by rw [flat_len, List.length_take]; omega
  rw [e, ← hl]
  exact rdS_mid _ _ _ (by decide) (by simp [b4]) (val_b4 _ (h _ (List.getElem_mem hk)))
set_option maxHeartbeats 2000000 in
set_option maxRecDepth 100000 in
theorem holds_short (m n x : Int) (hm : 0 ≤ m ∧ m < 4294967296) (hn : 0 ≤ n ∧ n < 4294967296) (am an : List Int) (em en : Int) (hsm : putS m x = (am, em)) (hsn : putS n x = (an, en)) (he : 0 ≤ em ∧ em ≤ 4 ∧ 0 ≤ en ∧ en ≤ 4)
    (hless : em + en = 0 → (!Op.bytesLess (strOfNums am).toList (strOfNums an).toList == decide (m < n)) = false)
    (A : Option Addr) (l : List Int) (c : Nat) (w : World) (h20 : l.length ≤ 20)
    (hr : Kd.C (Kd.int .u32) w A l.length l) (hc : l.length ≤ c) (hl : ∀ y ∈ l, 0 ≤ y ∧ y < 4294967296) :
    Calls Try.prog 5 #[.int .u32 m, .int .u32 n, .int .i64 x, .slice A l.length c] w fun e w' => e = .returned (.bool true) ∧ Below w.heap.size w w' := by
  have ha' : decide ((20 : Int) < (l.length : Int)) = false := by simp; omega
  have HSM := Aside0.mk hsm
  have HSN := Aside0.mk hsn
  have HM := Aside0.mk hm
  have HN := Aside0.mk hn
  have HL := Aside0.mk hl
  have HR := Aside0.mk hr
  have HLS := Aside0.mk hless
  obtain ⟨e1, e2, e3, e4⟩ := he
  clear hsm hsn hm hn hl hr hless
  go_enter Try.func5, Try.ntmps5
  go_wp2_with fail
  refine (put_spec m x am em HM.out HSM.out _).mono ?_
  rintro ea w1 ⟨B, d, rfl, hR, hb⟩
  have R1 := Aside0.mk hR; clear hR
  have K1 := Aside0.mk hb; clear hb
  go_wp2_with fail
  refine (put_spec n x an en HN.out HSN.out _).mono ?_
  rintro eb w2 ⟨B2, d2, rfl, hR2, hb2⟩
  have hcv : (convert 23 9 (.slice B am.length d)).run Try.prog w2 = .ok (.string (strOfNums am)) w2 := Kd.C_string Try.underlying23 Try.underlying5 Try.underlying9 (Kd.C_below (Kd.R_reads' R1.out).2.2 hb2)
  have hcv2 : (convert 23 9 (.slice B2 an.length d2)).run Try.prog w2 = .ok (.string (strOfNums an)) w2 := Kd.C_string Try.underlying23 Try.underlying5 Try.underlying9 (Kd.R_reads' hR2).2.2
  have K2 := Aside0.mk (below_then K1.out K1.out.size hb2)
  clear hR2 hb2
  have hz : Aside0 (w.heap.size ≤ w2.heap.size) := ⟨K2.out.size⟩
  rcases Bool.eq_false_or_eq_true ((em + en) == 0) with hz0 | hz0
  all_goals
    try have htest := HLS.out (by simpa using hz0)
    go_wp2_with (first | (go_at_call 11; (with_reducible refine (num_any _ _).mono ?_); rintro e w' ⟨rfl, rfl⟩))
    try clear htest
    clear hz0
  all_goals
    clear hcv hcv2
    go_loopw [13, 14] (fun v i wr => ∃ k : Nat, k ≤ l.length ∧ i = .int .i64 k ∧ Aside0 (Kd.R (Kd.int .u8) 5 wr w2.heap.size (fun _ => True) v ((l.take k).flatMap b4)) ∧ Aside0 (Below w2.heap.size w2 wr)) (fun _ i _ => l.length - (intOf i).toNat)
    case atStart => exact ⟨0, Nat.zero_le _, rfl, ⟨Kd.R_nil _ _ _ _ _⟩, ⟨Below.refl _ _⟩⟩
    case round =>
      obtain ⟨k, hk, rfl, hRv, hB⟩ := hrel
      by_cases hlt : k < l.length
      · obtain ⟨ad, rfl, hcell⟩ := C_at (Kd.C_below HR.out (below_then K2.out K2.out.size (hB.out.mono (Nat.le_refl _)))) k hlt
        have hy := HL.out l[k] (List.getElem_mem hlt)
        have hkk : (k : Int) < (l.length : Int) := by omega
        go_wp2_with fail
        refine (put_spec l[k] 4 (b4 l[k]) 0 hy (putS4 _ hy) _).mono ?_
        rintro e5 w5 ⟨B5, d5, rfl, hR5, hb5⟩
        have R5 := Aside0.mk hR5
        replace hB := Aside0.mk (below_then hB.out hB.out.size hb5)
        replace hRv := Aside0.mk (Kd.R_below hRv.out hb5)
        clear hR5 hb5 hy
        go_wp2_with (first
          | (go_at_call 11; (with_reducible refine (num_any _ _).mono ?_); rintro e w' ⟨rfl, rfl⟩)
          | (at_builtin; go_loud (refine Kd.R_append_row (w0 := w2) (Value.int .u8) (0:Int) (h1 := fun _ => rfl) w2.heap.size rfl (.tmp 71) (.tmp 72) 23 5 (.int .u8 0) 1 rfl Try.underlying23 rfl rfl (by decide) u13 ((l.take k).flatMap b4) (b4 l[k]) B5 (b4 l[k]).length d5 (fun _ => True) rfl rfl (fun _ _ => trivial) hRv.out (Kd.R_reads' R5.out).2.2 hB.out hB.out.size (by rw [flat_len, List.length_take]; simp [b4]; omega) ?_); intro v6 w6 hR6 hB6 _ _; have R6 := Aside0.mk hR6; have B6 := Aside0.mk hB6; clear hR6 hB6))
        go_roundw
        case rel => exact ⟨k + 1, by omega, by go_num, ⟨by rw [flat_succ l k hlt]; exact R6.out⟩, B6⟩
        case measure => simp [intOf]; omega
      · obtain rfl : k = l.length := by omega
        have R7 := Aside0.mk (by have := hRv.out; rwa [List.take_length] at this : Kd.R (Kd.int .u8) 5 wr w2.heap.size (fun _ => True) u13 (l.flatMap b4))
        have F1 := flat_byt l HL.out
        have F2 := flat_len l
        have F3 := flat_rd l HL.out
        obtain ⟨L, hLL⟩ : ∃ L, l.flatMap b4 = L := ⟨_, rfl⟩
        rw [hLL] at R7 F1 F2 F3
        clear hLL
        obtain ⟨N7, C7, k7, hN7, rfl, hk7, hC7, _⟩ := R_any R7.out
        subst hN7
        have HC7 := Aside0.mk hC7
        have HBY := Aside0.mk F1
        have HN8 := Aside0.mk F2
        have HRD := Aside0.mk F3
        clear F1 F2 F3
        have KW := Aside0.mk (below_then K2.out K2.out.size hB.out)
        clear hC7 hRv R7
        go_wp2_with fail
        refine (new_any C7 L k7 _ HC7.out hk7 (by have := HN8.out; omega)).mono ?_
        rintro e8 w8 ⟨g, B8, d8, rfl, hR8, hb8⟩
        have R8 := Aside0.mk hR8
        have K8 := Aside0.mk hb8
        have KW8 := Aside0.mk (below_then KW.out KW.out.size hb8)
        have hz8 := Aside0.mk (Nat.le_trans KW.out.size (Nat.le_refl wr.heap.size))
        clear hR8 hb8
        go_wp2_with fail
        go_loopw [18] (fun i ws => ∃ j : Nat, j ≤ l.length ∧ i = .int .i64 j ∧ Aside0 (Rdr ws wr.heap.size g B8 d8 L ((4 * j : Nat) : Int)) ∧ Aside0 (Below w.heap.size w ws)) (fun i _ => l.length - (intOf i).toNat)
        case atStart => exact ⟨0, Nat.zero_le _, rfl, R8, KW8⟩
        case round =>
          obtain ⟨j, hj, rfl, hRd, hBd⟩ := hrel
          by_cases hlt : j < l.length
          · obtain ⟨ad, rfl, hcell0⟩ := C_at HR.out j hlt
            have hjj : (j : Int) < (l.length : Int) := by omega
            go_wp2_with fail
            refine (rtake_ok hRd.out HBY.out (by have := HN8.out; omega) 4 l[j] (HRD.out j hlt)).mono ?_
            rintro e9 w9 ⟨rfl, hR9, hb9, _⟩
            have R9 := Aside0.mk hR9
            have B9 := Aside0.mk (hBd.out.trans (hb9.mono hz8.out))
            have hcell : w9.cell? (ad.add j) = some (.int .u32 l[j]) := pw_cell_below B9.out hcell0
            clear hR9 hb9 hcell0
            go_wp2_with (first | (go_at_call 11; (with_reducible refine (num_any _ _).mono ?_); rintro e w' ⟨rfl, rfl⟩))
            go_roundw
            case rel => exact ⟨j + 1, by omega, by go_num, ⟨by have := R9.out; rwa [show 4 * j + 4 = 4 * (j + 1) by omega] at this⟩, B9⟩
            case measure => simp [intOf]; omega
          · obtain rfl : j = l.length := by omega
            go_wp2_with (first | (go_at_call 16; refine (rleft hRd.out (by have := HN8.out; omega) 0 (by have := HN8.out; omega)).mono ?_; rintro e w9 ⟨rfl, _, hb9⟩) | (go_at_call 8; (with_reducible refine (works_any _).mono ?_); rintro e w10 ⟨rfl, hb10⟩))
            go_ret
            exact ⟨rfl, below_then (below_then hBd.out hBd.out.size hb9) (Nat.le_trans hBd.out.size hb9.size) hb10⟩
theorem holds_walk (m : Int) (hm : (Lit.int .u32 m).wf = true) (n : Int) (hn : (Lit.int .u32 n).wf = true) (x : Int) (hx : (Lit.int .i64 x).wf = true)
    (A : Option Addr) (l : List Int) (c : Nat) {w : World} (hr : Kd.C (Kd.int .u32) w A l.length l) (hc : l.length ≤ c) (hw : ∀ y ∈ l, (Lit.int .u32 y).wf = true) (hm : l.length * 4 ≤ 140737488351232) (w' : World) (hw' : w' = w) :
    Calls Try.prog 5 #[.int .u32 m, .int .u32 n, .int .i64 x, .slice A l.length c] w' fun e w' => e = .returned (.bool true) ∧ Below w.heap.size w w' := by
  subst hw'
  have h1 := bounds_u32 ‹(Lit.int .u32 m).wf = true›
  have h2 := bounds_u32 hn
  by_cases h : 20 < l.length
  · exact holds_long m n x A _ c _ (by omega) h
  · have pe : ∀ z, 0 ≤ (putS z x).2 ∧ (putS z x).2 ≤ 4 := by
      intro z; unfold putS; split
      · decide
      · split <;> simp
    refine holds_short m n x (by omega) (by omega) (putS m x).1 (putS n x).1 (putS m x).2 (putS n x).2 rfl rfl ⟨(pe m).1, (pe m).2, (pe n).1, (pe n).2⟩ ?_ A l c _ (by omega) hr hc ?_
    · intro h0
      have a1 := (pe m).1
      have a2 := (pe n).1
      have p1 := putS_ok (n := m) (x := x) (m := (putS m x).1) (by omega) (by rw [show (0 : Int) = (putS m x).2 by omega])
      have p2 := putS_ok (n := n) (x := x) (m := (putS n x).1) (by omega) (by rw [show (0 : Int) = (putS n x).2 by omega])
      rw [str_less _ _ p1.2.2.2 p2.2.2.2 (by have := p1.2.1; have := p2.2.1; omega), p1.2.2.1, p2.2.2.1]
      cases decide (m < n) <;> rfl
    · intro y hy
      have := bounds_u32 (hw y hy)
      omega
end Go.Proofs.Ytheocodbceidlaa.A
