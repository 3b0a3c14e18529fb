/- Part of the proof of NoteShows: on every float64 the program and the document's answer show the same. No condition. -/
import Derived.Test.YtlhciggmllddkaaZPNubx0
namespace Go.Proofs.Ytlhciggmllddkaa.PNub
open Go.Proofs.Ytlhciggmllddkaa.PNum
open Go.RowKit Go.Proofs.YtlhciggmllddkaaW.PrintWords Go.Proofs.YtlhciggmllddkaaW.PrintLast Go.Proofs.YtlhciggmllddkaaW.PrintMore
attribute [local go_sem] max2_int min2_int max_two min_two max_three min_three max_four min_four   -- for this text's walks alone
set_option linter.unusedVariables false
set_option linter.unusedSimpArgs false
def note_shortest.l0 : Nat → Nat → List Int → List Int → Int → Int → Option (ByteArray × Int)
 | 0, _, _, _, _, _ => none
 | k + 1, x0, x4, x5, x6, x7 => if x7 ≤ 17 then ((note_digitsOf.f k x0 x4 x5 x6 x7).bind fun bt108 => (if bt108.2.2 = true then (some (bt108.1, bt108.2.1)) else (note_shortest.l0 k x0 x4 x5 x6 (wrap64 (x7 + 1))))) else (some ((⟨#[]⟩ : ByteArray), 0))
def note_shortest.f (k : Nat) (a0 : Nat) : Option (ByteArray × Int) := (note_fraction.f k a0).bind fun bt101 => ((note_magnitude.f k bt101.1 bt101.2).bind fun t107 => (note_shortest.l0 k a0 bt101.1 bt101.2 t107 1))
set_option maxHeartbeats 8000000 in
set_option maxRecDepth 100000 in
theorem note_shortest.calls (k : Nat) (a0 : Nat) (r1 : ByteArray) (r2 : Int) (w : World) (h : note_shortest.f k a0 = some (r1, r2)) :
  Calls Try.prog 22 #[.float .f64 a0] w fun e w' => e = .returned (.tuple #[.string r1, .int .i64 r2]) ∧ Below w.heap.size w w' := by
 have HB := Aside0.mk (Below.refl w.heap.size w)
 have H : ((note_fraction.f k a0).bind fun bt101 => ((note_magnitude.f k bt101.1 bt101.2).bind fun t107 => (note_shortest.l0 k a0 bt101.1 bt101.2 t107 1))) = some (r1, r2) := h
 clear h
 replace H := Option.bind_eq_some_iff.mp H
 obtain ⟨⟨t101, t102⟩, A20, H⟩ := H
 replace H : ((note_magnitude.f k t101 t102).bind fun t107 => (note_shortest.l0 k a0 t101 t102 t107 1)) = some (r1, r2) := H
 have A2 := Aside0.mk A20
 clear A20
 replace H := Option.bind_eq_some_iff.mp H
 obtain ⟨t107, A30, H⟩ := H
 replace H : (note_shortest.l0 k a0 t101 t102 t107 1) = some (r1, r2) := H
 have A3 := Aside0.mk A30
 clear A30
 have H' := Aside0.mk H
 clear H
 go_enter Try.func22, Try.ntmps22
 go_wp2_with (first | ((with_reducible refine gate_callee (f := 37) rfl ?_); refine goesL_ (some 13) rfl rfl Try.func37 (by kernel_rfl) rfl #[.float .f64 a0] rfl (by (try simp only [List.map_toArray, List.map_cons, List.map_nil]); first | done | rfl | (simp only [List.length_drop, List.length_take]; rfl)) ?_; (with_reducible refine (note_fraction.calls k a0 t101 t102 _ A2.out).mono ?_); rintro e w4 ⟨v103, v105, rfl, ho0, ho1, hb⟩; refine ⟨_, rfl, ?_⟩; have n0_ := Aside0.mk (Kd.R_lower ho0 (below_size (by repeat (first | (with_reducible first | exact HB.out | apply below_alloc | apply pw_below_drewN | apply below_drew1) | exact HB.out)))); have n1_ := Aside0.mk (Kd.R_lower ho1 (below_size (by repeat (first | (with_reducible first | exact HB.out | apply below_alloc | apply pw_below_drewN | apply below_drew1) | exact HB.out)))); have n2_ := Aside0.mk (below_step (by repeat (first | (with_reducible first | exact HB.out | apply below_alloc | apply pw_below_drewN | apply below_drew1) | exact HB.out)) hb); clear HB; have HO104 := n0_; have HO106 := n1_; have HB := n2_; clear n0_ n1_ n2_; (try clear hb); (try clear hb2); (try clear hk); (try clear hi); (try clear ho0); (try clear ho1); obtain ⟨Ao5, co5, eo5⟩ := Kd.R_slice HO104.out; subst eo5; obtain ⟨Ao6, co6, eo6⟩ := Kd.R_slice HO106.out; subst eo6) | ((with_reducible refine gate_callee (f := 38) rfl ?_); refine goesL_ (some 18) rfl rfl Try.func38 (by kernel_rfl) rfl #[.slice Ao5 t101.length co5, .slice Ao6 t102.length co6] rfl (by (try simp only [List.map_toArray, List.map_cons, List.map_nil]); first | done | rfl | (simp only [List.length_drop, List.length_take]; rfl)) ?_; (with_reducible refine (note_magnitude.calls k _ _ t101 _ _ t102 t107 _ ?side1 ?side2 ?side3 ?side4 A3.out).mono ?_); (case side1 => repeat (first | exact (Kd.R_reads' HO104.out).2.2 | (with_reducible refine Kd.C_alloc ?_ _) | (with_reducible refine Kd.C_drewN ?_ _) | (with_reducible refine Kd.C_drew ?_))); (case side2 => exact (Kd.R_reads' HO104.out).2.1); (case side3 => repeat (first | exact (Kd.R_reads' HO106.out).2.2 | (with_reducible refine Kd.C_alloc ?_ _) | (with_reducible refine Kd.C_drewN ?_ _) | (with_reducible refine Kd.C_drew ?_))); (case side4 => exact (Kd.R_reads' HO106.out).2.1); rintro e w7 ⟨rfl, hb⟩; refine ⟨_, rfl, ?_⟩; have n0_ := Aside0.mk (Kd.R_below (by (with_reducible repeat (first | apply Kd.R_alloc | apply Kd.R_drewN | apply Kd.R_drew)); exact HO104.out) hb); have n1_ := Aside0.mk (Kd.R_below (by (with_reducible repeat (first | apply Kd.R_alloc | apply Kd.R_drewN | apply Kd.R_drew)); exact HO106.out) hb); have n2_ := Aside0.mk (below_step (by repeat (first | (with_reducible first | exact HB.out | apply below_alloc | apply pw_below_drewN | apply below_drew1) | exact HB.out)) hb); clear HO104; clear HO106; clear HB; have HO104 := n0_; have HO106 := n1_; have HB := n2_; clear n0_ n1_ n2_; (try clear hb); (try clear hb2); (try clear hk); (try clear hi)))
 go_loopg [7] k (fun kq v7 w' => ∃ (x7_1 : Int), v7 = .int .i64 x7_1 ∧ Aside0 (note_shortest.l0 kq a0 t101 t102 t107 x7_1 = some (r1, r2)) ∧ Aside0 (kq ≤ k) ∧ Aside0 (Kd.R (Kd.int .u32) 105 w' w.heap.size (fun k_ => some k_ ≠ ((.slice Ao6 t102.length co6) : Value).ownBlock) (.slice Ao5 t101.length co5) t101) ∧ Aside0 (Kd.R (Kd.int .u32) 105 w' w.heap.size (fun k_ => some k_ ≠ ((.slice Ao5 t101.length co5) : Value).ownBlock) (.slice Ao6 t102.length co6) t102) ∧ Aside0 (Below w.heap.size w w'))
 case atStart => exact ⟨(1), (by first | rfl | (simp; done) | (simp [*]; done)), H', ⟨Nat.le_refl _⟩, ⟨by (with_reducible repeat (first | apply Kd.R_alloc | apply Kd.R_drewN | apply Kd.R_drew)); exact HO104.out⟩, ⟨by (with_reducible repeat (first | apply Kd.R_alloc | apply Kd.R_drewN | apply Kd.R_drew)); exact HO106.out⟩, ⟨by repeat (first | (with_reducible first | exact HB.out | apply below_alloc | apply pw_below_drewN | apply below_drew1) | exact HB.out)⟩⟩
 case round =>
  clear H'
  try clear c2
  try clear p2
  try clear c3
  obtain ⟨x7_1, rfl, HA, HK1, HO_4, HO_5, HB⟩ := hrel
  cases gk with
  | zero => exact absurd HA.out (by simp [note_shortest.l0])
  | succ k1 =>
   have H := HA.out
   clear HA
   simp only [note_shortest.l0] at H
   by_cases c8 : x7_1 ≤ 17
   ·rw [if_pos c8] at H
    have c8b0 : decide (x7_1 ≤ 17) = true := decide_eq_true c8
    clear c8
    replace H := Option.bind_eq_some_iff.mp H
    obtain ⟨⟨t108, t109, t110⟩, A90, H⟩ := H
    replace H : (if t110 = true then (some (t108, t109)) else (note_shortest.l0 k1 a0 t101 t102 t107 (wrap64 (x7_1 + 1)))) = some (r1, r2) := H
    have A9 := Aside0.mk A90
    clear A90
    by_cases c10 : t110 = true
    ·subst c10
     have H1 : (some (t108, t109)) = some (r1, r2) := by rw [if_pos rfl] at H; exact H
     clear H
     have H := H1
     clear H1
     simp only [Option.some.injEq, Prod.mk.injEq] at H
     obtain ⟨rfl, rfl⟩ := H
     go_wp2_with (first | ((with_reducible refine gate_callee (f := 39) rfl ?_); refine goesL_ (some 29) rfl rfl Try.func39 (by kernel_rfl) rfl #[.float .f64 a0, .slice Ao5 t101.length co5, .slice Ao6 t102.length co6, .int .i64 t107, .int .i64 x7_1] rfl (by (try simp only [List.map_toArray, List.map_cons, List.map_nil]); first | done | rfl | (simp only [List.length_drop, List.length_take]; rfl)) ?_; (with_reducible refine (note_digitsOf.calls k1 a0 _ _ t101 _ _ t102 t107 x7_1 t108 t109 true _ ?side1 ?side2 ?side3 ?side4 A9.out).mono ?_); (case side1 => repeat (first | exact (Kd.R_reads' HO_4.out).2.2 | (with_reducible refine Kd.C_alloc ?_ _) | (with_reducible refine Kd.C_drewN ?_ _) | (with_reducible refine Kd.C_drew ?_))); (case side2 => exact (Kd.R_reads' HO_4.out).2.1); (case side3 => repeat (first | exact (Kd.R_reads' HO_5.out).2.2 | (with_reducible refine Kd.C_alloc ?_ _) | (with_reducible refine Kd.C_drewN ?_ _) | (with_reducible refine Kd.C_drew ?_))); (case side4 => exact (Kd.R_reads' HO_5.out).2.1); rintro e w11 ⟨rfl, hb⟩; refine ⟨_, rfl, ?_⟩; have n0_ := Aside0.mk (Kd.R_below (by (with_reducible repeat (first | apply Kd.R_alloc | apply Kd.R_drewN | apply Kd.R_drew)); exact HO_4.out) hb); have n1_ := Aside0.mk (Kd.R_below (by (with_reducible repeat (first | apply Kd.R_alloc | apply Kd.R_drewN | apply Kd.R_drew)); exact HO_5.out) hb); have n2_ := Aside0.mk (below_step (by repeat (first | (with_reducible first | exact HB.out | apply below_alloc | apply pw_below_drewN | apply below_drew1) | exact HB.out)) hb); clear HO_4; clear HO_5; clear HB; have HO_4 := n0_; have HO_5 := n1_; have HB := n2_; clear n0_ n1_ n2_; (try clear hb); (try clear hb2); (try clear hk); (try clear hi)))
     go_ret2
     exact ⟨by first | rfl | (simp [errW_none, errW_some] <;> rfl) | (simp [*, errW_none, errW_some] <;> rfl), by repeat (first | (with_reducible first | exact HB.out | apply below_alloc | apply pw_below_drewN | apply below_drew1) | exact HB.out)⟩
    ·replace c10 := Bool.eq_false_iff.mpr c10
     subst c10
     have H1 : (note_shortest.l0 k1 a0 t101 t102 t107 (wrap64 (x7_1 + 1))) = some (r1, r2) := by rw [if_neg (show ¬ (false = true) by decide)] at H; exact H
     clear H
     have H := H1
     clear H1
     have H' := Aside0.mk H
     clear H
     go_wp2_with (first | ((with_reducible refine gate_callee (f := 39) rfl ?_); refine goesL_ (some 29) rfl rfl Try.func39 (by kernel_rfl) rfl #[.float .f64 a0, .slice Ao5 t101.length co5, .slice Ao6 t102.length co6, .int .i64 t107, .int .i64 x7_1] rfl (by (try simp only [List.map_toArray, List.map_cons, List.map_nil]); first | done | rfl | (simp only [List.length_drop, List.length_take]; rfl)) ?_; (with_reducible refine (note_digitsOf.calls k1 a0 _ _ t101 _ _ t102 t107 x7_1 t108 t109 false _ ?side1 ?side2 ?side3 ?side4 A9.out).mono ?_); (case side1 => repeat (first | exact (Kd.R_reads' HO_4.out).2.2 | (with_reducible refine Kd.C_alloc ?_ _) | (with_reducible refine Kd.C_drewN ?_ _) | (with_reducible refine Kd.C_drew ?_))); (case side2 => exact (Kd.R_reads' HO_4.out).2.1); (case side3 => repeat (first | exact (Kd.R_reads' HO_5.out).2.2 | (with_reducible refine Kd.C_alloc ?_ _) | (with_reducible refine Kd.C_drewN ?_ _) | (with_reducible refine Kd.C_drew ?_))); (case side4 => exact (Kd.R_reads' HO_5.out).2.1); rintro e w12 ⟨rfl, hb⟩; refine ⟨_, rfl, ?_⟩; have n0_ := Aside0.mk (Kd.R_below (by (with_reducible repeat (first | apply Kd.R_alloc | apply Kd.R_drewN | apply Kd.R_drew)); exact HO_4.out) hb); have n1_ := Aside0.mk (Kd.R_below (by (with_reducible repeat (first | apply Kd.R_alloc | apply Kd.R_drewN | apply Kd.R_drew)); exact HO_5.out) hb); have n2_ := Aside0.mk (below_step (by repeat (first | (with_reducible first | exact HB.out | apply below_alloc | apply pw_below_drewN | apply below_drew1) | exact HB.out)) hb); clear HO_4; clear HO_5; clear HB; have HO_4 := n0_; have HO_5 := n1_; have HB := n2_; clear n0_ n1_ n2_; (try clear hb); (try clear hb2); (try clear hk); (try clear hi)))
     go_roundg k1
     case measure => have := HK1.out; omega
     case rel => exact ⟨(wrap64 (x7_1 + 1)), (by first | rfl | (simp; done) | (simp [*]; done)), H', ⟨by have := HK1.out; omega⟩, ⟨by (with_reducible repeat (first | apply Kd.R_alloc | apply Kd.R_drewN | apply Kd.R_drew)); exact HO_4.out⟩, ⟨by (with_reducible repeat (first | apply Kd.R_alloc | apply Kd.R_drewN | apply Kd.R_drew)); exact HO_5.out⟩, ⟨by repeat (first | (with_reducible first | exact HB.out | apply below_alloc | apply pw_below_drewN | apply below_drew1) | exact HB.out)⟩⟩
   ·rw [if_neg c8] at H
    have c8b0 : decide (x7_1 ≤ 17) = false := decide_eq_false c8
    clear c8
    simp only [Option.some.injEq, Prod.mk.injEq] at H
    obtain ⟨rfl, rfl⟩ := H
    go_wp2
    go_ret2
    exact ⟨by first | rfl | (simp [errW_none, errW_some] <;> rfl) | (simp [*, errW_none, errW_some] <;> rfl), by repeat (first | (with_reducible first | exact HB.out | apply below_alloc | apply pw_below_drewN | apply below_drew1) | exact HB.out)⟩
mutual
def note_show.j2 : Nat → ByteArray → Int → Int → Option (ByteArray)
 | 0, _, _, _ => none
 | k + 1, x3, x4, x5 => if (wrap64 (x4 - 1)) < 0 then (if 1 + 1 ≤ 9223372036854775807 then ((note_decimal.f k (IntKind.u64.wrap (mx (wrap64 (x4 - 1)) (wrap64 (1 - x4))))).bind fun t116 => (if ((⟨#[101]⟩ : ByteArray) ++ (⟨#[45]⟩ : ByteArray)).size + t116.size ≤ 9223372036854775807 then (if x5 > 1 then (if 0 ≤ 1 then (if 1 ≤ (x3.size : Int) then (if (x3.extract 0 1).size + 1 ≤ 9223372036854775807 then (if ((x3.extract 0 1) ++ (⟨#[46]⟩ : ByteArray)).size + (x3.extract 1 x3.size).size ≤ 9223372036854775807 then (if (((x3.extract 0 1) ++ (⟨#[46]⟩ : ByteArray)) ++ (x3.extract 1 x3.size)).size + (((⟨#[101]⟩ : ByteArray) ++ (⟨#[45]⟩ : ByteArray)) ++ t116).size ≤ 9223372036854775807 then (some ((((x3.extract 0 1) ++ (⟨#[46]⟩ : ByteArray)) ++ (x3.extract 1 x3.size)) ++ (((⟨#[101]⟩ : ByteArray) ++ (⟨#[45]⟩ : ByteArray)) ++ t116))) else (none)) else (none)) else (none)) else (none)) else (none)) else (if x3.size + (((⟨#[101]⟩ : ByteArray) ++ (⟨#[45]⟩ : ByteArray)) ++ t116).size ≤ 9223372036854775807 then (some (x3 ++ (((⟨#[101]⟩ : ByteArray) ++ (⟨#[45]⟩ : ByteArray)) ++ t116))) else (none))) else (none))) else (none)) else (if 1 + 1 ≤ 9223372036854775807 then ((note_decimal.f k (IntKind.u64.wrap (mx (wrap64 (x4 - 1)) (wrap64 (1 - x4))))).bind fun t117 => (if ((⟨#[101]⟩ : ByteArray) ++ (⟨#[43]⟩ : ByteArray)).size + t117.size ≤ 9223372036854775807 then (if x5 > 1 then (if 0 ≤ 1 then (if 1 ≤ (x3.size : Int) then (if (x3.extract 0 1).size + 1 ≤ 9223372036854775807 then (if ((x3.extract 0 1) ++ (⟨#[46]⟩ : ByteArray)).size + (x3.extract 1 x3.size).size ≤ 9223372036854775807 then (if (((x3.extract 0 1) ++ (⟨#[46]⟩ : ByteArray)) ++ (x3.extract 1 x3.size)).size + (((⟨#[101]⟩ : ByteArray) ++ (⟨#[43]⟩ : ByteArray)) ++ t117).size ≤ 9223372036854775807 then (some ((((x3.extract 0 1) ++ (⟨#[46]⟩ : ByteArray)) ++ (x3.extract 1 x3.size)) ++ (((⟨#[101]⟩ : ByteArray) ++ (⟨#[43]⟩ : ByteArray)) ++ t117))) else (none)) else (none)) else (none)) else (none)) else (none)) else (if x3.size + (((⟨#[101]⟩ : ByteArray) ++ (⟨#[43]⟩ : ByteArray)) ++ t117).size ≤ 9223372036854775807 then (some (x3 ++ (((⟨#[101]⟩ : ByteArray) ++ (⟨#[43]⟩ : ByteArray)) ++ t117))) else (none))) else (none))) else (none))
def note_show.j0 : Nat → ByteArray → Int → Int → Bool → Option (ByteArray)
 | 0, _, _, _, _ => none
 | k + 1, x3, x4, x5, x25 => if x25 = true then ((strings_Repeat.f (⟨#[48]⟩ : ByteArray) (wrap64 (x4 - x5))).bind fun t114 => (if x3.size + t114.size ≤ 9223372036854775807 then (some (x3 ++ t114)) else (none))) else (if x4 ≥ 1 then (note_show.j1 k x3 x4 x5 (decide (x4 ≤ 21))) else (note_show.j1 k x3 x4 x5 false))
def note_show.j1 : Nat → ByteArray → Int → Int → Bool → Option (ByteArray)
 | 0, _, _, _, _ => none
 | k + 1, x3, x4, x5, x39 => if x39 = true then (if 0 ≤ x4 then (if x4 ≤ (x3.size : Int) then (if (x3.extract 0 (x4 : Int).toNat).size + 1 ≤ 9223372036854775807 then (if ((x3.extract 0 (x4 : Int).toNat) ++ (⟨#[46]⟩ : ByteArray)).size + (x3.extract (x4 : Int).toNat x3.size).size ≤ 9223372036854775807 then (some (((x3.extract 0 (x4 : Int).toNat) ++ (⟨#[46]⟩ : ByteArray)) ++ (x3.extract (x4 : Int).toNat x3.size))) else (none)) else (none)) else (none)) else (none)) else (if x4 ≥ (-5) then (if x4 ≤ 0 then ((strings_Repeat.f (⟨#[48]⟩ : ByteArray) (wrap64 (-x4))).bind fun t115 => (if 2 + t115.size ≤ 9223372036854775807 then (if ((⟨#[48, 46]⟩ : ByteArray) ++ t115).size + x3.size ≤ 9223372036854775807 then (some (((⟨#[48, 46]⟩ : ByteArray) ++ t115) ++ x3)) else (none)) else (none))) else (note_show.j2 k x3 x4 x5)) else (note_show.j2 k x3 x4 x5))
def note_show.f : Nat → Nat → Option (ByteArray)
 | 0, _ => none
 | k + 1, a0 => if (feq a0 0) = true then (some (⟨#[48]⟩ : ByteArray)) else (if (flt a0 0) = true then ((note_show.f k (fneg a0)).bind fun t111 => (if 1 + t111.size ≤ 9223372036854775807 then (some ((⟨#[45]⟩ : ByteArray) ++ t111)) else (none))) else ((note_shortest.f k a0).bind fun bt112 => (if bt112.2 ≥ (bt112.1.size : Int) then (note_show.j0 k bt112.1 bt112.2 (bt112.1.size : Int) (decide (bt112.2 ≤ 21))) else (note_show.j0 k bt112.1 bt112.2 (bt112.1.size : Int) false))))
end
set_option maxHeartbeats 8000000 in
set_option maxRecDepth 100000 in
theorem note_show.calls (k : Nat) : ∀ (a0 : Nat) (r : ByteArray) (w : World) (h : note_show.f k a0 = some r),
  Calls Try.prog 16 #[.float .f64 a0] w fun e w' => e = .returned (.string r) ∧ Below w.heap.size w w' := by
 induction k using Nat.strongRecOn with
 | _ k ih =>
 intro a0 r w h
 cases k with
 | zero => exact absurd h (by simp [note_show.f])
 | succ k =>
 simp only [note_show.f] at h
 have HB := Aside0.mk (Below.refl w.heap.size w)
 have H : (if (feq a0 0) = true then (some (⟨#[48]⟩ : ByteArray)) else (if (flt a0 0) = true then ((note_show.f k (fneg a0)).bind fun t111 => (if 1 + t111.size ≤ 9223372036854775807 then (some ((⟨#[45]⟩ : ByteArray) ++ t111)) else (none))) else ((note_shortest.f k a0).bind fun bt112 => (if bt112.2 ≥ (bt112.1.size : Int) then (note_show.j0 k bt112.1 bt112.2 (bt112.1.size : Int) (decide (bt112.2 ≤ 21))) else (note_show.j0 k bt112.1 bt112.2 (bt112.1.size : Int) false))))) = some r := h
 clear h
 by_cases c2 : (feq a0 0) = true
 ·rw [if_pos c2] at H
  have c2b0 : (feq a0 0) = true := c2
  clear c2
  obtain rfl := Option.some.inj H
  go_enter Try.func16, Try.ntmps16
  go_wp2
  repeat (go_quiet (fail); try go_wp2)
  go_ret
  exact ⟨by first | rfl | (simp [errW_none, errW_some] <;> rfl) | (simp [*, errW_none, errW_some] <;> rfl), by repeat (first | (with_reducible first | exact HB.out | apply below_alloc | apply pw_below_drewN | apply below_drew1) | exact HB.out)⟩
 ·rw [if_neg c2] at H
  have c2b0 : (feq a0 0) = false := by simpa using c2
  clear c2
  by_cases c3 : (flt a0 0) = true
  ·rw [if_pos c3] at H
   have c3b0 : (flt a0 0) = true := c3
   clear c3
   replace H := Option.bind_eq_some_iff.mp H
   obtain ⟨t111, A40, H⟩ := H
   replace H : (if 1 + t111.size ≤ 9223372036854775807 then (some ((⟨#[45]⟩ : ByteArray) ++ t111)) else (none)) = some r := H
   have A4 := Aside0.mk A40
   clear A40
   by_cases c5 : 1 + t111.size ≤ 9223372036854775807
   ·rw [if_pos c5] at H
    have c5b0 := eq_true c5
    have c5b1 : decide (1 + t111.size ≤ 9223372036854775807) = true := decide_eq_true c5
    try have c5b2 : (9223372036854775807 < 1 + t111.size) = False := eq_false (Nat.not_lt.2 c5)
    obtain rfl := Option.some.inj H
    go_enter Try.func16, Try.ntmps16
    go_wp2_with (first | (go_at_call 16; (with_reducible refine (ih k (by omega) (fneg a0) t111 _ A4.out).mono ?_); rintro e w6 ⟨rfl, hb⟩; have n0_ := Aside0.mk (below_step (by repeat (first | (with_reducible first | exact HB.out | apply below_alloc | apply pw_below_drewN | apply below_drew1) | exact HB.out)) hb); clear HB; have HB := n0_; clear n0_; (try clear hb); (try clear hb2); (try clear hk); (try clear hi)))
    repeat (go_quiet (first | (go_at_call 16; (with_reducible refine (ih k (by omega) (fneg a0) t111 _ A4.out).mono ?_); rintro e w6 ⟨rfl, hb⟩; have n0_ := Aside0.mk (below_step (by repeat (first | (with_reducible first | exact HB.out | apply below_alloc | apply pw_below_drewN | apply below_drew1) | exact HB.out)) hb); clear HB; have HB := n0_; clear n0_; (try clear hb); (try clear hb2); (try clear hk); (try clear hi))); try go_wp2_with (first | (go_at_call 16; (with_reducible refine (ih k (by omega) (fneg a0) t111 _ A4.out).mono ?_); rintro e w6 ⟨rfl, hb⟩; have n0_ := Aside0.mk (below_step (by repeat (first | (with_reducible first | exact HB.out | apply below_alloc | apply pw_below_drewN | apply below_drew1) | exact HB.out)) hb); clear HB; have HB := n0_; clear n0_; (try clear hb); (try clear hb2); (try clear hk); (try clear hi))))
    go_ret
    exact ⟨by first | rfl | (simp [errW_none, errW_some] <;> rfl) | (simp [*, errW_none, errW_some] <;> rfl), by repeat (first | (with_reducible first | exact HB.out | apply below_alloc | apply pw_below_drewN | apply below_drew1) | exact HB.out)⟩
   ·rw [if_neg c5] at H
    exact absurd H (by simp)
  ·rw [if_neg c3] at H
   have c3b0 : (flt a0 0) = false := by simpa using c3
   clear c3
   replace H := Option.bind_eq_some_iff.mp H
   obtain ⟨⟨t112, t113⟩, A70, H⟩ := H
   replace H : (if t113 ≥ (t112.size : Int) then (note_show.j0 k t112 t113 (t112.size : Int) (decide (t113 ≤ 21))) else (note_show.j0 k t112 t113 (t112.size : Int) false)) = some r := H
   have A7 := Aside0.mk A70
   clear A70
   have HC8 := Aside0.mk H
   clear H
   go_enter Try.func16, Try.ntmps16
   go_upto_block 1 with (first | (go_at_call 22; (with_reducible refine (note_shortest.calls k a0 t112 t113 _ A7.out).mono ?_); rintro e w9 ⟨rfl, hb⟩; have n0_ := Aside0.mk (below_step (by repeat (first | (with_reducible first | exact HB.out | apply below_alloc | apply pw_below_drewN | apply below_drew1) | exact HB.out)) hb); clear HB; have HB := n0_; clear n0_; (try clear hb); (try clear hb2); (try clear hk); (try clear hi)))
   repeat (go_quiet (first | (go_at_call 22; (with_reducible refine (note_shortest.calls k a0 t112 t113 _ A7.out).mono ?_); rintro e w9 ⟨rfl, hb⟩; have n0_ := Aside0.mk (below_step (by repeat (first | (with_reducible first | exact HB.out | apply below_alloc | apply pw_below_drewN | apply below_drew1) | exact HB.out)) hb); clear HB; have HB := n0_; clear n0_; (try clear hb); (try clear hb2); (try clear hk); (try clear hi))); go_upto_block 1 with (first | (go_at_call 22; (with_reducible refine (note_shortest.calls k a0 t112 t113 _ A7.out).mono ?_); rintro e w9 ⟨rfl, hb⟩; have n0_ := Aside0.mk (below_step (by repeat (first | (with_reducible first | exact HB.out | apply below_alloc | apply pw_below_drewN | apply below_drew1) | exact HB.out)) hb); clear HB; have HB := n0_; clear n0_; (try clear hb); (try clear hb2); (try clear hk); (try clear hi))))
   (try simp only [Act.put, List.setIfInBounds_toArray, List.set_cons_zero, List.set_cons_succ])
   go_cut [] (fun wc => ∃ (kq : Nat), Aside0 (note_show.j2 kq t112 t113 (t112.size : Int) = some r) ∧ Aside0 (kq ≤ k) ∧ Aside0 (Below w.heap.size w wc))
   case first =>
    have H := HC8.out
    clear HC8
    have HC10 := Aside0.mk H
    clear H
    go_upto_region 7 with (fail)
    repeat (go_quiet (fail); go_upto_region 7 with (fail))
    go_cut [25] (fun v25 wc => ∃ (kq : Nat) (x25_9 : Bool), v25 = .bool x25_9 ∧ Aside0 (note_show.j0 kq t112 t113 (t112.size : Int) x25_9 = some r) ∧ Aside0 (kq ≤ k) ∧ Aside0 (Below w.heap.size w wc))
    case first =>
     have H := HC10.out
     clear HC10
     by_cases c11 : t113 ≥ (t112.size : Int)
     ·rw [if_pos c11] at H
      have c11b0 : decide ((t112.size : Int) ≤ t113) = true := decide_eq_true c11
      clear c11
      (first | rw [c11b0] | (simp only [i64_w, i32_w]; rw [c11b0]) | skip)
      have H' := Aside0.mk H
      clear H
      go_wp2
      repeat (go_quiet (fail); try go_wp2)
      go_meet
      case rel => exact ⟨_, (decide (t113 ≤ 21)), (by first | rfl | (simp; done) | (simp [*]; done)), H', ⟨by first | omega | exact Nat.le_refl _⟩, ⟨by repeat (first | (with_reducible first | exact HB.out | apply below_alloc | apply pw_below_drewN | apply below_drew1) | exact HB.out)⟩⟩
     ·rw [if_neg c11] at H
      have c11b0 : decide ((t112.size : Int) ≤ t113) = false := decide_eq_false c11
      clear c11
      (first | rw [c11b0] | (simp only [i64_w, i32_w]; rw [c11b0]) | skip)
      have H' := Aside0.mk H
      clear H
      go_wp2
      repeat (go_quiet (fail); try go_wp2)
      go_meet
      case rel => exact ⟨_, (false), (by first | rfl | (simp; done) | (simp [*]; done)), H', ⟨by first | omega | exact Nat.le_refl _⟩, ⟨by repeat (first | (with_reducible first | exact HB.out | apply below_alloc | apply pw_below_drewN | apply below_drew1) | exact HB.out)⟩⟩
    case rest =>
     clear HC10
     try clear c1
     try clear c2
     try clear c2b0
     try clear p2
     try clear c3
     try clear c3b0
     try clear c5
     try clear c5b0
     try clear c5b1
     try clear c5b2
     try clear c11
     try clear c11b0
     obtain ⟨kq, x25_9, rfl, HA, HJ9, HB⟩ := hcut
     cases kq with
     | zero => exact absurd HA.out (by simp [note_show.j0])
     | succ kj9 =>
      have H := HA.out
      clear HA
      simp only [note_show.j0] at H
      by_cases c12 : x25_9 = true
      ·subst c12
       have H1 : ((strings_Repeat.f (⟨#[48]⟩ : ByteArray) (wrap64 (t113 - (t112.size : Int)))).bind fun t114 => (if t112.size + t114.size ≤ 9223372036854775807 then (some (t112 ++ t114)) else (none))) = some r := by rw [if_pos rfl] at H; exact H
       clear H
       have H := H1
       clear H1
       replace H := Option.bind_eq_some_iff.mp H
       obtain ⟨t114, A130, H⟩ := H
       replace H : (if t112.size + t114.size ≤ 9223372036854775807 then (some (t112 ++ t114)) else (none)) = some r := H
       have A13 := Aside0.mk A130
       clear A130
       by_cases c14 : t112.size + t114.size ≤ 9223372036854775807
       ·rw [if_pos c14] at H
        have c14b0 := eq_true c14
        have c14b1 : decide (t112.size + t114.size ≤ 9223372036854775807) = true := decide_eq_true c14
        try have c14b2 : (9223372036854775807 < t112.size + t114.size) = False := eq_false (Nat.not_lt.2 c14)
        obtain rfl := Option.some.inj H
        go_wp2_with (first | (go_at_call 23; (with_reducible refine (strings_Repeat.calls (⟨#[48]⟩ : ByteArray) (wrap64 (t113 - (t112.size : Int))) t114 _ A13.out).mono ?_); rintro e w15 ⟨rfl, hb⟩; have n0_ := Aside0.mk (below_step (by repeat (first | (with_reducible first | exact HB.out | apply below_alloc | apply pw_below_drewN | apply below_drew1) | exact HB.out)) hb); clear HB; have HB := n0_; clear n0_; (try clear hb); (try clear hb2); (try clear hk); (try clear hi)))
        repeat (go_quiet (first | (go_at_call 23; (with_reducible refine (strings_Repeat.calls (⟨#[48]⟩ : ByteArray) (wrap64 (t113 - (t112.size : Int))) t114 _ A13.out).mono ?_); rintro e w15 ⟨rfl, hb⟩; have n0_ := Aside0.mk (below_step (by repeat (first | (with_reducible first | exact HB.out | apply below_alloc | apply pw_below_drewN | apply below_drew1) | exact HB.out)) hb); clear HB; have HB := n0_; clear n0_; (try clear hb); (try clear hb2); (try clear hk); (try clear hi))); try go_wp2_with (first | (go_at_call 23; (with_reducible refine (strings_Repeat.calls (⟨#[48]⟩ : ByteArray) (wrap64 (t113 - (t112.size : Int))) t114 _ A13.out).mono ?_); rintro e w15 ⟨rfl, hb⟩; have n0_ := Aside0.mk (below_step (by repeat (first | (with_reducible first | exact HB.out | apply below_alloc | apply pw_below_drewN | apply below_drew1) | exact HB.out)) hb); clear HB; have HB := n0_; clear n0_; (try clear hb); (try clear hb2); (try clear hk); (try clear hi))))
        go_ret
        exact ⟨by first | rfl | (simp [errW_none, errW_some] <;> rfl) | (simp [*, errW_none, errW_some] <;> rfl), by repeat (first | (with_reducible first | exact HB.out | apply below_alloc | apply pw_below_drewN | apply below_drew1) | exact HB.out)⟩
       ·rw [if_neg c14] at H
        exact absurd H (by simp)
      ·replace c12 := Bool.eq_false_iff.mpr c12
       subst c12
       have H1 : (if t113 ≥ 1 then (note_show.j1 kj9 t112 t113 (t112.size : Int) (decide (t113 ≤ 21))) else (note_show.j1 kj9 t112 t113 (t112.size : Int) false)) = some r := by rw [if_neg (show ¬ (false = true) by decide)] at H; exact H
       clear H
       have H := H1
       clear H1
       have HC16 := Aside0.mk H
       clear H
       go_upto_region 9 with (fail)
       repeat (go_quiet (fail); go_upto_region 9 with (fail))
       go_cut [39] (fun v39 wc => ∃ (kq : Nat) (x39_15 : Bool), v39 = .bool x39_15 ∧ Aside0 (note_show.j1 kq t112 t113 (t112.size : Int) x39_15 = some r) ∧ Aside0 (kq ≤ kj9) ∧ Aside0 (Below w.heap.size w wc))
       case first =>
        have H := HC16.out
        clear HC16
        by_cases c17 : t113 ≥ 1
        ·rw [if_pos c17] at H
         have c17b0 : decide (1 ≤ t113) = true := decide_eq_true c17
         clear c17
         (first | rw [c17b0] | (simp only [i64_w, i32_w]; rw [c17b0]) | skip)
         have H' := Aside0.mk H
         clear H
         go_wp2
         repeat (go_quiet (fail); try go_wp2)
         go_meet
         case rel => exact ⟨_, (decide (t113 ≤ 21)), (by first | rfl | (simp; done) | (simp [*]; done)), H', ⟨by have := HJ9.out; first | omega | exact Nat.le_refl _⟩, ⟨by repeat (first | (with_reducible first | exact HB.out | apply below_alloc | apply pw_below_drewN | apply below_drew1) | exact HB.out)⟩⟩
        ·rw [if_neg c17] at H
         have c17b0 : decide (1 ≤ t113) = false := decide_eq_false c17
         clear c17
         (first | rw [c17b0] | (simp only [i64_w, i32_w]; rw [c17b0]) | skip)
         have H' := Aside0.mk H
         clear H
         go_wp2
         repeat (go_quiet (fail); try go_wp2)
         go_meet
         case rel => exact ⟨_, (false), (by first | rfl | (simp; done) | (simp [*]; done)), H', ⟨by have := HJ9.out; first | omega | exact Nat.le_refl _⟩, ⟨by repeat (first | (with_reducible first | exact HB.out | apply below_alloc | apply pw_below_drewN | apply below_drew1) | exact HB.out)⟩⟩
       case rest =>
        clear HC16
        try clear c1
        try clear c2
        try clear c2b0
        try clear p2
        try clear c3
        try clear c3b0
        try clear c5
        try clear c5b0
        try clear c5b1
        try clear c5b2
        try clear p6
        try clear c11
        try clear c11b0
        try clear c12
        try clear c14
        try clear c14b0
        try clear c14b1
        try clear c14b2
        try clear c16
        try clear c17
        try clear c17b0
        try clear p2
        obtain ⟨kq, x39_15, rfl, HA, HJ15, HB⟩ := hcut
        cases kq with
        | zero => exact absurd HA.out (by simp [note_show.j1])
        | succ kj15 =>
         have H := HA.out
         clear HA
         simp only [note_show.j1] at H
         by_cases c18 : x39_15 = true
         ·subst c18
          have H1 : (if 0 ≤ t113 then (if t113 ≤ (t112.size : Int) then (if (t112.extract 0 (t113 : Int).toNat).size + 1 ≤ 9223372036854775807 then (if ((t112.extract 0 (t113 : Int).toNat) ++ (⟨#[46]⟩ : ByteArray)).size + (t112.extract (t113 : Int).toNat t112.size).size ≤ 9223372036854775807 then (some (((t112.extract 0 (t113 : Int).toNat) ++ (⟨#[46]⟩ : ByteArray)) ++ (t112.extract (t113 : Int).toNat t112.size))) else (none)) else (none)) else (none)) else (none)) = some r := by rw [if_pos rfl] at H; exact H
          clear H
          have H := H1
          clear H1
          by_cases c19 : 0 ≤ t113
          ·rw [if_pos c19] at H
           have c19b0 := eq_true c19
           have c19b1 : decide (0 ≤ t113) = true := decide_eq_true c19
           clear c19
           by_cases c20 : t113 ≤ (t112.size : Int)
           ·rw [if_pos c20] at H
            have c20b0 := eq_true c20
            have c20b1 : decide (t113 ≤ (t112.size : Int)) = true := decide_eq_true c20
            clear c20
            obtain ⟨yc21, hyc21⟩ : ∃ y_ : ByteArray, (t112.extract 0 (t113 : Int).toNat) = y_ := ⟨_, rfl⟩
            replace H : (if yc21.size + 1 ≤ 9223372036854775807 then (if (yc21 ++ (⟨#[46]⟩ : ByteArray)).size + (t112.extract (t113 : Int).toNat t112.size).size ≤ 9223372036854775807 then (some ((yc21 ++ (⟨#[46]⟩ : ByteArray)) ++ (t112.extract (t113 : Int).toNat t112.size))) else (none)) else (none)) = some r := by first | (rw [hyc21] at H; exact H) | (simp only [hyc21] at H ⊢; exact H) | exact H
            by_cases c22 : yc21.size + 1 ≤ 9223372036854775807
            ·rw [if_pos c22] at H
             have c22b0 := eq_true c22
             have c22b1 : decide (yc21.size + 1 ≤ 9223372036854775807) = true := decide_eq_true c22
             try have c22b2 : (9223372036854775807 < yc21.size + 1) = False := eq_false (Nat.not_lt.2 c22)
             have c23b0 := eq_true (of_decide_eq_true (by first | (with_reducible assumption) | assumption) : 0 ≤ t113)
             have c24b0 := eq_true (of_decide_eq_true (by first | (with_reducible assumption) | assumption) : t113 ≤ (t112.size : Int))
             obtain ⟨yc25, hyc25⟩ : ∃ y_ : ByteArray, (t112.extract (t113 : Int).toNat t112.size) = y_ := ⟨_, rfl⟩
             replace H : (if (yc21 ++ (⟨#[46]⟩ : ByteArray)).size + yc25.size ≤ 9223372036854775807 then (some ((yc21 ++ (⟨#[46]⟩ : ByteArray)) ++ yc25)) else (none)) = some r := by first | (rw [hyc25] at H; exact H) | (simp only [hyc25] at H ⊢; exact H) | exact H
             by_cases c26 : (yc21 ++ (⟨#[46]⟩ : ByteArray)).size + yc25.size ≤ 9223372036854775807
             ·rw [if_pos c26] at H
              have c26b0 := eq_true c26
              have c26b1 : decide ((yc21 ++ (⟨#[46]⟩ : ByteArray)).size + yc25.size ≤ 9223372036854775807) = true := decide_eq_true c26
              try have c26b2 : (9223372036854775807 < (yc21 ++ (⟨#[46]⟩ : ByteArray)).size + yc25.size) = False := eq_false (Nat.not_lt.2 c26)
              (try (have c26n := c26; simp [ByteArray.size_append] at c26n))
              obtain rfl := Option.some.inj H
              go_wp2
              repeat (go_quiet (fail); try go_wp2)
              go_ret
              exact ⟨by first | rfl | (simp [errW_none, errW_some] <;> rfl) | (simp only [← hyc21, ← hyc25]; first | rfl | (simp [errW_none, errW_some] <;> rfl)) | (simp [*, errW_none, errW_some] <;> rfl), by repeat (first | (with_reducible first | exact HB.out | apply below_alloc | apply pw_below_drewN | apply below_drew1) | exact HB.out)⟩
             ·rw [if_neg c26] at H
              exact absurd H (by simp)
            ·rw [if_neg c22] at H
             exact absurd H (by simp)
           ·rw [if_neg c20] at H
            exact absurd H (by simp)
          ·rw [if_neg c19] at H
           exact absurd H (by simp)
         ·replace c18 := Bool.eq_false_iff.mpr c18
          subst c18
          have H1 : (if t113 ≥ (-5) then (if t113 ≤ 0 then ((strings_Repeat.f (⟨#[48]⟩ : ByteArray) (wrap64 (-t113))).bind fun t115 => (if 2 + t115.size ≤ 9223372036854775807 then (if ((⟨#[48, 46]⟩ : ByteArray) ++ t115).size + t112.size ≤ 9223372036854775807 then (some (((⟨#[48, 46]⟩ : ByteArray) ++ t115) ++ t112)) else (none)) else (none))) else (note_show.j2 kj15 t112 t113 (t112.size : Int))) else (note_show.j2 kj15 t112 t113 (t112.size : Int))) = some r := by rw [if_neg (show ¬ (false = true) by decide)] at H; exact H
          clear H
          have H := H1
          clear H1
          by_cases c27 : t113 ≥ (-5)
          ·rw [if_pos c27] at H
           have c27b0 : decide ((-5) ≤ t113) = true := decide_eq_true c27
           clear c27
           by_cases c28 : t113 ≤ 0
           ·rw [if_pos c28] at H
            have c28b0 : decide (t113 ≤ 0) = true := decide_eq_true c28
            clear c28
            replace H := Option.bind_eq_some_iff.mp H
            obtain ⟨t115, A290, H⟩ := H
            replace H : (if 2 + t115.size ≤ 9223372036854775807 then (if ((⟨#[48, 46]⟩ : ByteArray) ++ t115).size + t112.size ≤ 9223372036854775807 then (some (((⟨#[48, 46]⟩ : ByteArray) ++ t115) ++ t112)) else (none)) else (none)) = some r := H
            have A29 := Aside0.mk A290
            clear A290
            by_cases c30 : 2 + t115.size ≤ 9223372036854775807
            ·rw [if_pos c30] at H
             have c30b0 := eq_true c30
             have c30b1 : decide (2 + t115.size ≤ 9223372036854775807) = true := decide_eq_true c30
             try have c30b2 : (9223372036854775807 < 2 + t115.size) = False := eq_false (Nat.not_lt.2 c30)
             by_cases c31 : ((⟨#[48, 46]⟩ : ByteArray) ++ t115).size + t112.size ≤ 9223372036854775807
             ·rw [if_pos c31] at H
              have c31b0 := eq_true c31
              have c31b1 : decide (((⟨#[48, 46]⟩ : ByteArray) ++ t115).size + t112.size ≤ 9223372036854775807) = true := decide_eq_true c31
              try have c31b2 : (9223372036854775807 < ((⟨#[48, 46]⟩ : ByteArray) ++ t115).size + t112.size) = False := eq_false (Nat.not_lt.2 c31)
              (try (have c31n := c31; simp [ByteArray.size_append] at c31n))
              obtain rfl := Option.some.inj H
              go_wp2_with (first | (go_at_call 23; (with_reducible refine (strings_Repeat.calls (⟨#[48]⟩ : ByteArray) (wrap64 (-t113)) t115 _ A29.out).mono ?_); rintro e w32 ⟨rfl, hb⟩; have n0_ := Aside0.mk (below_step (by repeat (first | (with_reducible first | exact HB.out | apply below_alloc | apply pw_below_drewN | apply below_drew1) | exact HB.out)) hb); clear HB; have HB := n0_; clear n0_; (try clear hb); (try clear hb2); (try clear hk); (try clear hi)))
              repeat (go_quiet (first | (go_at_call 23; (with_reducible refine (strings_Repeat.calls (⟨#[48]⟩ : ByteArray) (wrap64 (-t113)) t115 _ A29.out).mono ?_); rintro e w32 ⟨rfl, hb⟩; have n0_ := Aside0.mk (below_step (by repeat (first | (with_reducible first | exact HB.out | apply below_alloc | apply pw_below_drewN | apply below_drew1) | exact HB.out)) hb); clear HB; have HB := n0_; clear n0_; (try clear hb); (try clear hb2); (try clear hk); (try clear hi))); try go_wp2_with (first | (go_at_call 23; (with_reducible refine (strings_Repeat.calls (⟨#[48]⟩ : ByteArray) (wrap64 (-t113)) t115 _ A29.out).mono ?_); rintro e w32 ⟨rfl, hb⟩; have n0_ := Aside0.mk (below_step (by repeat (first | (with_reducible first | exact HB.out | apply below_alloc | apply pw_below_drewN | apply below_drew1) | exact HB.out)) hb); clear HB; have HB := n0_; clear n0_; (try clear hb); (try clear hb2); (try clear hk); (try clear hi))))
              go_ret
              exact ⟨by first | rfl | (simp [errW_none, errW_some] <;> rfl) | (simp [*, errW_none, errW_some] <;> rfl), by repeat (first | (with_reducible first | exact HB.out | apply below_alloc | apply pw_below_drewN | apply below_drew1) | exact HB.out)⟩
             ·rw [if_neg c31] at H
              exact absurd H (by simp)
            ·rw [if_neg c30] at H
             exact absurd H (by simp)
           ·rw [if_neg c28] at H
            have c28b0 : decide (t113 ≤ 0) = false := decide_eq_false c28
            clear c28
            have H' := Aside0.mk H
            clear H
            go_wp2
            repeat (go_quiet (fail); try go_wp2)
            go_meet
            case rel => exact ⟨_, H', ⟨by have := HJ9.out; have := HJ15.out; first | omega | exact Nat.le_refl _⟩, ⟨by repeat (first | (with_reducible first | exact HB.out | apply below_alloc | apply pw_below_drewN | apply below_drew1) | exact HB.out)⟩⟩
          ·rw [if_neg c27] at H
           have c27b0 : decide ((-5) ≤ t113) = false := decide_eq_false c27
           clear c27
           have H' := Aside0.mk H
           clear H
           go_wp2
           repeat (go_quiet (fail); try go_wp2)
           go_meet
           case rel => exact ⟨_, H', ⟨by have := HJ9.out; have := HJ15.out; first | omega | exact Nat.le_refl _⟩, ⟨by repeat (first | (with_reducible first | exact HB.out | apply below_alloc | apply pw_below_drewN | apply below_drew1) | exact HB.out)⟩⟩
   case rest =>
    clear HC8
    try clear c1
    try clear c2
    try clear c2b0
    try clear p2
    try clear c3
    try clear c3b0
    try clear c5
    try clear c5b0
    try clear c5b1
    try clear c5b2
    try clear p6
    try clear c11
    try clear c11b0
    try clear c12
    try clear c14
    try clear c14b0
    try clear c14b1
    try clear c14b2
    try clear c16
    try clear c17
    try clear c17b0
    try clear c18
    try clear c19
    try clear c19b0
    try clear c19b1
    try clear c20
    try clear c20b0
    try clear c20b1
    try clear c21
    try clear c22
    try clear c22b0
    try clear c22b1
    try clear c22b2
    try clear c23
    try clear c23b0
    try clear c24
    try clear c24b0
    try clear c25
    try clear c26
    try clear c26b0
    try clear c26b1
    try clear c26b2
    try clear c27
    try clear c27b0
    try clear c28
    try clear c28b0
    try clear c30
    try clear c30b0
    try clear c30b1
    try clear c30b2
    try clear c31
    try clear c31b0
    try clear c31b1
    try clear c31b2
    try clear p2
    try clear p6
    obtain ⟨kq, HA, HJ7, HB⟩ := hcut
    cases kq with
    | zero => exact absurd HA.out (by simp [note_show.j2])
    | succ kj7 =>
     have H := HA.out
     clear HA
     simp only [note_show.j2] at H
     by_cases c33 : (wrap64 (t113 - 1)) < 0
     ·rw [if_pos c33] at H
      have c33b0 : decide ((wrap64 (t113 - 1)) < 0) = true := decide_eq_true c33
      clear c33
      by_cases c34 : 1 + 1 ≤ 9223372036854775807
      ·rw [if_pos c34] at H
       have c34b0 := eq_true c34
       have c34b1 : decide (1 + 1 ≤ 9223372036854775807) = true := decide_eq_true c34
       try have c34b2 : (9223372036854775807 < 1 + 1) = False := eq_false (Nat.not_lt.2 c34)
       obtain ⟨ji35, hji35⟩ : ∃ j_ : Int, (mx (wrap64 (t113 - 1)) (wrap64 (1 - t113))) = j_ := ⟨_, rfl⟩
       replace H : ((note_decimal.f kj7 (IntKind.u64.wrap (ji35))).bind fun t116 => (if ((⟨#[101]⟩ : ByteArray) ++ (⟨#[45]⟩ : ByteArray)).size + t116.size ≤ 9223372036854775807 then (if (t112.size : Int) > 1 then (if 0 ≤ 1 then (if 1 ≤ (t112.size : Int) then (if (t112.extract 0 1).size + 1 ≤ 9223372036854775807 then (if ((t112.extract 0 1) ++ (⟨#[46]⟩ : ByteArray)).size + (t112.extract 1 t112.size).size ≤ 9223372036854775807 then (if (((t112.extract 0 1) ++ (⟨#[46]⟩ : ByteArray)) ++ (t112.extract 1 t112.size)).size + (((⟨#[101]⟩ : ByteArray) ++ (⟨#[45]⟩ : ByteArray)) ++ t116).size ≤ 9223372036854775807 then (some ((((t112.extract 0 1) ++ (⟨#[46]⟩ : ByteArray)) ++ (t112.extract 1 t112.size)) ++ (((⟨#[101]⟩ : ByteArray) ++ (⟨#[45]⟩ : ByteArray)) ++ t116))) else (none)) else (none)) else (none)) else (none)) else (none)) else (if t112.size + (((⟨#[101]⟩ : ByteArray) ++ (⟨#[45]⟩ : ByteArray)) ++ t116).size ≤ 9223372036854775807 then (some (t112 ++ (((⟨#[101]⟩ : ByteArray) ++ (⟨#[45]⟩ : ByteArray)) ++ t116))) else (none))) else (none))) = some r := by first | (rw [hji35] at H; exact H) | (simp only [hji35] at H ⊢; exact H)
       have hji35_ : (if (wrap64 (t113 - 1)) < (wrap64 (1 - t113)) then (wrap64 (1 - t113)) else (wrap64 (t113 - 1))) = ji35 := hji35
       replace H := Option.bind_eq_some_iff.mp H
       obtain ⟨t116, A360, H⟩ := H
       replace H : (if ((⟨#[101]⟩ : ByteArray) ++ (⟨#[45]⟩ : ByteArray)).size + t116.size ≤ 9223372036854775807 then (if (t112.size : Int) > 1 then (if 0 ≤ 1 then (if 1 ≤ (t112.size : Int) then (if (t112.extract 0 1).size + 1 ≤ 9223372036854775807 then (if ((t112.extract 0 1) ++ (⟨#[46]⟩ : ByteArray)).size + (t112.extract 1 t112.size).size ≤ 9223372036854775807 then (if (((t112.extract 0 1) ++ (⟨#[46]⟩ : ByteArray)) ++ (t112.extract 1 t112.size)).size + (((⟨#[101]⟩ : ByteArray) ++ (⟨#[45]⟩ : ByteArray)) ++ t116).size ≤ 9223372036854775807 then (some ((((t112.extract 0 1) ++ (⟨#[46]⟩ : ByteArray)) ++ (t112.extract 1 t112.size)) ++ (((⟨#[101]⟩ : ByteArray) ++ (⟨#[45]⟩ : ByteArray)) ++ t116))) else (none)) else (none)) else (none)) else (none)) else (none)) else (if t112.size + (((⟨#[101]⟩ : ByteArray) ++ (⟨#[45]⟩ : ByteArray)) ++ t116).size ≤ 9223372036854775807 then (some (t112 ++ (((⟨#[101]⟩ : ByteArray) ++ (⟨#[45]⟩ : ByteArray)) ++ t116))) else (none))) else (none)) = some r := H
       have A36 := Aside0.mk A360
       clear A360
       by_cases c37 : ((⟨#[101]⟩ : ByteArray) ++ (⟨#[45]⟩ : ByteArray)).size + t116.size ≤ 9223372036854775807
       ·rw [if_pos c37] at H
        have c37b0 := eq_true c37
        have c37b1 : decide (((⟨#[101]⟩ : ByteArray) ++ (⟨#[45]⟩ : ByteArray)).size + t116.size ≤ 9223372036854775807) = true := decide_eq_true c37
        try have c37b2 : (9223372036854775807 < ((⟨#[101]⟩ : ByteArray) ++ (⟨#[45]⟩ : ByteArray)).size + t116.size) = False := eq_false (Nat.not_lt.2 c37)
        (try (have c37n := c37; simp [ByteArray.size_append] at c37n))
        by_cases c38 : (t112.size : Int) > 1
        ·rw [if_pos c38] at H
         have c38b0 : decide (1 < (t112.size : Int)) = true := decide_eq_true c38
         have c38b1 : decide (1 < t112.size) = true := decide_eq_true (by omega)
         clear c38
         by_cases c39 : 0 ≤ 1
         ·rw [if_pos c39] at H
          have c39b0 := eq_true c39
          have c39b1 : decide (0 ≤ 1) = true := decide_eq_true c39
          clear c39
          by_cases c40 : 1 ≤ (t112.size : Int)
          ·rw [if_pos c40] at H
           have c40b0 := eq_true c40
           have c40b1 : decide (1 ≤ (t112.size : Int)) = true := decide_eq_true c40
           clear c40
           obtain ⟨yc41, hyc41⟩ : ∃ y_ : ByteArray, (t112.extract 0 1) = y_ := ⟨_, rfl⟩
           replace H : (if yc41.size + 1 ≤ 9223372036854775807 then (if (yc41 ++ (⟨#[46]⟩ : ByteArray)).size + (t112.extract 1 t112.size).size ≤ 9223372036854775807 then (if ((yc41 ++ (⟨#[46]⟩ : ByteArray)) ++ (t112.extract 1 t112.size)).size + (((⟨#[101]⟩ : ByteArray) ++ (⟨#[45]⟩ : ByteArray)) ++ t116).size ≤ 9223372036854775807 then (some (((yc41 ++ (⟨#[46]⟩ : ByteArray)) ++ (t112.extract 1 t112.size)) ++ (((⟨#[101]⟩ : ByteArray) ++ (⟨#[45]⟩ : ByteArray)) ++ t116))) else (none)) else (none)) else (none)) = some r := by first | (rw [hyc41] at H; exact H) | (simp only [hyc41] at H ⊢; exact H) | exact H
           by_cases c42 : yc41.size + 1 ≤ 9223372036854775807
           ·rw [if_pos c42] at H
            have c42b0 := eq_true c42
            have c42b1 : decide (yc41.size + 1 ≤ 9223372036854775807) = true := decide_eq_true c42
            try have c42b2 : (9223372036854775807 < yc41.size + 1) = False := eq_false (Nat.not_lt.2 c42)
            have c43b0 := eq_true (of_decide_eq_true (by first | (with_reducible assumption) | assumption) : 1 ≤ (t112.size : Int))
            obtain ⟨yc44, hyc44⟩ : ∃ y_ : ByteArray, (t112.extract 1 t112.size) = y_ := ⟨_, rfl⟩
            replace H : (if (yc41 ++ (⟨#[46]⟩ : ByteArray)).size + yc44.size ≤ 9223372036854775807 then (if ((yc41 ++ (⟨#[46]⟩ : ByteArray)) ++ yc44).size + (((⟨#[101]⟩ : ByteArray) ++ (⟨#[45]⟩ : ByteArray)) ++ t116).size ≤ 9223372036854775807 then (some (((yc41 ++ (⟨#[46]⟩ : ByteArray)) ++ yc44) ++ (((⟨#[101]⟩ : ByteArray) ++ (⟨#[45]⟩ : ByteArray)) ++ t116))) else (none)) else (none)) = some r := by first | (rw [hyc44] at H; exact H) | (simp only [hyc44] at H ⊢; exact H) | exact H
            by_cases c45 : (yc41 ++ (⟨#[46]⟩ : ByteArray)).size + yc44.size ≤ 9223372036854775807
            ·rw [if_pos c45] at H
             have c45b0 := eq_true c45
             have c45b1 : decide ((yc41 ++ (⟨#[46]⟩ : ByteArray)).size + yc44.size ≤ 9223372036854775807) = true := decide_eq_true c45
             try have c45b2 : (9223372036854775807 < (yc41 ++ (⟨#[46]⟩ : ByteArray)).size + yc44.size) = False := eq_false (Nat.not_lt.2 c45)
             (try (have c45n := c45; simp [ByteArray.size_append] at c45n))
             by_cases c46 : ((yc41 ++ (⟨#[46]⟩ : ByteArray)) ++ yc44).size + (((⟨#[101]⟩ : ByteArray) ++ (⟨#[45]⟩ : ByteArray)) ++ t116).size ≤ 9223372036854775807
             ·rw [if_pos c46] at H
              have c46b0 := eq_true c46
              have c46b1 : decide (((yc41 ++ (⟨#[46]⟩ : ByteArray)) ++ yc44).size + (((⟨#[101]⟩ : ByteArray) ++ (⟨#[45]⟩ : ByteArray)) ++ t116).size ≤ 9223372036854775807) = true := decide_eq_true c46
              try have c46b2 : (9223372036854775807 < ((yc41 ++ (⟨#[46]⟩ : ByteArray)) ++ yc44).size + (((⟨#[101]⟩ : ByteArray) ++ (⟨#[45]⟩ : ByteArray)) ++ t116).size) = False := eq_false (Nat.not_lt.2 c46)
              (try (have c46n := c46; simp [ByteArray.size_append] at c46n))
              obtain rfl := Option.some.inj H
              go_wp2_with (first | (go_at_call 24; (with_reducible refine (note_decimal.calls kj7 (IntKind.u64.wrap (ji35)) t116 _ A36.out).mono ?_); rintro e w47 ⟨rfl, hb⟩; have n0_ := Aside0.mk (below_step (by repeat (first | (with_reducible first | exact HB.out | apply below_alloc | apply pw_below_drewN | apply below_drew1) | exact HB.out)) hb); clear HB; have HB := n0_; clear n0_; (try clear hb); (try clear hb2); (try clear hk); (try clear hi)))
              repeat (go_quiet (first | (go_at_call 24; (with_reducible refine (note_decimal.calls kj7 (IntKind.u64.wrap (ji35)) t116 _ A36.out).mono ?_); rintro e w47 ⟨rfl, hb⟩; have n0_ := Aside0.mk (below_step (by repeat (first | (with_reducible first | exact HB.out | apply below_alloc | apply pw_below_drewN | apply below_drew1) | exact HB.out)) hb); clear HB; have HB := n0_; clear n0_; (try clear hb); (try clear hb2); (try clear hk); (try clear hi))); try go_wp2_with (first | (go_at_call 24; (with_reducible refine (note_decimal.calls kj7 (IntKind.u64.wrap (ji35)) t116 _ A36.out).mono ?_); rintro e w47 ⟨rfl, hb⟩; have n0_ := Aside0.mk (below_step (by repeat (first | (with_reducible first | exact HB.out | apply below_alloc | apply pw_below_drewN | apply below_drew1) | exact HB.out)) hb); clear HB; have HB := n0_; clear n0_; (try clear hb); (try clear hb2); (try clear hk); (try clear hi))))
              go_ret
              exact ⟨by first | rfl | (simp [errW_none, errW_some] <;> rfl) | (simp only [← hji35, ← hyc41, ← hyc44]; first | rfl | (simp [errW_none, errW_some] <;> rfl)) | (simp [*, errW_none, errW_some] <;> rfl), by repeat (first | (with_reducible first | exact HB.out | apply below_alloc | apply pw_below_drewN | apply below_drew1) | exact HB.out)⟩
             ·rw [if_neg c46] at H
              exact absurd H (by simp)
            ·rw [if_neg c45] at H
             exact absurd H (by simp)
           ·rw [if_neg c42] at H
            exact absurd H (by simp)
          ·rw [if_neg c40] at H
           exact absurd H (by simp)
         ·rw [if_neg c39] at H
          exact absurd H (by simp)
        ·rw [if_neg c38] at H
         have c38b0 : decide (1 < (t112.size : Int)) = false := decide_eq_false c38
         have c38b1 : decide (1 < t112.size) = false := decide_eq_false (by omega)
         clear c38
         by_cases c48 : t112.size + (((⟨#[101]⟩ : ByteArray) ++ (⟨#[45]⟩ : ByteArray)) ++ t116).size ≤ 9223372036854775807
         ·rw [if_pos c48] at H
          have c48b0 := eq_true c48
          have c48b1 : decide (t112.size + (((⟨#[101]⟩ : ByteArray) ++ (⟨#[45]⟩ : ByteArray)) ++ t116).size ≤ 9223372036854775807) = true := decide_eq_true c48
          try have c48b2 : (9223372036854775807 < t112.size + (((⟨#[101]⟩ : ByteArray) ++ (⟨#[45]⟩ : ByteArray)) ++ t116).size) = False := eq_false (Nat.not_lt.2 c48)
          (try (have c48n := c48; simp [ByteArray.size_append] at c48n))
          obtain rfl := Option.some.inj H
          go_wp2_with (first | (go_at_call 24; (with_reducible refine (note_decimal.calls kj7 (IntKind.u64.wrap (ji35)) t116 _ A36.out).mono ?_); rintro e w49 ⟨rfl, hb⟩; have n0_ := Aside0.mk (below_step (by repeat (first | (with_reducible first | exact HB.out | apply below_alloc | apply pw_below_drewN | apply below_drew1) | exact HB.out)) hb); clear HB; have HB := n0_; clear n0_; (try clear hb); (try clear hb2); (try clear hk); (try clear hi)))
          repeat (go_quiet (first | (go_at_call 24; (with_reducible refine (note_decimal.calls kj7 (IntKind.u64.wrap (ji35)) t116 _ A36.out).mono ?_); rintro e w49 ⟨rfl, hb⟩; have n0_ := Aside0.mk (below_step (by repeat (first | (with_reducible first | exact HB.out | apply below_alloc | apply pw_below_drewN | apply below_drew1) | exact HB.out)) hb); clear HB; have HB := n0_; clear n0_; (try clear hb); (try clear hb2); (try clear hk); (try clear hi))); try go_wp2_with (first | (go_at_call 24; (with_reducible refine (note_decimal.calls kj7 (IntKind.u64.wrap (ji35)) t116 _ A36.out).mono ?_); rintro e w49 ⟨rfl, hb⟩; have n0_ := Aside0.mk (below_step (by repeat (first | (with_reducible first | exact HB.out | apply below_alloc | apply pw_below_drewN | apply below_drew1) | exact HB.out)) hb); clear HB; have HB := n0_; clear n0_; (try clear hb); (try clear hb2); (try clear hk); (try clear hi))))
          go_ret
          exact ⟨by first | rfl | (simp [errW_none, errW_some] <;> rfl) | (simp only [← hji35]; first | rfl | (simp [errW_none, errW_some] <;> rfl)) | (simp [*, errW_none, errW_some] <;> rfl), by repeat (first | (with_reducible first | exact HB.out | apply below_alloc | apply pw_below_drewN | apply below_drew1) | exact HB.out)⟩
         ·rw [if_neg c48] at H
          exact absurd H (by simp)
       ·rw [if_neg c37] at H
        exact absurd H (by simp)
      ·rw [if_neg c34] at H
       exact absurd H (by simp)
     ·rw [if_neg c33] at H
      have c33b0 : decide ((wrap64 (t113 - 1)) < 0) = false := decide_eq_false c33
      clear c33
      by_cases c50 : 1 + 1 ≤ 9223372036854775807
      ·rw [if_pos c50] at H
       have c50b0 := eq_true c50
       have c50b1 : decide (1 + 1 ≤ 9223372036854775807) = true := decide_eq_true c50
       try have c50b2 : (9223372036854775807 < 1 + 1) = False := eq_false (Nat.not_lt.2 c50)
       obtain ⟨ji51, hji51⟩ : ∃ j_ : Int, (mx (wrap64 (t113 - 1)) (wrap64 (1 - t113))) = j_ := ⟨_, rfl⟩
       replace H : ((note_decimal.f kj7 (IntKind.u64.wrap (ji51))).bind fun t117 => (if ((⟨#[101]⟩ : ByteArray) ++ (⟨#[43]⟩ : ByteArray)).size + t117.size ≤ 9223372036854775807 then (if (t112.size : Int) > 1 then (if 0 ≤ 1 then (if 1 ≤ (t112.size : Int) then (if (t112.extract 0 1).size + 1 ≤ 9223372036854775807 then (if ((t112.extract 0 1) ++ (⟨#[46]⟩ : ByteArray)).size + (t112.extract 1 t112.size).size ≤ 9223372036854775807 then (if (((t112.extract 0 1) ++ (⟨#[46]⟩ : ByteArray)) ++ (t112.extract 1 t112.size)).size + (((⟨#[101]⟩ : ByteArray) ++ (⟨#[43]⟩ : ByteArray)) ++ t117).size ≤ 9223372036854775807 then (some ((((t112.extract 0 1) ++ (⟨#[46]⟩ : ByteArray)) ++ (t112.extract 1 t112.size)) ++ (((⟨#[101]⟩ : ByteArray) ++ (⟨#[43]⟩ : ByteArray)) ++ t117))) else (none)) else (none)) else (none)) else (none)) else (none)) else (if t112.size + (((⟨#[101]⟩ : ByteArray) ++ (⟨#[43]⟩ : ByteArray)) ++ t117).size ≤ 9223372036854775807 then (some (t112 ++ (((⟨#[101]⟩ : ByteArray) ++ (⟨#[43]⟩ : ByteArray)) ++ t117))) else (none))) else (none))) = some r := by first | (rw [hji51] at H; exact H) | (simp only [hji51] at H ⊢; exact H)
       have hji51_ : (if (wrap64 (t113 - 1)) < (wrap64 (1 - t113)) then (wrap64 (1 - t113)) else (wrap64 (t113 - 1))) = ji51 := hji51
       replace H := Option.bind_eq_some_iff.mp H
       obtain ⟨t117, A520, H⟩ := H
       replace H : (if ((⟨#[101]⟩ : ByteArray) ++ (⟨#[43]⟩ : ByteArray)).size + t117.size ≤ 9223372036854775807 then (if (t112.size : Int) > 1 then (if 0 ≤ 1 then (if 1 ≤ (t112.size : Int) then (if (t112.extract 0 1).size + 1 ≤ 9223372036854775807 then (if ((t112.extract 0 1) ++ (⟨#[46]⟩ : ByteArray)).size + (t112.extract 1 t112.size).size ≤ 9223372036854775807 then (if (((t112.extract 0 1) ++ (⟨#[46]⟩ : ByteArray)) ++ (t112.extract 1 t112.size)).size + (((⟨#[101]⟩ : ByteArray) ++ (⟨#[43]⟩ : ByteArray)) ++ t117).size ≤ 9223372036854775807 then (some ((((t112.extract 0 1) ++ (⟨#[46]⟩ : ByteArray)) ++ (t112.extract 1 t112.size)) ++ (((⟨#[101]⟩ : ByteArray) ++ (⟨#[43]⟩ : ByteArray)) ++ t117))) else (none)) else (none)) else (none)) else (none)) else (none)) else (if t112.size + (((⟨#[101]⟩ : ByteArray) ++ (⟨#[43]⟩ : ByteArray)) ++ t117).size ≤ 9223372036854775807 then (some (t112 ++ (((⟨#[101]⟩ : ByteArray) ++ (⟨#[43]⟩ : ByteArray)) ++ t117))) else (none))) else (none)) = some r := H
       have A52 := Aside0.mk A520
       clear A520
       by_cases c53 : ((⟨#[101]⟩ : ByteArray) ++ (⟨#[43]⟩ : ByteArray)).size + t117.size ≤ 9223372036854775807
       ·rw [if_pos c53] at H
        have c53b0 := eq_true c53
        have c53b1 : decide (((⟨#[101]⟩ : ByteArray) ++ (⟨#[43]⟩ : ByteArray)).size + t117.size ≤ 9223372036854775807) = true := decide_eq_true c53
        try have c53b2 : (9223372036854775807 < ((⟨#[101]⟩ : ByteArray) ++ (⟨#[43]⟩ : ByteArray)).size + t117.size) = False := eq_false (Nat.not_lt.2 c53)
        (try (have c53n := c53; simp [ByteArray.size_append] at c53n))
        by_cases c54 : (t112.size : Int) > 1
        ·rw [if_pos c54] at H
         have c54b0 : decide (1 < (t112.size : Int)) = true := decide_eq_true c54
         have c54b1 : decide (1 < t112.size) = true := decide_eq_true (by omega)
         clear c54
         by_cases c55 : 0 ≤ 1
         ·rw [if_pos c55] at H
          have c55b0 := eq_true c55
          have c55b1 : decide (0 ≤ 1) = true := decide_eq_true c55
          clear c55
          by_cases c56 : 1 ≤ (t112.size : Int)
          ·rw [if_pos c56] at H
           have c56b0 := eq_true c56
           have c56b1 : decide (1 ≤ (t112.size : Int)) = true := decide_eq_true c56
           clear c56
           obtain ⟨yc57, hyc57⟩ : ∃ y_ : ByteArray, (t112.extract 0 1) = y_ := ⟨_, rfl⟩
           replace H : (if yc57.size + 1 ≤ 9223372036854775807 then (if (yc57 ++ (⟨#[46]⟩ : ByteArray)).size + (t112.extract 1 t112.size).size ≤ 9223372036854775807 then (if ((yc57 ++ (⟨#[46]⟩ : ByteArray)) ++ (t112.extract 1 t112.size)).size + (((⟨#[101]⟩ : ByteArray) ++ (⟨#[43]⟩ : ByteArray)) ++ t117).size ≤ 9223372036854775807 then (some (((yc57 ++ (⟨#[46]⟩ : ByteArray)) ++ (t112.extract 1 t112.size)) ++ (((⟨#[101]⟩ : ByteArray) ++ (⟨#[43]⟩ : ByteArray)) ++ t117))) else (none)) else (none)) else (none)) = some r := by first | (rw [hyc57] at H; exact H) | (simp only [hyc57] at H ⊢; exact H) | exact H
           by_cases c58 : yc57.size + 1 ≤ 9223372036854775807
           ·rw [if_pos c58] at H
            have c58b0 := eq_true c58
            have c58b1 : decide (yc57.size + 1 ≤ 9223372036854775807) = true := decide_eq_true c58
            try have c58b2 : (9223372036854775807 < yc57.size + 1) = False := eq_false (Nat.not_lt.2 c58)
            have c59b0 := eq_true (of_decide_eq_true (by first | (with_reducible assumption) | assumption) : 1 ≤ (t112.size : Int))
            obtain ⟨yc60, hyc60⟩ : ∃ y_ : ByteArray, (t112.extract 1 t112.size) = y_ := ⟨_, rfl⟩
            replace H : (if (yc57 ++ (⟨#[46]⟩ : ByteArray)).size + yc60.size ≤ 9223372036854775807 then (if ((yc57 ++ (⟨#[46]⟩ : ByteArray)) ++ yc60).size + (((⟨#[101]⟩ : ByteArray) ++ (⟨#[43]⟩ : ByteArray)) ++ t117).size ≤ 9223372036854775807 then (some (((yc57 ++ (⟨#[46]⟩ : ByteArray)) ++ yc60) ++ (((⟨#[101]⟩ : ByteArray) ++ (⟨#[43]⟩ : ByteArray)) ++ t117))) else (none)) else (none)) = some r := by first | (rw [hyc60] at H; exact H) | (simp only [hyc60] at H ⊢; exact H) | exact H
            by_cases c61 : (yc57 ++ (⟨#[46]⟩ : ByteArray)).size + yc60.size ≤ 9223372036854775807
            ·rw [if_pos c61] at H
             have c61b0 := eq_true c61
             have c61b1 : decide ((yc57 ++ (⟨#[46]⟩ : ByteArray)).size + yc60.size ≤ 9223372036854775807) = true := decide_eq_true c61
             try have c61b2 : (9223372036854775807 < (yc57 ++ (⟨#[46]⟩ : ByteArray)).size + yc60.size) = False := eq_false (Nat.not_lt.2 c61)
             (try (have c61n := c61; simp [ByteArray.size_append] at c61n))
             by_cases c62 : ((yc57 ++ (⟨#[46]⟩ : ByteArray)) ++ yc60).size + (((⟨#[101]⟩ : ByteArray) ++ (⟨#[43]⟩ : ByteArray)) ++ t117).size ≤ 9223372036854775807
             ·rw [if_pos c62] at H
              have c62b0 := eq_true c62
              have c62b1 : decide (((yc57 ++ (⟨#[46]⟩ : ByteArray)) ++ yc60).size + (((⟨#[101]⟩ : ByteArray) ++ (⟨#[43]⟩ : ByteArray)) ++ t117).size ≤ 9223372036854775807) = true := decide_eq_true c62
              try have c62b2 : (9223372036854775807 < ((yc57 ++ (⟨#[46]⟩ : ByteArray)) ++ yc60).size + (((⟨#[101]⟩ : ByteArray) ++ (⟨#[43]⟩ : ByteArray)) ++ t117).size) = False := eq_false (Nat.not_lt.2 c62)
              (try (have c62n := c62; simp [ByteArray.size_append] at c62n))
              obtain rfl := Option.some.inj H
              go_wp2_with (first | (go_at_call 24; (with_reducible refine (note_decimal.calls kj7 (IntKind.u64.wrap (ji51)) t117 _ A52.out).mono ?_); rintro e w63 ⟨rfl, hb⟩; have n0_ := Aside0.mk (below_step (by repeat (first | (with_reducible first | exact HB.out | apply below_alloc | apply pw_below_drewN | apply below_drew1) | exact HB.out)) hb); clear HB; have HB := n0_; clear n0_; (try clear hb); (try clear hb2); (try clear hk); (try clear hi)))
              repeat (go_quiet (first | (go_at_call 24; (with_reducible refine (note_decimal.calls kj7 (IntKind.u64.wrap (ji51)) t117 _ A52.out).mono ?_); rintro e w63 ⟨rfl, hb⟩; have n0_ := Aside0.mk (below_step (by repeat (first | (with_reducible first | exact HB.out | apply below_alloc | apply pw_below_drewN | apply below_drew1) | exact HB.out)) hb); clear HB; have HB := n0_; clear n0_; (try clear hb); (try clear hb2); (try clear hk); (try clear hi))); try go_wp2_with (first | (go_at_call 24; (with_reducible refine (note_decimal.calls kj7 (IntKind.u64.wrap (ji51)) t117 _ A52.out).mono ?_); rintro e w63 ⟨rfl, hb⟩; have n0_ := Aside0.mk (below_step (by repeat (first | (with_reducible first | exact HB.out | apply below_alloc | apply pw_below_drewN | apply below_drew1) | exact HB.out)) hb); clear HB; have HB := n0_; clear n0_; (try clear hb); (try clear hb2); (try clear hk); (try clear hi))))
              go_ret
              exact ⟨by first | rfl | (simp [errW_none, errW_some] <;> rfl) | (simp only [← hji51, ← hyc57, ← hyc60]; first | rfl | (simp [errW_none, errW_some] <;> rfl)) | (simp [*, errW_none, errW_some] <;> rfl), by repeat (first | (with_reducible first | exact HB.out | apply below_alloc | apply pw_below_drewN | apply below_drew1) | exact HB.out)⟩
             ·rw [if_neg c62] at H
              exact absurd H (by simp)
            ·rw [if_neg c61] at H
             exact absurd H (by simp)
           ·rw [if_neg c58] at H
            exact absurd H (by simp)
          ·rw [if_neg c56] at H
           exact absurd H (by simp)
         ·rw [if_neg c55] at H
          exact absurd H (by simp)
        ·rw [if_neg c54] at H
         have c54b0 : decide (1 < (t112.size : Int)) = false := decide_eq_false c54
         have c54b1 : decide (1 < t112.size) = false := decide_eq_false (by omega)
         clear c54
         by_cases c64 : t112.size + (((⟨#[101]⟩ : ByteArray) ++ (⟨#[43]⟩ : ByteArray)) ++ t117).size ≤ 9223372036854775807
         ·rw [if_pos c64] at H
          have c64b0 := eq_true c64
          have c64b1 : decide (t112.size + (((⟨#[101]⟩ : ByteArray) ++ (⟨#[43]⟩ : ByteArray)) ++ t117).size ≤ 9223372036854775807) = true := decide_eq_true c64
          try have c64b2 : (9223372036854775807 < t112.size + (((⟨#[101]⟩ : ByteArray) ++ (⟨#[43]⟩ : ByteArray)) ++ t117).size) = False := eq_false (Nat.not_lt.2 c64)
          (try (have c64n := c64; simp [ByteArray.size_append] at c64n))
          obtain rfl := Option.some.inj H
          go_wp2_with (first | (go_at_call 24; (with_reducible refine (note_decimal.calls kj7 (IntKind.u64.wrap (ji51)) t117 _ A52.out).mono ?_); rintro e w65 ⟨rfl, hb⟩; have n0_ := Aside0.mk (below_step (by repeat (first | (with_reducible first | exact HB.out | apply below_alloc | apply pw_below_drewN | apply below_drew1) | exact HB.out)) hb); clear HB; have HB := n0_; clear n0_; (try clear hb); (try clear hb2); (try clear hk); (try clear hi)))
          repeat (go_quiet (first | (go_at_call 24; (with_reducible refine (note_decimal.calls kj7 (IntKind.u64.wrap (ji51)) t117 _ A52.out).mono ?_); rintro e w65 ⟨rfl, hb⟩; have n0_ := Aside0.mk (below_step (by repeat (first | (with_reducible first | exact HB.out | apply below_alloc | apply pw_below_drewN | apply below_drew1) | exact HB.out)) hb); clear HB; have HB := n0_; clear n0_; (try clear hb); (try clear hb2); (try clear hk); (try clear hi))); try go_wp2_with (first | (go_at_call 24; (with_reducible refine (note_decimal.calls kj7 (IntKind.u64.wrap (ji51)) t117 _ A52.out).mono ?_); rintro e w65 ⟨rfl, hb⟩; have n0_ := Aside0.mk (below_step (by repeat (first | (with_reducible first | exact HB.out | apply below_alloc | apply pw_below_drewN | apply below_drew1) | exact HB.out)) hb); clear HB; have HB := n0_; clear n0_; (try clear hb); (try clear hb2); (try clear hk); (try clear hi))))
          go_ret
          exact ⟨by first | rfl | (simp [errW_none, errW_some] <;> rfl) | (simp only [← hji51]; first | rfl | (simp [errW_none, errW_some] <;> rfl)) | (simp [*, errW_none, errW_some] <;> rfl), by repeat (first | (with_reducible first | exact HB.out | apply below_alloc | apply pw_below_drewN | apply below_drew1) | exact HB.out)⟩
         ·rw [if_neg c64] at H
          exact absurd H (by simp)
       ·rw [if_neg c53] at H
        exact absurd H (by simp)
      ·rw [if_neg c50] at H
       exact absurd H (by simp)
def note_Show.f (k : Nat) (a0 : Nat) : Option (ByteArray × Int) := (math_IsNaN.f a0).bind fun t118 => (if t118 = true then (some ((⟨#[]⟩ : ByteArray), 94)) else ((math_IsInf.f a0 0).bind fun t119 => (if t119 = true then (some ((⟨#[]⟩ : ByteArray), 94)) else ((note_show.f k a0).bind fun t120 => (some (t120, 0))))))
set_option maxHeartbeats 8000000 in
set_option maxRecDepth 100000 in
theorem note_Show.calls (k : Nat) (a0 : Nat) (r1 : ByteArray) (r2 : Int) (w : World) (h : note_Show.f k a0 = some (r1, r2)) :
  Calls Try.prog 9 #[.float .f64 a0] w fun e w' => e = .returned (.tuple #[.string r1, .int .i64 r2]) ∧ Below w.heap.size w w' := by
 have HB := Aside0.mk (Below.refl w.heap.size w)
 have H : ((math_IsNaN.f a0).bind fun t118 => (if t118 = true then (some ((⟨#[]⟩ : ByteArray), 94)) else ((math_IsInf.f a0 0).bind fun t119 => (if t119 = true then (some ((⟨#[]⟩ : ByteArray), 94)) else ((note_show.f k a0).bind fun t120 => (some (t120, 0))))))) = some (r1, r2) := h
 clear h
 replace H := Option.bind_eq_some_iff.mp H
 obtain ⟨t118, A20, H⟩ := H
 replace H : (if t118 = true then (some ((⟨#[]⟩ : ByteArray), 94)) else ((math_IsInf.f a0 0).bind fun t119 => (if t119 = true then (some ((⟨#[]⟩ : ByteArray), 94)) else ((note_show.f k a0).bind fun t120 => (some (t120, 0)))))) = some (r1, r2) := H
 have A2 := Aside0.mk A20
 clear A20
 by_cases c3 : t118 = true
 ·subst c3
  have H1 : (some ((⟨#[]⟩ : ByteArray), 94)) = some (r1, r2) := by rw [if_pos rfl] at H; exact H
  clear H
  have H := H1
  clear H1
  simp only [Option.some.injEq, Prod.mk.injEq] at H
  obtain ⟨rfl, rfl⟩ := H
  go_enter Try.func9, Try.ntmps9
  go_wp2_with (first | ((with_reducible refine gate_callee (f := 14) rfl ?_); refine goesL_ (some 5) rfl rfl Try.func14 (by kernel_rfl) rfl #[.float .f64 a0] rfl (by (try simp only [List.map_toArray, List.map_cons, List.map_nil]); first | done | rfl | (simp only [List.length_drop, List.length_take]; rfl)) ?_; (with_reducible refine (math_IsNaN.calls a0 true _ A2.out).mono ?_); rintro e w' ⟨rfl, ⟨nd, rfl⟩⟩; refine ⟨_, rfl, ?_⟩))
  go_ret2
  exact ⟨by first | rfl | (simp [errW_none, errW_some] <;> rfl) | (simp [*, errW_none, errW_some] <;> rfl), by repeat (first | (with_reducible first | exact HB.out | apply below_alloc | apply pw_below_drewN | apply below_drew1) | exact HB.out)⟩
 ·replace c3 := Bool.eq_false_iff.mpr c3
  subst c3
  have H1 : ((math_IsInf.f a0 0).bind fun t119 => (if t119 = true then (some ((⟨#[]⟩ : ByteArray), 94)) else ((note_show.f k a0).bind fun t120 => (some (t120, 0))))) = some (r1, r2) := by rw [if_neg (show ¬ (false = true) by decide)] at H; exact H
  clear H
  have H := H1
  clear H1
  replace H := Option.bind_eq_some_iff.mp H
  obtain ⟨t119, A40, H⟩ := H
  replace H : (if t119 = true then (some ((⟨#[]⟩ : ByteArray), 94)) else ((note_show.f k a0).bind fun t120 => (some (t120, 0)))) = some (r1, r2) := H
  have A4 := Aside0.mk A40
  clear A40
  by_cases c5 : t119 = true
  ·subst c5
   have H1 : (some ((⟨#[]⟩ : ByteArray), 94)) = some (r1, r2) := by rw [if_pos rfl] at H; exact H
   clear H
   have H := H1
   clear H1
   simp only [Option.some.injEq, Prod.mk.injEq] at H
   obtain ⟨rfl, rfl⟩ := H
   go_enter Try.func9, Try.ntmps9
   go_wp2_with (first | ((with_reducible refine gate_callee (f := 14) rfl ?_); refine goesL_ (some 5) rfl rfl Try.func14 (by kernel_rfl) rfl #[.float .f64 a0] rfl (by (try simp only [List.map_toArray, List.map_cons, List.map_nil]); first | done | rfl | (simp only [List.length_drop, List.length_take]; rfl)) ?_; (with_reducible refine (math_IsNaN.calls a0 false _ A2.out).mono ?_); rintro e w' ⟨rfl, ⟨nd, rfl⟩⟩; refine ⟨_, rfl, ?_⟩) | (go_at_call 15; (with_reducible refine (math_IsInf.calls a0 0 true _ A4.out).mono ?_); rintro e w' ⟨rfl, ⟨nd, rfl⟩⟩))
   go_ret2
   exact ⟨by first | rfl | (simp [errW_none, errW_some] <;> rfl) | (simp [*, errW_none, errW_some] <;> rfl), by repeat (first | (with_reducible first | exact HB.out | apply below_alloc | apply pw_below_drewN | apply below_drew1) | exact HB.out)⟩
  ·replace c5 := Bool.eq_false_iff.mpr c5
   subst c5
   have H1 : ((note_show.f k a0).bind fun t120 => (some (t120, 0))) = some (r1, r2) := by rw [if_neg (show ¬ (false = true) by decide)] at H; exact H
   clear H
   have H := H1
   clear H1
   replace H := Option.bind_eq_some_iff.mp H
   obtain ⟨t120, A60, H⟩ := H
   replace H : (some (t120, 0)) = some (r1, r2) := H
   have A6 := Aside0.mk A60
   clear A60
   simp only [Option.some.injEq, Prod.mk.injEq] at H
   obtain ⟨rfl, rfl⟩ := H
   go_enter Try.func9, Try.ntmps9
   go_wp2_with (first | ((with_reducible refine gate_callee (f := 14) rfl ?_); refine goesL_ (some 5) rfl rfl Try.func14 (by kernel_rfl) rfl #[.float .f64 a0] rfl (by (try simp only [List.map_toArray, List.map_cons, List.map_nil]); first | done | rfl | (simp only [List.length_drop, List.length_take]; rfl)) ?_; (with_reducible refine (math_IsNaN.calls a0 false _ A2.out).mono ?_); rintro e w' ⟨rfl, ⟨nd, rfl⟩⟩; refine ⟨_, rfl, ?_⟩) | (go_at_call 15; (with_reducible refine (math_IsInf.calls a0 0 false _ A4.out).mono ?_); rintro e w' ⟨rfl, ⟨nd, rfl⟩⟩) | ((with_reducible refine gate_callee (f := 16) rfl ?_); refine goesL_ (some 11) rfl rfl Try.func16 (by kernel_rfl) rfl #[.float .f64 a0] rfl (by (try simp only [List.map_toArray, List.map_cons, List.map_nil]); first | done | rfl | (simp only [List.length_drop, List.length_take]; rfl)) ?_; (with_reducible refine (note_show.calls k a0 t120 _ A6.out).mono ?_); rintro e w7 ⟨rfl, hb⟩; refine ⟨_, rfl, ?_⟩; have n0_ := Aside0.mk (below_step (by repeat (first | (with_reducible first | exact HB.out | apply below_alloc | apply pw_below_drewN | apply below_drew1) | exact HB.out)) hb); clear HB; have HB := n0_; clear n0_; (try clear hb); (try clear hb2); (try clear hk); (try clear hi)))
   go_ret2
   exact ⟨by first | rfl | (simp [errW_none, errW_some] <;> rfl) | (simp [*, errW_none, errW_some] <;> rfl), by repeat (first | (with_reducible first | exact HB.out | apply below_alloc | apply pw_below_drewN | apply below_drew1) | exact HB.out)⟩
end Go.Proofs.Ytlhciggmllddkaa.PNub
