/- Part of the proof of NoteShows: on every float64 the program and the document's answer show the same. No condition. -/
import Derived.Test.YtlhciggmllddkaaZPNumx0
import Derived.Test.YtlhciggmllddkaaZPNumx5
import Derived.Test.YtlhciggmllddkaaZPNumx10
namespace Go.Proofs.Ytlhciggmllddkaa.PNum
attribute [local go_sem] Go.Proofs.YtlhciggmllddkaaW.PrintWords.run_fb Go.Proofs.YtlhciggmllddkaaW.PrintWords.run_fbb
open Go.RowKit Go.Proofs.YtlhciggmllddkaaW.PrintWords Go.Proofs.YtlhciggmllddkaaW.PrintLast Go.Proofs.YtlhciggmllddkaaW.PrintMore
attribute [local go_sem] max2_int min2_int max_two min_two max_three min_three max_four min_four   -- for this text's walks alone
set_option linter.unusedVariables false
set_option linter.unusedSimpArgs false
mutual
def graftref9_Show.j0 : Nat → Nat → Bool → Option (ByteArray × Int)
 | 0, _, _ => none
 | k + 1, x0, x20 => if x20 = true then (some ((⟨#[]⟩ : ByteArray), 94)) else (if (feq x0 0) = true then (some ((⟨#[48]⟩ : ByteArray), 0)) else (if (flt x0 0) = true then (if (fok .sub 0 x0) = true then ((graftref9_Show.f k (fop .sub 0 x0)).bind fun bt440 => (if 1 + bt440.1.size ≤ 9223372036854775807 then (some ((⟨#[45]⟩ : ByteArray) ++ bt440.1, 0)) else (none))) else (none)) else ((graftref9_shortest.f k x0).bind fun bt442 => (graftref9_Show.l0 k bt442.1 bt442.2))))
def graftref9_Show.j2 : Nat → ByteArray → Int → Option (ByteArray × Int)
 | 0, _, _ => none
 | k + 1, x6, x7 => if x7 ≥ (x6.size : Int) then (graftref9_Show.j3 k x6 x7 (x6.size : Int) (decide (x7 ≤ 21))) else (graftref9_Show.j3 k x6 x7 (x6.size : Int) false)
def graftref9_Show.j3 : Nat → ByteArray → Int → Int → Bool → Option (ByteArray × Int)
 | 0, _, _, _, _ => none
 | k + 1, x6, x7, x8, x62 => if x62 = true then (graftref9_Show.l1 k x6 x7) else (if x7 ≥ 1 then (graftref9_Show.j5 k x6 x7 x8 (decide (x7 ≤ 21))) else (graftref9_Show.j5 k x6 x7 x8 false))
def graftref9_Show.l1 : Nat → ByteArray → Int → Option (ByteArray × Int)
 | 0, _, _ => none
 | k + 1, x6, x7 => if (x6.size : Int) < x7 then (if x6.size + 1 ≤ 9223372036854775807 then (graftref9_Show.l1 k (x6 ++ (⟨#[48]⟩ : ByteArray)) x7) else (none)) else (some (x6, 0))
def graftref9_Show.j5 : Nat → ByteArray → Int → Int → Bool → Option (ByteArray × Int)
 | 0, _, _, _, _ => none
 | k + 1, x6, x7, x8, x75 => if x75 = true then (if 0 ≤ x7 then (if x7 ≤ (x6.size : Int) then (if (x6.extract 0 (x7 : Int).toNat).size + 1 ≤ 9223372036854775807 then (if ((x6.extract 0 (x7 : Int).toNat) ++ (⟨#[46]⟩ : ByteArray)).size + (x6.extract (x7 : Int).toNat x6.size).size ≤ 9223372036854775807 then (some (((x6.extract 0 (x7 : Int).toNat) ++ (⟨#[46]⟩ : ByteArray)) ++ (x6.extract (x7 : Int).toNat x6.size), 0)) else (none)) else (none)) else (none)) else (none)) else (if x7 ≥ (-5) then (graftref9_Show.j6 k x6 x7 x8 (decide (x7 ≤ 0))) else (graftref9_Show.j6 k x6 x7 x8 false))
def graftref9_Show.j6 : Nat → ByteArray → Int → Int → Bool → Option (ByteArray × Int)
 | 0, _, _, _, _ => none
 | k + 1, x6, x7, x8, x89 => if x89 = true then (graftref9_Show.l2 k x6 (⟨#[48, 46]⟩ : ByteArray) x7) else (if 0 ≤ 1 then (if 1 ≤ (x6.size : Int) then (if x8 > 1 then (if (x6.extract 0 1).size + 1 ≤ 9223372036854775807 then (if ((x6.extract 0 1) ++ (⟨#[46]⟩ : ByteArray)).size + (x6.extract 1 x6.size).size ≤ 9223372036854775807 then (graftref9_Show.j8 k x7 (((x6.extract 0 1) ++ (⟨#[46]⟩ : ByteArray)) ++ (x6.extract 1 x6.size))) else (none)) else (none)) else (graftref9_Show.j8 k x7 (x6.extract 0 1))) else (none)) else (none))
def graftref9_Show.l2 : Nat → ByteArray → ByteArray → Int → Option (ByteArray × Int)
 | 0, _, _, _ => none
 | k + 1, x6, x9, x10 => if x10 < 0 then (if x9.size + 1 ≤ 9223372036854775807 then (graftref9_Show.l2 k x6 (x9 ++ (⟨#[48]⟩ : ByteArray)) (wrap64 (x10 + 1))) else (none)) else (if x9.size + x6.size ≤ 9223372036854775807 then (some (x9 ++ x6, 0)) else (none))
def graftref9_Show.j8 : Nat → Int → ByteArray → Option (ByteArray × Int)
 | 0, _, _ => none
 | k + 1, x7, x11 => if (wrap64 (x7 - 1)) < 0 then (if x11.size + 2 ≤ 9223372036854775807 then ((graftref9_dec.f k (wrap64 (1 - x7))).bind fun t444 => (if (x11 ++ (⟨#[101, 45]⟩ : ByteArray)).size + t444.size ≤ 9223372036854775807 then (some ((x11 ++ (⟨#[101, 45]⟩ : ByteArray)) ++ t444, 0)) else (none))) else (none)) else (if x11.size + 2 ≤ 9223372036854775807 then ((graftref9_dec.f k (wrap64 (x7 - 1))).bind fun t445 => (if (x11 ++ (⟨#[101, 43]⟩ : ByteArray)).size + t445.size ≤ 9223372036854775807 then (some ((x11 ++ (⟨#[101, 43]⟩ : ByteArray)) ++ t445, 0)) else (none))) else (none))
def graftref9_Show.l0 : Nat → ByteArray → Int → Option (ByteArray × Int)
 | 0, _, _ => none
 | k + 1, x6, x7 => if (x6.size : Int) > 1 then (if 0 ≤ (wrap64 ((x6.size : Int) - 1)) then (if (wrap64 ((x6.size : Int) - 1)) < (x6.size : Int) then (if (bt x6 (wrap64 ((x6.size : Int) - 1))) = 48 then (if (wrap64 ((x6.size : Int) - 1)) ≤ (x6.size : Int) then (graftref9_Show.l0 k (x6.extract 0 ((wrap64 ((x6.size : Int) - 1)) : Int).toNat) x7) else (none)) else (graftref9_Show.j2 k x6 x7)) else (none)) else (none)) else (graftref9_Show.j2 k x6 x7)
def graftref9_Show.f : Nat → Nat → Option (ByteArray × Int)
 | 0, _ => none
 | k + 1, a0 => if ((feq a0 a0) = true) then (if (fok .sub a0 a0) = true then (graftref9_Show.j0 k a0 (!(feq (fop .sub a0 a0) 0))) else (none)) else (graftref9_Show.j0 k a0 true)
end
set_option maxHeartbeats 8000000 in
set_option maxRecDepth 100000 in
theorem graftref9_Show.calls (k : Nat) : ∀ (a0 : Nat) (r1 : ByteArray) (r2 : Int) (w : World) (h : graftref9_Show.f k a0 = some (r1, r2)),
  Calls Try.prog 10 #[.float .f64 a0] w fun e w' => e = .returned (.tuple #[.string r1, .int .i64 r2]) ∧ Below w.heap.size w w' := by
 induction k using Nat.strongRecOn with
 | _ k ih =>
 intro a0 r1 r2 w h
 cases k with
 | zero => exact absurd h (by simp [graftref9_Show.f])
 | succ k =>
 simp only [graftref9_Show.f] at h
 have HB := Aside0.mk (Below.refl w.heap.size w)
 have H : (if ((feq a0 a0) = true) then (if (fok .sub a0 a0) = true then (graftref9_Show.j0 k a0 (!(feq (fop .sub a0 a0) 0))) else (none)) else (graftref9_Show.j0 k a0 true)) = some (r1, r2) := h
 clear h
 have HC2 := Aside0.mk H
 clear H
 go_enter Try.func10, Try.ntmps10
 go_upto_region 1 with (fail)
 repeat (go_quiet (fail); go_upto_region 1 with (fail))
 go_cut [20] (fun v20 wc => ∃ (kq : Nat) (x20_1 : Bool), v20 = .bool x20_1 ∧ Aside0 (graftref9_Show.j0 kq a0 x20_1 = some (r1, r2)) ∧ Aside0 (kq ≤ k) ∧ Aside0 (Below w.heap.size w wc))
 case first =>
  have H := HC2.out
  clear HC2
  by_cases c3 : ((feq a0 a0) = true)
  ·rw [if_pos c3] at H
   have c3b0 : (feq a0 a0) = true := c3
   clear c3
   (first | rw [c3b0] | (simp only [i64_w, i32_w]; rw [c3b0]) | skip)
   by_cases c4 : (fok .sub a0 a0) = true
   ·rw [if_pos c4] at H
    have c4b0 := eq_true c4
    have c4b1 : decide ((fok .sub a0 a0) = true) = true := decide_eq_true c4
    clear c4
    have H' := Aside0.mk H
    clear H
    go_wp2
    repeat (go_quiet (fail); try go_wp2)
    go_meet
    case rel => exact ⟨_, (!(feq (fop .sub a0 a0) 0)), (by first | rfl | (simp; done) | (simp [*]; done)), H', ⟨by first | omega | exact Nat.le_refl _⟩, ⟨by repeat (first | (with_reducible first | exact HB.out | apply below_alloc | apply pw_below_drewN | apply below_drew1) | exact HB.out)⟩⟩
   ·rw [if_neg c4] at H
    exact absurd H (by simp)
  ·rw [if_neg c3] at H
   have c3b0 : (feq a0 a0) = false := by simpa using c3
   clear c3
   (first | rw [c3b0] | (simp only [i64_w, i32_w]; rw [c3b0]) | skip)
   have H' := Aside0.mk H
   clear H
   go_wp2
   repeat (go_quiet (fail); try go_wp2)
   go_meet
   case rel => exact ⟨_, (true), (by first | rfl | (simp; done) | (simp [*]; done)), H', ⟨by first | omega | exact Nat.le_refl _⟩, ⟨by repeat (first | (with_reducible first | exact HB.out | apply below_alloc | apply pw_below_drewN | apply below_drew1) | exact HB.out)⟩⟩
 case rest =>
  clear HC2
  try clear c1
  try clear p2
  try clear c3
  try clear c3b0
  try clear c4
  try clear c4b0
  try clear c4b1
  obtain ⟨kq, x20_1, rfl, HA, HJ1, HB⟩ := hcut
  cases kq with
  | zero => exact absurd HA.out (by simp [graftref9_Show.j0])
  | succ kj1 =>
   have H := HA.out
   clear HA
   simp only [graftref9_Show.j0] at H
   by_cases c5 : x20_1 = true
   ·subst c5
    have H1 : (some ((⟨#[]⟩ : ByteArray), 94)) = some (r1, r2) := by rw [if_pos rfl] at H; exact H
    clear H
    have H := H1
    clear H1
    simp only [Option.some.injEq, Prod.mk.injEq] at H
    obtain ⟨rfl, rfl⟩ := H
    go_wp2
    repeat (go_quiet (fail); try go_wp2)
    go_ret2
    exact ⟨by first | rfl | (simp [errW_none, errW_some] <;> rfl) | (simp [*, errW_none, errW_some] <;> rfl), by repeat (first | (with_reducible first | exact HB.out | apply below_alloc | apply pw_below_drewN | apply below_drew1) | exact HB.out)⟩
   ·replace c5 := Bool.eq_false_iff.mpr c5
    subst c5
    have H1 : (if (feq a0 0) = true then (some ((⟨#[48]⟩ : ByteArray), 0)) else (if (flt a0 0) = true then (if (fok .sub 0 a0) = true then ((graftref9_Show.f kj1 (fop .sub 0 a0)).bind fun bt440 => (if 1 + bt440.1.size ≤ 9223372036854775807 then (some ((⟨#[45]⟩ : ByteArray) ++ bt440.1, 0)) else (none))) else (none)) else ((graftref9_shortest.f kj1 a0).bind fun bt442 => (graftref9_Show.l0 kj1 bt442.1 bt442.2)))) = some (r1, r2) := by rw [if_neg (show ¬ (false = true) by decide)] at H; exact H
    clear H
    have H := H1
    clear H1
    by_cases c6 : (feq a0 0) = true
    ·rw [if_pos c6] at H
     have c6b0 : (feq a0 0) = true := c6
     clear c6
     simp only [Option.some.injEq, Prod.mk.injEq] at H
     obtain ⟨rfl, rfl⟩ := H
     go_wp2
     repeat (go_quiet (fail); try go_wp2)
     go_ret2
     exact ⟨by first | rfl | (simp [errW_none, errW_some] <;> rfl) | (simp [*, errW_none, errW_some] <;> rfl), by repeat (first | (with_reducible first | exact HB.out | apply below_alloc | apply pw_below_drewN | apply below_drew1) | exact HB.out)⟩
    ·rw [if_neg c6] at H
     have c6b0 : (feq a0 0) = false := by simpa using c6
     clear c6
     by_cases c7 : (flt a0 0) = true
     ·rw [if_pos c7] at H
      have c7b0 : (flt a0 0) = true := c7
      clear c7
      by_cases c8 : (fok .sub 0 a0) = true
      ·rw [if_pos c8] at H
       have c8b0 := eq_true c8
       have c8b1 : decide ((fok .sub 0 a0) = true) = true := decide_eq_true c8
       clear c8
       replace H := Option.bind_eq_some_iff.mp H
       obtain ⟨⟨t440, t441⟩, A90, H⟩ := H
       replace H : (if 1 + t440.size ≤ 9223372036854775807 then (some ((⟨#[45]⟩ : ByteArray) ++ t440, 0)) else (none)) = some (r1, r2) := H
       have A9 := Aside0.mk A90
       clear A90
       by_cases c10 : 1 + t440.size ≤ 9223372036854775807
       ·rw [if_pos c10] at H
        have c10b0 := eq_true c10
        have c10b1 : decide (1 + t440.size ≤ 9223372036854775807) = true := decide_eq_true c10
        try have c10b2 : (9223372036854775807 < 1 + t440.size) = False := eq_false (Nat.not_lt.2 c10)
        simp only [Option.some.injEq, Prod.mk.injEq] at H
        obtain ⟨rfl, rfl⟩ := H
        go_wp2_with (first | (go_at_call 10; (with_reducible refine (ih kj1 (by have := HJ1.out; omega) (fop .sub 0 a0) t440 t441 _ A9.out).mono ?_); rintro e w11 ⟨rfl, hb⟩; have n0_ := Aside0.mk (below_step (by repeat (first | (with_reducible first | exact HB.out | apply below_alloc | apply pw_below_drewN | apply below_drew1) | exact HB.out)) hb); clear HB; have HB := n0_; clear n0_; (try clear hb); (try clear hb2); (try clear hk); (try clear hi)))
        repeat (go_quiet (first | (go_at_call 10; (with_reducible refine (ih kj1 (by have := HJ1.out; omega) (fop .sub 0 a0) t440 t441 _ A9.out).mono ?_); rintro e w11 ⟨rfl, hb⟩; have n0_ := Aside0.mk (below_step (by repeat (first | (with_reducible first | exact HB.out | apply below_alloc | apply pw_below_drewN | apply below_drew1) | exact HB.out)) hb); clear HB; have HB := n0_; clear n0_; (try clear hb); (try clear hb2); (try clear hk); (try clear hi))); try go_wp2_with (first | (go_at_call 10; (with_reducible refine (ih kj1 (by have := HJ1.out; omega) (fop .sub 0 a0) t440 t441 _ A9.out).mono ?_); rintro e w11 ⟨rfl, hb⟩; have n0_ := Aside0.mk (below_step (by repeat (first | (with_reducible first | exact HB.out | apply below_alloc | apply pw_below_drewN | apply below_drew1) | exact HB.out)) hb); clear HB; have HB := n0_; clear n0_; (try clear hb); (try clear hb2); (try clear hk); (try clear hi))))
        go_ret2
        exact ⟨by first | rfl | (simp [errW_none, errW_some] <;> rfl) | (simp [*, errW_none, errW_some] <;> rfl), by repeat (first | (with_reducible first | exact HB.out | apply below_alloc | apply pw_below_drewN | apply below_drew1) | exact HB.out)⟩
       ·rw [if_neg c10] at H
        exact absurd H (by simp)
      ·rw [if_neg c8] at H
       exact absurd H (by simp)
     ·rw [if_neg c7] at H
      have c7b0 : (flt a0 0) = false := by simpa using c7
      clear c7
      replace H := Option.bind_eq_some_iff.mp H
      obtain ⟨⟨t442, t443⟩, A120, H⟩ := H
      replace H : (graftref9_Show.l0 kj1 t442 t443) = some (r1, r2) := H
      have A12 := Aside0.mk A120
      clear A120
      have HC13 := Aside0.mk H
      clear H
      go_upto_block 0 with (first | (go_at_call 17; (with_reducible refine (graftref9_shortest.calls kj1 a0 t442 t443 _ A12.out).mono ?_); rintro e w14 ⟨rfl, hb⟩; have n0_ := Aside0.mk (below_step (by repeat (first | (with_reducible first | exact HB.out | apply below_alloc | apply pw_below_drewN | apply below_drew1) | exact HB.out)) hb); clear HB; have HB := n0_; clear n0_; (try clear hb); (try clear hb2); (try clear hk); (try clear hi)))
      repeat (go_quiet (first | (go_at_call 17; (with_reducible refine (graftref9_shortest.calls kj1 a0 t442 t443 _ A12.out).mono ?_); rintro e w14 ⟨rfl, hb⟩; have n0_ := Aside0.mk (below_step (by repeat (first | (with_reducible first | exact HB.out | apply below_alloc | apply pw_below_drewN | apply below_drew1) | exact HB.out)) hb); clear HB; have HB := n0_; clear n0_; (try clear hb); (try clear hb2); (try clear hk); (try clear hi))); go_upto_block 0 with (first | (go_at_call 17; (with_reducible refine (graftref9_shortest.calls kj1 a0 t442 t443 _ A12.out).mono ?_); rintro e w14 ⟨rfl, hb⟩; have n0_ := Aside0.mk (below_step (by repeat (first | (with_reducible first | exact HB.out | apply below_alloc | apply pw_below_drewN | apply below_drew1) | exact HB.out)) hb); clear HB; have HB := n0_; clear n0_; (try clear hb); (try clear hb2); (try clear hk); (try clear hi))))
      (try simp only [Act.put, List.setIfInBounds_toArray, List.set_cons_zero, List.set_cons_succ])
      go_cut [6] (fun v6 wc => ∃ (kq : Nat) (x6_12 : ByteArray), v6 = .string x6_12 ∧ Aside0 (graftref9_Show.j2 kq x6_12 t443 = some (r1, r2)) ∧ Aside0 (kq ≤ kj1) ∧ Aside0 (Below w.heap.size w wc))
      case first =>
       have H := HC13.out
       clear HC13
       have H' := Aside0.mk H
       clear H
       go_wp2
       repeat (go_quiet (fail); try go_wp2)
       go_loopg [6] kj1 (fun kq v6 w' => ∃ (x6_2 : ByteArray), v6 = .string x6_2 ∧ Aside0 (graftref9_Show.l0 kq x6_2 t443 = some (r1, r2)) ∧ Aside0 (kq ≤ kj1) ∧ Aside0 (Below w.heap.size w w'))
       case atStart => exact ⟨(t442), (by first | rfl | (simp; done) | (simp [*]; done)), H', ⟨Nat.le_refl _⟩, ⟨by repeat (first | (with_reducible first | exact HB.out | apply below_alloc | apply pw_below_drewN | apply below_drew1) | exact HB.out)⟩⟩
       case round =>
        clear H'
        try clear c1
        try clear p2
        try clear c3
        try clear c3b0
        try clear c4
        try clear c4b0
        try clear c4b1
        try clear c5
        try clear c6
        try clear c6b0
        try clear c7
        try clear c7b0
        try clear c8
        try clear c8b0
        try clear c8b1
        try clear c10
        try clear c10b0
        try clear c10b1
        try clear c10b2
        try clear p2
        obtain ⟨x6_2, rfl, HA, HK2, HB⟩ := hrel
        cases gk with
        | zero => exact absurd HA.out (by simp [graftref9_Show.l0])
        | succ k2 =>
         have H := HA.out
         clear HA
         simp only [graftref9_Show.l0] at H
         by_cases c15 : (x6_2.size : Int) > 1
         ·rw [if_pos c15] at H
          have c15b0 : decide (1 < (x6_2.size : Int)) = true := decide_eq_true c15
          have c15b1 : decide (1 < x6_2.size) = true := decide_eq_true (by omega)
          clear c15
          (first | rw [c15b0] | (simp only [i64_w, i32_w]; rw [c15b0]) | skip)
          obtain ⟨ji16, hji16⟩ : ∃ j_ : Int, (wrap64 ((x6_2.size : Int) - 1)) = j_ := ⟨_, rfl⟩
          replace H : (if 0 ≤ (ji16) then (if (ji16) < (x6_2.size : Int) then (if (bt x6_2 (ji16)) = 48 then (if (ji16) ≤ (x6_2.size : Int) then (graftref9_Show.l0 k2 (x6_2.extract 0 ((ji16) : Int).toNat) t443) else (none)) else (graftref9_Show.j2 k2 x6_2 t443)) else (none)) else (none)) = some (r1, r2) := by first | (rw [hji16] at H; exact H) | (simp only [hji16] at H ⊢; exact H)
          have hji16w : (IntKind.i64.wrap ((x6_2.size : Int) - 1)) = ji16 := (i64_w _).trans hji16
          by_cases c17 : 0 ≤ (ji16)
          ·rw [if_pos c17] at H
           have c17b0 : decide (0 ≤ (ji16)) = true := decide_eq_true c17
           clear c17
           by_cases c18 : (ji16) < (x6_2.size : Int)
           ·rw [if_pos c18] at H
            have c18b0 : decide ((ji16) < (x6_2.size : Int)) = true := decide_eq_true c18
            clear c18
            by_cases c20 : (bt x6_2 (ji16)) = 48
            ·rw [if_pos c20] at H
             have c20b0 : ((bt x6_2 (ji16)) == 48) = true := beq_iff_eq.mpr c20
             have c20b1 : ((bt x6_2 (ji16)) != 48) = false := bne_eq_false_iff_eq.mpr c20
             clear c20
             have c21b0 := eq_true (of_decide_eq_true (by first | (with_reducible assumption) | assumption) : 0 ≤ (ji16))
             by_cases c22 : (ji16) ≤ (x6_2.size : Int)
             ·rw [if_pos c22] at H
              have c22b0 := eq_true c22
              have c22b1 : decide ((ji16) ≤ (x6_2.size : Int)) = true := decide_eq_true c22
              clear c22
              obtain ⟨yc23, hyc23⟩ : ∃ y_ : ByteArray, (x6_2.extract 0 ((ji16) : Int).toNat) = y_ := ⟨_, rfl⟩
              replace H : (graftref9_Show.l0 k2 yc23 t443) = some (r1, r2) := by first | (rw [hyc23] at H; exact H) | (simp only [hyc23] at H ⊢; exact H) | exact H
              have H' := Aside0.mk H
              clear H
              have p19 : 0 ≤ ((ji16) : Int) := of_decide_eq_true (by first | (with_reducible assumption) | assumption)
              have q19 : (ji16) < (x6_2.size : Int) := of_decide_eq_true (by first | (with_reducible assumption) | assumption)
              have hx19 := bt_at x6_2 (ji16)
              replace p19 := eq_true p19
              replace q19 := eq_true q19
              go_wp2
              repeat (go_quiet (fail); try go_wp2)
              go_roundg k2
              case measure => have := HJ1.out; have := HK2.out; omega
              case rel => exact ⟨(yc23), (by first | rfl | (simp; done) | (simp only [← hyc23] <;> (first | rfl | simp)) | (simp [*]; done)), H', ⟨by have := HJ1.out; have := HK2.out; omega⟩, ⟨by repeat (first | (with_reducible first | exact HB.out | apply below_alloc | apply pw_below_drewN | apply below_drew1) | exact HB.out)⟩⟩
             ·rw [if_neg c22] at H
              exact absurd H (by simp)
            ·rw [if_neg c20] at H
             have c20b0 : ((bt x6_2 (ji16)) == 48) = false := beq_eq_false_iff_ne.mpr c20
             have c20b1 : ((bt x6_2 (ji16)) != 48) = true := bne_iff_ne.mpr c20
             have H' := Aside0.mk H
             clear H
             have p19 : 0 ≤ ((ji16) : Int) := of_decide_eq_true (by first | (with_reducible assumption) | assumption)
             have q19 : (ji16) < (x6_2.size : Int) := of_decide_eq_true (by first | (with_reducible assumption) | assumption)
             have hx19 := bt_at x6_2 (ji16)
             replace p19 := eq_true p19
             replace q19 := eq_true q19
             go_wp2
             repeat (go_quiet (fail); try go_wp2)
             go_meet
             case rel => exact ⟨_, (x6_2), (by first | rfl | (simp; done) | (simp [*]; done)), H', ⟨by have := HJ1.out; have := HK2.out; first | omega | exact Nat.le_refl _⟩, ⟨by repeat (first | (with_reducible first | exact HB.out | apply below_alloc | apply pw_below_drewN | apply below_drew1) | exact HB.out)⟩⟩
           ·rw [if_neg c18] at H
            exact absurd H (by simp)
          ·rw [if_neg c17] at H
           exact absurd H (by simp)
         ·rw [if_neg c15] at H
          have c15b0 : decide (1 < (x6_2.size : Int)) = false := decide_eq_false c15
          have c15b1 : decide (1 < x6_2.size) = false := decide_eq_false (by omega)
          clear c15
          (first | rw [c15b0] | (simp only [i64_w, i32_w]; rw [c15b0]) | skip)
          have H' := Aside0.mk H
          clear H
          go_wp2
          repeat (go_quiet (fail); try go_wp2)
          go_meet
          case rel => exact ⟨_, (x6_2), (by first | rfl | (simp; done) | (simp [*]; done)), H', ⟨by have := HJ1.out; have := HK2.out; first | omega | exact Nat.le_refl _⟩, ⟨by repeat (first | (with_reducible first | exact HB.out | apply below_alloc | apply pw_below_drewN | apply below_drew1) | exact HB.out)⟩⟩
      case rest =>
       clear HC13
       try clear c1
       try clear p1
       try clear q1
       try clear hx1
       try clear c2
       try clear p2
       try clear c3
       try clear c3b0
       try clear c4
       try clear c4b0
       try clear c4b1
       try clear c5
       try clear c6
       try clear c6b0
       try clear p6
       try clear c7
       try clear c7b0
       try clear c8
       try clear c8b0
       try clear c8b1
       try clear c10
       try clear c10b0
       try clear c10b1
       try clear c10b2
       try clear c15
       try clear c15b0
       try clear c15b1
       try clear c17
       try clear c17b0
       try clear c18
       try clear c18b0
       try clear p19
       try clear q19
       try clear hx19
       try clear c20
       try clear c20b0
       try clear c20b1
       try clear c21
       try clear c21b0
       try clear c22
       try clear c22b0
       try clear c22b1
       try clear c23
       try clear p19
       try clear p2
       try clear q19
       obtain ⟨kq, x6_12, rfl, HA, HJ12, HB⟩ := hcut
       cases kq with
       | zero => exact absurd HA.out (by simp [graftref9_Show.j2])
       | succ kj12 =>
        have H := HA.out
        clear HA
        simp only [graftref9_Show.j2] at H
        have HC24 := Aside0.mk H
        clear H
        go_upto_region 12 with (fail)
        repeat (go_quiet (fail); go_upto_region 12 with (fail))
        go_cut [62] (fun v62 wc => ∃ (kq : Nat) (x62_23 : Bool), v62 = .bool x62_23 ∧ Aside0 (graftref9_Show.j3 kq x6_12 t443 (x6_12.size : Int) x62_23 = some (r1, r2)) ∧ Aside0 (kq ≤ kj12) ∧ Aside0 (Below w.heap.size w wc))
        case first =>
         have H := HC24.out
         clear HC24
         by_cases c25 : t443 ≥ (x6_12.size : Int)
         ·rw [if_pos c25] at H
          have c25b0 : decide ((x6_12.size : Int) ≤ t443) = true := decide_eq_true c25
          clear c25
          (first | rw [c25b0] | (simp only [i64_w, i32_w]; rw [c25b0]) | skip)
          have H' := Aside0.mk H
          clear H
          go_wp2
          repeat (go_quiet (fail); try go_wp2)
          go_meet
          case rel => exact ⟨_, (decide (t443 ≤ 21)), (by first | rfl | (simp; done) | (simp [*]; done)), H', ⟨by have := HJ1.out; have := HJ12.out; first | omega | exact Nat.le_refl _⟩, ⟨by repeat (first | (with_reducible first | exact HB.out | apply below_alloc | apply pw_below_drewN | apply below_drew1) | exact HB.out)⟩⟩
         ·rw [if_neg c25] at H
          have c25b0 : decide ((x6_12.size : Int) ≤ t443) = false := decide_eq_false c25
          clear c25
          (first | rw [c25b0] | (simp only [i64_w, i32_w]; rw [c25b0]) | skip)
          have H' := Aside0.mk H
          clear H
          go_wp2
          repeat (go_quiet (fail); try go_wp2)
          go_meet
          case rel => exact ⟨_, (false), (by first | rfl | (simp; done) | (simp [*]; done)), H', ⟨by have := HJ1.out; have := HJ12.out; first | omega | exact Nat.le_refl _⟩, ⟨by repeat (first | (with_reducible first | exact HB.out | apply below_alloc | apply pw_below_drewN | apply below_drew1) | exact HB.out)⟩⟩
        case rest =>
         clear HC24
         try clear c1
         try clear p1
         try clear q1
         try clear hx1
         try clear c2
         try clear p2
         try clear c3
         try clear c3b0
         try clear c4
         try clear c4b0
         try clear c4b1
         try clear c5
         try clear c6
         try clear c6b0
         try clear p6
         try clear c7
         try clear c7b0
         try clear c8
         try clear c8b0
         try clear c8b1
         try clear c10
         try clear c10b0
         try clear c10b1
         try clear c10b2
         try clear c15
         try clear c15b0
         try clear c15b1
         try clear c17
         try clear c17b0
         try clear c18
         try clear c18b0
         try clear p19
         try clear q19
         try clear hx19
         try clear c20
         try clear c20b0
         try clear c20b1
         try clear c21
         try clear c21b0
         try clear c22
         try clear c22b0
         try clear c22b1
         try clear c23
         try clear c25
         try clear c25b0
         try clear p1
         try clear p19
         try clear p2
         try clear p6
         try clear q1
         try clear q19
         obtain ⟨kq, x62_23, rfl, HA, HJ23, HB⟩ := hcut
         cases kq with
         | zero => exact absurd HA.out (by simp [graftref9_Show.j3])
         | succ kj23 =>
          have H := HA.out
          clear HA
          simp only [graftref9_Show.j3] at H
          by_cases c26 : x62_23 = true
          ·subst c26
           have H1 : (graftref9_Show.l1 kj23 x6_12 t443) = some (r1, r2) := by rw [if_pos rfl] at H; exact H
           clear H
           have H := H1
           clear H1
           have H' := Aside0.mk H
           clear H
           go_wp2
           repeat (go_quiet (fail); try go_wp2)
           go_loopg [6] kj23 (fun kq v6 w' => ∃ (x6_4 : ByteArray), v6 = .string x6_4 ∧ Aside0 (graftref9_Show.l1 kq x6_4 t443 = some (r1, r2)) ∧ Aside0 (kq ≤ kj23) ∧ Aside0 (Below w.heap.size w w'))
           case atStart => exact ⟨(x6_12), (by first | rfl | (simp; done) | (simp [*]; done)), H', ⟨Nat.le_refl _⟩, ⟨by repeat (first | (with_reducible first | exact HB.out | apply below_alloc | apply pw_below_drewN | apply below_drew1) | exact HB.out)⟩⟩
           case round =>
            clear H'
            try clear c1
            try clear p1
            try clear q1
            try clear hx1
            try clear c2
            try clear p2
            try clear c3
            try clear c3b0
            try clear c4
            try clear c4b0
            try clear c4b1
            try clear c5
            try clear c6
            try clear c6b0
            try clear p6
            try clear c7
            try clear c7b0
            try clear c8
            try clear c8b0
            try clear c8b1
            try clear c10
            try clear c10b0
            try clear c10b1
            try clear c10b2
            try clear c15
            try clear c15b0
            try clear c15b1
            try clear c17
            try clear c17b0
            try clear c18
            try clear c18b0
            try clear p19
            try clear q19
            try clear hx19
            try clear c20
            try clear c20b0
            try clear c20b1
            try clear c21
            try clear c21b0
            try clear c22
            try clear c22b0
            try clear c22b1
            try clear c23
            try clear c25
            try clear c25b0
            try clear c26
            try clear p1
            try clear p19
            try clear p2
            try clear p6
            try clear q1
            try clear q19
            obtain ⟨x6_4, rfl, HA, HK4, HB⟩ := hrel
            cases gk with
            | zero => exact absurd HA.out (by simp [graftref9_Show.l1])
            | succ k4 =>
             have H := HA.out
             clear HA
             simp only [graftref9_Show.l1] at H
             by_cases c27 : (x6_4.size : Int) < t443
             ·rw [if_pos c27] at H
              have c27b0 : decide ((x6_4.size : Int) < t443) = true := decide_eq_true c27
              clear c27
              by_cases c28 : x6_4.size + 1 ≤ 9223372036854775807
              ·rw [if_pos c28] at H
               have c28b0 := eq_true c28
               have c28b1 : decide (x6_4.size + 1 ≤ 9223372036854775807) = true := decide_eq_true c28
               try have c28b2 : (9223372036854775807 < x6_4.size + 1) = False := eq_false (Nat.not_lt.2 c28)
               have H' := Aside0.mk H
               clear H
               go_wp2
               repeat (go_quiet (fail); try go_wp2)
               go_roundg k4
               case measure => have := HJ1.out; have := HJ12.out; have := HJ23.out; have := HK4.out; omega
               case rel => exact ⟨(x6_4 ++ (⟨#[48]⟩ : ByteArray)), (by first | rfl | (simp; done) | (simp [*]; done)), H', ⟨by have := HJ1.out; have := HJ12.out; have := HJ23.out; have := HK4.out; omega⟩, ⟨by repeat (first | (with_reducible first | exact HB.out | apply below_alloc | apply pw_below_drewN | apply below_drew1) | exact HB.out)⟩⟩
              ·rw [if_neg c28] at H
               exact absurd H (by simp)
             ·rw [if_neg c27] at H
              have c27b0 : decide ((x6_4.size : Int) < t443) = false := decide_eq_false c27
              clear c27
              simp only [Option.some.injEq, Prod.mk.injEq] at H
              obtain ⟨rfl, rfl⟩ := H
              go_wp2
              repeat (go_quiet (fail); try go_wp2)
              go_ret2
              exact ⟨by first | rfl | (simp [errW_none, errW_some] <;> rfl) | (simp [*, errW_none, errW_some] <;> rfl), by repeat (first | (with_reducible first | exact HB.out | apply below_alloc | apply pw_below_drewN | apply below_drew1) | exact HB.out)⟩
          ·replace c26 := Bool.eq_false_iff.mpr c26
           subst c26
           have H1 : (if t443 ≥ 1 then (graftref9_Show.j5 kj23 x6_12 t443 (x6_12.size : Int) (decide (t443 ≤ 21))) else (graftref9_Show.j5 kj23 x6_12 t443 (x6_12.size : Int) false)) = some (r1, r2) := by rw [if_neg (show ¬ (false = true) by decide)] at H; exact H
           clear H
           have H := H1
           clear H1
           have HC29 := Aside0.mk H
           clear H
           go_upto_region 16 with (fail)
           repeat (go_quiet (fail); go_upto_region 16 with (fail))
           go_cut [75] (fun v75 wc => ∃ (kq : Nat) (x75_28 : Bool), v75 = .bool x75_28 ∧ Aside0 (graftref9_Show.j5 kq x6_12 t443 (x6_12.size : Int) x75_28 = some (r1, r2)) ∧ Aside0 (kq ≤ kj23) ∧ Aside0 (Below w.heap.size w wc))
           case first =>
            have H := HC29.out
            clear HC29
            by_cases c30 : t443 ≥ 1
            ·rw [if_pos c30] at H
             have c30b0 : decide (1 ≤ t443) = true := decide_eq_true c30
             clear c30
             (first | rw [c30b0] | (simp only [i64_w, i32_w]; rw [c30b0]) | skip)
             have H' := Aside0.mk H
             clear H
             go_wp2
             repeat (go_quiet (fail); try go_wp2)
             go_meet
             case rel => exact ⟨_, (decide (t443 ≤ 21)), (by first | rfl | (simp; done) | (simp [*]; done)), H', ⟨by have := HJ1.out; have := HJ12.out; have := HJ23.out; first | omega | exact Nat.le_refl _⟩, ⟨by repeat (first | (with_reducible first | exact HB.out | apply below_alloc | apply pw_below_drewN | apply below_drew1) | exact HB.out)⟩⟩
            ·rw [if_neg c30] at H
             have c30b0 : decide (1 ≤ t443) = false := decide_eq_false c30
             clear c30
             (first | rw [c30b0] | (simp only [i64_w, i32_w]; rw [c30b0]) | skip)
             have H' := Aside0.mk H
             clear H
             go_wp2
             repeat (go_quiet (fail); try go_wp2)
             go_meet
             case rel => exact ⟨_, (false), (by first | rfl | (simp; done) | (simp [*]; done)), H', ⟨by have := HJ1.out; have := HJ12.out; have := HJ23.out; first | omega | exact Nat.le_refl _⟩, ⟨by repeat (first | (with_reducible first | exact HB.out | apply below_alloc | apply pw_below_drewN | apply below_drew1) | exact HB.out)⟩⟩
           case rest =>
            clear HC29
            try clear c1
            try clear p1
            try clear q1
            try clear hx1
            try clear c2
            try clear p2
            try clear c3
            try clear c3b0
            try clear c4
            try clear c4b0
            try clear c4b1
            try clear c5
            try clear c6
            try clear c6b0
            try clear p6
            try clear c7
            try clear c7b0
            try clear c8
            try clear c8b0
            try clear c8b1
            try clear c10
            try clear c10b0
            try clear c10b1
            try clear c10b2
            try clear c15
            try clear c15b0
            try clear c15b1
            try clear c17
            try clear c17b0
            try clear c18
            try clear c18b0
            try clear p19
            try clear q19
            try clear hx19
            try clear c20
            try clear c20b0
            try clear c20b1
            try clear c21
            try clear c21b0
            try clear c22
            try clear c22b0
            try clear c22b1
            try clear c23
            try clear c25
            try clear c25b0
            try clear c26
            try clear c27
            try clear c27b0
            try clear c28
            try clear c28b0
            try clear c28b1
            try clear c28b2
            try clear c30
            try clear c30b0
            try clear p1
            try clear p19
            try clear p2
            try clear p6
            try clear q1
            try clear q19
            obtain ⟨kq, x75_28, rfl, HA, HJ28, HB⟩ := hcut
            cases kq with
            | zero => exact absurd HA.out (by simp [graftref9_Show.j5])
            | succ kj28 =>
             have H := HA.out
             clear HA
             simp only [graftref9_Show.j5] at H
             by_cases c31 : x75_28 = true
             ·subst c31
              have H1 : (if 0 ≤ t443 then (if t443 ≤ (x6_12.size : Int) then (if (x6_12.extract 0 (t443 : Int).toNat).size + 1 ≤ 9223372036854775807 then (if ((x6_12.extract 0 (t443 : Int).toNat) ++ (⟨#[46]⟩ : ByteArray)).size + (x6_12.extract (t443 : Int).toNat x6_12.size).size ≤ 9223372036854775807 then (some (((x6_12.extract 0 (t443 : Int).toNat) ++ (⟨#[46]⟩ : ByteArray)) ++ (x6_12.extract (t443 : Int).toNat x6_12.size), 0)) else (none)) else (none)) else (none)) else (none)) = some (r1, r2) := by rw [if_pos rfl] at H; exact H
              clear H
              have H := H1
              clear H1
              by_cases c32 : 0 ≤ t443
              ·rw [if_pos c32] at H
               have c32b0 := eq_true c32
               have c32b1 : decide (0 ≤ t443) = true := decide_eq_true c32
               clear c32
               by_cases c33 : t443 ≤ (x6_12.size : Int)
               ·rw [if_pos c33] at H
                have c33b0 := eq_true c33
                have c33b1 : decide (t443 ≤ (x6_12.size : Int)) = true := decide_eq_true c33
                clear c33
                obtain ⟨yc34, hyc34⟩ : ∃ y_ : ByteArray, (x6_12.extract 0 (t443 : Int).toNat) = y_ := ⟨_, rfl⟩
                replace H : (if yc34.size + 1 ≤ 9223372036854775807 then (if (yc34 ++ (⟨#[46]⟩ : ByteArray)).size + (x6_12.extract (t443 : Int).toNat x6_12.size).size ≤ 9223372036854775807 then (some ((yc34 ++ (⟨#[46]⟩ : ByteArray)) ++ (x6_12.extract (t443 : Int).toNat x6_12.size), 0)) else (none)) else (none)) = some (r1, r2) := by first | (rw [hyc34] at H; exact H) | (simp only [hyc34] at H ⊢; exact H) | exact H
                by_cases c35 : yc34.size + 1 ≤ 9223372036854775807
                ·rw [if_pos c35] at H
                 have c35b0 := eq_true c35
                 have c35b1 : decide (yc34.size + 1 ≤ 9223372036854775807) = true := decide_eq_true c35
                 try have c35b2 : (9223372036854775807 < yc34.size + 1) = False := eq_false (Nat.not_lt.2 c35)
                 have c36b0 := eq_true (of_decide_eq_true (by first | (with_reducible assumption) | assumption) : 0 ≤ t443)
                 have c37b0 := eq_true (of_decide_eq_true (by first | (with_reducible assumption) | assumption) : t443 ≤ (x6_12.size : Int))
                 obtain ⟨yc38, hyc38⟩ : ∃ y_ : ByteArray, (x6_12.extract (t443 : Int).toNat x6_12.size) = y_ := ⟨_, rfl⟩
                 replace H : (if (yc34 ++ (⟨#[46]⟩ : ByteArray)).size + yc38.size ≤ 9223372036854775807 then (some ((yc34 ++ (⟨#[46]⟩ : ByteArray)) ++ yc38, 0)) else (none)) = some (r1, r2) := by first | (rw [hyc38] at H; exact H) | (simp only [hyc38] at H ⊢; exact H) | exact H
                 by_cases c39 : (yc34 ++ (⟨#[46]⟩ : ByteArray)).size + yc38.size ≤ 9223372036854775807
                 ·rw [if_pos c39] at H
                  have c39b0 := eq_true c39
                  have c39b1 : decide ((yc34 ++ (⟨#[46]⟩ : ByteArray)).size + yc38.size ≤ 9223372036854775807) = true := decide_eq_true c39
                  try have c39b2 : (9223372036854775807 < (yc34 ++ (⟨#[46]⟩ : ByteArray)).size + yc38.size) = False := eq_false (Nat.not_lt.2 c39)
                  (try (have c39n := c39; simp [ByteArray.size_append] at c39n))
                  simp only [Option.some.injEq, Prod.mk.injEq] at H
                  obtain ⟨rfl, rfl⟩ := H
                  go_wp2
                  repeat (go_quiet (fail); try go_wp2)
                  go_ret2
                  exact ⟨by first | rfl | (simp [errW_none, errW_some] <;> rfl) | (simp only [← hyc34, ← hyc38]; first | rfl | (simp [errW_none, errW_some] <;> rfl)) | (simp [*, errW_none, errW_some] <;> rfl), by repeat (first | (with_reducible first | exact HB.out | apply below_alloc | apply pw_below_drewN | apply below_drew1) | exact HB.out)⟩
                 ·rw [if_neg c39] at H
                  exact absurd H (by simp)
                ·rw [if_neg c35] at H
                 exact absurd H (by simp)
               ·rw [if_neg c33] at H
                exact absurd H (by simp)
              ·rw [if_neg c32] at H
               exact absurd H (by simp)
             ·replace c31 := Bool.eq_false_iff.mpr c31
              subst c31
              have H1 : (if t443 ≥ (-5) then (graftref9_Show.j6 kj28 x6_12 t443 (x6_12.size : Int) (decide (t443 ≤ 0))) else (graftref9_Show.j6 kj28 x6_12 t443 (x6_12.size : Int) false)) = some (r1, r2) := by rw [if_neg (show ¬ (false = true) by decide)] at H; exact H
              clear H
              have H := H1
              clear H1
              have HC40 := Aside0.mk H
              clear H
              go_upto_region 18 with (fail)
              repeat (go_quiet (fail); go_upto_region 18 with (fail))
              go_cut [89] (fun v89 wc => ∃ (kq : Nat) (x89_39 : Bool), v89 = .bool x89_39 ∧ Aside0 (graftref9_Show.j6 kq x6_12 t443 (x6_12.size : Int) x89_39 = some (r1, r2)) ∧ Aside0 (kq ≤ kj28) ∧ Aside0 (Below w.heap.size w wc))
              case first =>
               have H := HC40.out
               clear HC40
               by_cases c41 : t443 ≥ (-5)
               ·rw [if_pos c41] at H
                have c41b0 : decide ((-5) ≤ t443) = true := decide_eq_true c41
                clear c41
                (first | rw [c41b0] | (simp only [i64_w, i32_w]; rw [c41b0]) | skip)
                have H' := Aside0.mk H
                clear H
                go_wp2
                repeat (go_quiet (fail); try go_wp2)
                go_meet
                case rel => exact ⟨_, (decide (t443 ≤ 0)), (by first | rfl | (simp; done) | (simp [*]; done)), H', ⟨by have := HJ1.out; have := HJ12.out; have := HJ23.out; have := HJ28.out; first | omega | exact Nat.le_refl _⟩, ⟨by repeat (first | (with_reducible first | exact HB.out | apply below_alloc | apply pw_below_drewN | apply below_drew1) | exact HB.out)⟩⟩
               ·rw [if_neg c41] at H
                have c41b0 : decide ((-5) ≤ t443) = false := decide_eq_false c41
                clear c41
                (first | rw [c41b0] | (simp only [i64_w, i32_w]; rw [c41b0]) | skip)
                have H' := Aside0.mk H
                clear H
                go_wp2
                repeat (go_quiet (fail); try go_wp2)
                go_meet
                case rel => exact ⟨_, (false), (by first | rfl | (simp; done) | (simp [*]; done)), H', ⟨by have := HJ1.out; have := HJ12.out; have := HJ23.out; have := HJ28.out; first | omega | exact Nat.le_refl _⟩, ⟨by repeat (first | (with_reducible first | exact HB.out | apply below_alloc | apply pw_below_drewN | apply below_drew1) | exact HB.out)⟩⟩
              case rest =>
               clear HC40
               try clear c1
               try clear p1
               try clear q1
               try clear hx1
               try clear c2
               try clear p2
               try clear c3
               try clear c3b0
               try clear c4
               try clear c4b0
               try clear c4b1
               try clear c5
               try clear c6
               try clear c6b0
               try clear p6
               try clear c7
               try clear c7b0
               try clear c8
               try clear c8b0
               try clear c8b1
               try clear c10
               try clear c10b0
               try clear c10b1
               try clear c10b2
               try clear c15
               try clear c15b0
               try clear c15b1
               try clear c17
               try clear c17b0
               try clear c18
               try clear c18b0
               try clear p19
               try clear q19
               try clear hx19
               try clear c20
               try clear c20b0
               try clear c20b1
               try clear c21
               try clear c21b0
               try clear c22
               try clear c22b0
               try clear c22b1
               try clear c23
               try clear c25
               try clear c25b0
               try clear c26
               try clear c27
               try clear c27b0
               try clear c28
               try clear c28b0
               try clear c28b1
               try clear c28b2
               try clear c30
               try clear c30b0
               try clear c31
               try clear c32
               try clear c32b0
               try clear c32b1
               try clear c33
               try clear c33b0
               try clear c33b1
               try clear c34
               try clear c35
               try clear c35b0
               try clear c35b1
               try clear c35b2
               try clear c36
               try clear c36b0
               try clear c37
               try clear c37b0
               try clear c38
               try clear c39
               try clear c39b0
               try clear c39b1
               try clear c39b2
               try clear c41
               try clear c41b0
               try clear p1
               try clear p19
               try clear p2
               try clear p6
               try clear q1
               try clear q19
               obtain ⟨kq, x89_39, rfl, HA, HJ39, HB⟩ := hcut
               cases kq with
               | zero => exact absurd HA.out (by simp [graftref9_Show.j6])
               | succ kj39 =>
                have H := HA.out
                clear HA
                simp only [graftref9_Show.j6] at H
                by_cases c42 : x89_39 = true
                ·subst c42
                 have H1 : (graftref9_Show.l2 kj39 x6_12 (⟨#[48, 46]⟩ : ByteArray) t443) = some (r1, r2) := by rw [if_pos rfl] at H; exact H
                 clear H
                 have H := H1
                 clear H1
                 have H' := Aside0.mk H
                 clear H
                 go_wp2
                 repeat (go_quiet (fail); try go_wp2)
                 go_loopg [9, 10] kj39 (fun kq v9 v10 w' => ∃ (x9_6 : ByteArray) (x10_6 : Int), v9 = .string x9_6 ∧ v10 = .int .i64 x10_6 ∧ Aside0 (graftref9_Show.l2 kq x6_12 x9_6 x10_6 = some (r1, r2)) ∧ Aside0 (kq ≤ kj39) ∧ Aside0 (Below w.heap.size w w'))
                 case atStart => exact ⟨((⟨#[48, 46]⟩ : ByteArray)), (t443), (by first | rfl | (simp; done) | (simp [*]; done)), (by first | rfl | (simp; done) | (simp [*]; done)), H', ⟨Nat.le_refl _⟩, ⟨by repeat (first | (with_reducible first | exact HB.out | apply below_alloc | apply pw_below_drewN | apply below_drew1) | exact HB.out)⟩⟩
                 case round =>
                  clear H'
                  try clear c1
                  try clear p1
                  try clear q1
                  try clear hx1
                  try clear c2
                  try clear p2
                  try clear c3
                  try clear c3b0
                  try clear c4
                  try clear c4b0
                  try clear c4b1
                  try clear c5
                  try clear c6
                  try clear c6b0
                  try clear p6
                  try clear c7
                  try clear c7b0
                  try clear c8
                  try clear c8b0
                  try clear c8b1
                  try clear c10
                  try clear c10b0
                  try clear c10b1
                  try clear c10b2
                  try clear c15
                  try clear c15b0
                  try clear c15b1
                  try clear c17
                  try clear c17b0
                  try clear c18
                  try clear c18b0
                  try clear p19
                  try clear q19
                  try clear hx19
                  try clear c20
                  try clear c20b0
                  try clear c20b1
                  try clear c21
                  try clear c21b0
                  try clear c22
                  try clear c22b0
                  try clear c22b1
                  try clear c23
                  try clear c25
                  try clear c25b0
                  try clear c26
                  try clear c27
                  try clear c27b0
                  try clear c28
                  try clear c28b0
                  try clear c28b1
                  try clear c28b2
                  try clear c30
                  try clear c30b0
                  try clear c31
                  try clear c32
                  try clear c32b0
                  try clear c32b1
                  try clear c33
                  try clear c33b0
                  try clear c33b1
                  try clear c34
                  try clear c35
                  try clear c35b0
                  try clear c35b1
                  try clear c35b2
                  try clear c36
                  try clear c36b0
                  try clear c37
                  try clear c37b0
                  try clear c38
                  try clear c39
                  try clear c39b0
                  try clear c39b1
                  try clear c39b2
                  try clear c41
                  try clear c41b0
                  try clear c42
                  try clear p1
                  try clear p19
                  try clear p2
                  try clear p6
                  try clear q1
                  try clear q19
                  obtain ⟨x9_6, x10_6, rfl, rfl, HA, HK6, HB⟩ := hrel
                  cases gk with
                  | zero => exact absurd HA.out (by simp [graftref9_Show.l2])
                  | succ k6 =>
                   have H := HA.out
                   clear HA
                   simp only [graftref9_Show.l2] at H
                   by_cases c43 : x10_6 < 0
                   ·rw [if_pos c43] at H
                    have c43b0 : decide (x10_6 < 0) = true := decide_eq_true c43
                    clear c43
                    by_cases c44 : x9_6.size + 1 ≤ 9223372036854775807
                    ·rw [if_pos c44] at H
                     have c44b0 := eq_true c44
                     have c44b1 : decide (x9_6.size + 1 ≤ 9223372036854775807) = true := decide_eq_true c44
                     try have c44b2 : (9223372036854775807 < x9_6.size + 1) = False := eq_false (Nat.not_lt.2 c44)
                     have H' := Aside0.mk H
                     clear H
                     go_wp2
                     repeat (go_quiet (fail); try go_wp2)
                     go_roundg k6
                     case measure => have := HJ1.out; have := HJ12.out; have := HJ23.out; have := HJ28.out; have := HJ39.out; have := HK6.out; omega
                     case rel => exact ⟨(x9_6 ++ (⟨#[48]⟩ : ByteArray)), (wrap64 (x10_6 + 1)), (by first | rfl | (simp; done) | (simp [*]; done)), (by first | rfl | (simp; done) | (simp [*]; done)), H', ⟨by have := HJ1.out; have := HJ12.out; have := HJ23.out; have := HJ28.out; have := HJ39.out; have := HK6.out; omega⟩, ⟨by repeat (first | (with_reducible first | exact HB.out | apply below_alloc | apply pw_below_drewN | apply below_drew1) | exact HB.out)⟩⟩
                    ·rw [if_neg c44] at H
                     exact absurd H (by simp)
                   ·rw [if_neg c43] at H
                    have c43b0 : decide (x10_6 < 0) = false := decide_eq_false c43
                    clear c43
                    by_cases c45 : x9_6.size + x6_12.size ≤ 9223372036854775807
                    ·rw [if_pos c45] at H
                     have c45b0 := eq_true c45
                     have c45b1 : decide (x9_6.size + x6_12.size ≤ 9223372036854775807) = true := decide_eq_true c45
                     try have c45b2 : (9223372036854775807 < x9_6.size + x6_12.size) = False := eq_false (Nat.not_lt.2 c45)
                     simp only [Option.some.injEq, Prod.mk.injEq] at H
                     obtain ⟨rfl, rfl⟩ := H
                     go_wp2
                     repeat (go_quiet (fail); try go_wp2)
                     go_ret2
                     exact ⟨by first | rfl | (simp [errW_none, errW_some] <;> rfl) | (simp [*, errW_none, errW_some] <;> rfl), by repeat (first | (with_reducible first | exact HB.out | apply below_alloc | apply pw_below_drewN | apply below_drew1) | exact HB.out)⟩
                    ·rw [if_neg c45] at H
                     exact absurd H (by simp)
                ·replace c42 := Bool.eq_false_iff.mpr c42
                 subst c42
                 have H1 : (if 0 ≤ 1 then (if 1 ≤ (x6_12.size : Int) then (if (x6_12.size : Int) > 1 then (if (x6_12.extract 0 1).size + 1 ≤ 9223372036854775807 then (if ((x6_12.extract 0 1) ++ (⟨#[46]⟩ : ByteArray)).size + (x6_12.extract 1 x6_12.size).size ≤ 9223372036854775807 then (graftref9_Show.j8 kj39 t443 (((x6_12.extract 0 1) ++ (⟨#[46]⟩ : ByteArray)) ++ (x6_12.extract 1 x6_12.size))) else (none)) else (none)) else (graftref9_Show.j8 kj39 t443 (x6_12.extract 0 1))) else (none)) else (none)) = some (r1, r2) := by rw [if_neg (show ¬ (false = true) by decide)] at H; exact H
                 clear H
                 have H := H1
                 clear H1
                 by_cases c46 : 0 ≤ 1
                 ·rw [if_pos c46] at H
                  have c46b0 := eq_true c46
                  have c46b1 : decide (0 ≤ 1) = true := decide_eq_true c46
                  clear c46
                  by_cases c47 : 1 ≤ (x6_12.size : Int)
                  ·rw [if_pos c47] at H
                   have c47b0 := eq_true c47
                   have c47b1 : decide (1 ≤ (x6_12.size : Int)) = true := decide_eq_true c47
                   clear c47
                   obtain ⟨yc48, hyc48⟩ : ∃ y_ : ByteArray, (x6_12.extract 0 1) = y_ := ⟨_, rfl⟩
                   replace H : (if (x6_12.size : Int) > 1 then (if yc48.size + 1 ≤ 9223372036854775807 then (if (yc48 ++ (⟨#[46]⟩ : ByteArray)).size + (x6_12.extract 1 x6_12.size).size ≤ 9223372036854775807 then (graftref9_Show.j8 kj39 t443 ((yc48 ++ (⟨#[46]⟩ : ByteArray)) ++ (x6_12.extract 1 x6_12.size))) else (none)) else (none)) else (graftref9_Show.j8 kj39 t443 yc48)) = some (r1, r2) := by first | (rw [hyc48] at H; exact H) | (simp only [hyc48] at H ⊢; exact H) | exact H
                   have HC49 := Aside0.mk H
                   clear H
                   go_upto_if 103 with (fail)
                   repeat (go_quiet (fail); go_upto_if 103 with (fail))
                   go_cut [11] (fun v11 wc => ∃ (kq : Nat) (x11_48 : ByteArray), v11 = .string x11_48 ∧ Aside0 (graftref9_Show.j8 kq t443 x11_48 = some (r1, r2)) ∧ Aside0 (kq ≤ kj39) ∧ Aside0 (Below w.heap.size w wc))
                   case first =>
                    have H := HC49.out
                    clear HC49
                    by_cases c50 : (x6_12.size : Int) > 1
                    ·rw [if_pos c50] at H
                     have c50b0 : decide (1 < (x6_12.size : Int)) = true := decide_eq_true c50
                     have c50b1 : decide (1 < x6_12.size) = true := decide_eq_true (by omega)
                     clear c50
                     (first | rw [c50b0] | (simp only [i64_w, i32_w]; rw [c50b0]) | skip)
                     by_cases c51 : yc48.size + 1 ≤ 9223372036854775807
                     ·rw [if_pos c51] at H
                      have c51b0 := eq_true c51
                      have c51b1 : decide (yc48.size + 1 ≤ 9223372036854775807) = true := decide_eq_true c51
                      try have c51b2 : (9223372036854775807 < yc48.size + 1) = False := eq_false (Nat.not_lt.2 c51)
                      have c52b0 := eq_true (of_decide_eq_true (by first | (with_reducible assumption) | assumption) : 1 ≤ (x6_12.size : Int))
                      obtain ⟨yc53, hyc53⟩ : ∃ y_ : ByteArray, (x6_12.extract 1 x6_12.size) = y_ := ⟨_, rfl⟩
                      replace H : (if (yc48 ++ (⟨#[46]⟩ : ByteArray)).size + yc53.size ≤ 9223372036854775807 then (graftref9_Show.j8 kj39 t443 ((yc48 ++ (⟨#[46]⟩ : ByteArray)) ++ yc53)) else (none)) = some (r1, r2) := by first | (rw [hyc53] at H; exact H) | (simp only [hyc53] at H ⊢; exact H) | exact H
                      by_cases c54 : (yc48 ++ (⟨#[46]⟩ : ByteArray)).size + yc53.size ≤ 9223372036854775807
                      ·rw [if_pos c54] at H
                       have c54b0 := eq_true c54
                       have c54b1 : decide ((yc48 ++ (⟨#[46]⟩ : ByteArray)).size + yc53.size ≤ 9223372036854775807) = true := decide_eq_true c54
                       try have c54b2 : (9223372036854775807 < (yc48 ++ (⟨#[46]⟩ : ByteArray)).size + yc53.size) = False := eq_false (Nat.not_lt.2 c54)
                       (try (have c54n := c54; simp [ByteArray.size_append] at c54n))
                       have H' := Aside0.mk H
                       clear H
                       go_wp2
                       repeat (go_quiet (fail); try go_wp2)
                       go_meet
                       case rel => exact ⟨_, ((yc48 ++ (⟨#[46]⟩ : ByteArray)) ++ yc53), (by first | rfl | (simp; done) | (simp only [← hyc48, ← hyc53] <;> (first | rfl | simp)) | (simp [*]; done)), H', ⟨by have := HJ1.out; have := HJ12.out; have := HJ23.out; have := HJ28.out; have := HJ39.out; first | omega | exact Nat.le_refl _⟩, ⟨by repeat (first | (with_reducible first | exact HB.out | apply below_alloc | apply pw_below_drewN | apply below_drew1) | exact HB.out)⟩⟩
                      ·rw [if_neg c54] at H
                       exact absurd H (by simp)
                     ·rw [if_neg c51] at H
                      exact absurd H (by simp)
                    ·rw [if_neg c50] at H
                     have c50b0 : decide (1 < (x6_12.size : Int)) = false := decide_eq_false c50
                     have c50b1 : decide (1 < x6_12.size) = false := decide_eq_false (by omega)
                     clear c50
                     (first | rw [c50b0] | (simp only [i64_w, i32_w]; rw [c50b0]) | skip)
                     have H' := Aside0.mk H
                     clear H
                     go_wp2
                     repeat (go_quiet (fail); try go_wp2)
                     go_meet
                     case rel => exact ⟨_, (yc48), (by first | rfl | (simp; done) | (simp only [← hyc48] <;> (first | rfl | simp)) | (simp [*]; done)), H', ⟨by have := HJ1.out; have := HJ12.out; have := HJ23.out; have := HJ28.out; have := HJ39.out; first | omega | exact Nat.le_refl _⟩, ⟨by repeat (first | (with_reducible first | exact HB.out | apply below_alloc | apply pw_below_drewN | apply below_drew1) | exact HB.out)⟩⟩
                   case rest =>
                    clear HC49
                    try clear c1
                    try clear p1
                    try clear q1
                    try clear hx1
                    try clear c2
                    try clear p2
                    try clear c3
                    try clear c3b0
                    try clear c4
                    try clear c4b0
                    try clear c4b1
                    try clear c5
                    try clear c6
                    try clear c6b0
                    try clear p6
                    try clear c7
                    try clear c7b0
                    try clear c8
                    try clear c8b0
                    try clear c8b1
                    try clear c10
                    try clear c10b0
                    try clear c10b1
                    try clear c10b2
                    try clear c15
                    try clear c15b0
                    try clear c15b1
                    try clear c17
                    try clear c17b0
                    try clear c18
                    try clear c18b0
                    try clear p19
                    try clear q19
                    try clear hx19
                    try clear c20
                    try clear c20b0
                    try clear c20b1
                    try clear c21
                    try clear c21b0
                    try clear c22
                    try clear c22b0
                    try clear c22b1
                    try clear c23
                    try clear c25
                    try clear c25b0
                    try clear c26
                    try clear c27
                    try clear c27b0
                    try clear c28
                    try clear c28b0
                    try clear c28b1
                    try clear c28b2
                    try clear c30
                    try clear c30b0
                    try clear c31
                    try clear c32
                    try clear c32b0
                    try clear c32b1
                    try clear c33
                    try clear c33b0
                    try clear c33b1
                    try clear c34
                    try clear c35
                    try clear c35b0
                    try clear c35b1
                    try clear c35b2
                    try clear c36
                    try clear c36b0
                    try clear c37
                    try clear c37b0
                    try clear c38
                    try clear c39
                    try clear c39b0
                    try clear c39b1
                    try clear c39b2
                    try clear c41
                    try clear c41b0
                    try clear c42
                    try clear c43
                    try clear c43b0
                    try clear c44
                    try clear c44b0
                    try clear c44b1
                    try clear c44b2
                    try clear c45
                    try clear c45b0
                    try clear c45b1
                    try clear c45b2
                    try clear c46
                    try clear c46b0
                    try clear c46b1
                    try clear c47
                    try clear c47b0
                    try clear c47b1
                    try clear c48
                    try clear c50
                    try clear c50b0
                    try clear c50b1
                    try clear c51
                    try clear c51b0
                    try clear c51b1
                    try clear c51b2
                    try clear c52
                    try clear c52b0
                    try clear c53
                    try clear c54
                    try clear c54b0
                    try clear c54b1
                    try clear c54b2
                    try clear p1
                    try clear p19
                    try clear p2
                    try clear p6
                    try clear q1
                    try clear q19
                    obtain ⟨kq, x11_48, rfl, HA, HJ48, HB⟩ := hcut
                    cases kq with
                    | zero => exact absurd HA.out (by simp [graftref9_Show.j8])
                    | succ kj48 =>
                     have H := HA.out
                     clear HA
                     simp only [graftref9_Show.j8] at H
                     by_cases c55 : (wrap64 (t443 - 1)) < 0
                     ·rw [if_pos c55] at H
                      have c55b0 : decide ((wrap64 (t443 - 1)) < 0) = true := decide_eq_true c55
                      clear c55
                      by_cases c56 : x11_48.size + 2 ≤ 9223372036854775807
                      ·rw [if_pos c56] at H
                       have c56b0 := eq_true c56
                       have c56b1 : decide (x11_48.size + 2 ≤ 9223372036854775807) = true := decide_eq_true c56
                       try have c56b2 : (9223372036854775807 < x11_48.size + 2) = False := eq_false (Nat.not_lt.2 c56)
                       replace H := Option.bind_eq_some_iff.mp H
                       obtain ⟨t444, A570, H⟩ := H
                       replace H : (if (x11_48 ++ (⟨#[101, 45]⟩ : ByteArray)).size + t444.size ≤ 9223372036854775807 then (some ((x11_48 ++ (⟨#[101, 45]⟩ : ByteArray)) ++ t444, 0)) else (none)) = some (r1, r2) := H
                       have A57 := Aside0.mk A570
                       clear A570
                       by_cases c58 : (x11_48 ++ (⟨#[101, 45]⟩ : ByteArray)).size + t444.size ≤ 9223372036854775807
                       ·rw [if_pos c58] at H
                        have c58b0 := eq_true c58
                        have c58b1 : decide ((x11_48 ++ (⟨#[101, 45]⟩ : ByteArray)).size + t444.size ≤ 9223372036854775807) = true := decide_eq_true c58
                        try have c58b2 : (9223372036854775807 < (x11_48 ++ (⟨#[101, 45]⟩ : ByteArray)).size + t444.size) = False := eq_false (Nat.not_lt.2 c58)
                        (try (have c58n := c58; simp [ByteArray.size_append] at c58n))
                        simp only [Option.some.injEq, Prod.mk.injEq] at H
                        obtain ⟨rfl, rfl⟩ := H
                        go_wp2_with (first | (go_at_call 18; (with_reducible refine (graftref9_dec.calls kj48 (wrap64 (1 - t443)) t444 _ A57.out).mono ?_); rintro e w59 ⟨rfl, hb⟩; have n0_ := Aside0.mk (below_step (by repeat (first | (with_reducible first | exact HB.out | apply below_alloc | apply pw_below_drewN | apply below_drew1) | exact HB.out)) hb); clear HB; have HB := n0_; clear n0_; (try clear hb); (try clear hb2); (try clear hk); (try clear hi)))
                        repeat (go_quiet (first | (go_at_call 18; (with_reducible refine (graftref9_dec.calls kj48 (wrap64 (1 - t443)) t444 _ A57.out).mono ?_); rintro e w59 ⟨rfl, hb⟩; have n0_ := Aside0.mk (below_step (by repeat (first | (with_reducible first | exact HB.out | apply below_alloc | apply pw_below_drewN | apply below_drew1) | exact HB.out)) hb); clear HB; have HB := n0_; clear n0_; (try clear hb); (try clear hb2); (try clear hk); (try clear hi))); try go_wp2_with (first | (go_at_call 18; (with_reducible refine (graftref9_dec.calls kj48 (wrap64 (1 - t443)) t444 _ A57.out).mono ?_); rintro e w59 ⟨rfl, hb⟩; have n0_ := Aside0.mk (below_step (by repeat (first | (with_reducible first | exact HB.out | apply below_alloc | apply pw_below_drewN | apply below_drew1) | exact HB.out)) hb); clear HB; have HB := n0_; clear n0_; (try clear hb); (try clear hb2); (try clear hk); (try clear hi))))
                        go_ret2
                        exact ⟨by first | rfl | (simp [errW_none, errW_some] <;> rfl) | (simp only [← hyc48]; first | rfl | (simp [errW_none, errW_some] <;> rfl)) | (simp [*, errW_none, errW_some] <;> rfl), by repeat (first | (with_reducible first | exact HB.out | apply below_alloc | apply pw_below_drewN | apply below_drew1) | exact HB.out)⟩
                       ·rw [if_neg c58] at H
                        exact absurd H (by simp)
                      ·rw [if_neg c56] at H
                       exact absurd H (by simp)
                     ·rw [if_neg c55] at H
                      have c55b0 : decide ((wrap64 (t443 - 1)) < 0) = false := decide_eq_false c55
                      clear c55
                      by_cases c60 : x11_48.size + 2 ≤ 9223372036854775807
                      ·rw [if_pos c60] at H
                       have c60b0 := eq_true c60
                       have c60b1 : decide (x11_48.size + 2 ≤ 9223372036854775807) = true := decide_eq_true c60
                       try have c60b2 : (9223372036854775807 < x11_48.size + 2) = False := eq_false (Nat.not_lt.2 c60)
                       replace H := Option.bind_eq_some_iff.mp H
                       obtain ⟨t445, A610, H⟩ := H
                       replace H : (if (x11_48 ++ (⟨#[101, 43]⟩ : ByteArray)).size + t445.size ≤ 9223372036854775807 then (some ((x11_48 ++ (⟨#[101, 43]⟩ : ByteArray)) ++ t445, 0)) else (none)) = some (r1, r2) := H
                       have A61 := Aside0.mk A610
                       clear A610
                       by_cases c62 : (x11_48 ++ (⟨#[101, 43]⟩ : ByteArray)).size + t445.size ≤ 9223372036854775807
                       ·rw [if_pos c62] at H
                        have c62b0 := eq_true c62
                        have c62b1 : decide ((x11_48 ++ (⟨#[101, 43]⟩ : ByteArray)).size + t445.size ≤ 9223372036854775807) = true := decide_eq_true c62
                        try have c62b2 : (9223372036854775807 < (x11_48 ++ (⟨#[101, 43]⟩ : ByteArray)).size + t445.size) = False := eq_false (Nat.not_lt.2 c62)
                        (try (have c62n := c62; simp [ByteArray.size_append] at c62n))
                        simp only [Option.some.injEq, Prod.mk.injEq] at H
                        obtain ⟨rfl, rfl⟩ := H
                        go_wp2_with (first | (go_at_call 18; (with_reducible refine (graftref9_dec.calls kj48 (wrap64 (t443 - 1)) t445 _ A61.out).mono ?_); rintro e w63 ⟨rfl, hb⟩; have n0_ := Aside0.mk (below_step (by repeat (first | (with_reducible first | exact HB.out | apply below_alloc | apply pw_below_drewN | apply below_drew1) | exact HB.out)) hb); clear HB; have HB := n0_; clear n0_; (try clear hb); (try clear hb2); (try clear hk); (try clear hi)))
                        repeat (go_quiet (first | (go_at_call 18; (with_reducible refine (graftref9_dec.calls kj48 (wrap64 (t443 - 1)) t445 _ A61.out).mono ?_); rintro e w63 ⟨rfl, hb⟩; have n0_ := Aside0.mk (below_step (by repeat (first | (with_reducible first | exact HB.out | apply below_alloc | apply pw_below_drewN | apply below_drew1) | exact HB.out)) hb); clear HB; have HB := n0_; clear n0_; (try clear hb); (try clear hb2); (try clear hk); (try clear hi))); try go_wp2_with (first | (go_at_call 18; (with_reducible refine (graftref9_dec.calls kj48 (wrap64 (t443 - 1)) t445 _ A61.out).mono ?_); rintro e w63 ⟨rfl, hb⟩; have n0_ := Aside0.mk (below_step (by repeat (first | (with_reducible first | exact HB.out | apply below_alloc | apply pw_below_drewN | apply below_drew1) | exact HB.out)) hb); clear HB; have HB := n0_; clear n0_; (try clear hb); (try clear hb2); (try clear hk); (try clear hi))))
                        go_ret2
                        exact ⟨by first | rfl | (simp [errW_none, errW_some] <;> rfl) | (simp only [← hyc48]; first | rfl | (simp [errW_none, errW_some] <;> rfl)) | (simp [*, errW_none, errW_some] <;> rfl), by repeat (first | (with_reducible first | exact HB.out | apply below_alloc | apply pw_below_drewN | apply below_drew1) | exact HB.out)⟩
                       ·rw [if_neg c62] at H
                        exact absurd H (by simp)
                      ·rw [if_neg c60] at H
                       exact absurd H (by simp)
                  ·rw [if_neg c47] at H
                   exact absurd H (by simp)
                 ·rw [if_neg c46] at H
                  exact absurd H (by simp)
end Go.Proofs.Ytlhciggmllddkaa.PNum
