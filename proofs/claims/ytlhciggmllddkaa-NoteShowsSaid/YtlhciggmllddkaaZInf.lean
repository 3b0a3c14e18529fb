/- Part of the proof of NoteShows: on every float64 the program and the document's answer show the same. No condition. -/
import Derived.Test.YtlhciggmllddkaaZP2
import Derived.Laws.NewFold
namespace Go.Proofs.Ytlhciggmllddkaa.PNub
open Go.RowKit Go.Proofs.YtlhciggmllddkaaW.PrintWords Go.Proofs.YtlhciggmllddkaaW.PrintLast Go.Proofs.YtlhciggmllddkaaW.PrintMore Go.Proofs.Ytlhciggmllddkaa.PNum
set_option linter.unusedVariables false
set_option linter.unusedSimpArgs false
/-- The bits of x - y where it is no number. -/
def nanOf (w : World) (x y : Nat) : Nat := Question.cut (.nanBits .f64 x y) (w.tape w.drawn (.nanBits .f64 x y))
theorem feq_nanOf (w : World) (x y : Nat) : feq (nanOf w x y) 0 = false := by
 have key : ∀ t : Nat, feq ((t % 2) * 2 ^ 63 + 0x7ff0000000000000 + 1 + (t / 2) % (2 ^ 52 - 1)) 0 = false := by
  intro t
  have h2 : (t / 2) % (2 ^ 52 - 1) < 4503599627370495 := Nat.mod_lt _ (by decide)
  generalize (t / 2) % (2 ^ 52 - 1) = u at h2 ⊢
  have hn : ∃ s f, Ieee.double.read ((t % 2) * 2 ^ 63 + 0x7ff0000000000000 + 1 + u) = .nan s f := by
   rcases Nat.mod_two_eq_zero_or_one t with h | h
   ·rw [h]
    obtain ⟨f, hf⟩ := Pl.read_nan (x := 0 * 2 ^ 63 + 0x7ff0000000000000 + 1 + u) (by omega) (by omega)
    exact ⟨_, f, hf⟩
   ·rw [h]
    obtain ⟨f, hf⟩ := Pl.read_nan_neg (x := 1 * 2 ^ 63 + 0x7ff0000000000000 + 1 + u) (by omega) (by omega)
    exact ⟨_, f, hf⟩
  obtain ⟨s, f, hf⟩ := hn
  unfold feq
  show (Ieee.double.order _ 0 == some .eq) = false
  unfold Ieee.Format.order
  rw [hf]
  rfl
 exact key _
section
variable {P : Program} (w : World)
@[go_sem high] theorem walk_fnan (t : TypeId) (x y : Nat) (h : fok .sub x y = false) : (binOp .sub t (.float .f64 x) (.float .f64 y)).run P w = .ok (.float .f64 (nanOf w x y)) w.drew := by
 have h2 : FloatKind.f64.format.sub x y = none := Option.not_isSome_iff_eq_none.1 (by rw [show (FloatKind.f64.format.sub x y).isSome = fok .sub x y from rfl, h]; exact Bool.false_ne_true)
 simp [binOp, Op.floatArith, h2, run_choose_drew, Question.forced, nanOf]
end
set_option maxHeartbeats 8000000 in
set_option maxRecDepth 100000 in
theorem graftref9_Show.calls_inf (a0 : Nat) (w : World) (h1 : feq a0 a0 = true) (h2 : fok .sub a0 a0 = false) :
  Calls Try.prog 10 #[.float .f64 a0] w fun e w' => e = .returned (.tuple #[.string ⟨#[]⟩, .int .i64 94]) ∧ Below w.heap.size w w' := by
 have HB := Aside0.mk (Below.refl w.heap.size w)
 have h3 := feq_nanOf
 go_enter Try.func10, Try.ntmps10
 go_upto_region 1 with (fail)
 repeat (go_quiet (fail); go_upto_region 1 with (fail))
 (first | rw [h1] | (simp only [i64_w, i32_w]; rw [h1]) | skip)
 go_wp2
 repeat (go_quiet (fail); try go_wp2)
 go_ret2
 exact ⟨rfl, by repeat (first | (with_reducible first | exact HB.out | apply below_alloc | apply pw_below_drewN | apply below_drew1) | exact HB.out)⟩
set_option maxHeartbeats 8000000 in
set_option maxRecDepth 100000 in
theorem law_inf (a0 : Nat) (w : World) (h1 : feq a0 a0 = true) (h2 : fok .sub a0 a0 = false) (h3 : note_Show.f 0 a0 = some (⟨#[]⟩, 94)) :
  Calls Try.prog 4 #[.float .f64 a0] w fun e w' => e = .returned (.bool true) ∧ Below w.heap.size w w' := by
 have HB := Aside0.mk (Below.refl w.heap.size w)
 have A2 := Aside0.mk h3
 clear h3
 go_enter Try.func4, Try.ntmps4
 go_wp2_with (first
  | (go_at_call 9; refine (note_Show.calls 0 a0 _ _ _ A2.out).mono ?_; rintro e w5 ⟨rfl, hb⟩; have n0_ := Aside0.mk (below_step (by repeat (first | (with_reducible first | exact HB.out | apply below_alloc | apply pw_below_drewN | apply below_drew1) | exact HB.out)) hb); clear HB; have HB := n0_; clear n0_; (try clear hb))
  | (go_at_call 10; refine (graftref9_Show.calls_inf a0 _ h1 h2).mono ?_; rintro e w6 ⟨rfl, hb⟩; have n0_ := Aside0.mk (below_step (by repeat (first | (with_reducible first | exact HB.out | apply below_alloc | apply pw_below_drewN | apply below_drew1) | exact HB.out)) hb); clear HB; have HB := n0_; clear n0_; (try clear hb)))
 go_ret
 exact ⟨rfl, by repeat (first | (with_reducible first | exact HB.out | apply below_alloc | apply pw_below_drewN | apply below_drew1) | exact HB.out)⟩
theorem inf_facts : (feq 9218868437227405312 9218868437227405312 = true ∧ fok .sub 9218868437227405312 9218868437227405312 = false ∧ note_Show.f 0 9218868437227405312 = some (⟨#[]⟩, 94)) ∧ (feq 18442240474082181120 18442240474082181120 = true ∧ fok .sub 18442240474082181120 18442240474082181120 = false ∧ note_Show.f 0 18442240474082181120 = some (⟨#[]⟩, 94)) := by decide +kernel
/-- Every float64. -/
theorem law_walk (a0 : Nat) (w : World) (hw : a0 < 18446744073709551616) :
  Calls Try.prog 4 #[.float .f64 a0] w fun e w' => e = .returned (.bool true) ∧ Below w.heap.size w w' := by
 by_cases h1 : a0 = 9218868437227405312
 ·subst h1
  exact law_inf _ w inf_facts.1.1 inf_facts.1.2.1 inf_facts.1.2.2
 ·by_cases h2 : a0 = 18442240474082181120
  ·subst h2
   exact law_inf _ w inf_facts.2.1 inf_facts.2.2.1 inf_facts.2.2.2
  ·obtain ⟨k, hk⟩ := Pl.law_but_inf hw h1 h2
   exact graftlaw9_NoteShows.calls k a0 true w hk
end Go.Proofs.Ytlhciggmllddkaa.PNub
