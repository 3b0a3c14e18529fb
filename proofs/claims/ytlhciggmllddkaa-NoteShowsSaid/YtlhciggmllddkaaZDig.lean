/- Part of the proof of NoteShows: on every float64 the program and the document's answer show the same. No condition. -/
import Derived.Test.YtlhciggmllddkaaZPNumx
import Derived.Deep.RegionHeld3
namespace Go.Proofs.Ytlhciggmllddkaa.PNum
open Go.RowKit Go.Proofs.YtlhciggmllddkaaW.PrintWords Go.Proofs.YtlhciggmllddkaaW.PrintLast Go.Proofs.YtlhciggmllddkaaW.PrintMore
set_option linter.unusedVariables false
set_option linter.unusedSimpArgs false
def note_fits.f (k : Nat) (x : Nat) (n kk s : Int) : Option Bool :=
  (note_wholeOf.f k s).bind fun a => (note_scaled.f k a (wrap64 (n - kk))).bind fun b => (note_round.f k b.1 b.2).bind fun c => some (c.2 && feq c.1 x)
theorem cell_lt {w : World} {p : Addr} {v : Value} (h : w.cell? p = some v) : p.block < w.heap.size := by
  unfold World.cell? at h
  split at h
  · rename_i e
    exact (Array.getElem?_eq_some_iff.1 e).1
  · cases h
theorem cell_keep {w w' : World} {p : Addr} {v : Value} (hb : Below w.heap.size w w') (h : w.cell? p = some v) : w'.cell? p = some v := by rw [hb.cell (cell_lt h)]; exact h
theorem cells3_keep {w w' : World} {p q u : Addr} {a b c : Value} (hb : Below w.heap.size w w') (h : w.cell? p = some a ∧ w.cell? q = some b ∧ w.cell? u = some c) : w'.cell? p = some a ∧ w'.cell? q = some b ∧ w'.cell? u = some c :=
  ⟨cell_keep hb h.1, cell_keep hb h.2.1, cell_keep hb h.2.2⟩
theorem below_drewN_ (w : World) (n : Nat) : Below w.heap.size w (w.drewN n) := pw_below_drewN (Below.refl _ _) n
theorem box3 (w : World) (a b c : Value) (s t u : TypeId) : (((w.alloc (.cells #[a] s)).alloc (.cells #[b] t)).alloc (.cells #[c] u)).cell? ⟨w.heap.size + 1, 0, none⟩ = some b ∧ (((w.alloc (.cells #[a] s)).alloc (.cells #[b] t)).alloc (.cells #[c] u)).cell? ⟨w.heap.size + 2, 0, none⟩ = some c ∧ (((w.alloc (.cells #[a] s)).alloc (.cells #[b] t)).alloc (.cells #[c] u)).cell? ⟨w.heap.size, 0, none⟩ = some a := by
  refine ⟨?_, ?_, ?_⟩ <;> go_simp
set_option maxHeartbeats 200000 in
theorem note_fits.calls (k : Nat) (x : Nat) (n kk s : Int) (r : Bool) (pn pk px : Addr) (w : World) (hn : w.cell? pn = some (.int .i64 n)) (hk : w.cell? pk = some (.int .i64 kk)) (hx : w.cell? px = some (.float .f64 x))
    (h : note_fits.f k x n kk s = some r) :
    Calls Try.prog 58 #[.int .u64 s, .pointer (some pn), .pointer (some pk), .pointer (some px)] w fun e w' => e = .returned (.bool r) ∧ Below w.heap.size w w' := by
  have HB := Aside0.mk (Below.refl w.heap.size w)
  have HA : ∃ a b1 b2 c1 c2, note_wholeOf.f k s = some a ∧ note_scaled.f k a (wrap64 (n - kk)) = some (b1, b2) ∧ note_round.f k b1 b2 = some (c1, c2) ∧ (c2 && feq c1 x) = r := by
    unfold note_fits.f at h
    obtain ⟨a, ha, h⟩ := Option.bind_eq_some_iff.mp h
    obtain ⟨⟨b1, b2⟩, hb, h⟩ := Option.bind_eq_some_iff.mp h
    obtain ⟨⟨c1, c2⟩, hc, h⟩ := Option.bind_eq_some_iff.mp h
    exact ⟨a, b1, b2, c1, c2, ha, hb, hc, Option.some.inj h⟩
  clear h
  obtain ⟨a, b1, b2, c1, c2, ha, hb, hc, rfl⟩ := HA
  obtain ⟨j, hj⟩ : ∃ j, wrap64 (n - kk) = j := ⟨_, rfl⟩
  rw [hj] at hb
  have hj2 : IntKind.i64.wrap (n - kk) = j := (i64_w _).trans hj
  have HA := Aside0.mk ha
  have HBB := Aside0.mk hb
  have HC := Aside0.mk hc
  clear ha hb hc
  cases c2
  all_goals
  go_enter Try.func58, Try.ntmps58
  go_wp2_with fail
  go_region_held3 (fun w' => w'.cell? pn = some (.int .i64 n) ∧ w'.cell? pk = some (.int .i64 kk) ∧ w'.cell? px = some (.float .f64 x)) (first | assumption | go_keep)
    (first
      | (go_at_call 50; rename_i hS _ _; refine (note_wholeOf.calls k s a _ HA.out).mono ?_; rintro e w1 ⟨v0, rfl, hv, hb1⟩; have hs := cells3_keep hb1 hS; have HB1 := Aside0.mk (HB.out.drew.trans (hb1.mono (below_size HB.out.drew))); obtain ⟨A1, n1, rfl⟩ := Kd.R_slice hv; have HV := Aside0.mk hv; clear hv hb1)
      | (go_at_call 54; rename_i hS _ _; refine (note_scaled.calls k (fun _ => True) _ _ a j b1 b2 _ (Kd.R_V (Kd.R_mono HV.out (fun _ _ => trivial))) HBB.out).mono ?_; rintro e w2 ⟨v1, v2, rfl, hv1, hv2, hb2⟩; have hs := cells3_keep hb2 hS; have HB2 := Aside0.mk (HB1.out.trans (hb2.mono (below_size HB1.out))); obtain ⟨A2, n2, rfl⟩ := Kd.V_slice hv1; obtain ⟨A3, n3, rfl⟩ := Kd.R_slice hv2; have HV1 := Aside0.mk (Kd.V_reads' hv1); have HV2 := Aside0.mk (Kd.R_reads' hv2); clear hv1 hv2 hb2)
      | (go_at_call 59; rename_i hS _ _; refine (note_round.calls k _ _ b1 _ _ b2 c1 _ _ HV1.out.2.2 HV1.out.2.1 HV2.out.2.2 HV2.out.2.1 HC.out).mono ?_; rintro e w3 ⟨rfl, hb3⟩; have hs := cells3_keep hb3 hS; have HB3 := Aside0.mk (HB2.out.trans (hb3.mono (below_size HB2.out)))))
  all_goals
    go_wp2
    go_ret
    exact ⟨by first | rfl | simp, HB3.out⟩
def note_tens : Nat → Int → Int → Int → Option Int
  | 0, _, _, _ => none
  | k + 1, kk, i, top => if i < kk then note_tens k kk (wrap64 (i + 1)) (IntKind.u64.wrap (top * 10)) else some top
/-- What digitsOf chooses of what it has found. -/
def note_pick (k : Nat) (n low top : Int) (lf hf : Bool) (tw : Int) : Option (ByteArray × Int × Bool) :=
  if (lf && (!hf || decide (tw < 0) || (tw == 0 && Go.bits .and .u64 low 1 == 0))) = true then (note_decimal.f k low).bind fun s => some (s, n, true)
  else if (hf && IntKind.u64.wrap (low + 1) == top) = true then (note_decimal.f k (IntKind.u64.wrap (Int.tdiv top 10))).bind fun s => some (s, wrap64 (n + 1), true)
  else if hf = true then (note_decimal.f k (IntKind.u64.wrap (low + 1))).bind fun s => some (s, n, true)
  else some (⟨#[]⟩, 0, false)
def note_digitsOf.f (k : Nat) (x : Nat) (num den : List Int) (n kk : Int) : Option (ByteArray × Int × Bool) :=
  (note_scaled.f k num (wrap64 (kk - n))).bind fun ab => (note_whole_times.f k ab.2 den).bind fun b => (note_divide.f k ab.1 b).bind fun lr =>
    (note_tens k kk 0 1).bind fun top =>
      (if lr.1 ≥ IntKind.u64.wrap (Int.tdiv top 10) then note_fits.f k x n kk lr.1 else some false).bind fun lf =>
        (note_whole_bits.f lr.2).bind fun rb => (if rb > 0 then note_fits.f k x n kk (IntKind.u64.wrap (lr.1 + 1)) else some false).bind fun hf =>
          (note_whole_raised.f k lr.2 1).bind fun r2 => (note_compare.f k r2 b).bind fun tw => note_pick k n lr.1 top lf hf tw
theorem note_pick_ways (lf hf h t z b : Bool) : (lf = false ∧ hf = false) ∨ (lf = false ∧ hf = true ∧ h = true) ∨ (lf = false ∧ hf = true ∧ h = false) ∨ (lf = true ∧ hf = false) ∨ (lf = true ∧ hf = true ∧ t = true) ∨
    (lf = true ∧ hf = true ∧ t = false ∧ z = true ∧ b = true) ∨ (lf = true ∧ hf = true ∧ t = false ∧ z = true ∧ b = false ∧ h = true) ∨ (lf = true ∧ hf = true ∧ t = false ∧ z = true ∧ b = false ∧ h = false) ∨
    (lf = true ∧ hf = true ∧ t = false ∧ z = false ∧ h = true) ∨ (lf = true ∧ hf = true ∧ t = false ∧ z = false ∧ h = false) := by
  cases lf <;> cases hf <;> cases h <;> cases t <;> cases z <;> cases b <;> decide
set_option maxHeartbeats 400000 in
theorem note_digitsOf.calls (k : Nat) (a0 : Nat) (A1 : Option Addr) (c1 : Nat) (l1 : List Int) (A2 : Option Addr) (c2 : Nat) (l2 : List Int) (a3 a4 : Int) (r1 : ByteArray) (r2 : Int) (r3 : Bool) (w : World)
    (hr1 : Kd.C (Kd.int .u32) w A1 l1.length l1) (hc1 : l1.length ≤ c1) (hr2 : Kd.C (Kd.int .u32) w A2 l2.length l2) (hc2 : l2.length ≤ c2) (h : note_digitsOf.f k a0 l1 l2 a3 a4 = some (r1, r2, r3)) :
    Calls Try.prog 39 #[.float .f64 a0, .slice A1 l1.length c1, .slice A2 l2.length c2, .int .i64 a3, .int .i64 a4] w fun e w' => e = .returned (.tuple #[.string r1, .int .i64 r2, .bool r3]) ∧ Below w.heap.size w w' := by
  have HB := Aside0.mk (Below.refl w.heap.size w)
  have HR1 := Aside0.mk hr1
  have HC1 := Aside0.mk hc1
  have HR2 := Aside0.mk hr2
  have HC2 := Aside0.mk hc2
  clear hr1 hc1 hr2 hc2
  unfold note_digitsOf.f at h
  obtain ⟨⟨s1, s2⟩, q, h1⟩ := Option.bind_eq_some_iff.mp h
  clear h
  have Q1 := Aside0.mk q
  clear q
  obtain ⟨b, q, h⟩ := Option.bind_eq_some_iff.mp h1
  clear h1
  have Q2 := Aside0.mk (show note_whole_times.f k s2 l2 = some b from q)
  clear q
  obtain ⟨⟨low, rest⟩, q, h1⟩ := Option.bind_eq_some_iff.mp h
  clear h
  have Q3 := Aside0.mk (show note_divide.f k s1 b = some (low, rest) from q)
  clear q
  obtain ⟨top, q, h⟩ := Option.bind_eq_some_iff.mp h1
  clear h1
  have Q4 := Aside0.mk q
  clear q
  obtain ⟨lf, q, h1⟩ := Option.bind_eq_some_iff.mp h
  clear h
  have Q5 := Aside0.mk (show (if low ≥ IntKind.u64.wrap (Int.tdiv top 10) then note_fits.f k a0 a3 a4 low else some false) = some lf from q)
  clear q
  obtain ⟨rb, q, h⟩ := Option.bind_eq_some_iff.mp h1
  clear h1
  have Q6 := Aside0.mk (show note_whole_bits.f rest = some rb from q)
  clear q
  obtain ⟨hf, q, h1⟩ := Option.bind_eq_some_iff.mp h
  clear h
  have Q7 := Aside0.mk (show (if rb > 0 then note_fits.f k a0 a3 a4 (IntKind.u64.wrap (low + 1)) else some false) = some hf from q)
  clear q
  obtain ⟨rr, q, h⟩ := Option.bind_eq_some_iff.mp h1
  clear h1
  have Q8 := Aside0.mk (show note_whole_raised.f k rest 1 = some rr from q)
  clear q
  obtain ⟨tw, q, h1⟩ := Option.bind_eq_some_iff.mp h
  clear h
  have Q9 := Aside0.mk (show note_compare.f k rr b = some tw from q)
  clear q
  have Q10 := Aside0.mk (show note_pick k a3 low top lf hf tw = some (r1, r2, r3) from h1)
  clear h1
  obtain ⟨j, hj⟩ : ∃ j, wrap64 (a4 - a3) = j := ⟨_, rfl⟩
  rw [hj] at Q1
  have hj2 : IntKind.i64.wrap (a4 - a3) = j := (i64_w _).trans hj
  obtain ⟨high, hhigh⟩ : ∃ y, IntKind.u64.wrap (low + 1) = y := ⟨_, rfl⟩
  obtain ⟨t10, ht10⟩ : ∃ y, IntKind.u64.wrap (Int.tdiv top 10) = y := ⟨_, rfl⟩
  rw [hhigh] at Q7
  rw [ht10] at Q5
  simp only [note_pick, hhigh, ht10] at Q10
  go_enter Try.func39, Try.ntmps39
  go_upto_region 7 with (first
    | (go_at_call 54; refine (note_scaled.calls k (fun _ => True) _ _ l1 j s1 s2 _ (Kd.V_mk HC1.out (Kd.F_mono (Kd.F_below (Kd.C_F (Kd.heap_int .u32) HR1.out) (by repeat (first | exact Below.refl _ _ | apply below_alloc))) (fun _ _ => trivial))) Q1.out).mono ?_; rintro e w1 ⟨v1, v2, rfl, hv1, hv2, hb⟩; obtain ⟨e1, e2, e3⟩ := cells3_keep hb (box3 w _ _ _ _ _ _); have HB1 := Aside0.mk (below_step (by repeat (first | exact HB.out | apply below_alloc)) hb); obtain ⟨B1, m1, rfl⟩ := Kd.V_slice hv1; obtain ⟨B2, m2, rfl⟩ := Kd.R_slice hv2; have HV1 := Aside0.mk hv1; have HV2 := Aside0.mk (Kd.R_reads' hv2); clear hb hv1 hv2)
    | (go_at_call 56; refine (note_whole_times.calls k _ _ s2 _ _ l2 b _ HV2.out.2.2 HV2.out.2.1 (Kd.C_below HR2.out HB1.out) HC2.out Q2.out).mono ?_; rintro e w2 ⟨v3, rfl, hv3, hb⟩; obtain ⟨e1, e2, e3⟩ := cells3_keep hb ⟨e1, e2, e3⟩; have HB2 := Aside0.mk (below_step HB1.out hb); obtain ⟨B3, m3, rfl⟩ := Kd.R_slice hv3; have HV3 := Aside0.mk (Kd.R_reads' hv3); have HV4 := Aside0.mk (Kd.V_below HV1.out hb); clear hb hv3)
    | (go_at_call 57; refine (note_divide.calls k (fun _ => True) _ _ s1 _ _ b low rest _ (Kd.V_mono HV4.out (fun _ _ => trivial)) HV3.out.2.2 HV3.out.2.1 Q3.out).mono ?_; rintro e w3 ⟨v5, rfl, hv5, hb⟩; obtain ⟨e1, e2, e3⟩ := cells3_keep hb ⟨e1, e2, e3⟩; have HB3 := Aside0.mk (below_step HB2.out hb); obtain ⟨B5, m5, rfl⟩ := Kd.V_slice hv5; have HV5 := Aside0.mk (Kd.V_reads' hv5); have HV6 := Aside0.mk (Kd.C_below HV3.out.2.2 hb); clear hb hv5))
  have H' := Aside0.mk Q4.out
  go_loopg [18, 43] k (fun kq v18 v43 w' => ∃ i y : Int, v18 = .int .u64 y ∧ v43 = .int .i64 i ∧ Aside0 (note_tens kq a4 i y = some top) ∧ w' = w3)
  case atStart => exact ⟨0, 1, rfl, rfl, H', rfl⟩
  case round =>
    obtain ⟨i, y, rfl, rfl, HA, rfl⟩ := hrel
    cases gk with
    | zero => exact absurd HA.out (by simp [note_tens])
    | succ k1 =>
      have H := HA.out
      clear HA H'
      simp only [note_tens] at H
      by_cases c0 : i < a4
      · rw [if_pos c0] at H
        have c0b := decide_eq_true c0
        clear c0
        go_wp2
        go_roundg k1
        case measure => omega
        case rel => exact ⟨_, _, rfl, rfl, ⟨H⟩, rfl⟩
      · rw [if_neg c0] at H
        have c0b := decide_eq_false c0
        clear c0
        obtain rfl := Option.some.inj H
        have F1 : (decide (t10 ≤ low) = true ∧ note_fits.f k a0 a3 a4 low = some lf) ∨ (decide (t10 ≤ low) = false ∧ lf = false) := by
          have h := Q5.out
          by_cases g : low ≥ t10
          · rw [if_pos g] at h; exact .inl ⟨decide_eq_true g, h⟩
          · rw [if_neg g] at h; exact .inr ⟨decide_eq_false g, (Option.some.inj h).symm⟩
        have F2 : (decide (0 < rb) = true ∧ note_fits.f k a0 a3 a4 high = some hf) ∨ (decide (0 < rb) = false ∧ hf = false) := by
          have h := Q7.out
          by_cases g : rb > 0
          · rw [if_pos g] at h; exact .inl ⟨decide_eq_true g, h⟩
          · rw [if_neg g] at h; exact .inr ⟨decide_eq_false g, (Option.some.inj h).symm⟩
        clear Q5 Q7 Q1 Q2 Q3
        rcases F1 with ⟨g1, q1⟩ | ⟨g1, q1⟩ <;> rcases F2 with ⟨g2, q2⟩ | ⟨g2, q2⟩
        all_goals
          have K1 := Aside0.mk q1
          have K2 := Aside0.mk q2
          clear q1 q2
          go_upto_region 12 with (first
            | (go_at_call 58; refine (note_fits.calls k a0 a3 a4 low _ _ _ _ _ e1 e2 e3 K1.out).mono ?_; rintro e w4 ⟨rfl, hb⟩; obtain ⟨e1, e2, e3⟩ := cells3_keep hb ⟨e1, e2, e3⟩; have HB3 := Aside0.mk (below_step HB3.out hb); have HV5 := Aside0.mk (And.intro HV5.out.1 (And.intro HV5.out.2.1 (Kd.C_below HV5.out.2.2 hb))); have HV6 := Aside0.mk (Kd.C_below HV6.out hb); clear hb))
          go_upto_region 13 with (first
            | (go_at_call 53; refine (note_whole_bits.calls _ _ rest rb _ HV5.out.2.2 HV5.out.2.1 Q6.out).mono ?_; rintro e w' ⟨rfl, ⟨nd, rfl⟩⟩; obtain ⟨e1, e2, e3⟩ := cells3_keep (below_drewN_ _ nd) ⟨e1, e2, e3⟩; have HB3 := Aside0.mk (below_step HB3.out (below_drewN_ _ nd)); have HV5 := Aside0.mk (And.intro HV5.out.1 (And.intro HV5.out.2.1 (Kd.C_below HV5.out.2.2 (below_drewN_ _ nd)))); have HV6 := Aside0.mk (Kd.C_below HV6.out (below_drewN_ _ nd)))
            | (go_at_call 58; refine (note_fits.calls k a0 a3 a4 high _ _ _ _ _ e1 e2 e3 K2.out).mono ?_; rintro e w4 ⟨rfl, hb⟩; obtain ⟨e1, e2, e3⟩ := cells3_keep hb ⟨e1, e2, e3⟩; have HB3 := Aside0.mk (below_step HB3.out hb); have HV5 := Aside0.mk (And.intro HV5.out.1 (And.intro HV5.out.2.1 (Kd.C_below HV5.out.2.2 hb))); have HV6 := Aside0.mk (Kd.C_below HV6.out hb); clear hb))
          go_upto_region 14 with (first
            | (go_at_call 52; refine (note_whole_raised.calls k _ _ rest 1 rr _ HV5.out.2.2 HV5.out.2.1 Q8.out).mono ?_; rintro e w5 ⟨v6, rfl, hv6, hb⟩; obtain ⟨e1, e2, e3⟩ := cells3_keep hb ⟨e1, e2, e3⟩; have HB3 := Aside0.mk (below_step HB3.out hb); have HV5 := Aside0.mk (And.intro HV5.out.1 (And.intro HV5.out.2.1 (Kd.C_below HV5.out.2.2 hb))); have HV6 := Aside0.mk (Kd.C_below HV6.out hb); obtain ⟨B6, m6, rfl⟩ := Kd.R_slice hv6; have HV7 := Aside0.mk (Kd.R_reads' hv6); clear hb hv6)
            | (go_at_call 55; refine (note_compare.calls k _ _ rr _ _ b tw _ HV7.out.2.2 HV7.out.2.1 HV6.out HV3.out.2.1 Q9.out).mono ?_; rintro e w' ⟨rfl, ⟨nd, rfl⟩⟩; obtain ⟨e1, e2, e3⟩ := cells3_keep (below_drewN_ _ nd) ⟨e1, e2, e3⟩; have HB3 := Aside0.mk (below_step HB3.out (below_drewN_ _ nd)); have HV5 := Aside0.mk (And.intro HV5.out.1 (And.intro HV5.out.2.1 (Kd.C_below HV5.out.2.2 (below_drewN_ _ nd)))); have HV6 := Aside0.mk (Kd.C_below HV6.out (below_drewN_ _ nd))))
        all_goals
          clear Q6 Q8 Q9
          have P1 := Q10.out
          clear Q10
          have P2 := Aside0.mk P1
          clear P1
          rcases note_pick_ways lf hf (high == y) (decide (tw < 0)) (tw == 0) (Go.bits .and .u64 low 1 == 0) with ⟨z1, z2⟩ | ⟨z1, z2, z3⟩ | ⟨z1, z2, z3⟩ | ⟨z1, z2⟩ | ⟨z1, z2, z3⟩ | ⟨z1, z2, z3, z4, z5⟩ | ⟨z1, z2, z3, z4, z5, z6⟩ | ⟨z1, z2, z3, z4, z5, z6⟩ | ⟨z1, z2, z3, z4, z5⟩ | ⟨z1, z2, z3, z4, z5⟩
        all_goals
          subst z1
          subst z2
        all_goals first
          | exact absurd K1.out (by decide)
          | exact absurd K2.out (by decide)
          | skip
        all_goals
          have P1 := P2.out
          clear P2 K1 K2
          (try simp only [*, Bool.false_and, Bool.true_and, Bool.and_true, Bool.and_false, Bool.not_true, Bool.not_false, Bool.true_or, Bool.false_or, Bool.or_false, Bool.or_true, if_true, if_false, Bool.false_eq_true] at P1)
          have P2 := Aside0.mk P1
          clear P1
        all_goals first
          | (have P1 := P2.out
             simp only [Option.some.injEq, Prod.mk.injEq] at P1
             obtain ⟨rfl, rfl, rfl⟩ := P1
             clear P2
             go_wp2
             go_ret3
             exact ⟨rfl, HB3.out⟩)
          | (obtain ⟨s, q, P1⟩ := Option.bind_eq_some_iff.mp P2.out
             simp only [Option.some.injEq, Prod.mk.injEq] at P1
             obtain ⟨rfl, rfl, rfl⟩ := P1
             have D := Aside0.mk q
             clear q P2
             go_wp2
             go_region_held3 (fun w' => w'.cell? ⟨w.heap.size + 1, 0, none⟩ = some (.int .i64 a3)) (first | assumption | go_keep)
               (first | (go_at_call 24; rename_i hS _ _; refine (note_decimal.calls k _ _ _ D.out).mono ?_; rintro e w6 ⟨rfl, hb⟩; have hs := cell_keep hb hS; have HB4 := Aside0.mk (below_step HB3.out.drew hb)))
             all_goals
               go_wp2
               go_ret3
               exact ⟨by first | rfl | simp [wrap64, i64_w], HB4.out⟩)
end Go.Proofs.Ytlhciggmllddkaa.PNum
