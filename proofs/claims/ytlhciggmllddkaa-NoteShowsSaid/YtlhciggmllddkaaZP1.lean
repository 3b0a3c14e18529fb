/- Part of the proof of NoteShows: on every float64 the program and the document's answer show the same. No condition. -/
import Derived.Test.YtlhciggmllddkaaZW
import Derived.Test.YtlhciggmllddkaaZPNumx
import Derived.Laws.BitsAllLaws
import Derived.Test.YtlhciggmllddkaaZPrFloat
import Derived.Test.YtlhciggmllddkaaZDig
import Derived.Test.YtlhciggmllddkaaZPNubx
import Derived.Laws.Strings
section
namespace Go.Proofs.Ytlhciggmllddkaa.Pl
open Go Go.RowKit Go.Proofs.YtlhciggmllddkaaW.PrintWords
set_option linter.unusedVariables false
set_option linter.unusedSimpArgs false
/-- With enough rounds, g answers r. -/
def Ev {α : Type} (g : Nat → Option α) (r : α) : Prop := ∃ K, ∀ k, K ≤ k → g k = some r
namespace Ev
variable {α β : Type}
theorem const (r : α) : Ev (fun _ => some r) r := ⟨0, fun _ _ => rfl⟩
theorem bind {g : Nat → Option α} {h : Nat → α → Option β} {a : α} {r : β} (hg : Ev g a) (hh : Ev (fun k => h k a) r) : Ev (fun k => (g k).bind (h k)) r := by
 obtain ⟨K, hK⟩ := hg
 obtain ⟨J, hJ⟩ := hh
 refine ⟨max K J, fun k hk => ?_⟩
 show (g k).bind (h k) = some r
 rw [hK k (by omega), Option.bind_some]
 exact hJ k (by omega)
theorem succ {G g : Nat → Option α} {r : α} (hG : ∀ k, G (k + 1) = g k) (h : Ev g r) : Ev G r := by
 obtain ⟨K, hK⟩ := h
 refine ⟨K + 1, fun k hk => ?_⟩
 obtain ⟨j, rfl⟩ : ∃ j, k = j + 1 := ⟨k - 1, by omega⟩
 rw [hG]
 exact hK j (by omega)
theorem congr {G g : Nat → Option α} {r : α} (hG : ∀ k, G k = g k) (h : Ev g r) : Ev G r := by
 obtain ⟨K, hK⟩ := h
 exact ⟨K, fun k hk => by rw [hG]; exact hK k hk⟩
theorem yes {c : Prop} [Decidable c] {a b : Nat → Option α} {r : α} (hc : c) (h : Ev a r) : Ev (fun k => if c then a k else b k) r := congr (fun k => if_pos hc) h
theorem no {c : Prop} [Decidable c] {a b : Nat → Option α} {r : α} (hc : ¬ c) (h : Ev b r) : Ev (fun k => if c then a k else b k) r := congr (fun k => if_neg hc) h
theorem of_eq {g : Option α} {r : α} (h : g = some r) : Ev (fun _ => g) r := ⟨0, fun _ _ => h⟩
theorem one {g : Nat → Option α} {r r' : α} (h : Ev g r) (h' : Ev g r') : r = r' := by
 obtain ⟨K, hK⟩ := h
 obtain ⟨J, hJ⟩ := h'
 have h1 := hK (max K J) (by omega)
 have h2 := hJ (max K J) (by omega)
 rw [h1] at h2
 exact Option.some.inj h2
theorem some_k {g : Nat → Option α} {r : α} (h : Ev g r) : ∃ k, g k = some r := by
 obtain ⟨K, hK⟩ := h
 exact ⟨K, hK K (Nat.le_refl _)⟩
end Ev
theorem w64 {x : Int} (h0 : -9223372036854775808 ≤ x) (h1 : x ≤ 9223372036854775807) : wrap64 x = x := by unfold wrap64; omega
theorem wu64 {x : Int} (h0 : 0 ≤ x) (h1 : x < 18446744073709551616) : IntKind.u64.wrap x = x := by
 show x % 18446744073709551616 = x
 omega
theorem wu64_mod (x : Int) : IntKind.u64.wrap x = x % 18446744073709551616 := rfl
def val (B : Int) : List Int → Int
 | [] => 0
 | x :: r => x + B * val B r
def Wf (B : Int) (l : List Int) : Prop := ∀ x ∈ l, 0 ≤ x ∧ x < B
/-- No 0 on top. -/
def Nz (l : List Int) : Prop := ∀ x, l.getLast? = some x → x ≠ 0
structure Rep (B : Int) (l : List Int) (n : Nat) : Prop where
 wf : Wf B l
 nz : Nz l
 val : val B l = (n : Int)
section
variable {B : Int}
theorem Wf.nil : Wf B [] := fun x hx => by simp at hx
theorem Wf.cons {x : Int} {l : List Int} (h0 : 0 ≤ x) (h1 : x < B) (h : Wf B l) : Wf B (x :: l) := fun y hy => by
 rcases List.mem_cons.1 hy with rfl | hy
 ·exact ⟨h0, h1⟩
 ·exact h y hy
theorem Wf.head {x : Int} {l : List Int} (h : Wf B (x :: l)) : 0 ≤ x ∧ x < B := h x List.mem_cons_self
theorem Wf.tail {x : Int} {l : List Int} (h : Wf B (x :: l)) : Wf B l := fun y hy => h y (List.mem_cons_of_mem _ hy)
theorem Wf.append {a b : List Int} (ha : Wf B a) (hb : Wf B b) : Wf B (a ++ b) := fun x hx => by
 rcases List.mem_append.1 hx with h | h
 ·exact ha x h
 ·exact hb x h
theorem Wf.take {l : List Int} (h : Wf B l) (i : Nat) : Wf B (l.take i) := fun x hx => h x (List.mem_of_mem_take hx)
theorem Wf.drop {l : List Int} (h : Wf B l) (i : Nat) : Wf B (l.drop i) := fun x hx => h x (List.mem_of_mem_drop hx)
theorem Wf.get {l : List Int} (h : Wf B l) {i : Nat} (hi : i < l.length) : 0 ≤ l[i] ∧ l[i] < B := h _ (List.getElem_mem hi)
theorem Wf.set {l : List Int} (h : Wf B l) (i : Nat) {v : Int} (h0 : 0 ≤ v) (h1 : v < B) : Wf B (l.set i v) := fun x hx => by
 rcases List.mem_or_eq_of_mem_set hx with hx | rfl
 ·exact h x hx
 ·exact ⟨h0, h1⟩
theorem Wf.zeros (n : Nat) (hB : 0 < B) : Wf B (List.replicate n 0) := fun x hx => by
 rw [List.eq_of_mem_replicate hx]
 exact ⟨Int.le_refl _, hB⟩
theorem val_append (a b : List Int) : val B (a ++ b) = val B a + B ^ a.length * val B b := by
 induction a with
 | nil => simp [val]
 | cons x a ih => simp only [List.cons_append, val, ih, List.length_cons]; grind
theorem val_zeros (n : Nat) : val B (List.replicate n 0) = 0 := by
 induction n with
 | zero => rfl
 | succ n ih => simp [List.replicate_succ, val, ih]
theorem val_nonneg {l : List Int} (h : Wf B l) (hB : 0 ≤ B) : 0 ≤ val B l := by
 induction l with
 | nil => exact Int.le_refl _
 | cons x l ih =>
  have := h.head
  have := Int.mul_nonneg hB (ih h.tail)
  simp only [val]
  omega
theorem val_lt {l : List Int} (h : Wf B l) (hB : 0 < B) : val B l < B ^ l.length := by
 induction l with
 | nil => simp [val]
 | cons x l ih =>
  have h1 := h.head
  have h2 := ih h.tail
  have h3 : B * (val B l + 1) ≤ B * B ^ l.length := Int.mul_le_mul_of_nonneg_left (by omega) (by omega)
  have h4 : B ^ (l.length + 1) = B * B ^ l.length := by grind
  simp only [val, List.length_cons]
  rw [h4]
  have h5 : B * (val B l + 1) = B * val B l + B := by grind
  omega
theorem val_take_drop (l : List Int) (i : Nat) (hi : i ≤ l.length) : val B l = val B (l.take i) + B ^ i * val B (l.drop i) := by
 have h := val_append (B := B) (l.take i) (l.drop i)
 rw [List.take_append_drop, List.length_take, Nat.min_eq_left hi] at h
 exact h
theorem val_take_succ (l : List Int) (i : Nat) (hi : i < l.length) : val B (l.take (i + 1)) = val B (l.take i) + l[i] * B ^ i := by
 rw [List.take_succ_eq_append_getElem hi, val_append, List.length_take, Nat.min_eq_left (by omega)]
 simp only [val]
 grind
theorem val_set (l : List Int) (i : Nat) (hi : i < l.length) (v : Int) : val B (l.set i v) = val B l + (v - l[i]) * B ^ i := by
 induction l generalizing i with
 | nil => simp at hi
 | cons x l ih =>
  cases i with
  | zero => simp only [List.set_cons_zero, val, List.getElem_cons_zero]; grind
  | succ i =>
   simp only [List.set_cons_succ, val, List.getElem_cons_succ]
   rw [ih i (by simpa using hi)]
   grind
theorem rd_get (l : List Int) (i : Nat) (hi : i < l.length) : rd l (i : Int) = l[i] := by
 simp [rd, rdOf, hi]
end
section
variable {B : Int}
theorem Nz.nil : Nz [] := fun x hx => by simp at hx
theorem Nz.snoc {l : List Int} {x : Int} (h : x ≠ 0) : Nz (l ++ [x]) := fun y hy => by
 rw [List.getLast?_concat] at hy
 cases hy
 exact h
theorem snoc_of {l : List Int} (h : l ≠ []) : ∃ l' x, l = l' ++ [x] := ⟨l.dropLast, l.getLast h, (List.dropLast_concat_getLast h).symm⟩
/-- What the loop does that takes the limbs 0 off the top. -/
theorem strip_ev {G : Nat → List Int → Option (List Int)}
  (hG : ∀ k x0, G (k + 1) x0 = if (x0.length : Int) > 0 then (if 0 ≤ (wrap64 ((x0.length : Int) - 1)) then (if (wrap64 ((x0.length : Int) - 1)) < (x0.length : Int) then (if (rd x0 (wrap64 ((x0.length : Int) - 1))) = 0 then (if (wrap64 ((x0.length : Int) - 1)) ≤ (x0.length : Int) then (G k (x0.take ((wrap64 ((x0.length : Int) - 1)) : Int).toNat)) else (none)) else (some x0)) else (none)) else (none)) else (some x0))
  (n : Nat) : ∀ l : List Int, l.length = n → n ≤ 4611686018427387904 → Wf B l → ∃ r, Ev (fun k => G k l) r ∧ Wf B r ∧ Nz r ∧ val B r = val B l ∧ r.length ≤ l.length := by
 induction n with
 | zero =>
  intro l hl _ hw
  obtain rfl := List.eq_nil_of_length_eq_zero hl
  exact ⟨[], Ev.succ (fun k => hG k []) (Ev.no (by simp) (Ev.const _)), hw, Nz.nil, rfl, Nat.le_refl _⟩
 | succ n ih =>
  intro l hl hn hw
  obtain ⟨l', x, rfl⟩ := snoc_of (l := l) (by intro h; rw [h] at hl; simp at hl)
  have hl' : l'.length = n := by simpa using hl
  have hw1 : wrap64 (((l' ++ [x]).length : Int) - 1) = (n : Int) := by rw [hl, w64] <;> omega
  have hrd : rd (l' ++ [x]) (n : Int) = x := by rw [rd_get _ _ (by simp [hl'])]; simp [hl']
  have hL : ((l' ++ [x]).length : Int) = (n : Int) + 1 := by rw [hl]; omega
  by_cases hx : x = 0
  ·obtain ⟨r, hr, h1, h2, h3, h4⟩ := ih l' hl' (by omega) (fun y hy => hw y (List.mem_append_left _ hy))
   refine ⟨r, Ev.succ (fun k => hG k _) ?_, h1, h2, ?_, by simp; omega⟩
   ·rw [hw1, hrd, hL]
    refine Ev.yes (by omega) (Ev.yes (by omega) (Ev.yes (by omega) (Ev.yes hx (Ev.yes (by omega) ?_))))
    rw [Int.toNat_natCast, ← hl', List.take_left]
    exact hr
   ·rw [h3, val_append, hx]
    simp [val]
  ·refine ⟨l' ++ [x], Ev.succ (fun k => hG k _) ?_, hw, Nz.snoc hx, rfl, Nat.le_refl _⟩
   rw [hw1, hrd, hL]
   exact Ev.yes (by omega) (Ev.yes (by omega) (Ev.yes (by omega) (Ev.no hx (Ev.const _))))
theorem pow_pos_ {B : Int} (hB : 0 < B) (k : Nat) : 0 < B ^ k := Int.pow_pos hB
theorem pow_le_ {B : Int} (hB : 1 ≤ B) {i j : Nat} (h : i ≤ j) : B ^ i ≤ B ^ j := by
 obtain ⟨d, rfl⟩ : ∃ d, j = i + d := ⟨j - i, by omega⟩
 induction d with
 | zero => exact Int.le_refl _
 | succ d ih =>
  have h1 := ih (by omega)
  have h2 : B ^ (i + (d + 1)) = B * B ^ (i + d) := by grind
  have h3 : 1 * B ^ (i + d) ≤ B * B ^ (i + d) := Int.mul_le_mul_of_nonneg_right hB (Int.le_of_lt (pow_pos_ (by omega) _))
  rw [h2]
  omega
theorem pow_lt_inv {B : Int} (hB : 1 ≤ B) {i j : Nat} (h : B ^ i < B ^ j) : i < j := by
 rcases Nat.lt_or_ge i j with h1 | h1
 ·exact h1
 ·have := pow_le_ hB h1
  omega
/-- A list of limbs without 0 on top is at least its top's place. -/
theorem pow_le_val {l : List Int} (hw : Wf B l) (hz : Nz l) (hB : 1 ≤ B) (hn : l ≠ []) : B ^ (l.length - 1) ≤ val B l := by
 obtain ⟨l', x, rfl⟩ := snoc_of hn
 have hx : x ≠ 0 := hz x (by simp)
 have h0 := hw x (by simp)
 have h1 := val_nonneg (fun y hy => hw y (List.mem_append_left _ hy) : Wf B l') (by omega)
 have h2 : B ^ l'.length * 1 ≤ B ^ l'.length * x := Int.mul_le_mul_of_nonneg_left (by omega) (Int.le_of_lt (pow_pos_ (by omega) _))
 rw [val_append]
 simp only [val, List.length_append, List.length_singleton, Nat.add_sub_cancel]
 have h3 : B * 0 = 0 := by omega
 rw [h3, Int.add_zero]
 omega
theorem Rep.len_le {l : List Int} {n : Nat} (h : Rep B l n) (hB : 1 ≤ B) {k : Nat} (hk : (n : Int) < B ^ k) : l.length ≤ k := by
 by_cases hn : l = []
 ·subst hn; simp
 ·have h1 := pow_le_val h.wf h.nz hB hn
  rw [h.val] at h1
  have := pow_lt_inv hB (Int.lt_of_le_of_lt h1 hk)
  omega
theorem Rep.lt {l : List Int} {n : Nat} (h : Rep B l n) (hB : 0 < B) : (n : Int) < B ^ l.length := by
 rw [← h.val]; exact val_lt h.wf hB
theorem Rep.zero {n : Nat} (h : Rep B [] n) : n = 0 := by
 have := h.val
 simp [Pl.val] at this
 omega
theorem Rep.nil : Rep B [] 0 := ⟨Wf.nil, Nz.nil, rfl⟩
theorem Rep.ne_nil {l : List Int} {n : Nat} (h : Rep B l n) (hn : n ≠ 0) : l ≠ [] := fun e => hn (by subst e; exact h.zero)
theorem Rep.pos {l : List Int} {n : Nat} (h : Rep B l n) (hB : 1 ≤ B) (hl : l ≠ []) : 0 < n := by
 have h1 := pow_le_val h.wf h.nz hB hl
 rw [h.val] at h1
 have := pow_pos_ (show (0 : Int) < B by omega) (l.length - 1)
 omega
/-- How two numbers stand to each other. -/
def cmp (m n : Nat) : Int := if m < n then -1 else if m = n then 0 else 1
theorem cmp_lt {m n : Nat} (h : m < n) : cmp m n = -1 := if_pos h
theorem cmp_gt {m n : Nat} (h : n < m) : cmp m n = 1 := by rw [cmp, if_neg (by omega), if_neg (by omega)]
theorem cmp_eq {m n : Nat} (h : m = n) : cmp m n = 0 := by rw [cmp, if_neg (by omega), if_pos h]
theorem val_split (l : List Int) (i : Nat) (hi : i < l.length) : val B (l.take (i + 1)) = val B (l.take i) + l[i] * B ^ i := val_take_succ l i hi
theorem cmp_of_top {a b : List Int} (ha : Wf B a) (hb : Wf B b) (hB : 1 ≤ B) (hl : a.length = b.length) (i : Nat) (hi : i < a.length) (he : a.drop (i + 1) = b.drop (i + 1)) (hlt : a[i] < b[i]'(by omega)) : val B a < val B b := by
 rw [val_take_drop a (i + 1) (by omega), val_take_drop b (i + 1) (by omega), he, val_take_succ a i hi, val_take_succ b i (by omega)]
 have h1 := val_lt (ha.take i) (by omega)
 rw [List.length_take, Nat.min_eq_left (by omega)] at h1
 have h2 := val_nonneg (hb.take i) (by omega)
 have h3 : (a[i] + 1) * B ^ i ≤ b[i] * B ^ i := Int.mul_le_mul_of_nonneg_right (by omega) (Int.le_of_lt (pow_pos_ (by omega) _))
 have h4 : (a[i] + 1) * B ^ i = a[i] * B ^ i + B ^ i := by grind
 omega
end
end Go.Proofs.Ytlhciggmllddkaa.Pl
end
section
namespace Go.Proofs.Ytlhciggmllddkaa.Pl
open Go Go.RowKit Go.Proofs.YtlhciggmllddkaaW.PrintWords Go.Proofs.YtlhciggmllddkaaW.PrintLast Go.Proofs.YtlhciggmllddkaaW.PrintMore Go.Proofs.Ytlhciggmllddkaa.PNum
set_option linter.unusedVariables false
set_option linter.unusedSimpArgs false
/-- The limbs of package note. -/
abbrev P32 : Int := 4294967296
/-- The limbs of the reference. -/
abbrev P24 : Int := 16777216
theorem p0 : (0 : Int) < P32 := by decide
theorem p1 : (1 : Int) ≤ P32 := by decide
theorem q0 : (0 : Int) < P24 := by decide
theorem q1 : (1 : Int) ≤ P24 := by decide
theorem cut_ev (l : List Int) (hl : l.length ≤ 4611686018427387904) (hw : Wf P32 l) (n : Nat) (hv : val P32 l = n) : ∃ r, Ev (fun k => note_whole_cut.f k l) r ∧ Rep P32 r n ∧ r.length ≤ l.length := by
 obtain ⟨r, h1, h2, h3, h4, h5⟩ := strip_ev (G := note_whole_cut.l0) (fun k x0 => by rw [note_whole_cut.l0]) l.length l rfl hl hw
 exact ⟨r, h1, ⟨h2, h3, h4.trans hv⟩, h5⟩
theorem compare_ev {a b : List Int} {m n : Nat} (ha : Rep P32 a m) (hb : Rep P32 b n) (hla : a.length ≤ 4611686018427387904) (hlb : b.length ≤ 4611686018427387904) : Ev (fun k => note_compare.f k a b) (cmp m n) := by
 unfold note_compare.f
 by_cases hl : a.length = b.length
 ·refine Ev.yes (by omega) ?_
  rw [w64 (by omega) (by omega)]
  have key : ∀ i : Nat, i ≤ a.length → a.drop i = b.drop i → Ev (fun k => note_compare.l0 k a b ((i : Int) - 1)) (cmp m n) := by
   intro i
   induction i with
   | zero =>
    intro _ he
    have hab : a = b := by simpa using he
    have hmn : m = n := by
     have h1 := ha.val
     have h2 := hb.val
     rw [hab, h2] at h1
     omega
    refine Ev.succ (fun k => by rw [note_compare.l0]) (Ev.no (by omega) ?_)
    rw [cmp_eq hmn]
    exact Ev.const _
   | succ i ih =>
    intro hi he
    refine Ev.succ (fun k => by rw [note_compare.l0]) (Ev.yes (by omega) (Ev.yes (by omega) (Ev.yes (by omega) (Ev.yes (by omega) ?_))))
    have e1 : (((i + 1 : Nat) : Int) - 1) = (i : Int) := by omega
    rw [e1, rd_get a i (by omega), rd_get b i (by omega), w64 (by omega) (by omega)]
    by_cases h : a[i]'(by omega) = b[i]'(by omega)
    ·refine Ev.yes h (ih (by omega) ?_)
     rw [List.drop_eq_getElem_cons (show i < a.length by omega), List.drop_eq_getElem_cons (show i < b.length by omega), h, he]
    ·refine Ev.no h ?_
     have va := ha.val
     have vb := hb.val
     by_cases h2 : a[i]'(by omega) < b[i]'(by omega)
     ·have := cmp_of_top ha.wf hb.wf p1 hl i (by omega) he h2
      rw [cmp_lt (by omega)]
      exact Ev.yes h2 (Ev.const _)
     ·have := cmp_of_top hb.wf ha.wf p1 hl.symm i (by omega) he.symm (by omega)
      rw [cmp_gt (by omega)]
      exact Ev.no h2 (Ev.const _)
  exact key a.length (Nat.le_refl _) (by simp [hl])
 ·refine Ev.no (by omega) ?_
  have hA := ha.lt p0
  have hB := hb.lt p0
  by_cases h : a.length < b.length
  ·have h1 := pow_le_val hb.wf hb.nz p1 (by intro e; rw [e] at h; simp at h)
   rw [hb.val] at h1
   have h2 : P32 ^ a.length ≤ P32 ^ (b.length - 1) := pow_le_ p1 (by omega)
   rw [cmp_lt (by omega)]
   exact Ev.yes (by omega : (a.length : Int) < b.length) (Ev.const _)
  ·have h1 := pow_le_val ha.wf ha.nz p1 (by intro e; subst e; simp only [List.length_nil] at h hl; omega)
   rw [ha.val] at h1
   have h2 : P32 ^ b.length ≤ P32 ^ (a.length - 1) := pow_le_ p1 (by omega)
   rw [cmp_gt (by omega)]
   exact Ev.no (by omega : ¬ (a.length : Int) < b.length) (Ev.const _)
end Go.Proofs.Ytlhciggmllddkaa.Pl
end
section
namespace Go.Proofs.Ytlhciggmllddkaa.Pl
open Go Go.RowKit Go.Proofs.YtlhciggmllddkaaW.PrintWords Go.Proofs.YtlhciggmllddkaaW.PrintLast Go.Proofs.YtlhciggmllddkaaW.PrintMore Go.Proofs.Ytlhciggmllddkaa.PNum
set_option linter.unusedVariables false
set_option linter.unusedSimpArgs false
theorem or_add (p q : Nat) (s : Nat) (hp : p < 2 ^ s) (hq : q % 2 ^ s = 0) : p ||| q = p + q := by
 obtain ⟨c, rfl⟩ : ∃ c, q = 2 ^ s * c := ⟨q / 2 ^ s, by have := Nat.div_add_mod q (2 ^ s); omega⟩
 have h := Nat.two_pow_add_eq_or_of_lt hp c
 rw [Nat.or_comm, ← h, Nat.add_comm]
theorem or_u32 (p q : Int) (s : Nat) (hp0 : 0 ≤ p) (hp : p < 2 ^ s) (hs : s ≤ 32) (hq0 : 0 ≤ q) (hq : q < 4294967296) (hd : q % 2 ^ s = 0) : Go.bits .or .u32 p q = p + q := by
 obtain ⟨a, rfl⟩ := Int.eq_ofNat_of_zero_le hp0
 obtain ⟨b, rfl⟩ := Int.eq_ofNat_of_zero_le hq0
 have h2 : (2 : Int) ^ s = ((2 ^ s : Nat) : Int) := by simp
 rw [h2] at hp hd
 have h3 : (2 : Nat) ^ s ≤ 2 ^ 32 := Nat.pow_le_pow_right (by omega) hs
 have h4 : a < 2 ^ s := by omega
 have h5 : b % 2 ^ s = 0 := by omega
 rw [u32_or_nat a b (by omega) (by omega), or_add a b s h4 h5]
 simp
theorem or_u64_one (x : Int) (h0 : 0 ≤ x) (h1 : x < 18446744073709551616) (hx : x % 2 = 0) : Go.bits .or .u64 x 1 = x + 1 := by
 obtain ⟨a, rfl⟩ := Int.eq_ofNat_of_zero_le h0
 have h := u64_or_nat a 1 (by omega) (by omega)
 have h2 : Go.bits .or .u64 (a : Int) 1 = ((a ||| 1 : Nat) : Int) := h
 rw [h2, Nat.or_comm, or_add 1 a 1 (by omega) (by omega)]
 omega
theorem and_u64_one (x : Int) (h0 : 0 ≤ x) (h1 : x < 18446744073709551616) : Go.bits .and .u64 x 1 = x % 2 := by
 obtain ⟨a, rfl⟩ := Int.eq_ofNat_of_zero_le h0
 have h := bits_and_u64_nat a 1 (by omega) (by omega)
 have h2 : Go.bits .and .u64 (a : Int) 1 = ((a &&& 1 : Nat) : Int) := h
 rw [h2, Nat.and_one_is_mod]
 omega
def blen (n : Nat) : Nat := if n = 0 then 0 else n.log2 + 1
theorem blen_zero : blen 0 = 0 := rfl
theorem blen_eq {n k : Nat} (h1 : 2 ^ k ≤ n) (h2 : n < 2 ^ (k + 1)) : blen n = k + 1 := by
 have h0 : n ≠ 0 := by have := Nat.two_pow_pos k; omega
 unfold blen
 rw [if_neg h0]
 congr 1
 exact (Nat.log2_eq_iff h0).2 ⟨h1, h2⟩
theorem blen_le {n : Nat} (h0 : n ≠ 0) : 2 ^ (blen n - 1) ≤ n := by
 unfold blen
 rw [if_neg h0, Nat.add_sub_cancel]
 exact Nat.log2_self_le h0
theorem blen_lt (n : Nat) : n < 2 ^ blen n := by
 unfold blen
 split
 ·rename_i h; subst h; decide
 ·exact Nat.lt_log2_self
theorem blen_pos {n : Nat} (h0 : n ≠ 0) : 0 < blen n := by unfold blen; rw [if_neg h0]; omega
theorem blen_le_of_lt {n k : Nat} (h : n < 2 ^ k) : blen n ≤ k := by
 by_cases h0 : n = 0
 ·subst h0; simp [blen]
 ·have h1 := blen_le h0
  have h2 := blen_pos h0
  have h3 : 2 ^ (blen n - 1) < 2 ^ k := by omega
  have := (Nat.pow_lt_pow_iff_right (by omega : 1 < 2)).1 h3
  omega
theorem lt_blen_of_le {n k : Nat} (h : 2 ^ k ≤ n) : k < blen n := by
 have h1 := blen_lt n
 have h3 : 2 ^ k < 2 ^ blen n := by omega
 exact (Nat.pow_lt_pow_iff_right (by omega : 1 < 2)).1 h3
theorem blen_div {n s : Nat} (h : 2 ^ s ≤ n) : blen n = s + blen (n / 2 ^ s) := by
 have hp := Nat.two_pow_pos s
 have h0 : n / 2 ^ s ≠ 0 := by
  have := Nat.div_pos h hp
  omega
 have h1 := blen_le h0
 have h2 := blen_lt (n / 2 ^ s)
 have h3 := blen_pos h0
 obtain ⟨j, hj⟩ : ∃ j, blen (n / 2 ^ s) = j + 1 := ⟨blen (n / 2 ^ s) - 1, by omega⟩
 rw [hj] at h1 h2 ⊢
 rw [Nat.add_sub_cancel] at h1
 have e1 : 2 ^ (s + j) ≤ n := by
  rw [Nat.pow_add]
  calc 2 ^ s * 2 ^ j ≤ 2 ^ s * (n / 2 ^ s) := Nat.mul_le_mul_left _ h1
   _ ≤ n := Nat.mul_div_le _ _
 have e2 : n < 2 ^ (s + j + 1) := by
  have h4 : n < 2 ^ s * (n / 2 ^ s + 1) := by rw [Nat.mul_add, Nat.mul_one]; have := Nat.div_add_mod n (2 ^ s); have := Nat.mod_lt n hp; omega
  have h5 : 2 ^ s * (n / 2 ^ s + 1) ≤ 2 ^ s * 2 ^ (j + 1) := Nat.mul_le_mul_left _ h2
  rw [Nat.add_assoc, Nat.pow_add]
  omega
 rw [blen_eq e1 e2]
 omega
theorem tab_blen : ∀ i : Fin 256, bt (⟨#[0, 1, 2, 2, 3, 3, 3, 3, 4, 4, 4, 4, 4, 4, 4, 4, 5, 5, 5, 5, 5, 5, 5, 5, 5, 5, 5, 5, 5, 5, 5, 5, 6, 6, 6, 6, 6, 6, 6, 6, 6, 6, 6, 6, 6, 6, 6, 6, 6, 6, 6, 6, 6, 6, 6, 6, 6, 6, 6, 6, 6, 6, 6, 6, 7, 7, 7, 7, 7, 7, 7, 7, 7, 7, 7, 7, 7, 7, 7, 7, 7, 7, 7, 7, 7, 7, 7, 7, 7, 7, 7, 7, 7, 7, 7, 7, 7, 7, 7, 7, 7, 7, 7, 7, 7, 7, 7, 7, 7, 7, 7, 7, 7, 7, 7, 7, 7, 7, 7, 7, 7, 7, 7, 7, 7, 7, 7, 7, 8, 8, 8, 8, 8, 8, 8, 8, 8, 8, 8, 8, 8, 8, 8, 8, 8, 8, 8, 8, 8, 8, 8, 8, 8, 8, 8, 8, 8, 8, 8, 8, 8, 8, 8, 8, 8, 8, 8, 8, 8, 8, 8, 8, 8, 8, 8, 8, 8, 8, 8, 8, 8, 8, 8, 8, 8, 8, 8, 8, 8, 8, 8, 8, 8, 8, 8, 8, 8, 8, 8, 8, 8, 8, 8, 8, 8, 8, 8, 8, 8, 8, 8, 8, 8, 8, 8, 8, 8, 8, 8, 8, 8, 8, 8, 8, 8, 8, 8, 8, 8, 8, 8, 8, 8, 8, 8, 8, 8, 8, 8, 8, 8, 8, 8, 8, 8, 8, 8, 8, 8, 8, 8, 8, 8, 8, 8, 8]⟩ : ByteArray) (i.val : Int) = (blen i.val : Int) := by decide +kernel
theorem tab_at (i : Int) (h0 : 0 ≤ i) (h1 : i < 256) : bt (⟨#[0, 1, 2, 2, 3, 3, 3, 3, 4, 4, 4, 4, 4, 4, 4, 4, 5, 5, 5, 5, 5, 5, 5, 5, 5, 5, 5, 5, 5, 5, 5, 5, 6, 6, 6, 6, 6, 6, 6, 6, 6, 6, 6, 6, 6, 6, 6, 6, 6, 6, 6, 6, 6, 6, 6, 6, 6, 6, 6, 6, 6, 6, 6, 6, 7, 7, 7, 7, 7, 7, 7, 7, 7, 7, 7, 7, 7, 7, 7, 7, 7, 7, 7, 7, 7, 7, 7, 7, 7, 7, 7, 7, 7, 7, 7, 7, 7, 7, 7, 7, 7, 7, 7, 7, 7, 7, 7, 7, 7, 7, 7, 7, 7, 7, 7, 7, 7, 7, 7, 7, 7, 7, 7, 7, 7, 7, 7, 7, 8, 8, 8, 8, 8, 8, 8, 8, 8, 8, 8, 8, 8, 8, 8, 8, 8, 8, 8, 8, 8, 8, 8, 8, 8, 8, 8, 8, 8, 8, 8, 8, 8, 8, 8, 8, 8, 8, 8, 8, 8, 8, 8, 8, 8, 8, 8, 8, 8, 8, 8, 8, 8, 8, 8, 8, 8, 8, 8, 8, 8, 8, 8, 8, 8, 8, 8, 8, 8, 8, 8, 8, 8, 8, 8, 8, 8, 8, 8, 8, 8, 8, 8, 8, 8, 8, 8, 8, 8, 8, 8, 8, 8, 8, 8, 8, 8, 8, 8, 8, 8, 8, 8, 8, 8, 8, 8, 8, 8, 8, 8, 8, 8, 8, 8, 8, 8, 8, 8, 8, 8, 8, 8, 8, 8, 8, 8, 8]⟩ : ByteArray) i = (blen i.toNat : Int) := by
 obtain ⟨a, rfl⟩ := Int.eq_ofNat_of_zero_le h0
 exact tab_blen ⟨a, by omega⟩
theorem blen_u8 {n : Nat} (h : n < 256) : blen n ≤ 8 := blen_le_of_lt (k := 8) (by omega)
theorem len32 (a : Int) (h0 : 0 ≤ a) (h1 : a < 4294967296) : bits_Len32.f a = some (blen a.toNat : Int) := by
 obtain ⟨n, rfl⟩ := Int.eq_ofNat_of_zero_le h0
 rw [Int.toNat_natCast]
 unfold bits_Len32.f
 have key : ∀ m : Nat, m < 256 → bt (⟨#[0, 1, 2, 2, 3, 3, 3, 3, 4, 4, 4, 4, 4, 4, 4, 4, 5, 5, 5, 5, 5, 5, 5, 5, 5, 5, 5, 5, 5, 5, 5, 5, 6, 6, 6, 6, 6, 6, 6, 6, 6, 6, 6, 6, 6, 6, 6, 6, 6, 6, 6, 6, 6, 6, 6, 6, 6, 6, 6, 6, 6, 6, 6, 6, 7, 7, 7, 7, 7, 7, 7, 7, 7, 7, 7, 7, 7, 7, 7, 7, 7, 7, 7, 7, 7, 7, 7, 7, 7, 7, 7, 7, 7, 7, 7, 7, 7, 7, 7, 7, 7, 7, 7, 7, 7, 7, 7, 7, 7, 7, 7, 7, 7, 7, 7, 7, 7, 7, 7, 7, 7, 7, 7, 7, 7, 7, 7, 7, 8, 8, 8, 8, 8, 8, 8, 8, 8, 8, 8, 8, 8, 8, 8, 8, 8, 8, 8, 8, 8, 8, 8, 8, 8, 8, 8, 8, 8, 8, 8, 8, 8, 8, 8, 8, 8, 8, 8, 8, 8, 8, 8, 8, 8, 8, 8, 8, 8, 8, 8, 8, 8, 8, 8, 8, 8, 8, 8, 8, 8, 8, 8, 8, 8, 8, 8, 8, 8, 8, 8, 8, 8, 8, 8, 8, 8, 8, 8, 8, 8, 8, 8, 8, 8, 8, 8, 8, 8, 8, 8, 8, 8, 8, 8, 8, 8, 8, 8, 8, 8, 8, 8, 8, 8, 8, 8, 8, 8, 8, 8, 8, 8, 8, 8, 8, 8, 8, 8, 8, 8, 8, 8, 8, 8, 8, 8, 8]⟩ : ByteArray) ((m : Int) % 256) = (blen m : Int) := fun m hm => by
  have : ((m : Int) % 256) = (m : Int) := by omega
  rw [this]
  exact tab_at m (by omega) (by omega)
 by_cases c1 : (n : Int) ≥ 65536
 ·rw [if_pos c1]
  have hb := blen_div (n := n) (s := 16) (by omega)
  have e1 : ((n : Int) / 65536) = ((n / 2 ^ 16 : Nat) : Int) := by omega
  rw [e1]
  generalize hm : n / 2 ^ 16 = m at hb ⊢
  have hm2 : m < 65536 := by omega
  by_cases c2 : (m : Int) ≥ 256
  ·rw [if_pos c2]
   have hb2 := blen_div (n := m) (s := 8) (by omega)
   have e2 : ((m : Int) / 256) = ((m / 2 ^ 8 : Nat) : Int) := by omega
   rw [e2]
   generalize hp : m / 2 ^ 8 = p at hb2 ⊢
   have hp2 : p < 256 := by omega
   have h8 := blen_u8 hp2
   rw [if_pos (by omega), if_pos (by omega), key p hp2, w64 (x := (blen p : Int)) (by omega) (by omega), w64 (by omega) (by omega), hb, hb2]
   congr 1
   omega
  ·rw [if_neg c2]
   have h8 := blen_u8 (n := m) (by omega)
   rw [if_pos (by omega), if_pos (by omega), key m (by omega), w64 (x := (blen m : Int)) (by omega) (by omega), w64 (by omega) (by omega), hb]
   congr 1
 ·rw [if_neg c1]
  by_cases c2 : (n : Int) ≥ 256
  ·rw [if_pos c2]
   have hb2 := blen_div (n := n) (s := 8) (by omega)
   have e2 : ((n : Int) / 256) = ((n / 2 ^ 8 : Nat) : Int) := by omega
   rw [e2]
   generalize hp : n / 2 ^ 8 = p at hb2 ⊢
   have hp2 : p < 256 := by omega
   have h8 := blen_u8 hp2
   rw [if_pos (by omega), if_pos (by omega), key p hp2, w64 (x := (blen p : Int)) (by omega) (by omega), w64 (by omega) (by omega), hb2]
   congr 1
  ·rw [if_neg c2]
   have h8 := blen_u8 (n := n) (by omega)
   rw [if_pos (by omega), if_pos (by omega), key n (by omega), w64 (x := (blen n : Int)) (by omega) (by omega), w64 (by omega) (by omega)]
   congr 1
   omega
theorem bits_ev {l : List Int} {n : Nat} (h : Rep P32 l n) (hl : l.length ≤ 1125899906842624) : note_whole_bits.f l = some (blen n : Int) := by
 unfold note_whole_bits.f
 by_cases h0 : l = []
 ·subst h0
  rw [if_pos (by simp), h.zero]
  rfl
 ·obtain ⟨l', x, rfl⟩ := snoc_of h0
  have hx := h.wf x (by simp)
  have hx0 : x ≠ 0 := h.nz x (by simp)
  have hL : ((l' ++ [x]).length : Int) = (l'.length : Int) + 1 := by simp
  have hl2 : l'.length + 1 ≤ 1125899906842624 := by simpa using hl
  rw [hL, if_neg (by omega), w64 (x := (l'.length : Int) + 1 - 1) (by omega) (by omega)]
  have e1 : (l'.length : Int) + 1 - 1 = (l'.length : Int) := by omega
  have hrd : rd (l' ++ [x]) (l'.length : Int) = x := by rw [rd_get _ _ (by simp)]; simp
  rw [e1, if_pos (by omega), if_pos (by omega), hrd, len32 x hx.1 hx.2]
  simp only [Option.bind_some]
  have hxb : x.toNat < 2 ^ 32 := by have := hx.2; simp only [P32] at this; omega
  have h32 := blen_le_of_lt hxb
  rw [w64 (x := 32 * (l'.length : Int)) (by omega) (by omega), w64 (by omega) (by omega)]
  have hv := h.val
  rw [val_append] at hv
  simp only [val] at hv
  have hlo := val_lt (fun y hy => h.wf y (List.mem_append_left _ hy) : Wf P32 l') p0
  have hlo0 := val_nonneg (fun y hy => h.wf y (List.mem_append_left _ hy) : Wf P32 l') (by decide)
  have hP : P32 ^ l'.length = ((2 ^ (32 * l'.length) : Nat) : Int) := by
   rw [Nat.pow_mul]
   simp
  rw [hP] at hv hlo
  obtain ⟨v, hv0⟩ := Int.eq_ofNat_of_zero_le hlo0
  obtain ⟨y, rfl⟩ := Int.eq_ofNat_of_zero_le hx.1
  rw [hv0] at hv hlo
  have hn : n = v + 2 ^ (32 * l'.length) * y := by
   have : ((n : Nat) : Int) = ((v + 2 ^ (32 * l'.length) * y : Nat) : Int) := by
    rw [← hv]
    push_cast
    grind
   omega
  have hy0 : y ≠ 0 := by omega
  have hv2 : v < 2 ^ (32 * l'.length) := by omega
  have hge : 2 ^ (32 * l'.length) ≤ n := by
   rw [hn]
   have : 2 ^ (32 * l'.length) * 1 ≤ 2 ^ (32 * l'.length) * y := Nat.mul_le_mul_left _ (by omega)
   omega
  rw [blen_div hge]
  have hq : n / 2 ^ (32 * l'.length) = y := by
   rw [hn, Nat.add_mul_div_left _ _ (Nat.two_pow_pos _), Nat.div_eq_of_lt hv2, Nat.zero_add]
  rw [hq, Int.toNat_natCast]
  congr 1
end Go.Proofs.Ytlhciggmllddkaa.Pl
end
section
namespace Go.Proofs.Ytlhciggmllddkaa.Pl
open Go Go.RowKit Go.Proofs.YtlhciggmllddkaaW.PrintWords Go.Proofs.YtlhciggmllddkaaW.PrintLast Go.Proofs.YtlhciggmllddkaaW.PrintMore Go.Proofs.Ytlhciggmllddkaa.PNum
set_option linter.unusedVariables false
set_option linter.unusedSimpArgs false
theorem Ev.ret {α : Type} {g : Nat → Option α} {r : α} (h : Ev g r) : Ev (fun k => (g k).bind fun t => some t) r := Ev.bind h (Ev.const _)
theorem wholeOf_ev (n : Nat) (h : n < 18446744073709551616) : ∃ r, Ev (fun k => note_wholeOf.f k (n : Int)) r ∧ Rep P32 r n ∧ r.length ≤ 2 := by
 obtain ⟨r, h1, h2, h3⟩ := cut_ev [(n : Int) % 4294967296, ((n : Int) / 4294967296) % 4294967296] (by simp) (Wf.cons (by omega) (by show _ < (4294967296 : Int); omega) (Wf.cons (by omega) (by show _ < (4294967296 : Int); omega) Wf.nil)) n (by simp only [val]; show _ + (4294967296 : Int) * (_ + 4294967296 * 0) = _; omega)
 exact ⟨r, Ev.ret h1, h2, h3⟩
theorem pow32 (q : Nat) : P32 ^ q = ((2 ^ (32 * q) : Nat) : Int) := by
 rw [Nat.pow_mul]
 simp
theorem getElem_drop_zero {l : List Int} {i d : Nat} (h : l.drop i = List.replicate (d + 1) 0) : ∃ hi : i < l.length, l[i] = 0 ∧ l.drop (i + 1) = List.replicate d 0 := by
 have hl := congrArg List.length h
 simp at hl
 have hi : i < l.length := by omega
 rw [List.drop_eq_getElem_cons hi, List.replicate_succ] at h
 injection h with h1 h2
 exact ⟨hi, h1, h2⟩
theorem drop_set_past {l : List Int} {i j : Nat} {v : Int} (h : j < i) : (l.set j v).drop i = l.drop i := by
 apply List.ext_getElem?
 intro m
 rw [List.getElem?_drop, List.getElem?_drop, List.getElem?_set_ne (by omega)]
theorem raised_val (a S p v I Q V : Int) (hv : v = a * S) (V1 : Int) (hV : V1 = V * S * Q) : V1 + (p + v % 4294967296 - p) * (I * Q) + (v / 4294967296 - 0) * (I * Q * 4294967296) = (V + a * I) * S * Q := by
 have e6 : v % 4294967296 = v - 4294967296 * (v / 4294967296) := by omega
 rw [e6, hV, hv]
 generalize a * S / 4294967296 = u
 grind
theorem two_pow_facts (s : Nat) (hs32 : s < 32) : (1 : Int) ≤ 2 ^ s ∧ (2 : Int) ^ s ≤ 2147483648 ∧ (4294967296 : Int) % 2 ^ s = 0 := by
 have h0 : ∀ s : Fin 32, (1 : Int) ≤ 2 ^ s.val ∧ (2 : Int) ^ s.val ≤ 2147483648 ∧ (4294967296 : Int) % 2 ^ s.val = 0 := by decide +kernel
 exact h0 ⟨s, hs32⟩
/-- a limb shifted by fewer than 32 bits: its parts. -/
theorem shift_facts (S a p : Int) (hS1 : 1 ≤ S) (hS2 : S ≤ 2147483648) (hB : (4294967296 : Int) % S = 0) (h0 : 0 ≤ a) (h1 : a < 4294967296) (hp : p < S) :
  0 ≤ a * S ∧ a * S ≤ 9223372034707292160 ∧ (a * S % 4294967296) % S = 0 ∧ 0 ≤ a * S / 4294967296 ∧ a * S / 4294967296 < S ∧ p + a * S % 4294967296 < 4294967296 := by
 have hv1 : 0 ≤ a * S := Int.mul_nonneg h0 (by omega)
 have hv2 : a * S ≤ 4294967295 * 2147483648 := Int.mul_le_mul (by omega) hS2 (by omega) (by omega)
 have hvS : a * S % S = 0 := Int.mul_emod_left a S
 have h3 : a * S < 4294967296 * S := Int.mul_lt_mul_of_pos_right h1 (by omega)
 obtain ⟨v, hv⟩ : ∃ v, v = a * S := ⟨_, rfl⟩
 rw [← hv] at hv1 hv2 hvS h3 ⊢
 have hlo : (v % 4294967296) % S = 0 := by
  have h1 : v % 4294967296 = v - 4294967296 * (v / 4294967296) := by omega
  rw [h1, Int.sub_emod, hvS, Int.mul_emod, hB]
  simp
 refine ⟨hv1, by omega, hlo, by omega, Int.ediv_lt_of_lt_mul (by omega) (by rw [Int.mul_comm]; exact h3), ?_⟩
 have e1 := Int.mul_ediv_add_emod (v % 4294967296) S
 rw [hlo] at e1
 have e2 := Int.mul_ediv_add_emod (4294967296 : Int) S
 rw [hB] at e2
 have e3 : S * (v % 4294967296 / S) < S * (4294967296 / S) := by omega
 have e4 : v % 4294967296 / S < 4294967296 / S := Int.lt_of_mul_lt_mul_left e3 (by omega)
 have e5 : S * (v % 4294967296 / S + 1) ≤ S * (4294967296 / S) := Int.mul_le_mul_of_nonneg_left (by omega) (by omega)
 have e6 : S * (v % 4294967296 / S + 1) = S * (v % 4294967296 / S) + S := by rw [Int.mul_add, Int.mul_one]
 omega
theorem raised_pow (m n s q : Nat) (h : n = s + 32 * q) : (m : Int) * 2 ^ s * P32 ^ q = ((m * 2 ^ n : Nat) : Int) := by
 rw [pow32, h, Nat.pow_add]
 push_cast
 grind
theorem raised_ev {l : List Int} {m : Nat} (h : Rep P32 l m) (n : Nat) (hl : l.length + n ≤ 1099511627776) : ∃ r, Ev (fun k => note_whole_raised.f k l (n : Int)) r ∧ Rep P32 r (m * 2 ^ n) ∧ r.length ≤ l.length + n / 32 + 1 := by
 obtain ⟨q, hqd⟩ : ∃ q, q = n / 32 := ⟨_, rfl⟩
 obtain ⟨s, hsd⟩ : ∃ s, s = n % 32 := ⟨_, rfl⟩
 have hs32 : s < 32 := by omega
 have hq : wrap64 (Int.tdiv (n : Int) 32) = (q : Int) := by
  rw [Int.tdiv_eq_ediv_of_nonneg (by omega), w64 (by omega) (by omega)]
  omega
 have hs : IntKind.u64.wrap (Int.tmod (n : Int) 32) = (s : Int) := by
  rw [Int.tmod_eq_emod_of_nonneg (by omega), wu64 (by omega) (by omega)]
  omega
 have hpow := raised_pow m n s q (by omega)
 obtain ⟨hs1, hs2, hBS⟩ := two_pow_facts s hs32
 obtain ⟨S, hS⟩ : ∃ S : Int, S = 2 ^ s := ⟨_, rfl⟩
 have key : ∀ d i (out : List Int), i + d = l.length → out.length = l.length + q + 1 → Wf P32 out → val P32 out = val P32 (l.take i) * 2 ^ s * P32 ^ q → (∀ hi : i + q < out.length, out[i + q] < 2 ^ s) → out.drop (i + q + 1) = List.replicate d 0 →
   ∃ r, Ev (fun k => note_whole_raised.l0 k (n : Int) out l (l.length : Int) (i : Int)) r ∧ Rep P32 r (m * 2 ^ n) ∧ r.length ≤ out.length := by
  intro d
  induction d with
  | zero =>
   intro i out hi ho hw hv _ _
   obtain rfl : i = l.length := by omega
   rw [List.take_length, h.val, hpow] at hv
   obtain ⟨r, h1, h2, h3⟩ := cut_ev out (by omega) hw _ hv
   exact ⟨r, Ev.succ (fun k => by rw [note_whole_raised.l0]) (Ev.no (by omega) (Ev.ret h1)), h2, h3⟩
  | succ d ih =>
   intro i out hi ho hw hv hlow hz
   obtain ⟨hi1, hz0, hz1⟩ := getElem_drop_zero hz
   have hil : i < l.length := by omega
   have hx := h.wf.get hil
   have hiq : i + q < out.length := by omega
   have ho1 := hw.get hiq
   have ho2 := hlow hiq
   have e1 : (i : Int) + (q : Int) = ((i + q : Nat) : Int) := by omega
   have e2 : ((i + q : Nat) : Int) + 1 = ((i + q + 1 : Nat) : Int) := by omega
   obtain ⟨a, ha⟩ : ∃ a : Int, a = l[i] := ⟨_, rfl⟩
   rw [← ha] at hx
   have hx2 : a < 4294967296 := hx.2
   obtain ⟨p, hp⟩ : ∃ p : Int, p = out[i + q] := ⟨_, rfl⟩
   rw [← hp] at ho1 ho2
   rw [← hS] at hs1 hs2 hBS
   obtain ⟨hv1, hv2, hlo, hhi0, hhi, hsum⟩ := shift_facts S a p hs1 hs2 hBS hx.1 hx2 (by rw [hS]; exact ho2)
   have hshl : shl .u64 (IntKind.u64.wrap (rd l (i : Int))) (s : Int) = a * S := by
    rw [rd_get l i hil, ← ha, wu64 hx.1 (by omega)]
    unfold shl
    have : min (s : Int).toNat IntKind.u64.bits = s := by
     show min (s : Int).toNat 64 = s
     omega
    rw [this, ← hS, wu64 hv1 (by omega)]
   obtain ⟨v, hvd⟩ : ∃ v : Int, v = a * S := ⟨_, rfl⟩
   rw [← hvd] at hv1 hv2 hshl hlo hhi0 hhi hsum
   have hhim : v / 4294967296 % 4294967296 = v / 4294967296 := by omega
   have hor : Go.bits .or .u32 (rd out ((i + q : Nat) : Int)) (v % 4294967296) = p + v % 4294967296 := by
    rw [rd_get out (i + q) hiq, ← hp]
    exact or_u32 p _ s ho1.1 ho2 (by omega) (by omega) (by omega) (by rw [← hS]; exact hlo)
   have hor2 : Go.bits .or .u32 (rd (out.set (i + q) (p + v % 4294967296)) ((i + q + 1 : Nat) : Int)) (v / 4294967296) = v / 4294967296 := by
    rw [rd_get _ (i + q + 1) (by simp; omega), List.getElem_set_ne (by omega), hz0]
    have := or_u32 0 (v / 4294967296) 0 (by omega) (by decide) (by omega) hhi0 (by omega) (by simp)
    rw [this]
    omega
   obtain ⟨r, h1, h2, h3⟩ := ih (i + 1) ((out.set (i + q) (p + v % 4294967296)).set (i + q + 1) (v / 4294967296)) (by omega) (by simp; omega) ((hw.set _ (by omega) hsum).set _ hhi0 (by show _ < (4294967296 : Int); omega))
    (by
     rw [val_set _ _ (by simp; omega), val_set _ _ hiq, hv, val_take_succ l i hil, List.getElem_set_ne (by omega), hz0, ← hp, ← ha]
     have e4 : P32 ^ (i + q + 1) = P32 ^ i * P32 ^ q * 4294967296 := by rw [Int.pow_succ, Int.pow_add]
     have e5 : P32 ^ (i + q) = P32 ^ i * P32 ^ q := Int.pow_add ..
     rw [e4, e5, ← hS]
     exact raised_val a S p v _ _ _ hvd _ rfl)
    (fun _ => by
     have e : i + 1 + q = i + q + 1 := by omega
     simp only [e]
     rw [List.getElem_set_self, ← hS]
     exact hhi)
    (by
     have e : i + 1 + q + 1 = i + q + 1 + 1 := by omega
     rw [e, drop_set_past (by omega), drop_set_past (by omega)]
     exact hz1)
   have e3 : ((i : Int) + 1) = ((i + 1 : Nat) : Int) := by omega
   refine ⟨r, Ev.succ (fun k => ?_) h1, h2, by simpa using h3⟩
   rw [note_whole_raised.l0]
   rw [hq, hs, hshl, hhim, Option.bind_some]
   rw [e1, w64 (x := ((i + q : Nat) : Int)) (by omega) (by omega), e2, w64 (x := ((i + q + 1 : Nat) : Int)) (by omega) (by omega), e3, w64 (x := ((i + 1 : Nat) : Int)) (by omega) (by omega)]
   rw [Int.toNat_natCast, Int.toNat_natCast, hor, hor2]
   rw [if_pos (by omega), if_pos (by omega), if_pos (by omega), if_pos (by omega), if_pos (by omega), if_pos (by omega), if_pos (by omega), if_pos (by simp; omega)]
 obtain ⟨r, h1, h2, h3⟩ := key l.length 0 (List.replicate (l.length + q + 1) 0) (by omega) (by simp) (Wf.zeros _ p0) (by rw [val_zeros]; simp [val]) (fun hi => by rw [List.getElem_replicate]; exact Int.pow_pos (by omega)) (by simp)
 refine ⟨r, ?_, h2, by simp at h3; omega⟩
 unfold note_whole_raised.f
 rw [hq]
 have e1 : ((l.length : Int) + (q : Int)) = ((l.length + q : Nat) : Int) := by omega
 have e2 : ((l.length + q : Nat) : Int) + 1 = ((l.length + q + 1 : Nat) : Int) := by omega
 rw [e1, w64 (x := ((l.length + q : Nat) : Int)) (by omega) (by omega), e2, w64 (x := ((l.length + q + 1 : Nat) : Int)) (by omega) (by omega), Int.toNat_natCast]
 exact Ev.yes (by omega) (Ev.yes (by omega) h1)
end Go.Proofs.Ytlhciggmllddkaa.Pl
end
section
namespace Go.Proofs.Ytlhciggmllddkaa.Pl
open Go Go.RowKit Go.Proofs.YtlhciggmllddkaaW.PrintWords Go.Proofs.YtlhciggmllddkaaW.PrintLast Go.Proofs.YtlhciggmllddkaaW.PrintMore Go.Proofs.Ytlhciggmllddkaa.PNum
set_option linter.unusedVariables false
set_option linter.unusedSimpArgs false
theorem mod32_wf (v : Int) : 0 ≤ v % 4294967296 ∧ v % 4294967296 < P32 := ⟨by omega, by show _ < (4294967296 : Int); omega⟩
/-- One limb of a difference: what is left and what is borrowed. -/
theorem less_limb (a c y : Int) (ha0 : 0 ≤ a) (ha : a < 4294967296) (hc : c = 0 ∨ c = 1) (hy0 : 0 ≤ y) (hy : y < 4294967296) :
  let v := (a - c - y) % 18446744073709551616
  (v / 9223372036854775808 = 0 ∨ v / 9223372036854775808 = 1) ∧ v % 4294967296 = a - c - y + 4294967296 * (v / 9223372036854775808) := by
 intro v
 have : v = a - c - y ∨ v = a - c - y + 18446744073709551616 := by show (a - c - y) % _ = _ ∨ (a - c - y) % _ = _; omega
 rcases this with h | h <;> rcases hc with rfl | rfl <;> omega
theorem less_ev {a b : List Int} {m n : Nat} (ha : Rep P32 a m) (hb : Rep P32 b n) (hnm : n ≤ m) (hl : a.length ≤ 1099511627776) : ∃ r, Ev (fun k => note_whole_less.f k a b) r ∧ Rep P32 r (m - n) ∧ r.length ≤ a.length := by
 have hbl : b.length ≤ a.length := hb.len_le p1 (k := a.length) (by have := ha.lt p0; omega)
 have key : ∀ d i (out : List Int) (c : Int), i + d = a.length → out.length = a.length → Wf P32 out → (c = 0 ∨ c = 1) → out.drop i = List.replicate d 0 → val P32 (out.take i) = val P32 (a.take i) - val P32 (b.take i) + c * P32 ^ i →
   ∃ r, Ev (fun k => note_whole_less.l0 k b out c a (a.length : Int) (i : Int)) r ∧ Rep P32 r (m - n) ∧ r.length ≤ a.length := by
  intro d
  induction d with
  | zero =>
   intro i out c hi ho hw hc _ hv
   obtain rfl : i = a.length := by omega
   rw [List.take_of_length_le (by omega), List.take_of_length_le (by omega), List.take_of_length_le (by omega), ha.val, hb.val] at hv
   have h1 := val_lt hw p0
   have h2 := val_nonneg hw (by decide)
   rw [ho] at h1
   have hv2 : val P32 out = ((m - n : Nat) : Int) := by
    rcases hc with rfl | rfl
    ·omega
    ·omega
   obtain ⟨r, h3, h4, h5⟩ := cut_ev out (by omega) hw _ hv2
   exact ⟨r, Ev.succ (fun k => by rw [note_whole_less.l0]) (Ev.no (by omega) (Ev.ret h3)), h4, by omega⟩
  | succ d ih =>
   intro i out c hi ho hw hc hz hv
   obtain ⟨hi1, hz0, hz1⟩ := getElem_drop_zero hz
   have hia : i < a.length := by omega
   have hx := ha.wf.get hia
   have hx2 : a[i] < 4294967296 := hx.2
   have hra : IntKind.u64.wrap (rd a (i : Int)) = a[i] := by rw [rd_get a i hia, wu64 hx.1 (by omega)]
   have e3 : ((i : Int) + 1) = ((i + 1 : Nat) : Int) := by omega
   have step : ∀ y : Int, 0 ≤ y → y < 4294967296 → (val P32 (b.take (i + 1)) = val P32 (b.take i) + y * P32 ^ i) →
     ∀ v : Int, v = (a[i] - c - y) % 18446744073709551616 → ∃ r, Ev (fun k => note_whole_less.l0 k b (out.set i (v % 4294967296)) (v / 9223372036854775808) a (a.length : Int) ((i + 1 : Nat) : Int)) r ∧ Rep P32 r (m - n) ∧ r.length ≤ a.length := by
    intro y hy0 hy hby v hvd
    obtain ⟨h1, h2⟩ := less_limb a[i] c y hx.1 hx2 hc hy0 hy
    rw [← hvd] at h1 h2
    refine ih (i + 1) _ _ (by omega) (by simp; omega) (hw.set _ (mod32_wf v).1 (mod32_wf v).2) h1 (by rw [drop_set_past (by omega)]; exact hz1) ?_
    rw [val_take_succ _ i (by simp; omega), val_take_succ a i hia, hby, List.getElem_set_self, List.take_set_of_le (Nat.le_refl _), hv, h2, Int.pow_succ]
    generalize v / 9223372036854775808 = u
    show _ = _ + u * (P32 ^ i * 4294967296)
    generalize P32 ^ i = I
    grind
   by_cases hib : i < b.length
   ·have hy := hb.wf.get hib
    have hy2 : b[i] < 4294967296 := hy.2
    have hrb : IntKind.u64.wrap (rd b (i : Int)) = b[i] := by rw [rd_get b i hib, wu64 hy.1 (by omega)]
    obtain ⟨v, hvd⟩ : ∃ v, v = (a[i] - c - b[i]) % 18446744073709551616 := ⟨_, rfl⟩
    obtain ⟨r, h1, h2, h3⟩ := step b[i] hy.1 hy2 (val_take_succ b i hib) v hvd
    have hv0 : IntKind.u64.wrap (IntKind.u64.wrap (a[i] - c) - b[i]) = v := by
     rw [wu64_mod, wu64_mod, hvd]
     omega
    refine ⟨r, Ev.succ (fun k => ?_) h1, h2, h3⟩
    rw [note_whole_less.l0]
    rw [hra, hrb, hv0, Int.toNat_natCast, e3, w64 (x := ((i + 1 : Nat) : Int)) (by omega) (by omega)]
    rw [if_pos (by omega), if_pos (by omega), if_pos (by omega), if_pos (by omega), if_pos (by omega)]
   ·obtain ⟨v, hvd⟩ : ∃ v, v = (a[i] - c - 0) % 18446744073709551616 := ⟨_, rfl⟩
    obtain ⟨r, h1, h2, h3⟩ := step 0 (by omega) (by omega) (by rw [List.take_of_length_le (by omega), List.take_of_length_le (by omega)]; omega) v hvd
    have hv0 : IntKind.u64.wrap (a[i] - c) = v := by
     rw [wu64_mod, hvd, Int.sub_zero]
    refine ⟨r, Ev.succ (fun k => ?_) h1, h2, h3⟩
    rw [note_whole_less.l0]
    rw [hra, hv0, Int.toNat_natCast, e3, w64 (x := ((i + 1 : Nat) : Int)) (by omega) (by omega)]
    rw [if_pos (by omega), if_pos (by omega), if_pos (by omega), if_neg (by omega), if_pos (by omega)]
 obtain ⟨r, h1, h2, h3⟩ := key a.length 0 (List.replicate a.length 0) 0 (by omega) (by simp) (Wf.zeros _ p0) (Or.inl rfl) (by simp) (by simp [val])
 refine ⟨r, ?_, h2, h3⟩
 unfold note_whole_less.f
 rw [Int.toNat_natCast]
 exact Ev.yes (by omega) (Ev.yes (by omega) h1)
def halfL : List Int → List Int
 | [] => []
 | [x] => [x / 2]
 | x :: y :: r => (x / 2 + y % 2 * 2147483648) :: halfL (y :: r)
theorem halfL_length : ∀ l, (halfL l).length = l.length
 | [] => rfl
 | [x] => rfl
 | x :: y :: r => by simp [halfL, halfL_length (y :: r)]
theorem halfL_val : ∀ l : List Int, val P32 (halfL l) = val P32 l / 2
 | [] => rfl
 | [x] => by simp [halfL, val]
 | x :: y :: r => by
  have h := halfL_val (y :: r)
  simp only [halfL, val] at h ⊢
  rw [h]
  generalize val P32 r = t
  show x / 2 + y % 2 * 2147483648 + 4294967296 * ((y + 4294967296 * t) / 2) = (x + 4294967296 * (y + 4294967296 * t)) / 2
  omega
theorem halfL_get : ∀ (l : List Int) (i : Nat) (hi : i < l.length), (halfL l)[i]'(by rw [halfL_length]; exact hi) = l[i] / 2 + (if h : i + 1 < l.length then l[i + 1] % 2 * 2147483648 else 0)
 | [], i, hi => by simp at hi
 | [x], i, hi => by
  have : i = 0 := by simpa using hi
  subst this
  simp [halfL]
 | x :: y :: r, 0, hi => by simp [halfL]
 | x :: y :: r, i + 1, hi => by
  have h := halfL_get (y :: r) i (by simpa using hi)
  simp only [halfL, List.getElem_cons_succ]
  rw [h]
  simp
theorem halfL_wf {l : List Int} (h : Wf P32 l) : Wf P32 (halfL l) := fun x hx => by
 obtain ⟨i, hi, rfl⟩ := List.getElem_of_mem hx
 rw [halfL_length] at hi
 rw [halfL_get l i hi]
 have h1 := h.get hi
 have h1' : l[i] < 4294967296 := h1.2
 show _ ∧ _ < (4294967296 : Int)
 split
 ·rename_i h2
  have h3 := h.get h2
  omega
 ·omega
theorem or_half (p q : Int) (hp0 : 0 ≤ p) (hp : p < 4294967296) (hq0 : 0 ≤ q) (hq : q < 4294967296) : Go.bits .or .u32 (p / 2) (q * 2147483648 % 4294967296) = p / 2 + q % 2 * 2147483648 := by
 have e : q * 2147483648 % 4294967296 = q % 2 * 2147483648 := by omega
 rw [e]
 exact or_u32 _ _ 31 (by omega) (by show _ < (2147483648 : Int); omega) (by omega) (by omega) (by omega) (by show _ % (2147483648 : Int) = 0; omega)
theorem half_ev {l : List Int} {m : Nat} (h : Rep P32 l m) (hl : l.length ≤ 1099511627776) : ∃ r, Ev (fun k => note_whole_half.f k l) r ∧ Rep P32 r (m / 2) ∧ r.length ≤ l.length := by
 have key : ∀ (d i : Nat) (out : List Int) (_ : i + d = l.length) (ho : out.length = l.length), (∀ j (hj : j < out.length), out[j] = if j < i then (halfL l)[j]'(by rw [halfL_length]; omega) else l[j]'(by omega)) →
   ∃ r, Ev (fun k => note_whole_half.l0 k out (l.length : Int) (i : Int)) r ∧ Rep P32 r (m / 2) ∧ r.length ≤ l.length := by
  intro d
  induction d with
  | zero =>
   intro i out hi ho hg
   have hout : out = halfL l := by
    apply List.ext_getElem (by rw [halfL_length]; exact ho)
    intro j h1 h2
    rw [hg j h1, if_pos (by omega)]
   subst hout
   obtain ⟨r, h3, h4, h5⟩ := cut_ev (halfL l) (by omega) (halfL_wf h.wf) (m / 2) (by rw [halfL_val, h.val]; omega)
   exact ⟨r, Ev.succ (fun k => by rw [note_whole_half.l0]) (Ev.no (by omega) (Ev.ret h3)), h4, by omega⟩
  | succ d ih =>
   intro i out hi ho hg
   have hil : i < l.length := by omega
   have hio : i < out.length := by omega
   have e3 : ((i : Int) + 1) = ((i + 1 : Nat) : Int) := by omega
   have h1 : rd out (i : Int) = l[i] := by rw [rd_get out i hio, hg i hio, if_neg (by omega)]
   have hx := h.wf.get hil
   have hx2 : l[i] < 4294967296 := hx.2
   by_cases h2 : i + 1 < l.length
   ·have hy := h.wf.get h2
    have hy2 : l[i + 1] < 4294967296 := hy.2
    have h3 : rd (out.set i (l[i] / 2)) (i : Int) = l[i] / 2 := by rw [rd_get _ i (by simpa using hio), List.getElem_set_self]
    have h4 : rd (out.set i (l[i] / 2)) ((i + 1 : Nat) : Int) = l[i + 1] := by rw [rd_get _ (i + 1) (by simp; omega), List.getElem_set_ne (by omega), hg (i + 1) (by omega), if_neg (by omega)]
    obtain ⟨r, g1, g2, g3⟩ := ih (i + 1) ((out.set i (l[i] / 2)).set i (l[i] / 2 + l[i + 1] % 2 * 2147483648)) (by omega) (by simpa using ho) (by
     intro j hj
     simp only [List.length_set] at hj
     by_cases hji : j = i
     ·subst hji
      rw [List.getElem_set_self, if_pos (by omega), halfL_get l j hil, dif_pos h2]
     ·rw [List.getElem_set_ne (by omega), List.getElem_set_ne (by omega), hg j hj]
      by_cases hlt : j < i
      ·rw [if_pos hlt, if_pos (by omega)]
      ·rw [if_neg hlt, if_neg (by omega)])
    refine ⟨r, Ev.succ (fun k => ?_) g1, g2, g3⟩
    rw [note_whole_half.l0]
    rw [h1, Option.bind_some, e3, w64 (x := ((i + 1 : Nat) : Int)) (by omega) (by omega), Int.toNat_natCast, h3, h4, or_half _ _ hx.1 hx2 hy.1 hy2]
    rw [if_pos (by omega), if_pos (by omega), if_pos (by omega), if_pos (by omega), if_pos (by omega)]
   ·obtain ⟨r, g1, g2, g3⟩ := ih (i + 1) (out.set i (l[i] / 2)) (by omega) (by simpa using ho) (by
     intro j hj
     simp only [List.length_set] at hj
     by_cases hji : j = i
     ·subst hji
      rw [List.getElem_set_self, if_pos (by omega), halfL_get l j hil, dif_neg h2, Int.add_zero]
     ·rw [List.getElem_set_ne (by omega), hg j hj]
      by_cases hlt : j < i
      ·rw [if_pos hlt, if_pos (by omega)]
      ·rw [if_neg hlt, if_neg (by omega)])
    refine ⟨r, Ev.succ (fun k => ?_) g1, g2, g3⟩
    rw [note_whole_half.l0]
    rw [h1, Option.bind_some, e3, w64 (x := ((i + 1 : Nat) : Int)) (by omega) (by omega), Int.toNat_natCast]
    rw [if_pos (by omega), if_pos (by omega), if_pos (by omega), if_neg (by omega)]
 exact key l.length 0 l (by omega) rfl (fun j hj => by rw [if_neg (by omega)])
end Go.Proofs.Ytlhciggmllddkaa.Pl
end
section
namespace Go.Proofs.Ytlhciggmllddkaa.Pl
open Go Go.RowKit Go.Proofs.YtlhciggmllddkaaW.PrintWords Go.Proofs.YtlhciggmllddkaaW.PrintLast Go.Proofs.YtlhciggmllddkaaW.PrintMore Go.Proofs.Ytlhciggmllddkaa.PNum
set_option linter.unusedVariables false
set_option linter.unusedSimpArgs false
theorem Rep.blen_le {l : List Int} {n : Nat} (h : Rep P32 l n) : blen n ≤ 32 * l.length := by
 have h1 := h.lt p0
 rw [pow32] at h1
 exact blen_le_of_lt (by omega)
theorem mx_sub (a b : Nat) : mx ((a : Int) - (b : Int)) 0 = ((a - b : Nat) : Int) := by
 unfold mx
 split <;> omega
theorem cmp_ge {m n : Nat} : cmp m n ≥ 0 ↔ n ≤ m := by
 rcases Nat.lt_trichotomy m n with h | h | h
 ·rw [cmp_lt h]; omega
 ·rw [cmp_eq h]; omega
 ·rw [cmp_gt h]; omega
theorem divide_loop {m n : Nat} (hn : 0 < n) (hq : m / n < 18446744073709551616) : ∀ (J : Nat) (a t : List Int) (p q : Nat), Rep P32 a p → (∃ u, Rep P32 t u ∧ (1 ≤ J → u = n * 2 ^ (J - 1))) → J ≤ 1099511627776 → a.length ≤ 4294967296 → t.length ≤ 4294967296 → p < n * 2 ^ J → m = n * (q * 2 ^ J) + p →
  ∃ r, Ev (fun k => note_divide.l0 k a (q : Int) ((J : Int) - 1) t) (((m / n : Nat) : Int), r) ∧ Rep P32 r (m % n) ∧ r.length ≤ a.length := by
 intro J
 induction J with
 | zero =>
  intro a t p q ha _ _ hla _ hp hm
  have e1 : m / n = q := by
   rw [hm, Nat.pow_zero, Nat.mul_one, Nat.mul_add_div hn, Nat.div_eq_of_lt (by omega), Nat.add_zero]
  have e2 : m % n = p := by
   rw [hm, Nat.pow_zero, Nat.mul_one, Nat.mul_add_mod, Nat.mod_eq_of_lt (by omega)]
  rw [e1, e2]
  exact ⟨a, Ev.succ (fun k => by rw [note_divide.l0]) (Ev.no (by omega) (Ev.const _)), ha, Nat.le_refl _⟩
 | succ J ih =>
  intro a t p q ha ht hJ hla hlt hp hm
  obtain ⟨u, ht, hu⟩ := ht
  have hu := hu (by omega)
  rw [Nat.add_sub_cancel] at hu
  subst hu
  have hc := compare_ev ha ht (by omega) (by omega)
  obtain ⟨t', h1, h2, h3⟩ := half_ev ht (by omega)
  have ht' : ∃ u, Rep P32 t' u ∧ (1 ≤ J → u = n * 2 ^ (J - 1)) := by
   refine ⟨_, h2, fun hJ => ?_⟩
   obtain ⟨j, rfl⟩ : ∃ j, J = j + 1 := ⟨J - 1, by omega⟩
   rw [Nat.add_sub_cancel, Nat.pow_succ, ← Nat.mul_assoc, Nat.mul_div_cancel _ (by omega)]
  have hpow : n * (q * 2 ^ (J + 1)) = n * (2 * q * 2 ^ J) := by rw [Nat.pow_succ]; grind
  have hqb : 2 * q * 2 ^ J ≤ m / n := by
   rw [Nat.le_div_iff_mul_le hn, hm, hpow, Nat.mul_comm]
   omega
  have h2J := Nat.two_pow_pos J
  have hq1 : 2 * q ≤ 2 * q * 2 ^ J := Nat.le_mul_of_pos_right _ h2J
  have e0 : ((J + 1 : Nat) : Int) - 1 = (J : Int) := by omega
  have e1 : IntKind.u64.wrap ((q : Int) * 2) = ((2 * q : Nat) : Int) := by rw [wu64 (by omega) (by omega)]; omega
  rw [e0]
  by_cases hge : n * 2 ^ J ≤ p
  ·obtain ⟨a', g1, g2, g3⟩ := less_ev ha ht hge (by omega)
   have hqb2 : (2 * q + 1) * 2 ^ J ≤ m / n := by
    rw [Nat.le_div_iff_mul_le hn, hm, hpow, Nat.add_mul, Nat.one_mul, Nat.mul_comm, Nat.mul_add]
    omega
   have hq2 : 2 * q + 1 ≤ (2 * q + 1) * 2 ^ J := Nat.le_mul_of_pos_right _ h2J
   obtain ⟨r, k1, k2, k3⟩ := ih a' t' (p - n * 2 ^ J) (2 * q + 1) g2 ht' (by omega) (by omega) (by omega) (by rw [Nat.pow_succ, ← Nat.mul_assoc] at hp; omega) (by rw [hm, hpow, Nat.add_mul, Nat.one_mul, Nat.mul_add]; omega)
   refine ⟨r, Ev.succ (fun k => by rw [note_divide.l0]) (Ev.yes (by omega) (Ev.bind hc (Ev.yes (cmp_ge.2 hge) (Ev.bind g1 (Ev.bind h1 ?_))))), k2, by omega⟩
   rw [e1, or_u64_one _ (by omega) (by omega) (by omega), w64 (by omega) (by omega)]
   have e3 : ((2 * q : Nat) : Int) + 1 = ((2 * q + 1 : Nat) : Int) := by omega
   rw [e3]
   exact k1
  ·obtain ⟨r, k1, k2, k3⟩ := ih a t' p (2 * q) ha ht' (by omega) (by omega) (by omega) (by omega) (by rw [hm, hpow])
   refine ⟨r, Ev.succ (fun k => by rw [note_divide.l0]) (Ev.yes (by omega) (Ev.bind hc (Ev.no (fun h => hge (cmp_ge.1 h)) (Ev.bind h1 ?_)))), k2, by omega⟩
   rw [e1, w64 (by omega) (by omega)]
   exact k1
theorem divide_ev {a b : List Int} {m n : Nat} (ha : Rep P32 a m) (hb : Rep P32 b n) (hla : a.length ≤ 1073741824) (hlb : b.length ≤ 1073741824) (hn : 0 < n) (hq : m / n < 18446744073709551616) :
  ∃ r, Ev (fun k => note_divide.f k a b) (((m / n : Nat) : Int), r) ∧ Rep P32 r (m % n) ∧ r.length ≤ a.length := by
 have hbm := ha.blen_le
 have hbn := hb.blen_le
 obtain ⟨K, hK⟩ : ∃ K, K = blen m - blen n := ⟨_, rfl⟩
 obtain ⟨t, h1, h2, h3⟩ := raised_ev hb K (by omega)
 have hp : m < n * 2 ^ (K + 1) := by
  have h4 := blen_lt m
  have h5 := blen_le (n := n) (by omega)
  have h6 := blen_pos (n := n) (by omega)
  have h7 : 2 ^ blen m ≤ 2 ^ (blen n - 1 + (K + 1)) := Nat.pow_le_pow_right (by omega) (by omega)
  rw [Nat.pow_add] at h7
  have h8 : 2 ^ (blen n - 1) * 2 ^ (K + 1) ≤ n * 2 ^ (K + 1) := Nat.mul_le_mul_right _ h5
  omega
 obtain ⟨r, k1, k2, k3⟩ := divide_loop hn hq (K + 1) a t m 0 ha ⟨_, h2, fun _ => by rw [Nat.add_sub_cancel]⟩ (by omega) (by omega) (by omega) hp (by simp)
 refine ⟨r, ?_, k2, k3⟩
 unfold note_divide.f
 rw [bits_ev ha (by omega), bits_ev hb (by omega)]
 simp only [Option.bind_some]
 rw [w64 (x := (blen m : Int) - (blen n : Int)) (by omega) (by omega), mx_sub, ← hK]
 have e1 : ((K + 1 : Nat) : Int) - 1 = (K : Int) := by omega
 rw [e1] at k1
 exact Ev.bind h1 k1
theorem mul_limb (a y o c : Int) (ha0 : 0 ≤ a) (ha : a < 4294967296) (hy0 : 0 ≤ y) (hy : y < 4294967296) (ho0 : 0 ≤ o) (ho : o < 4294967296) (hc0 : 0 ≤ c) (hc : c < 4294967296) :
  IntKind.u64.wrap (c + IntKind.u64.wrap (IntKind.u64.wrap o + IntKind.u64.wrap (IntKind.u64.wrap a * IntKind.u64.wrap y))) = c + o + a * y ∧ 0 ≤ c + o + a * y ∧ (c + o + a * y) / 4294967296 < 4294967296 ∧ 0 ≤ (c + o + a * y) / 4294967296 := by
 have h1 : 0 ≤ a * y := Int.mul_nonneg ha0 hy0
 have h2 : a * y ≤ 4294967295 * 4294967295 := Int.mul_le_mul (by omega) (by omega) hy0 (by omega)
 rw [wu64 ho0 (by omega), wu64 ha0 (by omega), wu64 hy0 (by omega)]
 generalize a * y = p at *
 rw [wu64 h1 (by omega), wu64 (x := o + p) (by omega) (by omega), wu64 (by omega) (by omega)]
 omega
theorem mul_val (V1 V Y a y c o u I J : Int) (h : V1 + c * (I * J) = V * Y + a * I * u) (t : Int) (ht : t = c + o + a * y) :
  V1 + (t % 4294967296 - o) * (I * J) + t / 4294967296 * (I * (J * 4294967296)) = V * Y + a * I * (u + y * J) := by
 have e6 : t % 4294967296 = t - 4294967296 * (t / 4294967296) := by omega
 rw [e6, ht]
 generalize (c + o + a * y) / 4294967296 = q
 grind
theorem times_ev {x y : List Int} {m n : Nat} (hx : Wf P32 x) (hy : Wf P32 y) (hm : val P32 x = m) (hn : val P32 y = n) (hl : x.length + y.length ≤ 1099511627776) :
  ∃ r, Ev (fun k => note_whole_times.f k x y) r ∧ Rep P32 r (m * n) ∧ r.length ≤ x.length + y.length := by
 have key : ∀ d i (out : List Int), i + d = x.length → out.length = x.length + y.length → Wf P32 out → val P32 out = val P32 (x.take i) * val P32 y → out.drop (i + y.length) = List.replicate d 0 →
   ∃ r, Ev (fun k => note_whole_times.l0 k y out x (x.length : Int) (i : Int)) r ∧ Rep P32 r (m * n) ∧ r.length ≤ x.length + y.length := by
  intro d
  induction d with
  | zero =>
   intro i out hi ho hw hv _
   obtain rfl : i = x.length := by omega
   rw [List.take_length, hm, hn] at hv
   obtain ⟨r, h1, h2, h3⟩ := cut_ev out (by omega) hw (m * n) (by rw [hv]; push_cast; rfl)
   exact ⟨r, Ev.succ (fun k => by rw [note_whole_times.l0]) (Ev.no (by omega) (Ev.ret h1)), h2, by omega⟩
  | succ d ih =>
   intro i out hi ho hw hv hz
   have hix : i < x.length := by omega
   have ha := hx.get hix
   have ha2 : x[i] < 4294967296 := ha.2
   have hra : rd x (i : Int) = x[i] := rd_get x i hix
   have inner : ∀ e j (out : List Int) (c : Int), j + e = y.length → out.length = x.length + y.length → Wf P32 out → 0 ≤ c → c < 4294967296 → val P32 out + c * (P32 ^ i * P32 ^ j) = val P32 (x.take i) * val P32 y + x[i] * P32 ^ i * val P32 (y.take j) → out.drop (i + y.length) = List.replicate (d + 1) 0 →
     ∃ r, Ev (fun k => note_whole_times.l1 k y out (i : Int) x[i] c x (x.length : Int) (i : Int) y (y.length : Int) (j : Int)) r ∧ Rep P32 r (m * n) ∧ r.length ≤ x.length + y.length := by
    intro e
    induction e with
    | zero =>
     intro j out c hj ho hw hc0 hc hv hz
     obtain rfl : j = y.length := by omega
     obtain ⟨hi1, hz0, hz1⟩ := getElem_drop_zero hz
     have e1 : (i : Int) + (y.length : Int) = ((i + y.length : Nat) : Int) := by omega
     have e3 : ((i : Int) + 1) = ((i + 1 : Nat) : Int) := by omega
     have hcm : c % 4294967296 = c := by omega
     obtain ⟨r, h1, h2, h3⟩ := ih (i + 1) (out.set (i + y.length) c) (by omega) (by simpa using ho) (hw.set _ hc0 hc)
      (by
       rw [val_set _ _ hi1, hz0, val_take_succ x i hix, Int.pow_add, Int.sub_zero, hv, List.take_length]
       generalize P32 ^ i = I
       generalize val P32 (x.take i) = V
       grind)
      (by
       have e : i + 1 + y.length = i + y.length + 1 := by omega
       rw [e, drop_set_past (by omega)]
       exact hz1)
     refine ⟨r, Ev.succ (fun k => ?_) h1, h2, h3⟩
     rw [note_whole_times.l1]
     rw [e1, w64 (x := ((i + y.length : Nat) : Int)) (by omega) (by omega), Int.toNat_natCast, hcm, e3, w64 (x := ((i + 1 : Nat) : Int)) (by omega) (by omega)]
     rw [if_neg (by omega), if_pos (by omega), if_pos (by omega)]
    | succ e ihe =>
     intro j out c hj ho hw hc0 hc hv hz
     have hjy : j < y.length := by omega
     have hyj := hy.get hjy
     have hyj2 : y[j] < 4294967296 := hyj.2
     have hij : i + j < out.length := by omega
     have hoj := hw.get hij
     have hoj2 : out[i + j] < 4294967296 := hoj.2
     have e1 : (i : Int) + (j : Int) = ((i + j : Nat) : Int) := by omega
     have e3 : ((j : Int) + 1) = ((j + 1 : Nat) : Int) := by omega
     obtain ⟨t1, t2, t3, t4⟩ := mul_limb x[i] y[j] out[i + j] c ha.1 ha2 hyj.1 hyj2 hoj.1 hoj2 hc0 hc
     obtain ⟨t, ht⟩ : ∃ t, t = c + out[i + j] + x[i] * y[j] := ⟨_, rfl⟩
     rw [← ht] at t1 t2 t3 t4
     obtain ⟨r, h1, h2, h3⟩ := ihe (j + 1) (out.set (i + j) (t % 4294967296)) (t / 4294967296) (by omega) (by simpa using ho) (hw.set _ (mod32_wf t).1 (mod32_wf t).2) t4 t3
      (by
       rw [val_set _ _ hij, val_take_succ y j hjy, Int.pow_add, Int.pow_succ]
       exact mul_val _ _ _ _ _ _ _ _ _ _ hv t ht)
      (by rw [drop_set_past (by omega)]; exact hz)
     refine ⟨r, Ev.succ (fun k => ?_) h1, h2, h3⟩
     rw [note_whole_times.l1]
     rw [e1, w64 (x := ((i + j : Nat) : Int)) (by omega) (by omega), Int.toNat_natCast, rd_get out (i + j) hij, rd_get y j hjy, t1, e3, w64 (x := ((j + 1 : Nat) : Int)) (by omega) (by omega)]
     rw [if_pos (by omega), if_pos (by omega), if_pos (by omega), if_pos (by omega), if_pos (by omega)]
   obtain ⟨r, h1, h2, h3⟩ := inner y.length 0 out 0 (by omega) ho hw (by omega) (by omega) (by rw [hv]; simp [val]) hz
   refine ⟨r, Ev.succ (fun k => ?_) h1, h2, h3⟩
   rw [note_whole_times.l0]
   rw [hra, if_pos (by omega), if_pos (by omega), if_pos (by omega)]
   rfl
 obtain ⟨r, h1, h2, h3⟩ := key x.length 0 (List.replicate (x.length + y.length) 0) (by omega) (by simp) (Wf.zeros _ p0) (by rw [val_zeros]; simp [val]) (by simp)
 refine ⟨r, ?_, h2, h3⟩
 unfold note_whole_times.f
 have e1 : ((x.length : Int) + (y.length : Int)) = ((x.length + y.length : Nat) : Int) := by omega
 rw [e1, w64 (x := ((x.length + y.length : Nat) : Int)) (by omega) (by omega), Int.toNat_natCast]
 exact Ev.yes (by omega) (Ev.yes (by omega) h1)
theorem times_rep {x y : List Int} {m n : Nat} (hx : Rep P32 x m) (hy : Rep P32 y n) (hl : x.length + y.length ≤ 1099511627776) :
  ∃ r, Ev (fun k => note_whole_times.f k x y) r ∧ Rep P32 r (m * n) ∧ r.length ≤ x.length + y.length := times_ev hx.wf hy.wf hx.val hy.val hl
theorem power_ev (n : Nat) (hn : n ≤ 1000000000) : ∃ r, Ev (fun k => note_power.f k (n : Int)) r ∧ Rep P32 r (10 ^ n) ∧ r.length ≤ n + 2 := by
 have ones : ∀ (n m : Nat) (x : List Int), Rep P32 x m → x.length + n ≤ 1000000002 → ∃ r, Ev (fun k => note_power.l1 k (n : Int) x) r ∧ Rep P32 r (m * 10 ^ n) ∧ r.length ≤ x.length + n := by
  intro n
  induction n with
  | zero => exact fun m x hx _ => ⟨x, Ev.succ (fun k => by rw [note_power.l1]) (Ev.no (by omega) (Ev.const _)), by simpa using hx, by omega⟩
  | succ n ih =>
   intro m x hx hl
   obtain ⟨y, h1, h2, h3⟩ := times_ev (y := [10]) (n := 10) hx.wf (Wf.cons (by decide) (by decide) Wf.nil) hx.val (by decide) (by simp; omega)
   obtain ⟨r, k1, k2, k3⟩ := ih _ y h2 (by simp at h3; omega)
   refine ⟨r, Ev.succ (fun k => by rw [note_power.l1]) (Ev.yes (by omega) (Ev.bind h1 ?_)), ?_, by simp at h3; omega⟩
   ·rw [w64 (by omega) (by omega)]
    have : ((n + 1 : Nat) : Int) - 1 = (n : Int) := by omega
    rw [this]
    exact k1
   ·rw [Nat.pow_succ]
    have : m * (10 ^ n * 10) = m * 10 * 10 ^ n := by grind
    rw [this]
    exact k2
 have nines : ∀ (d n m : Nat) (x : List Int), n ≤ d → Rep P32 x m → x.length + n ≤ 1000000002 → ∃ r, Ev (fun k => note_power.l0 k (n : Int) x) r ∧ Rep P32 r (m * 10 ^ n) ∧ r.length ≤ x.length + n := by
  intro d
  induction d with
  | zero =>
   intro n m x hd hx hl
   obtain ⟨r, h1, h2, h3⟩ := ones n m x hx hl
   exact ⟨r, Ev.succ (fun k => by rw [note_power.l0]) (Ev.no (by omega) h1), h2, h3⟩
  | succ d ih =>
   intro n m x hd hx hl
   by_cases h9 : 9 ≤ n
   ·obtain ⟨y, h1, h2, h3⟩ := times_ev (y := [1000000000]) (n := 1000000000) hx.wf (Wf.cons (by decide) (by decide) Wf.nil) hx.val (by decide) (by simp; omega)
    obtain ⟨r, k1, k2, k3⟩ := ih (n - 9) _ y (by omega) h2 (by simp at h3; omega)
    refine ⟨r, Ev.succ (fun k => by rw [note_power.l0]) (Ev.yes (by omega) (Ev.bind h1 ?_)), ?_, by simp at h3; omega⟩
    ·rw [w64 (by omega) (by omega)]
     have : (n : Int) - 9 = ((n - 9 : Nat) : Int) := by omega
     rw [this]
     exact k1
    ·obtain ⟨j, rfl⟩ : ∃ j, n = j + 9 := ⟨n - 9, by omega⟩
     rw [Nat.add_sub_cancel] at k2
     have : m * 10 ^ (j + 9) = m * 1000000000 * 10 ^ j := by rw [Nat.pow_add]; grind
     rw [this]
     exact k2
   ·obtain ⟨r, h1, h2, h3⟩ := ones n m x hx hl
    exact ⟨r, Ev.succ (fun k => by rw [note_power.l0]) (Ev.no (by omega) h1), h2, h3⟩
 obtain ⟨x, h1, h2, h3⟩ := wholeOf_ev 1 (by omega)
 obtain ⟨r, k1, k2, k3⟩ := nines n n 1 x (Nat.le_refl _) h2 (by omega)
 refine ⟨r, ?_, by simpa using k2, by omega⟩
 unfold note_power.f
 exact Ev.bind h1 k1
/-- s times ten to the e, as a fraction. -/
theorem scaled_ev {l : List Int} {m : Nat} (h : Rep P32 l m) (e : Int) (he1 : -1000000 ≤ e) (he2 : e ≤ 1000000) (hl : l.length ≤ 1000000) :
  ∃ a b, Ev (fun k => note_scaled.f k l e) (a, b) ∧ Rep P32 a (m * 10 ^ e.toNat) ∧ Rep P32 b (10 ^ (-e).toNat) ∧ a.length ≤ l.length + e.natAbs + 2 ∧ b.length ≤ l.length + e.natAbs + 2 := by
 unfold note_scaled.f
 by_cases h0 : e ≥ 0
 ·obtain ⟨n, rfl⟩ := Int.eq_ofNat_of_zero_le h0
  obtain ⟨p, h1, h2, h3⟩ := power_ev n (by omega)
  obtain ⟨a, k1, k2, k3⟩ := times_rep h h2 (by omega)
  obtain ⟨b, j1, j2, j3⟩ := wholeOf_ev 1 (by omega)
  refine ⟨a, b, Ev.yes h0 (Ev.bind h1 (Ev.bind k1 (Ev.bind j1 (Ev.const _)))), by simpa using k2, ?_, by omega, by omega⟩
  have : (-(n : Int)).toNat = 0 := by omega
  rw [this]
  exact j2
 ·obtain ⟨n, hn⟩ := Int.eq_ofNat_of_zero_le (show 0 ≤ -e by omega)
  obtain ⟨p, h1, h2, h3⟩ := power_ev n (by omega)
  have e1 : wrap64 (-e) = (n : Int) := by rw [w64 (by omega) (by omega)]; exact hn
  refine ⟨l, p, Ev.no h0 ?_, ?_, ?_, by omega, by omega⟩
  ·rw [e1]
   exact Ev.bind h1 (Ev.const _)
  ·have : e.toNat = 0 := by omega
   rw [this]
   simpa using h
  ·rw [hn, Int.toNat_natCast]
   exact h2
end Go.Proofs.Ytlhciggmllddkaa.Pl
end
section
namespace Go.Proofs.Ytlhciggmllddkaa.Pl
open Go Go.RowKit Go.Proofs.YtlhciggmllddkaaW.PrintWords
set_option linter.unusedVariables false
set_option linter.unusedSimpArgs false
/-- M of at most 53 bits at the rung r: the float64 of M * 2 ^ (r - 1074). -/
structure Can (M r : Nat) : Prop where
 lt : M < 9007199254740992
 ge : r = 0 ∨ 4503599627370496 ≤ M
abbrev bitsOf (M r : Nat) : Nat := r * 4503599627370496 + M
theorem can_of (x : Nat) : ∃ M r, Can M r ∧ x = bitsOf M r := by
 by_cases h : x < 4503599627370496
 ·exact ⟨x, 0, ⟨by omega, .inl rfl⟩, by simp [bitsOf]⟩
 ·exact ⟨4503599627370496 + x % 4503599627370496, x / 4503599627370496 - 1, ⟨by omega, .inr (by omega)⟩, by unfold bitsOf; omega⟩
theorem d_place : Ieee.double.leastPlace = -1074 := by decide
theorem d_binade : Ieee.double.binade = 4503599627370496 := by decide
theorem d_inf : Ieee.double.infRung = 9218868437227405312 := by decide
theorem d_sign : Ieee.double.signWeight = 9223372036854775808 := by decide
theorem d_frac : Ieee.double.fractionBits = 52 := rfl
theorem read_pos {M r : Nat} (h : Can M r) (hb : bitsOf M r < 9218868437227405312) : Ieee.double.read (bitsOf M r) = .number false M (-1074 + r) := by
 obtain ⟨h1, h2⟩ := h
 unfold Ieee.Format.read
 rw [d_sign, d_binade, d_inf, d_place]
 unfold bitsOf at *
 have e1 : (r * 4503599627370496 + M) / 9223372036854775808 = 0 := by omega
 have e2 : (r * 4503599627370496 + M) % 9223372036854775808 = r * 4503599627370496 + M := by omega
 simp only [e1, e2]
 rw [show ((0 : Nat) % 2 == 1) = false from rfl]
 by_cases h3 : r * 4503599627370496 + M < 4503599627370496
 ·obtain rfl : r = 0 := by omega
  rw [if_pos h3, Nat.zero_mul, Nat.zero_add]
  rfl
 ·rw [if_neg h3, if_pos hb]
  have e3 : (r * 4503599627370496 + M) % 4503599627370496 = M - 4503599627370496 := by omega
  have e4 : (r * 4503599627370496 + M) / 4503599627370496 - 1 = r := by omega
  have e5 : 4503599627370496 + (M - 4503599627370496) = M := by omega
  rw [e3, e4, e5]
theorem read_neg {M r : Nat} (h : Can M r) (hb : bitsOf M r < 9218868437227405312) : Ieee.double.read (9223372036854775808 + bitsOf M r) = .number true M (-1074 + r) := by
 obtain ⟨h1, h2⟩ := h
 unfold Ieee.Format.read
 rw [d_sign, d_binade, d_inf, d_place]
 unfold bitsOf at *
 have e1 : (9223372036854775808 + (r * 4503599627370496 + M)) / 9223372036854775808 = 1 := by omega
 have e2 : (9223372036854775808 + (r * 4503599627370496 + M)) % 9223372036854775808 = r * 4503599627370496 + M := by omega
 simp only [e1, e2]
 rw [show ((1 : Nat) % 2 == 1) = true from rfl]
 by_cases h3 : r * 4503599627370496 + M < 4503599627370496
 ·obtain rfl : r = 0 := by omega
  rw [if_pos h3, Nat.zero_mul, Nat.zero_add]
  rfl
 ·rw [if_neg h3, if_pos hb]
  have e3 : (r * 4503599627370496 + M) % 4503599627370496 = M - 4503599627370496 := by omega
  have e4 : (r * 4503599627370496 + M) / 4503599627370496 - 1 = r := by omega
  have e5 : 4503599627370496 + (M - 4503599627370496) = M := by omega
  rw [e3, e4, e5]
theorem read_inf (neg : Bool) : Ieee.double.read (if neg then 18442240474082181120 else 9218868437227405312) = .infinity neg := by
 cases neg <;> decide
theorem read_nan {x : Nat} (h : 9218868437227405312 < x) (h2 : x < 9223372036854775808) : ∃ t, Ieee.double.read x = .nan false t := by
 unfold Ieee.Format.read
 rw [d_sign, d_binade, d_inf, d_place]
 have e1 : x / 9223372036854775808 = 0 := by omega
 have e2 : x % 9223372036854775808 = x := by omega
 simp only [e1, e2]
 rw [if_neg (by omega), if_neg (by omega), if_neg (by omega)]
 exact ⟨_, rfl⟩
theorem read_nan_neg {x : Nat} (h : 18442240474082181120 < x) (h2 : x < 18446744073709551616) : ∃ t, Ieee.double.read x = .nan true t := by
 unfold Ieee.Format.read
 rw [d_sign, d_binade, d_inf, d_place]
 have e1 : x / 9223372036854775808 = 1 := by omega
 have e2 : x % 9223372036854775808 = x - 9223372036854775808 := by omega
 simp only [e1, e2]
 rw [if_neg (by omega), if_neg (by omega), if_neg (by omega)]
 exact ⟨_, rfl⟩
theorem log2_mul_pow {M : Nat} (h : 0 < M) (s : Nat) : (M * 2 ^ s).log2 = M.log2 + s := by
 have h0 : M * 2 ^ s ≠ 0 := Nat.ne_of_gt (Nat.mul_pos h (Nat.two_pow_pos s))
 have h1 : 2 ^ M.log2 ≤ M := Nat.log2_self_le (by omega)
 have h2 : M < 2 ^ (M.log2 + 1) := Nat.lt_log2_self
 refine (Nat.log2_eq_iff h0).2 ⟨?_, ?_⟩
 ·rw [Nat.pow_add]
  exact Nat.mul_le_mul_right _ h1
 ·rw [show M.log2 + s + 1 = (M.log2 + 1) + s by omega, Nat.pow_add]
  exact Nat.mul_lt_mul_of_pos_right h2 (Nat.two_pow_pos s)
theorem Can.log {M r : Nat} (h : Can M r) (hM : 0 < M) : M.log2 ≤ 52 ∧ (r = 0 ∨ M.log2 = 52) := by
 have h1 := h.lt
 have h2 : M.log2 < 53 := (Nat.log2_lt (by omega)).2 (by omega)
 refine ⟨by omega, ?_⟩
 rcases h.ge with h3 | h3
 ·exact .inl h3
 ·have h4 : 52 ≤ M.log2 := (Nat.le_log2 (by omega)).2 (by omega)
  exact .inr (by omega)
theorem cut_zero (neg : Bool) (n : Nat) : Ieee.Toward.even.cut neg n 0 = n := by
 unfold Ieee.Toward.cut
 simp [Nat.mod_one]
theorem cut_pow (neg : Bool) {M : Nat} (hM : 0 < M) (s : Nat) : Ieee.Toward.even.cut neg (M * 2 ^ s) s = M := by
 unfold Ieee.Toward.cut
 rw [log2_mul_pow hM, show min s (M.log2 + s + 2) = s by omega]
 simp only [Nat.one_shiftLeft]
 rw [Nat.mul_div_cancel _ (Nat.two_pow_pos s), Nat.mul_mod_left]
 have h2 : ¬ (2 ^ s = 0) := by have := Nat.two_pow_pos s; omega
 simp
/-- The word of an exact number, written with more digits. -/
theorem nearest_fine (neg : Bool) {M r : Nat} (h : Can M r) (hM : 0 < M) (s : Nat) : Ieee.double.nearest neg (M * 2 ^ s) (-1074 + r - s) = Ieee.double.word neg (min (bitsOf M r) 9218868437227405312) := by
 obtain ⟨h1, h2⟩ := h.log hM
 have h0 : M * 2 ^ s ≠ 0 := Nat.ne_of_gt (Nat.mul_pos hM (Nat.two_pow_pos s))
 unfold Ieee.Format.nearest
 rw [if_neg h0, d_place, d_binade, d_inf, log2_mul_pow hM, d_frac]
 have e1 : max (-1074 + (r : Int) - (s : Int) + ((M.log2 + s : Nat) : Int) - ((52 : Nat) : Int)) (-1074) = -1074 + (r : Int) := by omega
 dsimp only
 rw [e1]
 have e2 : (-1074 + (r : Int) - (s : Int) - (-1074 + (r : Int))).toNat = 0 := by omega
 have e3 : (-1074 + (r : Int) - (-1074 + (r : Int) - (s : Int))).toNat = s := by omega
 have e4 : (-1074 + (r : Int) - (-1074)).toNat = r := by omega
 rw [e2, e3, e4, Nat.shiftLeft_zero, cut_pow _ hM]
/-- The word of an exact number, written with fewer digits. -/
theorem nearest_rough (neg : Bool) {M r t : Nat} (h : Can (M * 2 ^ t) r) (hM : 0 < M) : Ieee.double.nearest neg M (-1074 + r + t) = Ieee.double.word neg (min (bitsOf (M * 2 ^ t) r) 9218868437227405312) := by
 obtain ⟨h1, h2⟩ := h.log (Nat.mul_pos hM (Nat.two_pow_pos t))
 rw [log2_mul_pow hM] at h1 h2
 unfold Ieee.Format.nearest
 rw [if_neg (by omega), d_place, d_binade, d_inf, d_frac]
 have e1 : max (-1074 + (r : Int) + (t : Int) + (M.log2 : Int) - ((52 : Nat) : Int)) (-1074) = -1074 + (r : Int) := by omega
 dsimp only
 rw [e1]
 have e2 : (-1074 + (r : Int) + (t : Int) - (-1074 + (r : Int))).toNat = t := by omega
 have e3 : (-1074 + (r : Int) - (-1074 + (r : Int) + (t : Int))).toNat = 0 := by omega
 have e4 : (-1074 + (r : Int) - (-1074)).toNat = r := by omega
 rw [e2, e3, e4, cut_zero, Nat.shiftLeft_eq]
theorem word_pos (n : Nat) : Ieee.double.word false n = n := rfl
theorem word_neg (n : Nat) : Ieee.double.word true n = 9223372036854775808 + n := by
 show Ieee.double.signWeight + n = _
 rw [d_sign]
theorem signed_false (m u : Nat) : Ieee.signed false m u = ((m * 2 ^ u : Nat) : Int) := by
 unfold Ieee.signed
 simp [Nat.shiftLeft_eq]
theorem signed_true (m u : Nat) : Ieee.signed true m u = -((m * 2 ^ u : Nat) : Int) := by
 unfold Ieee.signed
 simp [Nat.shiftLeft_eq]
theorem fval_lt {M r N s : Nat} (h : Can M r) (h' : Can N s) (hx : bitsOf M r < bitsOf N s) (b : Nat) (hb : b ≤ r) (hb' : b ≤ s) : M * 2 ^ (r - b) < N * 2 ^ (s - b) := by
 obtain ⟨h1, h2⟩ := h
 obtain ⟨h3, h4⟩ := h'
 unfold bitsOf at hx
 rcases Nat.lt_or_ge r s with hrs | hrs
 ·have e1 : s - b = (s - b - 1 - (r - b)) + 1 + (r - b) := by omega
  rw [e1, Nat.pow_add, ← Nat.mul_assoc]
  refine Nat.mul_lt_mul_of_pos_right ?_ (Nat.two_pow_pos _)
  have h5 : 4503599627370496 ≤ N := by omega
  rw [Nat.pow_succ]
  have h6 := Nat.two_pow_pos (s - b - 1 - (r - b))
  calc M < 4503599627370496 * 2 := by omega
   _ ≤ N * (2 ^ (s - b - 1 - (r - b)) * 2) := by
    rw [← Nat.mul_assoc]
    refine Nat.mul_le_mul_right _ ?_
    exact Nat.le_trans h5 (Nat.le_mul_of_pos_right _ h6)
 ·obtain rfl : r = s := by omega
  exact Nat.mul_lt_mul_of_pos_right (by omega) (Nat.two_pow_pos _)
theorem order_pos {x y : Nat} (hx : x < 9218868437227405312) (hy : y < 9218868437227405312) : Ieee.double.order x y = some (compare x y) := by
 obtain ⟨M, r, h, rfl⟩ := can_of x
 obtain ⟨N, s, h', rfl⟩ := can_of y
 unfold Ieee.Format.order
 rw [read_pos h hx, read_pos h' hy]
 show some (compare (Ieee.signed false M _) (Ieee.signed false N _)) = _
 have e1 : (-1074 + (r : Int) - min (-1074 + (r : Int)) (-1074 + (s : Int))).toNat = r - min r s := by omega
 have e2 : (-1074 + (s : Int) - min (-1074 + (r : Int)) (-1074 + (s : Int))).toNat = s - min r s := by omega
 rw [e1, e2, signed_false, signed_false]
 rcases Nat.lt_trichotomy (bitsOf M r) (bitsOf N s) with hl | hl | hl
 ·have h1 := fval_lt h h' hl (min r s) (Nat.min_le_left _ _) (Nat.min_le_right _ _)
  rw [Nat.compare_eq_lt.2 hl]
  exact congrArg some (Int.compare_eq_lt.2 (by omega))
 ·have e3 : r = s ∧ M = N := by
   obtain ⟨h1, h2⟩ := h
   obtain ⟨h3, h4⟩ := h'
   unfold bitsOf at hl
   omega
  obtain ⟨rfl, rfl⟩ := e3
  rw [Nat.compare_eq_eq.2 rfl]
  exact congrArg some (Int.compare_eq_eq.2 rfl)
 ·have h1 := fval_lt h' h hl (min r s) (Nat.min_le_right _ _) (Nat.min_le_left _ _)
  rw [Nat.compare_eq_gt.2 hl]
  exact congrArg some (Int.compare_eq_gt.2 (by omega))
theorem flt_pos {x y : Nat} (hx : x < 9218868437227405312) (hy : y < 9218868437227405312) : flt x y = decide (x < y) := by
 unfold flt
 show (Ieee.double.order x y == some .lt) = _
 rw [order_pos hx hy]
 rcases Nat.lt_trichotomy x y with h | h | h
 ·rw [Nat.compare_eq_lt.2 h]; simp [h]
 ·subst h; rw [Nat.compare_eq_eq.2 rfl]; simp
 ·rw [Nat.compare_eq_gt.2 h]; simp; omega
theorem fgt_pos {x y : Nat} (hx : x < 9218868437227405312) (hy : y < 9218868437227405312) : fgt x y = decide (y < x) := by
 unfold fgt
 show (Ieee.double.order x y == some .gt) = _
 rw [order_pos hx hy]
 rcases Nat.lt_trichotomy x y with h | h | h
 ·rw [Nat.compare_eq_lt.2 h]; simp; omega
 ·subst h; rw [Nat.compare_eq_eq.2 rfl]; simp
 ·rw [Nat.compare_eq_gt.2 h]; simp [h]
theorem feq_pos {x y : Nat} (hx : x < 9218868437227405312) (hy : y < 9218868437227405312) : feq x y = decide (x = y) := by
 unfold feq
 show (Ieee.double.order x y == some .eq) = _
 rw [order_pos hx hy]
 rcases Nat.lt_trichotomy x y with h | h | h
 ·rw [Nat.compare_eq_lt.2 h]; simp; omega
 ·subst h; rw [Nat.compare_eq_eq.2 rfl]; simp
 ·rw [Nat.compare_eq_gt.2 h]; simp; omega
theorem fge_pos {x y : Nat} (hx : x < 9218868437227405312) (hy : y < 9218868437227405312) : fge x y = decide (y ≤ x) := by
 unfold fge
 show (Ieee.double.order x y == some .gt || Ieee.double.order x y == some .eq) = _
 rw [order_pos hx hy]
 rcases Nat.lt_trichotomy x y with h | h | h
 ·rw [Nat.compare_eq_lt.2 h]; simp; omega
 ·subst h; rw [Nat.compare_eq_eq.2 rfl]; simp
 ·rw [Nat.compare_eq_gt.2 h]; simp; omega
theorem isInf_pos {x : Nat} (hx : x < 9218868437227405312) : fgt x 9218868437227405311 = false := by
 rw [fgt_pos hx (by omega)]
 simp
 omega
theorem mul_read {x y m n : Nat} {i j : Int} (hx : Ieee.double.read x = .number false m i) (hy : Ieee.double.read y = .number false n j) : Ieee.double.mul x y = some (Ieee.double.nearest false (m * n) (i + j)) := by
 unfold Ieee.Format.mul
 rw [hx, hy]
 rfl
theorem two_read : Ieee.double.read 4611686018427387904 = .number false 4503599627370496 (-51) := by decide
theorem mul_two {M r R N : Nat} (h : Can M r) (hM : 0 < M) (hx : bitsOf M r < 9218868437227405312) (h' : Can N R) (hN : bitsOf N R < 9218868437227405312) (hv : (R = r + 1 ∧ N = M) ∨ (R = r ∧ N = M * 2)) : Ieee.double.mul (bitsOf M r) 4611686018427387904 = some (bitsOf N R) := by
 rw [mul_read (read_pos h hx) two_read]
 have e0 : M * 4503599627370496 = M * 2 ^ 52 := by rw [show (2 : Nat) ^ 52 = 4503599627370496 from by decide]
 rcases hv with ⟨h1, h2⟩ | ⟨h1, h2⟩
 ·subst h1 h2
  have e1 : (-1074 + (r : Int) + -51) = -1074 + ((r + 1 : Nat) : Int) - ((52 : Nat) : Int) := by omega
  rw [e0, e1, nearest_fine false h' hM 52, word_pos, Nat.min_eq_left (Nat.le_of_lt hN)]
 ·subst h1 h2
  have e1 : (-1074 + (R : Int) + -51) = -1074 + (R : Int) - ((51 : Nat) : Int) := by omega
  have e2 : M * 2 ^ 52 = (M * 2) * 2 ^ 51 := by rw [Nat.mul_assoc, ← Nat.pow_succ']
  rw [e0, e1, e2, nearest_fine false h' (by omega) 51, word_pos, Nat.min_eq_left (Nat.le_of_lt hN)]
theorem quo_two {M r N R : Nat} (h : Can M r) (hM : 0 < M) (hx : bitsOf M r < 9218868437227405312) (h' : Can N R) (hv : (r = R + 1 ∧ N = M) ∨ (R = r ∧ M = N * 2)) : Ieee.double.div (bitsOf M r) 4611686018427387904 = some (bitsOf N R) := by
 have hN : 0 < N := by omega
 have hNb : bitsOf N R < 9218868437227405312 := by
  refine Nat.lt_of_le_of_lt ?_ hx
  unfold bitsOf
  rcases hv with ⟨h1, h2⟩ | ⟨h1, h2⟩ <;> rw [h1, h2]
  ·exact Nat.add_le_add_right (Nat.mul_le_mul_right _ (Nat.le_succ _)) _
  ·exact Nat.add_le_add_left (by omega) _
 unfold Ieee.Format.div
 rw [read_pos h hx, two_read]
 unfold Ieee.Datum.quotient
 dsimp only
 rw [if_neg (by omega)]
 have hl := (h.log hM).1
 have e0 : Nat.log2 4503599627370496 = 52 := by decide
 rw [e0, d_frac]
 obtain ⟨t, ht⟩ : ∃ t, 52 + 2 + 52 - M.log2 = 52 + t := ⟨54 - M.log2, by omega⟩
 rw [ht]
 have e1 : M <<< (52 + t) = M * 2 ^ t * 4503599627370496 := by
  rw [Nat.shiftLeft_eq, Nat.pow_add, show (2 : Nat) ^ 52 = 4503599627370496 from by decide, Nat.mul_assoc, Nat.mul_comm (2 ^ t)]
 rw [e1, Nat.mul_div_cancel _ (by omega), Nat.mul_mod_left]
 show some (Ieee.double.nearest false (2 * (M * 2 ^ t) + 0) _) = _
 rcases hv with ⟨h1, h2⟩ | ⟨h1, h2⟩
 ·subst h1 h2
  have e2 : -1074 + ((R + 1 : Nat) : Int) - -51 - ((52 + t : Nat) : Int) - 1 = -1074 + (R : Int) - ((t + 1 : Nat) : Int) := by omega
  have e3 : 2 * (N * 2 ^ t) + 0 = N * 2 ^ (t + 1) := by rw [Nat.pow_succ]; grind
  rw [e2, e3, nearest_fine false h' hN, word_pos, Nat.min_eq_left (Nat.le_of_lt hNb)]
 ·subst h1 h2
  have e2 : -1074 + (R : Int) - -51 - ((52 + t : Nat) : Int) - 1 = -1074 + (R : Int) - ((t + 2 : Nat) : Int) := by omega
  have e3 : 2 * (N * 2 * 2 ^ t) + 0 = N * 2 ^ (t + 2) := by rw [Nat.pow_add]; grind
  rw [e2, e3, nearest_fine false h' hN, word_pos, Nat.min_eq_left (Nat.le_of_lt hNb)]
theorem fok_some {op : BinOp} {x y r : Nat} (h : floatBits op .f64 x y = some r) : fok op x y = true ∧ fop op x y = r := by
 unfold fok fop
 rw [h]
 exact ⟨rfl, rfl⟩
/-- A whole number below 2^53 as a float64. -/
theorem ofInt_can {m t : Nat} (hm : 0 < m) (ht : m * 2 ^ t < 9007199254740992) (ht2 : 4503599627370496 ≤ m * 2 ^ t) (h52 : t ≤ 52) : floatOfInt .f64 (m : Int) = bitsOf (m * 2 ^ t) (1074 - t) := by
 show Ieee.double.nearest (decide ((m : Int) < 0)) (m : Int).natAbs 0 = _
 have e1 : decide ((m : Int) < 0) = false := by simp
 have e2 : (0 : Int) = -1074 + ((1074 - t : Nat) : Int) + (t : Int) := by omega
 rw [e1, Int.natAbs_natCast, e2, nearest_rough false ⟨ht, .inr ht2⟩ hm, word_pos, Nat.min_eq_left]
 unfold bitsOf
 omega
end Go.Proofs.Ytlhciggmllddkaa.Pl
end
section
namespace Go.Proofs.Ytlhciggmllddkaa.Pl
open Go Go.RowKit Go.Proofs.YtlhciggmllddkaaW.PrintWords
set_option linter.unusedVariables false
set_option linter.unusedSimpArgs false
def pow2 (n : Nat) : Nat := 2 ^ n
theorem pow2_pos (n : Nat) : 0 < pow2 n := Nat.two_pow_pos n
theorem pow2_split {j i n : Nat} (h : j + i = n) : pow2 n = 2 ^ j * 2 ^ i := by
 unfold pow2
 rw [← h, Nat.pow_add]
theorem pow2_more {n j r : Nat} (h : r = n + j) : 2 ^ r = pow2 n * 2 ^ j := by
 unfold pow2
 rw [h, Nat.pow_add]
theorem Q_spec : ∃ q, q = pow2 1074 := ⟨_, rfl⟩
/-- 2 ^ 1074, so laid that nothing works it out. -/
noncomputable def Q : Nat := Classical.choose Q_spec
theorem Q_eq : Q = pow2 1074 := Classical.choose_spec Q_spec
theorem Q_more {j r : Nat} (h : r = 1074 + j) : 2 ^ r = Q * 2 ^ j := by
 rw [Q_eq]
 exact pow2_more h
theorem Q_at {p : Nat} (h : p = 1074) : 2 ^ p = Q := by
 rw [Q_more (r := p) (j := 0) h, Nat.pow_zero, Nat.mul_one]
theorem pow2_add (n j : Nat) : 2 ^ (n + j) = pow2 n * 2 ^ j := pow2_more rfl
theorem pow2_mul (n j : Nat) : pow2 n * pow2 j = 2 ^ (n + j) := (pow2_more rfl).symm
theorem Q_mul (n : Nat) : pow2 n * Q = 2 ^ (n + 1074) := by
 rw [Q_eq]
 exact pow2_mul n 1074
theorem Q_pos : 0 < Q := by
 rw [Q_eq]
 exact pow2_pos 1074
theorem Q_split {j i : Nat} (h : j + i = 1074) : Q = 2 ^ j * 2 ^ i := by
 rw [Q_eq]
 exact pow2_split h
/-- The nearest whole number, of two the even one. -/
def rne (a b : Nat) : Nat := if b < 2 * (a % b) ∨ (b = 2 * (a % b) ∧ a / b % 2 = 1) then a / b + 1 else a / b
theorem rne_mul (a b t : Nat) (ht : 0 < t) : rne (a * t) (b * t) = rne a b := by
 unfold rne
 have e1 : b * t < 2 * (a % b) * t ↔ b < 2 * (a % b) := Nat.mul_lt_mul_right ht
 have e2 : b * t = 2 * (a % b) * t ↔ b = 2 * (a % b) := Nat.mul_left_inj (by omega)
 rw [Nat.mul_mod_mul_right, Nat.mul_div_mul_right _ _ ht, ← Nat.mul_assoc]
 simp only [e1, e2]
theorem rne_cross {a b c d : Nat} (hb : 0 < b) (hd : 0 < d) (h : a * d = c * b) : rne a b = rne c d := by
 rw [← rne_mul a b d hd, ← rne_mul c d b hb, h, Nat.mul_comm b d]
theorem rne_le {a b N : Nat} (h : a < b * N) : rne a b ≤ N := by
 have hb : 0 < b := Nat.pos_of_ne_zero (fun e => by subst e; omega)
 have h1 : a / b < N := (Nat.div_lt_iff_lt_mul hb).2 (by rw [Nat.mul_comm]; exact h)
 unfold rne
 split <;> omega
theorem le_rne {a b N : Nat} (hb : 0 < b) (h : b * N ≤ a) : N ≤ rne a b := by
 have h1 : N ≤ a / b := (Nat.le_div_iff_mul_le hb).2 (by rw [Nat.mul_comm]; exact h)
 unfold rne
 split <;> omega
theorem rne_exact {b : Nat} (hb : 0 < b) (N : Nat) : rne (N * b) b = N := by
 unfold rne
 rw [Nat.mul_mod_left, Nat.mul_div_cancel _ hb, if_neg (by omega)]
theorem rne_mono {a b c : Nat} (hb : 0 < b) (h : a ≤ c) : rne a b ≤ rne c b := by
 have h1 := Nat.div_add_mod a b
 have h2 := Nat.div_add_mod c b
 have h3 := Nat.mod_lt a hb
 have h4 := Nat.mod_lt c hb
 have h5 := Nat.div_le_div_right (c := b) h
 rcases Nat.eq_or_lt_of_le h5 with h6 | h6
 ·unfold rne
  rw [h6] at h1 ⊢
  split <;> split <;> omega
 ·unfold rne
  split <;> split <;> omega
/-- x: the word of the float64 nearest to a / b. -/
def Rnd (a b x : Nat) : Prop := ∃ r, a * Q < b * 2 ^ (53 + r) ∧ (r = 0 ∨ b * 2 ^ (52 + r) ≤ a * Q) ∧ x = bitsOf (rne (a * Q) (b * 2 ^ r)) r
theorem Rnd.cross {a b c d x : Nat} (hb : 0 < b) (hd : 0 < d) (h : a * d = c * b) (hx : Rnd a b x) : Rnd c d x := by
 obtain ⟨r, h1, h2, h3⟩ := hx
 have e1 : c * Q * b = a * Q * d := by rw [Nat.mul_right_comm c, ← h, Nat.mul_right_comm]
 refine ⟨r, ?_, ?_, ?_⟩
 ·refine Nat.lt_of_mul_lt_mul_right (a := b) ?_
  rw [e1, Nat.mul_right_comm d, Nat.mul_comm d b, Nat.mul_right_comm b]
  exact Nat.mul_lt_mul_of_pos_right h1 hd
 ·rcases h2 with h2 | h2
  ·exact .inl h2
  ·refine .inr (Nat.le_of_mul_le_mul_right (c := b) ?_ hb)
   rw [e1, Nat.mul_right_comm d, Nat.mul_comm d b, Nat.mul_right_comm b]
   exact Nat.mul_le_mul_right _ h2
 ·have e2 : rne (a * Q) (b * 2 ^ r) = rne (c * Q) (d * 2 ^ r) := rne_cross (Nat.mul_pos hb (Nat.two_pow_pos _)) (Nat.mul_pos hd (Nat.two_pow_pos _)) (by rw [← Nat.mul_assoc, ← e1, Nat.mul_assoc (c * Q)])
  rw [h3, e2]
theorem Rnd.uniq {a b x y : Nat} (hx : Rnd a b x) (hy : Rnd a b y) : x = y := by
 obtain ⟨r, h1, h2, h3⟩ := hx
 obtain ⟨s, g1, g2, g3⟩ := hy
 have key : ∀ {r s : Nat}, a * Q < b * 2 ^ (53 + r) → (s = 0 ∨ b * 2 ^ (52 + s) ≤ a * Q) → s ≤ r := by
  intro r s h g
  rcases g with g | g
  ·omega
  ·apply Nat.le_of_not_lt
   intro hlt
   have h5 : b * 2 ^ (53 + r) ≤ b * 2 ^ (52 + s) := Nat.mul_le_mul_left _ (Nat.pow_le_pow_right (by omega) (by omega))
   omega
 have e : r = s := Nat.le_antisymm (key g1 h2) (key h1 g2)
 subst e
 rw [h3, g3]
theorem Rnd.cross_eq {a b c d x y : Nat} (hb : 0 < b) (hd : 0 < d) (h : a * d = c * b) (hx : Rnd a b x) (hy : Rnd c d y) : x = y := (hx.cross hb hd h).uniq hy
/-- A float64 is nearest to itself. -/
theorem Rnd.exact {M r b : Nat} (h : Can M r) (hb : 0 < b) {a : Nat} (ha : a * Q = M * 2 ^ r * b) : Rnd a b (bitsOf M r) := by
 have hp := Nat.two_pow_pos r
 refine ⟨r, ?_, ?_, ?_⟩
 ·rw [ha, Nat.pow_add, Nat.mul_comm b, Nat.mul_right_comm, Nat.mul_right_comm _ (2 ^ r) b]
  refine Nat.mul_lt_mul_of_pos_right (Nat.mul_lt_mul_of_pos_right ?_ hb) hp
  have := h.lt
  omega
 ·rcases h.ge with h2 | h2
  ·exact .inl h2
  ·refine .inr ?_
   rw [ha, Nat.pow_add, Nat.mul_comm b, Nat.mul_right_comm, Nat.mul_right_comm _ (2 ^ r) b]
   refine Nat.mul_le_mul_right _ (Nat.mul_le_mul_right _ ?_)
   omega
 ·rw [ha, Nat.mul_assoc, Nat.mul_comm (2 ^ r) b, rne_exact (Nat.mul_pos hb hp)]
theorem Rnd.exists {a b : Nat} (hb : 0 < b) : ∃ x, Rnd a b x := by
 have hex : ∃ r, a * Q < b * 2 ^ (53 + r) := ⟨a * Q, by
  have h1 : a * Q < 2 ^ (a * Q) := Nat.lt_two_pow_self
  have h2 : 2 ^ (a * Q) ≤ 2 ^ (53 + a * Q) := Nat.pow_le_pow_right (by omega) (by omega)
  exact Nat.lt_of_lt_of_le (Nat.lt_of_lt_of_le h1 h2) (Nat.le_mul_of_pos_left _ hb)⟩
 have key : ∀ n, a * Q < b * 2 ^ (53 + n) → ∃ r, a * Q < b * 2 ^ (53 + r) ∧ (r = 0 ∨ b * 2 ^ (52 + r) ≤ a * Q) := by
  intro n
  induction n with
  | zero => exact fun h => ⟨0, h, .inl rfl⟩
  | succ n ih =>
   intro h
   by_cases h2 : a * Q < b * 2 ^ (53 + n)
   ·exact ih h2
   ·exact ⟨n + 1, h, .inr (by rw [show 52 + (n + 1) = 53 + n by omega]; omega)⟩
 obtain ⟨n, hn⟩ := hex
 obtain ⟨r, h1, h2⟩ := key n hn
 exact ⟨_, r, h1, h2, rfl⟩
/-- The greater the fraction, the greater the float64. -/
theorem Rnd.mono {a b c d x y : Nat} (hb : 0 < b) (hd : 0 < d) (h : a * d ≤ c * b) (hx : Rnd a b x) (hy : Rnd c d y) : x ≤ y := by
 have hx' : Rnd (a * d) (b * d) x := hx.cross hb (Nat.mul_pos hb hd) (by rw [Nat.mul_assoc a, Nat.mul_comm d])
 have hy' : Rnd (c * b) (b * d) y := hy.cross hd (Nat.mul_pos hb hd) (by rw [Nat.mul_assoc c])
 generalize a * d = A at *
 generalize c * b = C at *
 have hD : 0 < b * d := Nat.mul_pos hb hd
 generalize b * d = D at *
 obtain ⟨r, h1, h2, h3⟩ := hx'
 obtain ⟨s, g1, g2, g3⟩ := hy'
 have hAC : A * Q ≤ C * Q := Nat.mul_le_mul_right _ h
 rcases Nat.lt_trichotomy r s with hrs | hrs | hrs
 ·have k1 : rne (A * Q) (D * 2 ^ r) ≤ 2 ^ 53 := rne_le (by rw [Nat.mul_assoc, ← Nat.pow_add, Nat.add_comm r]; exact h1)
  have k2 : 2 ^ 52 ≤ rne (C * Q) (D * 2 ^ s) := le_rne (Nat.mul_pos hD (Nat.two_pow_pos _)) (by rw [Nat.mul_assoc, ← Nat.pow_add, Nat.add_comm s]; rcases g2 with g2 | g2 <;> omega)
  rw [h3, g3]
  unfold bitsOf
  omega
 ·subst hrs
  rw [h3, g3]
  exact Nat.add_le_add_left (rne_mono (Nat.mul_pos hD (Nat.two_pow_pos _)) hAC) _
 ·exfalso
  rcases h2 with h2 | h2
  ·omega
  ·have h5 : D * 2 ^ (53 + s) ≤ D * 2 ^ (52 + r) := Nat.mul_le_mul_left _ (Nat.pow_le_pow_right (by omega) (by omega))
   omega
end Go.Proofs.Ytlhciggmllddkaa.Pl
end
section
namespace Go.Proofs.Ytlhciggmllddkaa.Pl
open Go Go.RowKit Go.Proofs.YtlhciggmllddkaaW.PrintWords Go.Proofs.YtlhciggmllddkaaW.PrintLast Go.Proofs.YtlhciggmllddkaaW.PrintMore Go.Proofs.Ytlhciggmllddkaa.PNum
set_option linter.unusedVariables false
set_option linter.unusedSimpArgs false
theorem cmp_pos {m n : Nat} : cmp m n > 0 ↔ n < m := by
 rcases Nat.lt_trichotomy m n with h | h | h
 ·rw [cmp_lt h]; omega
 ·rw [cmp_eq h]; omega
 ·rw [cmp_gt h]; omega
theorem cmp_zero {m n : Nat} : cmp m n = 0 ↔ m = n := by
 rcases Nat.lt_trichotomy m n with h | h | h
 ·rw [cmp_lt h]; omega
 ·rw [cmp_eq h]; omega
 ·rw [cmp_gt h]; omega
theorem cmp_neg {m n : Nat} : cmp m n < 0 ↔ m < n := by
 rcases Nat.lt_trichotomy m n with h | h | h
 ·rw [cmp_lt h]; omega
 ·rw [cmp_eq h]; omega
 ·rw [cmp_gt h]; omega
theorem divided_core {a b : List Int} {m n : Nat} (ha : Rep P32 a m) (hb : Rep P32 b n) (hla : a.length ≤ 1000000000) (hlb : b.length ≤ 1000000000) (hn : 0 < n) (hq : m / n < 9223372036854775808) :
  Ev (fun k => note_divided.j0 k a b) ((rne m n : Nat) : Int) := by
 obtain ⟨r, h1, h2, h3⟩ := divide_ev ha hb (by omega) (by omega) hn (by omega)
 obtain ⟨t, g1, g2, g3⟩ := raised_ev h2 1 (by omega)
 have hc := compare_ev g2 hb (by omega) (by omega)
 rw [Nat.pow_one, Nat.mul_comm] at hc
 refine Ev.succ (fun k => by rw [note_divided.j0]) (Ev.bind h1 (Ev.bind g1 (Ev.bind hc ?_)))
 unfold rne
 generalize m / n = q at hq ⊢
 generalize m % n = s at ⊢
 have e1 : IntKind.u64.wrap ((q : Int) + 1) = ((q + 1 : Nat) : Int) := by rw [wu64 (by omega) (by omega)]; omega
 have e2 : Go.bits .and .u64 (q : Int) 1 = (q : Int) % 2 := and_u64_one _ (by omega) (by omega)
 show Ev (fun k => if cmp (2 * s) n > 0 then some (IntKind.u64.wrap ((q : Int) + 1)) else (if cmp (2 * s) n = 0 then (if Go.bits .and .u64 (q : Int) 1 = 1 then some (IntKind.u64.wrap ((q : Int) + 1)) else some (q : Int)) else some (q : Int))) _
 rw [e1, e2]
 by_cases c1 : n < 2 * s
 ·refine Ev.yes (cmp_pos.2 c1) ?_
  rw [if_pos (.inl c1)]
  exact Ev.const _
 ·refine Ev.no (fun h => c1 (cmp_pos.1 h)) ?_
  by_cases c2 : n = 2 * s
  ·refine Ev.yes (cmp_zero.2 c2.symm) ?_
   by_cases c3 : q % 2 = 1
   ·refine Ev.yes (by omega) ?_
    rw [if_pos (.inr ⟨c2, c3⟩)]
    exact Ev.const _
   ·refine Ev.no (by omega) ?_
    rw [if_neg (fun h => h.elim c1 (fun h => c3 h.2))]
    exact Ev.const _
  ·refine Ev.no (fun h => c2 (cmp_zero.1 h).symm) ?_
   rw [if_neg (fun h => h.elim c1 (fun h => c2 h.1))]
   exact Ev.const _
theorem divided_ev {a b : List Int} {m n : Nat} (ha : Rep P32 a m) (hb : Rep P32 b n) (hla : a.length ≤ 1000000) (hlb : b.length ≤ 1000000) (hn : 0 < n) (r : Nat) (hr : r ≤ 1000000) (hq : m * Q < n * 2 ^ r * 2 ^ 63) :
  Ev (fun k => note_divided.f k a b ((r : Int) - 1074)) ((rne (m * Q) (n * 2 ^ r) : Nat) : Int) := by
 have key : ∀ (p q t : Nat), 0 < t → 0 < q → m * Q = p * t → n * 2 ^ r = q * t → rne (m * Q) (n * 2 ^ r) = rne p q ∧ p / q < 9223372036854775808 := by
  intro p q t ht hq0 h1 h2
  refine ⟨by rw [h1, h2, rne_mul _ _ _ ht], ?_⟩
  rw [h1, h2, Nat.mul_right_comm] at hq
  have h3 := Nat.lt_of_mul_lt_mul_right hq
  refine (Nat.div_lt_iff_lt_mul hq0).2 ?_
  rw [Nat.mul_comm]
  omega
 by_cases hlt : r < 1074
 ·obtain ⟨j, hj⟩ : ∃ j, j + r = 1074 := ⟨1074 - r, by omega⟩
  obtain ⟨x, h1, h2, h3⟩ := raised_ev ha j (by omega)
  obtain ⟨e, hq2⟩ := key (m * 2 ^ j) n (2 ^ r) (Nat.two_pow_pos _) hn (by rw [Q_split hj, Nat.mul_assoc]) rfl
  rw [e]
  refine Ev.yes (by omega) ?_
  have e1 : wrap64 (-((r : Int) - 1074)) = (j : Int) := by rw [w64 (by omega) (by omega)]; omega
  rw [e1]
  exact Ev.bind h1 (divided_core h2 hb (by omega) (by omega) hn hq2)
 ·obtain ⟨j, hj⟩ : ∃ j, r = 1074 + j := ⟨r - 1074, by omega⟩
  obtain ⟨x, h1, h2, h3⟩ := raised_ev hb j (by omega)
  have hQ : n * 2 ^ r = n * 2 ^ j * Q := by
   rw [Q_more hj, Nat.mul_assoc, Nat.mul_comm (2 ^ j)]
  have hn2 : 0 < n * 2 ^ j := Nat.mul_pos hn (Nat.two_pow_pos _)
  obtain ⟨e, hq2⟩ := key m (n * 2 ^ j) Q Q_pos hn2 rfl hQ
  rw [e]
  refine Ev.no (by omega) ?_
  have e1 : (r : Int) - 1074 = (j : Int) := by omega
  rw [e1]
  exact Ev.bind h1 (divided_core ha h2 (by omega) (by omega) hn2 hq2)
theorem len64_ev (n : Nat) (h : n < 18446744073709551616) : Ev (fun k => bits_Len64.f k (n : Int)) (blen n : Int) := by
 have key : ∀ (m c : Nat), m < 4294967296 → c ≤ 32 → Ev (fun k => bits_Len64.j0 k (m : Int) (c : Int)) ((c + blen m : Nat) : Int) := by
  intro n c h1 hc
  refine Ev.succ (fun k => by rw [bits_Len64.j0]) ?_
  have key : ∀ m : Nat, m < 256 → bt (⟨#[0, 1, 2, 2, 3, 3, 3, 3, 4, 4, 4, 4, 4, 4, 4, 4, 5, 5, 5, 5, 5, 5, 5, 5, 5, 5, 5, 5, 5, 5, 5, 5, 6, 6, 6, 6, 6, 6, 6, 6, 6, 6, 6, 6, 6, 6, 6, 6, 6, 6, 6, 6, 6, 6, 6, 6, 6, 6, 6, 6, 6, 6, 6, 6, 7, 7, 7, 7, 7, 7, 7, 7, 7, 7, 7, 7, 7, 7, 7, 7, 7, 7, 7, 7, 7, 7, 7, 7, 7, 7, 7, 7, 7, 7, 7, 7, 7, 7, 7, 7, 7, 7, 7, 7, 7, 7, 7, 7, 7, 7, 7, 7, 7, 7, 7, 7, 7, 7, 7, 7, 7, 7, 7, 7, 7, 7, 7, 7, 8, 8, 8, 8, 8, 8, 8, 8, 8, 8, 8, 8, 8, 8, 8, 8, 8, 8, 8, 8, 8, 8, 8, 8, 8, 8, 8, 8, 8, 8, 8, 8, 8, 8, 8, 8, 8, 8, 8, 8, 8, 8, 8, 8, 8, 8, 8, 8, 8, 8, 8, 8, 8, 8, 8, 8, 8, 8, 8, 8, 8, 8, 8, 8, 8, 8, 8, 8, 8, 8, 8, 8, 8, 8, 8, 8, 8, 8, 8, 8, 8, 8, 8, 8, 8, 8, 8, 8, 8, 8, 8, 8, 8, 8, 8, 8, 8, 8, 8, 8, 8, 8, 8, 8, 8, 8, 8, 8, 8, 8, 8, 8, 8, 8, 8, 8, 8, 8, 8, 8, 8, 8, 8, 8, 8, 8, 8, 8]⟩ : ByteArray) ((m : Int) % 256) = (blen m : Int) := fun m hm => by
   have : ((m : Int) % 256) = (m : Int) := by omega
   rw [this]
   exact tab_at m (by omega) (by omega)
  by_cases c1 : (n : Int) ≥ 65536
  ·refine Ev.yes c1 ?_
   have hb := blen_div (n := n) (s := 16) (by omega)
   have e1 : ((n : Int) / 65536) = ((n / 2 ^ 16 : Nat) : Int) := by omega
   rw [e1]
   generalize hm : n / 2 ^ 16 = m at hb ⊢
   have hm2 : m < 65536 := by omega
   by_cases c2 : (m : Int) ≥ 256
   ·refine Ev.yes c2 ?_
    have hb2 := blen_div (n := m) (s := 8) (by omega)
    have e2 : ((m : Int) / 256) = ((m / 2 ^ 8 : Nat) : Int) := by omega
    rw [e2]
    generalize hp : m / 2 ^ 8 = p at hb2 ⊢
    have hp2 : p < 256 := by omega
    have h8 := blen_u8 hp2
    refine Ev.yes (by omega) (Ev.yes (by omega) (Ev.of_eq ?_))
    rw [key p hp2, w64 (x := (blen p : Int)) (by omega) (by omega), w64 (x := (c : Int) + 16) (by omega) (by omega), w64 (x := (c : Int) + 16 + 8) (by omega) (by omega), w64 (by omega) (by omega), hb, hb2]
    congr 1
    omega
   ·refine Ev.no c2 ?_
    have h8 := blen_u8 (n := m) (by omega)
    refine Ev.yes (by omega) (Ev.yes (by omega) (Ev.of_eq ?_))
    rw [key m (by omega), w64 (x := (blen m : Int)) (by omega) (by omega), w64 (x := (c : Int) + 16) (by omega) (by omega), w64 (by omega) (by omega), hb]
    congr 1
    omega
  ·refine Ev.no c1 ?_
   by_cases c2 : (n : Int) ≥ 256
   ·refine Ev.yes c2 ?_
    have hb2 := blen_div (n := n) (s := 8) (by omega)
    have e2 : ((n : Int) / 256) = ((n / 2 ^ 8 : Nat) : Int) := by omega
    rw [e2]
    generalize hp : n / 2 ^ 8 = p at hb2 ⊢
    have hp2 : p < 256 := by omega
    have h8 := blen_u8 hp2
    refine Ev.yes (by omega) (Ev.yes (by omega) (Ev.of_eq ?_))
    rw [key p hp2, w64 (x := (blen p : Int)) (by omega) (by omega), w64 (x := (c : Int) + 8) (by omega) (by omega), w64 (by omega) (by omega), hb2]
    congr 1
    omega
   ·refine Ev.no c2 ?_
    have h8 := blen_u8 (n := n) (by omega)
    refine Ev.yes (by omega) (Ev.yes (by omega) (Ev.of_eq ?_))
    rw [key n (by omega), w64 (x := (blen n : Int)) (by omega) (by omega), w64 (by omega) (by omega)]
    congr 1
 by_cases c0 : n < 4294967296
 ·have h1 := key n 0 c0 (by omega)
  rw [Nat.zero_add] at h1
  exact Ev.no (by omega) h1
 ·have hb := blen_div (n := n) (s := 32) (by omega)
  have h1 := key (n / 2 ^ 32) 32 (by omega) (by omega)
  rw [← hb] at h1
  have e1 : ((n : Int) / 4294967296) = ((n / 2 ^ 32 : Nat) : Int) := by omega
  refine Ev.yes (by omega) ?_
  rw [e1]
  exact h1
end Go.Proofs.Ytlhciggmllddkaa.Pl
end
section
namespace Go.Proofs.Ytlhciggmllddkaa.Pl
open Go Go.RowKit Go.Proofs.YtlhciggmllddkaaW.PrintWords Go.Proofs.YtlhciggmllddkaaW.PrintLast Go.Proofs.YtlhciggmllddkaaW.PrintMore Go.Proofs.Ytlhciggmllddkaa.PNum
set_option linter.unusedVariables false
set_option linter.unusedSimpArgs false
theorem andNot_sign (x : Nat) (h : x < 18446744073709551616) : (Go.bits .andNot .u64 (x : Int) 9223372036854775808).toNat = x % 9223372036854775808 := by
 have h1 := u64_andNot_nat x 9223372036854775808 h (by omega)
 have h2 : Go.bits .andNot .u64 (x : Int) 9223372036854775808 = _ := h1
 rw [h2, Int.toNat_natCast]
 exact Nat.and_two_pow_sub_one_eq_mod x 63
theorem and_exp (x : Nat) (h : x < 9223372036854775808) : x &&& 9227875636482146303 = x % 4503599627370496 := by
 have e : (9227875636482146303 : Nat) = 2 ^ 63 ||| (2 ^ 52 - 1) := by decide
 have h2 : x.testBit 63 = false := Nat.testBit_lt_two_pow (by omega)
 have h3 : x &&& 2 ^ 63 = 0 := by
  apply Nat.eq_of_testBit_eq
  intro i
  rw [Nat.testBit_and, Nat.testBit_two_pow, Nat.zero_testBit]
  by_cases hi : 63 = i
  ·rw [← hi, h2, Bool.false_and]
  ·simp [hi]
 rw [e, Nat.and_or_distrib_left, Nat.and_two_pow_sub_one_eq_mod, h3, Nat.zero_or]
theorem andNot_exp (x : Nat) (h : x < 9223372036854775808) : Go.bits .andNot .u64 (x : Int) 9218868437227405312 = ((x % 4503599627370496 : Nat) : Int) := by
 have h1 := u64_andNot_nat x 9218868437227405312 (by omega) (by omega)
 have h2 : Go.bits .andNot .u64 (x : Int) 9218868437227405312 = _ := h1
 rw [h2]
 exact congrArg _ (and_exp x h)
theorem or_exp (p q : Nat) (hp : p < 4503599627370496) (hq : q < 4096) : Go.bits .or .u64 (p : Int) (((q * 4503599627370496 : Nat)) : Int) = ((q * 4503599627370496 + p : Nat) : Int) := by
 rw [u64_or_nat p (q * 4503599627370496) (by omega) (by omega), or_add p (q * 4503599627370496) 52 (by omega) (by omega), Nat.add_comm]
theorem and_2047 (n : Int) (h0 : 0 ≤ n) (h : n < 2048) : Go.bits .and .i64 n 2047 = n := by
 have h127 : (BitVec.ofInt 64 2047).toNat = 2 ^ 11 - 1 := by decide
 have key : (BitVec.ofInt 64 n &&& BitVec.ofInt 64 2047).toNat = (n % ((2 ^ 64 : Nat) : Int)).toNat % 2 ^ 11 := by
  rw [BitVec.toNat_and, BitVec.toNat_ofInt, h127, Nat.and_two_pow_sub_one_eq_mod]
 show IntKind.i64.wrap ((BitVec.ofInt 64 n &&& BitVec.ofInt 64 2047).toNat : Nat) = n
 rw [key, IntKind.wrap_i64]
 omega
theorem and_2047u (n : Int) (h0 : 0 ≤ n) (h : n < 2048) : Go.bits .and .u64 n 2047 = n := by
 obtain ⟨a, rfl⟩ := Int.eq_ofNat_of_zero_le h0
 have h1 := bits_and_u64_nat a 2047 (by omega) (by omega)
 have h2 : Go.bits .and .u64 (a : Int) 2047 = ((a &&& 2047 : Nat) : Int) := h1
 rw [h2, Nat.and_two_pow_sub_one_eq_mod a 11]
 omega
theorem abs_pos {x : Nat} (h : x < 9223372036854775808) : math_Abs.f x = some x := by
 unfold math_Abs.f
 rw [andNot_sign x (by omega), Nat.mod_eq_of_lt h]
theorem isInf_fin {x : Nat} (h : x < 9218868437227405312) : math_IsInf.f x 0 = some false := by
 unfold math_IsInf.f
 rw [if_pos rfl, abs_pos (by omega), Option.bind_some, isInf_pos h]
theorem isNaN_fin {x : Nat} (h : x < 9218868437227405312) : math_IsNaN.f x = some false := by
 unfold math_IsNaN.f
 rw [feq_pos h h]
 simp
theorem feq_zero {x : Nat} (h : x < 9218868437227405312) (h0 : 0 < x) : ¬ (feq x 0 = true) := by
 rw [feq_pos h (by omega)]
 simp
 omega
theorem norm_big {x : Nat} (h : x < 9218868437227405312) (hb : 4503599627370496 ≤ x) : math_normalize.f x = some (x, 0) := by
 unfold math_normalize.f
 rw [abs_pos (by omega), Option.bind_some, flt_pos h (by omega), if_neg (by simp; omega)]
theorem read_scale : Ieee.double.read 4841369599423283200 = .number false 4503599627370496 0 := by decide
theorem norm_small {x t : Nat} (h0 : 0 < x) (hx : x < 4503599627370496) (ht : x * 2 ^ t < 9007199254740992) (ht2 : 4503599627370496 ≤ x * 2 ^ t) (h52 : t ≤ 52) : math_normalize.f x = some (bitsOf (x * 2 ^ t) (52 - t), -52) := by
 have hc : Can x 0 := ⟨by omega, .inl rfl⟩
 have hr : Ieee.double.read x = .number false x (-1074) := by
  have h := read_pos hc (by unfold bitsOf; omega)
  have e : bitsOf x 0 = x := by unfold bitsOf; omega
  rw [e] at h
  exact h
 have hm : Ieee.double.mul x 4841369599423283200 = some (bitsOf (x * 2 ^ t) (52 - t)) := by
  rw [mul_read hr read_scale]
  have e1 : x * 4503599627370496 = x * 2 ^ t * 2 ^ (52 - t) := by
   rw [Nat.mul_assoc, ← Nat.pow_add, show t + (52 - t) = 52 by omega]
  have e2 : (-1074 : Int) + 0 = -1074 + ((52 - t : Nat) : Int) - ((52 - t : Nat) : Int) := by omega
  rw [e1, e2, nearest_fine false ⟨ht, .inr ht2⟩ (by omega), word_pos, Nat.min_eq_left]
  unfold bitsOf
  omega
 obtain ⟨k1, k2⟩ := fok_some (op := .mul) hm
 unfold math_normalize.f
 rw [abs_pos (by omega), Option.bind_some, flt_pos (by omega) (by omega), if_pos (by simp; omega), if_pos k1, k2]
theorem shifted {N s : Nat} (hN : N < 9007199254740992) (hN2 : 4503599627370496 ≤ N) (hs : s ≤ 2045) : ((bitsOf N s : Nat) : Int) / 4503599627370496 = (s : Int) + 1 ∧ bitsOf N s % 4503599627370496 = N - 4503599627370496 ∧ bitsOf N s < 9218868437227405312 ∧ 4503599627370496 ≤ bitsOf N s := by
 unfold bitsOf
 omega
theorem read_one : Ieee.double.read 4607182418800017408 = .number false 4503599627370496 (-52) := by decide
theorem read_tiny : Ieee.double.read 4368491638549381120 = .number false 4503599627370496 (-105) := by decide
theorem mul_one {N s : Nat} (h : Can N s) (h0 : 0 < N) (hb : bitsOf N s < 9218868437227405312) : Ieee.double.mul 4607182418800017408 (bitsOf N s) = some (bitsOf N s) := by
 rw [mul_read read_one (read_pos h hb)]
 have e1 : 4503599627370496 * N = N * 2 ^ 52 := by rw [Nat.mul_comm]
 have e2 : (-52 : Int) + (-1074 + (s : Int)) = -1074 + (s : Int) - ((52 : Nat) : Int) := by omega
 rw [e1, e2, nearest_fine false h h0, word_pos, Nat.min_eq_left (Nat.le_of_lt hb)]
theorem ldexp_pre {N s : Nat} (hN : N < 9007199254740992) (hN2 : 4503599627370496 ≤ N) (hs : s ≤ 2045) (e : Int) (he : -100000 ≤ e) (he2 : e ≤ 100000) (X : Int) (hX : X = e + s - 1022) (h1 : ¬ X < -1075) (h2 : ¬ X > 1023) :
  math_Ldexp.f (bitsOf N s) e = (if X < -1022 then (if fok .mul 4368491638549381120 (bitsOf N (X + 1075).toNat) = true then some (fop .mul 4368491638549381120 (bitsOf N (X + 1075).toNat)) else none) else (if fok .mul 4607182418800017408 (bitsOf N (X + 1022).toNat) = true then some (fop .mul 4607182418800017408 (bitsOf N (X + 1022).toNat)) else none)).bind fun t110 => some t110 := by
 obtain ⟨k1, k2, k3, k4⟩ := shifted hN hN2 hs
 unfold math_Ldexp.f math_ldexp.f
 rw [if_neg (feq_zero k3 (by omega)), isInf_fin k3, Option.bind_some, if_neg (by decide), isNaN_fin k3, Option.bind_some, if_neg (by decide), norm_big k3 k4, Option.bind_some]
 dsimp only
 rw [k1, w64 (x := e + 0) (by omega) (by omega), w64 (x := (s : Int) + 1) (by omega) (by omega), and_2047 _ (by omega) (by omega), w64 (x := (s : Int) + 1 - 1023) (by omega) (by omega), w64 (x := e + 0 + ((s : Int) + 1 - 1023)) (by omega) (by omega)]
 have e1 : e + 0 + ((s : Int) + 1 - 1023) = X := by omega
 rw [e1, if_neg h1, if_neg h2, andNot_exp _ (by omega), k2]
 by_cases h3 : X < -1022
 ·rw [if_pos h3, if_pos h3, w64 (x := X + 53) (by omega) (by omega), w64 (x := X + 53 + 1023) (by omega) (by omega), wu64 (x := X + 53 + 1023) (by omega) (by omega), wu64 (by omega) (by omega)]
  have e2 : (X + 53 + 1023) * 4503599627370496 = ((((X + 1075).toNat + 1) * 4503599627370496 : Nat) : Int) := by omega
  have e3 : ((X + 1075).toNat + 1) * 4503599627370496 + (N - 4503599627370496) = bitsOf N (X + 1075).toNat := by unfold bitsOf; omega
  rw [e2, or_exp _ _ (by omega) (by omega), e3, Int.toNat_natCast]
 ·rw [if_neg h3, if_neg h3, w64 (x := X + 1023) (by omega) (by omega), wu64 (x := X + 1023) (by omega) (by omega), wu64 (by omega) (by omega)]
  have e2 : (X + 1023) * 4503599627370496 = ((((X + 1022).toNat + 1) * 4503599627370496 : Nat) : Int) := by omega
  have e3 : ((X + 1022).toNat + 1) * 4503599627370496 + (N - 4503599627370496) = bitsOf N (X + 1022).toNat := by unfold bitsOf; omega
  rw [e2, or_exp _ _ (by omega) (by omega), e3, Int.toNat_natCast]
theorem ldexp_norm {N s : Nat} (hN : N < 9007199254740992) (hN2 : 4503599627370496 ≤ N) (hs : s ≤ 2045) (e : Int) (r : Nat) (hr : r ≤ 2045) (he : (r : Int) = e + s) : math_Ldexp.f (bitsOf N s) e = some (bitsOf N r) := by
 have hb : bitsOf N r < 9218868437227405312 := (shifted hN hN2 hr).2.2.1
 obtain ⟨k1, k2⟩ := fok_some (op := .mul) (mul_one (N := N) (s := r) ⟨hN, .inr hN2⟩ (by omega) hb)
 rw [ldexp_pre hN hN2 hs e (by omega) (by omega) (e + s - 1022) rfl (by omega) (by omega), if_neg (by omega)]
 have e1 : (e + (s : Int) - 1022 + 1022).toNat = r := by omega
 rw [e1, if_pos k1, k2]
 rfl
/-- m * 2 ^ (r - 1074), taken together. -/
theorem ldexp_can {m r : Nat} (hc : Can m r) (hb : bitsOf m r < 9218868437227405312) : math_Ldexp.f (floatOfInt .f64 (m : Int)) ((r : Int) - 1074) = some (bitsOf m r) := by
 have hlt := hc.lt
 by_cases h0 : m = 0
 ·subst h0
  have hr : r = 0 := by rcases hc.ge with h | h <;> omega
  subst hr
  unfold math_Ldexp.f math_ldexp.f
  have e1 : floatOfInt .f64 ((0 : Nat) : Int) = 0 := rfl
  rw [e1, if_pos (by rw [feq_pos (by omega) (by omega)]; rfl)]
  rfl
 ·obtain ⟨hl, hl2⟩ := hc.log (by omega)
  obtain ⟨t, ht⟩ : ∃ t, t + m.log2 = 52 := ⟨52 - m.log2, by omega⟩
  have hp : 2 ^ m.log2 * 2 ^ t = 4503599627370496 := by rw [← Nat.pow_add, Nat.add_comm, ht]
  have hp2 : 2 ^ (m.log2 + 1) * 2 ^ t = 9007199254740992 := by rw [← Nat.pow_add, show m.log2 + 1 + t = 53 by omega]
  have h1 : 4503599627370496 ≤ m * 2 ^ t := by rw [← hp]; exact Nat.mul_le_mul_right _ (Nat.log2_self_le h0)
  have h2 : m * 2 ^ t < 9007199254740992 := by rw [← hp2]; exact Nat.mul_lt_mul_of_pos_right Nat.lt_log2_self (Nat.two_pow_pos t)
  rw [ofInt_can (by omega) h2 h1 (by omega)]
  by_cases hrt : t = 0
  ·subst hrt
   rw [Nat.pow_zero, Nat.mul_one] at h1 h2 ⊢
   exact ldexp_norm h2 h1 (by omega) _ r (by unfold bitsOf at hb; omega) (by omega)
  ·have hr : r = 0 := by omega
   subst hr
   rw [ldexp_pre h2 h1 (by omega) _ (by omega) (by omega) (-1022 - (t : Int)) (by omega) (by omega) (by omega), if_pos (by omega)]
   have e1 : (-1022 - (t : Int) + 1075).toNat = 53 - t := by omega
   have hm : Ieee.double.mul 4368491638549381120 (bitsOf (m * 2 ^ t) (53 - t)) = some (bitsOf m 0) := by
    rw [mul_read read_tiny (read_pos ⟨h2, .inr h1⟩ (shifted h2 h1 (by omega)).2.2.1)]
    have e2 : 4503599627370496 * (m * 2 ^ t) = m * 2 ^ (t + 52) := by rw [Nat.pow_add, Nat.mul_comm, Nat.mul_assoc]
    have e3 : (-105 : Int) + (-1074 + ((53 - t : Nat) : Int)) = -1074 + ((0 : Nat) : Int) - ((t + 52 : Nat) : Int) := by omega
    rw [e2, e3, nearest_fine false hc (by omega), word_pos, Nat.min_eq_left (Nat.le_of_lt hb)]
   obtain ⟨k1, k2⟩ := fok_some (op := .mul) hm
   rw [e1, if_pos k1, k2]
   rfl
end Go.Proofs.Ytlhciggmllddkaa.Pl
end
section
namespace Go.Proofs.Ytlhciggmllddkaa.Pl
open Go Go.RowKit Go.Proofs.YtlhciggmllddkaaW.PrintWords Go.Proofs.YtlhciggmllddkaaW.PrintLast Go.Proofs.YtlhciggmllddkaaW.PrintMore Go.Proofs.Ytlhciggmllddkaa.PNum
set_option linter.unusedVariables false
set_option linter.unusedSimpArgs false
theorem cut_zero_way (n : Nat) : Ieee.Toward.zero.cut false n 0 = n := by
 unfold Ieee.Toward.cut
 simp
theorem fint_whole {N : Nat} (hN : N < 9007199254740992) (hN2 : 4503599627370496 ≤ N) : fiok (bitsOf N 1074) .u64 = true ∧ fint (bitsOf N 1074) .u64 = (N : Int) := by
 have hr := read_pos (M := N) (r := 1074) ⟨hN, .inr hN2⟩ (by unfold bitsOf; omega)
 have e1 : (-1074 : Int) + ((1074 : Nat) : Int) = 0 := by omega
 rw [e1] at hr
 have h : floatToIntVal .f64 (bitsOf N 1074) .u64 = some (N : Int) := by
  unfold floatToIntVal
  have h2 : (FloatKind.f64.decode (bitsOf N 1074)).toInt .zero = some (N : Int) := by
   show (Ieee.double.read (bitsOf N 1074)).toInt .zero = _
   rw [hr]
   show some (Ieee.signed false (Ieee.Toward.zero.cut false (N <<< (0 : Int).toNat) (-(0 : Int)).toNat) 0) = _
   have e2 : N <<< (0 : Int).toNat = N := Nat.shiftLeft_zero
   have e3 : (-(0 : Int)).toNat = 0 := rfl
   rw [e2, e3, cut_zero_way, signed_false, Nat.pow_zero, Nat.mul_one]
  rw [h2]
  have e4 : IntKind.u64.min = 0 := by decide
  have e5 : IntKind.u64.max = 18446744073709551615 := by decide
  rw [e4, e5]
  dsimp only
  rw [if_pos (by omega)]
 unfold fiok fint
 rw [h]
 exact ⟨rfl, rfl⟩
/-- Frexp of what is normalized. -/
theorem frexp_core {x N s : Nat} {e : Int} (hN : N < 9007199254740992) (hN2 : 4503599627370496 ≤ N) (hs : s ≤ 2045) (he : -100 ≤ e) (he2 : e ≤ 100) (hx0 : 0 < x) (hx : x < 9218868437227405312) (hn : math_normalize.f x = some (bitsOf N s, e)) :
  Ev (fun k => math_Frexp.f k x) (bitsOf N 1021, e + s - 1021) := by
 obtain ⟨k1, k2, k3, k4⟩ := shifted hN hN2 hs
 have h1 : Ev (fun k => math_frexp.j0 k x false) (bitsOf N 1021, e + s - 1021) := by
  refine Ev.succ (fun k => by rw [math_frexp.j0]) (Ev.no (by decide) (Ev.bind (Ev.of_eq hn) (Ev.of_eq ?_)))
  dsimp only
  rw [k1, and_2047u _ (by omega) (by omega), w64 (x := (s : Int) + 1) (by omega) (by omega), w64 (x := (s : Int) + 1 - 1023) (by omega) (by omega), w64 (x := (s : Int) + 1 - 1023 + 1) (by omega) (by omega), w64 (by omega) (by omega), andNot_exp _ (by omega), k2]
  have e2 : (4602678819172646912 : Int) = ((1022 * 4503599627370496 : Nat) : Int) := by omega
  have e3 : 1022 * 4503599627370496 + (N - 4503599627370496) = bitsOf N 1021 := by unfold bitsOf; omega
  have e4 : e + ((s : Int) + 1 - 1023 + 1) = e + s - 1021 := by omega
  rw [e2, or_exp _ _ (by omega) (by omega), e3, Int.toNat_natCast, e4]
 unfold math_Frexp.f math_frexp.f
 exact Ev.bind (Ev.no (feq_zero hx hx0) (Ev.bind (Ev.of_eq (isInf_fin hx)) (Ev.no (by decide) (Ev.bind (Ev.of_eq (isNaN_fin hx)) h1)))) (Ev.const _)
theorem fraction_core {x N s : Nat} {e : Int} (hN : N < 9007199254740992) (hN2 : 4503599627370496 ≤ N) (hs : s ≤ 2045) (he : -100 ≤ e) (he2 : e ≤ 100) (hx0 : 0 < x) (hx : x < 9218868437227405312) (hn : math_normalize.f x = some (bitsOf N s, e)) :
  ∃ la lb, Ev (fun k => note_fraction.f k x) (la, lb) ∧ Rep P32 la (N * 2 ^ (e + s - 1074).toNat) ∧ Rep P32 lb (2 ^ (-(e + s - 1074)).toNat) ∧ la.length ≤ 80 ∧ lb.length ≤ 80 := by
 have h1 := frexp_core hN hN2 hs he he2 hx0 hx hn
 have h2 := ldexp_norm (N := N) (s := 1021) hN hN2 (by omega) 53 1074 (by omega) (by omega)
 obtain ⟨f1, f2⟩ := fint_whole hN hN2
 obtain ⟨w, g1, g2, g3⟩ := wholeOf_ev N (by omega)
 obtain ⟨o, o1, o2, o3⟩ := wholeOf_ev 1 (by omega)
 have ew : wrap64 (e + (s : Int) - 1021 - 53) = e + s - 1074 := by rw [w64 (by omega) (by omega)]; omega
 by_cases hE : e + (s : Int) - 1074 ≥ 0
 ·obtain ⟨j, hj⟩ := Int.eq_ofNat_of_zero_le hE
  obtain ⟨la, a1, a2, a3⟩ := raised_ev g2 j (by omega)
  refine ⟨la, o, ?_, by rw [hj, Int.toNat_natCast]; exact a2, ?_, by omega, by omega⟩
  ·unfold note_fraction.f
   refine Ev.bind h1 (Ev.bind (Ev.of_eq h2) (Ev.yes f1 ?_))
   dsimp only
   rw [f2, ew]
   refine Ev.bind g1 (Ev.yes hE ?_)
   rw [hj]
   exact Ev.bind a1 (Ev.bind o1 (Ev.const _))
  ·have : (-(e + (s : Int) - 1074)).toNat = 0 := by omega
   rw [this]
   exact o2
 ·obtain ⟨j, hj⟩ := Int.eq_ofNat_of_zero_le (show 0 ≤ -(e + (s : Int) - 1074) by omega)
  obtain ⟨lb, a1, a2, a3⟩ := raised_ev o2 j (by omega)
  refine ⟨w, lb, ?_, ?_, by rw [hj, Int.toNat_natCast]; rw [Nat.one_mul] at a2; exact a2, by omega, by omega⟩
  ·unfold note_fraction.f
   refine Ev.bind h1 (Ev.bind (Ev.of_eq h2) (Ev.yes f1 ?_))
   dsimp only
   rw [f2, ew]
   refine Ev.bind g1 (Ev.no hE ?_)
   rw [w64 (x := -(e + (s : Int) - 1074)) (by omega) (by omega), hj]
   exact Ev.bind o1 (Ev.bind a1 (Ev.const _))
  ·have : (e + (s : Int) - 1074).toNat = 0 := by omega
   rw [this, Nat.pow_zero, Nat.mul_one]
   exact g2
theorem log_up {m : Nat} (h0 : 0 < m) (hm : m.log2 ≤ 52) : ∃ t, t + m.log2 = 52 ∧ 4503599627370496 ≤ m * 2 ^ t ∧ m * 2 ^ t < 9007199254740992 := by
 obtain ⟨t, ht⟩ : ∃ t, t + m.log2 = 52 := ⟨52 - m.log2, by omega⟩
 have hp : 2 ^ m.log2 * 2 ^ t = 4503599627370496 := by rw [← Nat.pow_add, Nat.add_comm, ht]
 have hp2 : 2 ^ (m.log2 + 1) * 2 ^ t = 9007199254740992 := by rw [← Nat.pow_add, show m.log2 + 1 + t = 53 by omega]
 refine ⟨t, ht, ?_, ?_⟩
 ·rw [← hp]; exact Nat.mul_le_mul_right _ (Nat.log2_self_le (by omega))
 ·rw [← hp2]; exact Nat.mul_lt_mul_of_pos_right Nat.lt_log2_self (Nat.two_pow_pos t)
theorem fraction_ev {M r : Nat} (hc : Can M r) (h0 : 0 < M) (hx : bitsOf M r < 9218868437227405312) :
  ∃ la lb a b, Ev (fun k => note_fraction.f k (bitsOf M r)) (la, lb) ∧ Rep P32 la a ∧ Rep P32 lb b ∧ 0 < a ∧ 0 < b ∧ a * Q = M * 2 ^ r * b ∧ la.length ≤ 80 ∧ lb.length ≤ 80 := by
 have hx0 : 0 < bitsOf M r := by unfold bitsOf; omega
 by_cases hbig : 4503599627370496 ≤ M
 ·have hr : r ≤ 2045 := by unfold bitsOf at hx; omega
  obtain ⟨la, lb, h1, h2, h3, h4, h5⟩ := fraction_core (e := 0) hc.lt hbig hr (by omega) (by omega) hx0 hx (norm_big hx (by unfold bitsOf; omega))
  refine ⟨la, lb, _, _, h1, h2, h3, Nat.mul_pos h0 (Nat.two_pow_pos _), Nat.two_pow_pos _, ?_, h4, h5⟩
  by_cases hr2 : r < 1074
  ·obtain ⟨j, hj⟩ : ∃ j, j + r = 1074 := ⟨1074 - r, by omega⟩
   have e1 : ((0 : Int) + r - 1074).toNat = 0 := by omega
   have e2 : (-((0 : Int) + r - 1074)).toNat = j := by omega
   rw [e1, e2, Q_split hj, Nat.pow_zero, Nat.mul_one, Nat.mul_comm (2 ^ j), Nat.mul_assoc]
  ·obtain ⟨j, hj⟩ : ∃ j, r = 1074 + j := ⟨r - 1074, by omega⟩
   have e1 : ((0 : Int) + r - 1074).toNat = j := by omega
   have e2 : (-((0 : Int) + r - 1074)).toNat = 0 := by omega
   rw [e1, e2, Q_more hj, Nat.pow_zero, Nat.mul_one, Nat.mul_comm Q, Nat.mul_assoc]
 ·have hr : r = 0 := by rcases hc.ge with h | h <;> omega
  subst hr
  obtain ⟨t, ht, h1, h2⟩ := log_up h0 (hc.log h0).1
  have eb : bitsOf M 0 = M := by unfold bitsOf; rw [Nat.zero_mul, Nat.zero_add]
  rw [eb] at hx hx0 ⊢
  obtain ⟨la, lb, k1, k2, k3, k4, k5⟩ := fraction_core (e := -52) h2 h1 (by omega) (by omega) (by omega) hx0 hx (norm_small h0 (by omega) h2 h1 (by omega))
  refine ⟨la, lb, _, _, k1, k2, k3, Nat.mul_pos (by omega) (Nat.two_pow_pos _), Nat.two_pow_pos _, ?_, k4, k5⟩
  have e1 : ((-52 : Int) + ((52 - t : Nat) : Int) - 1074).toNat = 0 := by omega
  have e2 : (-((-52 : Int) + ((52 - t : Nat) : Int) - 1074)).toNat = 1074 + t := by omega
  have e3 := Q_more (j := t) (r := 1074 + t) (Eq.refl _)
  rw [e1, e2, e3, Nat.pow_zero, Nat.mul_one, Nat.mul_one, Nat.mul_comm Q, Nat.mul_assoc]
theorem round_tail {m r : Nat} (hm : m ≤ 9007199254740992) (hr : r = 0 ∨ 4503599627370496 ≤ m) (hr2 : r ≤ 1000000) :
  Ev (fun k => note_round.l0 k ((r : Int) - 1074) (m : Int)) (if bitsOf m r < 9218868437227405312 then (bitsOf m r, true) else (0, false)) := by
 have key : ∀ m r : Nat, m < 9007199254740992 → (r = 0 ∨ 4503599627370496 ≤ m) → r ≤ 1000001 → Ev (fun k => note_round.l0 k ((r : Int) - 1074) (m : Int)) (if bitsOf m r < 9218868437227405312 then (bitsOf m r, true) else (0, false)) := by
  intro m r hm hr hr2
  have hl := len64_ev m (by omega)
  have h53 : blen m ≤ 53 := blen_le_of_lt (by omega)
  refine Ev.succ (fun k => by rw [note_round.l0]) (Ev.bind hl (Ev.no ?_ (Ev.bind hl ?_)))
  ·omega
  rw [w64 (x := (blen m : Int) + ((r : Int) - 1074)) (by omega) (by omega)]
  by_cases hb : bitsOf m r < 9218868437227405312
  ·refine Ev.no ?_ ?_
   ·unfold bitsOf at hb
    omega
   ·rw [ldexp_can ⟨hm, hr⟩ hb, if_pos hb]
    exact Ev.const _
  ·rw [if_neg hb]
   refine Ev.yes ?_ (Ev.const _)
   have h2 : 52 < blen m := lt_blen_of_le (by unfold bitsOf at hb; omega)
   unfold bitsOf at hb
   omega
 by_cases h : m < 9007199254740992
 ·exact key m r h hr (by omega)
 ·obtain rfl : m = 9007199254740992 := by omega
  have h1 := key 4503599627370496 (r + 1) (by omega) (by omega) (by omega)
  have e1 : bitsOf 4503599627370496 (r + 1) = bitsOf 9007199254740992 r := by unfold bitsOf; omega
  rw [e1] at h1
  have hl := len64_ev 9007199254740992 (by omega)
  have h54 : blen 9007199254740992 = 54 := by decide
  refine Ev.succ (fun k => by rw [note_round.l0]) (Ev.bind hl (Ev.yes ?_ ?_))
  ·omega
  have e2 : wrap64 ((r : Int) - 1074 + 1) = ((r + 1 : Nat) : Int) - 1074 := by rw [w64 (by omega) (by omega)]; omega
  have e3 : ((9007199254740992 : Nat) : Int) / 2 = ((4503599627370496 : Nat) : Int) := by omega
  rw [e2, e3]
  exact h1
theorem round_ev {a b : List Int} {m n x : Nat} (ha : Rep P32 a m) (hb : Rep P32 b n) (hla : a.length ≤ 1000) (hlb : b.length ≤ 1000) (hm : 0 < m) (hn : 0 < n) (hx : Rnd m n x) :
  Ev (fun k => note_round.f k a b) (if x < 9218868437227405312 then (x, true) else (0, false)) := by
 have hbm := ha.blen_le
 have hbn := hb.blen_le
 obtain ⟨r, hr⟩ : ∃ r : Nat, r = (blen m + 1021 - blen n) := ⟨_, rfl⟩
 have emx : mx (wrap64 (wrap64 ((blen m : Int) - (blen n : Int)) - 53)) (-1074) = (r : Int) - 1074 := by
  rw [w64 (x := (blen m : Int) - (blen n : Int)) (by omega) (by omega), w64 (by omega) (by omega)]
  unfold mx
  split <;> omega
 have m1 := blen_lt m
 have m2 := blen_le (n := m) (by omega)
 have m3 := blen_pos (n := m) (by omega)
 have n1 := blen_lt n
 have n2 := blen_le (n := n) (by omega)
 have n3 := blen_pos (n := n) (by omega)
 have hQ : ∀ c, 2 ^ c * Q = 2 ^ (1074 + c) := fun c => by rw [Q_more (r := 1074 + c) (j := c) (Eq.refl _), Nat.mul_comm]
 have q1 : m * Q < n * 2 ^ (54 + r) := by
  have h1 : m * Q < 2 ^ blen m * Q := Nat.mul_lt_mul_of_pos_right m1 Q_pos
  have h2 : 2 ^ blen m * Q ≤ 2 ^ (blen n - 1) * 2 ^ (54 + r) := by
   rw [hQ, ← Nat.pow_add]
   exact Nat.pow_le_pow_right (by omega) (by omega)
  have h3 : 2 ^ (blen n - 1) * 2 ^ (54 + r) ≤ n * 2 ^ (54 + r) := Nat.mul_le_mul_right _ n2
  omega
 have q2 : r = 0 ∨ n * 2 ^ (52 + r) ≤ m * Q := by
  by_cases h0 : r = 0
  ·exact .inl h0
  ·refine .inr ?_
   have h1 : 2 ^ (blen m - 1) * Q ≤ m * Q := Nat.mul_le_mul_right _ m2
   have h2 : 2 ^ blen n * 2 ^ (52 + r) ≤ 2 ^ (blen m - 1) * Q := by
    rw [hQ, ← Nat.pow_add]
    exact Nat.pow_le_pow_right (by omega) (by omega)
   have h3 : n * 2 ^ (52 + r) ≤ 2 ^ blen n * 2 ^ (52 + r) := Nat.mul_le_mul_right _ (Nat.le_of_lt n1)
   omega
 have hd : ∀ r', r ≤ r' → r' ≤ r + 1 → Ev (fun k => note_divided.f k a b ((r' : Int) - 1074)) ((rne (m * Q) (n * 2 ^ r') : Nat) : Int) := by
  intro r' h1 h2
  refine divided_ev ha hb (by omega) (by omega) hn r' (by omega) (Nat.lt_of_lt_of_le q1 ?_)
  rw [Nat.mul_assoc, ← Nat.pow_add]
  exact Nat.mul_le_mul_left _ (Nat.pow_le_pow_right (by omega) (by omega))
 have hpos : ∀ s, 0 < n * 2 ^ s := fun s => Nat.mul_pos hn (Nat.two_pow_pos s)
 have u1 : rne (m * Q) (n * 2 ^ r) ≤ 2 ^ 54 := rne_le (by rw [Nat.mul_assoc, ← Nat.pow_add, Nat.add_comm r]; exact q1)
 have hl := len64_ev (rne (m * Q) (n * 2 ^ r)) (by omega)
 unfold note_round.f
 refine Ev.bind (Ev.of_eq (bits_ev ha (by omega))) (Ev.bind (Ev.of_eq (bits_ev hb (by omega))) ?_)
 rw [emx]
 refine Ev.bind (hd r (by omega) (by omega)) (Ev.bind hl ?_)
 have hone : ∀ (m' r' : Nat) (c : Bool), c = false → m' ≤ 9007199254740992 → (r' = 0 ∨ 4503599627370496 ≤ m') → r' ≤ 1000000 → x = bitsOf m' r' → Ev (fun k => note_round.j0 k a b ((r' : Int) - 1074) (m' : Int) c) (if x < 9218868437227405312 then (x, true) else (0, false)) := by
  intro m' r' c hc h1 h2 h3 h4
  rw [h4]
  exact Ev.succ (fun k => by rw [note_round.j0]) (Ev.no (by rw [hc]; decide) (Ev.succ (fun k => by rw [note_round.j1]) (round_tail h1 h2 h3)))
 by_cases cA : m * Q < n * 2 ^ (53 + r)
 ·have hxr : x = bitsOf (rne (m * Q) (n * 2 ^ r)) r := Rnd.uniq hx ⟨r, cA, q2, rfl⟩
  have u2 : rne (m * Q) (n * 2 ^ r) ≤ 2 ^ 53 := rne_le (by rw [Nat.mul_assoc, ← Nat.pow_add, Nat.add_comm r]; exact cA)
  have u3 : r = 0 ∨ 2 ^ 52 ≤ rne (m * Q) (n * 2 ^ r) := by
   rcases q2 with h | h
   ·exact .inl h
   ·exact .inr (le_rne (hpos r) (by rw [Nat.mul_assoc, ← Nat.pow_add, Nat.add_comm r]; exact h))
  generalize rne (m * Q) (n * 2 ^ r) = M at *
  by_cases c1 : (blen M : Int) > 53
  ·refine Ev.yes c1 ?_
   have h2 : 53 < blen M := by omega
   have h3 : ¬ M < 2 ^ 53 := fun h => by have := blen_le_of_lt h; omega
   have h4 : M = 9007199254740992 := by omega
   exact hone M r _ (by rw [h4]; rfl) (by omega) (by omega) (by omega) hxr
  ·exact Ev.no c1 (hone M r _ rfl (by omega) (by omega) (by omega) hxr)
 ·have cA : n * 2 ^ (53 + r) ≤ m * Q := by omega
  have q3 : r + 1 = 0 ∨ n * 2 ^ (52 + (r + 1)) ≤ m * Q := .inr (by rw [show 52 + (r + 1) = 53 + r by omega]; exact cA)
  have hxr : x = bitsOf (rne (m * Q) (n * 2 ^ (r + 1))) (r + 1) := Rnd.uniq hx ⟨r + 1, by rw [show 53 + (r + 1) = 54 + r by omega]; exact q1, q3, rfl⟩
  have u2 : rne (m * Q) (n * 2 ^ (r + 1)) ≤ 2 ^ 53 := rne_le (by rw [Nat.mul_assoc, ← Nat.pow_add, show r + 1 + 53 = 54 + r by omega]; exact q1)
  have u3 : 2 ^ 52 ≤ rne (m * Q) (n * 2 ^ (r + 1)) := le_rne (hpos _) (by rw [Nat.mul_assoc, ← Nat.pow_add, show r + 1 + 52 = 53 + r by omega]; exact cA)
  have u4 : 2 ^ 53 ≤ rne (m * Q) (n * 2 ^ r) := le_rne (hpos _) (by rw [Nat.mul_assoc, ← Nat.pow_add, Nat.add_comm r]; exact cA)
  have hdd := hd (r + 1) (by omega) (by omega)
  have u5 : rne (m * Q) (n * 2 ^ r) = 9007199254740992 → rne (m * Q) (n * 2 ^ (r + 1)) = 4503599627370496 := by
   intro h
   refine Nat.le_antisymm ?_ (by omega)
   have e : n * 2 ^ (r + 1) = 2 * (n * 2 ^ r) := by rw [Nat.pow_succ, ← Nat.mul_assoc, Nat.mul_comm]
   rw [e]
   have hp := hpos r
   generalize n * 2 ^ r = D at *
   generalize m * Q = A at *
   have d1 := Nat.div_add_mod A D
   have d2 := Nat.mod_lt A hp
   have h6 : A / D ≤ 9007199254740992 ∧ (A / D = 9007199254740992 → 2 * (A % D) ≤ D) := by
    unfold rne at h
    split at h
    ·omega
    ·rename_i hn
     exact ⟨by omega, fun _ => by apply Nat.le_of_not_lt; exact fun hh => hn (.inl hh)⟩
   have h7 : A ≤ D * 9007199254740992 + D / 2 := by
    rcases Nat.lt_or_ge (A / D) 9007199254740992 with h8 | h8
    ·have h9 : D * (A / D + 1) ≤ D * 9007199254740992 := Nat.mul_le_mul_left _ (by omega)
     rw [Nat.mul_add, Nat.mul_one] at h9
     omega
    ·have h9 : A / D = 9007199254740992 := by omega
     have h10 := h6.2 h9
     rw [h9] at d1
     omega
   have h11 : A / (2 * D) ≤ 4503599627370496 := by
    apply Nat.le_of_lt_succ
    refine (Nat.div_lt_iff_lt_mul (by omega)).2 ?_
    omega
   unfold rne
   have d3 := Nat.div_add_mod A (2 * D)
   have d4 := Nat.mod_lt A (show 0 < 2 * D by omega)
   split
   ·rename_i hc
    apply Nat.le_of_not_lt
    intro hlt
    have h12 : A / (2 * D) = 4503599627370496 := by omega
    rw [h12] at d3 hc
    omega
   ·exact h11
  have h54 : (blen (rne (m * Q) (n * 2 ^ r)) : Int) > 53 := by
   have := lt_blen_of_le u4
   omega
  refine Ev.yes h54 ?_
  by_cases c2 : rne (m * Q) (n * 2 ^ r) = 9007199254740992
  ·have h5 := u5 c2
   rw [h5] at hxr
   refine hone _ r _ (by rw [c2]; rfl) (by omega) (by omega) (by omega) ?_
   rw [hxr, c2]
   unfold bitsOf
   omega
  ·have e2 : wrap64 ((r : Int) - 1074 + 1) = ((r + 1 : Nat) : Int) - 1074 := by rw [w64 (by omega) (by omega)]; omega
   refine Ev.succ (fun k => by rw [note_round.j0]) (Ev.yes (bne_iff_ne.2 (by omega)) ?_)
   rw [e2]
   refine Ev.bind hdd (Ev.succ (fun k => by rw [note_round.j1]) ?_)
   rw [hxr]
   exact round_tail (by omega) (by omega) (by omega)
end Go.Proofs.Ytlhciggmllddkaa.Pl
end
section
namespace Go.Proofs.Ytlhciggmllddkaa.Pl
open Go Go.RowKit Go.Proofs.YtlhciggmllddkaaW.PrintWords Go.Proofs.YtlhciggmllddkaaW.PrintLast Go.Proofs.YtlhciggmllddkaaW.PrintMore Go.Proofs.Ytlhciggmllddkaa.PNum
set_option linter.unusedVariables false
set_option linter.unusedSimpArgs false
/-- 10 ^ n is T n / T (-n). -/
def T (n : Int) : Nat := 10 ^ n.toNat
theorem T_pos (n : Int) : 0 < T n := Nat.pow_pos (by omega)
theorem T_succ (n : Int) : T (n + 1) * T (-n) = 10 * (T n * T (-(n + 1))) := by
 unfold T
 rcases Int.lt_or_le n 0 with h | h
 ·obtain ⟨j, hj⟩ : ∃ j : Nat, -n = (j : Int) + 1 := ⟨(-n - 1).toNat, by omega⟩
  have e1 : (n + 1).toNat = 0 := by omega
  have e2 : (-n).toNat = j + 1 := by omega
  have e3 : n.toNat = 0 := by omega
  have e4 : (-(n + 1)).toNat = j := by omega
  rw [e1, e2, e3, e4, Nat.pow_succ, Nat.pow_zero]
  omega
 ·have e1 : (n + 1).toNat = n.toNat + 1 := by omega
  have e2 : (-n).toNat = 0 := by omega
  have e4 : (-(n + 1)).toNat = 0 := by omega
  rw [e1, e2, e4, Nat.pow_succ]
  omega
/-- below 10 ^ n -/
def Bl (F : Nat) (n : Int) : Prop := F * T (-n) < Q * T n
theorem Bl.up {F : Nat} {n : Int} (h : Bl F n) : Bl F (n + 1) := by
 unfold Bl at *
 have h1 := T_succ n
 refine Nat.lt_of_mul_lt_mul_right (a := T (-n)) ?_
 rw [Nat.mul_assoc Q, h1]
 have h2 : F * T (-n) * T (-(n + 1)) < Q * T n * T (-(n + 1)) := Nat.mul_lt_mul_of_pos_right h (T_pos _)
 have e1 : F * T (-(n + 1)) * T (-n) = F * T (-n) * T (-(n + 1)) := Nat.mul_right_comm _ _ _
 have e2 : Q * (10 * (T n * T (-(n + 1)))) = 10 * (Q * T n * T (-(n + 1))) := by grind
 rw [e1, e2]
 omega
theorem Bl.up_le {F : Nat} {n : Int} (h : Bl F n) (d : Nat) : Bl F (n + d) := by
 induction d with
 | zero => simpa using h
 | succ d ih =>
  have := ih.up
  have e : n + ((d + 1 : Nat) : Int) = n + d + 1 := by omega
  rw [e]
  exact this
/-- The n with 10^(n-1) ≤ x < 10^n. -/
structure Mag (F : Nat) (n : Int) : Prop where
 lt : Bl F n
 ge : ¬ Bl F (n - 1)
theorem Mag.uniq {F : Nat} {n m : Int} (h : Mag F n) (g : Mag F m) : n = m := by
 rcases Int.lt_trichotomy n m with hl | hl | hl
 ·exfalso
  have := h.lt.up_le (m - 1 - n).toNat
  have e : n + ((m - 1 - n).toNat : Int) = m - 1 := by omega
  rw [e] at this
  exact g.ge this
 ·exact hl
 ·exfalso
  have := g.lt.up_le (n - 1 - m).toNat
  have e : m + ((n - 1 - m).toNat : Int) = n - 1 := by omega
  rw [e] at this
  exact h.ge this
theorem cross_lt {a b F s t : Nat} (hb : 0 < b) (h : a * Q = F * b) : a * s < b * t ↔ F * s < Q * t := by
 have e1 : a * s * Q = F * s * b := by rw [Nat.mul_right_comm, h, Nat.mul_right_comm]
 have e2 : b * t * Q = Q * t * b := by rw [Nat.mul_comm (b * t), ← Nat.mul_assoc, Nat.mul_right_comm]
 constructor
 ·intro h1
  have h2 := Nat.mul_lt_mul_of_pos_right h1 Q_pos
  rw [e1, e2] at h2
  exact Nat.lt_of_mul_lt_mul_right h2
 ·intro h1
  have h2 := Nat.mul_lt_mul_of_pos_right h1 hb
  rw [← e1, ← e2] at h2
  exact Nat.lt_of_mul_lt_mul_right h2
/-- F is at most that of the greatest float64. -/
def Fi (F : Nat) : Prop := 0 < F ∧ F < pow2 1024 * Q
theorem fin_of {M r : Nat} (hc : Can M r) (h0 : 0 < M) (hx : bitsOf M r < 9218868437227405312) : Fi (M * 2 ^ r) := by
 have hr : r ≤ 2045 := by
  have := hc.ge
  unfold bitsOf at hx
  omega
 refine ⟨Nat.mul_pos h0 (Nat.two_pow_pos _), ?_⟩
 have h1 : M * 2 ^ r < 2 ^ 53 * 2 ^ r := Nat.mul_lt_mul_of_pos_right (by have := hc.lt; omega) (Nat.two_pow_pos _)
 have h2 : ∀ n, 53 + r ≤ n + 1074 → 2 ^ 53 * 2 ^ r ≤ pow2 n * Q := fun n hn => by
  rw [Q_mul n, ← Nat.pow_add]
  exact Nat.pow_le_pow_right (by omega) hn
 have h3 := h2 1024 (by omega)
 omega
theorem tab400 : pow2 1024 < T 400 ∧ T (-400) = 1 := by decide +kernel
theorem Fi.top {F : Nat} (h : Fi F) : Bl F 400 := by
 unfold Bl
 rw [tab400.2, Nat.mul_one, Nat.mul_comm Q]
 exact Nat.lt_trans h.2 (Nat.mul_lt_mul_of_pos_right tab400.1 Q_pos)
theorem tabm : pow2 1074 < T (-(-400)) ∧ T (-400) = 1 := by decide +kernel
theorem Fi.bot {F : Nat} (h : Fi F) : ¬ Bl F (-400) := by
 unfold Bl
 rw [tabm.2, Nat.mul_one]
 have h1 : 1 * T (-(-400)) ≤ F * T (-(-400)) := Nat.mul_le_mul_right _ h.1
 have h2 := tabm.1
 have e : pow2 1074 = Q := Q_eq.symm
 rw [e] at h2
 omega
theorem Mag.range {F : Nat} {n : Int} (hf : Fi F) (h : Mag F n) : -400 < n ∧ n ≤ 400 := by
 constructor
 ·apply Int.lt_of_not_ge
  intro hn
  have := h.lt.up_le (-400 - n).toNat
  have e : n + ((-400 - n).toNat : Int) = -400 := by omega
  rw [e] at this
  exact hf.bot this
 ·apply Int.le_of_not_gt
  intro hn
  have := hf.top.up_le (n - 1 - 400).toNat
  have e : (400 : Int) + ((n - 1 - 400).toNat : Int) = n - 1 := by omega
  rw [e] at this
  exact h.ge this
theorem mag_tab : (List.range 2200).all (fun i => decide (T (Int.tdiv (((i : Int) - 1100) * 30103) 100000 - 4) * 2 ^ (1 - ((i : Int) - 1100)).toNat ≤ 2 ^ (((i : Int) - 1100) - 1).toNat * T (-(Int.tdiv (((i : Int) - 1100) * 30103) 100000 - 4)))) = true := by decide +kernel
theorem mag_at (d : Int) (h1 : -1100 ≤ d) (h2 : d < 1100) : T (Int.tdiv (d * 30103) 100000 - 4) * 2 ^ (1 - d).toNat ≤ 2 ^ (d - 1).toNat * T (-(Int.tdiv (d * 30103) 100000 - 4)) := by
 have h := List.all_eq_true.1 mag_tab (d + 1100).toNat (List.mem_range.2 (by omega))
 have e : (((d + 1100).toNat : Nat) : Int) - 1100 = d := by omega
 rw [e] at h
 exact of_decide_eq_true h
theorem tdiv_range (d : Int) (h1 : -1100 ≤ d) (h2 : d < 1100) : -332 ≤ Int.tdiv (d * 30103) 100000 ∧ Int.tdiv (d * 30103) 100000 ≤ 332 := by
 rcases Int.lt_or_le d 0 with h | h
 ·have e : Int.tdiv (d * 30103) 100000 = -((-d * 30103) / 100000) := by
   have h3 : d * 30103 = -(-d * 30103) := by omega
   rw [h3, Int.neg_tdiv, Int.tdiv_eq_ediv_of_nonneg (by omega)]
  rw [e]
  omega
 ·rw [Int.tdiv_eq_ediv_of_nonneg (by omega)]
  omega
theorem magnitude_ev {la lb : List Int} {a b F : Nat} (ha : Rep P32 la a) (hb : Rep P32 lb b) (h0 : 0 < a) (hb0 : 0 < b) (hF : a * Q = F * b) (hf : Fi F) (hla : la.length ≤ 1000) (hlb : lb.length ≤ 1000) :
  ∃ n, Ev (fun k => note_magnitude.f k la lb) n ∧ Mag F n := by
 have hba := ha.blen_le
 have hbb := hb.blen_le
 have a1 := blen_lt a
 have a2 := blen_le (n := a) (by omega)
 have a3 := blen_pos (n := a) (by omega)
 have b1 := blen_lt b
 have b2 := blen_le (n := b) (by omega)
 have b3 := blen_pos (n := b) (by omega)
 have loop : ∀ (d : Nat) (n : Int), n + d = 400 → -340 ≤ n → ¬ Bl F (n - 1) → ∃ n', Ev (fun k => note_magnitude.l0 k la lb n) n' ∧ Mag F n' := by
  intro d
  have step : ∀ n : Int, -400 ≤ n → n ≤ 400 → ∃ A P, Ev (fun k => note_scaled.f k la (wrap64 (-n))) A ∧ Ev (fun k => note_whole_times.f k A.2 lb) P ∧ Ev (fun k => note_compare.f k A.1 P) (cmp (a * T (-n)) (T n * b)) := by
   intro n h1 h2
   rw [w64 (by omega) (by omega)]
   obtain ⟨A, B, k1, k2, k3, k4, k5⟩ := scaled_ev ha (-n) (by omega) (by omega) (by omega)
   obtain ⟨P, j1, j2, j3⟩ := times_rep k3 hb (by omega)
   rw [Int.neg_neg] at j2
   exact ⟨(A, B), P, k1, j1, compare_ev k2 j2 (by show A.length ≤ _; omega) (by omega)⟩
  have iff : ∀ n : Int, cmp (a * T (-n)) (T n * b) < 0 ↔ Bl F n := by
   intro n
   rw [cmp_neg, Nat.mul_comm (T n)]
   exact cross_lt hb0 hF
  induction d with
  | zero =>
   intro n hn hm hge
   obtain rfl : n = 400 := by omega
   obtain ⟨A, P, k1, k2, k3⟩ := step 400 (by omega) (by omega)
   exact ⟨400, Ev.succ (fun k => by rw [note_magnitude.l0]) (Ev.bind k1 (Ev.bind k2 (Ev.bind k3 (Ev.yes ((iff 400).2 hf.top) (Ev.const _))))), hf.top, hge⟩
  | succ d ih =>
   intro n hn hm hge
   obtain ⟨A, P, k1, k2, k3⟩ := step n (by omega) (by omega)
   by_cases h : Bl F n
   ·exact ⟨n, Ev.succ (fun k => by rw [note_magnitude.l0]) (Ev.bind k1 (Ev.bind k2 (Ev.bind k3 (Ev.yes ((iff n).2 h) (Ev.const _))))), h, hge⟩
   ·obtain ⟨n', g1, g2⟩ := ih (n + 1) (by omega) (by omega) (by rw [Int.add_sub_cancel]; exact h)
    refine ⟨n', Ev.succ (fun k => by rw [note_magnitude.l0]) (Ev.bind k1 (Ev.bind k2 (Ev.bind k3 (Ev.no (fun hh => h ((iff n).1 hh)) ?_)))), g2⟩
    rw [w64 (by omega) (by omega)]
    exact g1
 have hQ : ∀ c, 2 ^ c * Q = 2 ^ (1074 + c) := fun c => by rw [Q_more (r := 1074 + c) (j := c) (Eq.refl _), Nat.mul_comm]
 have d1 : (blen b : Int) - 1 < blen a + 1074 := by
  have h1 : 2 ^ (blen b - 1) < 2 ^ (1074 + blen a) := by
   have g1 : 1 * b ≤ F * b := Nat.mul_le_mul_right _ hf.1
   have g2 : a * Q < 2 ^ blen a * Q := Nat.mul_lt_mul_of_pos_right a1 Q_pos
   rw [hQ] at g2
   omega
  have := (Nat.pow_lt_pow_iff_right (by omega : 1 < 2)).1 h1
  omega
 have d2 : (blen a : Int) - 1 < 1024 + blen b := by
  have h1 : 2 ^ (blen a - 1) < 2 ^ (1024 + blen b) := by
   refine Nat.lt_of_mul_lt_mul_right (a := Q) ?_
   have g1 : 2 ^ (blen a - 1) * Q ≤ a * Q := Nat.mul_le_mul_right _ a2
   have g2 : F * b < pow2 1024 * Q * b := Nat.mul_lt_mul_of_pos_right hf.2 hb0
   have g3 : pow2 1024 * Q * b ≤ pow2 1024 * Q * 2 ^ blen b := Nat.mul_le_mul_left _ (Nat.le_of_lt b1)
   rw [pow2_add 1024 (blen b), Nat.mul_right_comm]
   omega
  have := (Nat.pow_lt_pow_iff_right (by omega : 1 < 2)).1 h1
  omega
 obtain ⟨d, hd⟩ : ∃ d : Int, d = (blen a : Int) - (blen b : Int) := ⟨_, rfl⟩
 obtain ⟨t1, t2⟩ := tdiv_range d (by omega) (by omega)
 have hstart : ¬ Bl F (Int.tdiv (d * 30103) 100000 - 3 - 1) := by
  have e0 : Int.tdiv (d * 30103) 100000 - 3 - 1 = Int.tdiv (d * 30103) 100000 - 4 := by omega
  rw [e0]
  have ht := mag_at d (by omega) (by omega)
  generalize Int.tdiv (d * 30103) 100000 - 4 = n at ht
  unfold Bl
  rw [← cross_lt (a := a) (b := b) hb0 hF]
  have hab : b * 2 ^ (d - 1).toNat ≤ a * 2 ^ (1 - d).toNat := by
   have g1 : b * 2 ^ (d - 1).toNat ≤ 2 ^ blen b * 2 ^ (d - 1).toNat := Nat.mul_le_mul_right _ (Nat.le_of_lt b1)
   have g2 : 2 ^ (blen a - 1) * 2 ^ (1 - d).toNat ≤ a * 2 ^ (1 - d).toNat := Nat.mul_le_mul_right _ a2
   rw [← Nat.pow_add] at g1 g2
   have e : blen b + (d - 1).toNat = blen a - 1 + (1 - d).toNat := by omega
   rw [e] at g1
   omega
  have h3 : b * T n * 2 ^ (1 - d).toNat ≤ a * T (-n) * 2 ^ (1 - d).toNat := by
   calc b * T n * 2 ^ (1 - d).toNat = b * (T n * 2 ^ (1 - d).toNat) := Nat.mul_assoc _ _ _
    _ ≤ b * (2 ^ (d - 1).toNat * T (-n)) := Nat.mul_le_mul_left _ ht
    _ = b * 2 ^ (d - 1).toNat * T (-n) := (Nat.mul_assoc _ _ _).symm
    _ ≤ a * 2 ^ (1 - d).toNat * T (-n) := Nat.mul_le_mul_right _ hab
    _ = a * T (-n) * 2 ^ (1 - d).toNat := Nat.mul_right_comm _ _ _
  have h4 := Nat.le_of_mul_le_mul_right h3 (Nat.two_pow_pos _)
  omega
 obtain ⟨n', h1, h2⟩ := loop (400 - (Int.tdiv (d * 30103) 100000 - 3)).toNat (Int.tdiv (d * 30103) 100000 - 3) (by omega) (by omega) hstart
 refine ⟨n', ?_, h2⟩
 unfold note_magnitude.f
 refine Ev.bind (Ev.of_eq (bits_ev ha (by omega))) (Ev.bind (Ev.of_eq (bits_ev hb (by omega))) ?_)
 rw [w64 (x := (blen a : Int) - (blen b : Int)) (by omega) (by omega), ← hd, w64 (x := d * 30103) (by omega) (by omega), w64 (x := Int.tdiv (d * 30103) 100000) (by omega) (by omega), w64 (x := Int.tdiv (d * 30103) 100000 - 3) (by omega) (by omega)]
 exact h1
end Go.Proofs.Ytlhciggmllddkaa.Pl
end
section
namespace Go.Proofs.Ytlhciggmllddkaa.Pl
open Go Go.RowKit Go.Proofs.YtlhciggmllddkaaW.PrintWords Go.Proofs.YtlhciggmllddkaaW.PrintLast Go.Proofs.YtlhciggmllddkaaW.PrintMore Go.Proofs.Ytlhciggmllddkaa.PNum Go.Proofs.Ytlhciggmllddkaa.PNub
set_option linter.unusedVariables false
set_option linter.unusedSimpArgs false
theorem sn_append (a b : List Int) : strOfNums a ++ strOfNums b = strOfNums (a ++ b) := by
  apply ByteArray.ext
  simp [strOfNums, ByteArray.data_append]
theorem sn_size (a : List Int) : (strOfNums a).size = a.length := strOfNums_size a
def dg (n : Nat) : List Int := if h : n < 10 then [48 + (n : Int)] else dg (n / 10) ++ [48 + ((n % 10 : Nat) : Int)]
termination_by n
decreasing_by omega
theorem dg_small {n : Nat} (h : n < 10) : dg n = [48 + (n : Int)] := by rw [dg, dif_pos h]
theorem dg_big {n : Nat} (h : ¬ n < 10) : dg n = dg (n / 10) ++ [48 + ((n % 10 : Nat) : Int)] := by rw [dg, dif_neg h]
theorem dg_len_le (j n : Nat) (h : n < 10 ^ (j + 1)) : (dg n).length ≤ j + 1 := by
  induction j generalizing n with
  | zero => rw [dg_small (by omega)]; simp
  | succ j ih =>
    by_cases h9 : n < 10
    · rw [dg_small h9]; simp
    · rw [dg_big h9, List.length_append]
      have := ih (n / 10) (by rw [Nat.pow_succ] at h; omega)
      simp
      omega
theorem dg_len (j n : Nat) (h1 : 10 ^ j ≤ n) (h : n < 10 ^ (j + 1)) : (dg n).length = j + 1 := by
  induction j generalizing n with
  | zero => rw [dg_small (by omega)]; simp
  | succ j ih =>
    have hp : 1 ≤ 10 ^ j := Nat.pow_pos (by omega)
    rw [Nat.pow_succ] at h1
    have h9 : ¬ n < 10 := by omega
    rw [dg_big h9, List.length_append, ih (n / 10) (by omega) (by rw [Nat.pow_succ] at h; omega)]
    rfl
theorem dg_wf (n : Nat) : ∀ x ∈ dg n, 48 ≤ x ∧ x ≤ 57 := by
  induction n using Nat.strongRecOn with
  | _ n ih =>
    by_cases h9 : n < 10
    · rw [dg_small h9]
      intro x hx
      simp at hx
      omega
    · rw [dg_big h9]
      intro x hx
      rcases List.mem_append.1 hx with h | h
      · exact ih (n / 10) (by omega) x h
      · simp at h
        omega
theorem decimal_ev (n : Nat) (h : n < 18446744073709551616) : Ev (fun k => note_decimal.f k (n : Int)) (strOfNums (dg n)) := by
  induction n using Nat.strongRecOn with
  | _ n ih =>
    by_cases h9 : n < 10
    · refine Ev.succ (fun k => by rw [note_decimal.f]) (Ev.yes (by omega) (Ev.of_eq ?_))
      rw [dg_small h9, wu64 (by omega) (by omega)]
      have : (48 + (n : Int)) % 256 = 48 + (n : Int) := by omega
      rw [this]
    · have h1 := ih (n / 10) (by omega) (by omega)
      have e1 : IntKind.u64.wrap (Int.tdiv (n : Int) 10) = ((n / 10 : Nat) : Int) := by
        rw [Int.tdiv_eq_ediv_of_nonneg (by omega), wu64 (by omega) (by omega)]
        omega
      refine Ev.succ (fun k => by rw [note_decimal.f]) (Ev.no ?_ ?_)
      · omega
      rw [e1]
      refine Ev.bind h1 (Ev.bind (Ev.const _) ?_)
      have e2 : IntKind.u64.wrap (48 + Int.tmod (n : Int) 10) % 256 = 48 + ((n % 10 : Nat) : Int) := by
        rw [Int.tmod_eq_emod_of_nonneg (by omega), wu64 (by omega) (by omega)]
        omega
      have hl := dg_len_le 20 (n / 10) (by omega)
      rw [e2, sn_size, sn_size, sn_append, ← dg_big h9]
      refine Ev.yes ?_ (Ev.const _)
      simp
      omega
theorem div_cross {a b c d : Nat} (hb : 0 < b) (hd : 0 < d) (h : a * d = c * b) : a / b = c / d ∧ a % b * d = c % d * b := by
  have h1 : a / b = c / d := by rw [← Nat.mul_div_mul_right a b hd, h, Nat.mul_comm b d, Nat.mul_div_mul_right c d hb]
  refine ⟨h1, ?_⟩
  rw [← Nat.mul_mod_mul_right, ← Nat.mul_mod_mul_right, h, Nat.mul_comm b d]
theorem cmp_cross {a b c d : Nat} (hb : 0 < b) (hd : 0 < d) (h : a % b * d = c % d * b) : cmp (2 * (a % b)) b = cmp (2 * (c % d)) d := by
  have h1 : (2 * (a % b)) * d = (2 * (c % d)) * b := by rw [Nat.mul_assoc, h, Nat.mul_assoc]
  generalize 2 * (a % b) = p at *
  generalize 2 * (c % d) = q at *
  have key : ∀ {p b q d : Nat}, 0 < b → 0 < d → p * d = q * b → (p < b ↔ q < d) := by
    intro p b q d hb hd h1
    constructor
    · intro h2
      have h3 := Nat.mul_lt_mul_of_pos_right h2 hd
      rw [h1, Nat.mul_comm b d] at h3
      exact Nat.lt_of_mul_lt_mul_right h3
    · intro h2
      have h3 := Nat.mul_lt_mul_of_pos_right h2 hb
      rw [← h1, Nat.mul_comm d b] at h3
      exact Nat.lt_of_mul_lt_mul_right h3
  rcases Nat.lt_trichotomy p b with h2 | h2 | h2
  · rw [cmp_lt h2, cmp_lt ((key hb hd h1).1 h2)]
  · subst h2
    have : q = d := Nat.eq_of_mul_eq_mul_right hb (by rw [← h1, Nat.mul_comm])
    rw [cmp_eq rfl, cmp_eq this]
  · have h3 : d < q := by
      refine Nat.lt_of_not_le (fun hle => ?_)
      have h4 := Nat.mul_le_mul_right b hle
      have h5 := Nat.mul_lt_mul_of_pos_right h2 hd
      rw [Nat.mul_comm b d] at h5
      omega
    rw [cmp_gt h2, cmp_gt h3]
/-- s * 10 ^ e is read as x. -/
def Fit (x s : Nat) (e : Int) : Prop := Rnd (s * T e) (T (-e)) x
noncomputable def cif {α : Type} (c : Prop) (a b : α) : α := @ite α c (Classical.propDecidable c) a b
theorem cif_pos {α : Type} {c : Prop} {a b : α} (h : c) : cif c a b = a := if_pos h
theorem cif_neg {α : Type} {c : Prop} {a b : α} (h : ¬ c) : cif c a b = b := if_neg h
/-- Which of two numbers of digits: P: the lower one is read as x; R: there is a rest, and the higher one is read as x. -/
noncomputable def pick2 (P R : Prop) (q r B : Nat) : Option Nat :=
  cif (P ∧ (¬ R ∨ 2 * r < B ∨ (2 * r = B ∧ q % 2 = 0))) (some q) (cif R (some (q + 1)) none)
/-- The digits that k of them come to, if there are any. -/
noncomputable def pk (F : Nat) (n : Int) (k : Nat) (x : Nat) : Option Nat :=
  pick2 (Fit x (F * T (k - n) / (Q * T (n - k))) (n - k)) (F * T (k - n) % (Q * T (n - k)) ≠ 0 ∧ Fit x (F * T (k - n) / (Q * T (n - k)) + 1) (n - k)) (F * T (k - n) / (Q * T (n - k))) (F * T (k - n) % (Q * T (n - k))) (Q * T (n - k))
theorem T_add (i j : Int) : T (i + j) * (T (-i) * T (-j)) = T i * T j * T (-(i + j)) := by
  have key : ∀ n : Int, ∃ p q : Nat, n = (p : Int) - q ∧ T n = 10 ^ p ∧ T (-n) = 10 ^ q := fun n => ⟨n.toNat, (-n).toNat, by omega, rfl, rfl⟩
  obtain ⟨p, q, h1, h2, h3⟩ := key i
  obtain ⟨r, s, g1, g2, g3⟩ := key j
  obtain ⟨u, v, f1, f2, f3⟩ := key (i + j)
  rw [h2, h3, g2, g3, f2, f3, ← Nat.pow_add, ← Nat.pow_add, ← Nat.pow_add, ← Nat.pow_add]
  congr 1
  omega
/-- The quotient has k digits. -/
theorem quo_range {F : Nat} {n : Int} (h : Mag F n) (k : Nat) (hk : 1 ≤ k) : 10 ^ (k - 1) ≤ F * T (k - n) / (Q * T (n - k)) ∧ F * T (k - n) / (Q * T (n - k)) < 10 ^ k := by
  have hB : 0 < Q * T (n - k) := Nat.mul_pos Q_pos (T_pos _)
  have up : ∀ (m : Int) (j : Nat), m + j = k → (F * T (-(n - m)) < Q * T (n - m) ↔ F * T (k - n) < 10 ^ j * (Q * T (n - k))) := by
    intro m j hj
    have e := T_add (n - m) (-(j : Int))
    have e1 : n - m + -(j : Int) = n - k := by omega
    have e2 : T (-(-(j : Int))) = 10 ^ j := by rw [Int.neg_neg]; rfl
    have e3 : T (-(j : Int)) = 1 := by
      unfold T
      have : (-(j : Int)).toNat = 0 := by omega
      rw [this, Nat.pow_zero]
    have e4 : -(n - (k : Int)) = k - n := by omega
    rw [e1, e2, e3, Nat.mul_one, e4] at e
    constructor
    · intro h1
      refine Nat.lt_of_mul_lt_mul_right (a := T (-(n - m))) ?_
      have h2 := Nat.mul_lt_mul_of_pos_right h1 (T_pos (k - n))
      calc F * T (k - n) * T (-(n - m)) = F * T (-(n - m)) * T (k - n) := Nat.mul_right_comm _ _ _
        _ < Q * T (n - m) * T (k - n) := h2
        _ = Q * (T (n - k) * (T (-(n - m)) * 10 ^ j)) := by rw [Nat.mul_assoc, e]
        _ = 10 ^ j * (Q * T (n - k)) * T (-(n - m)) := by grind
    · intro h1
      refine Nat.lt_of_mul_lt_mul_right (a := T (k - n)) ?_
      have h2 := Nat.mul_lt_mul_of_pos_right h1 (T_pos (-(n - m)))
      calc F * T (-(n - m)) * T (k - n) = F * T (k - n) * T (-(n - m)) := Nat.mul_right_comm _ _ _
        _ < 10 ^ j * (Q * T (n - k)) * T (-(n - m)) := h2
        _ = Q * (T (n - k) * (T (-(n - m)) * 10 ^ j)) := by grind
        _ = Q * T (n - m) * T (k - n) := by rw [Nat.mul_assoc, e]
  constructor
  · refine (Nat.le_div_iff_mul_le hB).2 ?_
    have h1 := h.ge
    unfold Bl at h1
    have h2 := up 1 (k - 1) (by omega)
    rw [h2] at h1
    exact Nat.le_of_not_lt h1
  · refine (Nat.div_lt_iff_lt_mul hB).2 ?_
    have h1 := h.lt
    unfold Bl at h1
    have e0 : n - 0 = n := by omega
    have h2 := up 0 k (by omega)
    rw [e0] at h2
    exact h2.1 h1
theorem fits_ev {x s : Nat} (hx : x < 9218868437227405312) (hs0 : 0 < s) (hs : s < 18446744073709551616) (n : Int) (k : Nat) (hn : -401 ≤ n) (hn2 : n ≤ 401) (hk : k ≤ 17) :
    ∃ b : Bool, Ev (fun f => note_fits.f f x n (k : Int) (s : Int)) b ∧ (b = true ↔ Fit x s (n - k)) := by
  obtain ⟨w, h1, h2, h3⟩ := wholeOf_ev s (by omega)
  obtain ⟨A, B, g1, g2, g3, g4, g5⟩ := scaled_ev h2 (n - k) (by omega) (by omega) (by omega)
  obtain ⟨y, hy⟩ := Rnd.exists (a := s * T (n - k)) (b := T (-(n - k))) (T_pos _)
  have hr := round_ev g2 g3 (by omega) (by omega) (Nat.mul_pos hs0 (T_pos _)) (T_pos _) hy
  have e1 : wrap64 (n - k) = n - k := w64 (by omega) (by omega)
  by_cases hyb : y < 9218868437227405312
  · rw [if_pos hyb] at hr
    refine ⟨decide (y = x), ?_, ?_⟩
    · unfold note_fits.f
      refine Ev.bind h1 ?_
      rw [e1]
      refine Ev.bind g1 (Ev.bind hr ?_)
      dsimp only
      rw [Bool.true_and, feq_pos hyb hx]
      exact Ev.const _
    · rw [decide_eq_true_iff]
      constructor
      · intro h; subst h; exact hy
      · intro h; exact hy.uniq h
  · rw [if_neg hyb] at hr
    refine ⟨false, ?_, ?_⟩
    · unfold note_fits.f
      refine Ev.bind h1 ?_
      rw [e1]
      refine Ev.bind g1 (Ev.bind hr ?_)
      exact Ev.const _
    · constructor
      · intro h; cases h
      · intro h
        have := hy.uniq h
        omega
theorem tens_ev (k : Nat) (hk : k ≤ 18) : Ev (fun f => note_tens f (k : Int) 0 1) (((10 ^ k : Nat)) : Int) := by
  have key : ∀ d i : Nat, i + d = k → Ev (fun f => note_tens f (k : Int) (i : Int) ((10 ^ i : Nat) : Int)) (((10 ^ k : Nat)) : Int) := by
    intro d
    induction d with
    | zero =>
      intro i hi
      obtain rfl : i = k := by omega
      exact Ev.succ (fun f => by rw [note_tens]) (Ev.no (Int.lt_irrefl _) (Ev.const _))
    | succ d ih =>
      intro i hi
      have h1 := ih (i + 1) (by omega)
      refine Ev.succ (fun f => by rw [note_tens]) (Ev.yes ?_ ?_)
      · omega
      have h18 : 10 ^ i ≤ 10 ^ 17 := Nat.pow_le_pow_right (by omega) (by omega)
      have e1 : wrap64 ((i : Int) + 1) = ((i + 1 : Nat) : Int) := by rw [w64 (by omega) (by omega)]; omega
      have e2 : IntKind.u64.wrap (((10 ^ i : Nat) : Int) * 10) = ((10 ^ (i + 1) : Nat) : Int) := by
        rw [Nat.pow_succ]
        generalize 10 ^ i = p at *
        rw [wu64 (by omega) (by omega)]
        omega
      rw [e1, e2]
      exact h1
  exact key k 0 (by omega)
/-- What a step of shortest comes to. -/
def stepOut (n : Int) (k : Nat) : Option Nat → ByteArray × Int × Bool
  | some s => if s = 10 ^ k then (strOfNums (dg (10 ^ (k - 1))), n + 1, true) else (strOfNums (dg s), n, true)
  | none => (⟨#[]⟩, 0, false)
theorem pick_ev {n : Int} (hn : -400 < n) (hn2 : n ≤ 400) {q k BB r : Nat} (hk1 : 1 ≤ k) (hk : k ≤ 17) (q2 : q < 10 ^ k) {P R : Prop} (lf hf : Bool) (hlf : lf = true ↔ P) (hhf : hf = true ↔ R) :
    Ev (fun f => note_pick f n (q : Int) ((10 ^ k : Nat) : Int) lf hf (cmp (2 * r) BB)) (stepOut n k (pick2 P R q r BB)) := by
  have h17 : 10 ^ k ≤ 10 ^ 17 := Nat.pow_le_pow_right (by omega) hk
  have e0 : Go.bits .and .u64 (q : Int) 1 = (q : Int) % 2 := and_u64_one _ (by omega) (by omega)
  have e1 : IntKind.u64.wrap ((q : Int) + 1) = ((q + 1 : Nat) : Int) := by rw [wu64 (by omega) (by omega)]; omega
  have e2 : IntKind.u64.wrap (Int.tdiv ((10 ^ k : Nat) : Int) 10) = ((10 ^ (k - 1) : Nat) : Int) := by
    obtain ⟨j, rfl⟩ : ∃ j, k = j + 1 := ⟨k - 1, by omega⟩
    rw [Int.tdiv_eq_ediv_of_nonneg (by omega), wu64 (by omega) (by omega), Nat.add_sub_cancel, Nat.pow_succ]
    omega
  have e3 : wrap64 (n + 1) = n + 1 := w64 (by omega) (by omega)
  have hp : 10 ^ (k - 1) ≤ 10 ^ k := Nat.pow_le_pow_right (by omega) (by omega)
  have hc : (lf && (!hf || decide (cmp (2 * r) BB < 0) || (cmp (2 * r) BB == 0 && Go.bits .and .u64 (q : Int) 1 == 0))) = true ↔ P ∧ (¬ R ∨ 2 * r < BB ∨ (2 * r = BB ∧ q % 2 = 0)) := by
    rw [e0]
    have k1 : decide (cmp (2 * r) BB < 0) = true ↔ 2 * r < BB := by rw [decide_eq_true_iff]; exact cmp_neg
    have k2 : (cmp (2 * r) BB == 0) = true ↔ 2 * r = BB := by rw [beq_iff_eq]; exact cmp_zero
    have k3 : (((q : Int) % 2) == 0) = true ↔ q % 2 = 0 := by rw [beq_iff_eq]; omega
    have k4 : (!hf) = true ↔ ¬ R := by rw [← hhf]; cases hf <;> simp
    rw [Bool.and_eq_true, Bool.or_eq_true, Bool.or_eq_true, Bool.and_eq_true, k1, k2, k3, k4, hlf, or_assoc]
  unfold note_pick pick2
  by_cases h1 : P ∧ (¬ R ∨ 2 * r < BB ∨ (2 * r = BB ∧ q % 2 = 0))
  · rw [cif_pos h1]
    refine Ev.yes (hc.2 h1) (Ev.bind (decimal_ev q (by omega)) ?_)
    unfold stepOut
    dsimp only
    rw [if_neg (by omega)]
    exact Ev.const _
  · rw [cif_neg h1]
    refine Ev.no (fun h => h1 (hc.1 h)) ?_
    rw [e1, e2, e3]
    by_cases h2 : R
    · rw [cif_pos h2]
      have hh := hhf.2 h2
      unfold stepOut
      dsimp only
      by_cases h3 : q + 1 = 10 ^ k
      · rw [if_pos h3]
        refine Ev.yes ?_ (Ev.bind (decimal_ev (10 ^ (k - 1)) (by omega)) (Ev.const _))
        rw [hh, h3]
        simp
      · rw [if_neg h3]
        refine Ev.no ?_ (Ev.yes hh (Ev.bind (decimal_ev (q + 1) (by omega)) (Ev.const _)))
        rw [hh, Bool.true_and, beq_iff_eq]
        omega
    · rw [cif_neg h2]
      have hh : hf = false := by cases hf; · rfl
                                 · exact absurd (hhf.1 rfl) h2
      refine Ev.no ?_ (Ev.no ?_ (Ev.const _))
      · rw [hh]; simp
      · rw [hh]; simp
theorem digitsOf_ev {la lb : List Int} {a b F x : Nat} (ha : Rep P32 la a) (hb : Rep P32 lb b) (h0 : 0 < a) (hb0 : 0 < b) (hF : a * Q = F * b) (hla : la.length ≤ 100) (hlb : lb.length ≤ 100) (hx : x < 9218868437227405312) {n : Int} (hm : Mag F n) (hn : -400 < n) (hn2 : n ≤ 400) (k : Nat) (hk1 : 1 ≤ k) (hk : k ≤ 17) :
    Ev (fun f => note_digitsOf.f f x la lb n (k : Int)) (stepOut n k (pk F n k x)) := by
  obtain ⟨A, B, g1, g2, g3, g4, g5⟩ := scaled_ev ha (k - n) (by omega) (by omega) (by omega)
  obtain ⟨D, j1, j2, j3⟩ := times_rep g3 hb (by omega)
  have hB : 0 < 10 ^ (-((k : Int) - n)).toNat * b := Nat.mul_pos (Nat.pow_pos (by omega)) hb0
  have hD : 0 < Q * T (n - k) := Nat.mul_pos Q_pos (T_pos _)
  have eneg : -((k : Int) - n) = n - k := by omega
  have hcr : a * 10 ^ ((k : Int) - n).toNat * (Q * T (n - k)) = F * T (k - n) * (10 ^ (-((k : Int) - n)).toNat * b) := by
    rw [eneg]
    show a * T (k - n) * (Q * T (n - k)) = F * T (k - n) * (T (n - k) * b)
    have : a * T (k - n) * (Q * T (n - k)) = a * Q * T (k - n) * T (n - k) := by grind
    rw [this, hF]
    grind
  obtain ⟨hq, hr⟩ := div_cross hB hD hcr
  have hcmp := cmp_cross hB hD hr
  obtain ⟨q1, q2⟩ := quo_range hm k hk1
  have hr0 : a * 10 ^ ((k : Int) - n).toNat % (10 ^ (-((k : Int) - n)).toNat * b) = 0 ↔ F * T (k - n) % (Q * T (n - k)) = 0 := by
    constructor
    · intro h
      rw [h, Nat.zero_mul] at hr
      rcases Nat.mul_eq_zero.1 hr.symm with h2 | h2
      · exact h2
      · omega
    · intro h
      rw [h, Nat.zero_mul] at hr
      rcases Nat.mul_eq_zero.1 hr with h2 | h2
      · exact h2
      · omega
  have h17 : 10 ^ k ≤ 10 ^ 17 := Nat.pow_le_pow_right (by omega) hk
  have hp1 : 0 < 10 ^ (k - 1) := Nat.pow_pos (by omega)
  obtain ⟨R, d1, d2, d3⟩ := divide_ev g2 j2 (by omega) (by omega) hB (by rw [hq]; omega)
  rw [hq] at d1
  obtain ⟨R2, r1, r2, r3⟩ := raised_ev d2 1 (by omega)
  have hc := compare_ev r2 j2 (by omega) (by omega)
  rw [Nat.pow_one, Nat.mul_comm _ 2, hcmp] at hc
  have hbits := bits_ev d2 (by omega)
  have hbz : (blen (a * 10 ^ ((k : Int) - n).toNat % (10 ^ (-((k : Int) - n)).toNat * b)) : Int) > 0 ↔ F * T (k - n) % (Q * T (n - k)) ≠ 0 := by
    rw [Ne, ← hr0]
    constructor
    · intro h h2
      rw [h2, blen_zero] at h
      omega
    · intro h
      have := blen_pos h
      omega
  obtain ⟨lf, l1, l2⟩ := fits_ev (s := F * T (k - n) / (Q * T (n - k))) hx (by omega) (by omega) n k (by omega) (by omega) hk
  obtain ⟨hf, f1, f2⟩ := fits_ev (s := F * T (k - n) / (Q * T (n - k)) + 1) hx (by omega) (by omega) n k (by omega) (by omega) hk
  have hgt := tens_ev k (by omega)
  have et : IntKind.u64.wrap (Int.tdiv ((10 ^ k : Nat) : Int) 10) = ((10 ^ (k - 1) : Nat) : Int) := by
    obtain ⟨j, rfl⟩ : ∃ j, k = j + 1 := ⟨k - 1, by omega⟩
    rw [Int.tdiv_eq_ediv_of_nonneg (by omega), wu64 (by omega) (by omega), Nat.add_sub_cancel, Nat.pow_succ]
    omega
  have e1 : IntKind.u64.wrap (((F * T (k - n) / (Q * T (n - k)) : Nat) : Int) + 1) = ((F * T (k - n) / (Q * T (n - k)) + 1 : Nat) : Int) := by rw [wu64 (by omega) (by omega)]; omega
  have ed : wrap64 ((k : Int) - n) = k - n := w64 (by omega) (by omega)
  have hfin : ∃ hf' : Bool, Ev (fun f => if (blen (a * 10 ^ ((k : Int) - n).toNat % (10 ^ (-((k : Int) - n)).toNat * b)) : Int) > 0 then note_fits.f f x n (k : Int) (IntKind.u64.wrap (((F * T (k - n) / (Q * T (n - k)) : Nat) : Int) + 1)) else some false) hf' ∧ (hf' = true ↔ F * T (k - n) % (Q * T (n - k)) ≠ 0 ∧ Fit x (F * T (k - n) / (Q * T (n - k)) + 1) (n - k)) := by
    rw [e1]
    by_cases hz : F * T (k - n) % (Q * T (n - k)) ≠ 0
    · exact ⟨hf, Ev.yes (hbz.2 hz) f1, by rw [f2]; exact ⟨fun h => ⟨hz, h⟩, fun h => h.2⟩⟩
    · refine ⟨false, Ev.no (fun h => hz (hbz.1 h)) (Ev.const _), ⟨fun h => (by cases h), fun h => absurd h.1 hz⟩⟩
  obtain ⟨hf', f1', f2'⟩ := hfin
  unfold note_digitsOf.f pk
  rw [ed]
  refine Ev.bind g1 (Ev.bind j1 (Ev.bind d1 (Ev.bind hgt (Ev.bind (a := lf) (Ev.yes ?_ l1) (Ev.bind (Ev.of_eq hbits) (Ev.bind f1' (Ev.bind r1 (Ev.bind hc ?_))))))))
  · rw [et]
    show ((10 ^ (k - 1) : Nat) : Int) ≤ _
    omega
  · exact pick_ev hn hn2 hk1 hk q2 lf hf' l2 f2'
end Go.Proofs.Ytlhciggmllddkaa.Pl
end
section
namespace Go.Proofs.Ytlhciggmllddkaa.Pl
open Go Go.RowKit Go.Proofs.YtlhciggmllddkaaW.PrintWords Go.Proofs.YtlhciggmllddkaaW.PrintLast Go.Proofs.YtlhciggmllddkaaW.PrintMore Go.Proofs.Ytlhciggmllddkaa.PNum Go.Proofs.Ytlhciggmllddkaa.PNub
set_option linter.unusedVariables false
set_option linter.unusedSimpArgs false
noncomputable def srch (F : Nat) (n : Int) (x : Nat) : Nat → Nat → Option (Nat × Nat)
 | 0, _ => none
 | d + 1, k => match pk F n k x with
  | some s => some (k, s)
  | none => srch F n x d (k + 1)
def sOut (n : Int) : Option (Nat × Nat) → ByteArray × Int
 | some (k, s) => if s = 10 ^ k then (strOfNums (dg (10 ^ (k - 1))), n + 1) else (strOfNums (dg s), n)
 | none => (⟨#[]⟩, 0)
theorem sOut_top {n : Int} {k s : Nat} (h : s = 10 ^ k) : sOut n (some (k, s)) = (strOfNums (dg (10 ^ (k - 1))), n + 1) ∧ stepOut n k (some s) = (strOfNums (dg (10 ^ (k - 1))), n + 1, true) := ⟨if_pos h, if_pos h⟩
theorem sOut_one {n : Int} {k s : Nat} (h : ¬ s = 10 ^ k) : sOut n (some (k, s)) = (strOfNums (dg s), n) ∧ stepOut n k (some s) = (strOfNums (dg s), n, true) := ⟨if_neg h, if_neg h⟩
theorem srch_zero (F : Nat) (n : Int) (x k : Nat) : srch F n x 0 k = none := rfl
theorem srch_found {F : Nat} {n : Int} {x d k s : Nat} (h : pk F n k x = some s) : srch F n x (d + 1) k = some (k, s) := by
 rw [srch, h]
theorem srch_more {F : Nat} {n : Int} {x d k : Nat} (h : pk F n k x = none) : srch F n x (d + 1) k = srch F n x d (k + 1) := by
 rw [srch, h]
theorem sOut_none (n : Int) : sOut n none = (⟨#[]⟩, 0) := rfl
theorem stepOut_none (n : Int) (k : Nat) : stepOut n k none = (⟨#[]⟩, 0, false) := rfl
theorem shortest_loop {la lb : List Int} {a b F x : Nat} (ha : Rep P32 la a) (hb : Rep P32 lb b) (h0 : 0 < a) (hb0 : 0 < b) (hF : a * Q = F * b) (hla : la.length ≤ 100) (hlb : lb.length ≤ 100) (hx : x < 9218868437227405312) {n : Int} (hm : Mag F n) (hn : -400 < n) (hn2 : n ≤ 400) :
  ∀ d k : Nat, d + k = 18 → 1 ≤ k → Ev (fun f => note_shortest.l0 f x la lb n (k : Int)) (sOut n (srch F n x d k)) := by
 intro d
 induction d with
 | zero =>
  intro k hk hk1
  rw [srch_zero, sOut_none]
  refine Ev.succ (fun f => by rw [note_shortest.l0]) (Ev.no ?_ (Ev.const _))
  omega
 | succ d ih =>
  intro k hk hk1
  have hk17 : (k : Int) ≤ 17 := by omega
  have hk17n : k ≤ 17 := by omega
  have hdk : d + (k + 1) = 18 := by omega
  have h1 := digitsOf_ev ha hb h0 hb0 hF hla hlb hx hm hn hn2 k hk1 hk17n
  have ih1 := ih (k + 1) hdk (Nat.le_add_left 1 k)
  have e : wrap64 ((k : Int) + 1) = ((k + 1 : Nat) : Int) := by
   clear hF h1 ih1 ih
   rw [w64 (by omega) (by omega)]
   omega
  refine Ev.succ (g := fun f => if (k : Int) ≤ 17 then ((note_digitsOf.f f x la lb n k).bind fun bt108 => (if bt108.2.2 = true then (some (bt108.1, bt108.2.1)) else (note_shortest.l0 f x la lb n (wrap64 ((k : Int) + 1))))) else (some ((⟨#[]⟩ : ByteArray), 0))) (fun f => by rw [note_shortest.l0]) ?_
  refine Ev.yes hk17 (Ev.bind h1 ?_)
  cases hp : pk F n k x with
  | none =>
   rw [srch_more hp, stepOut_none]
   refine Ev.no Bool.false_ne_true ?_
   rw [e]
   exact ih1
  | some s =>
   rw [srch_found hp]
   by_cases hs : s = 10 ^ k
   ·rw [(sOut_top hs).1, (sOut_top hs).2]
    exact Ev.yes rfl (Ev.const _)
   ·rw [(sOut_one hs).1, (sOut_one hs).2]
    exact Ev.yes rfl (Ev.const _)
theorem shortest_ev {M r : Nat} (hc : Can M r) (h0 : 0 < M) (hx : bitsOf M r < 9218868437227405312) :
  ∃ n, Mag (M * 2 ^ r) n ∧ Ev (fun f => note_shortest.f f (bitsOf M r)) (sOut n (srch (M * 2 ^ r) n (bitsOf M r) 17 1)) := by
 have hf := fin_of hc h0 hx
 obtain ⟨la, lb, a, b, h1, h2, h3, h4, h5, h6, h7, h8⟩ := fraction_ev hc h0 hx
 obtain ⟨n, g1, g2⟩ := magnitude_ev h2 h3 h4 h5 h6 hf (by omega) (by omega)
 obtain ⟨r1, r2⟩ := g2.range hf
 have h9 := shortest_loop h2 h3 h4 h5 h6 (by omega) (by omega) hx g2 r1 r2 17 1 (by omega) (by omega)
 refine ⟨n, g2, ?_⟩
 unfold note_shortest.f
 exact Ev.bind h1 (Ev.bind g1 h9)
theorem pick2_none {P R : Prop} {q r B : Nat} (h : pick2 P R q r B = none) : ¬ P ∧ ¬ R := by
 unfold pick2 at h
 by_cases h1 : P ∧ (¬ R ∨ 2 * r < B ∨ (2 * r = B ∧ q % 2 = 0))
 ·rw [cif_pos h1] at h; cases h
 ·rw [cif_neg h1] at h
  by_cases h2 : R
  ·rw [cif_pos h2] at h; cases h
  ·exact ⟨fun hp => h1 ⟨hp, .inl h2⟩, h2⟩
theorem pick2_some {P R : Prop} {q r B s : Nat} (h : pick2 P R q r B = some s) : (s = q ∧ P) ∨ (s = q + 1 ∧ R) := by
 unfold pick2 at h
 by_cases h1 : P ∧ (¬ R ∨ 2 * r < B ∨ (2 * r = B ∧ q % 2 = 0))
 ·rw [cif_pos h1] at h
  exact .inl ⟨(Option.some.inj h).symm, h1.1⟩
 ·rw [cif_neg h1] at h
  by_cases h2 : R
  ·rw [cif_pos h2] at h
   exact .inr ⟨(Option.some.inj h).symm, h2⟩
  ·rw [cif_neg h2] at h; cases h
theorem Fit.ten {x s : Nat} {e : Int} (h : Fit x (10 * s) e) : Fit x s (e + 1) := by
 unfold Fit at *
 refine h.cross (T_pos _) (T_pos _) ?_
 have h1 := T_succ e
 calc 10 * s * T e * T (-(e + 1)) = s * (10 * (T e * T (-(e + 1)))) := by grind
  _ = s * T (e + 1) * T (-e) := by rw [← h1]; grind
theorem pk_next {F x : Nat} {n : Int} {k s : Nat} (h : pk F n k x = none) (h2 : pk F n (k + 1) x = some s) : s % 10 ≠ 0 := by
 intro hs
 obtain ⟨g1, g2⟩ := pick2_none h
 have hB : 0 < Q * T (n - k) := Nat.mul_pos Q_pos (T_pos _)
 have hB2 : 0 < Q * T (n - (k + 1 : Nat)) := Nat.mul_pos Q_pos (T_pos _)
 have hAB : F * T ((k + 1 : Nat) - n) * (Q * T (n - k)) = 10 * (F * T (k - n)) * (Q * T (n - (k + 1 : Nat))) := by
  have e := T_succ (k - n)
  have e1 : (k : Int) - n + 1 = (k + 1 : Nat) - n := by omega
  have e2 : -((k : Int) - n) = n - k := by omega
  have e3 : -((k : Int) - n + 1) = n - (k + 1 : Nat) := by omega
  rw [e3, e1, e2] at e
  calc F * T ((k + 1 : Nat) - n) * (Q * T (n - k)) = F * Q * (T ((k + 1 : Nat) - n) * T (n - k)) := by grind
   _ = 10 * (F * T (k - n)) * (Q * T (n - (k + 1 : Nat))) := by rw [e]; grind
 have e4 : n - (k + 1 : Nat) + 1 = n - k := by omega
 have hp := pick2_some h2
 obtain ⟨d1, d2⟩ := div_cross hB2 hB hAB
 generalize F * T ((k + 1 : Nat) - n) = A' at *
 generalize Q * T (n - (k + 1 : Nat)) = B' at *
 generalize F * T (k - n) = A at *
 generalize Q * T (n - k) = B at *
 have m1 := Nat.div_add_mod A B
 have m2 := Nat.mod_lt A hB
 have m3 := Nat.div_add_mod (10 * A) B
 have m4 := Nat.mod_lt (10 * A) hB
 have hq : 10 * (A / B) ≤ 10 * A / B ∧ 10 * A / B < 10 * (A / B) + 10 := by
  constructor
  ·refine (Nat.le_div_iff_mul_le hB).2 ?_
   rw [Nat.mul_assoc, Nat.mul_comm (A / B)]
   omega
  ·refine (Nat.div_lt_iff_lt_mul hB).2 ?_
   have : (10 * (A / B) + 10) * B = 10 * (B * (A / B)) + 10 * B := by grind
   rw [this]
   omega
 rw [d1] at hp
 rcases hp with ⟨h3, h4⟩ | ⟨h3, h4⟩
 ·have e5 : 10 * A / B = 10 * (A / B) := by omega
  rw [e5] at h4
  have := h4.ten
  rw [e4] at this
  exact g1 this
 ·have e5 : 10 * A / B + 1 = 10 * (A / B + 1) := by omega
  rw [e5] at h4
  have := h4.2.ten
  rw [e4] at this
  refine g2 ⟨fun hz => ?_, this⟩
  rw [hz, Nat.add_zero] at m1
  have e6 : 10 * A / B = 10 * (A / B) := by
   have e7 : 10 * A = 10 * (A / B) * B := by rw [Nat.mul_assoc, Nat.mul_comm (A / B), m1]
   rw [e7, Nat.mul_div_cancel _ hB]
  omega
theorem srch_some {F x : Nat} {n : Int} (hm : Mag F n) {k s : Nat} (h : srch F n x 17 1 = some (k, s)) : 1 ≤ k ∧ k ≤ 17 ∧ pk F n k x = some s ∧ 10 ^ (k - 1) ≤ s ∧ s ≤ 10 ^ k ∧ (k = 1 ∨ s % 10 ≠ 0) := by
 have key : ∀ d j, d + j = 18 → 1 ≤ j → (j = 1 ∨ pk F n (j - 1) x = none) → srch F n x d j = some (k, s) → 1 ≤ k ∧ k ≤ 17 ∧ pk F n k x = some s ∧ 10 ^ (k - 1) ≤ s ∧ s ≤ 10 ^ k ∧ (k = 1 ∨ s % 10 ≠ 0) := by
  intro d
  induction d with
  | zero => intro j hj h1 hp h; cases h
  | succ d ih =>
   intro j hj h1 hp h
   cases hpk : pk F n j x with
   | none =>
    rw [srch_more hpk] at h
    exact ih (j + 1) (by omega) (by omega) (.inr (by rw [Nat.add_sub_cancel]; exact hpk)) h
   | some s' =>
    rw [srch_found hpk] at h
    obtain ⟨rfl, rfl⟩ : j = k ∧ s' = s := by
     have h := Option.some.inj h
     exact ⟨congrArg Prod.fst h, congrArg Prod.snd h⟩
    obtain ⟨q1, q2⟩ := quo_range hm j h1
    have hs := pick2_some hpk
    refine ⟨h1, by omega, hpk, ?_, ?_, ?_⟩
    ·rcases hs with h | h <;> omega
    ·rcases hs with h | h <;> omega
    ·rcases hp with hp | hp
     ·exact .inl hp
     ·refine .inr ?_
      have e : j - 1 + 1 = j := by omega
      exact pk_next (k := j - 1) hp (by rw [e]; exact hpk)
 exact key 17 1 (by omega) (by omega) (.inl rfl) h
end Go.Proofs.Ytlhciggmllddkaa.Pl
end
section
namespace Go.Proofs.Ytlhciggmllddkaa.Pl
open Go Go.RowKit Go.Proofs.YtlhciggmllddkaaW.PrintWords Go.Proofs.YtlhciggmllddkaaW.PrintLast Go.Proofs.YtlhciggmllddkaaW.PrintMore Go.Proofs.Ytlhciggmllddkaa.PNum
set_option linter.unusedVariables false
set_option linter.unusedSimpArgs false
theorem small_ev (n : Nat) (hn : n < 4722366482869645213696) (hn2 : n < 9223372036854775808) : ∃ r, Ev (fun k => graftref9_small.f k (n : Int)) r ∧ Rep P24 r n ∧ r.length ≤ 3 := by
 have key : ∀ (d x : Nat) (out : List Int), x < 16777216 ^ d → d + out.length ≤ 3 → x < 9223372036854775808 → Wf P24 out → (x = 0 → Nz out) →
   ∃ r, Ev (fun k => graftref9_small.l0 k (x : Int) out) r ∧ Wf P24 r ∧ Nz r ∧ val P24 r = val P24 out + x * P24 ^ out.length ∧ r.length ≤ 3 := by
  intro d
  induction d with
  | zero =>
   intro x out hx hl hx2 hw hz
   obtain rfl : x = 0 := by simpa using hx
   exact ⟨out, Ev.succ (fun k => by rw [graftref9_small.l0]) (Ev.no (by omega) (Ev.const _)), hw, hz rfl, by simp, by omega⟩
  | succ d ih =>
   intro x out hx hl hx2 hw hz
   by_cases h0 : x = 0
   ·subst h0
    exact ⟨out, Ev.succ (fun k => by rw [graftref9_small.l0]) (Ev.no (by omega) (Ev.const _)), hw, hz rfl, by simp, by omega⟩
   ·have e1 : wrap64 (Int.tdiv (x : Int) 16777216) = ((x / 16777216 : Nat) : Int) := by
     rw [Int.tdiv_eq_ediv_of_nonneg (by omega), w64 (by omega) (by omega)]
     omega
    have e2 : Int.tmod (x : Int) 16777216 = ((x % 16777216 : Nat) : Int) := by
     rw [Int.tmod_eq_emod_of_nonneg (by omega)]
     omega
    obtain ⟨r, h1, h2, h3, h4, h5⟩ := ih (x / 16777216) (out ++ [((x % 16777216 : Nat) : Int)]) (by rw [Nat.pow_succ] at hx; omega) (by simp; omega) (by omega) (hw.append (Wf.cons (by omega) (by show _ < (16777216 : Int); omega) Wf.nil)) (fun h => Nz.snoc (by omega))
    refine ⟨r, Ev.succ (fun k => by rw [graftref9_small.l0]) (Ev.yes (by omega) (Ev.yes (by omega) ?_)), h2, h3, ?_, h5⟩
    ·rw [e1, e2]
     exact h1
    ·rw [h4, val_append, List.length_append, List.length_singleton, Int.pow_succ]
     simp only [val]
     have e3 : (x : Int) = 16777216 * ((x / 16777216 : Nat) : Int) + ((x % 16777216 : Nat) : Int) := by omega
     rw [e3]
     generalize ((x / 16777216 : Nat) : Int) = p
     generalize ((x % 16777216 : Nat) : Int) = q
     show _ + _ * (q + 16777216 * 0) + p * (_ * 16777216) = _
     grind
 obtain ⟨r, h1, h2, h3, h4, h5⟩ := key 3 n [] (by rw [show 16777216 ^ 3 = 4722366482869645213696 from by decide]; exact hn) (by simp) hn2 Wf.nil (fun _ => Nz.nil)
 refine ⟨r, h1, ⟨h2, h3, ?_⟩, h5⟩
 rw [h4]
 simp [val]
theorem rtimes_ev {l : List Int} {m : Nat} (hl : Rep P24 l m) (hlen : l.length ≤ 1000000000) (y c : Nat) (hy : y ≤ 1048576) (hc : c ≤ 16777216) :
  ∃ r, Ev (fun k => graftref9_times.f k l (y : Int) (c : Int)) r ∧ Rep P24 r (m * y + c) ∧ r.length ≤ l.length + 2 := by
 have strip : ∀ (out : List Int), out.length ≤ l.length + 2 → Wf P24 out → val P24 out = ((m * y + c : Nat) : Int) → ∃ r, Ev (fun k => graftref9_times.l2 k out) r ∧ Rep P24 r (m * y + c) ∧ r.length ≤ l.length + 2 := by
  intro out ho hw hv
  obtain ⟨r, h1, h2, h3, h4, h5⟩ := strip_ev (B := P24) (G := graftref9_times.l2) (fun k x0 => by rw [graftref9_times.l2]) out.length out rfl (by omega) hw
  exact ⟨r, h1, ⟨h2, h3, h4.trans hv⟩, by omega⟩
 have carry : ∀ (d x : Nat) (out : List Int), x < 16777216 ^ d → x ≤ 16777216 → d + out.length ≤ l.length + 2 → Wf P24 out → val P24 out + x * P24 ^ out.length = ((m * y + c : Nat) : Int) →
   ∃ r, Ev (fun k => graftref9_times.l1 k (x : Int) out) r ∧ Rep P24 r (m * y + c) ∧ r.length ≤ l.length + 2 := by
  intro d
  induction d with
  | zero =>
   intro x out hx hx2 hd hw hv
   obtain rfl : x = 0 := by simpa using hx
   obtain ⟨r, h1, h2, h3⟩ := strip out (by omega) hw (by simpa using hv)
   exact ⟨r, Ev.succ (fun k => by rw [graftref9_times.l1]) (Ev.no (by omega) h1), h2, h3⟩
  | succ d ih =>
   intro x out hx hx2 hd hw hv
   by_cases h0 : x = 0
   ·subst h0
    obtain ⟨r, h1, h2, h3⟩ := strip out (by omega) hw (by simpa using hv)
    exact ⟨r, Ev.succ (fun k => by rw [graftref9_times.l1]) (Ev.no (by omega) h1), h2, h3⟩
   ·have e1 : wrap64 (Int.tdiv (x : Int) 16777216) = ((x / 16777216 : Nat) : Int) := by
     rw [Int.tdiv_eq_ediv_of_nonneg (by omega), w64 (by omega) (by omega)]
     omega
    have e2 : Int.tmod (x : Int) 16777216 = ((x % 16777216 : Nat) : Int) := by
     rw [Int.tmod_eq_emod_of_nonneg (by omega)]
     omega
    obtain ⟨r, h1, h2, h3⟩ := ih (x / 16777216) (out ++ [((x % 16777216 : Nat) : Int)]) (by rw [Nat.pow_succ] at hx; omega) (by omega) (by simp; omega) (hw.append (Wf.cons (by omega) (by show _ < (16777216 : Int); omega) Wf.nil)) (by
     rw [← hv, val_append, List.length_append, List.length_singleton, Int.pow_succ]
     simp only [val]
     have e3 : (x : Int) = 16777216 * ((x / 16777216 : Nat) : Int) + ((x % 16777216 : Nat) : Int) := by omega
     rw [e3]
     generalize ((x / 16777216 : Nat) : Int) = p
     generalize ((x % 16777216 : Nat) : Int) = q
     show _ + _ * (q + 16777216 * 0) + p * (_ * 16777216) = _
     grind)
    refine ⟨r, Ev.succ (fun k => by rw [graftref9_times.l1]) (Ev.yes (by omega) (Ev.yes (by omega) ?_)), h2, h3⟩
    rw [e1, e2]
    exact h1
 have main : ∀ (d i x : Nat) (out : List Int), i + d = l.length → out.length = i → x ≤ 16777216 → Wf P24 out → val P24 out + x * P24 ^ i = val P24 (l.take i) * y + c →
   ∃ r, Ev (fun k => graftref9_times.l0 k l (y : Int) (x : Int) out (i : Int)) r ∧ Rep P24 r (m * y + c) ∧ r.length ≤ l.length + 2 := by
  intro d
  induction d with
  | zero =>
   intro i x out hi ho hx hw hv
   obtain rfl : i = l.length := by omega
   rw [List.take_length, hl.val, ← ho] at hv
   obtain ⟨r, h1, h2, h3⟩ := carry 2 x out (by omega) hx (by omega) hw (by rw [hv]; push_cast; rfl)
   exact ⟨r, Ev.succ (fun k => by rw [graftref9_times.l0]) (Ev.no (by omega) h1), h2, h3⟩
  | succ d ih =>
   intro i x out hi ho hx hw hv
   have hil : i < l.length := by omega
   have g1 : (i : Int) < (l.length : Int) := by omega
   have g2 : 0 ≤ (i : Int) := by omega
   have g3 : out.length < 17592186044416 := by omega
   have ha := hl.wf.get hil
   have hra : rd l (i : Int) = l[i] := rd_get l i hil
   obtain ⟨a, haeq⟩ := Int.eq_ofNat_of_zero_le ha.1
   have ha2 : a < 16777216 := by
    have h := ha.2
    rw [haeq] at h
    have h : (a : Int) < 16777216 := h
    omega
   have hay : a * y ≤ 16777215 * 1048576 := Nat.mul_le_mul (by omega) hy
   have e0 : wrap64 ((x : Int) + wrap64 (rd l (i : Int) * (y : Int))) = ((x + a * y : Nat) : Int) := by
    rw [hra, haeq, ← Int.natCast_mul, w64 (x := ((a * y : Nat) : Int)) (by omega) (by omega), w64 (by omega) (by omega)]
    omega
   have e1 : wrap64 (Int.tdiv ((x + a * y : Nat) : Int) 16777216) = (((x + a * y) / 16777216 : Nat) : Int) := by
    rw [Int.tdiv_eq_ediv_of_nonneg (by omega), w64 (by omega) (by omega)]
    omega
   have e2 : Int.tmod ((x + a * y : Nat) : Int) 16777216 = (((x + a * y) % 16777216 : Nat) : Int) := by
    rw [Int.tmod_eq_emod_of_nonneg (by omega)]
    omega
   have e3 : wrap64 ((i : Int) + 1) = ((i + 1 : Nat) : Int) := by rw [w64 (by omega) (by omega)]; omega
   obtain ⟨r, h1, h2, h3⟩ := ih (i + 1) ((x + a * y) / 16777216) (out ++ [(((x + a * y) % 16777216 : Nat) : Int)]) (by omega) (by simp; omega) (by omega) (hw.append (Wf.cons (by omega) (by show _ < (16777216 : Int); omega) Wf.nil)) (by
    rw [val_take_succ l i hil, val_append, ho, Int.pow_succ, haeq]
    simp only [val]
    have e4 : ((x : Int) + a * y) = 16777216 * (((x + a * y) / 16777216 : Nat) : Int) + (((x + a * y) % 16777216 : Nat) : Int) := by
     have := Nat.div_add_mod (x + a * y) 16777216
     have h9 : ((x : Int) + a * y) = ((x + a * y : Nat) : Int) := by push_cast; rfl
     rw [h9]
     omega
    generalize (((x + a * y) / 16777216 : Nat) : Int) = p at *
    generalize (((x + a * y) % 16777216 : Nat) : Int) = q at *
    show _ + _ * (q + 16777216 * 0) + p * (_ * 16777216) = _
    have e5 : (val P24 (l.take i) + (a : Int) * P24 ^ i) * y + c = val P24 (l.take i) * y + c + (a * y) * P24 ^ i := by grind
    rw [e5, ← hv]
    have e6 : (a : Int) * y = 16777216 * p + q - x := by omega
    rw [e6]
    grind)
   refine ⟨r, Ev.succ (fun k => by rw [graftref9_times.l0]) (Ev.yes g1 (Ev.yes g2 (Ev.yes g3 ?_))), h2, h3⟩
   rw [e0, e1, e2, e3]
   exact h1
 exact main l.length 0 c [] (by omega) rfl hc Wf.nil (by simp [val])
theorem rtimes0 {l : List Int} {m : Nat} (hl : Rep P24 l m) (hlen : l.length ≤ 1000000000) (yi : Int) (y : Nat) (hyi : yi = y) (hy : y ≤ 1048576) :
  ∃ r, Ev (fun k => graftref9_times.f k l yi 0) r ∧ Rep P24 r (m * y) ∧ r.length ≤ l.length + 2 := by
 subst hyi
 exact rtimes_ev hl hlen y 0 hy (by omega)
theorem twos_ev {l : List Int} {m : Nat} (h : Rep P24 l m) (n : Nat) (hl : l.length + 2 * n ≤ 1000000000) : ∃ r, Ev (fun k => graftref9_twos.f k l (n : Int)) r ∧ Rep P24 r (m * 2 ^ n) ∧ r.length ≤ l.length + 2 * n := by
 have ones : ∀ (n m : Nat) (x : List Int), Rep P24 x m → x.length + 2 * n ≤ 1000000000 → ∃ r, Ev (fun k => graftref9_twos.l1 k x (n : Int)) r ∧ Rep P24 r (m * 2 ^ n) ∧ r.length ≤ x.length + 2 * n := by
  intro n
  induction n with
  | zero => exact fun m x hx hl => ⟨x, Ev.succ (fun k => by rw [graftref9_twos.l1]) (Ev.no (by omega) (Ev.const _)), by simpa using hx, by omega⟩
  | succ n ih =>
   intro m x hx hl
   obtain ⟨y, h1, h2, h3⟩ := rtimes0 hx (by omega) 2 2 rfl (by omega)
   obtain ⟨r, k1, k2, k3⟩ := ih _ y h2 (by omega)
   refine ⟨r, Ev.succ (fun k => by rw [graftref9_twos.l1]) (Ev.yes (by omega) (Ev.bind h1 ?_)), ?_, by omega⟩
   ·rw [w64 (by omega) (by omega)]
    have : ((n + 1 : Nat) : Int) - 1 = (n : Int) := by omega
    rw [this]
    exact k1
   ·rw [Nat.pow_succ]
    have : m * (2 ^ n * 2) = (m * 2) * 2 ^ n := by grind
    rw [this]
    exact k2
 have many : ∀ (d n m : Nat) (x : List Int), n ≤ d → Rep P24 x m → x.length + 2 * n ≤ 1000000000 → ∃ r, Ev (fun k => graftref9_twos.l0 k x (n : Int)) r ∧ Rep P24 r (m * 2 ^ n) ∧ r.length ≤ x.length + 2 * n := by
  intro d
  induction d with
  | zero =>
   intro n m x hd hx hl
   obtain ⟨r, h1, h2, h3⟩ := ones n m x hx hl
   exact ⟨r, Ev.succ (fun k => by rw [graftref9_twos.l0]) (Ev.no (by omega) h1), h2, h3⟩
  | succ d ih =>
   intro n m x hd hx hl
   by_cases h9 : 20 ≤ n
   ·obtain ⟨y, h1, h2, h3⟩ := rtimes0 hx (by omega) 1048576 1048576 rfl (by omega)
    obtain ⟨r, k1, k2, k3⟩ := ih (n - 20) _ y (by omega) h2 (by omega)
    refine ⟨r, Ev.succ (fun k => by rw [graftref9_twos.l0]) (Ev.yes (by omega) (Ev.bind h1 ?_)), ?_, by omega⟩
    ·rw [w64 (by omega) (by omega)]
     have : (n : Int) - 20 = ((n - 20 : Nat) : Int) := by omega
     rw [this]
     exact k1
    ·obtain ⟨j, rfl⟩ : ∃ j, n = j + 20 := ⟨n - 20, by omega⟩
     rw [Nat.add_sub_cancel] at k2
     have : m * 2 ^ (j + 20) = (m * 1048576) * 2 ^ j := by rw [Nat.pow_add]; grind
     rw [this]
     exact k2
   ·obtain ⟨r, h1, h2, h3⟩ := ones n m x hx hl
    exact ⟨r, Ev.succ (fun k => by rw [graftref9_twos.l0]) (Ev.no (by omega) h1), h2, h3⟩
 obtain ⟨r, h1, h2, h3⟩ := many n n m l (Nat.le_refl _) h hl
 exact ⟨r, h1, h2, h3⟩
theorem rtens_ev {l : List Int} {m : Nat} (h : Rep P24 l m) (n : Nat) (hl : l.length + 2 * n ≤ 1000000000) : ∃ r, Ev (fun k => graftref9_tens.f k l (n : Int)) r ∧ Rep P24 r (m * 10 ^ n) ∧ r.length ≤ l.length + 2 * n := by
 have ones : ∀ (n m : Nat) (x : List Int), Rep P24 x m → x.length + 2 * n ≤ 1000000000 → ∃ r, Ev (fun k => graftref9_tens.l1 k x (n : Int)) r ∧ Rep P24 r (m * 10 ^ n) ∧ r.length ≤ x.length + 2 * n := by
  intro n
  induction n with
  | zero => exact fun m x hx hl => ⟨x, Ev.succ (fun k => by rw [graftref9_tens.l1]) (Ev.no (by omega) (Ev.const _)), by simpa using hx, by omega⟩
  | succ n ih =>
   intro m x hx hl
   obtain ⟨y, h1, h2, h3⟩ := rtimes0 hx (by omega) 10 10 rfl (by omega)
   obtain ⟨r, k1, k2, k3⟩ := ih _ y h2 (by omega)
   refine ⟨r, Ev.succ (fun k => by rw [graftref9_tens.l1]) (Ev.yes (by omega) (Ev.bind h1 ?_)), ?_, by omega⟩
   ·rw [w64 (by omega) (by omega)]
    have : ((n + 1 : Nat) : Int) - 1 = (n : Int) := by omega
    rw [this]
    exact k1
   ·rw [Nat.pow_succ]
    have : m * (10 ^ n * 10) = (m * 10) * 10 ^ n := by grind
    rw [this]
    exact k2
 have many : ∀ (d n m : Nat) (x : List Int), n ≤ d → Rep P24 x m → x.length + 2 * n ≤ 1000000000 → ∃ r, Ev (fun k => graftref9_tens.l0 k x (n : Int)) r ∧ Rep P24 r (m * 10 ^ n) ∧ r.length ≤ x.length + 2 * n := by
  intro d
  induction d with
  | zero =>
   intro n m x hd hx hl
   obtain ⟨r, h1, h2, h3⟩ := ones n m x hx hl
   exact ⟨r, Ev.succ (fun k => by rw [graftref9_tens.l0]) (Ev.no (by omega) h1), h2, h3⟩
  | succ d ih =>
   intro n m x hd hx hl
   by_cases h9 : 6 ≤ n
   ·obtain ⟨y, h1, h2, h3⟩ := rtimes0 hx (by omega) 1000000 1000000 rfl (by omega)
    obtain ⟨r, k1, k2, k3⟩ := ih (n - 6) _ y (by omega) h2 (by omega)
    refine ⟨r, Ev.succ (fun k => by rw [graftref9_tens.l0]) (Ev.yes (by omega) (Ev.bind h1 ?_)), ?_, by omega⟩
    ·rw [w64 (by omega) (by omega)]
     have : (n : Int) - 6 = ((n - 6 : Nat) : Int) := by omega
     rw [this]
     exact k1
    ·obtain ⟨j, rfl⟩ : ∃ j, n = j + 6 := ⟨n - 6, by omega⟩
     rw [Nat.add_sub_cancel] at k2
     have : m * 10 ^ (j + 6) = (m * 1000000) * 10 ^ j := by rw [Nat.pow_add]; grind
     rw [this]
     exact k2
   ·obtain ⟨r, h1, h2, h3⟩ := ones n m x hx hl
    exact ⟨r, Ev.succ (fun k => by rw [graftref9_tens.l0]) (Ev.no (by omega) h1), h2, h3⟩
 obtain ⟨r, h1, h2, h3⟩ := many n n m l (Nat.le_refl _) h hl
 exact ⟨r, h1, h2, h3⟩
theorem compared_ev {a b : List Int} {m n : Nat} (ha : Rep P24 a m) (hb : Rep P24 b n) (hla : a.length ≤ 4611686018427387904) (hlb : b.length ≤ 4611686018427387904) : Ev (fun k => graftref9_compared.f k a b) (cmp m n) := by
 unfold graftref9_compared.f
 by_cases hl : a.length = b.length
 ·refine Ev.yes (by omega) ?_
  rw [w64 (by omega) (by omega)]
  have key : ∀ i : Nat, i ≤ a.length → a.drop i = b.drop i → Ev (fun k => graftref9_compared.l0 k a b ((i : Int) - 1)) (cmp m n) := by
   intro i
   induction i with
   | zero =>
    intro _ he
    have hab : a = b := by simpa using he
    have hmn : m = n := by
     have h1 := ha.val
     have h2 := hb.val
     rw [hab, h2] at h1
     omega
    refine Ev.succ (fun k => by rw [graftref9_compared.l0]) (Ev.no (by omega) ?_)
    rw [cmp_eq hmn]
    exact Ev.const _
   | succ i ih =>
    intro hi he
    refine Ev.succ (fun k => by rw [graftref9_compared.l0]) (Ev.yes (by omega) (Ev.yes (by omega) (Ev.yes (by omega) (Ev.yes (by omega) ?_))))
    have e1 : (((i + 1 : Nat) : Int) - 1) = (i : Int) := by omega
    rw [e1, rd_get a i (by omega), rd_get b i (by omega), w64 (by omega) (by omega)]
    by_cases h : a[i]'(by omega) = b[i]'(by omega)
    ·refine Ev.no (by omega) (Ev.no (by omega) (ih (by omega) ?_))
     rw [List.drop_eq_getElem_cons (show i < a.length by omega), List.drop_eq_getElem_cons (show i < b.length by omega), h, he]
    ·have va := ha.val
     have vb := hb.val
     by_cases h2 : a[i]'(by omega) < b[i]'(by omega)
     ·have := cmp_of_top ha.wf hb.wf q1 hl i (by omega) he h2
      rw [cmp_lt (by omega)]
      exact Ev.yes h2 (Ev.const _)
     ·have := cmp_of_top hb.wf ha.wf q1 hl.symm i (by omega) he.symm (by omega)
      rw [cmp_gt (by omega)]
      exact Ev.no h2 (Ev.yes (by omega) (Ev.const _))
  exact key a.length (Nat.le_refl _) (by simp [hl])
 ·refine Ev.no (by omega) ?_
  have hA := ha.lt q0
  have hB := hb.lt q0
  by_cases h : a.length < b.length
  ·have h1 := pow_le_val hb.wf hb.nz q1 (by intro e; rw [e] at h; simp at h)
   rw [hb.val] at h1
   have h2 : P24 ^ a.length ≤ P24 ^ (b.length - 1) := pow_le_ q1 (by omega)
   rw [cmp_lt (by omega)]
   exact Ev.yes (by omega : (a.length : Int) < b.length) (Ev.const _)
  ·have h1 := pow_le_val ha.wf ha.nz q1 (by intro e; subst e; simp only [List.length_nil] at h hl; omega)
   rw [ha.val] at h1
   have h2 : P24 ^ b.length ≤ P24 ^ (a.length - 1) := pow_le_ q1 (by omega)
   rw [cmp_gt (by omega)]
   exact Ev.no (by omega : ¬ (a.length : Int) < b.length) (Ev.const _)
theorem below_ev {la lb : List Int} {a b : Nat} (ha : Rep P24 la a) (hb : Rep P24 lb b) (hla : la.length ≤ 100000) (hlb : lb.length ≤ 100000) (n : Int) (hn : -100000 ≤ n) (hn2 : n ≤ 100000) : Ev (fun k => graftref9_below.f k la lb n) (decide (a * T (-n) < b * T n)) := by
 unfold graftref9_below.f
 have hd : ∀ p q : Nat, decide (cmp p q < 0) = decide (p < q) := fun p q => by
  rw [decide_eq_decide]
  exact cmp_neg
 by_cases h0 : n ≥ 0
 ·obtain ⟨j, rfl⟩ := Int.eq_ofNat_of_zero_le h0
  obtain ⟨r, h1, h2, h3⟩ := rtens_ev hb j (by omega)
  refine Ev.yes h0 (Ev.bind h1 (Ev.bind (compared_ev ha h2 (by omega) (by omega)) ?_))
  rw [hd]
  have e1 : T (-(j : Int)) = 1 := by
   unfold T
   have : (-(j : Int)).toNat = 0 := by omega
   rw [this, Nat.pow_zero]
  rw [e1, Nat.mul_one]
  exact Ev.const _
 ·obtain ⟨j, hj⟩ := Int.eq_ofNat_of_zero_le (show 0 ≤ -n by omega)
  obtain ⟨r, h1, h2, h3⟩ := rtens_ev ha j (by omega)
  have e1 : T n = 1 := by
   unfold T
   have : n.toNat = 0 := by omega
   rw [this, Nat.pow_zero]
  refine Ev.no h0 ?_
  rw [w64 (by omega) (by omega), hj]
  refine Ev.bind h1 (Ev.bind (compared_ev h2 hb (by omega) (by omega)) ?_)
  rw [hd, e1, Nat.mul_one]
  exact Ev.const _
end Go.Proofs.Ytlhciggmllddkaa.Pl
end
section
namespace Go.Proofs.Ytlhciggmllddkaa.Pl
open Go Go.RowKit Go.Proofs.YtlhciggmllddkaaW.PrintWords Go.Proofs.YtlhciggmllddkaaW.PrintLast Go.Proofs.YtlhciggmllddkaaW.PrintMore Go.Proofs.Ytlhciggmllddkaa.PNum
set_option linter.unusedVariables false
set_option linter.unusedSimpArgs false
theorem sub_limb (x c y : Int) (hx0 : 0 ≤ x) (hx : x < 16777216) (hc : c = 0 ∨ c = 1) (hy0 : 0 ≤ y) (hy : y < 16777216) :
  wrap64 (x - c) = x - c ∧ wrap64 (x - c - y) = x - c - y ∧ (x - c - y < 0 → wrap64 (x - c - y + 16777216) = x - c - y + 16777216 ∧ 0 ≤ x - c - y + 16777216 ∧ x - c - y + 16777216 < 16777216) ∧ (¬ x - c - y < 0 → 0 ≤ x - c - y ∧ x - c - y < 16777216) := by
 refine ⟨w64 (by omega) (by omega), w64 (by omega) (by omega), fun h => ⟨w64 (by omega) (by omega), by omega, by omega⟩, fun h => ⟨by omega, by omega⟩⟩
theorem rless_ev {a b : List Int} {m n : Nat} (ha : Rep P24 a m) (hb : Rep P24 b n) (hnm : n ≤ m) (hl : a.length ≤ 1000000000) : ∃ r, Ev (fun k => graftref9_less.f k a b) r ∧ Rep P24 r (m - n) ∧ r.length ≤ a.length := by
 have hbl : b.length ≤ a.length := hb.len_le q1 (k := a.length) (by have := ha.lt q0; omega)
 have key : ∀ d i (out : List Int) (c : Int), i + d = a.length → out.length = i → Wf P24 out → (c = 0 ∨ c = 1) → val P24 out = val P24 (a.take i) - val P24 (b.take i) + c * P24 ^ i →
   ∃ r, Ev (fun k => graftref9_less.l0 k a b out c (i : Int)) r ∧ Rep P24 r (m - n) ∧ r.length ≤ a.length := by
  intro d
  induction d with
  | zero =>
   intro i out c hi ho hw hc hv
   obtain rfl : i = a.length := by omega
   rw [List.take_of_length_le (by omega), List.take_of_length_le (by omega), ha.val, hb.val] at hv
   have h1 := val_lt hw q0
   have h2 := val_nonneg hw (by decide)
   rw [ho] at h1
   have hv2 : val P24 out = ((m - n : Nat) : Int) := by
    rcases hc with rfl | rfl
    ·omega
    ·omega
   obtain ⟨r, h3, h4, h5, h6, h7⟩ := strip_ev (B := P24) (G := graftref9_less.l1) (fun k x0 => by rw [graftref9_less.l1]) out.length out rfl (by omega) hw
   exact ⟨r, Ev.succ (fun k => by rw [graftref9_less.l0]) (Ev.no (by omega) h3), ⟨h4, h5, h6.trans hv2⟩, by omega⟩
  | succ d ih =>
   intro i out c hi ho hw hc hv
   have hia : i < a.length := by omega
   have g1 : (i : Int) < (a.length : Int) := by omega
   have g2 : 0 ≤ (i : Int) := by omega
   have g3 : out.length < 17592186044416 := by omega
   have hx := ha.wf.get hia
   have hx2 : a[i] < 16777216 := hx.2
   have hx0 := hx.1
   have hra : rd a (i : Int) = a[i] := rd_get a i hia
   have e3 : wrap64 ((i : Int) + 1) = ((i + 1 : Nat) : Int) := by rw [w64 (by omega) (by omega)]; omega
   have step : ∀ y v c' : Int, (val P24 (b.take (i + 1)) = val P24 (b.take i) + y * P24 ^ i) → v = a[i] - c - y + c' * 16777216 → 0 ≤ v → v < 16777216 → (c' = 0 ∨ c' = 1) →
     ∃ r, Ev (fun k => graftref9_less.l0 k a b (out ++ [v]) c' ((i + 1 : Nat) : Int)) r ∧ Rep P24 r (m - n) ∧ r.length ≤ a.length := by
    intro y v c' hby hvd hv0 hv1 hc'
    refine ih (i + 1) _ _ (by omega) (by simp; omega) (hw.append (Wf.cons hv0 hv1 Wf.nil)) hc' ?_
    rw [val_take_succ a i hia, hby, val_append, ho, hv, Int.pow_succ, hvd]
    simp only [val]
    show _ + _ * (a[i] - c - y + c' * 16777216 + 16777216 * 0) = _ + c' * (_ * 16777216)
    generalize P24 ^ i = I
    grind
   by_cases hib : i < b.length
   ·have gb : (i : Int) < (b.length : Int) := Int.ofNat_lt.2 hib
    have hy := hb.wf.get hib
    have hrb : rd b (i : Int) = b[i] := rd_get b i hib
    have hby := val_take_succ (B := P24) b i hib
    obtain ⟨cs, cs2, cs3, cs4⟩ := sub_limb a[i] c b[i] hx0 hx2 hc hy.1 hy.2
    by_cases hneg : a[i] - c - b[i] < 0
    ·obtain ⟨d1, d2, d3⟩ := cs3 hneg
     obtain ⟨r, h1, h2, h3⟩ := step b[i] (a[i] - c - b[i] + 16777216) 1 hby (by rw [Int.one_mul]) d2 d3 (.inr rfl)
     refine ⟨r, Ev.succ (fun k => by rw [graftref9_less.l0]) (Ev.yes g1 (Ev.yes g2 (Ev.yes gb ?_))), h2, h3⟩
     rw [hra, hrb, cs, cs2, d1, e3]
     exact Ev.yes hneg (Ev.yes g3 h1)
    ·obtain ⟨d2, d3⟩ := cs4 hneg
     obtain ⟨r, h1, h2, h3⟩ := step b[i] (a[i] - c - b[i]) 0 hby (by rw [Int.zero_mul, Int.add_zero]) d2 d3 (.inl rfl)
     refine ⟨r, Ev.succ (fun k => by rw [graftref9_less.l0]) (Ev.yes g1 (Ev.yes g2 (Ev.yes gb ?_))), h2, h3⟩
     rw [hra, hrb, cs, cs2, e3]
     exact Ev.no hneg (Ev.yes g3 h1)
   ·have gb : ¬ (i : Int) < (b.length : Int) := fun h => hib (Int.ofNat_lt.1 h)
    have hby : val P24 (b.take (i + 1)) = val P24 (b.take i) + 0 * P24 ^ i := by
     rw [List.take_of_length_le (Nat.le_succ_of_le (Nat.le_of_not_lt hib)), List.take_of_length_le (Nat.le_of_not_lt hib), Int.zero_mul, Int.add_zero]
    obtain ⟨cs, cs2, cs3, cs4⟩ := sub_limb a[i] c 0 hx0 hx2 hc (Int.le_refl _) (by decide)
    rw [Int.sub_zero] at cs2 cs3 cs4
    by_cases hneg : a[i] - c < 0
    ·obtain ⟨d1, d2, d3⟩ := cs3 hneg
     obtain ⟨r, h1, h2, h3⟩ := step 0 (a[i] - c + 16777216) 1 hby (by rw [Int.sub_zero, Int.one_mul]) d2 d3 (.inr rfl)
     refine ⟨r, Ev.succ (fun k => by rw [graftref9_less.l0]) (Ev.yes g1 (Ev.yes g2 (Ev.no gb ?_))), h2, h3⟩
     rw [hra, cs, d1, e3]
     exact Ev.yes hneg (Ev.yes g3 h1)
    ·obtain ⟨d2, d3⟩ := cs4 hneg
     obtain ⟨r, h1, h2, h3⟩ := step 0 (a[i] - c) 0 hby (by rw [Int.sub_zero, Int.zero_mul, Int.add_zero]) d2 d3 (.inl rfl)
     refine ⟨r, Ev.succ (fun k => by rw [graftref9_less.l0]) (Ev.yes g1 (Ev.yes g2 (Ev.no gb ?_))), h2, h3⟩
     rw [hra, cs, e3]
     exact Ev.no hneg (Ev.yes g3 h1)
 exact key a.length 0 [] 0 (by omega) rfl Wf.nil (.inl rfl) (by simp [val])
theorem rdivided_ev {a b : List Int} {m n : Nat} (ha : Rep P24 a m) (hb : Rep P24 b n) (hla : a.length ≤ 100000000) (hlb : b.length ≤ 100000000) (hn : 0 < n) (J : Nat) (hJ : J ≤ 60) (hq : m < n * 2 ^ J) :
  ∃ r, Ev (fun k => graftref9_divided.f k a b (J : Int)) (((m / n : Nat) : Int), r) ∧ Rep P24 r (m % n) ∧ r.length ≤ a.length := by
 have down : ∀ (ls : List (List Int)), ls.length = J → (∀ i, i < J → ∃ t, ls[i]? = some t ∧ Rep P24 t (n * 2 ^ i) ∧ t.length ≤ 1000000000) →
   ∀ (i : Nat) (x : List Int) (p q : Nat), i ≤ J → Rep P24 x p → x.length ≤ a.length → p < n * 2 ^ i → m = n * (q * 2 ^ i) + p →
   ∃ r, Ev (fun k => graftref9_divided.l1 k x ls (q : Int) ((i : Int) - 1)) (((m / n : Nat) : Int), r) ∧ Rep P24 r (m % n) ∧ r.length ≤ a.length := by
  intro ls hls hall i
  induction i with
  | zero =>
   intro x p q _ hx hxl hp hm
   have e1 : m / n = q := by
    rw [hm, Nat.pow_zero, Nat.mul_one, Nat.mul_add_div hn, Nat.div_eq_of_lt (by omega), Nat.add_zero]
   have e2 : m % n = p := by
    rw [hm, Nat.pow_zero, Nat.mul_one, Nat.mul_add_mod, Nat.mod_eq_of_lt (by omega)]
   rw [e1, e2]
   exact ⟨x, Ev.succ (fun k => by rw [graftref9_divided.l1]) (Ev.no (by omega) (Ev.const _)), hx, hxl⟩
  | succ i ih =>
   intro x p q hi hx hxl hp hm
   obtain ⟨t, t1, t2, t3⟩ := hall i (by omega)
   have g0 : ((i + 1 : Nat) : Int) - 1 = (i : Int) := by omega
   have g1 : (i : Int) ≥ 0 := by omega
   have g2 : (i : Int) < (ls.length : Int) := by omega
   have g4 : wrap64 ((i : Int) - 1) = (i : Int) - 1 := by rw [w64 (by omega) (by omega)]
   have hrd : rd_L3 ls (i : Int) = t := by
    unfold rd_L3
    rw [Int.toNat_natCast, List.getD_eq_getElem?_getD, t1]
    rfl
   have hc := compared_ev hx t2 (by omega) (by omega)
   have hpow : n * (q * 2 ^ (i + 1)) = n * (2 * q * 2 ^ i) := by rw [Nat.pow_succ]; grind
   have h2i := Nat.two_pow_pos i
   have h60 : 2 ^ J ≤ 2 ^ 60 := Nat.pow_le_pow_right (by omega) hJ
   have hqb : 2 * q * 2 ^ i < 2 ^ J := by
    rw [hpow] at hm
    refine Nat.lt_of_mul_lt_mul_left (a := n) ?_
    omega
   have hq1 : 2 * q ≤ 2 * q * 2 ^ i := Nat.le_mul_of_pos_right _ h2i
   have e1 : wrap64 (2 * (q : Int)) = ((2 * q : Nat) : Int) := by rw [w64 (by omega) (by omega)]; omega
   rw [g0]
   by_cases hge : n * 2 ^ i ≤ p
   ·obtain ⟨x', l1, l2, l3⟩ := rless_ev hx t2 hge (by omega)
    have e2 : wrap64 (((2 * q : Nat) : Int) + 1) = ((2 * q + 1 : Nat) : Int) := by rw [w64 (by omega) (by omega)]; omega
    obtain ⟨r, k1, k2, k3⟩ := ih x' (p - n * 2 ^ i) (2 * q + 1) (by omega) l2 (by omega) (by rw [Nat.pow_succ, ← Nat.mul_assoc] at hp; omega) (by rw [hm, hpow, Nat.add_mul, Nat.one_mul, Nat.mul_add]; omega)
    refine ⟨r, Ev.succ (fun k => by rw [graftref9_divided.l1]) (Ev.yes g1 (Ev.yes g1 (Ev.yes g2 ?_))), k2, k3⟩
    rw [hrd, e1, e2, g4]
    exact Ev.bind hc (Ev.yes (cmp_ge.2 hge) (Ev.bind l1 k1))
   ·obtain ⟨r, k1, k2, k3⟩ := ih x p (2 * q) (by omega) hx hxl (by omega) (by rw [hm, hpow])
    refine ⟨r, Ev.succ (fun k => by rw [graftref9_divided.l1]) (Ev.yes g1 (Ev.yes g1 (Ev.yes g2 ?_))), k2, k3⟩
    rw [hrd, e1, g4]
    exact Ev.bind hc (Ev.no (fun h => hge (cmp_ge.1 h)) k1)
 have up : ∀ (d i : Nat) (ls : List (List Int)) (t : List Int), i + d = J → ls.length = i → (∀ j, j < i → ∃ t, ls[j]? = some t ∧ Rep P24 t (n * 2 ^ j) ∧ t.length ≤ 1000000000) → Rep P24 t (n * 2 ^ i) → t.length ≤ b.length + 2 * i →
   ∃ r, Ev (fun k => graftref9_divided.l0 k a (J : Int) ls t (i : Int)) (((m / n : Nat) : Int), r) ∧ Rep P24 r (m % n) ∧ r.length ≤ a.length := by
  intro d
  induction d with
  | zero =>
   intro i ls t hi hls hall ht htl
   obtain rfl : i = J := by omega
   obtain ⟨r, k1, k2, k3⟩ := down ls hls hall i a m 0 (Nat.le_refl _) ha (Nat.le_refl _) hq (by simp)
   refine ⟨r, Ev.succ (fun k => by rw [graftref9_divided.l0]) (Ev.no (Int.lt_irrefl _) ?_), k2, k3⟩
   rw [w64 (by omega) (by omega)]
   exact k1
  | succ d ih =>
   intro i ls t hi hls hall ht htl
   have g1 : (i : Int) < (J : Int) := by omega
   have g2 : ls.length < 5864062014805 := by omega
   obtain ⟨t', h1, h2, h3⟩ := rtimes0 ht (by omega) 2 2 rfl (by omega)
   have e : n * 2 ^ (i + 1) = n * 2 ^ i * 2 := by rw [Nat.pow_succ, Nat.mul_assoc]
   obtain ⟨r, k1, k2, k3⟩ := ih (i + 1) (ls ++ [t]) t' (by omega) (by simp; omega) (by
    intro j hj
    by_cases hji : j < i
    ·obtain ⟨u, u1, u2, u3⟩ := hall j hji
     exact ⟨u, by rw [List.getElem?_append_left (by omega)]; exact u1, u2, u3⟩
    ·obtain rfl : j = i := by omega
     refine ⟨t, ?_, ht, by omega⟩
     rw [List.getElem?_append_right (by omega), hls, Nat.sub_self]
     rfl) (by rw [e]; exact h2) (by omega)
   refine ⟨r, Ev.succ (fun k => by rw [graftref9_divided.l0]) (Ev.yes g1 (Ev.yes g2 (Ev.bind h1 ?_))), k2, k3⟩
   have e3 : wrap64 ((i : Int) + 1) = ((i + 1 : Nat) : Int) := by rw [w64 (by omega) (by omega)]; omega
   rw [e3]
   exact k1
 exact up J 0 [] b (by omega) rfl (fun j hj => absurd hj (by omega)) (by simpa using hb) (by omega)
end Go.Proofs.Ytlhciggmllddkaa.Pl
end
section
namespace Go.Proofs.Ytlhciggmllddkaa.Pl
open Go Go.RowKit Go.Proofs.YtlhciggmllddkaaW.PrintWords Go.Proofs.YtlhciggmllddkaaW.PrintLast Go.Proofs.YtlhciggmllddkaaW.PrintMore Go.Proofs.Ytlhciggmllddkaa.PNum
set_option linter.unusedVariables false
set_option linter.unusedSimpArgs false
/-- A fact that omega does not look into. -/
structure Hid (p : Prop) : Prop where
 out : p
theorem pow24 (q : Nat) : P24 ^ q = ((2 ^ (24 * q) : Nat) : Int) := by
 rw [Nat.pow_mul]
 simp
theorem Rep.lt24 {l : List Int} {n : Nat} (h : Rep P24 l n) : n < 2 ^ (24 * l.length) := by
 have h1 := h.lt q0
 rw [pow24] at h1
 omega
theorem rdivided0 {a b : List Int} {m n : Nat} (ha : Rep P24 a m) (hb : Rep P24 b n) (hla : a.length ≤ 100000000) (hlb : b.length ≤ 100000000) (hn : 0 < n) (Ji : Int) (J : Nat) (hJi : Ji = J) (hJ : J ≤ 60) (hq : m < n * 2 ^ J) :
  ∃ r, Ev (fun k => graftref9_divided.f k a b Ji) (((m / n : Nat) : Int), r) ∧ Rep P24 r (m % n) ∧ r.length ≤ a.length := by
 subst hJi
 exact rdivided_ev ha hb hla hlb hn J hJ hq
theorem twos0 {l : List Int} {m : Nat} (h : Rep P24 l m) (ni : Int) (n : Nat) (hni : ni = n) (hl : l.length + 2 * n ≤ 1000000000) : ∃ r, Ev (fun k => graftref9_twos.f k l ni) r ∧ Rep P24 r (m * 2 ^ n) ∧ r.length ≤ l.length + 2 * n := by
 subst hni
 exact twos_ev h n hl
/-- The pair that stands for the word of a rounded fraction. -/
theorem rnearest_ev {la lb : List Int} {a b x : Nat} (ha : Rep P24 la a) (hb : Rep P24 lb b) (hla : la.length ≤ 1000) (hlb : lb.length ≤ 1000) (h0 : 0 < a) (hb0 : 0 < b) (hx : Rnd a b x) :
  ∃ M r : Nat, Can M r ∧ x = bitsOf M r ∧ r ≤ 1000000 ∧ Ev (fun k => graftref9_nearest.f k la lb) ((M : Int), (r : Int) - 1074) := by
 -- the end: divided and rounded
 have fin : ∀ (la' lb' : List Int) (p q r : Nat), Rep P24 la' p → Rep P24 lb' q → la'.length ≤ 1000000 → lb'.length ≤ 1000000 → 0 < q → p < q * 2 ^ 53 → (r = 0 ∨ q * 2 ^ 52 ≤ p) → r ≤ 900000 → (∃ t, 0 < t ∧ a * Q = p * t ∧ b * 2 ^ r = q * t) →
   ∃ M r' : Nat, Can M r' ∧ x = bitsOf M r' ∧ r' ≤ 1000000 ∧ Ev (fun k => graftref9_nearest.j2 k la' lb' ((r : Int) - 1074)) ((M : Int), (r' : Int) - 1074) := by
  intro la' lb' p q r hp hq hlp hlq hq0 hlt hge hr ⟨t, ht, e1, e2⟩
  have hxr : x = bitsOf (rne p q) r := by
   refine Rnd.uniq hx ⟨r, ?_, ?_, ?_⟩
   ·rw [Nat.pow_add, Nat.mul_comm (2 ^ 53), ← Nat.mul_assoc, e2, e1, Nat.mul_right_comm]
    exact Nat.mul_lt_mul_of_pos_right hlt ht
   ·rcases hge with h | h
    ·exact .inl h
    ·refine .inr ?_
     rw [Nat.pow_add, Nat.mul_comm (2 ^ 52), ← Nat.mul_assoc, e2, e1, Nat.mul_right_comm]
     exact Nat.mul_le_mul_right _ h
   ·rw [e1, e2, rne_mul _ _ _ ht]
  have u1 : rne p q ≤ 2 ^ 53 := rne_le hlt
  have u2 : r = 0 ∨ 2 ^ 52 ≤ rne p q := by
   rcases hge with h | h
   ·exact .inl h
   ·exact .inr (le_rne hq0 h)
  obtain ⟨w, d1, d2, d3⟩ := rdivided0 hp hq (by omega) (by omega) hq0 54 54 rfl (by omega) (by rw [Nat.pow_succ, ← Nat.mul_assoc]; omega)
  obtain ⟨w2, t1, t2, t3⟩ := rtimes0 d2 (by omega) 2 2 rfl (by omega)
  have hc := compared_ev t2 hq (by omega) (by omega)
  rw [Nat.mul_comm (p % q)] at hc
  have hqlt : p / q < 9007199254740992 := (Nat.div_lt_iff_lt_mul hq0).2 (by rw [Nat.mul_comm]; exact hlt)
  -- j3 on the rounded number
  have j3 : ∀ (c : Bool) (v : Nat), v = rne p q → (c = true → v = p / q + 1) → (c = false → v = p / q) → ∃ M r' : Nat, Can M r' ∧ x = bitsOf M r' ∧ r' ≤ 1000000 ∧ Ev (fun k => graftref9_nearest.j3 k ((r : Int) - 1074) ((p / q : Nat) : Int) c) ((M : Int), (r' : Int) - 1074) := by
   intro c v hv ht hf
   rw [← hv] at u1 u2 hxr
   clear hv
   have er : Hid (wrap64 ((r : Int) - 1074 + 1) = ((r + 1 : Nat) : Int) - 1074) := ⟨by rw [w64 (by omega) (by omega)]; omega⟩
   cases c with
   | true =>
    have hv := ht rfl
    have e1 : Hid (wrap64 (((p / q : Nat) : Int) + 1) = (v : Int)) := ⟨by rw [w64 (by omega) (by omega)]; omega⟩
    by_cases hfull : v = 9007199254740992
    ·refine ⟨4503599627370496, r + 1, ⟨by omega, by omega⟩, by rw [hxr, hfull]; unfold bitsOf; omega, by omega, Ev.succ (fun k => by rw [graftref9_nearest.j3]) (Ev.yes rfl ?_)⟩
     rw [e1.out, er.out]
     refine Ev.yes ?_ (Ev.const _)
     omega
    ·refine ⟨v, r, ⟨by omega, by omega⟩, hxr, by omega, Ev.succ (fun k => by rw [graftref9_nearest.j3]) (Ev.yes rfl ?_)⟩
     rw [e1.out, er.out]
     refine Ev.no ?_ (Ev.const _)
     omega
   | false =>
    have hv := hf rfl
    refine ⟨v, r, ⟨by omega, by omega⟩, hxr, by omega, Ev.succ (fun k => by rw [graftref9_nearest.j3]) (Ev.no Bool.false_ne_true ?_)⟩
    rw [← hv]
    refine Ev.no ?_ (Ev.const _)
    omega
  have hmod : (Int.tmod ((p / q : Nat) : Int) 2 == 1) = decide (p / q % 2 = 1) := by
   rw [Int.tmod_eq_emod_of_nonneg (Int.natCast_nonneg _)]
   by_cases h : p / q % 2 = 1
   ·rw [decide_eq_true h, beq_iff_eq]
    omega
   ·rw [decide_eq_false h, beq_eq_false_iff_ne]
    omega
  have wrap : ∀ c : Bool, (c = true ↔ (q < 2 * (p % q) ∨ (q = 2 * (p % q) ∧ p / q % 2 = 1))) → ∃ M r' : Nat, Can M r' ∧ x = bitsOf M r' ∧ r' ≤ 1000000 ∧ Ev (fun k => graftref9_nearest.j3 k ((r : Int) - 1074) ((p / q : Nat) : Int) c) ((M : Int), (r' : Int) - 1074) := by
   intro c hcc
   refine j3 c (rne p q) rfl (fun h => ?_) (fun h => ?_)
   ·unfold rne
    rw [if_pos (hcc.1 h)]
   ·unfold rne
    rw [if_neg (fun h2 => by rw [hcc.2 h2] at h; cases h)]
  by_cases c1 : q < 2 * (p % q)
  ·obtain ⟨M, r', k1, k2, k3, k4⟩ := wrap true ⟨fun _ => .inl c1, fun _ => rfl⟩
   exact ⟨M, r', k1, k2, k3, Ev.succ (fun k => by rw [graftref9_nearest.j2]) (Ev.bind d1 (Ev.bind t1 (Ev.bind hc (Ev.yes (cmp_pos.2 c1) k4))))⟩
  ·by_cases c2 : q = 2 * (p % q)
   ·obtain ⟨M, r', k1, k2, k3, k4⟩ := wrap (decide (p / q % 2 = 1)) (by rw [decide_eq_true_iff]; exact ⟨fun h => .inr ⟨c2, h⟩, fun h => h.elim (fun h => absurd h c1) (fun h => h.2)⟩)
    rw [← hmod] at k4
    exact ⟨M, r', k1, k2, k3, Ev.succ (fun k => by rw [graftref9_nearest.j2]) (Ev.bind d1 (Ev.bind t1 (Ev.bind hc (Ev.no (fun h => c1 (cmp_pos.1 h)) (Ev.yes (cmp_zero.2 c2.symm) k4)))))⟩
   ·obtain ⟨M, r', k1, k2, k3, k4⟩ := wrap false ⟨fun h => (by cases h), fun h => (h.elim (fun h => absurd h c1) (fun h => absurd h.1 c2))⟩
    exact ⟨M, r', k1, k2, k3, Ev.succ (fun k => by rw [graftref9_nearest.j2]) (Ev.bind d1 (Ev.bind t1 (Ev.bind hc (Ev.no (fun h => c1 (cmp_pos.1 h)) (Ev.no (fun h => c2 (cmp_zero.1 h).symm) k4)))))⟩
 -- up to the lower limit
 have lower : ∀ (d : Nat) (la' lb' lo : List Int) (p q r : Nat), d = r → Rep P24 la' p → Rep P24 lb' q → Rep P24 lo (q * 2 ^ 52) → la'.length + 2 * r ≤ 800000 → lb'.length ≤ 800000 → lo.length ≤ 900000 → 0 < q → p < q * 2 ^ 53 → r ≤ 800000 → (r ≤ 1074 ∨ q * 2 ^ 52 ≤ p) → (∃ t, 0 < t ∧ a * Q = p * t ∧ b * 2 ^ r = q * t ∧ (p < q * 2 ^ 52 → ∃ u, t = 2 ^ r * u)) →
   ∃ M r' : Nat, Can M r' ∧ x = bitsOf M r' ∧ r' ≤ 1000000 ∧ Ev (fun k => graftref9_nearest.l1 k la' lb' ((r : Int) - 1074) lo) ((M : Int), (r' : Int) - 1074) := by
  intro d
  induction d with
  | zero =>
   intro la' lb' lo p q r hd hp hq hlo h1 h2 h3 hq0 hlt hr hrr ⟨t, t1, t2, t3, t4⟩
   subst hd
   obtain ⟨M, r', k1, k2, k3, k4⟩ := fin la' lb' p q 0 hp hq (by omega) (by omega) hq0 hlt (.inl rfl) (by omega) ⟨t, t1, t2, t3⟩
   exact ⟨M, r', k1, k2, k3, Ev.succ (fun k => by rw [graftref9_nearest.l1]) (Ev.no (by omega) k4)⟩
  | succ d ih =>
   intro la' lb' lo p q r hd hp hq hlo h1 h2 h3 hq0 hlt hr hrr ⟨t, t1, t2, t3, t4⟩
   have hc := compared_ev hp hlo (by omega) (by omega)
   have g1 : ((r : Int) - 1074) > -1074 := by omega
   by_cases hlow : p < q * 2 ^ 52
   ·obtain ⟨la2, k1, k2, k3⟩ := rtimes0 hp (by omega) 2 2 rfl (by omega)
    obtain ⟨u, hu⟩ := t4 hlow
    have er : Hid (wrap64 ((r : Int) - 1074 - 1) = ((d : Nat) : Int) - 1074) := ⟨by rw [w64 (by omega) (by omega)]; omega⟩
    have eu : t = 2 * (2 ^ d * u) := by rw [hu, ← hd, Nat.pow_succ, Nat.mul_comm (2 ^ d), Nat.mul_assoc]
    have eq2 : b * 2 ^ d = q * (2 ^ d * u) := by
     refine Nat.eq_of_mul_eq_mul_right (show 0 < 2 by decide) ?_
     rw [Nat.mul_assoc, ← Nat.pow_succ, show d.succ = r from hd, t3, eu]
     grind
    obtain ⟨M, r', k4, k5, k6, k7⟩ := ih la2 lb' lo (p * 2) q d rfl k2 hq hlo (by omega) h2 h3 hq0 (by rw [Nat.pow_succ, ← Nat.mul_assoc] ; omega) (by omega) (by omega) ⟨2 ^ d * u, by omega, by rw [t2, eu]; grind, eq2, fun _ => ⟨u, rfl⟩⟩
    refine ⟨M, r', k4, k5, k6, Ev.succ (fun k => by rw [graftref9_nearest.l1]) (Ev.yes g1 (Ev.bind hc (Ev.yes (cmp_neg.2 hlow) (Ev.bind k1 ?_))))⟩
    rw [er.out]
    exact k7
   ·obtain ⟨M, r', k1, k2, k3, k4⟩ := fin la' lb' p q r hp hq (by omega) (by omega) hq0 hlt (.inr (by omega)) (by omega) ⟨t, t1, t2, t3⟩
    exact ⟨M, r', k1, k2, k3, Ev.succ (fun k => by rw [graftref9_nearest.l1]) (Ev.yes g1 (Ev.bind hc (Ev.no (fun h => hlow (cmp_neg.1 h)) k4)))⟩
 have upper : ∀ (d e : Nat) (lb' hi : List Int), e + d = 24 * la.length → Rep P24 lb' (b * 2 ^ e) → Rep P24 hi (b * 2 ^ e * 2 ^ 53) → lb'.length ≤ lb.length + 2 * e → hi.length ≤ lb.length + 2 * e + 106 → (e = 0 ∨ b * 2 ^ e * 2 ^ 52 ≤ a) →
   ∃ M r' : Nat, Can M r' ∧ x = bitsOf M r' ∧ r' ≤ 1000000 ∧ Ev (fun k => graftref9_nearest.l0 k la lb' (e : Int) hi) ((M : Int), (r' : Int) - 1074) := by
  have stop : ∀ (e : Nat) (lb' hi : List Int), e ≤ 24000 → Rep P24 lb' (b * 2 ^ e) → Rep P24 hi (b * 2 ^ e * 2 ^ 53) → lb'.length ≤ lb.length + 2 * e → hi.length ≤ lb.length + 2 * e + 106 → (e = 0 ∨ b * 2 ^ e * 2 ^ 52 ≤ a) → a < b * 2 ^ e * 2 ^ 53 →
    ∃ M r' : Nat, Can M r' ∧ x = bitsOf M r' ∧ r' ≤ 1000000 ∧ Ev (fun k => graftref9_nearest.l0 k la lb' (e : Int) hi) ((M : Int), (r' : Int) - 1074) := by
   intro e lb' hi he h1 h2 h3 h4 h5 hlt
   have hc := compared_ev ha h2 (by omega) (by omega)
   obtain ⟨lo, l1, l2, l3⟩ := twos0 h1 52 52 rfl (by omega)
   have hbe : 0 < b * 2 ^ e := Nat.mul_pos hb0 (Nat.two_pow_pos _)
   obtain ⟨M, r', k1, k2, k3, k4⟩ := lower (1074 + e) la lb' lo a (b * 2 ^ e) (1074 + e) rfl ha h1 l2 (by omega) (by omega) (by omega) hbe hlt (by omega) (by omega) ⟨Q, Q_pos, rfl, by rw [Q_more (r := 1074 + e) (j := e) (Eq.refl _), Nat.mul_comm Q, Nat.mul_assoc], fun hlow => by
    rcases h5 with h | h
    ·subst h
     exact ⟨1, by rw [Q_more (r := 1074 + 0) (j := 0) (Eq.refl _), Nat.pow_zero, Nat.mul_one, Nat.mul_one]⟩
    ·exact absurd hlow (Nat.not_lt.2 h)⟩
   have er : ((1074 + e : Nat) : Int) - 1074 = (e : Int) := by omega
   rw [er] at k4
   exact ⟨M, r', k1, k2, k3, Ev.succ (fun k => by rw [graftref9_nearest.l0]) (Ev.bind hc (Ev.no (fun h => absurd (cmp_ge.1 h) (Nat.not_le.2 hlt)) (Ev.bind l1 k4)))⟩
  intro d
  induction d with
  | zero =>
   intro e lb' hi he h1 h2 h3 h4 h5
   refine stop e lb' hi (by omega) h1 h2 h3 h4 h5 ?_
   have g1 := ha.lt24
   rw [← he, Nat.add_zero] at g1
   have g2 : 1 * 2 ^ e * 1 ≤ b * 2 ^ e * 2 ^ 53 := Nat.mul_le_mul (Nat.mul_le_mul_right _ hb0) (by omega)
   omega
  | succ d ih =>
   intro e lb' hi he h1 h2 h3 h4 h5
   by_cases hlt : a < b * 2 ^ e * 2 ^ 53
   ·exact stop e lb' hi (by omega) h1 h2 h3 h4 h5 hlt
   ·have hc := compared_ev ha h2 (by omega) (by omega)
    obtain ⟨lb2, k1, k2, k3⟩ := rtimes0 h1 (by omega) 2 2 rfl (by omega)
    obtain ⟨hi2, j1, j2, j3⟩ := rtimes0 h2 (by omega) 2 2 rfl (by omega)
    have e1 : b * 2 ^ (e + 1) = b * 2 ^ e * 2 := by rw [Nat.pow_succ, Nat.mul_assoc]
    have e2 : b * 2 ^ (e + 1) * 2 ^ 53 = b * 2 ^ e * 2 ^ 53 * 2 := by rw [e1, Nat.mul_right_comm]
    have e3 : Hid (wrap64 ((e : Int) + 1) = ((e + 1 : Nat) : Int)) := ⟨by rw [w64 (by omega) (by omega)]; omega⟩
    obtain ⟨M, r', m1, m2, m3, m4⟩ := ih (e + 1) lb2 hi2 (by omega) (by rw [e1]; exact k2) (by rw [e2]; exact j2) (by omega) (by omega) (.inr (by rw [e1, Nat.mul_assoc, ← Nat.pow_succ']; omega))
    refine ⟨M, r', m1, m2, m3, Ev.succ (fun k => by rw [graftref9_nearest.l0]) (Ev.bind hc (Ev.yes (cmp_ge.2 (Nat.le_of_not_lt hlt)) (Ev.bind k1 (Ev.bind j1 ?_))))⟩
    rw [e3.out]
    exact m4
 obtain ⟨hi, i1, i2, i3⟩ := twos0 hb 53 53 rfl (by omega)
 obtain ⟨M, r', m1, m2, m3, m4⟩ := upper (24 * la.length) 0 lb hi (by omega) (by rw [Nat.pow_zero, Nat.mul_one]; exact hb) (by rw [Nat.pow_zero, Nat.mul_one]; exact i2) (by omega) (by omega) (.inl rfl)
 exact ⟨M, r', m1, m2, m3, Ev.bind i1 m4⟩
end Go.Proofs.Ytlhciggmllddkaa.Pl
end
section
namespace Go.Proofs.Ytlhciggmllddkaa.Pl
open Go Go.RowKit Go.Proofs.YtlhciggmllddkaaW.PrintWords Go.Proofs.YtlhciggmllddkaaW.PrintLast Go.Proofs.YtlhciggmllddkaaW.PrintMore Go.Proofs.Ytlhciggmllddkaa.PNum
set_option linter.unusedVariables false
set_option linter.unusedSimpArgs false
theorem can_uniq {M r N s : Nat} (h : Can M r) (h' : Can N s) (h0 : 0 < M) (e : M * 2 ^ r = N * 2 ^ s) : M = N ∧ r = s := by
 rcases Nat.lt_trichotomy (bitsOf M r) (bitsOf N s) with hl | hl | hl
 ·have := fval_lt h h' hl 0 (by omega) (by omega)
  rw [Nat.sub_zero, Nat.sub_zero] at this
  omega
 ·have h1 := h.lt
  have h2 := h.ge
  have h3 := h'.lt
  have h4 := h'.ge
  unfold bitsOf at hl
  omega
 ·have := fval_lt h' h hl 0 (by omega) (by omega)
  rw [Nat.sub_zero, Nat.sub_zero] at this
  omega
theorem dbl {N p : Nat} (h : Can N p) (h0 : 0 < N) (hb : bitsOf N p < 9218868437227405312) : ∃ N' p', Can N' p' ∧ 0 < N' ∧ N' * 2 ^ p' = 2 * (N * 2 ^ p) ∧ (bitsOf N' p' < 9218868437227405312 → fok .mul (bitsOf N p) 4611686018427387904 = true ∧ fop .mul (bitsOf N p) 4611686018427387904 = bitsOf N' p') := by
 by_cases hbig : 4503599627370496 ≤ N
 ·refine ⟨N, p + 1, ⟨h.lt, .inr hbig⟩, h0, by rw [Nat.pow_succ]; grind, fun hb' => ?_⟩
  exact fok_some (op := .mul) (mul_two h h0 hb ⟨h.lt, .inr hbig⟩ hb' (.inl ⟨rfl, rfl⟩))
 ·have hp : p = 0 := by rcases h.ge with h | h <;> omega
  subst hp
  have hc : Can (N * 2) 0 := ⟨by clear hb; omega, .inl rfl⟩
  refine ⟨N * 2, 0, hc, Nat.mul_pos h0 (by decide), by grind, fun hb' => ?_⟩
  exact fok_some (op := .mul) (mul_two h h0 hb hc hb' (.inr ⟨rfl, rfl⟩))
theorem hlv {N p v : Nat} (h : Can N p) (h0 : 0 < N) (hb : bitsOf N p < 9218868437227405312) (hv : N * 2 ^ p = 2 * v) : ∃ N' p', Can N' p' ∧ 0 < N' ∧ N' * 2 ^ p' = v ∧ bitsOf N' p' < 9218868437227405312 ∧ fok .quo (bitsOf N p) 4611686018427387904 = true ∧ fop .quo (bitsOf N p) 4611686018427387904 = bitsOf N' p' := by
 cases p with
 | zero =>
  rw [Nat.pow_zero, Nat.mul_one] at hv
  have hc : Can v 0 := ⟨by have := h.lt; clear hb; omega, .inl rfl⟩
  have hvN : v ≤ N := by clear hb; omega
  have hv0 : 0 < v := by clear hb; omega
  refine ⟨v, 0, hc, hv0, by rw [Nat.pow_zero, Nat.mul_one], Nat.lt_of_le_of_lt (Nat.add_le_add_left hvN _) hb, ?_⟩
  exact fok_some (op := .quo) (quo_two h h0 hb hc (.inr ⟨rfl, by rw [hv, Nat.mul_comm]⟩))
 | succ p =>
  have hge : 4503599627370496 ≤ N := by rcases h.ge with h | h <;> omega
  have hc : Can N p := ⟨h.lt, .inr hge⟩
  refine ⟨N, p, hc, h0, ?_, Nat.lt_of_le_of_lt (Nat.add_le_add_right (Nat.mul_le_mul_right _ (Nat.le_succ p)) N) hb, ?_⟩
  ·rw [Nat.pow_succ, ← Nat.mul_assoc] at hv
   clear hb
   omega
  ·exact fok_some (op := .quo) (quo_two h h0 hb hc (.inl ⟨rfl, rfl⟩))
theorem fin_rung {N p m : Nat} (h : Can N p) (hv : N * 2 ^ p < 2 ^ m) : p + 53 ≤ m ∨ p = 0 := by
 rcases h.ge with h1 | h1
 ·exact .inr h1
 ·refine .inl ?_
  have h2 : 2 ^ (52 + p) ≤ N * 2 ^ p := by
   rw [Nat.pow_add]
   exact Nat.mul_le_mul_right _ h1
  have h3 : 2 ^ (52 + p) < 2 ^ m := Nat.lt_of_le_of_lt h2 hv
  have := (Nat.pow_lt_pow_iff_right (by omega : 1 < 2)).1 h3
  omega
theorem bits_lt {M N p q : Nat} (hM : M < 9007199254740992) (hN : 4503599627370496 ≤ N) (h : p < q) : bitsOf M p < bitsOf N q := by
 have h1 : (p + 1) * 4503599627370496 ≤ q * 4503599627370496 := Nat.mul_le_mul_right _ h
 unfold bitsOf
 rw [Nat.add_mul, Nat.one_mul] at h1
 have e : (9007199254740992 : Nat) = 4503599627370496 + 4503599627370496 := by decide
 rw [e] at hM
 calc p * 4503599627370496 + M < p * 4503599627370496 + (4503599627370496 + 4503599627370496) := Nat.add_lt_add_left hM _
  _ = p * 4503599627370496 + 4503599627370496 + 4503599627370496 := (Nat.add_assoc _ _ _).symm
  _ ≤ q * 4503599627370496 + N := Nat.add_le_add h1 hN
theorem can_bits {N p : Nat} (h : Can N p) (hp : p ≤ 2045) : bitsOf N p < 9218868437227405312 := by
 have := h.lt
 unfold bitsOf
 omega
theorem can_val {N p : Nat} (h : Can N p) : N * 2 ^ p < 2 ^ (53 + p) := by
 rw [Nat.pow_add]
 exact Nat.mul_lt_mul_of_pos_right (by have := h.lt; omega) (Nat.two_pow_pos _)
theorem quo_zero : fok .quo 0 4611686018427387904 = true ∧ fop .quo 0 4611686018427387904 = 0 := by decide +kernel
theorem rscaled_ev {M r : Nat} (hc : Can M r) (hr : r ≤ 2045) : Ev (fun k => graftref9_scaled.f k (M : Int) ((r : Int) - 1074)) (bitsOf M r) := by
 have down : ∀ (c N p : Nat), Can N p → 0 < N → bitsOf N p < 9218868437227405312 → c ≤ 1000000 → N * 2 ^ p = M * 2 ^ r * 2 ^ c → Ev (fun k => graftref9_scaled.l1 k (-(c : Int)) (bitsOf N p)) (bitsOf M r) := by
  intro c
  induction c with
  | zero =>
   intro N p h h0 hb _ hv
   rw [Nat.pow_zero, Nat.mul_one] at hv
   obtain ⟨rfl, rfl⟩ := can_uniq h hc h0 hv
   exact Ev.succ (fun k => by rw [graftref9_scaled.l1]) (Ev.no (by omega) (Ev.const _))
  | succ c ih =>
   intro N p h h0 hb hcc hv
   obtain ⟨N', p', k1, k2, k3, k4, k5, k6⟩ := hlv (v := M * 2 ^ r * 2 ^ c) h h0 hb (by rw [hv, Nat.pow_succ]; grind)
   have ec : Hid (wrap64 (-((c + 1 : Nat) : Int) + 1) = -(c : Int)) := ⟨by rw [w64 (by omega) (by omega)]; omega⟩
   have hneg : -((c + 1 : Nat) : Int) < 0 := by omega
   refine Ev.succ (fun k => by rw [graftref9_scaled.l1]) (Ev.yes hneg (Ev.yes k5 ?_))
   rw [ec.out, k6]
   exact ih N' p' k1 k2 k4 (by omega) k3
 have zero : M = 0 → ∀ c : Nat, c ≤ 1000000 → Ev (fun k => graftref9_scaled.l1 k (-(c : Int)) 0) (bitsOf M r) := by
  intro h c
  subst h
  have hr0 : r = 0 := by rcases hc.ge with h | h <;> omega
  subst hr0
  induction c with
  | zero => exact fun _ => Ev.succ (fun k => by rw [graftref9_scaled.l1]) (Ev.no (by omega) (Ev.const _))
  | succ c ih =>
   intro hcc
   have ec : Hid (wrap64 (-((c + 1 : Nat) : Int) + 1) = -(c : Int)) := ⟨by rw [w64 (by omega) (by omega)]; omega⟩
   have hneg : -((c + 1 : Nat) : Int) < 0 := by omega
   refine Ev.succ (fun k => by rw [graftref9_scaled.l1]) (Ev.yes hneg (Ev.yes quo_zero.1 ?_))
   rw [ec.out, quo_zero.2]
   exact ih (by omega)
 have up : ∀ (c N p : Nat), Can N p → 0 < N → bitsOf N p < 9218868437227405312 → c ≤ 1000000 → N * 2 ^ p * 2 ^ c = M * 2 ^ r → Ev (fun k => graftref9_scaled.l0 k (c : Int) (bitsOf N p)) (bitsOf M r) := by
  intro c
  induction c with
  | zero =>
   intro N p h h0 hb _ hv
   have h1 := down 0 N p h h0 hb (by omega) (by rw [← hv, Nat.pow_zero, Nat.mul_one, Nat.mul_one])
   have e0 : -((0 : Nat) : Int) = ((0 : Nat) : Int) := by decide
   have e2 : ¬ ((0 : Nat) : Int) > 0 := by decide
   rw [e0] at h1
   exact Ev.succ (fun k => by rw [graftref9_scaled.l0]) (Ev.no e2 h1)
  | succ c ih =>
   intro N p h h0 hb hcc hv
   obtain ⟨N', p', k1, k2, k3, k4⟩ := dbl h h0 hb
   have hv2 : N' * 2 ^ p' * 2 ^ c = M * 2 ^ r := by rw [k3, ← hv, Nat.pow_succ]; grind
   have hlt : N' * 2 ^ p' < 2 ^ (53 + r) := by
    have h1 := can_val hc
    have h2 : N' * 2 ^ p' * 1 ≤ N' * 2 ^ p' * 2 ^ c := Nat.mul_le_mul_left _ (Nat.two_pow_pos c)
    omega
   have hp' := fin_rung k1 hlt
   have hb' := can_bits k1 (by clear hb; omega)
   obtain ⟨k5, k6⟩ := k4 hb'
   have ec : Hid (wrap64 (((c + 1 : Nat) : Int) - 1) = (c : Int)) := ⟨by rw [w64 (by omega) (by omega)]; omega⟩
   have hpos : ((c + 1 : Nat) : Int) > 0 := by omega
   refine Ev.succ (fun k => by rw [graftref9_scaled.l0]) (Ev.yes hpos (Ev.yes k5 ?_))
   rw [ec.out, k6]
   exact ih N' p' k1 k2 hb' (by omega) hv2
 by_cases h0 : M = 0
 ·have hr0 : r = 0 := by rcases hc.ge with h | h <;> omega
  have h1 := zero h0 1074 (by omega)
  rw [h0, hr0] at h1 ⊢
  refine Ev.succ (fun k => by rw [graftref9_scaled.f, graftref9_scaled.l0]) (Ev.no (by omega) ?_)
  exact h1
 ·obtain ⟨t, ht, t1, t2⟩ := log_up (by omega) (hc.log (by omega)).1
  have hct : Can (M * 2 ^ t) (1074 - t) := ⟨t2, .inr t1⟩
  have hbt := can_bits hct (by omega)
  unfold graftref9_scaled.f
  rw [ofInt_can (by omega) t2 t1 (by omega)]
  by_cases hr2 : 1074 ≤ r
  ·obtain ⟨c, hcr⟩ : ∃ c, r = 1074 + c := ⟨r - 1074, by omega⟩
   have e1 : (r : Int) - 1074 = (c : Int) := by omega
   rw [e1]
   refine up c _ _ hct (by omega) hbt (by omega) ?_
   rw [Nat.mul_assoc M, ← Nat.pow_add, Nat.mul_assoc, ← Nat.pow_add]
   congr 2
   omega
  ·obtain ⟨c, hcr⟩ : ∃ c, c + r = 1074 := ⟨1074 - r, by omega⟩
   have e1 : (r : Int) - 1074 = -(c : Int) := by omega
   rw [e1]
   refine Ev.succ (fun k => by rw [graftref9_scaled.l0]) (Ev.no ?_ (down c _ _ hct (by omega) hbt (by omega) ?_))
   ·omega
   rw [Nat.mul_assoc M, ← Nat.pow_add, Nat.mul_assoc, ← Nat.pow_add]
   congr 2
   omega
theorem bits_big : (4845873199050653696 : Nat) = bitsOf 4503599627370496 1075 ∧ (4841369599423283200 : Nat) = bitsOf 4503599627370496 1074 := by decide
theorem cut_zero_pow {M : Nat} (hM : 0 < M) (s : Nat) : Ieee.Toward.zero.cut false (M * 2 ^ s) s = M := by
 unfold Ieee.Toward.cut
 rw [log2_mul_pow hM, show min s (M.log2 + s + 2) = s by omega]
 simp only [Nat.one_shiftLeft]
 rw [Nat.mul_div_cancel _ (Nat.two_pow_pos s)]
 simp
theorem toInt_number (w : Ieee.Toward) (s : Bool) (m : Nat) (i : Int) : (Ieee.Datum.number s m i).toInt w = some (Ieee.signed s (w.cut s (m <<< i.toNat) (-i).toNat) 0) := rfl
theorem fi_of {x V : Nat} (h2 : (Ieee.double.read x).toInt .zero = some (V : Int)) (hV2 : V < 9007199254740992) : fiok x .i64 = true ∧ fint x .i64 = (V : Int) := by
 have hrange : -9223372036854775808 ≤ (V : Int) ∧ (V : Int) ≤ 9223372036854775807 := by omega
 have h : floatToIntVal .f64 x .i64 = some (V : Int) := by
  unfold floatToIntVal
  have h3 : (FloatKind.f64.decode x).toInt .zero = some (V : Int) := h2
  rw [h3]
  have e4 : IntKind.i64.min = -9223372036854775808 := by decide
  have e5 : IntKind.i64.max = 9223372036854775807 := by decide
  rw [e4, e5]
  dsimp only
  rw [if_pos hrange]
 unfold fiok fint
 rw [h]
 exact ⟨rfl, rfl⟩
theorem places {p s : Nat} (hs : s + p = 1074) : (-1074 + (p : Int)).toNat = 0 ∧ (-(-1074 + (p : Int))).toNat = s := by omega
theorem toInt_low {V N p s : Nat} (hV : 0 < V) (hs : s + p = 1074) (hN : N = V * 2 ^ s) : (Ieee.Datum.number false N (-1074 + (p : Int))).toInt .zero = some (V : Int) := by
 obtain ⟨e2, e3⟩ := places hs
 rw [toInt_number, e2, e3, Nat.shiftLeft_zero, hN, cut_zero_pow hV, signed_false, Nat.pow_zero, Nat.mul_one]
/-- A float64 that is a whole number, as such. -/
theorem fint_i64 {V N p : Nat} (h : Can N p) (hp : p ≤ 1074) (hV : 0 < V) (hV2 : V < 9007199254740992) (hv : N * 2 ^ p = V * Q) : fiok (bitsOf N p) .i64 = true ∧ fint (bitsOf N p) .i64 = (V : Int) := by
 refine fi_of ?_ hV2
 rw [read_pos h (can_bits h (Nat.le_trans hp (by decide)))]
 have hs : 1074 - p + p = 1074 := Nat.sub_add_cancel hp
 refine toInt_low hV hs ?_
 rw [Q_split hs, ← Nat.mul_assoc] at hv
 exact Nat.eq_of_mul_eq_mul_right (Nat.two_pow_pos p) hv
theorem flt_half {N p : Nat} (h : Can N p) (hp : p ≤ 1073) : flt (bitsOf N p) 4841369599423283200 = true := by
 have hb := can_bits h (by omega)
 rw [flt_pos hb (by decide), decide_eq_true_iff, bits_big.2]
 exact bits_lt h.lt (Nat.le_refl _) (by omega)
theorem parts_ev {M r : Nat} (hc : Can M r) (h0 : 0 < M) (hr : r ≤ 2045) : Ev (fun k => graftref9_parts.f k (bitsOf M r)) ((M : Int), (r : Int) - 1074) := by
 -- at a whole number of 53 bits
 have stop : 4503599627370496 ≤ M → ∀ e : Int, Ev (fun k => graftref9_parts.l1 k (bitsOf M 1074) e) ((M : Int), e) := by
  intro hM e
  have hcan : Can M 1074 := ⟨hc.lt, .inr hM⟩
  obtain ⟨f1, f2⟩ := fint_i64 (V := M) hcan (Nat.le_refl _) h0 hc.lt (by rw [Q_at (Eq.refl _)])
  have hb := can_bits hcan (by decide)
  have hf : ¬ flt (bitsOf M 1074) 4841369599423283200 = true := by
   rw [flt_pos hb (by decide), decide_eq_true_iff, bits_big.2]
   exact Nat.not_lt.2 (Nat.add_le_add_left hM _)
  refine Ev.succ (fun k => by rw [graftref9_parts.l1]) (Ev.no hf (Ev.yes f1 ?_))
  rw [f2]
  exact Ev.const _
 have down : ∀ (d : Nat) (e : Int), 4503599627370496 ≤ M → d ≤ 971 → -2000 ≤ e → e + d ≤ 2000 → Ev (fun k => graftref9_parts.l0 k (bitsOf M (1074 + d)) e) ((M : Int), e + d) := by
  intro d
  induction d with
  | zero =>
   intro e hM _ _ _
   have h1 := stop hM e
   have hcan : Can M 1074 := ⟨hc.lt, .inr hM⟩
   have hb := can_bits hcan (by decide)
   have hf : ¬ fge (bitsOf M 1074) 4845873199050653696 = true := by
    rw [fge_pos hb (by decide), decide_eq_true_iff, bits_big.1]
    exact Nat.not_le.2 (bits_lt hc.lt (Nat.le_refl _) (by decide))
   have e0 : e + ((0 : Nat) : Int) = e := by omega
   rw [e0]
   exact Ev.succ (fun k => by rw [graftref9_parts.l0]) (Ev.no hf h1)
  | succ d ih =>
   intro e hM hd he he2
   have hcan : Can M (1074 + (d + 1)) := ⟨hc.lt, .inr hM⟩
   have hcan2 : Can M (1074 + d) := ⟨hc.lt, .inr hM⟩
   have hb := can_bits hcan (by omega)
   have hf : fge (bitsOf M (1074 + (d + 1))) 4845873199050653696 = true := by
    rw [fge_pos hb (by decide), decide_eq_true_iff, bits_big.1]
    exact Nat.add_le_add (Nat.mul_le_mul_right _ (show 1075 ≤ 1074 + (d + 1) by clear hb; omega)) hM
   obtain ⟨k5, k6⟩ := fok_some (op := .quo) (quo_two hcan h0 hb hcan2 (.inl ⟨rfl, rfl⟩))
   have h1 := ih (e + 1) hM (by omega) (by omega) (by omega)
   have ee : e + ((d + 1 : Nat) : Int) = e + 1 + d := by omega
   have ew : wrap64 (e + 1) = e + 1 := w64 (by omega) (by omega)
   refine Ev.succ (fun k => by rw [graftref9_parts.l0]) (Ev.yes hf (Ev.yes k5 ?_))
   rw [k6, ew, ee]
   exact h1
 have up : ∀ (d i N p : Nat), i + d + r = 1074 → Can N p → 0 < N → N * 2 ^ p = M * 2 ^ (r + i) → Ev (fun k => graftref9_parts.l1 k (bitsOf N p) (-(i : Int))) ((M : Int), (r : Int) - 1074) := by
  intro d
  induction d with
  | zero =>
   intro i N p hi h hN hv
   have e1 : r + i = 1074 := by omega
   have e2 : -(i : Int) = (r : Int) - 1074 := by omega
   by_cases hM : 4503599627370496 ≤ M
   ·obtain ⟨hNM, hpp⟩ := can_uniq h ⟨hc.lt, .inr hM⟩ hN hv
    rw [← e2, hNM, hpp, e1]
    exact stop hM _
   ·have hr0 : r = 0 := by rcases hc.ge with h | h <;> omega
    have hp : p ≤ 1073 := by
     have h3 : N * 2 ^ p < 2 ^ (52 + (r + i)) := by
      rw [hv, Nat.pow_add 2 52]
      exact Nat.mul_lt_mul_of_pos_right (by omega) (Nat.two_pow_pos _)
     have := fin_rung h h3
     omega
    rw [Q_at e1] at hv
    have hf := flt_half h hp
    obtain ⟨f1, f2⟩ := fint_i64 h (by omega) h0 hc.lt hv
    have hg : ¬ (-(i : Int)) > -1074 := by omega
    refine Ev.succ (fun k => by rw [graftref9_parts.l1]) (Ev.yes hf (Ev.no hg (Ev.yes f1 ?_)))
    rw [f2, e2]
    exact Ev.const _
  | succ d ih =>
   intro i N p hi h hN hv
   have hp : p ≤ 1073 := by
    have h3 : N * 2 ^ p < 2 ^ (53 + (r + i)) := by
     rw [hv, Nat.pow_add 2 53]
     exact Nat.mul_lt_mul_of_pos_right (by have := hc.lt; omega) (Nat.two_pow_pos _)
    have := fin_rung h h3
    omega
   have hf := flt_half h hp
   obtain ⟨N', p', k1, k2, k3, k4⟩ := dbl h hN (can_bits h (by omega))
   have hv' : N' * 2 ^ p' = M * 2 ^ (r + (i + 1)) := by rw [k3, hv, ← Nat.add_assoc, Nat.pow_succ]; grind
   have hp' : p' ≤ 1075 := by
    have h3 : N' * 2 ^ p' < 2 ^ (53 + (r + (i + 1))) := by
     rw [hv', Nat.pow_add 2 53]
     exact Nat.mul_lt_mul_of_pos_right (by have := hc.lt; omega) (Nat.two_pow_pos _)
    have := fin_rung k1 h3
    omega
   obtain ⟨k5, k6⟩ := k4 (can_bits k1 (by omega))
   have hg : (-(i : Int)) > -1074 := by omega
   have h1 := ih (i + 1) N' p' (by omega) k1 k2 hv'
   have ew : wrap64 (-(i : Int) - 1) = -((i + 1 : Nat) : Int) := by rw [w64 (by omega) (by omega)]; omega
   refine Ev.succ (fun k => by rw [graftref9_parts.l1]) (Ev.yes hf (Ev.yes hg (Ev.yes k5 ?_)))
   rw [k6, ew]
   exact h1
 unfold graftref9_parts.f
 by_cases hbig : 1074 < r
 ·obtain ⟨d, rfl⟩ : ∃ d, r = 1074 + d := ⟨r - 1074, by omega⟩
  have hM : 4503599627370496 ≤ M := by rcases hc.ge with h | h <;> omega
  have h1 := down d 0 hM (by omega) (by omega) (by omega)
  have e1 : (0 : Int) + d = ((1074 + d : Nat) : Int) - 1074 := by omega
  rw [e1] at h1
  exact h1
 ·have h1 := up (1074 - r) 0 M r (by omega) hc h0 (by rw [Nat.add_zero])
  have hb := can_bits hc hr
  have hf : ¬ fge (bitsOf M r) 4845873199050653696 = true := by
   rw [fge_pos hb (by decide), decide_eq_true_iff, bits_big.1]
   exact Nat.not_le.2 (bits_lt hc.lt (Nat.le_refl _) (by clear hb; omega))
  have e0 : -((0 : Nat) : Int) = 0 := by decide
  rw [e0] at h1
  exact Ev.succ (fun k => by rw [graftref9_parts.l0]) (Ev.no hf h1)
end Go.Proofs.Ytlhciggmllddkaa.Pl
end
section
namespace Go.Proofs.Ytlhciggmllddkaa.Pl
open Go Go.RowKit Go.Proofs.YtlhciggmllddkaaW.PrintWords Go.Proofs.YtlhciggmllddkaaW.PrintLast Go.Proofs.YtlhciggmllddkaaW.PrintMore Go.Proofs.Ytlhciggmllddkaa.PNum
set_option linter.unusedVariables false
set_option linter.unusedSimpArgs false
theorem dec_ev (n : Nat) (hn : n < 9223372036854775808) : Ev (fun k => graftref9_dec.f k (n : Int)) (strOfNums (dg n)) := by
 have key : ∀ (j n : Nat) (ys : List Int), n < 10 ^ (j + 1) → n < 9223372036854775808 → j + 1 + ys.length ≤ 1000000 → Ev (fun k => graftref9_dec.l0 k (n : Int) (strOfNums ys)) (strOfNums (dg n ++ ys)) := by
  intro j
  induction j with
  | zero =>
   intro n ys hn hn2 hl
   have e : wrap64 (48 + (n : Int)) % 256 = 48 + (n : Int) := by rw [w64 (by omega) (by omega)]; omega
   refine Ev.succ (fun k => by rw [graftref9_dec.l0]) (Ev.no ?_ (Ev.bind (Ev.const _) ?_))
   ·omega
   rw [e, sn_size, sn_size, sn_append, dg_small (by omega)]
   refine Ev.yes ?_ (Ev.const _)
   simp
   omega
  | succ j ih =>
   intro n ys hn hn2 hl
   by_cases h9 : n < 10
   ·have e : wrap64 (48 + (n : Int)) % 256 = 48 + (n : Int) := by rw [w64 (by omega) (by omega)]; omega
    refine Ev.succ (fun k => by rw [graftref9_dec.l0]) (Ev.no ?_ (Ev.bind (Ev.const _) ?_))
    ·omega
    rw [e, sn_size, sn_size, sn_append, dg_small h9]
    refine Ev.yes ?_ (Ev.const _)
    simp
    omega
   ·have h1 := ih (n / 10) ((48 + ((n % 10 : Nat) : Int)) :: ys) (by rw [Nat.pow_succ] at hn; omega) (by omega) (by simp; omega)
    refine Ev.succ (fun k => by rw [graftref9_dec.l0]) (Ev.yes ?_ (Ev.bind (Ev.const _) ?_))
    ·omega
    have e1 : wrap64 (48 + Int.tmod (n : Int) 10) % 256 = 48 + ((n % 10 : Nat) : Int) := by
     rw [Int.tmod_eq_emod_of_nonneg (by omega), w64 (by omega) (by omega)]
     omega
    have e2 : wrap64 (Int.tdiv (n : Int) 10) = ((n / 10 : Nat) : Int) := by
     rw [Int.tdiv_eq_ediv_of_nonneg (by omega), w64 (by omega) (by omega)]
     omega
    have e3 : dg n ++ ys = dg (n / 10) ++ ((48 + ((n % 10 : Nat) : Int)) :: ys) := by rw [dg_big h9, List.append_assoc]; rfl
    have hsz : [48 + ((n % 10 : Nat) : Int)].length + ys.length ≤ 9223372036854775807 := by
     clear e1 e2
     simp
     omega
    rw [e1, e2, sn_size, sn_size, sn_append, e3]
    exact Ev.yes hsz h1
 have h1 := key 18 n [] (by omega) hn (by simp)
 rw [List.append_nil] at h1
 exact h1
def dval (xs : List Int) : Nat := xs.foldl (fun v x => v * 10 + (x - 48).toNat) 0
theorem dval_snoc (xs : List Int) (x : Int) : dval (xs ++ [x]) = dval xs * 10 + (x - 48).toNat := by
 unfold dval
 rw [List.foldl_append]
 rfl
theorem dval_dg (n : Nat) : dval (dg n) = n := by
 induction n using Nat.strongRecOn with
 | _ n ih =>
  by_cases h9 : n < 10
  ·rw [dg_small h9]
   have := dval_snoc [] (48 + (n : Int))
   rw [List.nil_append] at this
   rw [this]
   show 0 * 10 + _ = n
   omega
  ·rw [dg_big h9, dval_snoc, ih (n / 10) (by omega)]
   omega
/-- Digits: the bytes '0' to '9'. -/
def Dig (xs : List Int) : Prop := ∀ x ∈ xs, 48 ≤ x ∧ x ≤ 57
theorem bt_sn (xs : List Int) (h : ∀ x ∈ xs, 0 ≤ x ∧ x < 256) (i : Nat) (hi : i < xs.length) : bt (strOfNums xs) (i : Int) = xs[i] := by
 have hr := h _ (List.getElem_mem hi)
 unfold bt
 have hlt : ((i : Int)).toNat < (strOfNums xs).size := by rw [sn_size]; omega
 rw [dif_pos hlt]
 have e : (strOfNums xs)[((i : Int)).toNat]'hlt = UInt8.ofNat (xs[i]).toNat := by
  show (strOfNums xs).data[((i : Int)).toNat]'hlt = _
  unfold strOfNums
  simp
 rw [e, UInt8.toNat_ofNat']
 omega
theorem Dig.byte {xs : List Int} (h : Dig xs) : ∀ x ∈ xs, 0 ≤ x ∧ x < 256 := fun x hx => by
 have := h x hx
 omega
theorem sn_drop (xs : List Int) (i : Nat) : (strOfNums xs).extract i (strOfNums xs).size = strOfNums (xs.drop i) := by
 apply ByteArray.ext
 rw [ByteArray.data_extract, sn_size]
 apply Array.ext'
 rw [Array.toList_extract, List.extract_eq_take_drop, strOfNums_data, strOfNums_data, List.map_drop, List.take_of_length_le]
 simp
theorem sn_nil (xs : List Int) : (strOfNums xs).toList = ([] : List UInt8) ↔ xs = [] := by
 rw [ByteArray.toList_eq, strOfNums_data]
 simp
theorem rtimes1 {l : List Int} {m : Nat} (hl : Rep P24 l m) (hlen : l.length ≤ 1000000000) (yi ci : Int) (y c : Nat) (hyi : yi = y) (hci : ci = c) (hy : y ≤ 1048576) (hc : c ≤ 16777216) :
  ∃ r, Ev (fun k => graftref9_times.f k l yi ci) r ∧ Rep P24 r (m * y + c) ∧ r.length ≤ l.length + 2 := by
 subst hyi hci
 exact rtimes_ev hl hlen y c hy hc
theorem small0 : ∃ r, Ev (fun k => graftref9_small.f k 1) r ∧ Rep P24 r 1 ∧ r.length ≤ 3 := small_ev 1 (by omega) (by omega)
/-- behind the zeros, no early way out -/
theorem valued_mid {ys : List Int} (hd : Dig ys) (hl : ys.length ≤ 60) (h0 : 0 < dval ys) {ten : Int} (ht : -470 ≤ ten) (ht2 : ten ≤ 401) {x : Nat} (hx : Rnd (dval ys * T ten) (T (-ten)) x) :
  Ev (fun k => graftref9_valued.l1 k (strOfNums ys) ten ([] : List Int) 0) (if x < 9218868437227405312 then (x, true) else (0, false)) := by
 have fin : ∀ (la lb : List Int) (a b : Nat), Rep P24 la a → Rep P24 lb b → la.length ≤ 1000 → lb.length ≤ 1000 → 0 < a → 0 < b → Rnd a b x → Ev (fun k => graftref9_valued.j4 k la lb) (if x < 9218868437227405312 then (x, true) else (0, false)) := by
  intro la lb a b h1 h2 h3 h4 h5 h6 h7
  obtain ⟨M, r, k1, k2, k3, k4⟩ := rnearest_ev h1 h2 h3 h4 h5 h6 h7
  refine Ev.succ (fun k => by rw [graftref9_valued.j4]) (Ev.bind k4 ?_)
  by_cases hr : r ≤ 2045
  ·have hb := can_bits k1 hr
   rw [k2, if_pos hb]
   refine Ev.no ?_ (Ev.bind (rscaled_ev k1 hr) (Ev.const _))
   show ¬ ((r : Int) - 1074 > 971)
   clear hb k2
   omega
  ·have hM : 4503599627370496 ≤ M := by rcases k1.ge with h | h <;> omega
   have hb : ¬ x < 9218868437227405312 := by
    rw [k2]
    have h1 : 2046 * 4503599627370496 + 4503599627370496 ≤ r * 4503599627370496 + M := Nat.add_le_add (Nat.mul_le_mul_right _ (by omega)) hM
    exact Nat.not_lt.2 h1
   rw [if_neg hb]
   refine Ev.yes ?_ (Ev.const _)
   show (r : Int) - 1074 > 971
   clear hb k2
   omega
 have digits : ∀ (d i : Nat) (w : List Int), i + d = ys.length → Rep P24 w (dval (ys.take i)) → w.length ≤ 2 * i → Ev (fun k => graftref9_valued.l1 k (strOfNums ys) ten w (i : Int)) (if x < 9218868437227405312 then (x, true) else (0, false)) := by
  intro d
  induction d with
  | zero =>
   intro i w hi hw hwl
   rw [List.take_of_length_le (by omega)] at hw
   obtain ⟨o, o1, o2, o3⟩ := small0
   have hsz : ¬ ((i : Int) < ((strOfNums ys).size : Int)) := by rw [sn_size]; omega
   refine Ev.succ (fun k => by rw [graftref9_valued.l1]) (Ev.no hsz (Ev.bind o1 ?_))
   by_cases hpos : ten > 0
   ·obtain ⟨j, rfl⟩ := Int.eq_ofNat_of_zero_le (Int.le_of_lt hpos)
    obtain ⟨v, v1, v2, v3⟩ := rtens_ev hw j (by omega)
    refine Ev.yes hpos (Ev.bind v1 (fin v o _ 1 v2 o2 (by omega) (by omega) (Nat.mul_pos h0 (Nat.pow_pos (by omega))) (by omega) ?_))
    have e1 : T (j : Int) = 10 ^ j := rfl
    have e2 : T (-(j : Int)) = 1 := by
     unfold T
     have : (-(j : Int)).toNat = 0 := by omega
     rw [this, Nat.pow_zero]
    rw [e1, e2] at hx
    exact hx
   ·obtain ⟨j, hj⟩ := Int.eq_ofNat_of_zero_le (show 0 ≤ -ten by omega)
    obtain ⟨v, v1, v2, v3⟩ := rtens_ev o2 j (by omega)
    rw [Nat.one_mul] at v2
    have e1 : T ten = 1 := by
     unfold T
     have : ten.toNat = 0 := by omega
     rw [this, Nat.pow_zero]
    have e2 : T (-ten) = 10 ^ j := by rw [hj]; rfl
    have e3 : wrap64 (-ten) = (j : Int) := by rw [w64 (by omega) (by omega)]; exact hj
    rw [e1, e2, Nat.mul_one] at hx
    have hf := fin w v _ _ hw v2 (by clear e3; omega) (by clear e3; omega) h0 (Nat.pow_pos (by decide)) hx
    refine Ev.no hpos ?_
    rw [e3]
    exact Ev.bind v1 hf
  | succ d ih =>
   intro i w hi hw hwl
   have hiy : i < ys.length := by omega
   have hdg := hd _ (List.getElem_mem hiy)
   have hsz : ((i : Int) < ((strOfNums ys).size : Int)) := by rw [sn_size]; omega
   have hbt := bt_sn ys hd.byte i hiy
   obtain ⟨v, v1, v2, v3⟩ := rtimes1 hw (by omega) 10 ((bt (strOfNums ys) (i : Int) - 48) % 256) 10 (ys[i] - 48).toNat rfl (by rw [hbt]; omega) (by omega) (by omega)
   have e1 : dval (ys.take (i + 1)) = dval (ys.take i) * 10 + (ys[i] - 48).toNat := by rw [List.take_succ_eq_append_getElem hiy, dval_snoc]
   rw [← e1] at v2
   have h1 := ih (i + 1) v (by omega) v2 (by omega)
   have hi0 : 0 ≤ (i : Int) := Int.natCast_nonneg i
   have ew : wrap64 ((i : Int) + 1) = ((i + 1 : Nat) : Int) := by clear hbt v1; rw [w64 (by omega) (by omega)]; omega
   refine Ev.succ (fun k => by rw [graftref9_valued.l1]) (Ev.yes hsz (Ev.yes hi0 (Ev.bind v1 ?_)))
   rw [ew]
   exact h1
 exact digits ys.length 0 [] (by omega) ⟨Wf.nil, Nz.nil, rfl⟩ (by simp)
end Go.Proofs.Ytlhciggmllddkaa.Pl
end
section
namespace Go.Proofs.Ytlhciggmllddkaa.Pl
open Go Go.RowKit Go.Proofs.YtlhciggmllddkaaW.PrintWords Go.Proofs.YtlhciggmllddkaaW.PrintLast Go.Proofs.YtlhciggmllddkaaW.PrintMore Go.Proofs.Ytlhciggmllddkaa.PNum
set_option linter.unusedVariables false
set_option linter.unusedSimpArgs false
theorem dg_dig (n : Nat) : Dig (dg n) := dg_wf n
theorem dg_pos (n : Nat) : 0 < (dg n).length := by
 by_cases h9 : n < 10
 ·rw [dg_small h9]; simp
 ·rw [dg_big h9]; simp
theorem dg_head (n : Nat) (h0 : 0 < n) : (dg n)[0]'(dg_pos n) ≠ 48 := by
 induction n using Nat.strongRecOn with
 | _ n ih =>
  by_cases h9 : n < 10
  ·have e : dg n = [48 + (n : Int)] := dg_small h9
   have e2 : (dg n)[0]'(dg_pos n) = ([48 + (n : Int)] : List Int)[0] := by congr 1
   rw [e2]
   show ¬ (48 + (n : Int) = 48)
   omega
  ·have e : dg n = dg (n / 10) ++ [48 + ((n % 10 : Nat) : Int)] := dg_big h9
   have h1 := ih (n / 10) (by omega) (by omega)
   have hp := dg_pos (n / 10)
   have e2 : (dg n)[0]'(dg_pos n) = (dg (n / 10))[0]'hp := by
    have h3 : (dg n)[0]? = (dg (n / 10))[0]? := by rw [e, List.getElem?_append_left hp]
    rw [List.getElem?_eq_getElem (dg_pos n), List.getElem?_eq_getElem hp] at h3
    exact Option.some.inj h3
   rw [e2]
   exact h1
theorem valued_dg {s : Nat} (h0 : 0 < s) {ten : Int} (hl : (dg s).length ≤ 60) (h1 : -400 ≤ ten + (dg s).length) (h2 : ten + (dg s).length ≤ 400) {x : Nat} (hx : Rnd (s * T ten) (T (-ten)) x) :
  Ev (fun k => graftref9_valued.f k (strOfNums (dg s)) ten) (if x < 9218868437227405312 then (x, true) else (0, false)) := by
 have hp := dg_pos s
 have hm := valued_mid (ys := dg s) (dg_dig s) hl (by rw [dval_dg]; exact h0) (ten := ten) (by omega) (by omega) (by rw [dval_dg]; exact hx)
 have hb := bt_sn (dg s) (dg_dig s).byte 0 hp
 have hsz : ((0 : Nat) : Int) < ((strOfNums (dg s)).size : Int) := by rw [sn_size]; omega
 have hne : ¬ bt (strOfNums (dg s)) ((0 : Nat) : Int) = 48 := by rw [hb]; exact dg_head s h0
 have hex : (strOfNums (dg s)).extract (((0 : Nat) : Int)).toNat (strOfNums (dg s)).size = strOfNums (dg s) := by
  rw [Int.toNat_natCast, sn_drop, List.drop_zero]
 have hnil : ¬ (strOfNums (dg s)).toList = ([] : List UInt8) := by
  rw [sn_nil]
  intro h
  rw [h] at hp
  exact absurd hp (by decide)
 have hle : ((0 : Nat) : Int) ≤ ((strOfNums (dg s)).size : Int) := Int.le_of_lt hsz
 have hw : wrap64 (ten + ((strOfNums (dg s)).size : Int)) = ten + ((dg s).length : Int) := by rw [sn_size, w64 (by omega) (by omega)]
 have hd : decide (ten + ((dg s).length : Int) < -400) = false := by
  rw [decide_eq_false_iff_not]
  clear hw
  omega
 have h400 : ¬ ten + ((dg s).length : Int) > 400 := by clear hw; omega
 have j2 : Ev (fun k => graftref9_valued.j2 k (strOfNums (dg s)) ten false) (if x < 9218868437227405312 then (x, true) else (0, false)) := by
  refine Ev.succ (fun k => by rw [graftref9_valued.j2]) (Ev.no Bool.false_ne_true ?_)
  rw [hw]
  exact Ev.no h400 hm
 have j1 : Ev (fun k => graftref9_valued.j1 k (strOfNums (dg s)) ten ((0 : Nat) : Int)) (if x < 9218868437227405312 then (x, true) else (0, false)) := by
  refine Ev.succ (fun k => by rw [graftref9_valued.j1]) (Ev.yes (Int.natCast_nonneg 0) (Ev.yes hle ?_))
  rw [hex]
  refine Ev.no hnil ?_
  rw [hw, hd]
  exact j2
 have c0 : ((0 : Nat) : Int) = 0 := rfl
 rw [c0] at hsz hne j1
 exact Ev.succ (fun k => by rw [graftref9_valued.f, graftref9_valued.l0]) (Ev.yes hsz (Ev.yes (Int.le_refl 0) (Ev.no hne j1)))
end Go.Proofs.Ytlhciggmllddkaa.Pl
end
section
namespace Go.Proofs.Ytlhciggmllddkaa.Pl
open Go Go.RowKit Go.Proofs.YtlhciggmllddkaaW.PrintWords Go.Proofs.YtlhciggmllddkaaW.PrintLast Go.Proofs.YtlhciggmllddkaaW.PrintMore Go.Proofs.Ytlhciggmllddkaa.PNum
set_option linter.unusedVariables false
set_option linter.unusedSimpArgs false
/-- What the reference's search comes to. -/
def rOut (n : Int) : Option (Nat × Nat) → ByteArray × Int
 | some (k, s) => if k < (dg s).length then (strOfNums ((dg s).take k), n + 1) else (strOfNums (dg s), n)
 | none => (⟨#[]⟩, 0)
/-- What is read of s * 10 ^ e, as a pair: is it x? -/
theorem valued_fit {s x : Nat} (h0 : 0 < s) {ten : Int} (hl : (dg s).length ≤ 60) (h1 : -400 ≤ ten + (dg s).length) (h2 : ten + (dg s).length ≤ 400) (hx : x < 9218868437227405312) :
  ∃ y : Nat × Bool, Ev (fun k => graftref9_valued.f k (strOfNums (dg s)) ten) y ∧ ((y.2 = true ∧ feq y.1 x = true) ↔ Fit x s ten) := by
 obtain ⟨y, hy⟩ := Rnd.exists (a := s * T ten) (b := T (-ten)) (T_pos _)
 have hv := valued_dg h0 hl h1 h2 hy
 by_cases hyb : y < 9218868437227405312
 ·rw [if_pos hyb] at hv
  refine ⟨(y, true), hv, ?_⟩
  rw [feq_pos hyb hx, decide_eq_true_iff]
  constructor
  ·rintro ⟨_, rfl⟩; exact hy
  ·intro h; exact ⟨rfl, hy.uniq h⟩
 ·rw [if_neg hyb] at hv
  refine ⟨(0, false), hv, ?_⟩
  constructor
  ·rintro ⟨h, _⟩; cases h
  ·intro h
   have := hy.uniq h
   omega
theorem pick2_yes {P R : Prop} {q r B : Nat} (h : P ∧ (¬ R ∨ 2 * r < B ∨ (2 * r = B ∧ q % 2 = 0))) : pick2 P R q r B = some q := cif_pos h
theorem pick2_up {P R : Prop} {q r B : Nat} (h : ¬ (P ∧ (¬ R ∨ 2 * r < B ∨ (2 * r = B ∧ q % 2 = 0)))) (h2 : R) : pick2 P R q r B = some (q + 1) := by
 unfold pick2
 rw [cif_neg h, cif_pos h2]
theorem pick2_no {P R : Prop} {q r B : Nat} (h : ¬ P) (h2 : ¬ R) : pick2 P R q r B = none := by
 unfold pick2
 rw [cif_neg (fun hh => h hh.1), cif_neg h2]
/-- The last steps of a round: up is told, low is told. -/
theorem rj7_ev {x0 : Nat} {x6 x7 : List Int} {n : Int} {k q : Nat} (hn : -400 < n) (hn2 : n ≤ 400) (hk : 1 ≤ k) (hk2 : k ≤ 17) (q1 : 10 ^ (k - 1) ≤ q) (q2 : q < 10 ^ k) (up low : Bool) {R : ByteArray × Int} {o : Option Nat}
  (ho : (low = true ∧ o = some q) ∨ (low = false ∧ up = true ∧ o = some (q + 1)) ∨ (low = false ∧ up = false ∧ o = none))
  (hR : o = none → Ev (fun f => graftref9_shortest.l2 f x0 x6 x7 n ((k + 1 : Nat) : Int)) R) (hO : ∀ s, o = some s → R = rOut n (some (k, s))) :
  Ev (fun f => graftref9_shortest.j7 f x0 x6 x7 n (k : Int) (q : Int) up low) R := by
 have h17 : 10 ^ k ≤ 10 ^ 17 := Nat.pow_le_pow_right (by decide) hk2
 have ek : k - 1 + 1 = k := by omega
 have hlq : (dg q).length = k := by
  have := dg_len (k - 1) q q1 (by rw [ek]; exact q2)
  omega
 rcases ho with ⟨hl, ho⟩ | ⟨hl, hu, ho⟩ | ⟨hl, hu, ho⟩
 ·rw [hO q ho, hl]
  unfold rOut
  dsimp only
  rw [if_neg (by omega)]
  exact Ev.succ (fun f => by rw [graftref9_shortest.j7]) (Ev.yes rfl (Ev.bind (dec_ev q (by omega)) (Ev.const _)))
 ·rw [hO (q + 1) ho, hl, hu]
  have e1 : Hid (wrap64 ((q : Int) + 1) = ((q + 1 : Nat) : Int)) := ⟨by rw [w64 (by omega) (by omega)]; omega⟩
  have e2 : Hid (wrap64 (n + 1) = n + 1) := ⟨w64 (by omega) (by omega)⟩
  have hd := dec_ev (q + 1) (by omega)
  refine Ev.succ (fun f => by rw [graftref9_shortest.j7]) (Ev.no Bool.false_ne_true (Ev.yes rfl ?_))
  rw [e1.out, e2.out]
  refine Ev.bind hd ?_
  rw [sn_size]
  unfold rOut
  dsimp only
  by_cases hlt : k < (dg (q + 1)).length
  ·rw [if_pos hlt]
   refine Ev.yes (by omega) (Ev.yes (by omega) (Ev.yes (by omega) ?_))
   have e3 : (strOfNums (dg (q + 1))).extract 0 ((k : Int)).toNat = strOfNums ((dg (q + 1)).take k) := by
    apply ByteArray.ext
    apply Array.ext'
    rw [ByteArray.data_extract, Int.toNat_natCast, Array.toList_extract, List.extract_eq_take_drop, strOfNums_data, strOfNums_data, List.map_take]
    simp
   rw [e3]
   exact Ev.const _
  ·rw [if_neg hlt]
   refine Ev.no (by omega) (Ev.const _)
 ·rw [hl, hu]
  have e1 : Hid (wrap64 ((k : Int) + 1) = ((k + 1 : Nat) : Int)) := ⟨by rw [w64 (by omega) (by omega)]; omega⟩
  refine Ev.succ (fun f => by rw [graftref9_shortest.j7]) (Ev.no Bool.false_ne_true (Ev.no Bool.false_ne_true ?_))
  rw [e1.out]
  exact hR ho
/-- From the quotient on. -/
theorem rj4_ev {M r : Nat} (hc : Can M r) (h0 : 0 < M) (hr : r ≤ 2045) {x6 x7 la lb : List Int} {a b : Nat} (ha : Rep P24 la a) (hb : Rep P24 lb b) (hb0 : 0 < b) (hla : la.length ≤ 1000000) (hlb : lb.length ≤ 1000000) {n : Int} (hm : Mag (M * 2 ^ r) n) (hn : -400 < n) (hn2 : n ≤ 399) {k : Nat} (hk : 1 ≤ k) (hk2 : k ≤ 17)
  (hcr : a * (Q * T (n - k)) = M * 2 ^ r * T (k - n) * b) {R : ByteArray × Int}
  (hR : pk (M * 2 ^ r) n k (bitsOf M r) = none → Ev (fun f => graftref9_shortest.l2 f (bitsOf M r) x6 x7 n ((k + 1 : Nat) : Int)) R) (hO : ∀ s, pk (M * 2 ^ r) n k (bitsOf M r) = some s → R = rOut n (some (k, s))) :
  Ev (fun f => graftref9_shortest.j4 f (bitsOf M r) x6 x7 n (k : Int) la lb) R := by
 have hD : 0 < Q * T (n - k) := Nat.mul_pos Q_pos (T_pos _)
 obtain ⟨hq, hrr⟩ := div_cross hb0 hD hcr
 have hcmp := cmp_cross hb0 hD hrr
 obtain ⟨q1, q2⟩ := quo_range hm k hk
 have h17 : 10 ^ k ≤ 10 ^ 17 := Nat.pow_le_pow_right (by decide) hk2
 have hp1 : 0 < 10 ^ (k - 1) := Nat.pow_pos (by decide)
 have hxb := can_bits hc hr
 have ek : k - 1 + 1 = k := by omega
 obtain ⟨w, d1, d2, d3⟩ := rdivided0 ha hb (by omega) (by omega) hb0 58 58 rfl (by omega) (by
  rw [← hq] at q2
  have h1 := (Nat.div_lt_iff_lt_mul hb0).1 (Nat.lt_of_lt_of_le q2 h17)
  rw [Nat.mul_comm b]
  exact Nat.lt_of_lt_of_le h1 (Nat.mul_le_mul_right _ (by decide)))
 rw [hq] at d1
 have hr0 : a % b = 0 ↔ M * 2 ^ r * T (k - n) % (Q * T (n - k)) = 0 := by
  constructor
  ·intro h
   rw [h, Nat.zero_mul] at hrr
   rcases Nat.mul_eq_zero.1 hrr.symm with h2 | h2
   ·exact h2
   ·omega
  ·intro h
   rw [h, Nat.zero_mul] at hrr
   rcases Nat.mul_eq_zero.1 hrr with h2 | h2
   ·exact h2
   ·omega
 have hw0 : w.length = 0 ↔ a % b = 0 := by
  constructor
  ·intro h
   have := List.eq_nil_of_length_eq_zero h
   subst this
   exact d2.zero
  ·intro h
   by_cases hw : w = []
   ·rw [hw]; rfl
   ·have := d2.pos (show (1 : Int) ≤ P24 by decide) hw
    omega
 have hdm := Nat.div_add_mod (M * 2 ^ r * T (k - n)) (Q * T (n - k))
 have eneg : -(n - (k : Int)) = k - n := by omega
 have hpk : pk (M * 2 ^ r) n k (bitsOf M r) = pick2 (Fit (bitsOf M r) (M * 2 ^ r * T (k - n) / (Q * T (n - k))) (n - k)) (M * 2 ^ r * T (k - n) % (Q * T (n - k)) ≠ 0 ∧ Fit (bitsOf M r) (M * 2 ^ r * T (k - n) / (Q * T (n - k)) + 1) (n - k)) (M * 2 ^ r * T (k - n) / (Q * T (n - k))) (M * 2 ^ r * T (k - n) % (Q * T (n - k))) (Q * T (n - k)) := rfl
 have hexact : M * 2 ^ r * T (k - n) % (Q * T (n - k)) = 0 → Fit (bitsOf M r) (M * 2 ^ r * T (k - n) / (Q * T (n - k))) (n - k) := by
  intro hz
  rw [hz, Nat.add_zero] at hdm
  unfold Fit
  refine Rnd.exact hc (T_pos _) ?_
  rw [eneg]
  refine Eq.trans ?_ hdm
  rw [Nat.mul_comm (Q * T (n - k)), Nat.mul_assoc, Nat.mul_comm Q]
 have hc2 : cmp (2 * (a % b)) b = cmp (2 * (M * 2 ^ r * T (k - n) % (Q * T (n - k)))) (Q * T (n - k)) := hcmp
 clear hcmp hrr hq hdm
 generalize M * 2 ^ r * T (k - n) / (Q * T (n - k)) = q at *
 generalize M * 2 ^ r * T (k - n) % (Q * T (n - k)) = rest at *
 have hlq : (dg q).length = k := by
  have := dg_len (k - 1) q q1 (by rw [ek]; exact q2)
  omega
 have hq18 : q < 9223372036854775807 := by omega
 by_cases hz : rest = 0
 ·have hp := hpk.trans (pick2_yes ⟨hexact hz, .inl (fun h => h.1 hz)⟩)
  have hwz : ((w.length : Nat) : Int) = 0 := by
   rw [hw0.2 (hr0.2 hz)]
   rfl
  rw [hO q hp]
  unfold rOut
  dsimp only
  rw [if_neg (by omega)]
  have hq19 : q < 9223372036854775808 := by omega
  refine Ev.succ (fun f => by rw [graftref9_shortest.j4]) (Ev.bind d1 (Ev.yes hwz ?_))
  exact Ev.bind (dec_ev q hq19) (Ev.const _)
 ·have hwz : ¬ ((w.length : Nat) : Int) = 0 := fun h => hz (hr0.1 (hw0.1 (by omega)))
  have hlq1 : (dg (q + 1)).length ≤ k + 1 := dg_len_le k (q + 1) (by rw [Nat.pow_succ]; omega)
  have hlq2 : k ≤ (dg (q + 1)).length := by
   by_cases htop : q + 1 < 10 ^ k
   ·have := dg_len (k - 1) (q + 1) (by omega) (by rw [ek]; exact htop)
    omega
   ·have := dg_len k (q + 1) (by omega) (by rw [Nat.pow_succ]; omega)
    omega
  obtain ⟨y1, v1, f1⟩ := valued_fit (s := q) (x := bitsOf M r) (by omega) (ten := n - k) (by omega) (by omega) (by omega) hxb
  obtain ⟨y2, v2, f2⟩ := valued_fit (s := q + 1) (x := bitsOf M r) (by omega) (ten := n - k) (by omega) (by omega) (by omega) hxb
  have e1 : Hid (wrap64 ((q : Int) + 1) = ((q + 1 : Nat) : Int)) := ⟨by rw [w64 (by omega) (by omega)]; omega⟩
  have e2 : Hid (wrap64 (n - (k : Int)) = n - k) := ⟨w64 (by omega) (by omega)⟩
  obtain ⟨w2, t1, t2, t3⟩ := rtimes0 d2 (by omega) 2 2 rfl (by decide)
  have hcc := compared_ev t2 hb (by omega) (by omega)
  rw [Nat.mul_comm (a % b), hc2] at hcc
  have hmod : (Int.tmod (q : Int) 2 == 0) = decide (q % 2 = 0) := by
   rw [Int.tmod_eq_emod_of_nonneg (Int.natCast_nonneg _)]
   by_cases h : q % 2 = 0
   ·rw [decide_eq_true h, beq_iff_eq]
    omega
   ·rw [decide_eq_false h, beq_eq_false_iff_ne]
    omega
  -- j6
  have j6 : ∀ d u : Bool, (d = true ↔ Fit (bitsOf M r) q (n - k)) → (u = true ↔ Fit (bitsOf M r) (q + 1) (n - k)) → Ev (fun f => graftref9_shortest.j6 f (bitsOf M r) x6 x7 n (k : Int) lb (q : Int) w d u) R := by
   intro d u hd hu
   have huR : u = true ↔ rest ≠ 0 ∧ Fit (bitsOf M r) (q + 1) (n - k) := hu.trans ⟨fun h => ⟨hz, h⟩, fun h => h.2⟩
   have j7 : ∀ low : Bool, (low = true ↔ Fit (bitsOf M r) q (n - k) ∧ (¬ (rest ≠ 0 ∧ Fit (bitsOf M r) (q + 1) (n - k)) ∨ 2 * rest < Q * T (n - k) ∨ (2 * rest = Q * T (n - k) ∧ q % 2 = 0))) → (u = false → low = false → ¬ Fit (bitsOf M r) q (n - k)) → Ev (fun f => graftref9_shortest.j7 f (bitsOf M r) x6 x7 n (k : Int) (q : Int) u low) R := by
    intro low hlow hno
    refine rj7_ev hn (by omega) hk hk2 q1 q2 u low (o := pk (M * 2 ^ r) n k (bitsOf M r)) ?_ hR hO
    rw [hpk]
    cases hl : low with
    | true => exact .inl ⟨rfl, pick2_yes (hlow.1 hl)⟩
    | false =>
     have hnl := fun h => Bool.false_ne_true (hl.symm.trans (hlow.2 h))
     cases huu : u with
     | true => exact .inr (.inl ⟨rfl, rfl, pick2_up hnl (huR.1 huu)⟩)
     | false => exact .inr (.inr ⟨rfl, rfl, pick2_no (hno huu hl) (fun h => Bool.false_ne_true (huu.symm.trans (huR.2 h)))⟩)
   refine Ev.succ (fun f => by rw [graftref9_shortest.j6]) (Ev.bind t1 (Ev.bind hcc ?_))
   cases d with
   | false =>
    have hnd : ¬ Fit (bitsOf M r) q (n - k) := fun h => Bool.false_ne_true (hd.2 h)
    exact Ev.no Bool.false_ne_true (j7 false ⟨fun h => absurd h Bool.false_ne_true, fun h => absurd h.1 hnd⟩ (fun _ _ => hnd))
   | true =>
    have hyd := hd.1 rfl
    refine Ev.yes rfl ?_
    cases u with
    | false =>
     have hnu : ¬ (rest ≠ 0 ∧ Fit (bitsOf M r) (q + 1) (n - k)) := fun h => Bool.false_ne_true (huR.2 h)
     exact Ev.no Bool.false_ne_true (j7 true ⟨fun _ => ⟨hyd, .inl hnu⟩, fun _ => rfl⟩ (fun _ h => absurd h.symm Bool.false_ne_true))
    | true =>
     have hyu := huR.1 rfl
     refine Ev.yes rfl ?_
     by_cases c1 : 2 * rest < Q * T (n - k)
     ·exact Ev.yes (cmp_neg.2 c1) (j7 true ⟨fun _ => ⟨hyd, .inr (.inl c1)⟩, fun _ => rfl⟩ (fun h => absurd h.symm Bool.false_ne_true))
     ·refine Ev.no (fun h => c1 (cmp_neg.1 h)) ?_
      by_cases c2 : 2 * rest = Q * T (n - k)
      ·refine Ev.yes (cmp_zero.2 c2) ?_
       rw [hmod]
       refine j7 _ ?_ (fun h => absurd h.symm Bool.false_ne_true)
       rw [decide_eq_true_iff]
       exact ⟨fun h => ⟨hyd, .inr (.inr ⟨c2, h⟩)⟩, fun h => h.2.elim (fun h => absurd hyu h) (fun h => h.elim (fun h => absurd h c1) (fun h => h.2))⟩
      ·refine Ev.no (fun h => c2 (cmp_zero.1 h)) (j7 false ⟨fun h => absurd h Bool.false_ne_true, fun h => h.2.elim (fun h => absurd hyu h) (fun h => h.elim (fun h => absurd h c1) (fun h => absurd h.1 c2))⟩ (fun h => absurd h.symm Bool.false_ne_true))
  have j5 : ∀ d : Bool, (d = true ↔ Fit (bitsOf M r) q (n - k)) → Ev (fun f => graftref9_shortest.j5 f (bitsOf M r) x6 x7 n (k : Int) lb (q : Int) w y2.1 y2.2 d) R := by
   intro d hd
   by_cases hy : y2.2 = true
   ·exact Ev.succ (fun f => by rw [graftref9_shortest.j5]) (Ev.yes hy (j6 d _ hd ⟨fun h => f2.1 ⟨hy, h⟩, fun h => (f2.2 h).2⟩))
   ·exact Ev.succ (fun f => by rw [graftref9_shortest.j5]) (Ev.no hy (j6 d false hd ⟨fun h => absurd h Bool.false_ne_true, fun h => absurd (f2.2 h).1 hy⟩))
  refine Ev.succ (fun f => by rw [graftref9_shortest.j4]) (Ev.bind d1 (Ev.no hwz (Ev.bind (dec_ev q (by omega)) ?_)))
  rw [e1.out, e2.out]
  refine Ev.bind v1 (Ev.bind (dec_ev (q + 1) (by omega)) (Ev.bind v2 ?_))
  by_cases hy : y1.2 = true
  ·exact Ev.yes hy (j5 _ ⟨fun h => f1.1 ⟨hy, h⟩, fun h => (f1.2 h).2⟩)
  ·exact Ev.no hy (j5 false ⟨fun h => absurd h Bool.false_ne_true, fun h => absurd (f1.2 h).1 hy⟩)
end Go.Proofs.Ytlhciggmllddkaa.Pl
end
section
namespace Go.Proofs.Ytlhciggmllddkaa.Pl
open Go Go.RowKit Go.Proofs.YtlhciggmllddkaaW.PrintWords Go.Proofs.YtlhciggmllddkaaW.PrintLast Go.Proofs.YtlhciggmllddkaaW.PrintMore Go.Proofs.Ytlhciggmllddkaa.PNum
set_option linter.unusedVariables false
set_option linter.unusedSimpArgs false
theorem tab399 : pow2 1024 < T 399 ∧ T (-399) = 1 := by decide +kernel
theorem Fi.top9 {F : Nat} (h : Fi F) : Bl F 399 := by
 unfold Bl
 rw [tab399.2, Nat.mul_one, Nat.mul_comm Q]
 exact Nat.lt_trans h.2 (Nat.mul_lt_mul_of_pos_right tab399.1 Q_pos)
theorem Mag.top9 {F : Nat} {n : Int} (hf : Fi F) (h : Mag F n) : n ≤ 399 := by
 apply Int.le_of_not_gt
 intro hn
 have := hf.top9.up_le (n - 1 - 399).toNat
 have e : (399 : Int) + ((n - 1 - 399).toNat : Int) = n - 1 := by omega
 rw [e] at this
 exact h.ge this
theorem T_le {n : Int} (h : n ≤ 0) : T n = 1 := by
 unfold T
 have : n.toNat = 0 := by omega
 rw [this, Nat.pow_zero]
theorem T_nat (j : Nat) : T (j : Int) = 10 ^ j := by
 unfold T
 rw [Int.toNat_natCast]
theorem rloop_ev {M r : Nat} (hc : Can M r) (h0 : 0 < M) (hr : r ≤ 2045) {x6 x7 : List Int} {a b : Nat} (ha : Rep P24 x6 a) (hb : Rep P24 x7 b) (hb0 : 0 < b) (hF : a * Q = M * 2 ^ r * b) (hla : x6.length ≤ 10000) (hlb : x7.length ≤ 10000) {n : Int} (hm : Mag (M * 2 ^ r) n) (hn : -400 < n) (hn2 : n ≤ 399) :
  ∀ d k : Nat, d + k = 18 → 1 ≤ k → Ev (fun f => graftref9_shortest.l2 f (bitsOf M r) x6 x7 n (k : Int)) (rOut n (srch (M * 2 ^ r) n (bitsOf M r) d k)) := by
 intro d
 induction d with
 | zero =>
  intro k hk hk1
  rw [srch_zero, show rOut n none = ((⟨#[]⟩ : ByteArray), (0 : Int)) from rfl]
  refine Ev.succ (fun f => by rw [graftref9_shortest.l2]) (Ev.no ?_ (Ev.const _))
  omega
 | succ d ih =>
  intro k hk hk1
  have hk17 : (k : Int) ≤ 17 := by omega
  have ih1 := ih (k + 1) (by omega) (by omega)
  have hR : pk (M * 2 ^ r) n k (bitsOf M r) = none → Ev (fun f => graftref9_shortest.l2 f (bitsOf M r) x6 x7 n ((k + 1 : Nat) : Int)) (rOut n (srch (M * 2 ^ r) n (bitsOf M r) (d + 1) k)) := fun h => by
   rw [srch_more h]
   exact ih1
  have hO : ∀ s, pk (M * 2 ^ r) n k (bitsOf M r) = some s → rOut n (srch (M * 2 ^ r) n (bitsOf M r) (d + 1) k) = rOut n (some (k, s)) := fun s h => by rw [srch_found h]
  generalize rOut n (srch (M * 2 ^ r) n (bitsOf M r) (d + 1) k) = R at *
  refine Ev.succ (fun f => by rw [graftref9_shortest.l2]) (Ev.yes hk17 ?_)
  by_cases hkn : (k : Int) > n
  ·obtain ⟨j, hj⟩ : ∃ j : Nat, (k : Int) - n = j := ⟨((k : Int) - n).toNat, by omega⟩
   have e1 : Hid (wrap64 ((k : Int) - n) = (j : Int)) := ⟨by rw [w64 (by omega) (by omega)]; omega⟩
   have hT1 : T (n - k) = 1 := T_le (by omega)
   have hT2 : T (k - n) = 10 ^ j := by rw [hj, T_nat]
   refine Ev.yes hkn ?_
   rw [e1.out]
   obtain ⟨w, t1, t2, t3⟩ := rtens_ev ha j (by omega)
   refine Ev.bind t1 (rj4_ev hc h0 hr t2 hb hb0 (by omega) (by omega) hm hn hn2 hk1 (by omega) ?_ hR hO)
   rw [hT1, hT2, Nat.mul_one, Nat.mul_right_comm, hF, Nat.mul_right_comm]
  ·obtain ⟨j, hj⟩ : ∃ j : Nat, n - (k : Int) = j := ⟨(n - (k : Int)).toNat, by omega⟩
   have e1 : Hid (wrap64 (n - (k : Int)) = (j : Int)) := ⟨by rw [w64 (by omega) (by omega)]; omega⟩
   have hT1 : T (n - k) = 10 ^ j := by rw [hj, T_nat]
   have hT2 : T (k - n) = 1 := T_le (by omega)
   refine Ev.no hkn ?_
   rw [e1.out]
   obtain ⟨w, t1, t2, t3⟩ := rtens_ev hb j (by omega)
   refine Ev.bind t1 (rj4_ev hc h0 hr ha t2 (Nat.mul_pos hb0 (Nat.pow_pos (by decide))) (by omega) (by omega) hm hn hn2 hk1 (by omega) ?_ hR hO)
   rw [hT1, hT2, Nat.mul_one, ← Nat.mul_assoc, hF, Nat.mul_assoc]
theorem rl1_ev {x F : Nat} {x6 x7 : List Int} {a b : Nat} (ha : Rep P24 x6 a) (hb : Rep P24 x7 b) (hb0 : 0 < b) (hF : a * Q = F * b) (hla : x6.length ≤ 10000) (hlb : x7.length ≤ 10000) {n : Int} (hm : Mag F n) (hn : -400 < n) (hn2 : n ≤ 399) {R : ByteArray × Int} (hR : Ev (fun f => graftref9_shortest.l2 f x x6 x7 n 1) R) :
  ∀ d : Nat, d ≤ 1000 → Ev (fun f => graftref9_shortest.l1 f x x6 x7 (n + d)) R := by
 intro d
 induction d with
 | zero =>
  intro _
  have e : Hid (wrap64 (n + ((0 : Nat) : Int) - 1) = n - 1) := ⟨by rw [w64 (by omega) (by omega)]; omega⟩
  have hbl := below_ev ha hb (by omega) (by omega) (n - 1) (by omega) (by omega)
  rw [decide_eq_false (fun h => hm.ge ((cross_lt hb0 hF).1 h))] at hbl
  refine Ev.succ (fun f => by rw [graftref9_shortest.l1]) ?_
  rw [e.out, Int.natCast_zero, Int.add_zero]
  exact Ev.bind hbl (Ev.no Bool.false_ne_true hR)
 | succ d ih =>
  intro hd
  have e : Hid (wrap64 (n + ((d + 1 : Nat) : Int) - 1) = n + d) := ⟨by rw [w64 (by omega) (by omega)]; omega⟩
  have hbl := below_ev ha hb (by omega) (by omega) (n + d) (by omega) (by omega)
  rw [decide_eq_true ((cross_lt hb0 hF).2 (hm.lt.up_le d))] at hbl
  refine Ev.succ (fun f => by rw [graftref9_shortest.l1]) ?_
  rw [e.out]
  exact Ev.bind hbl (Ev.yes rfl (ih (by omega)))
theorem rl0_up {x F : Nat} {x6 x7 : List Int} {a b : Nat} (ha : Rep P24 x6 a) (hb : Rep P24 x7 b) (hb0 : 0 < b) (hF : a * Q = F * b) (hla : x6.length ≤ 10000) (hlb : x7.length ≤ 10000) {n : Int} (hm : Mag F n) (hn : -400 < n) (hn2 : n ≤ 399) {R : ByteArray × Int} (hR : Ev (fun f => graftref9_shortest.l2 f x x6 x7 n 1) R) (d : Nat) (hd : d ≤ 1000) : Ev (fun f => graftref9_shortest.l0 f x x6 x7 (n + d)) R := by
 have hbl := below_ev ha hb (by omega) (by omega) (n + d) (by omega) (by omega)
 rw [decide_eq_true ((cross_lt hb0 hF).2 (hm.lt.up_le d))] at hbl
 exact Ev.succ (fun f => by rw [graftref9_shortest.l0]) (Ev.bind hbl (Ev.yes rfl (rl1_ev ha hb hb0 hF hla hlb hm hn hn2 hR d hd)))
theorem rl0_ev {x F : Nat} {x6 x7 : List Int} {a b : Nat} (ha : Rep P24 x6 a) (hb : Rep P24 x7 b) (hb0 : 0 < b) (hF : a * Q = F * b) (hla : x6.length ≤ 10000) (hlb : x7.length ≤ 10000) {n : Int} (hm : Mag F n) (hn : -400 < n) (hn2 : n ≤ 399) {R : ByteArray × Int} (hR : Ev (fun f => graftref9_shortest.l2 f x x6 x7 n 1) R) :
  ∀ d : Nat, d ≤ 1000 → Ev (fun f => graftref9_shortest.l0 f x x6 x7 (n - d)) R := by
 intro d
 induction d with
 | zero =>
  intro _
  have := rl0_up ha hb hb0 hF hla hlb hm hn hn2 hR 0 (by omega)
  rw [Int.natCast_zero, Int.add_zero] at this
  rw [Int.natCast_zero, Int.sub_zero]
  exact this
 | succ d ih =>
  intro hd
  have e : Hid (wrap64 (n - ((d + 1 : Nat) : Int) + 1) = n - d) := ⟨by rw [w64 (by omega) (by omega)]; omega⟩
  have hbl := below_ev ha hb (by omega) (by omega) (n - ((d + 1 : Nat) : Int)) (by omega) (by omega)
  have hno : ¬ Bl F (n - ((d + 1 : Nat) : Int)) := fun h => by
   have h2 := h.up_le d
   have e2 : n - ((d + 1 : Nat) : Int) + (d : Int) = n - 1 := by omega
   rw [e2] at h2
   exact hm.ge h2
  rw [decide_eq_false (fun h => hno ((cross_lt hb0 hF).1 h))] at hbl
  refine Ev.succ (fun f => by rw [graftref9_shortest.l0]) (Ev.bind hbl (Ev.no Bool.false_ne_true ?_))
  rw [e.out]
  exact ih (by omega)
theorem tdiv_bounds (a : Int) : 100000 * Int.tdiv a 100000 ≤ a + 99999 ∧ a - 99999 ≤ 100000 * Int.tdiv a 100000 := by
 rcases Int.lt_or_le a 0 with h | h
 ·obtain ⟨b, rfl⟩ : ∃ b, a = -b := ⟨-a, by omega⟩
  rw [Int.neg_tdiv, Int.tdiv_eq_ediv_of_nonneg (by omega)]
  omega
 ·rw [Int.tdiv_eq_ediv_of_nonneg h]
  omega
theorem rj0_ev {M r : Nat} (hc : Can M r) (h0 : 0 < M) (hr : r ≤ 2045) {x6 x7 : List Int} {a b : Nat} (ha : Rep P24 x6 a) (hb : Rep P24 x7 b) (hb0 : 0 < b) (hF : a * Q = M * 2 ^ r * b) (hla : x6.length ≤ 10000) (hlb : x7.length ≤ 10000) {n : Int} (hm : Mag (M * 2 ^ r) n) :
  Ev (fun f => graftref9_shortest.j0 f (bitsOf M r) ((r : Int) - 1074) x6 x7) (rOut n (srch (M * 2 ^ r) n (bitsOf M r) 17 1)) := by
 have hf := fin_of hc h0 (can_bits hc hr)
 have hn := (hm.range hf).1
 have hn2 := hm.top9 hf
 have hR := rloop_ev hc h0 hr ha hb hb0 hF hla hlb hm hn hn2 17 1 rfl (by omega)
 have e : ∃ s : Int, Hid (wrap64 (Int.tdiv (wrap64 ((wrap64 ((r : Int) - 1074 + 53)) * 30103)) 100000) = s) ∧ -400 ≤ s ∧ s ≤ 400 := by
  clear hF
  have t := tdiv_bounds (((r : Int) - 1021) * 30103)
  have e1 : wrap64 ((r : Int) - 1074 + 53) = (r : Int) - 1021 := by
   rw [w64 (by omega) (by omega)]
   omega
  have e2 : wrap64 (((r : Int) - 1021) * 30103) = ((r : Int) - 1021) * 30103 := w64 (by omega) (by omega)
  rw [e1, e2]
  clear e1 e2
  rw [w64 (by omega) (by omega)]
  exact ⟨_, ⟨rfl⟩, by omega, by omega⟩
 obtain ⟨s, e, s1, s2⟩ := e
 refine Ev.succ (fun f => by rw [graftref9_shortest.j0]) ?_
 rw [e.out]
 by_cases h : n ≤ s
 ·have := rl0_up ha hb hb0 hF hla hlb hm hn hn2 hR (s - n).toNat (by omega)
  have e2 : n + ((s - n).toNat : Int) = s := by omega
  rw [e2] at this
  exact this
 ·have := rl0_ev ha hb hb0 hF hla hlb hm hn hn2 hR (n - s).toNat (by omega)
  have e2 : n - ((n - s).toNat : Int) = s := by omega
  rw [e2] at this
  exact this
theorem rshortest_ev {M r : Nat} (hc : Can M r) (h0 : 0 < M) (hr : r ≤ 2045) {n : Int} (hm : Mag (M * 2 ^ r) n) :
  Ev (fun k => graftref9_shortest.f k (bitsOf M r)) (rOut n (srch (M * 2 ^ r) n (bitsOf M r) 17 1)) := by
 have hM := hc.lt
 obtain ⟨w1, m1, m2, m3⟩ := small_ev M (by omega) (by omega)
 obtain ⟨w2, o1, o2, o3⟩ := small0
 refine Ev.congr (fun k => by rw [graftref9_shortest.f]) ?_
 refine Ev.bind (parts_ev hc h0 hr) (Ev.bind m1 (Ev.bind o1 ?_))
 by_cases h : (r : Int) - 1074 > 0
 ·obtain ⟨j, hj⟩ : ∃ j : Nat, r = j + 1074 := ⟨r - 1074, by omega⟩
  obtain ⟨w, t1, t2, t3⟩ := twos0 m2 ((r : Int) - 1074) j (by omega) (by omega)
  refine Ev.yes h (Ev.bind t1 (rj0_ev hc h0 hr t2 o2 (by omega) ?_ (by omega) (by omega) hm))
  rw [Nat.mul_one, Q_more (r := r) (j := j) (by omega), Nat.mul_assoc, Nat.mul_comm Q]
 ·obtain ⟨j, hj⟩ : ∃ j : Nat, r + j = 1074 := ⟨1074 - r, by omega⟩
  have e : Hid (wrap64 (-((r : Int) - 1074)) = (j : Int)) := ⟨by rw [w64 (by omega) (by omega)]; omega⟩
  obtain ⟨w, t1, t2, t3⟩ := twos0 o2 (wrap64 (-((r : Int) - 1074))) j e.out (by omega)
  refine Ev.no h (Ev.bind t1 (rj0_ev hc h0 hr m2 t2 (by rw [Nat.one_mul]; exact Nat.two_pow_pos _) ?_ (by omega) (by omega) hm))
  rw [Nat.one_mul, Nat.mul_assoc, ← Q_split hj]
end Go.Proofs.Ytlhciggmllddkaa.Pl
end
