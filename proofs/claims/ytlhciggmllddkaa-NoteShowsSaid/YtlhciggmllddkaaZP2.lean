/- Part of the proof of NoteShows: on every float64 the program and the document's answer show the same. No condition. -/
import Derived.Test.YtlhciggmllddkaaZP1
section
namespace Go.Proofs.Ytlhciggmllddkaa.Pl
open Go Go.RowKit Go.Proofs.YtlhciggmllddkaaW.PrintWords Go.Proofs.YtlhciggmllddkaaW.PrintLast Go.Proofs.YtlhciggmllddkaaW.PrintMore Go.Proofs.Ytlhciggmllddkaa.PNum Go.Proofs.Ytlhciggmllddkaa.PNub
set_option linter.unusedVariables false
set_option linter.unusedSimpArgs false
def zeros (m : Nat) : List Int := List.replicate m 48
def txt (xs : List Int) (n : Int) : List Int :=
 if (xs.length : Int) ≤ n ∧ n ≤ 21 then xs ++ zeros (n - xs.length).toNat
 else if 1 ≤ n ∧ n ≤ 21 then xs.take n.toNat ++ [46] ++ xs.drop n.toNat
 else if -5 ≤ n ∧ n ≤ 0 then [48, 46] ++ zeros (-n).toNat ++ xs
 else if n - 1 < 0 then xs.take 1 ++ (if 1 < xs.length then [46] ++ xs.drop 1 else []) ++ [101, 45] ++ dg (1 - n).toNat
 else xs.take 1 ++ (if 1 < xs.length then [46] ++ xs.drop 1 else []) ++ [101, 43] ++ dg (n - 1).toNat
theorem lit48 : (⟨#[48]⟩ : ByteArray) = strOfNums [48] := rfl
theorem lit45 : (⟨#[45]⟩ : ByteArray) = strOfNums [45] := rfl
theorem lit46 : (⟨#[46]⟩ : ByteArray) = strOfNums [46] := rfl
theorem lit101 : (⟨#[101]⟩ : ByteArray) = strOfNums [101] := rfl
theorem lit43 : (⟨#[43]⟩ : ByteArray) = strOfNums [43] := rfl
theorem lit4846 : (⟨#[48, 46]⟩ : ByteArray) = strOfNums [48, 46] := rfl
theorem lit10145 : (⟨#[101, 45]⟩ : ByteArray) = strOfNums [101, 45] := rfl
theorem lit10143 : (⟨#[101, 43]⟩ : ByteArray) = strOfNums [101, 43] := rfl
theorem sn_take (xs : List Int) (i : Nat) : (strOfNums xs).extract 0 i = strOfNums (xs.take i) := by
 apply ByteArray.ext
 apply Array.ext'
 rw [ByteArray.data_extract, Array.toList_extract, List.extract_eq_take_drop, strOfNums_data, strOfNums_data, List.map_take]
 simp
theorem repeat_zero (m : Nat) (h : m ≤ 1000) : strings_Repeat.f (strOfNums [48]) (m : Int) = some (strOfNums (zeros m)) := by
 have e : ∀ c, Lib.repeatL (strOfNums [48]).data.toList c = (strOfNums (zeros c)).data.toList := by
  intro c
  rw [strOfNums_data, strOfNums_data]
  induction c with
  | zero => rfl
  | succ c ih =>
   rw [Lib.repeatL, ih]
   rfl
 unfold strings_Repeat.f
 rw [sn_size, Int.toNat_natCast, if_pos (by refine ⟨by omega, by omega, ?_⟩; rw [List.length_singleton]; omega), e]
/-- The size of the digits that stand behind e. -/
theorem place_len (m : Nat) (h : m ≤ 1000) : (dg m).length ≤ 4 := dg_len_le 3 m (by omega)
theorem nj2_ev {xs : List Int} {n : Int} (hl : 1 ≤ xs.length) (hl2 : xs.length ≤ 100) (h1 : -400 < n) (h2 : n ≤ 400)
  (c1 : ¬ ((xs.length : Int) ≤ n ∧ n ≤ 21)) (c2 : ¬ (1 ≤ n ∧ n ≤ 21)) (c3 : ¬ (-5 ≤ n ∧ n ≤ 0)) : Ev (fun k => note_show.j2 k (strOfNums xs) n (xs.length : Int)) (strOfNums (txt xs n)) := by
 have e1 : Hid (wrap64 (n - 1) = n - 1) := ⟨w64 (by omega) (by omega)⟩
 have e2 : Hid (wrap64 (1 - n) = 1 - n) := ⟨w64 (by omega) (by omega)⟩
 have L1 := List.length_take (i := 1) (l := xs)
 have L2 := List.length_drop (i := 1) (l := xs)
 unfold txt
 rw [if_neg c1, if_neg c2, if_neg c3]
 refine Ev.succ (fun k => by rw [note_show.j2]) ?_
 rw [e1.out, e2.out, lit101, lit45, lit43, lit46, sn_append, sn_append, sn_take, sn_drop]
 by_cases h : n - 1 < 0
 ·obtain ⟨m, hm⟩ : ∃ m : Nat, 1 - n = m := ⟨(1 - n).toNat, by omega⟩
  have em : IntKind.u64.wrap (mx (n - 1) (1 - n)) = (m : Int) := by
   unfold mx
   rw [if_pos (by omega), hm, wu64 (by omega) (by omega)]
  have L3 := place_len m (by omega)
  rw [if_pos h, em, hm, Int.toNat_natCast]
  refine Ev.yes h (Ev.yes (by omega) (Ev.bind (decimal_ev m (by omega)) ?_))
  rw [sn_append, sn_append, sn_append, sn_append, sn_append, sn_size, sn_size, sn_size, sn_size, sn_size, sn_size, sn_size, sn_size]
  refine Ev.yes ?_ ?_
  ·simp only [List.length_append, List.length_cons, List.length_nil]; omega
  ·by_cases hx : 1 < xs.length
   ·rw [if_pos hx]
    refine Ev.yes (by omega) (Ev.yes (by omega) (Ev.yes (by omega) (Ev.yes ?_ (Ev.yes ?_ (Ev.yes ?_ ?_)))))
    ·simp only [List.length_append, List.length_cons, List.length_nil, L1, L2]; omega
    ·simp only [List.length_append, List.length_cons, List.length_nil, L1, L2]; omega
    ·simp only [List.length_append, List.length_cons, List.length_nil, L1, L2]; omega
    ·have : xs.take 1 ++ [46] ++ xs.drop 1 ++ ([101] ++ [45] ++ dg m) = xs.take 1 ++ ([46] ++ xs.drop 1) ++ [101, 45] ++ dg m := by simp
     rw [this]
     exact Ev.const _
   ·rw [if_neg hx]
    refine Ev.no (by omega) (Ev.yes ?_ ?_)
    ·simp only [List.length_append, List.length_cons, List.length_nil]; omega
    ·have : xs ++ ([101] ++ [45] ++ dg m) = xs.take 1 ++ [] ++ [101, 45] ++ dg m := by
      rw [List.take_of_length_le (by omega)]
      simp
     rw [this]
     exact Ev.const _
 ·obtain ⟨m, hm⟩ : ∃ m : Nat, n - 1 = m := ⟨(n - 1).toNat, by omega⟩
  have em : IntKind.u64.wrap (mx (n - 1) (1 - n)) = (m : Int) := by
   unfold mx
   rw [if_neg (by omega), hm, wu64 (by omega) (by omega)]
  have L3 := place_len m (by omega)
  rw [if_neg h, em, hm, Int.toNat_natCast]
  refine Ev.no (by omega) (Ev.yes (by omega) (Ev.bind (decimal_ev m (by omega)) ?_))
  rw [sn_append, sn_append, sn_append, sn_append, sn_append, sn_size, sn_size, sn_size, sn_size, sn_size, sn_size, sn_size, sn_size]
  refine Ev.yes ?_ ?_
  ·simp only [List.length_append, List.length_cons, List.length_nil]; omega
  ·by_cases hx : 1 < xs.length
   ·rw [if_pos hx]
    refine Ev.yes (by omega) (Ev.yes (by omega) (Ev.yes (by omega) (Ev.yes ?_ (Ev.yes ?_ (Ev.yes ?_ ?_)))))
    ·simp only [List.length_append, List.length_cons, List.length_nil, L1, L2]; omega
    ·simp only [List.length_append, List.length_cons, List.length_nil, L1, L2]; omega
    ·simp only [List.length_append, List.length_cons, List.length_nil, L1, L2]; omega
    ·have : xs.take 1 ++ [46] ++ xs.drop 1 ++ ([101] ++ [43] ++ dg m) = xs.take 1 ++ ([46] ++ xs.drop 1) ++ [101, 43] ++ dg m := by simp
     rw [this]
     exact Ev.const _
   ·rw [if_neg hx]
    refine Ev.no (by omega) (Ev.yes ?_ ?_)
    ·simp only [List.length_append, List.length_cons, List.length_nil]; omega
    ·have : xs ++ ([101] ++ [43] ++ dg m) = xs.take 1 ++ [] ++ [101, 43] ++ dg m := by
      rw [List.take_of_length_le (by omega)]
      simp
     rw [this]
     exact Ev.const _
theorem nj1_ev {xs : List Int} {n : Int} (hl : 1 ≤ xs.length) (hl2 : xs.length ≤ 100) (h1 : -400 < n) (h2 : n ≤ 400)
  (c1 : ¬ ((xs.length : Int) ≤ n ∧ n ≤ 21)) (b : Bool) (hb : b = true ↔ 1 ≤ n ∧ n ≤ 21) : Ev (fun k => note_show.j1 k (strOfNums xs) n (xs.length : Int) b) (strOfNums (txt xs n)) := by
 refine Ev.succ (fun k => by rw [note_show.j1]) ?_
 by_cases c2 : 1 ≤ n ∧ n ≤ 21
 ·obtain ⟨m, hm⟩ : ∃ m : Nat, n = m := ⟨n.toNat, by omega⟩
  have L1 := List.length_take (i := m) (l := xs)
  have L2 := List.length_drop (i := m) (l := xs)
  unfold txt
  rw [if_neg c1, if_pos c2, hm, Int.toNat_natCast, lit46, sn_take, sn_drop, sn_append, sn_append, sn_size, sn_size, sn_size, sn_size]
  refine Ev.yes (hb.2 c2) (Ev.yes (by omega) (Ev.yes (by omega) (Ev.yes ?_ (Ev.yes ?_ (Ev.const _)))))
  ·rw [L1]; omega
  ·simp only [List.length_append, List.length_cons, List.length_nil, L1, L2]; omega
 ·refine Ev.no (fun h => c2 (hb.1 h)) ?_
  by_cases c3 : -5 ≤ n ∧ n ≤ 0
  ·obtain ⟨m, hm⟩ : ∃ m : Nat, -n = m := ⟨(-n).toNat, by omega⟩
   have e1 : Hid (wrap64 (-n) = m) := ⟨by rw [w64 (by omega) (by omega)]; exact hm⟩
   have hz : (zeros m).length = m := List.length_replicate
   unfold txt
   rw [if_neg c1, if_neg c2, if_pos c3, e1.out, hm, Int.toNat_natCast, lit48, lit4846]
   refine Ev.yes (by omega) (Ev.yes (by omega) (Ev.bind (Ev.of_eq (repeat_zero m (by omega))) ?_))
   rw [sn_append, sn_append, sn_size, sn_size, sn_size]
   refine Ev.yes ?_ (Ev.yes ?_ (Ev.const _))
   ·rw [hz]; omega
   ·simp only [List.length_append, List.length_cons, List.length_nil, hz]; omega
  ·have hj := nj2_ev hl hl2 h1 h2 c1 c2 c3
   by_cases c4 : n ≥ -5
   ·exact Ev.yes c4 (Ev.no (fun h => c3 ⟨c4, h⟩) hj)
   ·exact Ev.no c4 hj
theorem nshow_mid {xs : List Int} {n : Int} (hl : 1 ≤ xs.length ∨ (xs.length = 0 ∧ n = 0)) (hl2 : xs.length ≤ 100) (h1 : -400 < n) (h2 : n ≤ 400) :
  Ev (fun k => if n ≥ ((strOfNums xs).size : Int) then note_show.j0 k (strOfNums xs) n ((strOfNums xs).size : Int) (decide (n ≤ 21)) else note_show.j0 k (strOfNums xs) n ((strOfNums xs).size : Int) false) (strOfNums (txt xs n)) := by
 rw [sn_size]
 have hj : ∀ b : Bool, (b = true ↔ ((xs.length : Int) ≤ n ∧ n ≤ 21)) → Ev (fun k => note_show.j0 k (strOfNums xs) n (xs.length : Int) b) (strOfNums (txt xs n)) := by
  intro b hb
  refine Ev.succ (fun k => by rw [note_show.j0]) ?_
  by_cases c1 : (xs.length : Int) ≤ n ∧ n ≤ 21
  ·obtain ⟨m, hm⟩ : ∃ m : Nat, n - xs.length = m := ⟨(n - xs.length).toNat, by omega⟩
   have e1 : Hid (wrap64 (n - xs.length) = m) := ⟨by rw [w64 (by omega) (by omega)]; exact hm⟩
   have hz : (zeros m).length = m := List.length_replicate
   unfold txt
   rw [if_pos c1, e1.out, hm, Int.toNat_natCast, lit48]
   refine Ev.yes (hb.2 c1) (Ev.bind (Ev.of_eq (repeat_zero m (by omega))) ?_)
   rw [sn_append, sn_size, sn_size]
   refine Ev.yes ?_ (Ev.const _)
   rw [hz]; omega
  ·have hl3 : 1 ≤ xs.length := by omega
   refine Ev.no (fun h => c1 (hb.1 h)) ?_
   by_cases c2 : n ≥ 1
   ·exact Ev.yes c2 (nj1_ev hl3 hl2 h1 h2 c1 _ (by rw [decide_eq_true_iff]; exact ⟨fun h => ⟨c2, h⟩, fun h => h.2⟩))
   ·exact Ev.no c2 (nj1_ev hl3 hl2 h1 h2 c1 _ ⟨fun h => absurd h Bool.false_ne_true, fun h => absurd h.1 c2⟩)
 by_cases c : n ≥ (xs.length : Int)
 ·exact Ev.yes c (hj _ (by rw [decide_eq_true_iff]; exact ⟨fun h => ⟨c, h⟩, fun h => h.2⟩))
 ·exact Ev.no c (hj _ ⟨fun h => absurd h Bool.false_ne_true, fun h => absurd h.1 c⟩)
theorem rj8_ev {ys : List Int} {n : Int} (hl2 : ys.length ≤ 200) (h1 : -400 < n) (h2 : n ≤ 400) :
  Ev (fun k => graftref9_Show.j8 k n (strOfNums ys)) (if n - 1 < 0 then strOfNums (ys ++ [101, 45] ++ dg (1 - n).toNat) else strOfNums (ys ++ [101, 43] ++ dg (n - 1).toNat), 0) := by
 have e1 : Hid (wrap64 (n - 1) = n - 1) := ⟨w64 (by omega) (by omega)⟩
 have e2 : Hid (wrap64 (1 - n) = 1 - n) := ⟨w64 (by omega) (by omega)⟩
 refine Ev.succ (fun k => by rw [graftref9_Show.j8]) ?_
 rw [e1.out, e2.out, lit10145, lit10143, sn_append, sn_append, sn_size, sn_size, sn_size]
 by_cases h : n - 1 < 0
 ·obtain ⟨m, hm⟩ : ∃ m : Nat, 1 - n = m := ⟨(1 - n).toNat, by omega⟩
  have L3 := place_len m (by omega)
  rw [if_pos h, hm, Int.toNat_natCast]
  refine Ev.yes h (Ev.yes (by omega) (Ev.bind (dec_ev m (by omega)) ?_))
  rw [sn_append, sn_size]
  refine Ev.yes ?_ (Ev.const _)
  simp only [List.length_append, List.length_cons, List.length_nil]; omega
 ·obtain ⟨m, hm⟩ : ∃ m : Nat, n - 1 = m := ⟨(n - 1).toNat, by omega⟩
  have L3 := place_len m (by omega)
  rw [if_neg h, hm, Int.toNat_natCast]
  refine Ev.no (by omega) (Ev.yes (by omega) (Ev.bind (dec_ev m (by omega)) ?_))
  rw [sn_append, sn_size]
  refine Ev.yes ?_ (Ev.const _)
  simp only [List.length_append, List.length_cons, List.length_nil]; omega
theorem rl2z_ev {xs : List Int} (hl2 : xs.length ≤ 100) : ∀ (m : Nat) (ys : List Int), ys.length + m ≤ 1000 →
  Ev (fun k => graftref9_Show.l2 k (strOfNums xs) (strOfNums ys) (-(m : Int))) (strOfNums (ys ++ zeros m ++ xs), 0) := by
 intro m
 induction m with
 | zero =>
  intro ys hy
  refine Ev.succ (fun k => by rw [graftref9_Show.l2]) (Ev.no (by omega) ?_)
  rw [sn_append, sn_size, sn_size]
  have : ys ++ zeros 0 ++ xs = ys ++ xs := by unfold zeros; simp
  rw [this]
  exact Ev.yes (by omega) (Ev.const _)
 | succ m ih =>
  intro ys hy
  have e1 : Hid (wrap64 (-((m + 1 : Nat) : Int) + 1) = -(m : Int)) := ⟨by rw [w64 (by omega) (by omega)]; omega⟩
  refine Ev.succ (fun k => by rw [graftref9_Show.l2]) (Ev.yes (by omega) ?_)
  rw [lit48, sn_append, sn_size, e1.out]
  refine Ev.yes (by omega) ?_
  have := ih (ys ++ [48]) (by simp only [List.length_append, List.length_cons, List.length_nil]; omega)
  have e : ys ++ [48] ++ zeros m = ys ++ zeros (m + 1) := by
   unfold zeros
   rw [List.append_assoc, List.replicate_succ]
   rfl
  rw [e] at this
  exact this
theorem rl1z_ev : ∀ (m : Nat) (ys : List Int) (n : Int), n = ys.length + m → ys.length + m ≤ 1000 →
  Ev (fun k => graftref9_Show.l1 k (strOfNums ys) n) (strOfNums (ys ++ zeros m), 0) := by
 intro m
 induction m with
 | zero =>
  intro ys n hn hy
  refine Ev.succ (fun k => by rw [graftref9_Show.l1]) (Ev.no (by rw [sn_size]; omega) ?_)
  have : ys ++ zeros 0 = ys := by unfold zeros; simp
  rw [this]
  exact Ev.const _
 | succ m ih =>
  intro ys n hn hy
  refine Ev.succ (fun k => by rw [graftref9_Show.l1]) (Ev.yes (by rw [sn_size]; omega) ?_)
  rw [lit48, sn_append, sn_size]
  refine Ev.yes (by omega) ?_
  have := ih (ys ++ [48]) n (by simp only [List.length_append, List.length_cons, List.length_nil]; omega) (by simp only [List.length_append, List.length_cons, List.length_nil]; omega)
  have e : ys ++ [48] ++ zeros m = ys ++ zeros (m + 1) := by
   unfold zeros
   rw [List.append_assoc, List.replicate_succ]
   rfl
  rw [e] at this
  exact this
theorem rj6_ev {xs : List Int} {n : Int} (hl : 1 ≤ xs.length) (hl2 : xs.length ≤ 100) (h1 : -400 < n) (h2 : n ≤ 400)
  (c1 : ¬ ((xs.length : Int) ≤ n ∧ n ≤ 21)) (c2 : ¬ (1 ≤ n ∧ n ≤ 21)) (b : Bool) (hb : b = true ↔ -5 ≤ n ∧ n ≤ 0) : Ev (fun k => graftref9_Show.j6 k (strOfNums xs) n (xs.length : Int) b) (strOfNums (txt xs n), 0) := by
 refine Ev.succ (fun k => by rw [graftref9_Show.j6]) ?_
 by_cases c3 : -5 ≤ n ∧ n ≤ 0
 ·obtain ⟨m, hm⟩ : ∃ m : Nat, -n = m := ⟨(-n).toNat, by omega⟩
  unfold txt
  rw [if_neg c1, if_neg c2, if_pos c3, lit4846, hm, Int.toNat_natCast]
  have := rl2z_ev hl2 m [48, 46] (by simp only [List.length_cons, List.length_nil]; omega)
  have e : -(m : Int) = n := by omega
  rw [e] at this
  exact Ev.yes (hb.2 c3) this
 ·have L1 := List.length_take (i := 1) (l := xs)
  have L2 := List.length_drop (i := 1) (l := xs)
  have ht : ∀ ys : List Int, ys = xs.take 1 ++ (if 1 < xs.length then [46] ++ xs.drop 1 else []) → (if n - 1 < 0 then strOfNums (ys ++ [101, 45] ++ dg (1 - n).toNat) else strOfNums (ys ++ [101, 43] ++ dg (n - 1).toNat)) = strOfNums (txt xs n) := by
   intro ys hy
   unfold txt
   rw [if_neg c1, if_neg c2, if_neg c3, hy]
   by_cases h : n - 1 < 0
   ·rw [if_pos h, if_pos h]
   ·rw [if_neg h, if_neg h]
  refine Ev.no (fun h => c3 (hb.1 h)) (Ev.yes (by omega) (Ev.yes (by rw [sn_size]; omega) ?_))
  rw [lit46, sn_take, sn_drop, sn_append, sn_append, sn_size, sn_size, sn_size]
  by_cases hx : 1 < xs.length
  ·refine Ev.yes (by omega) (Ev.yes (by rw [L1]; omega) (Ev.yes ?_ ?_))
   ·simp only [List.length_append, List.length_cons, List.length_nil, L1, L2]; omega
   ·rw [← ht (xs.take 1 ++ [46] ++ xs.drop 1) (by rw [if_pos hx, List.append_assoc])]
    refine rj8_ev ?_ h1 h2
    simp only [List.length_append, List.length_cons, List.length_nil, L1, L2]; omega
  ·rw [← ht (xs.take 1) (by rw [if_neg hx, List.append_nil])]
   exact Ev.no (by omega) (rj8_ev (by rw [L1]; omega) h1 h2)
theorem rj5s_ev {xs : List Int} {n : Int} (hl : 1 ≤ xs.length) (hl2 : xs.length ≤ 100) (h1 : -400 < n) (h2 : n ≤ 400)
  (c1 : ¬ ((xs.length : Int) ≤ n ∧ n ≤ 21)) (b : Bool) (hb : b = true ↔ 1 ≤ n ∧ n ≤ 21) : Ev (fun k => graftref9_Show.j5 k (strOfNums xs) n (xs.length : Int) b) (strOfNums (txt xs n), 0) := by
 refine Ev.succ (fun k => by rw [graftref9_Show.j5]) ?_
 by_cases c2 : 1 ≤ n ∧ n ≤ 21
 ·obtain ⟨m, hm⟩ : ∃ m : Nat, n = m := ⟨n.toNat, by omega⟩
  have L1 := List.length_take (i := m) (l := xs)
  have L2 := List.length_drop (i := m) (l := xs)
  unfold txt
  rw [if_neg c1, if_pos c2, hm, Int.toNat_natCast, lit46, sn_take, sn_drop, sn_append, sn_append, sn_size, sn_size, sn_size, sn_size]
  refine Ev.yes (hb.2 c2) (Ev.yes (by omega) (Ev.yes (by omega) (Ev.yes ?_ (Ev.yes ?_ (Ev.const _)))))
  ·rw [L1]; omega
  ·simp only [List.length_append, List.length_cons, List.length_nil, L1, L2]; omega
 ·refine Ev.no (fun h => c2 (hb.1 h)) ?_
  by_cases c4 : n ≥ -5
  ·exact Ev.yes c4 (rj6_ev hl hl2 h1 h2 c1 c2 _ (by rw [decide_eq_true_iff]; exact ⟨fun h => ⟨c4, h⟩, fun h => h.2⟩))
  ·exact Ev.no c4 (rj6_ev hl hl2 h1 h2 c1 c2 _ ⟨fun h => absurd h Bool.false_ne_true, fun h => absurd h.1 c4⟩)
theorem rshow_mid {xs : List Int} {n : Int} (hl : 1 ≤ xs.length ∨ (xs.length = 0 ∧ n = 0)) (hl2 : xs.length ≤ 100) (h1 : -400 < n) (h2 : n ≤ 400) (hd : Dig xs) (hz : xs.length ≤ 1 ∨ ∃ h : xs.length - 1 < xs.length, xs[xs.length - 1] ≠ 48) :
  Ev (fun k => graftref9_Show.l0 k (strOfNums xs) n) (strOfNums (txt xs n), 0) := by
 have j3 : ∀ b : Bool, (b = true ↔ ((xs.length : Int) ≤ n ∧ n ≤ 21)) → Ev (fun k => graftref9_Show.j3 k (strOfNums xs) n (xs.length : Int) b) (strOfNums (txt xs n), 0) := by
  intro b hb
  refine Ev.succ (fun k => by rw [graftref9_Show.j3]) ?_
  by_cases c1 : (xs.length : Int) ≤ n ∧ n ≤ 21
  ·obtain ⟨m, hm⟩ : ∃ m : Nat, n - xs.length = m := ⟨(n - xs.length).toNat, by omega⟩
   unfold txt
   rw [if_pos c1, hm, Int.toNat_natCast]
   exact Ev.yes (hb.2 c1) (rl1z_ev m xs n (by omega) (by omega))
  ·have hl3 : 1 ≤ xs.length := by clear hz; omega
   refine Ev.no (fun h => c1 (hb.1 h)) ?_
   by_cases c2 : n ≥ 1
   ·exact Ev.yes c2 (rj5s_ev hl3 hl2 h1 h2 c1 _ (by rw [decide_eq_true_iff]; exact ⟨fun h => ⟨c2, h⟩, fun h => h.2⟩))
   ·exact Ev.no c2 (rj5s_ev hl3 hl2 h1 h2 c1 _ ⟨fun h => absurd h Bool.false_ne_true, fun h => absurd h.1 c2⟩)
 have j2 : Ev (fun k => graftref9_Show.j2 k (strOfNums xs) n) (strOfNums (txt xs n), 0) := by
  refine Ev.succ (fun k => by rw [graftref9_Show.j2]) ?_
  rw [sn_size]
  by_cases c : n ≥ (xs.length : Int)
  ·exact Ev.yes c (j3 _ (by rw [decide_eq_true_iff]; exact ⟨fun h => ⟨c, h⟩, fun h => h.2⟩))
  ·exact Ev.no c (j3 _ ⟨fun h => absurd h Bool.false_ne_true, fun h => absurd h.1 c⟩)
 refine Ev.succ (fun k => by rw [graftref9_Show.l0]) ?_
 rw [sn_size]
 by_cases hx : xs.length ≤ 1
 ·exact Ev.no (by omega) j2
 ·have e1 : Hid (wrap64 ((xs.length : Int) - 1) = ((xs.length - 1 : Nat) : Int)) := ⟨by rw [w64 (by omega) (by omega)]; omega⟩
  have f1 : (xs.length : Int) > 1 := by omega
  have f2 : (0 : Int) ≤ ((xs.length - 1 : Nat) : Int) := by omega
  have f3 : ((xs.length - 1 : Nat) : Int) < (xs.length : Int) := by omega
  have f4 : ((xs.length - 1 : Nat) : Int) ≤ (xs.length : Int) := by omega
  obtain ⟨h3, h4⟩ := hz.resolve_left hx
  have hbt := bt_sn xs hd.byte (xs.length - 1) h3
  rw [e1.out, hbt]
  exact Ev.yes f1 (Ev.yes f2 (Ev.yes f3 (Ev.no h4 j2)))
end Go.Proofs.Ytlhciggmllddkaa.Pl
end
section
namespace Go.Proofs.Ytlhciggmllddkaa.Pl
open Go Go.RowKit Go.Proofs.YtlhciggmllddkaaW.PrintWords Go.Proofs.YtlhciggmllddkaaW.PrintLast Go.Proofs.YtlhciggmllddkaaW.PrintMore Go.Proofs.Ytlhciggmllddkaa.PNum Go.Proofs.Ytlhciggmllddkaa.PNub
set_option linter.unusedVariables false
set_option linter.unusedSimpArgs false
theorem order_read {x y : Nat} {s t : Bool} {m n : Nat} {i j : Int} (hx : Ieee.double.read x = .number s m i) (hy : Ieee.double.read y = .number t n j) : Ieee.double.order x y = some (compare (Ieee.signed s m (i - min i j).toNat) (Ieee.signed t n (j - min i j).toNat)) := by
 unfold Ieee.Format.order
 rw [hx, hy]
 rfl
theorem feq_self {x : Nat} {s : Bool} {m : Nat} {i : Int} (hx : Ieee.double.read x = .number s m i) : feq x x = true := by
 unfold feq
 show (Ieee.double.order x x == some .eq) = true
 rw [order_read hx hx, Int.compare_eq_eq.2 rfl]
 rfl
theorem feq_nan {x : Nat} {s : Bool} {t : Nat} (hx : Ieee.double.read x = .nan s t) : feq x x = false := by
 unfold feq
 show (Ieee.double.order x x == some .eq) = false
 unfold Ieee.Format.order
 rw [hx]
 rfl
theorem can_zero : Can 0 0 ∧ bitsOf 0 0 = 0 := ⟨⟨by decide, .inl rfl⟩, by decide⟩
theorem read_zero : Ieee.double.read 0 = .number false 0 (-1074) := by decide
theorem order_neg {M r : Nat} (h : Can M r) (h0 : 0 < M) (hb : bitsOf M r < 9218868437227405312) : Ieee.double.order (9223372036854775808 + bitsOf M r) 0 = some .lt := by
 rw [order_read (read_neg h hb) read_zero, signed_true, signed_false, Nat.zero_mul]
 refine congrArg some (Int.compare_eq_lt.2 ?_)
 have := Nat.mul_pos h0 (Nat.two_pow_pos (-1074 + (r : Int) - min (-1074 + (r : Int)) (-1074)).toNat)
 omega
theorem flt_neg {M r : Nat} (h : Can M r) (h0 : 0 < M) (hb : bitsOf M r < 9218868437227405312) : flt (9223372036854775808 + bitsOf M r) 0 = true ∧ feq (9223372036854775808 + bitsOf M r) 0 = false := by
 unfold flt feq
 show (Ieee.double.order _ 0 == some .lt) = true ∧ (Ieee.double.order _ 0 == some .eq) = false
 rw [order_neg h h0 hb]
 exact ⟨rfl, rfl⟩
theorem signed_opp (s : Bool) (m u : Nat) : Ieee.signed s m u + Ieee.signed (!s) m u = 0 := by
 cases s
 ·rw [Bool.not_false, signed_false, signed_true]; omega
 ·rw [Bool.not_true, signed_false, signed_true]; omega
theorem sub_self {x : Nat} {s : Bool} {m : Nat} {i : Int} (hx : Ieee.double.read x = .number s m i) : fok .sub x x = true ∧ fop .sub x x = 0 := by
 refine fok_some ?_
 show Ieee.double.sub x x = some 0
 unfold Ieee.Format.sub
 rw [hx]
 show some (Ieee.double.write (.number (if Ieee.signed s m (i - min i i).toNat + Ieee.signed (!s) m (i - min i i).toNat = 0 then s && !s else _) (Ieee.signed s m (i - min i i).toNat + Ieee.signed (!s) m (i - min i i).toNat).natAbs (min i i))) = some 0
 rw [signed_opp, if_pos rfl, Bool.and_not_self]
 rfl
theorem sub_neg {M r : Nat} (h : Can M r) (h0 : 0 < M) (hb : bitsOf M r < 9218868437227405312) : fok .sub 0 (9223372036854775808 + bitsOf M r) = true ∧ fop .sub 0 (9223372036854775808 + bitsOf M r) = bitsOf M r := by
 refine fok_some ?_
 show Ieee.double.sub 0 (9223372036854775808 + bitsOf M r) = some (bitsOf M r)
 unfold Ieee.Format.sub
 rw [read_neg h hb, read_zero]
 have e0 : min (-1074 : Int) (-1074 + (r : Int)) = -1074 := by omega
 have e1 : (-1074 + (r : Int) - (-1074)).toNat = r := by omega
 have hp : 0 < M * 2 ^ r := Nat.mul_pos h0 (Nat.two_pow_pos r)
 show some (Ieee.double.write (.number (if Ieee.signed false 0 (-1074 - min (-1074 : Int) (-1074 + (r : Int))).toNat + Ieee.signed false M (-1074 + (r : Int) - min (-1074 : Int) (-1074 + (r : Int))).toNat = 0 then (false && false) else (decide (Ieee.signed false 0 (-1074 - min (-1074 : Int) (-1074 + (r : Int))).toNat + Ieee.signed false M (-1074 + (r : Int) - min (-1074 : Int) (-1074 + (r : Int))).toNat < 0))) (Ieee.signed false 0 (-1074 - min (-1074 : Int) (-1074 + (r : Int))).toNat + Ieee.signed false M (-1074 + (r : Int) - min (-1074 : Int) (-1074 + (r : Int))).toNat).natAbs (min (-1074 : Int) (-1074 + (r : Int))))) = _
 rw [e0, e1, signed_false, signed_false, Nat.zero_mul, Int.natCast_zero, Int.zero_add, Int.natAbs_natCast, if_neg (by omega), decide_eq_false (by omega)]
 have hn := nearest_fine false h h0 r
 have e2 : -1074 + (r : Int) - (r : Int) = -1074 := by omega
 rw [e2, word_pos, Nat.min_eq_left (Nat.le_of_lt hb)] at hn
 exact congrArg some hn
theorem fneg_neg {y : Nat} (hy : y < 9223372036854775808) : fneg (9223372036854775808 + y) = y := by
 show (9223372036854775808 + y) ^^^ 2 ^ 63 = y
 have h1 : y.testBit 63 = false := Nat.testBit_lt_two_pow (by omega)
 have h2 : 9223372036854775808 + y = y ^^^ 2 ^ 63 := by
  have := Nat.two_pow_add_eq_or_of_lt (b := y) (i := 63) (by omega) 1
  apply Nat.eq_of_testBit_eq
  intro i
  have e : 9223372036854775808 + y = 2 ^ 63 * 1 + y := by omega
  rw [e, this, Nat.testBit_or, Nat.testBit_xor, Nat.mul_one, Nat.testBit_two_pow]
  by_cases hi : 63 = i
  ·rw [← hi, h1]; rfl
  ·simp [hi]
 rw [h2, Nat.xor_assoc, Nat.xor_self, Nat.xor_zero]
theorem abs_neg {y : Nat} (h : y < 9223372036854775808) : math_Abs.f (9223372036854775808 + y) = some y := by
 unfold math_Abs.f
 rw [andNot_sign _ (by omega)]
 exact congrArg some (by omega)
theorem dg_ten : (dg 10).take 1 = dg 1 ∧ (dg 10).length = 2 := by
 rw [dg_big (by omega), dg_small (by omega)]
 exact ⟨rfl, rfl⟩
theorem dg_last {s : Nat} (h : s % 10 ≠ 0) : (dg s).length ≤ 1 ∨ ∃ h : (dg s).length - 1 < (dg s).length, (dg s)[(dg s).length - 1] ≠ 48 := by
 by_cases hs : s < 10
 ·rw [dg_small hs]
  exact .inl (Nat.le_refl 1)
 ·right
  refine ⟨Nat.sub_lt (dg_pos s) Nat.one_pos, ?_⟩
  have e : (dg s)[(dg s).length - 1]? = some (48 + ((s % 10 : Nat) : Int)) := by
   rw [dg_big hs, List.length_append, List.length_singleton, Nat.add_sub_cancel, List.getElem?_append_right (Nat.le_refl _), Nat.sub_self]
   rfl
  rw [List.getElem?_eq_getElem (Nat.sub_lt (dg_pos s) Nat.one_pos)] at e
  rw [Option.some.inj e]
  clear e
  omega
theorem out_same {F x : Nat} {n : Int} (hm : Mag F n) (h1 : -400 < n) (h2 : n ≤ 399) : ∃ (xs : List Int) (m : Int), sOut n (srch F n x 17 1) = (strOfNums xs, m) ∧ rOut n (srch F n x 17 1) = (strOfNums xs, m) ∧ (1 ≤ xs.length ∨ (xs.length = 0 ∧ m = 0)) ∧ xs.length ≤ 100 ∧ -400 < m ∧ m ≤ 400 ∧ Dig xs ∧ (xs.length ≤ 1 ∨ ∃ h : xs.length - 1 < xs.length, xs[xs.length - 1] ≠ 48) := by
 cases ho : srch F n x 17 1 with
 | none => exact ⟨[], 0, rfl, rfl, .inr ⟨rfl, rfl⟩, Nat.zero_le _, by decide, by decide, fun x hx => (List.not_mem_nil hx).elim, .inl (Nat.zero_le _)⟩
 | some ks =>
  obtain ⟨k, s⟩ := ks
  obtain ⟨k1, k2, -, s1, s2, s3⟩ := srch_some hm ho
  by_cases hs : s = 10 ^ k
  ·have hk : k = 1 := by
    rcases s3 with h | h
    ·exact h
    ·exfalso
     obtain ⟨j, rfl⟩ : ∃ j, k = j + 1 := ⟨k - 1, by omega⟩
     rw [hs, Nat.pow_succ] at h
     omega
   subst hk
   subst hs
   have e1 : dg (10 ^ (1 - 1)) = dg 1 := rfl
   refine ⟨dg 1, n + 1, (sOut_top rfl).1, ?_, .inl (dg_pos 1), ?_, by omega, by omega, dg_dig 1, .inl ?_⟩
   ·show (if 1 < (dg (10 ^ 1)).length then (strOfNums ((dg (10 ^ 1)).take 1), n + 1) else _) = _
    rw [show (10 : Nat) ^ 1 = 10 from rfl, dg_ten.2, if_pos (by omega), dg_ten.1]
   ·rw [dg_small (by omega)]
    exact Nat.le_trans (Nat.le_refl 1) (by omega)
   ·rw [dg_small (by omega)]
    exact Nat.le_refl 1
  ·have ek : k - 1 + 1 = k := by omega
   have hl := dg_len (k - 1) s s1 (by rw [ek]; omega)
   have hlast : (dg s).length ≤ 1 ∨ ∃ h : (dg s).length - 1 < (dg s).length, (dg s)[(dg s).length - 1] ≠ 48 := by
    rcases s3 with h | h
    ·exact .inl (by omega)
    ·exact dg_last h
   refine ⟨dg s, n, (sOut_one hs).1, ?_, .inl (dg_pos s), by clear hlast; omega, h1, by clear hlast; omega, dg_dig s, hlast⟩
   show (if k < (dg s).length then _ else (strOfNums (dg s), n)) = _
   rw [if_neg (by clear hlast; omega)]
/-- A positive number. -/
theorem show_pos {M r : Nat} (hc : Can M r) (h0 : 0 < M) (hx : bitsOf M r < 9218868437227405312) : ∃ T : List Int, T.length ≤ 1000 ∧ Ev (fun k => note_show.f k (bitsOf M r)) (strOfNums T) ∧ Ev (fun k => graftref9_Show.f k (bitsOf M r)) (strOfNums T, 0) := by
 have hr : r ≤ 2045 := by
  have := hc.ge
  unfold bitsOf at hx
  omega
 have hb0 : 0 < bitsOf M r := by
  have := hc.ge
  unfold bitsOf
  omega
 obtain ⟨n, hm, hs⟩ := shortest_ev hc h0 hx
 have hf := fin_of hc h0 hx
 have h1 := (hm.range hf).1
 have h2 := hm.top9 hf
 obtain ⟨xs, m, e1, e2, a1, a2, a3, a4, a5, a6⟩ := out_same (x := bitsOf M r) hm h1 h2
 have hrs := rshortest_ev hc h0 hr hm
 rw [e1] at hs
 rw [e2] at hrs
 have hne : ¬ (feq (bitsOf M r) 0 = true) := feq_zero hx hb0
 have hnl : ¬ (flt (bitsOf M r) 0 = true) := by
  rw [flt_pos hx (by omega), decide_eq_true_iff]
  omega
 have hread := read_pos hc hx
 obtain ⟨s1, s2⟩ := sub_self hread
 refine ⟨txt xs m, ?_, ?_, ?_⟩
 ·have L1 := List.length_take (i := 1) (l := xs)
  have L2 := List.length_drop (i := 1) (l := xs)
  have L3 := List.length_take (i := m.toNat) (l := xs)
  have L4 := List.length_drop (i := m.toNat) (l := xs)
  have L5 : (dg (1 - m).toNat).length ≤ 4 := by
   by_cases h : 0 ≤ 1 - m
   ·exact place_len _ (by clear a6; omega)
   ·have : (1 - m).toNat = 0 := by clear a6; omega
    rw [this]
    exact place_len 0 (by decide)
  have L6 : (dg (m - 1).toNat).length ≤ 4 := by
   by_cases h : 0 ≤ m - 1
   ·exact place_len _ (by clear a6; omega)
   ·have : (m - 1).toNat = 0 := by clear a6; omega
    rw [this]
    exact place_len 0 (by decide)
  have L7 : ∀ j, (zeros j).length = j := fun j => List.length_replicate
  clear a6
  unfold txt
  by_cases c1 : (xs.length : Int) ≤ m ∧ m ≤ 21
  ·rw [if_pos c1, List.length_append, L7]; omega
  ·rw [if_neg c1]
   by_cases c2 : 1 ≤ m ∧ m ≤ 21
   ·rw [if_pos c2]; simp only [List.length_append, List.length_cons, List.length_nil, L3, L4]; omega
   ·rw [if_neg c2]
    by_cases c3 : -5 ≤ m ∧ m ≤ 0
    ·rw [if_pos c3]; simp only [List.length_append, List.length_cons, List.length_nil, L7]; omega
    ·rw [if_neg c3]
     by_cases c4 : m - 1 < 0
     ·rw [if_pos c4]
      by_cases c5 : 1 < xs.length
      ·rw [if_pos c5]; simp only [List.length_append, List.length_cons, List.length_nil, L1, L2]; omega
      ·rw [if_neg c5]; simp only [List.length_append, List.length_cons, List.length_nil, L1]; omega
     ·rw [if_neg c4]
      by_cases c5 : 1 < xs.length
      ·rw [if_pos c5]; simp only [List.length_append, List.length_cons, List.length_nil, L1, L2]; omega
      ·rw [if_neg c5]; simp only [List.length_append, List.length_cons, List.length_nil, L1]; omega
 ·exact Ev.succ (fun k => by rw [note_show.f]) (Ev.no hne (Ev.no hnl (Ev.bind hs (nshow_mid a1 a2 a3 a4))))
 ·refine Ev.succ (fun k => by rw [graftref9_Show.f]) (Ev.yes (feq_self hread) (Ev.yes s1 ?_))
  rw [s2]
  exact Ev.succ (fun k => by rw [graftref9_Show.j0]) (Ev.no (by decide +kernel) (Ev.no hne (Ev.no hnl (Ev.bind hrs (rshow_mid a1 a2 a3 a4 a5 a6)))))
/-- A number below 0. -/
theorem show_neg {M r : Nat} (hc : Can M r) (h0 : 0 < M) (hx : bitsOf M r < 9218868437227405312) : ∃ T : List Int, Ev (fun k => note_show.f k (9223372036854775808 + bitsOf M r)) (strOfNums T) ∧ Ev (fun k => graftref9_Show.f k (9223372036854775808 + bitsOf M r)) (strOfNums T, 0) := by
 obtain ⟨T, hT, t1, t2⟩ := show_pos hc h0 hx
 obtain ⟨f1, f2⟩ := flt_neg hc h0 hx
 have hread := read_neg hc hx
 obtain ⟨s1, s2⟩ := sub_self hread
 obtain ⟨z1, z2⟩ := sub_neg hc h0 hx
 have f3 : ¬ (feq (9223372036854775808 + bitsOf M r) 0 = true) := by rw [f2]; exact Bool.false_ne_true
 refine ⟨[45] ++ T, ?_, ?_⟩
 ·refine Ev.succ (fun k => by rw [note_show.f]) (Ev.no f3 (Ev.yes f1 ?_))
  rw [fneg_neg (by omega)]
  refine Ev.bind t1 ?_
  rw [lit45, sn_append, sn_size]
  exact Ev.yes (by omega) (Ev.const _)
 ·refine Ev.succ (fun k => by rw [graftref9_Show.f]) (Ev.yes (feq_self hread) (Ev.yes s1 ?_))
  rw [s2]
  refine Ev.succ (fun k => by rw [graftref9_Show.j0]) (Ev.no (by decide +kernel) (Ev.no f3 (Ev.yes f1 (Ev.yes z1 ?_))))
  rw [z2]
  refine Ev.bind t2 ?_
  rw [lit45, sn_append, sn_size]
  exact Ev.yes (by omega) (Ev.const _)
theorem notNaN {x : Nat} {s : Bool} {m : Nat} {i : Int} (hx : Ieee.double.read x = .number s m i) : math_IsNaN.f x = some false := by
 unfold math_IsNaN.f
 rw [feq_self hx]
 rfl
theorem law_of {x : Nat} {s t : ByteArray} {e : Int} (h1 : Ev (fun k => note_Show.f k x) (s, e)) (h2 : Ev (fun k => graftref9_Show.f k x) (s, e)) : ∃ k, graftlaw9_NoteShows.f k x = some true := by
 refine Ev.some_k (Ev.congr (fun k => by rw [graftlaw9_NoteShows.f]) (Ev.bind h1 (Ev.bind h2 (Ev.yes rfl ?_))))
 have : (s.toList == s.toList) = true := by simp
 rw [this]
 exact Ev.const _
theorem law_fin {x : Nat} {T : List Int} (h1 : math_IsNaN.f x = some false) (h2 : math_IsInf.f x 0 = some false) (h3 : Ev (fun k => note_show.f k x) (strOfNums T)) (h4 : Ev (fun k => graftref9_Show.f k x) (strOfNums T, 0)) : ∃ k, graftlaw9_NoteShows.f k x = some true :=
 law_of (t := ByteArray.empty) (Ev.congr (fun k => by rw [note_Show.f]) (Ev.bind (Ev.of_eq h1) (Ev.no Bool.false_ne_true (Ev.bind (Ev.of_eq h2) (Ev.no Bool.false_ne_true (Ev.bind (h := fun k a => some (a, (0 : Int))) h3 (Ev.const _))))))) h4
theorem law_zero : (∃ k, graftlaw9_NoteShows.f k 0 = some true) ∧ ∃ k, graftlaw9_NoteShows.f k 9223372036854775808 = some true := by
 constructor
 ·exact ⟨3, by decide +kernel⟩
 ·exact ⟨3, by decide +kernel⟩
theorem law_nan {x : Nat} {s : Bool} {t : Nat} (hx : Ieee.double.read x = .nan s t) : ∃ k, graftlaw9_NoteShows.f k x = some true := by
 have hf := feq_nan hx
 have h1 : math_IsNaN.f x = some true := by
  unfold math_IsNaN.f
  rw [hf]
  rfl
 refine law_of (t := ByteArray.empty) (s := ⟨#[]⟩) (e := 94) (Ev.congr (fun k => by rw [note_Show.f]) (Ev.bind (Ev.of_eq h1) (Ev.yes rfl (Ev.const _)))) ?_
 exact Ev.succ (fun k => by rw [graftref9_Show.f]) (Ev.no (by rw [hf]; exact Bool.false_ne_true) (Ev.succ (fun k => by rw [graftref9_Show.j0]) (Ev.yes rfl (Ev.const _))))
/-- Every word but the infinities. -/
theorem law_but_inf {x : Nat} (hx : x < 18446744073709551616) (h1 : x ≠ 9218868437227405312) (h2 : x ≠ 18442240474082181120) : ∃ k, graftlaw9_NoteShows.f k x = some true := by
 by_cases hs : x < 9223372036854775808
 ·by_cases hf : x < 9218868437227405312
  ·by_cases hz : x = 0
   ·subst hz; exact law_zero.1
   ·obtain ⟨M, r, hc, rfl⟩ := can_of x
    have h0 : 0 < M := by
     refine Nat.pos_of_ne_zero fun e => hz ?_
     have := hc.ge
     subst e
     unfold bitsOf
     omega
    obtain ⟨T, -, t1, t2⟩ := show_pos hc h0 hf
    exact law_fin (isNaN_fin hf) (isInf_fin hf) t1 t2
  ·obtain ⟨t, ht⟩ := read_nan (x := x) (by omega) hs
   exact law_nan ht
 ·obtain ⟨y, rfl⟩ : ∃ y, x = 9223372036854775808 + y := ⟨x - 9223372036854775808, by omega⟩
  by_cases hf : y < 9218868437227405312
  ·by_cases hz : y = 0
   ·subst hz; exact law_zero.2
   ·obtain ⟨M, r, hc, rfl⟩ := can_of y
    have h0 : 0 < M := by
     refine Nat.pos_of_ne_zero fun e => hz ?_
     have := hc.ge
     subst e
     unfold bitsOf
     omega
    obtain ⟨T, t1, t2⟩ := show_neg hc h0 hf
    refine law_fin (notNaN (read_neg hc hf)) ?_ t1 t2
    unfold math_IsInf.f
    rw [if_pos rfl, abs_neg (by omega), Option.bind_some, isInf_pos hf]
  ·obtain ⟨t, ht⟩ := read_nan_neg (x := 9223372036854775808 + y) (by omega) (by omega)
   exact law_nan ht
end Go.Proofs.Ytlhciggmllddkaa.Pl
end
