/- Part of the proof of NoteShows: on every float64 the program and the document's answer show the same. No condition. -/
import Derived.Test.YtlhciggmllddkaaProg
import Derived.Test.YtlhciggmllddkaaZW
import Derived.Laws.FloatArith
import Derived.Laws.Externs
import Derived.WalkLawsBesides
import Derived.KernelRfl
namespace Go.Proofs.YtlhciggmllddkaaW.PrintWords
open Go.RowKit
def flt (a b : Nat) : Bool := FloatKind.f64.format.order a b == some .lt
def fle (a b : Nat) : Bool := FloatKind.f64.format.order a b == some .lt || FloatKind.f64.format.order a b == some .eq
def fgt (a b : Nat) : Bool := FloatKind.f64.format.order a b == some .gt
def fge (a b : Nat) : Bool := FloatKind.f64.format.order a b == some .gt || FloatKind.f64.format.order a b == some .eq
def feq (a b : Nat) : Bool := FloatKind.f64.format.order a b == some .eq
def fneg (b : Nat) : Nat := Op.negFloat .f64 b
def fok (op : BinOp) (x y : Nat) : Bool := (floatBits op .f64 x y).isSome
def fop (op : BinOp) (x y : Nat) : Nat := (floatBits op .f64 x y).getD 0
def fiok (x : Nat) (k : IntKind) : Bool := (floatToIntVal .f64 x k).isSome
def fint (x : Nat) (k : IntKind) : Int := (floatToIntVal .f64 x k).getD 0
@[go_sem high] theorem walk_feq (t : TypeId) (a b : Nat) : binOp .eql t (.float .f64 a) (.float .f64 b) = pure (.bool (feq a b)) := by simp [binOp, Op.floatCmp, feq]
@[go_sem high] theorem walk_fne (t : TypeId) (a b : Nat) : binOp .neq t (.float .f64 a) (.float .f64 b) = pure (.bool (!feq a b)) := by
 simp only [binOp, Op.floatCmp, feq]
 rfl
@[go_sem high] theorem walk_flt (t : TypeId) (a b : Nat) : binOp .lss t (.float .f64 a) (.float .f64 b) = pure (.bool (flt a b)) := by simp [binOp, Op.floatCmp, flt]
@[go_sem high] theorem walk_fle (t : TypeId) (a b : Nat) : binOp .leq t (.float .f64 a) (.float .f64 b) = pure (.bool (fle a b)) := by simp [binOp, Op.floatCmp, fle]
@[go_sem high] theorem walk_fgt (t : TypeId) (a b : Nat) : binOp .gtr t (.float .f64 a) (.float .f64 b) = pure (.bool (fgt a b)) := by simp [binOp, Op.floatCmp, fgt]
@[go_sem high] theorem walk_fge (t : TypeId) (a b : Nat) : binOp .geq t (.float .f64 a) (.float .f64 b) = pure (.bool (fge a b)) := by simp [binOp, Op.floatCmp, fge]
@[go_sem] theorem walk_fneg (b : Nat) : Op.unary .neg (.float .f64 b) = pure (.float .f64 (fneg b)) := rfl
section
variable {P : Program} (w : World)
@[go_sem high] theorem walk_fop (op : BinOp) (t : TypeId) (x y : Nat) (h : fok op x y = true) : (binOp op t (.float .f64 x) (.float .f64 y)).run P w = .ok (.float .f64 (fop op x y)) w := by
 obtain ⟨r, hr⟩ := Option.isSome_iff_exists.1 h
 rw [run_float_arith w op t .f64 x y r hr]
 simp [fop, hr]
@[go_sem high] theorem walk_fint (src dst : TypeId) (k : IntKind) (x : Nat) (hs : (P.underlying src).isSome = true) (hd : P.underlying dst = some (.int k)) (h : fiok x k = true) : (convert src dst (.float .f64 x)).run P w = .ok (.int k (fint x k)) w := by
 obtain ⟨r, hr⟩ := Option.isSome_iff_exists.1 h
 rw [run_convert_float_int w src dst .f64 k x r hs hd hr]
 simp [fint, hr]
end
namespace Kd
def f64 : Kd Nat := scalar (Value.float .f64) (fun _ => rfl)
theorem heap_f64 : Heap Kd.f64 := ⟨fun _ h => h⟩
theorem at_f64 {w : World} {A : Option Addr} {n : Nat} {xs : List Nat} (h : Kd.f64.C w A n xs) (i : Int) (h0 : 0 ≤ i) (h1 : i < n) : ∃ ad, A = some ad ∧ w.cell? (ad.add i.toNat) = some (.float .f64 (rdOf (0 : Nat) xs i)) :=
 ReadsOf.at_ (reads_of_C (enc := Value.float .f64) (d := (0 : Nat)) (h1 := fun _ => rfl) h) i h0 h1
end Kd
theorem run_fb (x : Nat) (w : World) : (callFunc 35 #[.float .f64 x]).run Try.prog w = .ok (.value (.int .u64 x)) w := by
 rw [run_callFunc_extern (e := Extern.MathFloatBits.float64bits) Try.func35 (by kernel_rfl) (by kernel_rfl) (by kernel_rfl) (by kernel_rfl)]
 rfl
theorem run_fbb (n : Int) (w : World) : (callFunc 36 #[.int .u64 n]).run Try.prog w = .ok (.value (.float .f64 n.toNat)) w := by
 rw [run_callFunc_extern (e := Extern.MathFloatBits.float64frombits) Try.func36 (by kernel_rfl) (by kernel_rfl) (by kernel_rfl) (by kernel_rfl)]
 rfl
end Go.Proofs.YtlhciggmllddkaaW.PrintWords
