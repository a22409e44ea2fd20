/- Encryption: both sides come to the same state (own work). -/
import Derived.Test.YtlnbhdcaebmffaaXOe
set_option linter.unusedVariables false
namespace Go.Aw.W
open Go Go.Aw Go.Proofs
open procedureEncrypts in
theorem encN (s : Arr49) (m : Int) (f : Bool) : (List.getD (e3 s m f).snd.snd (Int.toNat (0 : Int)) Indication.zero).Number = m := by
  unfold e3; rw [e1_eq]; kernel_rfl
open procedureEncrypts in
theorem enc8s (s : Arr49) (m : Int) : (e8 s m true).fst.Salt = s.e0 := by simp only [e8, e7, e6, e5, e4, e3, e1_eq]; kernel_rfl
open procedureEncrypts in
theorem enc8p (s : Arr49) (m : Int) : (e8 s m true).fst.Peer = s.e1 := by simp only [e8, e7, e6, e5, e4, e3, e1_eq]; kernel_rfl
open procedureEncrypts in
theorem enc7s (s : Arr49) (m : Int) : (e7 s m true).fst.Salt = s.e1 := by simp only [e7, e6, e5, e4, e3, e1_eq]; kernel_rfl
open procedureEncrypts in
theorem enc7p (s : Arr49) (m : Int) : (e7 s m true).fst.Peer = s.e0 := by simp only [e7, e6, e5, e4, e3, e1_eq]; kernel_rfl
open procedureEncrypts in
theorem procedureEncrypts_true (x0 : Arr49) (x1 : Int) (x2 : Bool) (b0 : Arr49.has x0) (b1 : IntKind.has .u64 x1) (b2 : True) : procedureEncrypts x0 x1 x2 = true := by
  unfold procedureEncrypts
  rw [encN, bne_self_eq_false]
  cases x2
  · simp only [e5, e4, e3, e1_eq]; kernel_rfl
  · rw [enc8s, enc8p, enc7s, enc7p]
    simp only [beq_self_eq_true]
    simp only [e8, e7, e6, e5, e4, e3, e1_eq]; kernel_rfl
end Go.Aw.W
