/- Contracts of the seat (printed by ct.py). -/
import Derived.Test.YtppceadhdckpmaaDoorW24
set_option linter.unusedVariables false
set_option linter.unusedSimpArgs false
set_option maxRecDepth 20000
set_option maxHeartbeats 1000000
namespace Go.Aw.W
open Go Go.Aw Go.Proofs
attribute [local irreducible] evCode evFun evOps evDs evOne ctxK loopK loopB subC bodyC headS okH roundK
attribute [local irreducible] pFind r9Find pCheck r19Check connects r21Accepts advStart r21Start advFire r21Fire advAnswer r21Answer
def lives21.res (r : Bool) : AV El := .v (.bool (r))
def lives21.news (r : Bool) : List (AObj El) := []
def lives21.L (e v : Bool) : Prop := lives21.res e = lives21.res v ∧ lives21.news e = lives21.news v
def lives21  : Bool := true
def lives21.dec (cs : List (AV El)) : Option (Unit) := popE cs ()
def lives21.enc (x : Unit) : List (AV El) := []
theorem lives21.dec_ok : ∀ cs x, lives21.dec cs = some x → Imp (S := S) cs (lives21.enc x) := by
  intro cs x h
  unfold lives21.dec at h
  obtain ⟨rfl, rfl⟩ := popE_some (S := S) h
  exact (.refl _)
def lives21_nf_g1 : Bool := (advStart { Kind := 0, Interval := 160, Own := { Kind := 1, Bits := 5 : Address }, Target := { Kind := 0, Bits := 0 : Address }, Data := [], Scan := [(1 : Int), (5 : Int)], Policy := 0, Accept := [], Identities := [], Seed := 0 : AdvParams } 5000).fst.On
def lives21.nf (v : Bool) : Prop := Ob ((0 : Nat) ≤ (140737488355328 : Nat) ∧ List.length [(1 : Int), (5 : Int)] ≤ (140737488355328 : Nat) ∧ (0 : Nat) ≤ (4611686018427 : Nat) ∧ (0 : Nat) ≤ (4611686018427 : Nat)) ∧ (Ob (List.length (advStart { Kind := 0, Interval := 160, Own := { Kind := 1, Bits := 5 : Address }, Target := { Kind := 0, Bits := 0 : Address }, Data := [], Scan := [(1 : Int), (5 : Int)], Policy := 0, Accept := [], Identities := [], Seed := 0 : AdvParams } 5000).fst.Params.Data ≤ (140737488355328 : Nat) ∧ List.length (advStart { Kind := 0, Interval := 160, Own := { Kind := 1, Bits := 5 : Address }, Target := { Kind := 0, Bits := 0 : Address }, Data := [], Scan := [(1 : Int), (5 : Int)], Policy := 0, Accept := [], Identities := [], Seed := 0 : AdvParams } 5000).fst.Params.Scan ≤ (140737488355328 : Nat) ∧ List.length (advStart { Kind := 0, Interval := 160, Own := { Kind := 1, Bits := 5 : Address }, Target := { Kind := 0, Bits := 0 : Address }, Data := [], Scan := [(1 : Int), (5 : Int)], Policy := 0, Accept := [], Identities := [], Seed := 0 : AdvParams } 5000).fst.Params.Accept ≤ (4611686018427 : Nat) ∧ List.length (advStart { Kind := 0, Interval := 160, Own := { Kind := 1, Bits := 5 : Address }, Target := { Kind := 0, Bits := 0 : Address }, Data := [], Scan := [(1 : Int), (5 : Int)], Policy := 0, Accept := [], Identities := [], Seed := 0 : AdvParams } 5000).fst.Params.Identities ≤ (4611686018427 : Nat)) ∧ (Ob (List.length (advFire (advStart { Kind := 0, Interval := 160, Own := { Kind := 1, Bits := 5 : Address }, Target := { Kind := 0, Bits := 0 : Address }, Data := [], Scan := [(1 : Int), (5 : Int)], Policy := 0, Accept := [], Identities := [], Seed := 0 : AdvParams } 5000).fst 5000).fst.Params.Data ≤ (140737488355328 : Nat) ∧ List.length (advFire (advStart { Kind := 0, Interval := 160, Own := { Kind := 1, Bits := 5 : Address }, Target := { Kind := 0, Bits := 0 : Address }, Data := [], Scan := [(1 : Int), (5 : Int)], Policy := 0, Accept := [], Identities := [], Seed := 0 : AdvParams } 5000).fst 5000).fst.Params.Scan ≤ (140737488355328 : Nat) ∧ List.length (advFire (advStart { Kind := 0, Interval := 160, Own := { Kind := 1, Bits := 5 : Address }, Target := { Kind := 0, Bits := 0 : Address }, Data := [], Scan := [(1 : Int), (5 : Int)], Policy := 0, Accept := [], Identities := [], Seed := 0 : AdvParams } 5000).fst 5000).fst.Params.Accept ≤ (4611686018427 : Nat) ∧ List.length (advFire (advStart { Kind := 0, Interval := 160, Own := { Kind := 1, Bits := 5 : Address }, Target := { Kind := 0, Bits := 0 : Address }, Data := [], Scan := [(1 : Int), (5 : Int)], Policy := 0, Accept := [], Identities := [], Seed := 0 : AdvParams } 5000).fst 5000).fst.Params.Identities ≤ (4611686018427 : Nat)) ∧ (Ob (List.length (advFire (advStart { Kind := 0, Interval := 160, Own := { Kind := 1, Bits := 5 : Address }, Target := { Kind := 0, Bits := 0 : Address }, Data := [], Scan := [(1 : Int), (5 : Int)], Policy := 0, Accept := [], Identities := [], Seed := 0 : AdvParams } 5000).fst 5000).fst.Params.Data ≤ (140737488355328 : Nat) ∧ List.length (advFire (advStart { Kind := 0, Interval := 160, Own := { Kind := 1, Bits := 5 : Address }, Target := { Kind := 0, Bits := 0 : Address }, Data := [], Scan := [(1 : Int), (5 : Int)], Policy := 0, Accept := [], Identities := [], Seed := 0 : AdvParams } 5000).fst 5000).fst.Params.Scan ≤ (140737488355328 : Nat) ∧ List.length (advFire (advStart { Kind := 0, Interval := 160, Own := { Kind := 1, Bits := 5 : Address }, Target := { Kind := 0, Bits := 0 : Address }, Data := [], Scan := [(1 : Int), (5 : Int)], Policy := 0, Accept := [], Identities := [], Seed := 0 : AdvParams } 5000).fst 5000).fst.Params.Accept ≤ (4611686018427 : Nat) ∧ List.length (advFire (advStart { Kind := 0, Interval := 160, Own := { Kind := 1, Bits := 5 : Address }, Target := { Kind := 0, Bits := 0 : Address }, Data := [], Scan := [(1 : Int), (5 : Int)], Policy := 0, Accept := [], Identities := [], Seed := 0 : AdvParams } 5000).fst 5000).fst.Params.Identities ≤ (4611686018427 : Nat)) ∧ (Ob ((0 : Nat) ≤ (140737488355328 : Nat) ∧ (0 : Nat) ≤ (140737488355328 : Nat) ∧ (0 : Nat) ≤ (4611686018427 : Nat) ∧ (0 : Nat) ≤ (4611686018427 : Nat)) ∧ (Ob (o3 true) ∧ (Ob (o3 true) ∧ (Ob (false = false → true = true) ∧ (Ob (o3 true) ∧ (Ob (o3 true) ∧ (Ob (false = false → true = true) ∧ (Ob (o3 true) ∧ (Ob (o3 true) ∧ (Ob (false = false → true = true) ∧ (Ob (o3 (lives21_nf_g1)) ∧ (Ob ((advStart { Kind := 0, Interval := 160, Own := { Kind := 1, Bits := 5 : Address }, Target := { Kind := 0, Bits := 0 : Address }, Data := [], Scan := [(1 : Int), (5 : Int)], Policy := 0, Accept := [], Identities := [], Seed := 0 : AdvParams } 5000).fst.On = true → (0 : Int) ≤ (1 : Int) ∧ 1 < (↑(List.length (advFire (advStart { Kind := 0, Interval := 160, Own := { Kind := 1, Bits := 5 : Address }, Target := { Kind := 0, Bits := 0 : Address }, Data := [], Scan := [(1 : Int), (5 : Int)], Policy := 0, Accept := [], Identities := [], Seed := 0 : AdvParams } 5000).fst 5000).snd) : Int)) ∧ (Ob (o3 (lives21_nf_g1)) ∧ (Ob (o3 (lives21_nf_g1)) ∧ (Ob (o3 (lives21_nf_g1)) ∧ (Ob (o2 (lives21_nf_g1)) ∧ (Ob (o3 true) ∧ (Ob (true = true → (0 : Int) ≤ (1 : Int) ∧ 1 < (↑(List.length (advFire (advStart { Kind := 0, Interval := 160, Own := { Kind := 1, Bits := 5 : Address }, Target := { Kind := 0, Bits := 0 : Address }, Data := [], Scan := [(1 : Int), (5 : Int)], Policy := 0, Accept := [], Identities := [], Seed := 0 : AdvParams } 5000).fst 5000).snd) : Int)) ∧ (Ob (o3 true) ∧ (Ob (o3 true) ∧ (Ob (o3 true) ∧ (Ob (o2 true) ∧ (Ob (o3 true) ∧ (Ob (o3 true) ∧ (Ob (o2 true) ∧ (Ob (o3 true) ∧ (Ob (o3 true) ∧ (Ob (o3 true) ∧ (Ob (o3 true) ∧ (Ob (o2 true) ∧ (Ob (o3 true) ∧ (Ob (true = true → (0 : Int) ≤ (0 : Int) ∧ 0 < (↑(List.length (advAnswer (advFire (advStart { Kind := 0, Interval := 160, Own := { Kind := 1, Bits := 5 : Address }, Target := { Kind := 0, Bits := 0 : Address }, Data := [], Scan := [(1 : Int), (5 : Int)], Policy := 0, Accept := [], Identities := [], Seed := 0 : AdvParams } 5000).fst 5000).fst { Kind := 3, Sender := { Kind := 1, Bits := 6 : Address }, Target := { Kind := 1, Bits := 5 : Address }, Data := [], Conn := { Access := 0, Init := 0, Update := { WinSize := 0, WinOffset := 0, Interval := 0, Latency := 0, Timeout := 0 : Update }, Map := 0, Hop := 0, PPM := 0, Algorithm := 0 : ConnParams } : AdvPDU } 38 6300).snd.fst) : Int)) ∧ (Ob (o3 true) ∧ (Ob (o3 true) ∧ (Ob (o3 true) ∧ (Ob (o2 true) ∧ (Ob (o3 true) ∧ (Ob (true = true → (0 : Int) ≤ (0 : Int) ∧ 0 < (↑(List.length (advAnswer (advFire (advStart { Kind := 0, Interval := 160, Own := { Kind := 1, Bits := 5 : Address }, Target := { Kind := 0, Bits := 0 : Address }, Data := [], Scan := [(1 : Int), (5 : Int)], Policy := 0, Accept := [], Identities := [], Seed := 0 : AdvParams } 5000).fst 5000).fst { Kind := 3, Sender := { Kind := 1, Bits := 6 : Address }, Target := { Kind := 1, Bits := 5 : Address }, Data := [], Conn := { Access := 0, Init := 0, Update := { WinSize := 0, WinOffset := 0, Interval := 0, Latency := 0, Timeout := 0 : Update }, Map := 0, Hop := 0, PPM := 0, Algorithm := 0 : ConnParams } : AdvPDU } 38 6300).snd.fst) : Int)) ∧ (Ob (o3 true) ∧ (Ob (o3 true) ∧ (Ob (o3 true) ∧ (Ob (o2 true) ∧ (Ob (o3 true) ∧ (Ob (true = true → (0 : Int) ≤ (0 : Int) ∧ 0 < (↑(List.length (advAnswer (advFire (advStart { Kind := 0, Interval := 160, Own := { Kind := 1, Bits := 5 : Address }, Target := { Kind := 0, Bits := 0 : Address }, Data := [], Scan := [(1 : Int), (5 : Int)], Policy := 0, Accept := [], Identities := [], Seed := 0 : AdvParams } 5000).fst 5000).fst { Kind := 3, Sender := { Kind := 1, Bits := 6 : Address }, Target := { Kind := 1, Bits := 5 : Address }, Data := [], Conn := { Access := 0, Init := 0, Update := { WinSize := 0, WinOffset := 0, Interval := 0, Latency := 0, Timeout := 0 : Update }, Map := 0, Hop := 0, PPM := 0, Algorithm := 0 : ConnParams } : AdvPDU } 38 6300).snd.fst) : Int)) ∧ (Ob (o3 true) ∧ (Ob (o3 true) ∧ (Ob (o3 true) ∧ (Ob (o3 true) ∧ (Ob (o3 true) ∧ (Ob (o2 true) ∧ (Ob (o3 true) ∧ (Ob (o2 true) ∧ (Ob (o3 true) ∧ (Ob (o2 true) ∧ (Ob (o3 true) ∧ (Ob (true = true → List.length (advAnswer (advFire (advStart { Kind := 0, Interval := 160, Own := { Kind := 1, Bits := 5 : Address }, Target := { Kind := 0, Bits := 0 : Address }, Data := [], Scan := [(1 : Int), (5 : Int)], Policy := 0, Accept := [], Identities := [], Seed := 0 : AdvParams } 5000).fst 5000).fst { Kind := 3, Sender := { Kind := 1, Bits := 6 : Address }, Target := { Kind := 1, Bits := 5 : Address }, Data := [], Conn := { Access := 0, Init := 0, Update := { WinSize := 0, WinOffset := 0, Interval := 0, Latency := 0, Timeout := 0 : Update }, Map := 0, Hop := 0, PPM := 0, Algorithm := 0 : ConnParams } : AdvPDU } 38 6300).fst.Params.Data ≤ (140737488355328 : Nat) ∧ List.length (advAnswer (advFire (advStart { Kind := 0, Interval := 160, Own := { Kind := 1, Bits := 5 : Address }, Target := { Kind := 0, Bits := 0 : Address }, Data := [], Scan := [(1 : Int), (5 : Int)], Policy := 0, Accept := [], Identities := [], Seed := 0 : AdvParams } 5000).fst 5000).fst { Kind := 3, Sender := { Kind := 1, Bits := 6 : Address }, Target := { Kind := 1, Bits := 5 : Address }, Data := [], Conn := { Access := 0, Init := 0, Update := { WinSize := 0, WinOffset := 0, Interval := 0, Latency := 0, Timeout := 0 : Update }, Map := 0, Hop := 0, PPM := 0, Algorithm := 0 : ConnParams } : AdvPDU } 38 6300).fst.Params.Scan ≤ (140737488355328 : Nat) ∧ List.length (advAnswer (advFire (advStart { Kind := 0, Interval := 160, Own := { Kind := 1, Bits := 5 : Address }, Target := { Kind := 0, Bits := 0 : Address }, Data := [], Scan := [(1 : Int), (5 : Int)], Policy := 0, Accept := [], Identities := [], Seed := 0 : AdvParams } 5000).fst 5000).fst { Kind := 3, Sender := { Kind := 1, Bits := 6 : Address }, Target := { Kind := 1, Bits := 5 : Address }, Data := [], Conn := { Access := 0, Init := 0, Update := { WinSize := 0, WinOffset := 0, Interval := 0, Latency := 0, Timeout := 0 : Update }, Map := 0, Hop := 0, PPM := 0, Algorithm := 0 : ConnParams } : AdvPDU } 38 6300).fst.Params.Accept ≤ (4611686018427 : Nat) ∧ List.length (advAnswer (advFire (advStart { Kind := 0, Interval := 160, Own := { Kind := 1, Bits := 5 : Address }, Target := { Kind := 0, Bits := 0 : Address }, Data := [], Scan := [(1 : Int), (5 : Int)], Policy := 0, Accept := [], Identities := [], Seed := 0 : AdvParams } 5000).fst 5000).fst { Kind := 3, Sender := { Kind := 1, Bits := 6 : Address }, Target := { Kind := 1, Bits := 5 : Address }, Data := [], Conn := { Access := 0, Init := 0, Update := { WinSize := 0, WinOffset := 0, Interval := 0, Latency := 0, Timeout := 0 : Update }, Map := 0, Hop := 0, PPM := 0, Algorithm := 0 : ConnParams } : AdvPDU } 38 6300).fst.Params.Identities ≤ (4611686018427 : Nat)) ∧ (Ob (o3 true) ∧ (Ob (o3 true) ∧ (Ob (o2 true) ∧ (Ob (o3 true) ∧ (Ob (o2 true) ∧ (lives21.L (true) v)))))))))))))))))))))))))))))))))))))))))))))))))))))))))))))))))
theorem lives21.nf_ok  (v : Bool) : evFun (mkCxI Tryd.prog S tab_r21SameSends 0 true sum_fIdx) 4 14 [] [] (fun r' H' => Gives r' H' (lives21.res v) (lives21.news v)) = lives21.nf  v := by kernel_rfl
theorem lives21.key  (v : Bool) (hv : v = lives21 ) : lives21.nf  v := by
  unfold lives21 at hv
  unfold lives21.nf
  refine ⟨⟨?_⟩, ?_⟩; rotate_left
  refine ⟨⟨?_⟩, ?_⟩; rotate_left
  refine ⟨⟨?_⟩, ?_⟩; rotate_left
  refine ⟨⟨?_⟩, ?_⟩; rotate_left
  refine ⟨⟨?_⟩, ?_⟩; rotate_left
  refine ⟨⟨o3_ok _⟩, ?_⟩
  refine ⟨⟨o3_ok _⟩, ?_⟩
  refine ⟨⟨?_⟩, ?_⟩; rotate_left
  refine ⟨⟨o3_ok _⟩, ?_⟩
  refine ⟨⟨o3_ok _⟩, ?_⟩
  refine ⟨⟨?_⟩, ?_⟩; rotate_left
  refine ⟨⟨o3_ok _⟩, ?_⟩
  refine ⟨⟨o3_ok _⟩, ?_⟩
  refine ⟨⟨?_⟩, ?_⟩; rotate_left
  refine ⟨⟨o3_ok _⟩, ?_⟩
  refine ⟨⟨?_⟩, ?_⟩; rotate_left
  refine ⟨⟨o3_ok _⟩, ?_⟩
  refine ⟨⟨o3_ok _⟩, ?_⟩
  refine ⟨⟨o3_ok _⟩, ?_⟩
  refine ⟨⟨o2_ok _⟩, ?_⟩
  refine ⟨⟨o3_ok _⟩, ?_⟩
  refine ⟨⟨?_⟩, ?_⟩; rotate_left
  refine ⟨⟨o3_ok _⟩, ?_⟩
  refine ⟨⟨o3_ok _⟩, ?_⟩
  refine ⟨⟨o3_ok _⟩, ?_⟩
  refine ⟨⟨o2_ok _⟩, ?_⟩
  refine ⟨⟨o3_ok _⟩, ?_⟩
  refine ⟨⟨o3_ok _⟩, ?_⟩
  refine ⟨⟨o2_ok _⟩, ?_⟩
  refine ⟨⟨o3_ok _⟩, ?_⟩
  refine ⟨⟨o3_ok _⟩, ?_⟩
  refine ⟨⟨o3_ok _⟩, ?_⟩
  refine ⟨⟨o3_ok _⟩, ?_⟩
  refine ⟨⟨o2_ok _⟩, ?_⟩
  refine ⟨⟨o3_ok _⟩, ?_⟩
  refine ⟨⟨?_⟩, ?_⟩; rotate_left
  refine ⟨⟨o3_ok _⟩, ?_⟩
  refine ⟨⟨o3_ok _⟩, ?_⟩
  refine ⟨⟨o3_ok _⟩, ?_⟩
  refine ⟨⟨o2_ok _⟩, ?_⟩
  refine ⟨⟨o3_ok _⟩, ?_⟩
  refine ⟨⟨?_⟩, ?_⟩; rotate_left
  refine ⟨⟨o3_ok _⟩, ?_⟩
  refine ⟨⟨o3_ok _⟩, ?_⟩
  refine ⟨⟨o3_ok _⟩, ?_⟩
  refine ⟨⟨o2_ok _⟩, ?_⟩
  refine ⟨⟨o3_ok _⟩, ?_⟩
  refine ⟨⟨?_⟩, ?_⟩; rotate_left
  refine ⟨⟨o3_ok _⟩, ?_⟩
  refine ⟨⟨o3_ok _⟩, ?_⟩
  refine ⟨⟨o3_ok _⟩, ?_⟩
  refine ⟨⟨o3_ok _⟩, ?_⟩
  refine ⟨⟨o3_ok _⟩, ?_⟩
  refine ⟨⟨o2_ok _⟩, ?_⟩
  refine ⟨⟨o3_ok _⟩, ?_⟩
  refine ⟨⟨o2_ok _⟩, ?_⟩
  refine ⟨⟨o3_ok _⟩, ?_⟩
  refine ⟨⟨o2_ok _⟩, ?_⟩
  refine ⟨⟨o3_ok _⟩, ?_⟩
  refine ⟨⟨?_⟩, ?_⟩; rotate_left
  refine ⟨⟨o3_ok _⟩, ?_⟩
  refine ⟨⟨o3_ok _⟩, ?_⟩
  refine ⟨⟨o2_ok _⟩, ?_⟩
  refine ⟨⟨o3_ok _⟩, ?_⟩
  refine ⟨⟨o2_ok _⟩, ?_⟩
  subst hv; exact ⟨rfl, rfl⟩
  all_goals ((try clear hv); (try clear q1 q2); (try clear hk); (first | omega | (decide +kernel) | ((try simp only [decide_eq_true_eq, decide_eq_false_iff_not, Bool.not_eq_true, Bool.not_eq_false, Bool.and_eq_true, Bool.or_eq_true, Bool.not_not, cond_and, cond_or, List.length_append, List.length_cons, List.length_nil] at *); (first | done | ((first | omega | (intros; (try simp only [Bool.not_not, cond_and, cond_or, Bool.and_eq_true, decide_eq_true_eq] at *); (refine ⟨?_, pFind_lt _ _⟩; (first | omega | (simp_all; done)))) | (intros; (try simp only [Bool.not_not, cond_and, cond_or, Bool.and_eq_true, decide_eq_true_eq] at *); (refine ⟨?_, r9Find_lt _ _⟩; (first | omega | (simp_all; done)))) | (intros; (try simp only [Bool.not_not, cond_and, cond_or, Bool.and_eq_true, decide_eq_true_eq] at *); (exact ⟨by decide, by simp⟩)) | (intros; (try simp only [Bool.not_not, cond_and, cond_or, Bool.and_eq_true, decide_eq_true_eq] at *); (exact band_nn rfl _ _)) | (intros; (try simp only [Bool.not_not, cond_and, cond_or, Bool.and_eq_true, decide_eq_true_eq] at *); (exact (wu64s _).2.1)) | (intros; (try simp only [Bool.not_not, cond_and, cond_or, Bool.and_eq_true, decide_eq_true_eq] at *); (simp only [Bool.or_eq_false_iff, Bool.and_eq_false_iff, decide_eq_false_iff_not, decide_eq_true_eq, bne_iff_ne, beq_iff_eq, bne_eq_false_iff_eq, beq_eq_false_iff_ne, ne_eq, true_and] at *; omega)) | (intros; (try simp only [Bool.not_not, cond_and, cond_or, Bool.and_eq_true, decide_eq_true_eq] at *); (simp only [List.length_drop, List.length_take, List.length_append, List.length_cons, List.length_nil] at *; omega)) | (intros; omega) | (intros; simp only [Bool.not_not, cond_and, cond_or, Bool.and_eq_true, decide_eq_true_eq] at *; omega) | (intros; simp_all [Bool.not_not]; done)))))))
def lives21.ct : Ct El := ctOf lives21.dec (fun _ => []) (fun x => lives21.res (lives21)) (fun x => lives21.news (lives21))
theorem lives21.ok : CtOk (mkCx Tryd.prog S [] 0) 14 lives21.ct := ct_mk (C := (mkCxI Tryd.prog S tab_r21SameSends 0 true sum_fIdx)) (mkCxI_ok sigOk mixed tab_r21SameSends_ok 0 true sum_fIdx_ok) lives21.dec_ok (fun x => rfl) 4 (fun x _ => (lives21.nf_ok  _).mpr (lives21.key  _ rfl))
def tab_lives21 : List (FuncId × Ct El) := (14, lives21.ct) :: tab_r21SameSends
theorem tab_lives21_ok : TabOk Tryd.prog S tab_lives21 := ⟨lives21.ok, by kernel_rfl, tab_r21SameSends_ok⟩
end Go.Aw.W
