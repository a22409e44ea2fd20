/- Contracts of the seat (printed by ct.py). -/
import Derived.Test.YtppceadhdckpmaaDoorW20
set_option linter.unusedVariables false
set_option linter.unusedSimpArgs false
set_option maxRecDepth 20000
set_option maxHeartbeats 1000000
namespace Go.Aw.W
open Go Go.Aw Go.Proofs
attribute [local irreducible] evCode evFun evOps evDs evOne ctxK loopK loopB subC bodyC headS okH roundK
theorem cloneB_eq (l : List Int) : cloneB l = l := by unfold cloneB; simp
theorem cloneA_eq (l : List Address) : cloneA l = l := by unfold cloneA; simp
theorem cloneI_eq (l : List Identity) : cloneI l = l := by unfold cloneI; simp
theorem advPDU_eq (p : AdvParams) : advPDU p = ⟨p.Kind, p.Own, p.Target, p.Data, ConnParams.zero⟩ := by unfold advPDU; rw [cloneB_eq]
theorem advScan_eq (p : AdvParams) : advScan p = ⟨4, p.Own, Address.zero, p.Scan, ConnParams.zero⟩ := by unfold advScan; rw [cloneB_eq]
theorem advOwn_eq (a : Advertiser) : advOwn a = a := by unfold advOwn; rw [cloneB_eq, cloneB_eq, cloneA_eq, cloneI_eq]
def advCheck.res (r : Int) : AV El := .v (.int .i64 (r))
def advCheck.news (r : Int) : List (AObj El) := []
def advCheck.L (e v : Int) : Prop := advCheck.res e = advCheck.res v ∧ advCheck.news e = advCheck.news v
def advCheck (p : AdvParams) : Int := cond (p.Kind == 0) (cond (bif decide (p.Interval < 32) then true else decide (16384 < p.Interval)) (5) (cond (pCheck (advPDU p) != 0) (pCheck (advPDU p)) (cond (aScan p.Kind) (cond (pCheck (advScan p) != 0) (pCheck (advScan p)) (cond (bif decide (p.Policy < 0) then true else decide (3 < p.Policy)) (5) (cond (bif decide (64 < (↑(List.length p.Accept) : Int)) then true else decide (64 < (↑(List.length p.Identities) : Int))) (4) (0)))) (cond (decide (0 < (↑(List.length p.Scan) : Int))) (1) (cond (bif decide (p.Policy < 0) then true else decide (3 < p.Policy)) (5) (cond (bif decide (64 < (↑(List.length p.Accept) : Int)) then true else decide (64 < (↑(List.length p.Identities) : Int))) (4) (0))))))) (cond (p.Kind == 1) (cond (bif decide (p.Interval < 32) then true else decide (16384 < p.Interval)) (5) (cond (pCheck (advPDU p) != 0) (pCheck (advPDU p)) (cond (aScan p.Kind) (cond (pCheck (advScan p) != 0) (pCheck (advScan p)) (cond (bif decide (p.Policy < 0) then true else decide (3 < p.Policy)) (5) (cond (bif decide (64 < (↑(List.length p.Accept) : Int)) then true else decide (64 < (↑(List.length p.Identities) : Int))) (4) (0)))) (cond (decide (0 < (↑(List.length p.Scan) : Int))) (1) (cond (bif decide (p.Policy < 0) then true else decide (3 < p.Policy)) (5) (cond (bif decide (64 < (↑(List.length p.Accept) : Int)) then true else decide (64 < (↑(List.length p.Identities) : Int))) (4) (0))))))) (cond (p.Kind == 2) (cond (bif decide (p.Interval < 32) then true else decide (16384 < p.Interval)) (5) (cond (pCheck (advPDU p) != 0) (pCheck (advPDU p)) (cond (aScan p.Kind) (cond (pCheck (advScan p) != 0) (pCheck (advScan p)) (cond (bif decide (p.Policy < 0) then true else decide (3 < p.Policy)) (5) (cond (bif decide (64 < (↑(List.length p.Accept) : Int)) then true else decide (64 < (↑(List.length p.Identities) : Int))) (4) (0)))) (cond (decide (0 < (↑(List.length p.Scan) : Int))) (1) (cond (bif decide (p.Policy < 0) then true else decide (3 < p.Policy)) (5) (cond (bif decide (64 < (↑(List.length p.Accept) : Int)) then true else decide (64 < (↑(List.length p.Identities) : Int))) (4) (0))))))) (cond (p.Kind == 6) (cond (bif decide (p.Interval < 32) then true else decide (16384 < p.Interval)) (5) (cond (pCheck (advPDU p) != 0) (pCheck (advPDU p)) (cond (aScan p.Kind) (cond (pCheck (advScan p) != 0) (pCheck (advScan p)) (cond (bif decide (p.Policy < 0) then true else decide (3 < p.Policy)) (5) (cond (bif decide (64 < (↑(List.length p.Accept) : Int)) then true else decide (64 < (↑(List.length p.Identities) : Int))) (4) (0)))) (cond (decide (0 < (↑(List.length p.Scan) : Int))) (1) (cond (bif decide (p.Policy < 0) then true else decide (3 < p.Policy)) (5) (cond (bif decide (64 < (↑(List.length p.Accept) : Int)) then true else decide (64 < (↑(List.length p.Identities) : Int))) (4) (0))))))) (12))))
def advCheck.dec (cs : List (AV El)) : Option (AdvParams) := popA AdvParams.dec cs fun a0 c0 => popE c0 a0
def advCheck.enc (x : AdvParams) : List (AV El) := [AdvParams.av x]
theorem advCheck.dec_ok : ∀ cs x, advCheck.dec cs = some x → Imp (S := S) cs (advCheck.enc x) := by
  intro cs x h
  unfold advCheck.dec at h
  obtain ⟨a0, c0, h0, k0⟩ := popA_some (S := S) AdvParams.dec_ok h
  obtain ⟨rfl, rfl⟩ := popE_some (S := S) h0
  exact (k0 _ (.refl _))
def advCheck.nf (p : AdvParams) (v : Int) : Prop := cond (p.Kind == 0) (Ob (o3 (!decide (p.Interval < 32))) ∧ (Ob (o3 (!decide (p.Interval < 32))) ∧ (Ob (on (decide (p.Interval < 32))) ∧ (cond (bif decide (p.Interval < 32) then true else decide (16384 < p.Interval)) (advCheck.L (5) v) (Ob (List.length p.Data ≤ (140737488355328 : Nat) ∧ List.length p.Scan ≤ (140737488355328 : Nat) ∧ List.length p.Accept ≤ (4611686018427 : Nat) ∧ List.length p.Identities ≤ (4611686018427 : Nat)) ∧ (cond (pCheck (advPDU p) != 0) (advCheck.L (pCheck (advPDU p)) v) (cond (aScan p.Kind) (Ob (List.length p.Data ≤ (140737488355328 : Nat) ∧ List.length p.Scan ≤ (140737488355328 : Nat) ∧ List.length p.Accept ≤ (4611686018427 : Nat) ∧ List.length p.Identities ≤ (4611686018427 : Nat)) ∧ (cond (pCheck (advScan p) != 0) (advCheck.L (pCheck (advScan p)) v) (Ob (o3 (!decide (p.Policy < 0))) ∧ (Ob (o3 (!decide (p.Policy < 0))) ∧ (Ob (on (decide (p.Policy < 0))) ∧ (cond (bif decide (p.Policy < 0) then true else decide (3 < p.Policy)) (advCheck.L (5) v) ((List.length p.Accept ≤ (9223372036854775807 : Nat)) → (Ob (o3 (!decide (64 < (↑(List.length p.Accept) : Int)))) ∧ (Ob (o3 (!decide (64 < (↑(List.length p.Accept) : Int)))) ∧ (Ob (o3 (!decide (64 < (↑(List.length p.Accept) : Int)))) ∧ (Ob (on (decide (64 < (↑(List.length p.Accept) : Int)))) ∧ (cond (bif decide (64 < (↑(List.length p.Accept) : Int)) then true else decide (64 < (↑(List.length p.Identities) : Int))) (advCheck.L (4) v) (advCheck.L (0) v))))))))))))) ((List.length p.Scan ≤ (9223372036854775807 : Nat)) → (cond (decide (0 < (↑(List.length p.Scan) : Int))) (advCheck.L (1) v) (Ob (o3 (!decide (p.Policy < 0))) ∧ (Ob (o3 (!decide (p.Policy < 0))) ∧ (Ob (on (decide (p.Policy < 0))) ∧ (cond (bif decide (p.Policy < 0) then true else decide (3 < p.Policy)) (advCheck.L (5) v) ((List.length p.Accept ≤ (9223372036854775807 : Nat)) → (Ob (o3 (!decide (64 < (↑(List.length p.Accept) : Int)))) ∧ (Ob (o3 (!decide (64 < (↑(List.length p.Accept) : Int)))) ∧ (Ob (o3 (!decide (64 < (↑(List.length p.Accept) : Int)))) ∧ (Ob (on (decide (64 < (↑(List.length p.Accept) : Int)))) ∧ (cond (bif decide (64 < (↑(List.length p.Accept) : Int)) then true else decide (64 < (↑(List.length p.Identities) : Int))) (advCheck.L (4) v) (advCheck.L (0) v)))))))))))))))))))) (cond (p.Kind == 1) (Ob (o3 (!decide (p.Interval < 32))) ∧ (Ob (o3 (!decide (p.Interval < 32))) ∧ (Ob (on (decide (p.Interval < 32))) ∧ (cond (bif decide (p.Interval < 32) then true else decide (16384 < p.Interval)) (advCheck.L (5) v) (Ob (List.length p.Data ≤ (140737488355328 : Nat) ∧ List.length p.Scan ≤ (140737488355328 : Nat) ∧ List.length p.Accept ≤ (4611686018427 : Nat) ∧ List.length p.Identities ≤ (4611686018427 : Nat)) ∧ (cond (pCheck (advPDU p) != 0) (advCheck.L (pCheck (advPDU p)) v) (cond (aScan p.Kind) (Ob (List.length p.Data ≤ (140737488355328 : Nat) ∧ List.length p.Scan ≤ (140737488355328 : Nat) ∧ List.length p.Accept ≤ (4611686018427 : Nat) ∧ List.length p.Identities ≤ (4611686018427 : Nat)) ∧ (cond (pCheck (advScan p) != 0) (advCheck.L (pCheck (advScan p)) v) (Ob (o3 (!decide (p.Policy < 0))) ∧ (Ob (o3 (!decide (p.Policy < 0))) ∧ (Ob (on (decide (p.Policy < 0))) ∧ (cond (bif decide (p.Policy < 0) then true else decide (3 < p.Policy)) (advCheck.L (5) v) ((List.length p.Accept ≤ (9223372036854775807 : Nat)) → (Ob (o3 (!decide (64 < (↑(List.length p.Accept) : Int)))) ∧ (Ob (o3 (!decide (64 < (↑(List.length p.Accept) : Int)))) ∧ (Ob (o3 (!decide (64 < (↑(List.length p.Accept) : Int)))) ∧ (Ob (on (decide (64 < (↑(List.length p.Accept) : Int)))) ∧ (cond (bif decide (64 < (↑(List.length p.Accept) : Int)) then true else decide (64 < (↑(List.length p.Identities) : Int))) (advCheck.L (4) v) (advCheck.L (0) v))))))))))))) ((List.length p.Scan ≤ (9223372036854775807 : Nat)) → (cond (decide (0 < (↑(List.length p.Scan) : Int))) (advCheck.L (1) v) (Ob (o3 (!decide (p.Policy < 0))) ∧ (Ob (o3 (!decide (p.Policy < 0))) ∧ (Ob (on (decide (p.Policy < 0))) ∧ (cond (bif decide (p.Policy < 0) then true else decide (3 < p.Policy)) (advCheck.L (5) v) ((List.length p.Accept ≤ (9223372036854775807 : Nat)) → (Ob (o3 (!decide (64 < (↑(List.length p.Accept) : Int)))) ∧ (Ob (o3 (!decide (64 < (↑(List.length p.Accept) : Int)))) ∧ (Ob (o3 (!decide (64 < (↑(List.length p.Accept) : Int)))) ∧ (Ob (on (decide (64 < (↑(List.length p.Accept) : Int)))) ∧ (cond (bif decide (64 < (↑(List.length p.Accept) : Int)) then true else decide (64 < (↑(List.length p.Identities) : Int))) (advCheck.L (4) v) (advCheck.L (0) v)))))))))))))))))))) (cond (p.Kind == 2) (Ob (o3 (!decide (p.Interval < 32))) ∧ (Ob (o3 (!decide (p.Interval < 32))) ∧ (Ob (on (decide (p.Interval < 32))) ∧ (cond (bif decide (p.Interval < 32) then true else decide (16384 < p.Interval)) (advCheck.L (5) v) (Ob (List.length p.Data ≤ (140737488355328 : Nat) ∧ List.length p.Scan ≤ (140737488355328 : Nat) ∧ List.length p.Accept ≤ (4611686018427 : Nat) ∧ List.length p.Identities ≤ (4611686018427 : Nat)) ∧ (cond (pCheck (advPDU p) != 0) (advCheck.L (pCheck (advPDU p)) v) (cond (aScan p.Kind) (Ob (List.length p.Data ≤ (140737488355328 : Nat) ∧ List.length p.Scan ≤ (140737488355328 : Nat) ∧ List.length p.Accept ≤ (4611686018427 : Nat) ∧ List.length p.Identities ≤ (4611686018427 : Nat)) ∧ (cond (pCheck (advScan p) != 0) (advCheck.L (pCheck (advScan p)) v) (Ob (o3 (!decide (p.Policy < 0))) ∧ (Ob (o3 (!decide (p.Policy < 0))) ∧ (Ob (on (decide (p.Policy < 0))) ∧ (cond (bif decide (p.Policy < 0) then true else decide (3 < p.Policy)) (advCheck.L (5) v) ((List.length p.Accept ≤ (9223372036854775807 : Nat)) → (Ob (o3 (!decide (64 < (↑(List.length p.Accept) : Int)))) ∧ (Ob (o3 (!decide (64 < (↑(List.length p.Accept) : Int)))) ∧ (Ob (o3 (!decide (64 < (↑(List.length p.Accept) : Int)))) ∧ (Ob (on (decide (64 < (↑(List.length p.Accept) : Int)))) ∧ (cond (bif decide (64 < (↑(List.length p.Accept) : Int)) then true else decide (64 < (↑(List.length p.Identities) : Int))) (advCheck.L (4) v) (advCheck.L (0) v))))))))))))) ((List.length p.Scan ≤ (9223372036854775807 : Nat)) → (cond (decide (0 < (↑(List.length p.Scan) : Int))) (advCheck.L (1) v) (Ob (o3 (!decide (p.Policy < 0))) ∧ (Ob (o3 (!decide (p.Policy < 0))) ∧ (Ob (on (decide (p.Policy < 0))) ∧ (cond (bif decide (p.Policy < 0) then true else decide (3 < p.Policy)) (advCheck.L (5) v) ((List.length p.Accept ≤ (9223372036854775807 : Nat)) → (Ob (o3 (!decide (64 < (↑(List.length p.Accept) : Int)))) ∧ (Ob (o3 (!decide (64 < (↑(List.length p.Accept) : Int)))) ∧ (Ob (o3 (!decide (64 < (↑(List.length p.Accept) : Int)))) ∧ (Ob (on (decide (64 < (↑(List.length p.Accept) : Int)))) ∧ (cond (bif decide (64 < (↑(List.length p.Accept) : Int)) then true else decide (64 < (↑(List.length p.Identities) : Int))) (advCheck.L (4) v) (advCheck.L (0) v)))))))))))))))))))) (cond (p.Kind == 6) (Ob (o3 (!decide (p.Interval < 32))) ∧ (Ob (o3 (!decide (p.Interval < 32))) ∧ (Ob (on (decide (p.Interval < 32))) ∧ (cond (bif decide (p.Interval < 32) then true else decide (16384 < p.Interval)) (advCheck.L (5) v) (Ob (List.length p.Data ≤ (140737488355328 : Nat) ∧ List.length p.Scan ≤ (140737488355328 : Nat) ∧ List.length p.Accept ≤ (4611686018427 : Nat) ∧ List.length p.Identities ≤ (4611686018427 : Nat)) ∧ (cond (pCheck (advPDU p) != 0) (advCheck.L (pCheck (advPDU p)) v) (cond (aScan p.Kind) (Ob (List.length p.Data ≤ (140737488355328 : Nat) ∧ List.length p.Scan ≤ (140737488355328 : Nat) ∧ List.length p.Accept ≤ (4611686018427 : Nat) ∧ List.length p.Identities ≤ (4611686018427 : Nat)) ∧ (cond (pCheck (advScan p) != 0) (advCheck.L (pCheck (advScan p)) v) (Ob (o3 (!decide (p.Policy < 0))) ∧ (Ob (o3 (!decide (p.Policy < 0))) ∧ (Ob (on (decide (p.Policy < 0))) ∧ (cond (bif decide (p.Policy < 0) then true else decide (3 < p.Policy)) (advCheck.L (5) v) ((List.length p.Accept ≤ (9223372036854775807 : Nat)) → (Ob (o3 (!decide (64 < (↑(List.length p.Accept) : Int)))) ∧ (Ob (o3 (!decide (64 < (↑(List.length p.Accept) : Int)))) ∧ (Ob (o3 (!decide (64 < (↑(List.length p.Accept) : Int)))) ∧ (Ob (on (decide (64 < (↑(List.length p.Accept) : Int)))) ∧ (cond (bif decide (64 < (↑(List.length p.Accept) : Int)) then true else decide (64 < (↑(List.length p.Identities) : Int))) (advCheck.L (4) v) (advCheck.L (0) v))))))))))))) ((List.length p.Scan ≤ (9223372036854775807 : Nat)) → (cond (decide (0 < (↑(List.length p.Scan) : Int))) (advCheck.L (1) v) (Ob (o3 (!decide (p.Policy < 0))) ∧ (Ob (o3 (!decide (p.Policy < 0))) ∧ (Ob (on (decide (p.Policy < 0))) ∧ (cond (bif decide (p.Policy < 0) then true else decide (3 < p.Policy)) (advCheck.L (5) v) ((List.length p.Accept ≤ (9223372036854775807 : Nat)) → (Ob (o3 (!decide (64 < (↑(List.length p.Accept) : Int)))) ∧ (Ob (o3 (!decide (64 < (↑(List.length p.Accept) : Int)))) ∧ (Ob (o3 (!decide (64 < (↑(List.length p.Accept) : Int)))) ∧ (Ob (on (decide (64 < (↑(List.length p.Accept) : Int)))) ∧ (cond (bif decide (64 < (↑(List.length p.Accept) : Int)) then true else decide (64 < (↑(List.length p.Identities) : Int))) (advCheck.L (4) v) (advCheck.L (0) v)))))))))))))))))))) (advCheck.L (12) v))))
theorem advCheck.nf_ok (p : AdvParams) (v : Int) : evFun (mkCxI Tryd.prog S tab_r21Delay 0 false sum_fIdx) 4 49 [AdvParams.av p] [] (fun r' H' => Gives r' H' (advCheck.res v) (advCheck.news v)) = advCheck.nf p v := by kernel_rfl
theorem advCheck.key (p : AdvParams) (hp : p.Data.length ≤ 140737488355328 ∧ p.Scan.length ≤ 140737488355328 ∧ p.Accept.length ≤ 4611686018427 ∧ p.Identities.length ≤ 4611686018427) (v : Int) (hv : v = advCheck p) : advCheck.nf p v := by
  unfold advCheck at hv
  unfold advCheck.nf
  revert hv; refine by_cond2 (fun hb hv => ?_) (fun hb hv => ?_)
  refine ⟨⟨o3_ok _⟩, ?_⟩
  refine ⟨⟨o3_ok _⟩, ?_⟩
  refine ⟨⟨on_ok _⟩, ?_⟩
  revert hv; refine by_cond2 (fun hb hv => ?_) (fun hb hv => ?_)
  subst hv; exact ⟨rfl, rfl⟩
  refine ⟨⟨?_⟩, ?_⟩; rotate_left
  revert hv; refine by_cond2 (fun hb hv => ?_) (fun hb hv => ?_)
  subst hv; exact ⟨rfl, rfl⟩
  revert hv; refine by_cond2 (fun hb hv => ?_) (fun hb hv => ?_)
  refine ⟨⟨?_⟩, ?_⟩; rotate_left
  revert hv; refine by_cond2 (fun hb hv => ?_) (fun hb hv => ?_)
  subst hv; exact ⟨rfl, rfl⟩
  refine ⟨⟨o3_ok _⟩, ?_⟩
  refine ⟨⟨o3_ok _⟩, ?_⟩
  refine ⟨⟨on_ok _⟩, ?_⟩
  revert hv; refine by_cond2 (fun hb hv => ?_) (fun hb hv => ?_)
  subst hv; exact ⟨rfl, rfl⟩
  intro hlen
  refine ⟨⟨o3_ok _⟩, ?_⟩
  refine ⟨⟨o3_ok _⟩, ?_⟩
  refine ⟨⟨o3_ok _⟩, ?_⟩
  refine ⟨⟨on_ok _⟩, ?_⟩
  revert hv; refine by_cond2 (fun hb hv => ?_) (fun hb hv => ?_)
  subst hv; exact ⟨rfl, rfl⟩
  subst hv; exact ⟨rfl, rfl⟩
  intro hlen
  revert hv; refine by_cond2 (fun hb hv => ?_) (fun hb hv => ?_)
  subst hv; exact ⟨rfl, rfl⟩
  refine ⟨⟨o3_ok _⟩, ?_⟩
  refine ⟨⟨o3_ok _⟩, ?_⟩
  refine ⟨⟨on_ok _⟩, ?_⟩
  revert hv; refine by_cond2 (fun hb hv => ?_) (fun hb hv => ?_)
  subst hv; exact ⟨rfl, rfl⟩
  intro hlen
  refine ⟨⟨o3_ok _⟩, ?_⟩
  refine ⟨⟨o3_ok _⟩, ?_⟩
  refine ⟨⟨o3_ok _⟩, ?_⟩
  refine ⟨⟨on_ok _⟩, ?_⟩
  revert hv; refine by_cond2 (fun hb hv => ?_) (fun hb hv => ?_)
  subst hv; exact ⟨rfl, rfl⟩
  subst hv; exact ⟨rfl, rfl⟩
  revert hv; refine by_cond2 (fun hb hv => ?_) (fun hb hv => ?_)
  refine ⟨⟨o3_ok _⟩, ?_⟩
  refine ⟨⟨o3_ok _⟩, ?_⟩
  refine ⟨⟨on_ok _⟩, ?_⟩
  revert hv; refine by_cond2 (fun hb hv => ?_) (fun hb hv => ?_)
  subst hv; exact ⟨rfl, rfl⟩
  refine ⟨⟨?_⟩, ?_⟩; rotate_left
  revert hv; refine by_cond2 (fun hb hv => ?_) (fun hb hv => ?_)
  subst hv; exact ⟨rfl, rfl⟩
  revert hv; refine by_cond2 (fun hb hv => ?_) (fun hb hv => ?_)
  refine ⟨⟨?_⟩, ?_⟩; rotate_left
  revert hv; refine by_cond2 (fun hb hv => ?_) (fun hb hv => ?_)
  subst hv; exact ⟨rfl, rfl⟩
  refine ⟨⟨o3_ok _⟩, ?_⟩
  refine ⟨⟨o3_ok _⟩, ?_⟩
  refine ⟨⟨on_ok _⟩, ?_⟩
  revert hv; refine by_cond2 (fun hb hv => ?_) (fun hb hv => ?_)
  subst hv; exact ⟨rfl, rfl⟩
  intro hlen
  refine ⟨⟨o3_ok _⟩, ?_⟩
  refine ⟨⟨o3_ok _⟩, ?_⟩
  refine ⟨⟨o3_ok _⟩, ?_⟩
  refine ⟨⟨on_ok _⟩, ?_⟩
  revert hv; refine by_cond2 (fun hb hv => ?_) (fun hb hv => ?_)
  subst hv; exact ⟨rfl, rfl⟩
  subst hv; exact ⟨rfl, rfl⟩
  intro hlen
  revert hv; refine by_cond2 (fun hb hv => ?_) (fun hb hv => ?_)
  subst hv; exact ⟨rfl, rfl⟩
  refine ⟨⟨o3_ok _⟩, ?_⟩
  refine ⟨⟨o3_ok _⟩, ?_⟩
  refine ⟨⟨on_ok _⟩, ?_⟩
  revert hv; refine by_cond2 (fun hb hv => ?_) (fun hb hv => ?_)
  subst hv; exact ⟨rfl, rfl⟩
  intro hlen
  refine ⟨⟨o3_ok _⟩, ?_⟩
  refine ⟨⟨o3_ok _⟩, ?_⟩
  refine ⟨⟨o3_ok _⟩, ?_⟩
  refine ⟨⟨on_ok _⟩, ?_⟩
  revert hv; refine by_cond2 (fun hb hv => ?_) (fun hb hv => ?_)
  subst hv; exact ⟨rfl, rfl⟩
  subst hv; exact ⟨rfl, rfl⟩
  revert hv; refine by_cond2 (fun hb hv => ?_) (fun hb hv => ?_)
  refine ⟨⟨o3_ok _⟩, ?_⟩
  refine ⟨⟨o3_ok _⟩, ?_⟩
  refine ⟨⟨on_ok _⟩, ?_⟩
  revert hv; refine by_cond2 (fun hb hv => ?_) (fun hb hv => ?_)
  subst hv; exact ⟨rfl, rfl⟩
  refine ⟨⟨?_⟩, ?_⟩; rotate_left
  revert hv; refine by_cond2 (fun hb hv => ?_) (fun hb hv => ?_)
  subst hv; exact ⟨rfl, rfl⟩
  revert hv; refine by_cond2 (fun hb hv => ?_) (fun hb hv => ?_)
  refine ⟨⟨?_⟩, ?_⟩; rotate_left
  revert hv; refine by_cond2 (fun hb hv => ?_) (fun hb hv => ?_)
  subst hv; exact ⟨rfl, rfl⟩
  refine ⟨⟨o3_ok _⟩, ?_⟩
  refine ⟨⟨o3_ok _⟩, ?_⟩
  refine ⟨⟨on_ok _⟩, ?_⟩
  revert hv; refine by_cond2 (fun hb hv => ?_) (fun hb hv => ?_)
  subst hv; exact ⟨rfl, rfl⟩
  intro hlen
  refine ⟨⟨o3_ok _⟩, ?_⟩
  refine ⟨⟨o3_ok _⟩, ?_⟩
  refine ⟨⟨o3_ok _⟩, ?_⟩
  refine ⟨⟨on_ok _⟩, ?_⟩
  revert hv; refine by_cond2 (fun hb hv => ?_) (fun hb hv => ?_)
  subst hv; exact ⟨rfl, rfl⟩
  subst hv; exact ⟨rfl, rfl⟩
  intro hlen
  revert hv; refine by_cond2 (fun hb hv => ?_) (fun hb hv => ?_)
  subst hv; exact ⟨rfl, rfl⟩
  refine ⟨⟨o3_ok _⟩, ?_⟩
  refine ⟨⟨o3_ok _⟩, ?_⟩
  refine ⟨⟨on_ok _⟩, ?_⟩
  revert hv; refine by_cond2 (fun hb hv => ?_) (fun hb hv => ?_)
  subst hv; exact ⟨rfl, rfl⟩
  intro hlen
  refine ⟨⟨o3_ok _⟩, ?_⟩
  refine ⟨⟨o3_ok _⟩, ?_⟩
  refine ⟨⟨o3_ok _⟩, ?_⟩
  refine ⟨⟨on_ok _⟩, ?_⟩
  revert hv; refine by_cond2 (fun hb hv => ?_) (fun hb hv => ?_)
  subst hv; exact ⟨rfl, rfl⟩
  subst hv; exact ⟨rfl, rfl⟩
  revert hv; refine by_cond2 (fun hb hv => ?_) (fun hb hv => ?_)
  refine ⟨⟨o3_ok _⟩, ?_⟩
  refine ⟨⟨o3_ok _⟩, ?_⟩
  refine ⟨⟨on_ok _⟩, ?_⟩
  revert hv; refine by_cond2 (fun hb hv => ?_) (fun hb hv => ?_)
  subst hv; exact ⟨rfl, rfl⟩
  refine ⟨⟨?_⟩, ?_⟩; rotate_left
  revert hv; refine by_cond2 (fun hb hv => ?_) (fun hb hv => ?_)
  subst hv; exact ⟨rfl, rfl⟩
  revert hv; refine by_cond2 (fun hb hv => ?_) (fun hb hv => ?_)
  refine ⟨⟨?_⟩, ?_⟩; rotate_left
  revert hv; refine by_cond2 (fun hb hv => ?_) (fun hb hv => ?_)
  subst hv; exact ⟨rfl, rfl⟩
  refine ⟨⟨o3_ok _⟩, ?_⟩
  refine ⟨⟨o3_ok _⟩, ?_⟩
  refine ⟨⟨on_ok _⟩, ?_⟩
  revert hv; refine by_cond2 (fun hb hv => ?_) (fun hb hv => ?_)
  subst hv; exact ⟨rfl, rfl⟩
  intro hlen
  refine ⟨⟨o3_ok _⟩, ?_⟩
  refine ⟨⟨o3_ok _⟩, ?_⟩
  refine ⟨⟨o3_ok _⟩, ?_⟩
  refine ⟨⟨on_ok _⟩, ?_⟩
  revert hv; refine by_cond2 (fun hb hv => ?_) (fun hb hv => ?_)
  subst hv; exact ⟨rfl, rfl⟩
  subst hv; exact ⟨rfl, rfl⟩
  intro hlen
  revert hv; refine by_cond2 (fun hb hv => ?_) (fun hb hv => ?_)
  subst hv; exact ⟨rfl, rfl⟩
  refine ⟨⟨o3_ok _⟩, ?_⟩
  refine ⟨⟨o3_ok _⟩, ?_⟩
  refine ⟨⟨on_ok _⟩, ?_⟩
  revert hv; refine by_cond2 (fun hb hv => ?_) (fun hb hv => ?_)
  subst hv; exact ⟨rfl, rfl⟩
  intro hlen
  refine ⟨⟨o3_ok _⟩, ?_⟩
  refine ⟨⟨o3_ok _⟩, ?_⟩
  refine ⟨⟨o3_ok _⟩, ?_⟩
  refine ⟨⟨on_ok _⟩, ?_⟩
  revert hv; refine by_cond2 (fun hb hv => ?_) (fun hb hv => ?_)
  subst hv; exact ⟨rfl, rfl⟩
  subst hv; exact ⟨rfl, rfl⟩
  subst hv; exact ⟨rfl, rfl⟩
  all_goals ((try clear hv); (try clear q1 q2); (try clear hk); (first | omega | ((try simp only [decide_eq_true_eq, decide_eq_false_iff_not, Bool.not_eq_true, Bool.not_eq_false, Bool.and_eq_true, Bool.or_eq_true, Bool.not_not, cond_and, cond_or, List.length_append, List.length_cons, List.length_nil] at *); (first | done | ((first | omega | (intros; (try simp only [Bool.not_not, cond_and, cond_or, Bool.and_eq_true, decide_eq_true_eq] at *); (exact ⟨by decide, by simp⟩)) | (intros; (try simp only [Bool.not_not, cond_and, cond_or, Bool.and_eq_true, decide_eq_true_eq] at *); (exact band_nn rfl _ _)) | (intros; (try simp only [Bool.not_not, cond_and, cond_or, Bool.and_eq_true, decide_eq_true_eq] at *); (exact (wu64s _).2.1)) | (intros; (try simp only [Bool.not_not, cond_and, cond_or, Bool.and_eq_true, decide_eq_true_eq] at *); (simp only [Bool.or_eq_false_iff, Bool.and_eq_false_iff, decide_eq_false_iff_not, decide_eq_true_eq, bne_iff_ne, beq_iff_eq, bne_eq_false_iff_eq, beq_eq_false_iff_ne, ne_eq, true_and] at *; omega)) | (intros; (try simp only [Bool.not_not, cond_and, cond_or, Bool.and_eq_true, decide_eq_true_eq] at *); (simp only [List.length_drop, List.length_take, List.length_append, List.length_cons, List.length_nil] at *; omega)) | (intros; omega) | (intros; simp only [Bool.not_not, cond_and, cond_or, Bool.and_eq_true, decide_eq_true_eq] at *; omega) | (intros; simp_all [Bool.not_not]; done)))))))
def advCheck.ct : Ct El := ctOf advCheck.dec (fun x => [x.Data.length ≤ 140737488355328 ∧ x.Scan.length ≤ 140737488355328 ∧ x.Accept.length ≤ 4611686018427 ∧ x.Identities.length ≤ 4611686018427]) (fun x => advCheck.res (advCheck x)) (fun x => advCheck.news (advCheck x))
theorem advCheck.ok : CtOk (mkCx Tryd.prog S [] 0) 49 advCheck.ct := ct_mk (C := (mkCxI Tryd.prog S tab_r21Delay 0 false sum_fIdx)) (mkCxI_ok sigOk mixed tab_r21Delay_ok 0 false sum_fIdx_ok) advCheck.dec_ok (fun x => rfl) 4 (fun x hp => (advCheck.nf_ok x _).mpr (advCheck.key x (hp _ (List.mem_singleton.2 rfl)) _ rfl))
def tab_advCheck : List (FuncId × Ct El) := (49, advCheck.ct) :: tab_r21Delay
theorem tab_advCheck_ok : TabOk Tryd.prog S tab_advCheck := ⟨advCheck.ok, by kernel_rfl, tab_r21Delay_ok⟩
def r21Start.res (r : Advertiser × Int) : AV El := .tup [Advertiser.av (r.1), .v (.int .i64 (r.2))]
def r21Start.news (r : Advertiser × Int) : List (AObj El) := []
def r21Start.L (e v : Advertiser × Int) : Prop := r21Start.res e = r21Start.res v ∧ r21Start.news e = r21Start.news v
def r21Start (p : AdvParams) (p1 : Int) : Advertiser × Int := cond (bif bif bif p.Kind != 0 then p.Kind != 1 else false then p.Kind != 2 else false then p.Kind != 6 else false) (((⟨⟨(0), (0), ⟨(0), (0)⟩, ⟨(0), (0)⟩, ([]), ([]), (0), ([]), ([]), (0)⟩, (false), (0), (0)⟩ : Advertiser), 12)) (cond (bif decide (p.Interval < 32) then true else decide (16384 < p.Interval)) (((⟨⟨(0), (0), ⟨(0), (0)⟩, ⟨(0), (0)⟩, ([]), ([]), (0), ([]), ([]), (0)⟩, (false), (0), (0)⟩ : Advertiser), 5)) (cond (r19Check (r21PDU p) != 0) (((⟨⟨(0), (0), ⟨(0), (0)⟩, ⟨(0), (0)⟩, ([]), ([]), (0), ([]), ([]), (0)⟩, (false), (0), (0)⟩ : Advertiser), r19Check (r21PDU p))) (cond (r19Scan p.Kind) (cond (r19Check (r21Scan p) != 0) (((⟨⟨(0), (0), ⟨(0), (0)⟩, ⟨(0), (0)⟩, ([]), ([]), (0), ([]), ([]), (0)⟩, (false), (0), (0)⟩ : Advertiser), r19Check (r21Scan p))) (cond (bif decide (p.Policy < 0) then true else decide (3 < p.Policy)) (((⟨⟨(0), (0), ⟨(0), (0)⟩, ⟨(0), (0)⟩, ([]), ([]), (0), ([]), ([]), (0)⟩, (false), (0), (0)⟩ : Advertiser), 5)) (cond (bif decide (64 < (↑(List.length p.Accept) : Int)) then true else decide (64 < (↑(List.length p.Identities) : Int))) (((⟨⟨(0), (0), ⟨(0), (0)⟩, ⟨(0), (0)⟩, ([]), ([]), (0), ([]), ([]), (0)⟩, (false), (0), (0)⟩ : Advertiser), 4)) (((⟨⟨(p.Kind), (p.Interval), ⟨(p.Own.Kind), (p.Own.Bits)⟩, ⟨(p.Target.Kind), (p.Target.Bits)⟩, (p.Data), (p.Scan), (p.Policy), (p.Accept), (p.Identities), (p.Seed)⟩, (true), (0), (r21Place p1)⟩ : Advertiser), 0))))) (cond (decide (0 < (↑(List.length p.Scan) : Int))) (((⟨⟨(0), (0), ⟨(0), (0)⟩, ⟨(0), (0)⟩, ([]), ([]), (0), ([]), ([]), (0)⟩, (false), (0), (0)⟩ : Advertiser), 1)) (cond (bif decide (p.Policy < 0) then true else decide (3 < p.Policy)) (((⟨⟨(0), (0), ⟨(0), (0)⟩, ⟨(0), (0)⟩, ([]), ([]), (0), ([]), ([]), (0)⟩, (false), (0), (0)⟩ : Advertiser), 5)) (cond (bif decide (64 < (↑(List.length p.Accept) : Int)) then true else decide (64 < (↑(List.length p.Identities) : Int))) (((⟨⟨(0), (0), ⟨(0), (0)⟩, ⟨(0), (0)⟩, ([]), ([]), (0), ([]), ([]), (0)⟩, (false), (0), (0)⟩ : Advertiser), 4)) (((⟨⟨(p.Kind), (p.Interval), ⟨(p.Own.Kind), (p.Own.Bits)⟩, ⟨(p.Target.Kind), (p.Target.Bits)⟩, (p.Data), (p.Scan), (p.Policy), (p.Accept), (p.Identities), (p.Seed)⟩, (true), (0), (r21Place p1)⟩ : Advertiser), 0))))))))
def r21Start.dec (cs : List (AV El)) : Option (AdvParams × Int) := popA AdvParams.dec cs fun a0 c0 => popI .i64 c0 fun a1 c1 => popE c1 (a0, a1)
def r21Start.enc (x : AdvParams × Int) : List (AV El) := [AdvParams.av x.1, .v (.int .i64 x.2)]
theorem r21Start.dec_ok : ∀ cs x, r21Start.dec cs = some x → Imp (S := S) cs (r21Start.enc x) := by
  intro cs x h
  unfold r21Start.dec at h
  obtain ⟨a0, c0, h0, k0⟩ := popA_some (S := S) AdvParams.dec_ok h
  obtain ⟨a1, c1, rfl, h1⟩ := popI_some (S := S) h0
  obtain ⟨rfl, rfl⟩ := popE_some (S := S) h1
  exact (k0 _ (.cons (.refl _)))
def r21Start.nf (p : AdvParams) (p1 : Int) (v : Advertiser × Int) : Prop := Ob (o3 (p.Kind != 0)) ∧ (Ob (o3 (p.Kind != 0)) ∧ (Ob (o2 (p.Kind != 0)) ∧ (Ob (o3 (bif p.Kind != 0 then p.Kind != 1 else false)) ∧ (Ob (o3 (bif p.Kind != 0 then p.Kind != 1 else false)) ∧ (Ob (o2 (bif p.Kind != 0 then p.Kind != 1 else false)) ∧ (Ob (o3 (bif bif p.Kind != 0 then p.Kind != 1 else false then p.Kind != 2 else false)) ∧ (Ob (o3 (bif bif p.Kind != 0 then p.Kind != 1 else false then p.Kind != 2 else false)) ∧ (Ob (o2 (bif bif p.Kind != 0 then p.Kind != 1 else false then p.Kind != 2 else false)) ∧ (cond (bif bif bif p.Kind != 0 then p.Kind != 1 else false then p.Kind != 2 else false then p.Kind != 6 else false) (r21Start.L (((⟨⟨(0), (0), ⟨(0), (0)⟩, ⟨(0), (0)⟩, ([]), ([]), (0), ([]), ([]), (0)⟩, (false), (0), (0)⟩ : Advertiser), 12)) v) (Ob (o3 (!decide (p.Interval < 32))) ∧ (Ob (o3 (!decide (p.Interval < 32))) ∧ (Ob (on (decide (p.Interval < 32))) ∧ (cond (bif decide (p.Interval < 32) then true else decide (16384 < p.Interval)) (r21Start.L (((⟨⟨(0), (0), ⟨(0), (0)⟩, ⟨(0), (0)⟩, ([]), ([]), (0), ([]), ([]), (0)⟩, (false), (0), (0)⟩ : Advertiser), 5)) v) (Ob (List.length p.Data ≤ (140737488355328 : Nat) ∧ List.length p.Scan ≤ (140737488355328 : Nat) ∧ List.length p.Accept ≤ (4611686018427 : Nat) ∧ List.length p.Identities ≤ (4611686018427 : Nat)) ∧ (cond (r19Check (r21PDU p) != 0) (r21Start.L (((⟨⟨(0), (0), ⟨(0), (0)⟩, ⟨(0), (0)⟩, ([]), ([]), (0), ([]), ([]), (0)⟩, (false), (0), (0)⟩ : Advertiser), r19Check (r21PDU p))) v) (cond (r19Scan p.Kind) (Ob (List.length p.Data ≤ (140737488355328 : Nat) ∧ List.length p.Scan ≤ (140737488355328 : Nat) ∧ List.length p.Accept ≤ (4611686018427 : Nat) ∧ List.length p.Identities ≤ (4611686018427 : Nat)) ∧ (cond (r19Check (r21Scan p) != 0) (r21Start.L (((⟨⟨(0), (0), ⟨(0), (0)⟩, ⟨(0), (0)⟩, ([]), ([]), (0), ([]), ([]), (0)⟩, (false), (0), (0)⟩ : Advertiser), r19Check (r21Scan p))) v) (Ob (o3 (!decide (p.Policy < 0))) ∧ (Ob (o3 (!decide (p.Policy < 0))) ∧ (Ob (on (decide (p.Policy < 0))) ∧ (cond (bif decide (p.Policy < 0) then true else decide (3 < p.Policy)) (r21Start.L (((⟨⟨(0), (0), ⟨(0), (0)⟩, ⟨(0), (0)⟩, ([]), ([]), (0), ([]), ([]), (0)⟩, (false), (0), (0)⟩ : Advertiser), 5)) v) ((List.length p.Accept ≤ (9223372036854775807 : Nat)) → (Ob (o3 (!decide (64 < (↑(List.length p.Accept) : Int)))) ∧ (Ob (o3 (!decide (64 < (↑(List.length p.Accept) : Int)))) ∧ (Ob (o3 (!decide (64 < (↑(List.length p.Accept) : Int)))) ∧ (Ob (on (decide (64 < (↑(List.length p.Accept) : Int)))) ∧ (cond (bif decide (64 < (↑(List.length p.Accept) : Int)) then true else decide (64 < (↑(List.length p.Identities) : Int))) (r21Start.L (((⟨⟨(0), (0), ⟨(0), (0)⟩, ⟨(0), (0)⟩, ([]), ([]), (0), ([]), ([]), (0)⟩, (false), (0), (0)⟩ : Advertiser), 4)) v) (r21Start.L (((⟨⟨(p.Kind), (p.Interval), ⟨(p.Own.Kind), (p.Own.Bits)⟩, ⟨(p.Target.Kind), (p.Target.Bits)⟩, (p.Data), (p.Scan), (p.Policy), (p.Accept), (p.Identities), (p.Seed)⟩, (true), (0), (r21Place p1)⟩ : Advertiser), 0)) v))))))))))))) ((List.length p.Scan ≤ (9223372036854775807 : Nat)) → (cond (decide (0 < (↑(List.length p.Scan) : Int))) (r21Start.L (((⟨⟨(0), (0), ⟨(0), (0)⟩, ⟨(0), (0)⟩, ([]), ([]), (0), ([]), ([]), (0)⟩, (false), (0), (0)⟩ : Advertiser), 1)) v) (Ob (o3 (!decide (p.Policy < 0))) ∧ (Ob (o3 (!decide (p.Policy < 0))) ∧ (Ob (on (decide (p.Policy < 0))) ∧ (cond (bif decide (p.Policy < 0) then true else decide (3 < p.Policy)) (r21Start.L (((⟨⟨(0), (0), ⟨(0), (0)⟩, ⟨(0), (0)⟩, ([]), ([]), (0), ([]), ([]), (0)⟩, (false), (0), (0)⟩ : Advertiser), 5)) v) ((List.length p.Accept ≤ (9223372036854775807 : Nat)) → (Ob (o3 (!decide (64 < (↑(List.length p.Accept) : Int)))) ∧ (Ob (o3 (!decide (64 < (↑(List.length p.Accept) : Int)))) ∧ (Ob (o3 (!decide (64 < (↑(List.length p.Accept) : Int)))) ∧ (Ob (on (decide (64 < (↑(List.length p.Accept) : Int)))) ∧ (cond (bif decide (64 < (↑(List.length p.Accept) : Int)) then true else decide (64 < (↑(List.length p.Identities) : Int))) (r21Start.L (((⟨⟨(0), (0), ⟨(0), (0)⟩, ⟨(0), (0)⟩, ([]), ([]), (0), ([]), ([]), (0)⟩, (false), (0), (0)⟩ : Advertiser), 4)) v) (r21Start.L (((⟨⟨(p.Kind), (p.Interval), ⟨(p.Own.Kind), (p.Own.Bits)⟩, ⟨(p.Target.Kind), (p.Target.Bits)⟩, (p.Data), (p.Scan), (p.Policy), (p.Accept), (p.Identities), (p.Seed)⟩, (true), (0), (r21Place p1)⟩ : Advertiser), 0)) v)))))))))))))))))))))))))))))
theorem r21Start.nf_ok (p : AdvParams) (p1 : Int) (v : Advertiser × Int) : evFun (mkCxI Tryd.prog S tab_r21Delay 0 false sum_fIdx) 4 18 [AdvParams.av p, .v (.int .i64 p1)] [] (fun r' H' => Gives r' H' (r21Start.res v) (r21Start.news v)) = r21Start.nf p p1 v := by kernel_rfl
theorem r21Start.key (p : AdvParams) (p1 : Int) (hp : p.Data.length ≤ 140737488355328 ∧ p.Scan.length ≤ 140737488355328 ∧ p.Accept.length ≤ 4611686018427 ∧ p.Identities.length ≤ 4611686018427) (v : Advertiser × Int) (hv : v = r21Start p p1) : r21Start.nf p p1 v := by
  unfold r21Start at hv
  unfold r21Start.nf
  refine ⟨⟨o3_ok _⟩, ?_⟩
  refine ⟨⟨o3_ok _⟩, ?_⟩
  refine ⟨⟨o2_ok _⟩, ?_⟩
  refine ⟨⟨o3_ok _⟩, ?_⟩
  refine ⟨⟨o3_ok _⟩, ?_⟩
  refine ⟨⟨o2_ok _⟩, ?_⟩
  refine ⟨⟨o3_ok _⟩, ?_⟩
  refine ⟨⟨o3_ok _⟩, ?_⟩
  refine ⟨⟨o2_ok _⟩, ?_⟩
  revert hv; refine by_cond2 (fun hb hv => ?_) (fun hb hv => ?_)
  subst hv; exact ⟨rfl, rfl⟩
  refine ⟨⟨o3_ok _⟩, ?_⟩
  refine ⟨⟨o3_ok _⟩, ?_⟩
  refine ⟨⟨on_ok _⟩, ?_⟩
  revert hv; refine by_cond2 (fun hb hv => ?_) (fun hb hv => ?_)
  subst hv; exact ⟨rfl, rfl⟩
  refine ⟨⟨?_⟩, ?_⟩; rotate_left
  revert hv; refine by_cond2 (fun hb hv => ?_) (fun hb hv => ?_)
  subst hv; exact ⟨rfl, rfl⟩
  revert hv; refine by_cond2 (fun hb hv => ?_) (fun hb hv => ?_)
  refine ⟨⟨?_⟩, ?_⟩; rotate_left
  revert hv; refine by_cond2 (fun hb hv => ?_) (fun hb hv => ?_)
  subst hv; exact ⟨rfl, rfl⟩
  refine ⟨⟨o3_ok _⟩, ?_⟩
  refine ⟨⟨o3_ok _⟩, ?_⟩
  refine ⟨⟨on_ok _⟩, ?_⟩
  revert hv; refine by_cond2 (fun hb hv => ?_) (fun hb hv => ?_)
  subst hv; exact ⟨rfl, rfl⟩
  intro hlen
  refine ⟨⟨o3_ok _⟩, ?_⟩
  refine ⟨⟨o3_ok _⟩, ?_⟩
  refine ⟨⟨o3_ok _⟩, ?_⟩
  refine ⟨⟨on_ok _⟩, ?_⟩
  revert hv; refine by_cond2 (fun hb hv => ?_) (fun hb hv => ?_)
  subst hv; exact ⟨rfl, rfl⟩
  subst hv; exact ⟨rfl, rfl⟩
  intro hlen
  revert hv; refine by_cond2 (fun hb hv => ?_) (fun hb hv => ?_)
  subst hv; exact ⟨rfl, rfl⟩
  refine ⟨⟨o3_ok _⟩, ?_⟩
  refine ⟨⟨o3_ok _⟩, ?_⟩
  refine ⟨⟨on_ok _⟩, ?_⟩
  revert hv; refine by_cond2 (fun hb hv => ?_) (fun hb hv => ?_)
  subst hv; exact ⟨rfl, rfl⟩
  intro hlen
  refine ⟨⟨o3_ok _⟩, ?_⟩
  refine ⟨⟨o3_ok _⟩, ?_⟩
  refine ⟨⟨o3_ok _⟩, ?_⟩
  refine ⟨⟨on_ok _⟩, ?_⟩
  revert hv; refine by_cond2 (fun hb hv => ?_) (fun hb hv => ?_)
  subst hv; exact ⟨rfl, rfl⟩
  subst hv; exact ⟨rfl, rfl⟩
  all_goals ((try clear hv); (try clear q1 q2); (try clear hk); (first | omega | ((try simp only [decide_eq_true_eq, decide_eq_false_iff_not, Bool.not_eq_true, Bool.not_eq_false, Bool.and_eq_true, Bool.or_eq_true, Bool.not_not, cond_and, cond_or, List.length_append, List.length_cons, List.length_nil] at *); (first | done | ((first | omega | (intros; (try simp only [Bool.not_not, cond_and, cond_or, Bool.and_eq_true, decide_eq_true_eq] at *); (exact ⟨by decide, by simp⟩)) | (intros; (try simp only [Bool.not_not, cond_and, cond_or, Bool.and_eq_true, decide_eq_true_eq] at *); (exact band_nn rfl _ _)) | (intros; (try simp only [Bool.not_not, cond_and, cond_or, Bool.and_eq_true, decide_eq_true_eq] at *); (exact (wu64s _).2.1)) | (intros; (try simp only [Bool.not_not, cond_and, cond_or, Bool.and_eq_true, decide_eq_true_eq] at *); (simp only [Bool.or_eq_false_iff, Bool.and_eq_false_iff, decide_eq_false_iff_not, decide_eq_true_eq, bne_iff_ne, beq_iff_eq, bne_eq_false_iff_eq, beq_eq_false_iff_ne, ne_eq, true_and] at *; omega)) | (intros; (try simp only [Bool.not_not, cond_and, cond_or, Bool.and_eq_true, decide_eq_true_eq] at *); (simp only [List.length_drop, List.length_take, List.length_append, List.length_cons, List.length_nil] at *; omega)) | (intros; omega) | (intros; simp only [Bool.not_not, cond_and, cond_or, Bool.and_eq_true, decide_eq_true_eq] at *; omega) | (intros; simp_all [Bool.not_not]; done)))))))
def r21Start.ct : Ct El := ctOf r21Start.dec (fun x => [x.1.Data.length ≤ 140737488355328 ∧ x.1.Scan.length ≤ 140737488355328 ∧ x.1.Accept.length ≤ 4611686018427 ∧ x.1.Identities.length ≤ 4611686018427]) (fun x => r21Start.res (r21Start x.1 x.2)) (fun x => r21Start.news (r21Start x.1 x.2))
theorem r21Start.ok : CtOk (mkCx Tryd.prog S [] 0) 18 r21Start.ct := ct_mk (C := (mkCxI Tryd.prog S tab_r21Delay 0 false sum_fIdx)) (mkCxI_ok sigOk mixed tab_r21Delay_ok 0 false sum_fIdx_ok) r21Start.dec_ok (fun x => rfl) 4 (fun x hp => (r21Start.nf_ok x.1 x.2 _).mpr (r21Start.key x.1 x.2 (hp _ (List.mem_singleton.2 rfl)) _ rfl))
def tab_r21Start : List (FuncId × Ct El) := (18, r21Start.ct) :: tab_advCheck
theorem tab_r21Start_ok : TabOk Tryd.prog S tab_r21Start := ⟨r21Start.ok, by kernel_rfl, tab_advCheck_ok⟩
end Go.Aw.W
