/- Contracts of the seat (printed by ct.py). -/
import Derived.Test.YtppceadhdckpmaaDoorW25
set_option linter.unusedVariables false
set_option linter.unusedSimpArgs false
set_option maxRecDepth 20000
set_option maxHeartbeats 1000000
namespace Go.Aw.W
open Go Go.Aw Go.Proofs
attribute [local irreducible] evCode evFun evOps evDs evOne ctxK loopK loopB subC bodyC headS okH roundK
attribute [local irreducible] pFind r9Find pCheck r19Check connects r21Accepts advStart r21Start advFire r21Fire advAnswer r21Answer lives21 own21
theorem own21_eq (p : AdvParams) : own21 p = p := by unfold own21; simp

/-! wireless/wirelesslaw21.AdvertiserDelays -/
def advertiserDelays.res (r : Bool) : AV El := .v (.bool (r))
def advertiserDelays.news (r : Bool) : List (AObj El) := []
def advertiserDelays.L (e v : Bool) : Prop := advertiserDelays.res e = advertiserDelays.res v ∧ advertiserDelays.news e = advertiserDelays.news v
def advertiserDelays (seed : Int) (event : Int) : Bool := bif lives21 then advDelay seed event == r21Delay seed event else false
def advertiserDelays.dec (cs : List (AV El)) : Option (Int × Int) := popI .u64 cs fun a0 c0 => popI .i64 c0 fun a1 c1 => popE c1 (a0, a1)
def advertiserDelays.enc (x : Int × Int) : List (AV El) := [.v (.int .u64 x.1), .v (.int .i64 x.2)]
theorem advertiserDelays.dec_ok : ∀ cs x, advertiserDelays.dec cs = some x → Imp (S := S) cs (advertiserDelays.enc x) := by
  intro cs x h
  unfold advertiserDelays.dec at h
  obtain ⟨a0, c0, rfl, h0⟩ := popI_some (S := S) h
  obtain ⟨a1, c1, rfl, h1⟩ := popI_some (S := S) h0
  obtain ⟨rfl, rfl⟩ := popE_some (S := S) h1
  exact (.cons (.cons (.refl _)))
def advertiserDelays.nf (seed : Int) (event : Int) (v : Bool) : Prop := Ob (o3 (lives21)) ∧ (Ob (o3 (lives21)) ∧ (Ob (o3 (lives21)) ∧ (Ob (o3 (lives21)) ∧ (Ob (o3 (lives21)) ∧ (Ob (o3 (lives21)) ∧ (Ob (o2 (lives21)) ∧ (advertiserDelays.L (bif lives21 then advDelay seed event == r21Delay seed event else false) v)))))))
theorem advertiserDelays.nf_ok (seed : Int) (event : Int) (v : Bool) : evFun (mkCxI Tryd.prog S tab_lives21 0 true sum_fIdx) 4 4 [.v (.int .u64 seed), .v (.int .i64 event)] [] (fun r' H' => Gives r' H' (advertiserDelays.res v) (advertiserDelays.news v)) = advertiserDelays.nf seed event v := by kernel_rfl
theorem advertiserDelays.key (seed : Int) (event : Int) (v : Bool) (hv : v = advertiserDelays seed event) : advertiserDelays.nf seed event v := by
  unfold advertiserDelays at hv
  unfold advertiserDelays.nf
  refine ⟨⟨o3_ok _⟩, ?_⟩
  refine ⟨⟨o3_ok _⟩, ?_⟩
  refine ⟨⟨o3_ok _⟩, ?_⟩
  refine ⟨⟨o3_ok _⟩, ?_⟩
  refine ⟨⟨o3_ok _⟩, ?_⟩
  refine ⟨⟨o3_ok _⟩, ?_⟩
  refine ⟨⟨o2_ok _⟩, ?_⟩
  subst hv; exact ⟨rfl, rfl⟩
def advertiserDelays.ct : Ct El := ctOf advertiserDelays.dec (fun _ => []) (fun x => advertiserDelays.res (advertiserDelays x.1 x.2)) (fun x => advertiserDelays.news (advertiserDelays x.1 x.2))
theorem advertiserDelays.ok : CtOk (mkCx Tryd.prog S [] 0) 4 advertiserDelays.ct := ct_mk (C := (mkCxI Tryd.prog S tab_lives21 0 true sum_fIdx)) (mkCxI_ok sigOk mixed tab_lives21_ok 0 true sum_fIdx_ok) advertiserDelays.dec_ok (fun x => rfl) 4 (fun x _ => (advertiserDelays.nf_ok x.1 x.2 _).mpr (advertiserDelays.key x.1 x.2 _ rfl))
def tab_advertiserDelays : List (FuncId × Ct El) := (4, advertiserDelays.ct) :: tab_lives21
theorem tab_advertiserDelays_ok : TabOk Tryd.prog S tab_advertiserDelays := ⟨advertiserDelays.ok, by kernel_rfl, tab_lives21_ok⟩

/-! wireless/wirelesslaw21.AdvertiserStarts -/
def advertiserStarts.res (r : Bool) : AV El := .v (.bool (r))
def advertiserStarts.news (r : Bool) : List (AObj El) := []
def advertiserStarts.L (e v : Bool) : Prop := advertiserStarts.res e = advertiserStarts.res v ∧ advertiserStarts.news e = advertiserStarts.news v
def advertiserStarts (p : AdvParams) (p1 : Int) : Bool := cond (!small21 p) (true) (bif r21Same (advStart (own21 p) p1).fst (r21Start p p1).fst then (advStart (own21 p) p1).snd == (r21Start p p1).snd else false)
def advertiserStarts.dec (cs : List (AV El)) : Option (AdvParams × Int) := popA AdvParams.dec cs fun a0 c0 => popI .i64 c0 fun a1 c1 => popE c1 (a0, a1)
def advertiserStarts.enc (x : AdvParams × Int) : List (AV El) := [AdvParams.av x.1, .v (.int .i64 x.2)]
theorem advertiserStarts.dec_ok : ∀ cs x, advertiserStarts.dec cs = some x → Imp (S := S) cs (advertiserStarts.enc x) := by
  intro cs x h
  unfold advertiserStarts.dec at h
  obtain ⟨a0, c0, h0, k0⟩ := popA_some (S := S) AdvParams.dec_ok h
  obtain ⟨a1, c1, rfl, h1⟩ := popI_some (S := S) h0
  obtain ⟨rfl, rfl⟩ := popE_some (S := S) h1
  exact (k0 _ (.cons (.refl _)))
def advertiserStarts.nf (p : AdvParams) (p1 : Int) (v : Bool) : Prop := cond (!small21 p) (advertiserStarts.L (true) v) (Ob (List.length p.Data ≤ (140737488355328 : Nat) ∧ List.length p.Scan ≤ (140737488355328 : Nat) ∧ List.length p.Accept ≤ (4611686018427 : Nat) ∧ List.length p.Identities ≤ (4611686018427 : Nat)) ∧ (Ob (List.length (own21 p).Data ≤ (140737488355328 : Nat) ∧ List.length (own21 p).Scan ≤ (140737488355328 : Nat) ∧ List.length (own21 p).Accept ≤ (4611686018427 : Nat) ∧ List.length (own21 p).Identities ≤ (4611686018427 : Nat)) ∧ (Ob (List.length p.Data ≤ (140737488355328 : Nat) ∧ List.length p.Scan ≤ (140737488355328 : Nat) ∧ List.length p.Accept ≤ (4611686018427 : Nat) ∧ List.length p.Identities ≤ (4611686018427 : Nat)) ∧ (Ob (o3 (r21Same (advStart (own21 p) p1).fst (r21Start p p1).fst)) ∧ (Ob (o3 (r21Same (advStart (own21 p) p1).fst (r21Start p p1).fst)) ∧ (Ob (o2 (r21Same (advStart (own21 p) p1).fst (r21Start p p1).fst)) ∧ (advertiserStarts.L (bif r21Same (advStart (own21 p) p1).fst (r21Start p p1).fst then (advStart (own21 p) p1).snd == (r21Start p p1).snd else false) v)))))))
theorem advertiserStarts.nf_ok (p : AdvParams) (p1 : Int) (v : Bool) : evFun (mkCxI Tryd.prog S tab_lives21 0 true sum_fIdx) 4 3 [AdvParams.av p, .v (.int .i64 p1)] [] (fun r' H' => Gives r' H' (advertiserStarts.res v) (advertiserStarts.news v)) = advertiserStarts.nf p p1 v := by kernel_rfl
theorem advertiserStarts.key (p : AdvParams) (p1 : Int) (hp : p.Data.length ≤ 140737488355328 ∧ p.Scan.length ≤ 140737488355328) (v : Bool) (hv : v = advertiserStarts p p1) : advertiserStarts.nf p p1 v := by
  unfold advertiserStarts at hv
  unfold advertiserStarts.nf
  revert hv; refine by_cond2 (fun hb hv => ?_) (fun hb hv => ?_)
  subst hv; exact ⟨rfl, rfl⟩
  refine ⟨⟨?_⟩, ?_⟩; rotate_left
  refine ⟨⟨?_⟩, ?_⟩; rotate_left
  refine ⟨⟨?_⟩, ?_⟩; rotate_left
  refine ⟨⟨o3_ok _⟩, ?_⟩
  refine ⟨⟨o3_ok _⟩, ?_⟩
  refine ⟨⟨o2_ok _⟩, ?_⟩
  subst hv; exact ⟨rfl, rfl⟩
  all_goals ((try clear hv); (try clear q1 q2); (try clear hk); (first | omega | (simp only [own21_eq]; simp_all [small21]; omega) | (simp_all [small21]; omega) | ((try simp only [decide_eq_true_eq, decide_eq_false_iff_not, Bool.not_eq_true, Bool.not_eq_false, Bool.and_eq_true, Bool.or_eq_true, Bool.not_not, cond_and, cond_or, List.length_append, List.length_cons, List.length_nil] at *); (first | done | ((first | omega | (intros; (try simp only [Bool.not_not, cond_and, cond_or, Bool.and_eq_true, decide_eq_true_eq] at *); (refine ⟨?_, pFind_lt _ _⟩; (first | omega | (simp_all; done)))) | (intros; (try simp only [Bool.not_not, cond_and, cond_or, Bool.and_eq_true, decide_eq_true_eq] at *); (refine ⟨?_, r9Find_lt _ _⟩; (first | omega | (simp_all; done)))) | (intros; (try simp only [Bool.not_not, cond_and, cond_or, Bool.and_eq_true, decide_eq_true_eq] at *); (exact ⟨by decide, by simp⟩)) | (intros; (try simp only [Bool.not_not, cond_and, cond_or, Bool.and_eq_true, decide_eq_true_eq] at *); (exact band_nn rfl _ _)) | (intros; (try simp only [Bool.not_not, cond_and, cond_or, Bool.and_eq_true, decide_eq_true_eq] at *); (exact (wu64s _).2.1)) | (intros; (try simp only [Bool.not_not, cond_and, cond_or, Bool.and_eq_true, decide_eq_true_eq] at *); (simp only [Bool.or_eq_false_iff, Bool.and_eq_false_iff, decide_eq_false_iff_not, decide_eq_true_eq, bne_iff_ne, beq_iff_eq, bne_eq_false_iff_eq, beq_eq_false_iff_ne, ne_eq, true_and] at *; omega)) | (intros; (try simp only [Bool.not_not, cond_and, cond_or, Bool.and_eq_true, decide_eq_true_eq] at *); (simp only [List.length_drop, List.length_take, List.length_append, List.length_cons, List.length_nil] at *; omega)) | (intros; omega) | (intros; simp only [Bool.not_not, cond_and, cond_or, Bool.and_eq_true, decide_eq_true_eq] at *; omega) | (intros; simp_all [Bool.not_not]; done)))))))
def advertiserStarts.ct : Ct El := ctOf advertiserStarts.dec (fun x => [x.1.Data.length ≤ 140737488355328 ∧ x.1.Scan.length ≤ 140737488355328]) (fun x => advertiserStarts.res (advertiserStarts x.1 x.2)) (fun x => advertiserStarts.news (advertiserStarts x.1 x.2))
theorem advertiserStarts.ok : CtOk (mkCx Tryd.prog S [] 0) 3 advertiserStarts.ct := ct_mk (C := (mkCxI Tryd.prog S tab_lives21 0 true sum_fIdx)) (mkCxI_ok sigOk mixed tab_lives21_ok 0 true sum_fIdx_ok) advertiserStarts.dec_ok (fun x => rfl) 4 (fun x hp => (advertiserStarts.nf_ok x.1 x.2 _).mpr (advertiserStarts.key x.1 x.2 (hp _ (List.mem_singleton.2 rfl)) _ rfl))
def tab_advertiserStarts : List (FuncId × Ct El) := (3, advertiserStarts.ct) :: tab_advertiserDelays
theorem tab_advertiserStarts_ok : TabOk Tryd.prog S tab_advertiserStarts := ⟨advertiserStarts.ok, by kernel_rfl, tab_advertiserDelays_ok⟩

end Go.Aw.W
