/- Contracts of the seat (printed by ct.py). -/
import Derived.Test.YtlnbhdcaebmffaaW5
set_option linter.unusedVariables false
set_option linter.unusedSimpArgs false
set_option maxRecDepth 20000
set_option maxHeartbeats 1000000
namespace Go.Aw.W
open Go Go.Aw Go.Proofs
attribute [local irreducible] evCode evFun evOps evDs evOne ctxK loopK loopB subC bodyC headS okH roundK

theorem r1Power_pow : ∀ n : Nat, n < 64 → r1Power (n : Int) = (2 : Int) ^ n := by decide +kernel
theorem r1Power_eq {b : Int} (h0 : 0 ≤ b) (h1 : b ≤ 63) : r1Power b = 2 ^ b.toNat := by
  have := r1Power_pow b.toNat (by omega)
  rwa [Int.toNat_of_nonneg h0] at this
theorem r1Power_ne {b : Int} (h0 : 0 ≤ b) (h1 : b ≤ 63) : r1Power b ≠ 0 := by
  rw [r1Power_eq h0 h1]
  have : (0 : Int) < 2 ^ b.toNat := Int.pow_pos (by decide)
  omega
theorem sumDrop (parts : List (List Int)) (i : Int) (h0 : 0 ≤ i) (h : i < parts.length) : ((parts.drop i.toNat).map List.length).sum = (parts.getD i.toNat []).length + ((parts.drop (i + 1).toNat).map List.length).sum := by
  have h1 : i.toNat < parts.length := by omega
  have h2 : (i + 1).toNat = i.toNat + 1 := by omega
  rw [List.drop_eq_getElem_cons h1, h2, List.map_cons, List.sum_cons]
  simp only [List.getD, List.getElem?_eq_getElem h1, Option.getD_some]

/-! wireless/chanmap.Count -/
def kOnes.res (r : Int) : AV El := .v (.int .i64 (r))
def kOnes.news (r : Int) : List (AObj El) := []
def kOnes.L (e v : Int) : Prop := kOnes.res e = kOnes.res v ∧ kOnes.news e = kOnes.news v
def kOnes (m : Int) : Int := ones (bandK IntKind.u64 m (137438953471 : Int))
def kOnes.dec (cs : List (AV El)) : Option (Int) := popI .u64 cs fun a0 c0 => popE c0 a0
def kOnes.enc (x : Int) : List (AV El) := [.v (.int .u64 x)]
theorem kOnes.dec_ok : ∀ cs x, kOnes.dec cs = some x → Imp (S := S) cs (kOnes.enc x) := by
  intro cs x h
  unfold kOnes.dec at h
  obtain ⟨a0, c0, rfl, h0⟩ := popI_some (S := S) h
  obtain ⟨rfl, rfl⟩ := popE_some (S := S) h0
  exact (.cons (.refl _))
def kOnes.nf (m : Int) (v : Int) : Prop := kOnes.L (ones (bandK IntKind.u64 m (137438953471 : Int))) v
theorem kOnes.nf_ok (m : Int) (v : Int) : evFun (mkCx Try.prog S tab_oPut 0) 4 131 [.v (.int .u64 m)] [] (fun r' H' => Gives r' H' (kOnes.res v) (kOnes.news v)) = kOnes.nf m v := by kernel_rfl
theorem kOnes.key (m : Int) (v : Int) (hv : v = kOnes m) : kOnes.nf m v := by
  unfold kOnes at hv
  unfold kOnes.nf
  subst hv; exact ⟨rfl, rfl⟩
def kOnes.ct : Ct El := ctOf kOnes.dec (fun _ => []) (fun x => kOnes.res (kOnes x)) (fun x => kOnes.news (kOnes x))
theorem kOnes.ok : CtOk (mkCx Try.prog S [] 0) 131 kOnes.ct := ct_mk (C := (mkCx Try.prog S tab_oPut 0)) (mkCx_ok sigOk mixed tab_oPut_ok 0) kOnes.dec_ok (fun x => rfl) 4 (fun x _ => (kOnes.nf_ok x _).mpr (kOnes.key x _ rfl))
def tab_kOnes : List (FuncId × Ct El) := (131, kOnes.ct) :: tab_oPut
theorem tab_kOnes_ok : TabOk Try.prog S tab_kOnes := ⟨kOnes.ok, by kernel_rfl, tab_oPut_ok⟩

/-! wireless/octets.Join -/
def oJoin.res (r : (List Int)) : AV El := .gs 0
def oJoin.news (r : (List Int)) : List (AObj El) := [.row 5 (r : List (El 5))]
def oJoin.L (e v : (List Int)) : Prop := oJoin.res e = oJoin.res v ∧ oJoin.news e = oJoin.news v
def oJoin.go (parts : List (List Int)) : Nat → Int → (List Int) → (List Int)
  | 0, _, _ => []
  | n0 + 1, i, out => cond (decide (i < (↑(List.length parts) : Int))) (oJoin.go parts n0 (IntKind.wrap IntKind.i64 (i + (1 : Int))) (out ++ List.getD parts (Int.toNat i) [])) (out)
def oJoin.hd (parts : List (List Int)) (i : Int) (out : List Int) : St El := { lo := 0, slots := [(8, .v (.int .i64 (i))), (7, .v (.int .i64 ((↑(List.length parts) : Int)))), (6, .sl 33 (parts : List (El 33)) false), (3, .gs 0)], n := 17, objs := [.row 5 (out : List (El 5))] }
def oJoin.st (parts : List (List Int)) (i : Int) (out : List Int) (J : St El → Prop) (v : (List Int)) : Prop := cond (decide (i < (↑(List.length parts) : Int))) (Ob (0 ≤ i ∧ i < (↑(List.length parts) : Int)) ∧ (Ob ((List.length out + List.length (List.getD parts (Int.toNat i) [])) * (1 : Nat) ≤ (140737488355328 : Nat)) ∧ (J (oJoin.hd parts (IntKind.wrap IntKind.i64 (i + 1)) (out ++ List.getD parts (Int.toNat i) []))))) (oJoin.L (out) v)
theorem oJoin.st_ok (parts : List (List Int)) (i : Int) (out : List Int) (J : St El → Prop) (v : (List Int)) : evCode (mkCx Try.prog S tab_kOnes 0) (evFun (mkCx Try.prog S tab_kOnes 0) 3) (loopB Try.prog 97 [true, true, false, true, false]) (oJoin.hd parts i out) (roundK (C := (mkCx Try.prog S tab_kOnes 0)) [8, 7, 6, 3] [.slot 3 5] J (loopK (mkCx Try.prog S tab_kOnes 0) 3 97 [true, true, false, true, false] (fun r' H' => Gives r' H' (oJoin.res v) (oJoin.news v)))) = oJoin.st parts i out J v := by kernel_rfl
def oJoin.rng (parts : List (List Int)) (n0 : Nat) (i : Int) (out : List Int) : Prop := 0 ≤ i ∧ i ≤ parts.length ∧ (parts.length - i).toNat < n0 ∧ parts.length ≤ 9223372036854775807 ∧ out.length + ((parts.drop i.toNat).map List.length).sum ≤ 140737488355328
theorem oJoin.lp (parts : List (List Int)) (hp : (parts.map List.length).sum ≤ 140737488355328) (v : (List Int)) (n0 : Nat) (i : Int) (out : List Int) (hv : v = oJoin.go parts n0 i out) (h0 : oJoin.rng parts n0 i out) (st : St El) (q1 : okH [8, 7, 6, 3] [.slot 3 5] st = true) (q2 : headS [8, 7, 6, 3] [.slot 3 5] st = oJoin.hd parts i out) : evCode (mkCx Try.prog S tab_kOnes 0) (evFun (mkCx Try.prog S tab_kOnes 0) 3) (.loop (loopB Try.prog 97 [true, true, false, true, false])) st (loopK (mkCx Try.prog S tab_kOnes 0) 3 97 [true, true, false, true, false] (fun r' H' => Gives r' H' (oJoin.res v) (oJoin.news v))) := by
  refine loop_ev (by kernel_rfl) (evFun_mono _ _) [8, 7, 6, 3] [.slot 3 5] (X := Nat × Int × (List Int)) (fun x => oJoin.hd parts x.2.1 x.2.2) (fun x => x.1) (fun x => oJoin.rng parts x.1 x.2.1 x.2.2 ∧ v = oJoin.go parts x.1 x.2.1 x.2.2) (n0, i, out) ⟨q1, q2⟩ ⟨h0, hv⟩ ?_
  clear h0 hv q1 q2
  rintro ⟨n0, i, out⟩ ⟨hr, hv⟩
  dsimp only at hr hv
  cases n0 with
  | zero => exact absurd hr (by unfold oJoin.rng; omega)
  | succ n0 =>
  unfold oJoin.rng at hr
  unfold oJoin.go at hv
  refine (oJoin.st_ok parts i out _ _).mpr ?_
  unfold oJoin.st
  revert hv; refine by_cond2 (fun hb hv => ?_) (fun hb hv => ?_)
  refine ⟨⟨?_⟩, ?_⟩; rotate_left
  refine ⟨⟨?_⟩, ?_⟩; rotate_left
  exact ⟨(n0, (IntKind.wrap IntKind.i64 (i + (1 : Int))), (out ++ List.getD parts (Int.toNat i) [])), (by kernel_rfl), Nat.lt_succ_self n0, (by dsimp only; unfold oJoin.rng; (try clear hv); (try clear q1 q2); (try clear hk); (simp only [decide_eq_true_eq, List.length_append] at *; have h1 := sumDrop parts i (by omega) (by omega); have h2 := wi64 (i + (1 : Int)) (by omega) (by omega); rw [h2]; omega)), hv⟩
  subst hv; exact ⟨rfl, rfl⟩
  all_goals ((try clear hv); (try clear q1 q2); (try clear hk); (simp only [decide_eq_true_eq] at *; first | omega | (have h1 := sumDrop parts i (by omega) (by omega); omega)))
def oJoin (parts : List (List Int)) : (List Int) := oJoin.go parts (parts.length + 1) ((0 : Int)) ([])
def oJoin.dec (cs : List (AV El)) : Option ((List (List Int))) := popS 33 cs fun a0 c0 => popE c0 a0
def oJoin.enc (x : (List (List Int))) : List (AV El) := [.sl 33 (x : List (El 33)) false]
theorem oJoin.dec_ok : ∀ cs x, oJoin.dec cs = some x → Imp (S := S) cs (oJoin.enc x) := by
  intro cs x h
  unfold oJoin.dec at h
  obtain ⟨a0, c0, h0, k0⟩ := popS_some (S := S) (t := 33) h
  obtain ⟨rfl, rfl⟩ := popE_some (S := S) h0
  exact (k0 _ (.refl _))
def oJoin.nf (parts : List (List Int)) (v : (List Int)) : Prop := (List.length parts ≤ (9223372036854775807 : Nat)) → (evCode (mkCx Try.prog S tab_kOnes 0) (evFun (mkCx Try.prog S tab_kOnes 0) 3) (.loop (loopB Try.prog 97 [true, true, false, true, false])) ({ lo := 0, slots := [(8, .v (.int .i64 (0))), (7, .v (.int .i64 ((↑(List.length parts) : Int)))), (6, .sl 33 (parts : List (El 33)) false), (3, .v (.slice none 0 0)), (2, .v (.slice none 0 0)), (0, .sl 33 (parts : List (El 33)) false)], n := 17, objs := [] }) (loopK (mkCx Try.prog S tab_kOnes 0) 3 97 [true, true, false, true, false] (fun r' H' => Gives r' H' (oJoin.res v) (oJoin.news v))))
theorem oJoin.nf_ok (parts : List (List Int)) (v : (List Int)) : evFun (mkCx Try.prog S tab_kOnes 0) 4 97 [.sl 33 (parts : List (El 33)) false] [] (fun r' H' => Gives r' H' (oJoin.res v) (oJoin.news v)) = oJoin.nf parts v := by kernel_rfl
theorem oJoin.key (parts : List (List Int)) (hp : (parts.map List.length).sum ≤ 140737488355328) (v : (List Int)) (hv : v = oJoin parts) : oJoin.nf parts v := by
  unfold oJoin at hv
  unfold oJoin.nf
  intro hlen
  exact oJoin.lp parts hp v _ _ _ hv (by unfold oJoin.rng; (try clear hv); (try clear q1 q2); (try clear hk); (simp; omega)) _ (by kernel_rfl) (by kernel_rfl)
def oJoin.ct : Ct El := ctOf oJoin.dec (fun x => [(x.map List.length).sum ≤ 140737488355328]) (fun x => oJoin.res (oJoin x)) (fun x => oJoin.news (oJoin x))
theorem oJoin.ok : CtOk (mkCx Try.prog S [] 0) 97 oJoin.ct := ct_mk (C := (mkCx Try.prog S tab_kOnes 0)) (mkCx_ok sigOk mixed tab_kOnes_ok 0) oJoin.dec_ok (fun x => rfl) 4 (fun x hp => (oJoin.nf_ok x _).mpr (oJoin.key x (hp _ (List.mem_singleton.2 rfl)) _ rfl))
def tab_oJoin : List (FuncId × Ct El) := (97, oJoin.ct) :: tab_kOnes
theorem tab_oJoin_ok : TabOk Try.prog S tab_oJoin := ⟨oJoin.ok, by kernel_rfl, tab_kOnes_ok⟩

end Go.Aw.W
