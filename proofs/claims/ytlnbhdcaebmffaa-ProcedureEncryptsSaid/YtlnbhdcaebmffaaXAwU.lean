/-
  Summaries of inlined calls: for arguments and own things of a given form (own work).
-/
import Derived.Test.YtlnbhdcaebmffaaXAwK
set_option linter.unusedVariables false
namespace Go.Aw
open Go

section
variable {S : Sig} {B : Nat} {env : Env} {w : World}
def OImp (o o' : AObj S.El) : Prop := o = o' ∨ ∃ cs ds, o = .cells cs ∧ o' = .cells ds ∧ Imp (S := S) cs ds
/-- Whatever reads as the first things reads as the second. -/
def HImp : List (AObj S.El) → List (AObj S.El) → Prop
  | [], [] => True
  | o :: l, o' :: l' => OImp o o' ∧ HImp l l'
  | _, _ => False
theorem HImp.len : ∀ {H H' : List (AObj S.El)}, HImp H H' → H.length = H'.length
  | [], [], _ => rfl
  | _ :: _, _ :: _, h => by simp [HImp.len h.2]
theorem HImp.obj : ∀ {H H' : List (AObj S.El)}, HImp H H' → ∀ i, OImp (Go.Aw.obj H i) (Go.Aw.obj H' i)
  | [], [], _, i => .inl rfl
  | _ :: _, _ :: _, h, 0 => h.1
  | _ :: _, _ :: _, h, i + 1 => HImp.obj h.2 i
theorem OImp.live {o o' : AObj S.El} (h : OImp o o') : live o = live o' := by
  rcases h with rfl | ⟨cs, ds, rfl, rfl, _⟩ <;> rfl
theorem HImp.inv {H H' : List (AObj S.El)} (h : HImp H H') (hI : Inv S B env w H) : Inv S B env w H' := by
  refine ⟨fun i => ?_, fun i v b hl => hI.free i v b ((h.obj i).live.trans hl), fun i j u v b h1 h2 => hI.apart i j u v b ((h.obj i).live.trans h1) ((h.obj j).live.trans h2), hI.inheap, fun i v hv => by rw [← h.len]; exact hI.fresh i v hv, hI.glob, hI.base⟩
  have ho := hI.objs i
  rcases h.obj i with e | ⟨cs, ds, e1, e2, hi⟩
  · rw [← e]; exact ho
  · rw [e1] at ho
    rw [e2]
    obtain ⟨b, vs, T, q1, q2, q3, q4⟩ := ho
    exact ⟨b, vs, T, q1, q2, q3, hi env w _ q4⟩
theorem HImp.refl : ∀ H : List (AObj S.El), HImp H H
  | [] => trivial
  | _ :: l => ⟨.inl rfl, HImp.refl l⟩
end

section
variable {El : TypeId → Type} {R : Type}
def popG (i : Nat) (cs : List (AV El)) (f : List (AV El) → Option R) : Option R :=
  match cs with
  | .gs j :: l => bif Nat.beq j i then f l else none
  | _ => none
def refsB : List (AV El) → List (Nat × Nat) → Bool
  | [], [] => true
  | .ref i o :: l, (j, p) :: m => Nat.beq i j && Nat.beq o p && refsB l m
  | _, _ => false
def refsOf (m : List (Nat × Nat)) : List (AV El) := m.map fun p => .ref p.1 p.2
def popK (g : FuncId) (refs : List (Nat × Nat)) (cs : List (AV El)) (f : List (AV El) → Option R) : Option R :=
  match cs with
  | .clo g' caps :: l => bif Nat.beq g' g && refsB caps refs then f l else none
  | _ => none
def popHC {X : Type} (dec : List (AV El) → Option X) (H : List (AObj El)) (f : X → List (AObj El) → Option R) : Option R :=
  match H with
  | .cells cs :: l => match dec cs with
    | some x => f x l
    | none => none
  | _ => none
def popHR (t : TypeId) (H : List (AObj El)) (f : List (El t) → List (AObj El) → Option R) : Option R :=
  match H with
  | .row u xs :: l => if h : u = t then f (h ▸ xs) l else none
  | _ => none
def popHE (H : List (AObj El)) (x : R) : Option R :=
  match H with
  | [] => some x
  | _ => none
theorem popG_some {i : Nat} {cs : List (AV El)} {f : List (AV El) → Option R} {r : R} (h : popG i cs f = some r) : ∃ l, cs = .gs i :: l ∧ f l = some r := by
  unfold popG at h
  split at h
  · obtain ⟨h1, h2⟩ := cond_some h
    have := Nat.eq_of_beq_eq_true h1
    subst this
    exact ⟨_, rfl, h2⟩
  · cases h
theorem refsB_eq : ∀ {cs : List (AV El)} {m : List (Nat × Nat)}, refsB cs m = true → cs = refsOf m
  | [], [], _ => rfl
  | .ref i o :: l, (j, p) :: m, h => by
    simp only [refsB, Bool.and_eq_true] at h
    have h1 := Nat.eq_of_beq_eq_true h.1.1
    have h2 := Nat.eq_of_beq_eq_true h.1.2
    subst h1; subst h2
    simp [refsOf, refsB_eq h.2]
theorem popK_some {g : FuncId} {refs : List (Nat × Nat)} {cs : List (AV El)} {f : List (AV El) → Option R} {r : R} (h : popK g refs cs f = some r) : ∃ l, cs = .clo g (refsOf refs) :: l ∧ f l = some r := by
  unfold popK at h
  split at h
  · obtain ⟨h1, h2⟩ := cond_some h
    simp only [Bool.and_eq_true] at h1
    have := Nat.eq_of_beq_eq_true h1.1
    subst this
    exact ⟨_, by rw [refsB_eq h1.2], h2⟩
  · cases h
theorem popHE_some {H : List (AObj El)} {x r : R} (h : popHE H x = some r) : H = [] ∧ x = r := by
  unfold popHE at h
  split at h
  · cases h; exact ⟨rfl, rfl⟩
  · cases h
end

section
variable {S : Sig} {R : Type}
theorem popHC_some {X : Type} {dec : List (AV S.El) → Option X} {cells : X → List (AV S.El)} (hdec : ∀ cs x, dec cs = some x → Imp cs (cells x)) {H : List (AObj S.El)} {f : X → List (AObj S.El) → Option R} {r : R} (h : popHC dec H f = some r) :
    ∃ x l, f x l = some r ∧ ∀ H', HImp l H' → HImp H (.cells (cells x) :: H') := by
  unfold popHC at h
  split at h
  · split at h
    · rename_i x hx
      exact ⟨x, _, h, fun H' hh => ⟨.inr ⟨_, _, rfl, rfl, hdec _ _ hx⟩, hh⟩⟩
    · cases h
  · cases h
theorem popHR_some {t : TypeId} {H : List (AObj S.El)} {f : List (S.El t) → List (AObj S.El) → Option R} {r : R} (h : popHR t H f = some r) : ∃ xs l, f xs l = some r ∧ ∀ H', HImp l H' → HImp H (.row t xs :: H') := by
  unfold popHR at h
  split at h
  · split at h
    · rename_i hu
      subst hu
      exact ⟨_, _, h, fun H' hh => ⟨.inl rfl, hh⟩⟩
    · cases h
  · cases h
end

abbrev SumI (El : TypeId → Type) := FuncId → List (AV El) → List (AObj El) → Option (List Prop × AV El × List (AObj El))
def sum0 {El : TypeId → Type} : SumI El := fun _ _ _ => none
def SumTab (P : Program) (S : Sig) (I : SumI S.El) : Prop := ∀ f args H ps r H', I f args H = some (ps, r, H') → SumOk P S f args H ps r H'
theorem sum0_ok (P : Program) (S : Sig) : SumTab P S sum0 := fun _ _ _ _ _ _ h => by cases h
def sumOf {El : TypeId → Type} {X : Type} (f0 : FuncId) (dec : List (AV El) → List (AObj El) → Option X) (ps : X → List Prop) (res : X → AV El) (Hs : X → List (AObj El)) (prev : SumI El) : SumI El := fun f args H =>
  bif Nat.beq f f0 then (match dec args H with
    | some x => some (ps x, res x, Hs x)
    | none => prev f args H) else prev f args H

/-- What is handed back, with the things that are reached from it. -/
def sumS {El : TypeId → Type} (n : Nat) (r : AV El) (H : List (AObj El)) : St El := { lo := n, slots := [(0, r)], n := 1, objs := H }
def forget {El : TypeId → Type} (H : List (AObj El)) (gs : List Nat) : List (AObj El) := gs.foldl (fun H i => setN H i .gone) H
def sumK {El : TypeId → Type} (gs : List Nat) (n : Nat) (r : AV El) (H : List (AObj El)) (r' : AV El) (H' : List (AObj El)) : Prop :=
  okH [0] [] (sumS n (deref1 (freezeAll H' (owns1 r')) r') (forget (freezeAll H' (owns1 r')) gs)) = true ∧ headS [0] [] (sumS n (deref1 (freezeAll H' (owns1 r')) r') (forget (freezeAll H' (owns1 r')) gs)) = sumS n r H

section
variable {C : Cx}
theorem forget_ok {B : Nat} {env : Env} {w : World} : ∀ (gs : List Nat) (H : List (AObj C.S.El)), Inv C.S B env w H → Inv C.S B env w (forget H gs) ∧ (forget H gs).length = H.length
  | [], H, h => ⟨h, rfl⟩
  | i :: gs, H, h => by
    obtain ⟨h1, h2⟩ := forget_ok gs (setN H i .gone) (h.forget i)
    exact ⟨h1, h2.trans (by rw [setN_eq, List.length_set])⟩
theorem sum_of_fun (hC : CxOk C) {f : FuncId} {args : List (AV C.S.El)} {H : List (AObj C.S.El)} {r : AV C.S.El} {H' : List (AObj C.S.El)} {ps : List Prop} (hpl : Plain C.P f) (fuel : Nat) (gs : List Nat) (h : (∀ p ∈ ps, p) → evFun C fuel f args H (sumK gs H.length r H')) (hlw : ∀ n, lwm C f n = n) : SumOk C.P C.S f args H ps r H' := by
  refine ⟨hpl, fun hp B env w vals hg hI => ?_⟩
  refine ((evFun_sound hC fuel).1 f args H _ (h hp) B env w vals hg hI).mono ?_
  rintro e w' ⟨v, env1, r1, H1, he, ⟨hk1, hk2⟩, hΓ, hI1, hE, hlen⟩
  rw [hlw] at hE hlen
  obtain ⟨envf, v1, If, Ef, lf, ff⟩ := freezeAll_sound hC.sig (owns1 r1) env1 H1 hI1
  have hΓf := deref1_sound If (hΓ.ext Ef hI1.fresh) ff
  obtain ⟨Ig, lg⟩ := forget_ok gs _ If
  have hEf : Ext B H.length env w envf w' := hE.trans (Ef.mono hlen)
  have hr : Rel C B envf (sumS H.length (deref1 (freezeAll H1 (owns1 r1)) r1) (forget (freezeAll H1 (owns1 r1)) gs)) { tmps := #[v], defers := [] } w' := by
    refine ⟨rfl, rfl, fun t => ?_, Ig, by show H.length ≤ _; simp only [sumS]; omega⟩
    simp only [sumS, lk]
    cases t with
    | zero => exact hΓf
    | succ t => exact .any _
  obtain ⟨env2, hr2, hE2, hlo⟩ := hr.ge hC.sig (headS_ge [0] [] _ hk1)
  rw [hk2] at hr2 hE2
  have h0 := hr2.slots 0
  exact ⟨v, env2, he, by simpa [sumS, lk] using h0, hr2.inv, hEf.trans (by simpa [sumS] using hE2), by simpa [sumS] using hr2.lo⟩

theorem sum_mk (hC : CxOk C) {f0 : FuncId} {X : Type} {dec : List (AV C.S.El) → List (AObj C.S.El) → Option X} {enc : X → List (AV C.S.El)} {encH : X → List (AObj C.S.El)} (hdec : ∀ args H x, dec args H = some x → Imp args (enc x) ∧ HImp H (encH x)) {ps : X → List Prop} {res : X → AV C.S.El} {Hs : X → List (AObj C.S.El)}
    (hpl : plainB C.P f0 = true) (fuel : Nat) (gs : List Nat) (h : ∀ x, (∀ p ∈ ps x, p) → evFun C fuel f0 (enc x) (encH x) (sumK gs (encH x).length (res x) (Hs x))) {prev : SumI C.S.El} (hprev : SumTab C.P C.S prev) (hlw : ∀ f n, lwm C f n = n := by intros; rfl) : SumTab C.P C.S (sumOf f0 dec ps res Hs prev) := by
  intro f args H p r H' hi
  unfold sumOf at hi
  cases hf : Nat.beq f f0
  · rw [hf, cond_false] at hi; exact hprev f args H p r H' hi
  · rw [hf, cond_true] at hi
    split at hi
    · rename_i x hx
      cases hi
      have := Nat.eq_of_beq_eq_true hf
      subst this
      obtain ⟨q1, q2⟩ := hdec args H x hx
      obtain ⟨_, hs⟩ := sum_of_fun (ps := ps x) hC (plainB_ok hpl) fuel gs (h x) (hlw _)
      refine ⟨plainB_ok hpl, fun hp B env w vals hg hI => ?_⟩
      rw [q2.len]
      exact hs hp B env w vals (q1 env w _ hg) (q2.inv hI)
    · exact hprev f args H p r H' hi
end

def mkCxI (P : Program) (S : Sig) (tab : List (FuncId × Ct S.El)) (u : Nat) (win : Bool) (I : SumI S.El) : Cx := { P := P, S := S, T := lookT tab, F := autoF P, unroll := u, win := win, I := I }
theorem mkCxI_ok {P : Program} {S : Sig} (hS : SigOk S) (hm : P.follows .mixedOrders = true) {tab : List (FuncId × Ct S.El)} (ht : TabOk P S tab) (u : Nat) (win : Bool) {I : SumI S.El} (hI : SumTab P S I) : CxOk (mkCxI P S tab u win I) :=
  have h := mkCx_ok hS hm ht u
  ⟨h.sig, h.ct, h.plainT, h.fn, h.mixed, hI, fun _ _ h => by cases h⟩
/-- .. where the tail of an own slice is an own slice. -/
def mkCxL (P : Program) (S : Sig) (tab : List (FuncId × Ct S.El)) (u : Nat) (win tl : Bool) (I : SumI S.El) : Cx := { P := P, S := S, T := lookT tab, F := autoF P, unroll := u, win := win, tl := tl, tr := tl, I := I }
theorem mkCxL_ok {P : Program} {S : Sig} (hS : SigOk S) (hm : P.follows .mixedOrders = true) {tab : List (FuncId × Ct S.El)} (ht : TabOk P S tab) (u : Nat) (win tl : Bool) {I : SumI S.El} (hI : SumTab P S I) : CxOk (mkCxL P S tab u win tl I) :=
  have h := mkCx_ok hS hm ht u
  ⟨h.sig, h.ct, h.plainT, h.fn, h.mixed, hI, fun _ _ h => by cases h⟩
/-- .. where new slices are written no more. -/
def mkCxF (P : Program) (S : Sig) (tab : List (FuncId × Ct S.El)) : Cx := { P := P, S := S, T := lookT tab, F := autoF P, unroll := 0, fz := true }
theorem mkCxF_ok {P : Program} {S : Sig} (hS : SigOk S) (hm : P.follows .mixedOrders = true) {tab : List (FuncId × Ct S.El)} (ht : TabOk P S tab) : CxOk (mkCxF P S tab) :=
  have h := mkCx_ok hS hm ht 0
  ⟨h.sig, h.ct, h.plainT, h.fn, h.mixed, h.sum, fun _ _ h => by cases h⟩
/-- .. with one function that hands back a map of bound methods. -/
def polyQ (g : FuncId) (q : IntKind × List Int × List FuncId) (f : FuncId) : Option (IntKind × List Int × List FuncId) := bif Nat.beq f g then some q else none
def PolyOk (P : Program) (S : Sig) (g : FuncId) (q : IntKind × List Int × List FuncId) : Prop :=
  ∃ ct : Ct S.El, CtOk (mkCx P S [] 0) g ct ∧ plainB P g = true ∧ ∀ ad : Addr, ct [.v (.pointer (some ad))] = some ([], mapClo q (.v (.pointer (some ad))), [])
def mkCxQ (P : Program) (S : Sig) (tab : List (FuncId × Ct S.El)) (u : Nat) (win tl : Bool) (I : SumI S.El) (g : FuncId) (q : IntKind × List Int × List FuncId) : Cx := { P := P, S := S, T := lookT tab, F := autoF P, unroll := u, win := win, tl := tl, tr := tl, I := I, Q := polyQ g q }
theorem mkCxQ_ok {P : Program} {S : Sig} (hS : SigOk S) (hm : P.follows .mixedOrders = true) {tab : List (FuncId × Ct S.El)} (ht : TabOk P S tab) (u : Nat) (win tl : Bool) {I : SumI S.El} (hI : SumTab P S I) {g : FuncId} {q : IntKind × List Int × List FuncId} (hq : PolyOk P S g q) : CxOk (mkCxQ P S tab u win tl I g q) :=
  have h := mkCx_ok hS hm ht u
  ⟨h.sig, h.ct, h.plainT, h.fn, h.mixed, hI, fun f q' hf => by
    simp only [mkCxQ, polyQ] at hf
    cases hb : Nat.beq f g
    · rw [hb] at hf; cases hf
    · rw [hb] at hf
      cases hf
      have := Nat.eq_of_beq_eq_true hb
      subst this
      obtain ⟨ct, h1, h2, h3⟩ := hq
      exact ⟨ct, h1, plainB_ok h2, h3⟩⟩
/-- .. where calls of some functions number anew all own things but the first. -/
def lwL : List FuncId → FuncId → Option Nat
  | [], _ => none
  | g :: l, f => bif Nat.beq f g then some 1 else lwL l f
def mkCxW (P : Program) (S : Sig) (tab : List (FuncId × Ct S.El)) (u : Nat) (l : List FuncId) : Cx := { P := P, S := S, T := lookT tab, F := autoF P, unroll := u, win := true, tl := true, tr := true, lw := lwL l, sp := true }
theorem mkCxW_ok {P : Program} {S : Sig} (hS : SigOk S) (hm : P.follows .mixedOrders = true) {tab : List (FuncId × Ct S.El)} (ht : TabOk P S tab) (u : Nat) (l : List FuncId) : CxOk (mkCxW P S tab u l) :=
  have h := mkCx_ok hS hm ht u
  ⟨h.sig, h.ct, h.plainT, h.fn, h.mixed, h.sum, fun _ _ h => by cases h⟩
/-- .. where regions with calls of some functions are reckoned in all their orders. -/
def anL : List FuncId → FuncId → Bool
  | [], _ => false
  | g :: l, f => Nat.beq f g || anL l f
def mkCxN (P : Program) (S : Sig) (tab : List (FuncId × Ct S.El)) (u : Nat) (l : List FuncId) : Cx := { P := P, S := S, T := lookT tab, F := autoF P, unroll := u, win := true, tl := true, tr := true, an := anL l, sp := true }
theorem mkCxN_ok {P : Program} {S : Sig} (hS : SigOk S) (hm : P.follows .mixedOrders = true) {tab : List (FuncId × Ct S.El)} (ht : TabOk P S tab) (u : Nat) (l : List FuncId) : CxOk (mkCxN P S tab u l) :=
  have h := mkCx_ok hS hm ht u
  ⟨h.sig, h.ct, h.plainT, h.fn, h.mixed, h.sum, fun _ _ h => by cases h⟩
end Go.Aw
