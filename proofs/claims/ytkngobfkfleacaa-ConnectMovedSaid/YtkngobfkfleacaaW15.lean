/- Contracts of the seat (printed by ct.py). -/
import Derived.Test.YtkngobfkfleacaaW14
set_option linter.unusedVariables false
set_option linter.unusedSimpArgs false
set_option maxRecDepth 20000
set_option maxHeartbeats 1000000
namespace Go.Aw.W
open Go Go.Aw Go.Proofs
attribute [local irreducible] evCode evFun evOps evDs evOne ctxK loopK loopB subC bodyC headS okH roundK

/-! wireless/wirelesslaw17.ready -/
def lready.res (r : Bool) : AV El := .v (.bool (r))
def lready.news (r : Bool) : List (AObj El) := []
def lready (a : Clock) (b : Clock) (u : Update) (x : Law17Beat) : Bool := bif
    bif
        bif
            bif
                bif
                    bif bif r11Check a == (0 : Int) then r11Check b == (0 : Int) else false then
                      decide ((0 : Int) ≤ x.Time)
                    else false then
                  decide (x.Time < (1099511627776 : Int))
                else false then
              r17CheckUpdate u == (0 : Int)
            else false then
          decide ((1 : Int) ≤ x.N)
        else false then
      decide (x.N ≤ (65536 : Int))
    else false then
  decide (r17Anchor (0 : Int) u x.N ≤ r17Timeout u)
else false
def lready.dec (cs : List (AV El)) : Option (Clock × Clock × Update × Law17Beat) := popA Clock.dec cs fun a0 c0 => popA Clock.dec c0 fun a1 c1 => popA Update.dec c1 fun a2 c2 => popA Law17Beat.dec c2 fun a3 c3 => popE c3 (a0, a1, a2, a3)
def lready.enc (x : Clock × Clock × Update × Law17Beat) : List (AV El) := [Clock.av x.1, Clock.av x.2.1, Update.av x.2.2.1, Law17Beat.av x.2.2.2]
theorem lready.dec_ok : ∀ cs x, lready.dec cs = some x → Imp (S := S) cs (lready.enc x) := by
  intro cs x h
  unfold lready.dec at h
  obtain ⟨a0, c0, h0, k0⟩ := popA_some (S := S) Clock.dec_ok h
  obtain ⟨a1, c1, h1, k1⟩ := popA_some (S := S) Clock.dec_ok h0
  obtain ⟨a2, c2, h2, k2⟩ := popA_some (S := S) Update.dec_ok h1
  obtain ⟨a3, c3, h3, k3⟩ := popA_some (S := S) Law17Beat.dec_ok h2
  obtain ⟨rfl, rfl⟩ := popE_some (S := S) h3
  exact (k0 _ (k1 _ (k2 _ (k3 _ (.refl _)))))
def lready.nf (a : Clock) (b : Clock) (u : Update) (x : Law17Beat) (K : AV El → List (AObj El) → Prop) : Prop := Ob (o3 (r11Check a == (0 : Int))) ∧ (Ob (o3 (r11Check a == (0 : Int))) ∧ (Ob (o2 (r11Check a == (0 : Int))) ∧ (Ob (o3 (bif r11Check a == (0 : Int) then r11Check b == (0 : Int) else false)) ∧ (Ob (o3 (bif r11Check a == (0 : Int) then r11Check b == (0 : Int) else false)) ∧ (Ob (o2 (bif r11Check a == (0 : Int) then r11Check b == (0 : Int) else false)) ∧ (Ob (o3 (bif bif r11Check a == (0 : Int) then r11Check b == (0 : Int) else false then decide ((0 : Int) ≤ x.Time) else false)) ∧ (Ob (o3 (bif bif r11Check a == (0 : Int) then r11Check b == (0 : Int) else false then decide ((0 : Int) ≤ x.Time) else false)) ∧ (Ob (o2 (bif bif r11Check a == (0 : Int) then r11Check b == (0 : Int) else false then decide ((0 : Int) ≤ x.Time) else false)) ∧ (Ob (o3 (bif
    bif bif r11Check a == (0 : Int) then r11Check b == (0 : Int) else false then decide ((0 : Int) ≤ x.Time)
    else false then
  decide (x.Time < (1099511627776 : Int))
else false)) ∧ (Ob (o3 (bif
    bif bif r11Check a == (0 : Int) then r11Check b == (0 : Int) else false then decide ((0 : Int) ≤ x.Time)
    else false then
  decide (x.Time < (1099511627776 : Int))
else false)) ∧ (Ob (o2 (bif
    bif bif r11Check a == (0 : Int) then r11Check b == (0 : Int) else false then decide ((0 : Int) ≤ x.Time)
    else false then
  decide (x.Time < (1099511627776 : Int))
else false)) ∧ (Ob (o3 (bif
    bif
        bif bif r11Check a == (0 : Int) then r11Check b == (0 : Int) else false then decide ((0 : Int) ≤ x.Time)
        else false then
      decide (x.Time < (1099511627776 : Int))
    else false then
  r17CheckUpdate u == (0 : Int)
else false)) ∧ (Ob (o3 (bif
    bif
        bif bif r11Check a == (0 : Int) then r11Check b == (0 : Int) else false then decide ((0 : Int) ≤ x.Time)
        else false then
      decide (x.Time < (1099511627776 : Int))
    else false then
  r17CheckUpdate u == (0 : Int)
else false)) ∧ (Ob (o2 (bif
    bif
        bif bif r11Check a == (0 : Int) then r11Check b == (0 : Int) else false then decide ((0 : Int) ≤ x.Time)
        else false then
      decide (x.Time < (1099511627776 : Int))
    else false then
  r17CheckUpdate u == (0 : Int)
else false)) ∧ (Ob (o3 (bif
    bif
        bif
            bif bif r11Check a == (0 : Int) then r11Check b == (0 : Int) else false then decide ((0 : Int) ≤ x.Time)
            else false then
          decide (x.Time < (1099511627776 : Int))
        else false then
      r17CheckUpdate u == (0 : Int)
    else false then
  decide ((1 : Int) ≤ x.N)
else false)) ∧ (Ob (o3 (bif
    bif
        bif
            bif bif r11Check a == (0 : Int) then r11Check b == (0 : Int) else false then decide ((0 : Int) ≤ x.Time)
            else false then
          decide (x.Time < (1099511627776 : Int))
        else false then
      r17CheckUpdate u == (0 : Int)
    else false then
  decide ((1 : Int) ≤ x.N)
else false)) ∧ (Ob (o2 (bif
    bif
        bif
            bif bif r11Check a == (0 : Int) then r11Check b == (0 : Int) else false then decide ((0 : Int) ≤ x.Time)
            else false then
          decide (x.Time < (1099511627776 : Int))
        else false then
      r17CheckUpdate u == (0 : Int)
    else false then
  decide ((1 : Int) ≤ x.N)
else false)) ∧ (Ob (o3 (bif
    bif
        bif
            bif
                bif bif r11Check a == (0 : Int) then r11Check b == (0 : Int) else false then decide ((0 : Int) ≤ x.Time)
                else false then
              decide (x.Time < (1099511627776 : Int))
            else false then
          r17CheckUpdate u == (0 : Int)
        else false then
      decide ((1 : Int) ≤ x.N)
    else false then
  decide (x.N ≤ (65536 : Int))
else false)) ∧ (Ob (o3 (bif
    bif
        bif
            bif
                bif bif r11Check a == (0 : Int) then r11Check b == (0 : Int) else false then decide ((0 : Int) ≤ x.Time)
                else false then
              decide (x.Time < (1099511627776 : Int))
            else false then
          r17CheckUpdate u == (0 : Int)
        else false then
      decide ((1 : Int) ≤ x.N)
    else false then
  decide (x.N ≤ (65536 : Int))
else false)) ∧ (Ob (o3 (bif
    bif
        bif
            bif
                bif bif r11Check a == (0 : Int) then r11Check b == (0 : Int) else false then decide ((0 : Int) ≤ x.Time)
                else false then
              decide (x.Time < (1099511627776 : Int))
            else false then
          r17CheckUpdate u == (0 : Int)
        else false then
      decide ((1 : Int) ≤ x.N)
    else false then
  decide (x.N ≤ (65536 : Int))
else false)) ∧ (Ob (o3 (bif
    bif
        bif
            bif
                bif bif r11Check a == (0 : Int) then r11Check b == (0 : Int) else false then decide ((0 : Int) ≤ x.Time)
                else false then
              decide (x.Time < (1099511627776 : Int))
            else false then
          r17CheckUpdate u == (0 : Int)
        else false then
      decide ((1 : Int) ≤ x.N)
    else false then
  decide (x.N ≤ (65536 : Int))
else false)) ∧ (Ob (o3 (bif
    bif
        bif
            bif
                bif bif r11Check a == (0 : Int) then r11Check b == (0 : Int) else false then decide ((0 : Int) ≤ x.Time)
                else false then
              decide (x.Time < (1099511627776 : Int))
            else false then
          r17CheckUpdate u == (0 : Int)
        else false then
      decide ((1 : Int) ≤ x.N)
    else false then
  decide (x.N ≤ (65536 : Int))
else false)) ∧ (Ob (o3 (bif
    bif
        bif
            bif
                bif bif r11Check a == (0 : Int) then r11Check b == (0 : Int) else false then decide ((0 : Int) ≤ x.Time)
                else false then
              decide (x.Time < (1099511627776 : Int))
            else false then
          r17CheckUpdate u == (0 : Int)
        else false then
      decide ((1 : Int) ≤ x.N)
    else false then
  decide (x.N ≤ (65536 : Int))
else false)) ∧ (Ob (o2 (bif
    bif
        bif
            bif
                bif bif r11Check a == (0 : Int) then r11Check b == (0 : Int) else false then decide ((0 : Int) ≤ x.Time)
                else false then
              decide (x.Time < (1099511627776 : Int))
            else false then
          r17CheckUpdate u == (0 : Int)
        else false then
      decide ((1 : Int) ≤ x.N)
    else false then
  decide (x.N ≤ (65536 : Int))
else false)) ∧ (K (.v (.bool (bif
    bif
        bif
            bif
                bif
                    bif bif r11Check a == (0 : Int) then r11Check b == (0 : Int) else false then
                      decide ((0 : Int) ≤ x.Time)
                    else false then
                  decide (x.Time < (1099511627776 : Int))
                else false then
              r17CheckUpdate u == (0 : Int)
            else false then
          decide ((1 : Int) ≤ x.N)
        else false then
      decide (x.N ≤ (65536 : Int))
    else false then
  decide (r17Anchor (0 : Int) u x.N ≤ r17Timeout u)
else false))) [.cells [.v (.int .i64 (a.PPM)), .v (.int .i64 (a.Start))], .cells [.v (.int .i64 (b.PPM)), .v (.int .i64 (b.Start))], .cells [.v (.int .i64 (u.WinSize)), .v (.int .i64 (u.WinOffset)), .v (.int .i64 (u.Interval)), .v (.int .i64 (u.Latency)), .v (.int .i64 (u.Timeout))], .cells [.v (.int .i64 (x.Time)), .v (.int .i64 (x.N)), .v (.int .i64 (x.More)), .v (.int .i64 (x.X))]])))))))))))))))))))))))))
theorem lready.nf_ok (a : Clock) (b : Clock) (u : Update) (x : Law17Beat) (K : AV El → List (AObj El) → Prop) : evFun (mkCx Try.prog S tab_kReal 0) 4 31 [Clock.av a, Clock.av b, Update.av u, Law17Beat.av x] [] K = lready.nf a b u x K := by kernel_rfl
theorem lready.key (a : Clock) (b : Clock) (u : Update) (x : Law17Beat) (v : Bool) (hv : v = lready a b u x) : lready.nf a b u x (fun r' H' => Gives r' H' (lready.res v) (lready.news v)) := by
  unfold lready at hv
  unfold lready.nf
  refine ⟨⟨o3_ok _⟩, ?_⟩
  refine ⟨⟨o3_ok _⟩, ?_⟩
  refine ⟨⟨o2_ok _⟩, ?_⟩
  refine ⟨⟨o3_ok _⟩, ?_⟩
  refine ⟨⟨o3_ok _⟩, ?_⟩
  refine ⟨⟨o2_ok _⟩, ?_⟩
  refine ⟨⟨o3_ok _⟩, ?_⟩
  refine ⟨⟨o3_ok _⟩, ?_⟩
  refine ⟨⟨o2_ok _⟩, ?_⟩
  refine ⟨⟨o3_ok _⟩, ?_⟩
  refine ⟨⟨o3_ok _⟩, ?_⟩
  refine ⟨⟨o2_ok _⟩, ?_⟩
  refine ⟨⟨o3_ok _⟩, ?_⟩
  refine ⟨⟨o3_ok _⟩, ?_⟩
  refine ⟨⟨o2_ok _⟩, ?_⟩
  refine ⟨⟨o3_ok _⟩, ?_⟩
  refine ⟨⟨o3_ok _⟩, ?_⟩
  refine ⟨⟨o2_ok _⟩, ?_⟩
  refine ⟨⟨o3_ok _⟩, ?_⟩
  refine ⟨⟨o3_ok _⟩, ?_⟩
  refine ⟨⟨o3_ok _⟩, ?_⟩
  refine ⟨⟨o3_ok _⟩, ?_⟩
  refine ⟨⟨o3_ok _⟩, ?_⟩
  refine ⟨⟨o3_ok _⟩, ?_⟩
  refine ⟨⟨o2_ok _⟩, ?_⟩
  subst hv; exact And.intro (by kernel_rfl) (by kernel_rfl)
def lready.ct : Ct El := ctOf lready.dec (fun _ => []) (fun x => lready.res (lready x.1 x.2.1 x.2.2.1 x.2.2.2)) (fun x => lready.news (lready x.1 x.2.1 x.2.2.1 x.2.2.2))
theorem lready.ok : CtOk (mkCx Try.prog S [] 0) 31 lready.ct := ct_mk (C := (mkCx Try.prog S tab_kReal 0)) (mkCx_ok sigOk mixed tab_kReal_ok 0) lready.dec_ok (fun x => rfl) 4 (fun x _ => (lready.nf_ok x.1 x.2.1 x.2.2.1 x.2.2.2 _).mpr (lready.key x.1 x.2.1 x.2.2.1 x.2.2.2 _ rfl))
def tab_lready : List (FuncId × Ct El) := (31, lready.ct) :: tab_kReal
theorem tab_lready_ok : TabOk Try.prog S tab_lready := ⟨lready.ok, by kernel_rfl, tab_kReal_ok⟩

/-! wireless/wirelesslaw17.ConnectWindow -/
def connectWindow.res (r : Bool) : AV El := .v (.bool (r))
def connectWindow.news (r : Bool) : List (AObj El) := []
def connectWindow (c : Law17Two) (u : Update) (x : Law17Beat) : Bool := cond (!lready c.A c.B u x) (true) (cond (decide ((1099511627776 : Int) ≤ kReal c.A (cAnchor (kLocal c.A x.Time) u x.N))) (true) (bif
    decide
      ((cExpect (kLocal c.B x.Time) x.N u (deviation c.A c.B x.More)).Start ≤
        kLocal c.B (kReal c.A (cAnchor (kLocal c.A x.Time) u x.N))) then
  decide
    (kLocal c.B (kReal c.A (cAnchor (kLocal c.A x.Time) u x.N)) <
      (cExpect (kLocal c.B x.Time) x.N u (deviation c.A c.B x.More)).End)
else false))
def connectWindow.dec (cs : List (AV El)) : Option (Law17Two × Update × Law17Beat) := popA Law17Two.dec cs fun a0 c0 => popA Update.dec c0 fun a1 c1 => popA Law17Beat.dec c1 fun a2 c2 => popE c2 (a0, a1, a2)
def connectWindow.enc (x : Law17Two × Update × Law17Beat) : List (AV El) := [Law17Two.av x.1, Update.av x.2.1, Law17Beat.av x.2.2]
theorem connectWindow.dec_ok : ∀ cs x, connectWindow.dec cs = some x → Imp (S := S) cs (connectWindow.enc x) := by
  intro cs x h
  unfold connectWindow.dec at h
  obtain ⟨a0, c0, h0, k0⟩ := popA_some (S := S) Law17Two.dec_ok h
  obtain ⟨a1, c1, h1, k1⟩ := popA_some (S := S) Update.dec_ok h0
  obtain ⟨a2, c2, h2, k2⟩ := popA_some (S := S) Law17Beat.dec_ok h1
  obtain ⟨rfl, rfl⟩ := popE_some (S := S) h2
  exact (k0 _ (k1 _ (k2 _ (.refl _))))
def connectWindow.nf (c : Law17Two) (u : Update) (x : Law17Beat) (K : AV El → List (AObj El) → Prop) : Prop := cond (!lready c.A c.B u x) (K (.v (.bool (true))) [.cells [.v (.int .i64 (c.A.PPM)), .v (.int .i64 (c.A.Start)), .v (.int .i64 (c.B.PPM)), .v (.int .i64 (c.B.Start))], .cells [.v (.int .i64 (u.WinSize)), .v (.int .i64 (u.WinOffset)), .v (.int .i64 (u.Interval)), .v (.int .i64 (u.Latency)), .v (.int .i64 (u.Timeout))], .cells [.v (.int .i64 (x.Time)), .v (.int .i64 (x.N)), .v (.int .i64 (x.More)), .v (.int .i64 (x.X))]]) (cond (decide ((1099511627776 : Int) ≤ kReal c.A (cAnchor (kLocal c.A x.Time) u x.N))) (K (.v (.bool (true))) [.cells [.v (.int .i64 (c.A.PPM)), .v (.int .i64 (c.A.Start)), .v (.int .i64 (c.B.PPM)), .v (.int .i64 (c.B.Start))], .cells [.v (.int .i64 (u.WinSize)), .v (.int .i64 (u.WinOffset)), .v (.int .i64 (u.Interval)), .v (.int .i64 (u.Latency)), .v (.int .i64 (u.Timeout))], .cells [.v (.int .i64 (x.Time)), .v (.int .i64 (x.N)), .v (.int .i64 (x.More)), .v (.int .i64 (x.X))]]) (Ob (o3 (decide
  ((cExpect (kLocal c.B x.Time) x.N u (deviation c.A c.B x.More)).Start ≤
    kLocal c.B (kReal c.A (cAnchor (kLocal c.A x.Time) u x.N))))) ∧ (Ob (o3 (decide
  ((cExpect (kLocal c.B x.Time) x.N u (deviation c.A c.B x.More)).Start ≤
    kLocal c.B (kReal c.A (cAnchor (kLocal c.A x.Time) u x.N))))) ∧ (Ob (o3 (decide
  ((cExpect (kLocal c.B x.Time) x.N u (deviation c.A c.B x.More)).Start ≤
    kLocal c.B (kReal c.A (cAnchor (kLocal c.A x.Time) u x.N))))) ∧ (Ob (o2 (decide
  ((cExpect (kLocal c.B x.Time) x.N u (deviation c.A c.B x.More)).Start ≤
    kLocal c.B (kReal c.A (cAnchor (kLocal c.A x.Time) u x.N))))) ∧ (K (.v (.bool (bif
    decide
      ((cExpect (kLocal c.B x.Time) x.N u (deviation c.A c.B x.More)).Start ≤
        kLocal c.B (kReal c.A (cAnchor (kLocal c.A x.Time) u x.N))) then
  decide
    (kLocal c.B (kReal c.A (cAnchor (kLocal c.A x.Time) u x.N)) <
      (cExpect (kLocal c.B x.Time) x.N u (deviation c.A c.B x.More)).End)
else false))) [.cells [.v (.int .i64 (c.A.PPM)), .v (.int .i64 (c.A.Start)), .v (.int .i64 (c.B.PPM)), .v (.int .i64 (c.B.Start))], .cells [.v (.int .i64 (u.WinSize)), .v (.int .i64 (u.WinOffset)), .v (.int .i64 (u.Interval)), .v (.int .i64 (u.Latency)), .v (.int .i64 (u.Timeout))], .cells [.v (.int .i64 (x.Time)), .v (.int .i64 (x.N)), .v (.int .i64 (x.More)), .v (.int .i64 (x.X))], .cells [.v (.int .i64 ((cExpect (kLocal c.B x.Time) x.N u (deviation c.A c.B x.More)).Start)), .v (.int .i64 ((cExpect (kLocal c.B x.Time) x.N u (deviation c.A c.B x.More)).End))]]))))))
theorem connectWindow.nf_ok (c : Law17Two) (u : Update) (x : Law17Beat) (K : AV El → List (AObj El) → Prop) : evFun (mkCx Try.prog S tab_lready 0) 4 9 [Law17Two.av c, Update.av u, Law17Beat.av x] [] K = connectWindow.nf c u x K := by kernel_rfl
theorem connectWindow.key (c : Law17Two) (u : Update) (x : Law17Beat) (v : Bool) (hv : v = connectWindow c u x) : connectWindow.nf c u x (fun r' H' => Gives r' H' (connectWindow.res v) (connectWindow.news v)) := by
  unfold connectWindow at hv
  unfold connectWindow.nf
  refine by_cond (fun hb hv => ?_) (fun hb hv => ?_) hv
  · subst hv; exact And.intro (by kernel_rfl) (by kernel_rfl)
  · refine by_cond (fun hb hv => ?_) (fun hb hv => ?_) hv
    · subst hv; exact And.intro (by kernel_rfl) (by kernel_rfl)
    · refine ⟨⟨o3_ok _⟩, ?_⟩
      refine ⟨⟨o3_ok _⟩, ?_⟩
      refine ⟨⟨o3_ok _⟩, ?_⟩
      refine ⟨⟨o2_ok _⟩, ?_⟩
      subst hv; exact And.intro (by kernel_rfl) (by kernel_rfl)
def connectWindow.ct : Ct El := ctOf connectWindow.dec (fun _ => []) (fun x => connectWindow.res (connectWindow x.1 x.2.1 x.2.2)) (fun x => connectWindow.news (connectWindow x.1 x.2.1 x.2.2))
theorem connectWindow.ok : CtOk (mkCx Try.prog S [] 0) 9 connectWindow.ct := ct_mk (C := (mkCx Try.prog S tab_lready 0)) (mkCx_ok sigOk mixed tab_lready_ok 0) connectWindow.dec_ok (fun x => rfl) 4 (fun x _ => (connectWindow.nf_ok x.1 x.2.1 x.2.2 _).mpr (connectWindow.key x.1 x.2.1 x.2.2 _ rfl))
def tab_connectWindow : List (FuncId × Ct El) := (9, connectWindow.ct) :: tab_lready
theorem tab_connectWindow_ok : TabOk Try.prog S tab_connectWindow := ⟨connectWindow.ok, by kernel_rfl, tab_lready_ok⟩

/-! wireless/wirelesslaw17.ConnectMoved -/
def connectMoved.res (r : Bool) : AV El := .v (.bool (r))
def connectMoved.news (r : Bool) : List (AObj El) := []
def connectMoved (c : Law17Two) (change : Arr63) (x : Law17Beat) : Bool := cond (bif
    bif bif !lready c.A c.B change.e0 x then true else r17CheckUpdate change.e1 != (0 : Int) then true
    else decide (x.X < (0 : Int)) then
  true
else decide ((r17Due x.N change.e0 change.e1).snd < x.X)) (true) (cond (decide
  ((1099511627776 : Int) ≤
    kReal c.A
      (IntKind.wrap IntKind.i64
        (IntKind.wrap IntKind.i64 (kLocal c.A x.Time + (r17Due x.N change.e0 change.e1).fst) + x.X)))) (true) (bif
    decide
      ((cMoved (kLocal c.B x.Time) x.N change.e0 change.e1 (deviation c.A c.B x.More)).Start ≤
        kLocal c.B
          (kReal c.A
            (IntKind.wrap IntKind.i64
              (IntKind.wrap IntKind.i64 (kLocal c.A x.Time + (r17Due x.N change.e0 change.e1).fst) + x.X)))) then
  decide
    (kLocal c.B
        (kReal c.A
          (IntKind.wrap IntKind.i64
            (IntKind.wrap IntKind.i64 (kLocal c.A x.Time + (r17Due x.N change.e0 change.e1).fst) + x.X))) <
      (cMoved (kLocal c.B x.Time) x.N change.e0 change.e1 (deviation c.A c.B x.More)).End)
else false))
def connectMoved.dec (cs : List (AV El)) : Option (Law17Two × Arr63 × Law17Beat) := popA Law17Two.dec cs fun a0 c0 => popA Arr63.dec c0 fun a1 c1 => popA Law17Beat.dec c1 fun a2 c2 => popE c2 (a0, a1, a2)
def connectMoved.enc (x : Law17Two × Arr63 × Law17Beat) : List (AV El) := [Law17Two.av x.1, Arr63.av x.2.1, Law17Beat.av x.2.2]
theorem connectMoved.dec_ok : ∀ cs x, connectMoved.dec cs = some x → Imp (S := S) cs (connectMoved.enc x) := by
  intro cs x h
  unfold connectMoved.dec at h
  obtain ⟨a0, c0, h0, k0⟩ := popA_some (S := S) Law17Two.dec_ok h
  obtain ⟨a1, c1, h1, k1⟩ := popA_some (S := S) Arr63.dec_ok h0
  obtain ⟨a2, c2, h2, k2⟩ := popA_some (S := S) Law17Beat.dec_ok h1
  obtain ⟨rfl, rfl⟩ := popE_some (S := S) h2
  exact (k0 _ (k1 _ (k2 _ (.refl _))))
def connectMoved.nf (c : Law17Two) (change : Arr63) (x : Law17Beat) (K : AV El → List (AObj El) → Prop) : Prop := Ob ((0 : Int) ≤ (0 : Int) ∧ (0 : Int) < (↑(2 : Nat) : Int)) ∧ (Ob ((0 : Int) ≤ (1 : Int) ∧ (1 : Int) < (↑(2 : Nat) : Int)) ∧ (Ob (o3 (!!lready c.A c.B change.e0 x)) ∧ (Ob (o3 (!!lready c.A c.B change.e0 x)) ∧ (Ob (on (!lready c.A c.B change.e0 x)) ∧ (Ob (o3 (!bif !lready c.A c.B change.e0 x then true else r17CheckUpdate change.e1 != (0 : Int))) ∧ (Ob (o3 (!bif !lready c.A c.B change.e0 x then true else r17CheckUpdate change.e1 != (0 : Int))) ∧ (Ob (on (bif !lready c.A c.B change.e0 x then true else r17CheckUpdate change.e1 != (0 : Int))) ∧ (Ob (o3 (!bif bif !lready c.A c.B change.e0 x then true else r17CheckUpdate change.e1 != (0 : Int) then true
  else decide (x.X < (0 : Int)))) ∧ (Ob (o3 (!bif bif !lready c.A c.B change.e0 x then true else r17CheckUpdate change.e1 != (0 : Int) then true
  else decide (x.X < (0 : Int)))) ∧ (Ob (o3 (!bif bif !lready c.A c.B change.e0 x then true else r17CheckUpdate change.e1 != (0 : Int) then true
  else decide (x.X < (0 : Int)))) ∧ (Ob (on (bif bif !lready c.A c.B change.e0 x then true else r17CheckUpdate change.e1 != (0 : Int) then true
else decide (x.X < (0 : Int)))) ∧ (cond (bif
    bif bif !lready c.A c.B change.e0 x then true else r17CheckUpdate change.e1 != (0 : Int) then true
    else decide (x.X < (0 : Int)) then
  true
else decide ((r17Due x.N change.e0 change.e1).snd < x.X)) (K (.v (.bool (true))) [.cells [.v (.int .i64 (c.A.PPM)), .v (.int .i64 (c.A.Start)), .v (.int .i64 (c.B.PPM)), .v (.int .i64 (c.B.Start))], .cells [.v (.int .i64 (change.e0.WinSize)), .v (.int .i64 (change.e0.WinOffset)), .v (.int .i64 (change.e0.Interval)), .v (.int .i64 (change.e0.Latency)), .v (.int .i64 (change.e0.Timeout)), .v (.int .i64 (change.e1.WinSize)), .v (.int .i64 (change.e1.WinOffset)), .v (.int .i64 (change.e1.Interval)), .v (.int .i64 (change.e1.Latency)), .v (.int .i64 (change.e1.Timeout))], .cells [.v (.int .i64 (x.Time)), .v (.int .i64 (x.N)), .v (.int .i64 (x.More)), .v (.int .i64 (x.X))], .cells [.v (.int .i64 (change.e0.WinSize)), .v (.int .i64 (change.e0.WinOffset)), .v (.int .i64 (change.e0.Interval)), .v (.int .i64 (change.e0.Latency)), .v (.int .i64 (change.e0.Timeout))], .cells [.v (.int .i64 (change.e1.WinSize)), .v (.int .i64 (change.e1.WinOffset)), .v (.int .i64 (change.e1.Interval)), .v (.int .i64 (change.e1.Latency)), .v (.int .i64 (change.e1.Timeout))]]) (cond (decide
  ((1099511627776 : Int) ≤
    kReal c.A
      (IntKind.wrap IntKind.i64
        (IntKind.wrap IntKind.i64 (kLocal c.A x.Time + (r17Due x.N change.e0 change.e1).fst) + x.X)))) (K (.v (.bool (true))) [.cells [.v (.int .i64 (c.A.PPM)), .v (.int .i64 (c.A.Start)), .v (.int .i64 (c.B.PPM)), .v (.int .i64 (c.B.Start))], .cells [.v (.int .i64 (change.e0.WinSize)), .v (.int .i64 (change.e0.WinOffset)), .v (.int .i64 (change.e0.Interval)), .v (.int .i64 (change.e0.Latency)), .v (.int .i64 (change.e0.Timeout)), .v (.int .i64 (change.e1.WinSize)), .v (.int .i64 (change.e1.WinOffset)), .v (.int .i64 (change.e1.Interval)), .v (.int .i64 (change.e1.Latency)), .v (.int .i64 (change.e1.Timeout))], .cells [.v (.int .i64 (x.Time)), .v (.int .i64 (x.N)), .v (.int .i64 (x.More)), .v (.int .i64 (x.X))], .cells [.v (.int .i64 (change.e0.WinSize)), .v (.int .i64 (change.e0.WinOffset)), .v (.int .i64 (change.e0.Interval)), .v (.int .i64 (change.e0.Latency)), .v (.int .i64 (change.e0.Timeout))], .cells [.v (.int .i64 (change.e1.WinSize)), .v (.int .i64 (change.e1.WinOffset)), .v (.int .i64 (change.e1.Interval)), .v (.int .i64 (change.e1.Latency)), .v (.int .i64 (change.e1.Timeout))]]) (Ob (o3 (decide
  ((cMoved (kLocal c.B x.Time) x.N change.e0 change.e1 (deviation c.A c.B x.More)).Start ≤
    kLocal c.B
      (kReal c.A
        (IntKind.wrap IntKind.i64
          (IntKind.wrap IntKind.i64 (kLocal c.A x.Time + (r17Due x.N change.e0 change.e1).fst) + x.X)))))) ∧ (Ob (o3 (decide
  ((cMoved (kLocal c.B x.Time) x.N change.e0 change.e1 (deviation c.A c.B x.More)).Start ≤
    kLocal c.B
      (kReal c.A
        (IntKind.wrap IntKind.i64
          (IntKind.wrap IntKind.i64 (kLocal c.A x.Time + (r17Due x.N change.e0 change.e1).fst) + x.X)))))) ∧ (Ob (o3 (decide
  ((cMoved (kLocal c.B x.Time) x.N change.e0 change.e1 (deviation c.A c.B x.More)).Start ≤
    kLocal c.B
      (kReal c.A
        (IntKind.wrap IntKind.i64
          (IntKind.wrap IntKind.i64 (kLocal c.A x.Time + (r17Due x.N change.e0 change.e1).fst) + x.X)))))) ∧ (Ob (o2 (decide
  ((cMoved (kLocal c.B x.Time) x.N change.e0 change.e1 (deviation c.A c.B x.More)).Start ≤
    kLocal c.B
      (kReal c.A
        (IntKind.wrap IntKind.i64
          (IntKind.wrap IntKind.i64 (kLocal c.A x.Time + (r17Due x.N change.e0 change.e1).fst) + x.X)))))) ∧ (K (.v (.bool (bif
    decide
      ((cMoved (kLocal c.B x.Time) x.N change.e0 change.e1 (deviation c.A c.B x.More)).Start ≤
        kLocal c.B
          (kReal c.A
            (IntKind.wrap IntKind.i64
              (IntKind.wrap IntKind.i64 (kLocal c.A x.Time + (r17Due x.N change.e0 change.e1).fst) + x.X)))) then
  decide
    (kLocal c.B
        (kReal c.A
          (IntKind.wrap IntKind.i64
            (IntKind.wrap IntKind.i64 (kLocal c.A x.Time + (r17Due x.N change.e0 change.e1).fst) + x.X))) <
      (cMoved (kLocal c.B x.Time) x.N change.e0 change.e1 (deviation c.A c.B x.More)).End)
else false))) [.cells [.v (.int .i64 (c.A.PPM)), .v (.int .i64 (c.A.Start)), .v (.int .i64 (c.B.PPM)), .v (.int .i64 (c.B.Start))], .cells [.v (.int .i64 (change.e0.WinSize)), .v (.int .i64 (change.e0.WinOffset)), .v (.int .i64 (change.e0.Interval)), .v (.int .i64 (change.e0.Latency)), .v (.int .i64 (change.e0.Timeout)), .v (.int .i64 (change.e1.WinSize)), .v (.int .i64 (change.e1.WinOffset)), .v (.int .i64 (change.e1.Interval)), .v (.int .i64 (change.e1.Latency)), .v (.int .i64 (change.e1.Timeout))], .cells [.v (.int .i64 (x.Time)), .v (.int .i64 (x.N)), .v (.int .i64 (x.More)), .v (.int .i64 (x.X))], .cells [.v (.int .i64 (change.e0.WinSize)), .v (.int .i64 (change.e0.WinOffset)), .v (.int .i64 (change.e0.Interval)), .v (.int .i64 (change.e0.Latency)), .v (.int .i64 (change.e0.Timeout))], .cells [.v (.int .i64 (change.e1.WinSize)), .v (.int .i64 (change.e1.WinOffset)), .v (.int .i64 (change.e1.Interval)), .v (.int .i64 (change.e1.Latency)), .v (.int .i64 (change.e1.Timeout))], .cells [.v (.int .i64 ((cMoved (kLocal c.B x.Time) x.N change.e0 change.e1 (deviation c.A c.B x.More)).Start)), .v (.int .i64 ((cMoved (kLocal c.B x.Time) x.N change.e0 change.e1 (deviation c.A c.B x.More)).End))]]))))))))))))))))))
theorem connectMoved.nf_ok (c : Law17Two) (change : Arr63) (x : Law17Beat) (K : AV El → List (AObj El) → Prop) : evFun (mkCx Try.prog S tab_lready 0) 4 10 [Law17Two.av c, Arr63.av change, Law17Beat.av x] [] K = connectMoved.nf c change x K := by kernel_rfl
theorem connectMoved.key (c : Law17Two) (change : Arr63) (x : Law17Beat) (v : Bool) (hv : v = connectMoved c change x) : connectMoved.nf c change x (fun r' H' => Gives r' H' (connectMoved.res v) (connectMoved.news v)) := by
  unfold connectMoved at hv
  unfold connectMoved.nf
  refine ⟨⟨by (try clear hv); (try clear q1 q2); (try clear hk); (try simp only [decide_eq_true_eq, decide_eq_false_iff_not, Bool.not_eq_true, Bool.not_eq_false, Bool.and_eq_true, Bool.or_eq_true, Bool.not_not, cond_and, cond_or, List.length_append, List.length_cons, List.length_nil] at *); (first | omega | (intros; (try simp only [Bool.not_not, cond_and, cond_or, Bool.and_eq_true, decide_eq_true_eq] at *); (exact cEncode_len _)) | (intros; omega) | (intros; simp only [sized_iff, Bool.not_not, cond_and, cond_or, Bool.and_eq_true, decide_eq_true_eq] at *; omega) | (intros; simp_all [sized_iff, Bool.not_not]; done))⟩, ?_⟩
  refine ⟨⟨by (try clear hv); (try clear q1 q2); (try clear hk); (try simp only [decide_eq_true_eq, decide_eq_false_iff_not, Bool.not_eq_true, Bool.not_eq_false, Bool.and_eq_true, Bool.or_eq_true, Bool.not_not, cond_and, cond_or, List.length_append, List.length_cons, List.length_nil] at *); (first | omega | (intros; (try simp only [Bool.not_not, cond_and, cond_or, Bool.and_eq_true, decide_eq_true_eq] at *); (exact cEncode_len _)) | (intros; omega) | (intros; simp only [sized_iff, Bool.not_not, cond_and, cond_or, Bool.and_eq_true, decide_eq_true_eq] at *; omega) | (intros; simp_all [sized_iff, Bool.not_not]; done))⟩, ?_⟩
  refine ⟨⟨o3_ok _⟩, ?_⟩
  refine ⟨⟨o3_ok _⟩, ?_⟩
  refine ⟨⟨on_ok _⟩, ?_⟩
  refine ⟨⟨o3_ok _⟩, ?_⟩
  refine ⟨⟨o3_ok _⟩, ?_⟩
  refine ⟨⟨on_ok _⟩, ?_⟩
  refine ⟨⟨o3_ok _⟩, ?_⟩
  refine ⟨⟨o3_ok _⟩, ?_⟩
  refine ⟨⟨o3_ok _⟩, ?_⟩
  refine ⟨⟨on_ok _⟩, ?_⟩
  refine by_cond (fun hb hv => ?_) (fun hb hv => ?_) hv
  · subst hv; exact And.intro (by kernel_rfl) (by kernel_rfl)
  · refine by_cond (fun hb hv => ?_) (fun hb hv => ?_) hv
    · subst hv; exact And.intro (by kernel_rfl) (by kernel_rfl)
    · refine ⟨⟨o3_ok _⟩, ?_⟩
      refine ⟨⟨o3_ok _⟩, ?_⟩
      refine ⟨⟨o3_ok _⟩, ?_⟩
      refine ⟨⟨o2_ok _⟩, ?_⟩
      subst hv; exact And.intro (by kernel_rfl) (by kernel_rfl)
def connectMoved.ct : Ct El := ctOf connectMoved.dec (fun _ => []) (fun x => connectMoved.res (connectMoved x.1 x.2.1 x.2.2)) (fun x => connectMoved.news (connectMoved x.1 x.2.1 x.2.2))
theorem connectMoved.ok : CtOk (mkCx Try.prog S [] 0) 10 connectMoved.ct := ct_mk (C := (mkCx Try.prog S tab_lready 0)) (mkCx_ok sigOk mixed tab_lready_ok 0) connectMoved.dec_ok (fun x => rfl) 4 (fun x _ => (connectMoved.nf_ok x.1 x.2.1 x.2.2 _).mpr (connectMoved.key x.1 x.2.1 x.2.2 _ rfl))
def tab_connectMoved : List (FuncId × Ct El) := (10, connectMoved.ct) :: tab_connectWindow
theorem tab_connectMoved_ok : TabOk Try.prog S tab_connectMoved := ⟨connectMoved.ok, by kernel_rfl, tab_connectWindow_ok⟩

end Go.Aw.W
