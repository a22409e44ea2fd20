/- Contracts of the seat (printed by ct.py). -/
import Derived.Test.YtkngobfkfleacaaW11
set_option linter.unusedVariables false
set_option linter.unusedSimpArgs false
set_option maxRecDepth 20000
set_option maxHeartbeats 1000000
namespace Go.Aw.W
open Go Go.Aw Go.Proofs
attribute [local irreducible] evCode evFun evOps evDs evOne ctxK loopK loopB subC bodyC headS okH roundK

/-! wireless/wirelesslaw17.lives -/
def lives.res (r : Bool) : AV El := .v (.bool (r))
def lives.news (r : Bool) : List (AObj El) := []
def lives  : Bool := true
def lives.dec (cs : List (AV El)) : Option (Unit) := popE cs ()
def lives.enc (x : Unit) : List (AV El) := []
theorem lives.dec_ok : ∀ cs x, lives.dec cs = some x → Imp (S := S) cs (lives.enc x) := by
  intro cs x h
  unfold lives.dec at h
  obtain ⟨rfl, rfl⟩ := popE_some (S := S) h
  exact (.refl _)
def lives.nf  (K : AV El → List (AObj El) → Prop) : Prop := Ob (List.length
    (cEncode
        { Access := (1 : Int), Init := (0 : Int),
          Update :=
            { WinSize := (2 : Int), WinOffset := (3 : Int), Interval := (40 : Int), Latency := (4 : Int),
              Timeout := (100 : Int) },
          Map := (3 : Int), Hop := (5 : Int), PPM := (0 : Int), Algorithm := (1 : Int) }).fst ≤
  (140737488355328 : Nat)) ∧ (Ob (o3 (true)) ∧ (Ob (o3 (true)) ∧ (Ob (o2 (true)) ∧ (Ob (o3 (true)) ∧ (Ob (o3 (true)) ∧ (Ob (o3 (true)) ∧ (Ob (o2 (true)) ∧ (Ob (o3 (true)) ∧ (Ob (o3 (true)) ∧ (Ob (o2 (true)) ∧ (Ob (o3 (true)) ∧ (Ob (o3 (true)) ∧ (Ob (o2 (true)) ∧ (Ob (o3 (true)) ∧ (Ob (o3 (true)) ∧ (Ob (o3 (true)) ∧ (Ob (o2 (true)) ∧ (Ob (o3 (true)) ∧ (Ob (o3 (true)) ∧ (Ob (o3 (true)) ∧ (Ob (o3 (true)) ∧ (Ob (o2 (true)) ∧ (Ob (o3 (true)) ∧ (Ob (o3 (true)) ∧ (Ob (o2 (true)) ∧ (Ob (o3 (true)) ∧ (Ob (o3 (true)) ∧ (Ob (o2 (true)) ∧ (Ob (o3 (true)) ∧ (Ob (o2 (true)) ∧ (Ob (o3 (true)) ∧ (Ob (o3 (true)) ∧ (Ob (o2 (true)) ∧ (Ob (o3 (true)) ∧ (Ob (o2 (true)) ∧ (K (.v (.bool (true))) [.cells [.v (.int .i64 ((2 : Int))), .v (.int .i64 ((3 : Int))), .v (.int .i64 ((40 : Int))), .v (.int .i64 ((4 : Int))), .v (.int .i64 ((100 : Int)))], .cells [.v (.int .i64 ((2 : Int))), .v (.int .i64 ((3 : Int))), .v (.int .i64 ((40 : Int))), .v (.int .i64 ((9 : Int))), .v (.int .i64 ((100 : Int)))], .cells [.v (.int .i64 ((2 : Int))), .v (.int .i64 ((3 : Int))), .v (.int .i64 ((80 : Int))), .v (.int .i64 ((4 : Int))), .v (.int .i64 ((100 : Int)))], .cells [.v (.int .u32 ((1 : Int))), .v (.int .u32 ((0 : Int))), .v (.int .i64 ((2 : Int))), .v (.int .i64 ((3 : Int))), .v (.int .i64 ((40 : Int))), .v (.int .i64 ((4 : Int))), .v (.int .i64 ((100 : Int))), .v (.int .u64 ((3 : Int))), .v (.int .i64 ((5 : Int))), .v (.int .i64 ((0 : Int))), .v (.int .i64 ((1 : Int)))], .cells [.v (.int .u32 ((cDecode
      (cEncode
          { Access := (1 : Int), Init := (0 : Int),
            Update :=
              { WinSize := (2 : Int), WinOffset := (3 : Int), Interval := (40 : Int), Latency := (4 : Int),
                Timeout := (100 : Int) },
            Map := (3 : Int), Hop := (5 : Int), PPM := (0 : Int), Algorithm := (1 : Int) }).fst).fst.Access)), .v (.int .u32 ((cDecode
      (cEncode
          { Access := (1 : Int), Init := (0 : Int),
            Update :=
              { WinSize := (2 : Int), WinOffset := (3 : Int), Interval := (40 : Int), Latency := (4 : Int),
                Timeout := (100 : Int) },
            Map := (3 : Int), Hop := (5 : Int), PPM := (0 : Int), Algorithm := (1 : Int) }).fst).fst.Init)), .v (.int .i64 ((cDecode
        (cEncode
            { Access := (1 : Int), Init := (0 : Int),
              Update :=
                { WinSize := (2 : Int), WinOffset := (3 : Int), Interval := (40 : Int), Latency := (4 : Int),
                  Timeout := (100 : Int) },
              Map := (3 : Int), Hop := (5 : Int), PPM := (0 : Int), Algorithm := (1 : Int) }).fst).fst.Update.WinSize)), .v (.int .i64 ((cDecode
        (cEncode
            { Access := (1 : Int), Init := (0 : Int),
              Update :=
                { WinSize := (2 : Int), WinOffset := (3 : Int), Interval := (40 : Int), Latency := (4 : Int),
                  Timeout := (100 : Int) },
              Map := (3 : Int), Hop := (5 : Int), PPM := (0 : Int), Algorithm := (1 : Int) }).fst).fst.Update.WinOffset)), .v (.int .i64 ((cDecode
        (cEncode
            { Access := (1 : Int), Init := (0 : Int),
              Update :=
                { WinSize := (2 : Int), WinOffset := (3 : Int), Interval := (40 : Int), Latency := (4 : Int),
                  Timeout := (100 : Int) },
              Map := (3 : Int), Hop := (5 : Int), PPM := (0 : Int), Algorithm := (1 : Int) }).fst).fst.Update.Interval)), .v (.int .i64 ((cDecode
        (cEncode
            { Access := (1 : Int), Init := (0 : Int),
              Update :=
                { WinSize := (2 : Int), WinOffset := (3 : Int), Interval := (40 : Int), Latency := (4 : Int),
                  Timeout := (100 : Int) },
              Map := (3 : Int), Hop := (5 : Int), PPM := (0 : Int), Algorithm := (1 : Int) }).fst).fst.Update.Latency)), .v (.int .i64 ((cDecode
        (cEncode
            { Access := (1 : Int), Init := (0 : Int),
              Update :=
                { WinSize := (2 : Int), WinOffset := (3 : Int), Interval := (40 : Int), Latency := (4 : Int),
                  Timeout := (100 : Int) },
              Map := (3 : Int), Hop := (5 : Int), PPM := (0 : Int), Algorithm := (1 : Int) }).fst).fst.Update.Timeout)), .v (.int .u64 ((cDecode
      (cEncode
          { Access := (1 : Int), Init := (0 : Int),
            Update :=
              { WinSize := (2 : Int), WinOffset := (3 : Int), Interval := (40 : Int), Latency := (4 : Int),
                Timeout := (100 : Int) },
            Map := (3 : Int), Hop := (5 : Int), PPM := (0 : Int), Algorithm := (1 : Int) }).fst).fst.Map)), .v (.int .i64 ((cDecode
      (cEncode
          { Access := (1 : Int), Init := (0 : Int),
            Update :=
              { WinSize := (2 : Int), WinOffset := (3 : Int), Interval := (40 : Int), Latency := (4 : Int),
                Timeout := (100 : Int) },
            Map := (3 : Int), Hop := (5 : Int), PPM := (0 : Int), Algorithm := (1 : Int) }).fst).fst.Hop)), .v (.int .i64 ((cDecode
      (cEncode
          { Access := (1 : Int), Init := (0 : Int),
            Update :=
              { WinSize := (2 : Int), WinOffset := (3 : Int), Interval := (40 : Int), Latency := (4 : Int),
                Timeout := (100 : Int) },
            Map := (3 : Int), Hop := (5 : Int), PPM := (0 : Int), Algorithm := (1 : Int) }).fst).fst.PPM)), .v (.int .i64 ((cDecode
      (cEncode
          { Access := (1 : Int), Init := (0 : Int),
            Update :=
              { WinSize := (2 : Int), WinOffset := (3 : Int), Interval := (40 : Int), Latency := (4 : Int),
                Timeout := (100 : Int) },
            Map := (3 : Int), Hop := (5 : Int), PPM := (0 : Int), Algorithm := (1 : Int) }).fst).fst.Algorithm))]]))))))))))))))))))))))))))))))))))))
theorem lives.nf_ok  (K : AV El → List (AObj El) → Prop) : evFun (mkCx Try.prog S tab_r17Decode 0) 4 11 [] [] K = lives.nf  K := by kernel_rfl
theorem lives.key  (v : Bool) (hv : v = lives ) : lives.nf  (fun r' H' => Gives r' H' (lives.res v) (lives.news v)) := by
  unfold lives at hv
  unfold lives.nf
  refine ⟨⟨by (try clear hv); (try clear q1 q2); (try clear hk); (try simp only [decide_eq_true_eq, decide_eq_false_iff_not, Bool.not_eq_true, Bool.not_eq_false, Bool.and_eq_true, Bool.or_eq_true, Bool.not_not, cond_and, cond_or, List.length_append, List.length_cons, List.length_nil] at *); (first | omega | (intros; (try simp only [Bool.not_not, cond_and, cond_or, Bool.and_eq_true, decide_eq_true_eq] at *); (decide +kernel)) | (intros; omega) | (intros; simp only [sized_iff, Bool.not_not, cond_and, cond_or, Bool.and_eq_true, decide_eq_true_eq] at *; omega) | (intros; simp_all [sized_iff, Bool.not_not]; done))⟩, ?_⟩
  refine ⟨⟨o3_ok _⟩, ?_⟩
  refine ⟨⟨o3_ok _⟩, ?_⟩
  refine ⟨⟨o2_ok _⟩, ?_⟩
  refine ⟨⟨o3_ok _⟩, ?_⟩
  refine ⟨⟨o3_ok _⟩, ?_⟩
  refine ⟨⟨o3_ok _⟩, ?_⟩
  refine ⟨⟨o2_ok _⟩, ?_⟩
  refine ⟨⟨o3_ok _⟩, ?_⟩
  refine ⟨⟨o3_ok _⟩, ?_⟩
  refine ⟨⟨o2_ok _⟩, ?_⟩
  refine ⟨⟨o3_ok _⟩, ?_⟩
  refine ⟨⟨o3_ok _⟩, ?_⟩
  refine ⟨⟨o2_ok _⟩, ?_⟩
  refine ⟨⟨o3_ok _⟩, ?_⟩
  refine ⟨⟨o3_ok _⟩, ?_⟩
  refine ⟨⟨o3_ok _⟩, ?_⟩
  refine ⟨⟨o2_ok _⟩, ?_⟩
  refine ⟨⟨o3_ok _⟩, ?_⟩
  refine ⟨⟨o3_ok _⟩, ?_⟩
  refine ⟨⟨o3_ok _⟩, ?_⟩
  refine ⟨⟨o3_ok _⟩, ?_⟩
  refine ⟨⟨o2_ok _⟩, ?_⟩
  refine ⟨⟨o3_ok _⟩, ?_⟩
  refine ⟨⟨o3_ok _⟩, ?_⟩
  refine ⟨⟨o2_ok _⟩, ?_⟩
  refine ⟨⟨o3_ok _⟩, ?_⟩
  refine ⟨⟨o3_ok _⟩, ?_⟩
  refine ⟨⟨o2_ok _⟩, ?_⟩
  refine ⟨⟨o3_ok _⟩, ?_⟩
  refine ⟨⟨o2_ok _⟩, ?_⟩
  refine ⟨⟨o3_ok _⟩, ?_⟩
  refine ⟨⟨o3_ok _⟩, ?_⟩
  refine ⟨⟨o2_ok _⟩, ?_⟩
  refine ⟨⟨o3_ok _⟩, ?_⟩
  refine ⟨⟨o2_ok _⟩, ?_⟩
  subst hv; exact And.intro (by kernel_rfl) (by kernel_rfl)
def lives.ct : Ct El := ctOf lives.dec (fun _ => []) (fun x => lives.res (lives)) (fun x => lives.news (lives))
theorem lives.ok : CtOk (mkCx Try.prog S [] 0) 11 lives.ct := ct_mk (C := (mkCx Try.prog S tab_r17Decode 0)) (mkCx_ok sigOk mixed tab_r17Decode_ok 0) lives.dec_ok (fun x => rfl) 4 (fun x _ => (lives.nf_ok  _).mpr (lives.key  _ rfl))
def tab_lives : List (FuncId × Ct El) := (11, lives.ct) :: tab_r17Decode
theorem tab_lives_ok : TabOk Try.prog S tab_lives := ⟨lives.ok, by kernel_rfl, tab_r17Decode_ok⟩

/-! wireless/wirelesslaw17.ConnectChecks -/
def connectChecks.res (r : Bool) : AV El := .v (.bool (r))
def connectChecks.news (r : Bool) : List (AObj El) := []
def connectChecks (u : Update) (p : ConnParams) : Bool := bif bif lives then cCheckUpdate u == r17CheckUpdate u else false then cCheck p == r17Check p else false
def connectChecks.dec (cs : List (AV El)) : Option (Update × ConnParams) := popA Update.dec cs fun a0 c0 => popA ConnParams.dec c0 fun a1 c1 => popE c1 (a0, a1)
def connectChecks.enc (x : Update × ConnParams) : List (AV El) := [Update.av x.1, ConnParams.av x.2]
theorem connectChecks.dec_ok : ∀ cs x, connectChecks.dec cs = some x → Imp (S := S) cs (connectChecks.enc x) := by
  intro cs x h
  unfold connectChecks.dec at h
  obtain ⟨a0, c0, h0, k0⟩ := popA_some (S := S) Update.dec_ok h
  obtain ⟨a1, c1, h1, k1⟩ := popA_some (S := S) ConnParams.dec_ok h0
  obtain ⟨rfl, rfl⟩ := popE_some (S := S) h1
  exact (k0 _ (k1 _ (.refl _)))
def connectChecks.nf (u : Update) (p : ConnParams) (K : AV El → List (AObj El) → Prop) : Prop := Ob (o3 (lives)) ∧ (Ob (o3 (lives)) ∧ (Ob (o3 (lives)) ∧ (Ob (o3 (lives)) ∧ (Ob (o2 (lives)) ∧ (Ob (o3 (bif lives then cCheckUpdate u == r17CheckUpdate u else false)) ∧ (Ob (o3 (bif lives then cCheckUpdate u == r17CheckUpdate u else false)) ∧ (Ob (o3 (bif lives then cCheckUpdate u == r17CheckUpdate u else false)) ∧ (Ob (o3 (bif lives then cCheckUpdate u == r17CheckUpdate u else false)) ∧ (Ob (o2 (bif lives then cCheckUpdate u == r17CheckUpdate u else false)) ∧ (K (.v (.bool (bif bif lives then cCheckUpdate u == r17CheckUpdate u else false then cCheck p == r17Check p else false))) [.cells [.v (.int .i64 (u.WinSize)), .v (.int .i64 (u.WinOffset)), .v (.int .i64 (u.Interval)), .v (.int .i64 (u.Latency)), .v (.int .i64 (u.Timeout))], .cells [.v (.int .u32 (p.Access)), .v (.int .u32 (p.Init)), .v (.int .i64 (p.Update.WinSize)), .v (.int .i64 (p.Update.WinOffset)), .v (.int .i64 (p.Update.Interval)), .v (.int .i64 (p.Update.Latency)), .v (.int .i64 (p.Update.Timeout)), .v (.int .u64 (p.Map)), .v (.int .i64 (p.Hop)), .v (.int .i64 (p.PPM)), .v (.int .i64 (p.Algorithm))]]))))))))))
theorem connectChecks.nf_ok (u : Update) (p : ConnParams) (K : AV El → List (AObj El) → Prop) : evFun (mkCx Try.prog S tab_lives 0) 4 3 [Update.av u, ConnParams.av p] [] K = connectChecks.nf u p K := by kernel_rfl
theorem connectChecks.key (u : Update) (p : ConnParams) (v : Bool) (hv : v = connectChecks u p) : connectChecks.nf u p (fun r' H' => Gives r' H' (connectChecks.res v) (connectChecks.news v)) := by
  unfold connectChecks at hv
  unfold connectChecks.nf
  refine ⟨⟨o3_ok _⟩, ?_⟩
  refine ⟨⟨o3_ok _⟩, ?_⟩
  refine ⟨⟨o3_ok _⟩, ?_⟩
  refine ⟨⟨o3_ok _⟩, ?_⟩
  refine ⟨⟨o2_ok _⟩, ?_⟩
  refine ⟨⟨o3_ok _⟩, ?_⟩
  refine ⟨⟨o3_ok _⟩, ?_⟩
  refine ⟨⟨o3_ok _⟩, ?_⟩
  refine ⟨⟨o3_ok _⟩, ?_⟩
  refine ⟨⟨o2_ok _⟩, ?_⟩
  subst hv; exact And.intro (by kernel_rfl) (by kernel_rfl)
def connectChecks.ct : Ct El := ctOf connectChecks.dec (fun _ => []) (fun x => connectChecks.res (connectChecks x.1 x.2)) (fun x => connectChecks.news (connectChecks x.1 x.2))
theorem connectChecks.ok : CtOk (mkCx Try.prog S [] 0) 3 connectChecks.ct := ct_mk (C := (mkCx Try.prog S tab_lives 0)) (mkCx_ok sigOk mixed tab_lives_ok 0) connectChecks.dec_ok (fun x => rfl) 4 (fun x _ => (connectChecks.nf_ok x.1 x.2 _).mpr (connectChecks.key x.1 x.2 _ rfl))
def tab_connectChecks : List (FuncId × Ct El) := (3, connectChecks.ct) :: tab_lives
theorem tab_connectChecks_ok : TabOk Try.prog S tab_connectChecks := ⟨connectChecks.ok, by kernel_rfl, tab_lives_ok⟩

/-! wireless/wirelesslaw17.ConnectTimes -/
def connectTimes.res (r : Bool) : AV El := .v (.bool (r))
def connectTimes.news (r : Bool) : List (AObj El) := []
def connectTimes (u : Update) (p1 : Int) (n : Int) : Bool := bif
    bif
        bif lives then (cFirst p1 u).Start == (r17First p1 u).Start && (cFirst p1 u).End == (r17First p1 u).End
        else false then
      cAnchor p1 u n == r17Anchor p1 u n
    else false then
  cTimeout u == r17Timeout u
else false
def connectTimes.dec (cs : List (AV El)) : Option (Update × Int × Int) := popA Update.dec cs fun a0 c0 => popI .i64 c0 fun a1 c1 => popI .i64 c1 fun a2 c2 => popE c2 (a0, a1, a2)
def connectTimes.enc (x : Update × Int × Int) : List (AV El) := [Update.av x.1, .v (.int .i64 x.2.1), .v (.int .i64 x.2.2)]
theorem connectTimes.dec_ok : ∀ cs x, connectTimes.dec cs = some x → Imp (S := S) cs (connectTimes.enc x) := by
  intro cs x h
  unfold connectTimes.dec at h
  obtain ⟨a0, c0, h0, k0⟩ := popA_some (S := S) Update.dec_ok h
  obtain ⟨a1, c1, rfl, h1⟩ := popI_some (S := S) h0
  obtain ⟨a2, c2, rfl, h2⟩ := popI_some (S := S) h1
  obtain ⟨rfl, rfl⟩ := popE_some (S := S) h2
  exact (k0 _ (.cons (.cons (.refl _))))
def connectTimes.nf (u : Update) (p1 : Int) (n : Int) (K : AV El → List (AObj El) → Prop) : Prop := Ob (o3 (lives)) ∧ (Ob (o3 (lives)) ∧ (Ob (o3 (lives)) ∧ (Ob (o3 (lives)) ∧ (Ob (o3 (lives)) ∧ (Ob (o3 (lives)) ∧ (Ob (o2 (lives)) ∧ (Ob (o3 (bif lives then (cFirst p1 u).Start == (r17First p1 u).Start && (cFirst p1 u).End == (r17First p1 u).End else false)) ∧ (Ob (o3 (bif lives then (cFirst p1 u).Start == (r17First p1 u).Start && (cFirst p1 u).End == (r17First p1 u).End else false)) ∧ (Ob (o3 (bif lives then (cFirst p1 u).Start == (r17First p1 u).Start && (cFirst p1 u).End == (r17First p1 u).End else false)) ∧ (Ob (o3 (bif lives then (cFirst p1 u).Start == (r17First p1 u).Start && (cFirst p1 u).End == (r17First p1 u).End else false)) ∧ (Ob (o3 (bif lives then (cFirst p1 u).Start == (r17First p1 u).Start && (cFirst p1 u).End == (r17First p1 u).End else false)) ∧ (Ob (o3 (bif lives then (cFirst p1 u).Start == (r17First p1 u).Start && (cFirst p1 u).End == (r17First p1 u).End else false)) ∧ (Ob (o3 (bif lives then (cFirst p1 u).Start == (r17First p1 u).Start && (cFirst p1 u).End == (r17First p1 u).End else false)) ∧ (Ob (o3 (bif lives then (cFirst p1 u).Start == (r17First p1 u).Start && (cFirst p1 u).End == (r17First p1 u).End else false)) ∧ (Ob (o2 (bif lives then (cFirst p1 u).Start == (r17First p1 u).Start && (cFirst p1 u).End == (r17First p1 u).End else false)) ∧ (Ob (o3 (bif
    bif lives then (cFirst p1 u).Start == (r17First p1 u).Start && (cFirst p1 u).End == (r17First p1 u).End
    else false then
  cAnchor p1 u n == r17Anchor p1 u n
else false)) ∧ (Ob (o3 (bif
    bif lives then (cFirst p1 u).Start == (r17First p1 u).Start && (cFirst p1 u).End == (r17First p1 u).End
    else false then
  cAnchor p1 u n == r17Anchor p1 u n
else false)) ∧ (Ob (o3 (bif
    bif lives then (cFirst p1 u).Start == (r17First p1 u).Start && (cFirst p1 u).End == (r17First p1 u).End
    else false then
  cAnchor p1 u n == r17Anchor p1 u n
else false)) ∧ (Ob (o3 (bif
    bif lives then (cFirst p1 u).Start == (r17First p1 u).Start && (cFirst p1 u).End == (r17First p1 u).End
    else false then
  cAnchor p1 u n == r17Anchor p1 u n
else false)) ∧ (Ob (o2 (bif
    bif lives then (cFirst p1 u).Start == (r17First p1 u).Start && (cFirst p1 u).End == (r17First p1 u).End
    else false then
  cAnchor p1 u n == r17Anchor p1 u n
else false)) ∧ (K (.v (.bool (bif
    bif
        bif lives then (cFirst p1 u).Start == (r17First p1 u).Start && (cFirst p1 u).End == (r17First p1 u).End
        else false then
      cAnchor p1 u n == r17Anchor p1 u n
    else false then
  cTimeout u == r17Timeout u
else false))) [.cells [.v (.int .i64 (u.WinSize)), .v (.int .i64 (u.WinOffset)), .v (.int .i64 (u.Interval)), .v (.int .i64 (u.Latency)), .v (.int .i64 (u.Timeout))]])))))))))))))))))))))
theorem connectTimes.nf_ok (u : Update) (p1 : Int) (n : Int) (K : AV El → List (AObj El) → Prop) : evFun (mkCx Try.prog S tab_lives 0) 4 5 [Update.av u, .v (.int .i64 p1), .v (.int .i64 n)] [] K = connectTimes.nf u p1 n K := by kernel_rfl
theorem connectTimes.key (u : Update) (p1 : Int) (n : Int) (v : Bool) (hv : v = connectTimes u p1 n) : connectTimes.nf u p1 n (fun r' H' => Gives r' H' (connectTimes.res v) (connectTimes.news v)) := by
  unfold connectTimes at hv
  unfold connectTimes.nf
  refine ⟨⟨o3_ok _⟩, ?_⟩
  refine ⟨⟨o3_ok _⟩, ?_⟩
  refine ⟨⟨o3_ok _⟩, ?_⟩
  refine ⟨⟨o3_ok _⟩, ?_⟩
  refine ⟨⟨o3_ok _⟩, ?_⟩
  refine ⟨⟨o3_ok _⟩, ?_⟩
  refine ⟨⟨o2_ok _⟩, ?_⟩
  refine ⟨⟨o3_ok _⟩, ?_⟩
  refine ⟨⟨o3_ok _⟩, ?_⟩
  refine ⟨⟨o3_ok _⟩, ?_⟩
  refine ⟨⟨o3_ok _⟩, ?_⟩
  refine ⟨⟨o3_ok _⟩, ?_⟩
  refine ⟨⟨o3_ok _⟩, ?_⟩
  refine ⟨⟨o3_ok _⟩, ?_⟩
  refine ⟨⟨o3_ok _⟩, ?_⟩
  refine ⟨⟨o2_ok _⟩, ?_⟩
  refine ⟨⟨o3_ok _⟩, ?_⟩
  refine ⟨⟨o3_ok _⟩, ?_⟩
  refine ⟨⟨o3_ok _⟩, ?_⟩
  refine ⟨⟨o3_ok _⟩, ?_⟩
  refine ⟨⟨o2_ok _⟩, ?_⟩
  subst hv; exact And.intro (by kernel_rfl) (by kernel_rfl)
def connectTimes.ct : Ct El := ctOf connectTimes.dec (fun _ => []) (fun x => connectTimes.res (connectTimes x.1 x.2.1 x.2.2)) (fun x => connectTimes.news (connectTimes x.1 x.2.1 x.2.2))
theorem connectTimes.ok : CtOk (mkCx Try.prog S [] 0) 5 connectTimes.ct := ct_mk (C := (mkCx Try.prog S tab_lives 0)) (mkCx_ok sigOk mixed tab_lives_ok 0) connectTimes.dec_ok (fun x => rfl) 4 (fun x _ => (connectTimes.nf_ok x.1 x.2.1 x.2.2 _).mpr (connectTimes.key x.1 x.2.1 x.2.2 _ rfl))
def tab_connectTimes : List (FuncId × Ct El) := (5, connectTimes.ct) :: tab_connectChecks
theorem tab_connectTimes_ok : TabOk Try.prog S tab_connectTimes := ⟨connectTimes.ok, by kernel_rfl, tab_connectChecks_ok⟩

/-! wireless/wirelesslaw17.ConnectExpects -/
def connectExpects.res (r : Bool) : AV El := .v (.bool (r))
def connectExpects.news (r : Bool) : List (AObj El) := []
def connectExpects (u : Update) (x : Law17Wait) : Bool := bif lives then
  (cExpect x.Anchor x.N u x.PPM).Start == (r17Expect x.Anchor x.N u x.PPM).Start &&
    (cExpect x.Anchor x.N u x.PPM).End == (r17Expect x.Anchor x.N u x.PPM).End
else false
def connectExpects.dec (cs : List (AV El)) : Option (Update × Law17Wait) := popA Update.dec cs fun a0 c0 => popA Law17Wait.dec c0 fun a1 c1 => popE c1 (a0, a1)
def connectExpects.enc (x : Update × Law17Wait) : List (AV El) := [Update.av x.1, Law17Wait.av x.2]
theorem connectExpects.dec_ok : ∀ cs x, connectExpects.dec cs = some x → Imp (S := S) cs (connectExpects.enc x) := by
  intro cs x h
  unfold connectExpects.dec at h
  obtain ⟨a0, c0, h0, k0⟩ := popA_some (S := S) Update.dec_ok h
  obtain ⟨a1, c1, h1, k1⟩ := popA_some (S := S) Law17Wait.dec_ok h0
  obtain ⟨rfl, rfl⟩ := popE_some (S := S) h1
  exact (k0 _ (k1 _ (.refl _)))
def connectExpects.nf (u : Update) (x : Law17Wait) (K : AV El → List (AObj El) → Prop) : Prop := Ob (o3 (lives)) ∧ (Ob (o3 (lives)) ∧ (Ob (o3 (lives)) ∧ (Ob (o3 (lives)) ∧ (Ob (o3 (lives)) ∧ (Ob (o3 (lives)) ∧ (Ob (o3 (lives)) ∧ (Ob (o3 (lives)) ∧ (Ob (o3 (lives)) ∧ (Ob (o3 (lives)) ∧ (Ob (o3 (lives)) ∧ (Ob (o3 (lives)) ∧ (Ob (o3 (lives)) ∧ (Ob (o3 (lives)) ∧ (Ob (o3 (lives)) ∧ (Ob (o3 (lives)) ∧ (Ob (o2 (lives)) ∧ (K (.v (.bool (bif lives then
  (cExpect x.Anchor x.N u x.PPM).Start == (r17Expect x.Anchor x.N u x.PPM).Start &&
    (cExpect x.Anchor x.N u x.PPM).End == (r17Expect x.Anchor x.N u x.PPM).End
else false))) [.cells [.v (.int .i64 (u.WinSize)), .v (.int .i64 (u.WinOffset)), .v (.int .i64 (u.Interval)), .v (.int .i64 (u.Latency)), .v (.int .i64 (u.Timeout))], .cells [.v (.int .i64 (x.Anchor)), .v (.int .i64 (x.N)), .v (.int .i64 (x.PPM))]])))))))))))))))))
theorem connectExpects.nf_ok (u : Update) (x : Law17Wait) (K : AV El → List (AObj El) → Prop) : evFun (mkCx Try.prog S tab_lives 0) 4 6 [Update.av u, Law17Wait.av x] [] K = connectExpects.nf u x K := by kernel_rfl
theorem connectExpects.key (u : Update) (x : Law17Wait) (v : Bool) (hv : v = connectExpects u x) : connectExpects.nf u x (fun r' H' => Gives r' H' (connectExpects.res v) (connectExpects.news v)) := by
  unfold connectExpects at hv
  unfold connectExpects.nf
  refine ⟨⟨o3_ok _⟩, ?_⟩
  refine ⟨⟨o3_ok _⟩, ?_⟩
  refine ⟨⟨o3_ok _⟩, ?_⟩
  refine ⟨⟨o3_ok _⟩, ?_⟩
  refine ⟨⟨o3_ok _⟩, ?_⟩
  refine ⟨⟨o3_ok _⟩, ?_⟩
  refine ⟨⟨o3_ok _⟩, ?_⟩
  refine ⟨⟨o3_ok _⟩, ?_⟩
  refine ⟨⟨o3_ok _⟩, ?_⟩
  refine ⟨⟨o3_ok _⟩, ?_⟩
  refine ⟨⟨o3_ok _⟩, ?_⟩
  refine ⟨⟨o3_ok _⟩, ?_⟩
  refine ⟨⟨o3_ok _⟩, ?_⟩
  refine ⟨⟨o3_ok _⟩, ?_⟩
  refine ⟨⟨o3_ok _⟩, ?_⟩
  refine ⟨⟨o3_ok _⟩, ?_⟩
  refine ⟨⟨o2_ok _⟩, ?_⟩
  subst hv; exact And.intro (by kernel_rfl) (by kernel_rfl)
def connectExpects.ct : Ct El := ctOf connectExpects.dec (fun _ => []) (fun x => connectExpects.res (connectExpects x.1 x.2)) (fun x => connectExpects.news (connectExpects x.1 x.2))
theorem connectExpects.ok : CtOk (mkCx Try.prog S [] 0) 6 connectExpects.ct := ct_mk (C := (mkCx Try.prog S tab_lives 0)) (mkCx_ok sigOk mixed tab_lives_ok 0) connectExpects.dec_ok (fun x => rfl) 4 (fun x _ => (connectExpects.nf_ok x.1 x.2 _).mpr (connectExpects.key x.1 x.2 _ rfl))
def tab_connectExpects : List (FuncId × Ct El) := (6, connectExpects.ct) :: tab_connectTimes
theorem tab_connectExpects_ok : TabOk Try.prog S tab_connectExpects := ⟨connectExpects.ok, by kernel_rfl, tab_connectTimes_ok⟩

/-! wireless/wirelesslaw17.ConnectMoves -/
def connectMoves.res (r : Bool) : AV El := .v (.bool (r))
def connectMoves.news (r : Bool) : List (AObj El) := []
def connectMoves (was : Update) (now : Update) (x : Law17Wait) : Bool := bif lives then
  (cMoved x.Anchor x.N was now x.PPM).Start == (r17Moved x.Anchor x.N was now x.PPM).Start &&
    (cMoved x.Anchor x.N was now x.PPM).End == (r17Moved x.Anchor x.N was now x.PPM).End
else false
def connectMoves.dec (cs : List (AV El)) : Option (Update × Update × Law17Wait) := popA Update.dec cs fun a0 c0 => popA Update.dec c0 fun a1 c1 => popA Law17Wait.dec c1 fun a2 c2 => popE c2 (a0, a1, a2)
def connectMoves.enc (x : Update × Update × Law17Wait) : List (AV El) := [Update.av x.1, Update.av x.2.1, Law17Wait.av x.2.2]
theorem connectMoves.dec_ok : ∀ cs x, connectMoves.dec cs = some x → Imp (S := S) cs (connectMoves.enc x) := by
  intro cs x h
  unfold connectMoves.dec at h
  obtain ⟨a0, c0, h0, k0⟩ := popA_some (S := S) Update.dec_ok h
  obtain ⟨a1, c1, h1, k1⟩ := popA_some (S := S) Update.dec_ok h0
  obtain ⟨a2, c2, h2, k2⟩ := popA_some (S := S) Law17Wait.dec_ok h1
  obtain ⟨rfl, rfl⟩ := popE_some (S := S) h2
  exact (k0 _ (k1 _ (k2 _ (.refl _))))
def connectMoves.nf (was : Update) (now : Update) (x : Law17Wait) (K : AV El → List (AObj El) → Prop) : Prop := Ob (o3 (lives)) ∧ (Ob (o3 (lives)) ∧ (Ob (o3 (lives)) ∧ (Ob (o3 (lives)) ∧ (Ob (o3 (lives)) ∧ (Ob (o3 (lives)) ∧ (Ob (o3 (lives)) ∧ (Ob (o3 (lives)) ∧ (Ob (o3 (lives)) ∧ (Ob (o3 (lives)) ∧ (Ob (o3 (lives)) ∧ (Ob (o3 (lives)) ∧ (Ob (o3 (lives)) ∧ (Ob (o3 (lives)) ∧ (Ob (o3 (lives)) ∧ (Ob (o3 (lives)) ∧ (Ob (o3 (lives)) ∧ (Ob (o3 (lives)) ∧ (Ob (o2 (lives)) ∧ (K (.v (.bool (bif lives then
  (cMoved x.Anchor x.N was now x.PPM).Start == (r17Moved x.Anchor x.N was now x.PPM).Start &&
    (cMoved x.Anchor x.N was now x.PPM).End == (r17Moved x.Anchor x.N was now x.PPM).End
else false))) [.cells [.v (.int .i64 (was.WinSize)), .v (.int .i64 (was.WinOffset)), .v (.int .i64 (was.Interval)), .v (.int .i64 (was.Latency)), .v (.int .i64 (was.Timeout))], .cells [.v (.int .i64 (now.WinSize)), .v (.int .i64 (now.WinOffset)), .v (.int .i64 (now.Interval)), .v (.int .i64 (now.Latency)), .v (.int .i64 (now.Timeout))], .cells [.v (.int .i64 (x.Anchor)), .v (.int .i64 (x.N)), .v (.int .i64 (x.PPM))]])))))))))))))))))))
theorem connectMoves.nf_ok (was : Update) (now : Update) (x : Law17Wait) (K : AV El → List (AObj El) → Prop) : evFun (mkCx Try.prog S tab_lives 0) 4 7 [Update.av was, Update.av now, Law17Wait.av x] [] K = connectMoves.nf was now x K := by kernel_rfl
theorem connectMoves.key (was : Update) (now : Update) (x : Law17Wait) (v : Bool) (hv : v = connectMoves was now x) : connectMoves.nf was now x (fun r' H' => Gives r' H' (connectMoves.res v) (connectMoves.news v)) := by
  unfold connectMoves at hv
  unfold connectMoves.nf
  refine ⟨⟨o3_ok _⟩, ?_⟩
  refine ⟨⟨o3_ok _⟩, ?_⟩
  refine ⟨⟨o3_ok _⟩, ?_⟩
  refine ⟨⟨o3_ok _⟩, ?_⟩
  refine ⟨⟨o3_ok _⟩, ?_⟩
  refine ⟨⟨o3_ok _⟩, ?_⟩
  refine ⟨⟨o3_ok _⟩, ?_⟩
  refine ⟨⟨o3_ok _⟩, ?_⟩
  refine ⟨⟨o3_ok _⟩, ?_⟩
  refine ⟨⟨o3_ok _⟩, ?_⟩
  refine ⟨⟨o3_ok _⟩, ?_⟩
  refine ⟨⟨o3_ok _⟩, ?_⟩
  refine ⟨⟨o3_ok _⟩, ?_⟩
  refine ⟨⟨o3_ok _⟩, ?_⟩
  refine ⟨⟨o3_ok _⟩, ?_⟩
  refine ⟨⟨o3_ok _⟩, ?_⟩
  refine ⟨⟨o3_ok _⟩, ?_⟩
  refine ⟨⟨o3_ok _⟩, ?_⟩
  refine ⟨⟨o2_ok _⟩, ?_⟩
  subst hv; exact And.intro (by kernel_rfl) (by kernel_rfl)
def connectMoves.ct : Ct El := ctOf connectMoves.dec (fun _ => []) (fun x => connectMoves.res (connectMoves x.1 x.2.1 x.2.2)) (fun x => connectMoves.news (connectMoves x.1 x.2.1 x.2.2))
theorem connectMoves.ok : CtOk (mkCx Try.prog S [] 0) 7 connectMoves.ct := ct_mk (C := (mkCx Try.prog S tab_lives 0)) (mkCx_ok sigOk mixed tab_lives_ok 0) connectMoves.dec_ok (fun x => rfl) 4 (fun x _ => (connectMoves.nf_ok x.1 x.2.1 x.2.2 _).mpr (connectMoves.key x.1 x.2.1 x.2.2 _ rfl))
def tab_connectMoves : List (FuncId × Ct El) := (7, connectMoves.ct) :: tab_connectExpects
theorem tab_connectMoves_ok : TabOk Try.prog S tab_connectMoves := ⟨connectMoves.ok, by kernel_rfl, tab_connectExpects_ok⟩

end Go.Aw.W
