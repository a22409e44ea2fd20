/- Contracts of the seat (printed by ct.py). -/
import Derived.Test.YtkngobfkfleacaaW12
import Derived.Test.YtkngobfkfleacaaP3
set_option linter.unusedVariables false
set_option linter.unusedSimpArgs false
set_option maxRecDepth 20000
set_option maxHeartbeats 1000000
namespace Go.Aw.W
open Go Go.Aw Go.Proofs
attribute [local irreducible] evCode evFun evOps evDs evOne ctxK loopK loopB subC bodyC headS okH roundK

/-! wireless/wirelesslaw17.ConnectBytes -/
def connectBytes.res (r : Bool) : AV El := .v (.bool (r))
def connectBytes.news (r : Bool) : List (AObj El) := []
def connectBytes (p : ConnParams) (b : List Int) : Bool := bif
    bif
        bif bif lives then r2Same (cEncode p).fst (r17Encode p).fst else false then (cEncode p).snd == (r17Encode p).snd
        else false then
      (cDecode ([] ++ b)).fst.Access == (r17Decode b).fst.Access &&
        ((cDecode ([] ++ b)).fst.Init == (r17Decode b).fst.Init &&
          ((cDecode ([] ++ b)).fst.Update.WinSize == (r17Decode b).fst.Update.WinSize &&
            ((cDecode ([] ++ b)).fst.Update.WinOffset == (r17Decode b).fst.Update.WinOffset &&
              ((cDecode ([] ++ b)).fst.Update.Interval == (r17Decode b).fst.Update.Interval &&
                ((cDecode ([] ++ b)).fst.Update.Latency == (r17Decode b).fst.Update.Latency &&
                  ((cDecode ([] ++ b)).fst.Update.Timeout == (r17Decode b).fst.Update.Timeout &&
                    ((cDecode ([] ++ b)).fst.Map == (r17Decode b).fst.Map &&
                      ((cDecode ([] ++ b)).fst.Hop == (r17Decode b).fst.Hop &&
                        ((cDecode ([] ++ b)).fst.PPM == (r17Decode b).fst.PPM &&
                          (cDecode ([] ++ b)).fst.Algorithm == (r17Decode b).fst.Algorithm)))))))))
    else false then
  (cDecode ([] ++ b)).snd == (r17Decode b).snd
else false
def connectBytes.dec (cs : List (AV El)) : Option (ConnParams × (List Int)) := popA ConnParams.dec cs fun a0 c0 => popS 5 c0 fun a1 c1 => popE c1 (a0, a1)
def connectBytes.enc (x : ConnParams × (List Int)) : List (AV El) := [ConnParams.av x.1, .sl 5 (x.2 : List (El 5)) false]
theorem connectBytes.dec_ok : ∀ cs x, connectBytes.dec cs = some x → Imp (S := S) cs (connectBytes.enc x) := by
  intro cs x h
  unfold connectBytes.dec at h
  obtain ⟨a0, c0, h0, k0⟩ := popA_some (S := S) ConnParams.dec_ok h
  obtain ⟨a1, c1, h1, k1⟩ := popS_some (S := S) (t := 5) h0
  obtain ⟨rfl, rfl⟩ := popE_some (S := S) h1
  exact (k0 _ (k1 _ (.refl _)))
def connectBytes.nf (p : ConnParams) (b : List Int) (K : AV El → List (AObj El) → Prop) : Prop := Ob (((0 : Nat) + List.length b) * (1 : Nat) ≤ (140737488355328 : Nat)) ∧ (Ob (List.length ([] ++ b) ≤ (140737488355328 : Nat)) ∧ (Ob (List.length b ≤ (140737488355328 : Nat)) ∧ (Ob (o3 (lives)) ∧ (Ob (o3 (lives)) ∧ (Ob (o2 (lives)) ∧ (Ob (o3 (bif lives then r2Same (cEncode p).fst (r17Encode p).fst else false)) ∧ (Ob (o3 (bif lives then r2Same (cEncode p).fst (r17Encode p).fst else false)) ∧ (Ob (o2 (bif lives then r2Same (cEncode p).fst (r17Encode p).fst else false)) ∧ (Ob (o3 (bif bif lives then r2Same (cEncode p).fst (r17Encode p).fst else false then (cEncode p).snd == (r17Encode p).snd
else false)) ∧ (Ob (o3 (bif bif lives then r2Same (cEncode p).fst (r17Encode p).fst else false then (cEncode p).snd == (r17Encode p).snd
else false)) ∧ (Ob (o2 (bif bif lives then r2Same (cEncode p).fst (r17Encode p).fst else false then (cEncode p).snd == (r17Encode p).snd
else false)) ∧ (Ob (o3 (bif
    bif bif lives then r2Same (cEncode p).fst (r17Encode p).fst else false then (cEncode p).snd == (r17Encode p).snd
    else false then
  (cDecode ([] ++ b)).fst.Access == (r17Decode b).fst.Access &&
    ((cDecode ([] ++ b)).fst.Init == (r17Decode b).fst.Init &&
      ((cDecode ([] ++ b)).fst.Update.WinSize == (r17Decode b).fst.Update.WinSize &&
        ((cDecode ([] ++ b)).fst.Update.WinOffset == (r17Decode b).fst.Update.WinOffset &&
          ((cDecode ([] ++ b)).fst.Update.Interval == (r17Decode b).fst.Update.Interval &&
            ((cDecode ([] ++ b)).fst.Update.Latency == (r17Decode b).fst.Update.Latency &&
              ((cDecode ([] ++ b)).fst.Update.Timeout == (r17Decode b).fst.Update.Timeout &&
                ((cDecode ([] ++ b)).fst.Map == (r17Decode b).fst.Map &&
                  ((cDecode ([] ++ b)).fst.Hop == (r17Decode b).fst.Hop &&
                    ((cDecode ([] ++ b)).fst.PPM == (r17Decode b).fst.PPM &&
                      (cDecode ([] ++ b)).fst.Algorithm == (r17Decode b).fst.Algorithm)))))))))
else false)) ∧ (Ob (o3 (bif
    bif bif lives then r2Same (cEncode p).fst (r17Encode p).fst else false then (cEncode p).snd == (r17Encode p).snd
    else false then
  (cDecode ([] ++ b)).fst.Access == (r17Decode b).fst.Access &&
    ((cDecode ([] ++ b)).fst.Init == (r17Decode b).fst.Init &&
      ((cDecode ([] ++ b)).fst.Update.WinSize == (r17Decode b).fst.Update.WinSize &&
        ((cDecode ([] ++ b)).fst.Update.WinOffset == (r17Decode b).fst.Update.WinOffset &&
          ((cDecode ([] ++ b)).fst.Update.Interval == (r17Decode b).fst.Update.Interval &&
            ((cDecode ([] ++ b)).fst.Update.Latency == (r17Decode b).fst.Update.Latency &&
              ((cDecode ([] ++ b)).fst.Update.Timeout == (r17Decode b).fst.Update.Timeout &&
                ((cDecode ([] ++ b)).fst.Map == (r17Decode b).fst.Map &&
                  ((cDecode ([] ++ b)).fst.Hop == (r17Decode b).fst.Hop &&
                    ((cDecode ([] ++ b)).fst.PPM == (r17Decode b).fst.PPM &&
                      (cDecode ([] ++ b)).fst.Algorithm == (r17Decode b).fst.Algorithm)))))))))
else false)) ∧ (Ob (o2 (bif
    bif bif lives then r2Same (cEncode p).fst (r17Encode p).fst else false then (cEncode p).snd == (r17Encode p).snd
    else false then
  (cDecode ([] ++ b)).fst.Access == (r17Decode b).fst.Access &&
    ((cDecode ([] ++ b)).fst.Init == (r17Decode b).fst.Init &&
      ((cDecode ([] ++ b)).fst.Update.WinSize == (r17Decode b).fst.Update.WinSize &&
        ((cDecode ([] ++ b)).fst.Update.WinOffset == (r17Decode b).fst.Update.WinOffset &&
          ((cDecode ([] ++ b)).fst.Update.Interval == (r17Decode b).fst.Update.Interval &&
            ((cDecode ([] ++ b)).fst.Update.Latency == (r17Decode b).fst.Update.Latency &&
              ((cDecode ([] ++ b)).fst.Update.Timeout == (r17Decode b).fst.Update.Timeout &&
                ((cDecode ([] ++ b)).fst.Map == (r17Decode b).fst.Map &&
                  ((cDecode ([] ++ b)).fst.Hop == (r17Decode b).fst.Hop &&
                    ((cDecode ([] ++ b)).fst.PPM == (r17Decode b).fst.PPM &&
                      (cDecode ([] ++ b)).fst.Algorithm == (r17Decode b).fst.Algorithm)))))))))
else false)) ∧ (K (.v (.bool (bif
    bif
        bif bif lives then r2Same (cEncode p).fst (r17Encode p).fst else false then (cEncode p).snd == (r17Encode p).snd
        else false then
      (cDecode ([] ++ b)).fst.Access == (r17Decode b).fst.Access &&
        ((cDecode ([] ++ b)).fst.Init == (r17Decode b).fst.Init &&
          ((cDecode ([] ++ b)).fst.Update.WinSize == (r17Decode b).fst.Update.WinSize &&
            ((cDecode ([] ++ b)).fst.Update.WinOffset == (r17Decode b).fst.Update.WinOffset &&
              ((cDecode ([] ++ b)).fst.Update.Interval == (r17Decode b).fst.Update.Interval &&
                ((cDecode ([] ++ b)).fst.Update.Latency == (r17Decode b).fst.Update.Latency &&
                  ((cDecode ([] ++ b)).fst.Update.Timeout == (r17Decode b).fst.Update.Timeout &&
                    ((cDecode ([] ++ b)).fst.Map == (r17Decode b).fst.Map &&
                      ((cDecode ([] ++ b)).fst.Hop == (r17Decode b).fst.Hop &&
                        ((cDecode ([] ++ b)).fst.PPM == (r17Decode b).fst.PPM &&
                          (cDecode ([] ++ b)).fst.Algorithm == (r17Decode b).fst.Algorithm)))))))))
    else false then
  (cDecode ([] ++ b)).snd == (r17Decode b).snd
else false))) [.cells [.v (.int .u32 (p.Access)), .v (.int .u32 (p.Init)), .v (.int .i64 (p.Update.WinSize)), .v (.int .i64 (p.Update.WinOffset)), .v (.int .i64 (p.Update.Interval)), .v (.int .i64 (p.Update.Latency)), .v (.int .i64 (p.Update.Timeout)), .v (.int .u64 (p.Map)), .v (.int .i64 (p.Hop)), .v (.int .i64 (p.PPM)), .v (.int .i64 (p.Algorithm))], .row 5 ((r17Encode p).fst), .gone, .row 5 ([] ++ b), .cells [.v (.int .u32 ((cDecode ([] ++ b)).fst.Access)), .v (.int .u32 ((cDecode ([] ++ b)).fst.Init)), .v (.int .i64 ((cDecode ([] ++ b)).fst.Update.WinSize)), .v (.int .i64 ((cDecode ([] ++ b)).fst.Update.WinOffset)), .v (.int .i64 ((cDecode ([] ++ b)).fst.Update.Interval)), .v (.int .i64 ((cDecode ([] ++ b)).fst.Update.Latency)), .v (.int .i64 ((cDecode ([] ++ b)).fst.Update.Timeout)), .v (.int .u64 ((cDecode ([] ++ b)).fst.Map)), .v (.int .i64 ((cDecode ([] ++ b)).fst.Hop)), .v (.int .i64 ((cDecode ([] ++ b)).fst.PPM)), .v (.int .i64 ((cDecode ([] ++ b)).fst.Algorithm))], .cells [.v (.int .u32 ((r17Decode b).fst.Access)), .v (.int .u32 ((r17Decode b).fst.Init)), .v (.int .i64 ((r17Decode b).fst.Update.WinSize)), .v (.int .i64 ((r17Decode b).fst.Update.WinOffset)), .v (.int .i64 ((r17Decode b).fst.Update.Interval)), .v (.int .i64 ((r17Decode b).fst.Update.Latency)), .v (.int .i64 ((r17Decode b).fst.Update.Timeout)), .v (.int .u64 ((r17Decode b).fst.Map)), .v (.int .i64 ((r17Decode b).fst.Hop)), .v (.int .i64 ((r17Decode b).fst.PPM)), .v (.int .i64 ((r17Decode b).fst.Algorithm))]])))))))))))))))
theorem connectBytes.nf_ok (p : ConnParams) (b : List Int) (K : AV El → List (AObj El) → Prop) : evFun (mkCx Try.prog S tab_connectMoves 0) 4 4 [ConnParams.av p, .sl 5 (b : List (El 5)) false] [] K = connectBytes.nf p b K := by kernel_rfl
theorem connectBytes.key (p : ConnParams) (b : List Int) (hp : b.length ≤ 140737488351232) (v : Bool) (hv : v = connectBytes p b) : connectBytes.nf p b (fun r' H' => Gives r' H' (connectBytes.res v) (connectBytes.news v)) := by
  unfold connectBytes at hv
  unfold connectBytes.nf
  refine ⟨⟨by (try clear hv); (try clear q1 q2); (try clear hk); (try simp only [decide_eq_true_eq, decide_eq_false_iff_not, Bool.not_eq_true, Bool.not_eq_false, Bool.and_eq_true, Bool.or_eq_true, Bool.not_not, cond_and, cond_or, List.length_append, List.length_cons, List.length_nil] at *); (first | omega | (intros; (try simp only [Bool.not_not, cond_and, cond_or, Bool.and_eq_true, decide_eq_true_eq] at *); (exact cEncode_len _)) | (intros; omega) | (intros; simp only [sized_iff, Bool.not_not, cond_and, cond_or, Bool.and_eq_true, decide_eq_true_eq] at *; omega) | (intros; simp_all [sized_iff, Bool.not_not]; done))⟩, ?_⟩
  refine ⟨⟨by (try clear hv); (try clear q1 q2); (try clear hk); (try simp only [decide_eq_true_eq, decide_eq_false_iff_not, Bool.not_eq_true, Bool.not_eq_false, Bool.and_eq_true, Bool.or_eq_true, Bool.not_not, cond_and, cond_or, List.length_append, List.length_cons, List.length_nil] at *); (first | omega | (intros; (try simp only [Bool.not_not, cond_and, cond_or, Bool.and_eq_true, decide_eq_true_eq] at *); (exact cEncode_len _)) | (intros; omega) | (intros; simp only [sized_iff, Bool.not_not, cond_and, cond_or, Bool.and_eq_true, decide_eq_true_eq] at *; omega) | (intros; simp_all [sized_iff, Bool.not_not]; done))⟩, ?_⟩
  refine ⟨⟨by (try clear hv); (try clear q1 q2); (try clear hk); (try simp only [decide_eq_true_eq, decide_eq_false_iff_not, Bool.not_eq_true, Bool.not_eq_false, Bool.and_eq_true, Bool.or_eq_true, Bool.not_not, cond_and, cond_or, List.length_append, List.length_cons, List.length_nil] at *); (first | omega | (intros; (try simp only [Bool.not_not, cond_and, cond_or, Bool.and_eq_true, decide_eq_true_eq] at *); (exact cEncode_len _)) | (intros; omega) | (intros; simp only [sized_iff, Bool.not_not, cond_and, cond_or, Bool.and_eq_true, decide_eq_true_eq] at *; omega) | (intros; simp_all [sized_iff, Bool.not_not]; done))⟩, ?_⟩
  refine ⟨⟨o3_ok _⟩, ?_⟩
  refine ⟨⟨o3_ok _⟩, ?_⟩
  refine ⟨⟨o2_ok _⟩, ?_⟩
  refine ⟨⟨o3_ok _⟩, ?_⟩
  refine ⟨⟨o3_ok _⟩, ?_⟩
  refine ⟨⟨o2_ok _⟩, ?_⟩
  refine ⟨⟨o3_ok _⟩, ?_⟩
  refine ⟨⟨o3_ok _⟩, ?_⟩
  refine ⟨⟨o2_ok _⟩, ?_⟩
  refine ⟨⟨o3_ok _⟩, ?_⟩
  refine ⟨⟨o3_ok _⟩, ?_⟩
  refine ⟨⟨o2_ok _⟩, ?_⟩
  subst hv; exact And.intro (by kernel_rfl) (by kernel_rfl)
def connectBytes.ct : Ct El := ctOf connectBytes.dec (fun x => [x.2.length ≤ 140737488351232]) (fun x => connectBytes.res (connectBytes x.1 x.2)) (fun x => connectBytes.news (connectBytes x.1 x.2))
theorem connectBytes.ok : CtOk (mkCx Try.prog S [] 0) 4 connectBytes.ct := ct_mk (C := (mkCx Try.prog S tab_connectMoves 0)) (mkCx_ok sigOk mixed tab_connectMoves_ok 0) connectBytes.dec_ok (fun x => rfl) 4 (fun x hp => (connectBytes.nf_ok x.1 x.2 _).mpr (connectBytes.key x.1 x.2 (hp _ (List.mem_singleton.2 rfl)) _ rfl))
def tab_connectBytes : List (FuncId × Ct El) := (4, connectBytes.ct) :: tab_connectMoves
theorem tab_connectBytes_ok : TabOk Try.prog S tab_connectBytes := ⟨connectBytes.ok, by kernel_rfl, tab_connectMoves_ok⟩

/-! wireless/wirelesslaw17.ConnectBack -/
def connectBack.res (r : Bool) : AV El := .v (.bool (r))
def connectBack.news (r : Bool) : List (AObj El) := []
def connectBack (p : ConnParams) (b : List Int) : Bool := cond ((cEncode p).snd == (0 : Int)) (cond (bif
    !((cDecode (cEncode p).fst).fst.Access == p.Access &&
        ((cDecode (cEncode p).fst).fst.Init == p.Init &&
          ((cDecode (cEncode p).fst).fst.Update.WinSize == p.Update.WinSize &&
            ((cDecode (cEncode p).fst).fst.Update.WinOffset == p.Update.WinOffset &&
              ((cDecode (cEncode p).fst).fst.Update.Interval == p.Update.Interval &&
                ((cDecode (cEncode p).fst).fst.Update.Latency == p.Update.Latency &&
                  ((cDecode (cEncode p).fst).fst.Update.Timeout == p.Update.Timeout &&
                    ((cDecode (cEncode p).fst).fst.Map == p.Map &&
                      ((cDecode (cEncode p).fst).fst.Hop == p.Hop &&
                        ((cDecode (cEncode p).fst).fst.PPM == p.PPM &&
                          (cDecode (cEncode p).fst).fst.Algorithm == p.Algorithm)))))))))) then
  true
else (cDecode (cEncode p).fst).snd != (0 : Int)) (false) (cond ((cDecode ([] ++ b)).snd != (0 : Int)) ((cDecode ([] ++ b)).fst.Access == (0 : Int) &&
  ((cDecode ([] ++ b)).fst.Init == (0 : Int) &&
    ((cDecode ([] ++ b)).fst.Update.WinSize == (0 : Int) &&
      ((cDecode ([] ++ b)).fst.Update.WinOffset == (0 : Int) &&
        ((cDecode ([] ++ b)).fst.Update.Interval == (0 : Int) &&
          ((cDecode ([] ++ b)).fst.Update.Latency == (0 : Int) &&
            ((cDecode ([] ++ b)).fst.Update.Timeout == (0 : Int) &&
              ((cDecode ([] ++ b)).fst.Map == (0 : Int) &&
                ((cDecode ([] ++ b)).fst.Hop == (0 : Int) &&
                  ((cDecode ([] ++ b)).fst.PPM == (0 : Int) && (cDecode ([] ++ b)).fst.Algorithm == (0 : Int))))))))))) (bif (cEncode (cDecode ([] ++ b)).fst).snd == (0 : Int) then r2Same (cEncode (cDecode ([] ++ b)).fst).fst b else false))) (cond ((cDecode ([] ++ b)).snd != (0 : Int)) ((cDecode ([] ++ b)).fst.Access == (0 : Int) &&
  ((cDecode ([] ++ b)).fst.Init == (0 : Int) &&
    ((cDecode ([] ++ b)).fst.Update.WinSize == (0 : Int) &&
      ((cDecode ([] ++ b)).fst.Update.WinOffset == (0 : Int) &&
        ((cDecode ([] ++ b)).fst.Update.Interval == (0 : Int) &&
          ((cDecode ([] ++ b)).fst.Update.Latency == (0 : Int) &&
            ((cDecode ([] ++ b)).fst.Update.Timeout == (0 : Int) &&
              ((cDecode ([] ++ b)).fst.Map == (0 : Int) &&
                ((cDecode ([] ++ b)).fst.Hop == (0 : Int) &&
                  ((cDecode ([] ++ b)).fst.PPM == (0 : Int) && (cDecode ([] ++ b)).fst.Algorithm == (0 : Int))))))))))) (bif (cEncode (cDecode ([] ++ b)).fst).snd == (0 : Int) then r2Same (cEncode (cDecode ([] ++ b)).fst).fst b else false))
def connectBack.dec (cs : List (AV El)) : Option (ConnParams × (List Int)) := popA ConnParams.dec cs fun a0 c0 => popS 5 c0 fun a1 c1 => popE c1 (a0, a1)
def connectBack.enc (x : ConnParams × (List Int)) : List (AV El) := [ConnParams.av x.1, .sl 5 (x.2 : List (El 5)) false]
theorem connectBack.dec_ok : ∀ cs x, connectBack.dec cs = some x → Imp (S := S) cs (connectBack.enc x) := by
  intro cs x h
  unfold connectBack.dec at h
  obtain ⟨a0, c0, h0, k0⟩ := popA_some (S := S) ConnParams.dec_ok h
  obtain ⟨a1, c1, h1, k1⟩ := popS_some (S := S) (t := 5) h0
  obtain ⟨rfl, rfl⟩ := popE_some (S := S) h1
  exact (k0 _ (k1 _ (.refl _)))
def connectBack.nf (p : ConnParams) (b : List Int) (K : AV El → List (AObj El) → Prop) : Prop := cond ((cEncode p).snd == (0 : Int)) (Ob (List.length (cEncode p).fst ≤ (140737488355328 : Nat)) ∧ (Ob (o3 (!!((cDecode (cEncode p).fst).fst.Access == p.Access &&
      ((cDecode (cEncode p).fst).fst.Init == p.Init &&
        ((cDecode (cEncode p).fst).fst.Update.WinSize == p.Update.WinSize &&
          ((cDecode (cEncode p).fst).fst.Update.WinOffset == p.Update.WinOffset &&
            ((cDecode (cEncode p).fst).fst.Update.Interval == p.Update.Interval &&
              ((cDecode (cEncode p).fst).fst.Update.Latency == p.Update.Latency &&
                ((cDecode (cEncode p).fst).fst.Update.Timeout == p.Update.Timeout &&
                  ((cDecode (cEncode p).fst).fst.Map == p.Map &&
                    ((cDecode (cEncode p).fst).fst.Hop == p.Hop &&
                      ((cDecode (cEncode p).fst).fst.PPM == p.PPM &&
                        (cDecode (cEncode p).fst).fst.Algorithm == p.Algorithm)))))))))))) ∧ (Ob (on (!((cDecode (cEncode p).fst).fst.Access == p.Access &&
    ((cDecode (cEncode p).fst).fst.Init == p.Init &&
      ((cDecode (cEncode p).fst).fst.Update.WinSize == p.Update.WinSize &&
        ((cDecode (cEncode p).fst).fst.Update.WinOffset == p.Update.WinOffset &&
          ((cDecode (cEncode p).fst).fst.Update.Interval == p.Update.Interval &&
            ((cDecode (cEncode p).fst).fst.Update.Latency == p.Update.Latency &&
              ((cDecode (cEncode p).fst).fst.Update.Timeout == p.Update.Timeout &&
                ((cDecode (cEncode p).fst).fst.Map == p.Map &&
                  ((cDecode (cEncode p).fst).fst.Hop == p.Hop &&
                    ((cDecode (cEncode p).fst).fst.PPM == p.PPM &&
                      (cDecode (cEncode p).fst).fst.Algorithm == p.Algorithm)))))))))))) ∧ (cond (bif
    !((cDecode (cEncode p).fst).fst.Access == p.Access &&
        ((cDecode (cEncode p).fst).fst.Init == p.Init &&
          ((cDecode (cEncode p).fst).fst.Update.WinSize == p.Update.WinSize &&
            ((cDecode (cEncode p).fst).fst.Update.WinOffset == p.Update.WinOffset &&
              ((cDecode (cEncode p).fst).fst.Update.Interval == p.Update.Interval &&
                ((cDecode (cEncode p).fst).fst.Update.Latency == p.Update.Latency &&
                  ((cDecode (cEncode p).fst).fst.Update.Timeout == p.Update.Timeout &&
                    ((cDecode (cEncode p).fst).fst.Map == p.Map &&
                      ((cDecode (cEncode p).fst).fst.Hop == p.Hop &&
                        ((cDecode (cEncode p).fst).fst.PPM == p.PPM &&
                          (cDecode (cEncode p).fst).fst.Algorithm == p.Algorithm)))))))))) then
  true
else (cDecode (cEncode p).fst).snd != (0 : Int)) (K (.v (.bool (false))) [.cells [.v (.int .u32 (p.Access)), .v (.int .u32 (p.Init)), .v (.int .i64 (p.Update.WinSize)), .v (.int .i64 (p.Update.WinOffset)), .v (.int .i64 (p.Update.Interval)), .v (.int .i64 (p.Update.Latency)), .v (.int .i64 (p.Update.Timeout)), .v (.int .u64 (p.Map)), .v (.int .i64 (p.Hop)), .v (.int .i64 (p.PPM)), .v (.int .i64 (p.Algorithm))], .cells [.v (.int .u32 ((cDecode (cEncode p).fst).fst.Access)), .v (.int .u32 ((cDecode (cEncode p).fst).fst.Init)), .v (.int .i64 ((cDecode (cEncode p).fst).fst.Update.WinSize)), .v (.int .i64 ((cDecode (cEncode p).fst).fst.Update.WinOffset)), .v (.int .i64 ((cDecode (cEncode p).fst).fst.Update.Interval)), .v (.int .i64 ((cDecode (cEncode p).fst).fst.Update.Latency)), .v (.int .i64 ((cDecode (cEncode p).fst).fst.Update.Timeout)), .v (.int .u64 ((cDecode (cEncode p).fst).fst.Map)), .v (.int .i64 ((cDecode (cEncode p).fst).fst.Hop)), .v (.int .i64 ((cDecode (cEncode p).fst).fst.PPM)), .v (.int .i64 ((cDecode (cEncode p).fst).fst.Algorithm))]]) (Ob (((0 : Nat) + List.length b) * (1 : Nat) ≤ (140737488355328 : Nat)) ∧ (Ob (List.length ([] ++ b) ≤ (140737488355328 : Nat)) ∧ (cond ((cDecode ([] ++ b)).snd != (0 : Int)) (K (.v (.bool ((cDecode ([] ++ b)).fst.Access == (0 : Int) &&
  ((cDecode ([] ++ b)).fst.Init == (0 : Int) &&
    ((cDecode ([] ++ b)).fst.Update.WinSize == (0 : Int) &&
      ((cDecode ([] ++ b)).fst.Update.WinOffset == (0 : Int) &&
        ((cDecode ([] ++ b)).fst.Update.Interval == (0 : Int) &&
          ((cDecode ([] ++ b)).fst.Update.Latency == (0 : Int) &&
            ((cDecode ([] ++ b)).fst.Update.Timeout == (0 : Int) &&
              ((cDecode ([] ++ b)).fst.Map == (0 : Int) &&
                ((cDecode ([] ++ b)).fst.Hop == (0 : Int) &&
                  ((cDecode ([] ++ b)).fst.PPM == (0 : Int) && (cDecode ([] ++ b)).fst.Algorithm == (0 : Int))))))))))))) [.cells [.v (.int .u32 (p.Access)), .v (.int .u32 (p.Init)), .v (.int .i64 (p.Update.WinSize)), .v (.int .i64 (p.Update.WinOffset)), .v (.int .i64 (p.Update.Interval)), .v (.int .i64 (p.Update.Latency)), .v (.int .i64 (p.Update.Timeout)), .v (.int .u64 (p.Map)), .v (.int .i64 (p.Hop)), .v (.int .i64 (p.PPM)), .v (.int .i64 (p.Algorithm))], .cells [.v (.int .u32 ((cDecode (cEncode p).fst).fst.Access)), .v (.int .u32 ((cDecode (cEncode p).fst).fst.Init)), .v (.int .i64 ((cDecode (cEncode p).fst).fst.Update.WinSize)), .v (.int .i64 ((cDecode (cEncode p).fst).fst.Update.WinOffset)), .v (.int .i64 ((cDecode (cEncode p).fst).fst.Update.Interval)), .v (.int .i64 ((cDecode (cEncode p).fst).fst.Update.Latency)), .v (.int .i64 ((cDecode (cEncode p).fst).fst.Update.Timeout)), .v (.int .u64 ((cDecode (cEncode p).fst).fst.Map)), .v (.int .i64 ((cDecode (cEncode p).fst).fst.Hop)), .v (.int .i64 ((cDecode (cEncode p).fst).fst.PPM)), .v (.int .i64 ((cDecode (cEncode p).fst).fst.Algorithm))], .gone, .row 5 ([] ++ b), .cells [.v (.int .u32 ((cDecode ([] ++ b)).fst.Access)), .v (.int .u32 ((cDecode ([] ++ b)).fst.Init)), .v (.int .i64 ((cDecode ([] ++ b)).fst.Update.WinSize)), .v (.int .i64 ((cDecode ([] ++ b)).fst.Update.WinOffset)), .v (.int .i64 ((cDecode ([] ++ b)).fst.Update.Interval)), .v (.int .i64 ((cDecode ([] ++ b)).fst.Update.Latency)), .v (.int .i64 ((cDecode ([] ++ b)).fst.Update.Timeout)), .v (.int .u64 ((cDecode ([] ++ b)).fst.Map)), .v (.int .i64 ((cDecode ([] ++ b)).fst.Hop)), .v (.int .i64 ((cDecode ([] ++ b)).fst.PPM)), .v (.int .i64 ((cDecode ([] ++ b)).fst.Algorithm))]]) (Ob (o3 ((cEncode (cDecode ([] ++ b)).fst).snd == (0 : Int))) ∧ (Ob (o3 ((cEncode (cDecode ([] ++ b)).fst).snd == (0 : Int))) ∧ (Ob (o2 ((cEncode (cDecode ([] ++ b)).fst).snd == (0 : Int))) ∧ (K (.v (.bool (bif (cEncode (cDecode ([] ++ b)).fst).snd == (0 : Int) then r2Same (cEncode (cDecode ([] ++ b)).fst).fst b else false))) [.cells [.v (.int .u32 (p.Access)), .v (.int .u32 (p.Init)), .v (.int .i64 (p.Update.WinSize)), .v (.int .i64 (p.Update.WinOffset)), .v (.int .i64 (p.Update.Interval)), .v (.int .i64 (p.Update.Latency)), .v (.int .i64 (p.Update.Timeout)), .v (.int .u64 (p.Map)), .v (.int .i64 (p.Hop)), .v (.int .i64 (p.PPM)), .v (.int .i64 (p.Algorithm))], .cells [.v (.int .u32 ((cDecode (cEncode p).fst).fst.Access)), .v (.int .u32 ((cDecode (cEncode p).fst).fst.Init)), .v (.int .i64 ((cDecode (cEncode p).fst).fst.Update.WinSize)), .v (.int .i64 ((cDecode (cEncode p).fst).fst.Update.WinOffset)), .v (.int .i64 ((cDecode (cEncode p).fst).fst.Update.Interval)), .v (.int .i64 ((cDecode (cEncode p).fst).fst.Update.Latency)), .v (.int .i64 ((cDecode (cEncode p).fst).fst.Update.Timeout)), .v (.int .u64 ((cDecode (cEncode p).fst).fst.Map)), .v (.int .i64 ((cDecode (cEncode p).fst).fst.Hop)), .v (.int .i64 ((cDecode (cEncode p).fst).fst.PPM)), .v (.int .i64 ((cDecode (cEncode p).fst).fst.Algorithm))], .gone, .row 5 ([] ++ b), .cells [.v (.int .u32 ((cDecode ([] ++ b)).fst.Access)), .v (.int .u32 ((cDecode ([] ++ b)).fst.Init)), .v (.int .i64 ((cDecode ([] ++ b)).fst.Update.WinSize)), .v (.int .i64 ((cDecode ([] ++ b)).fst.Update.WinOffset)), .v (.int .i64 ((cDecode ([] ++ b)).fst.Update.Interval)), .v (.int .i64 ((cDecode ([] ++ b)).fst.Update.Latency)), .v (.int .i64 ((cDecode ([] ++ b)).fst.Update.Timeout)), .v (.int .u64 ((cDecode ([] ++ b)).fst.Map)), .v (.int .i64 ((cDecode ([] ++ b)).fst.Hop)), .v (.int .i64 ((cDecode ([] ++ b)).fst.PPM)), .v (.int .i64 ((cDecode ([] ++ b)).fst.Algorithm))]]))))))))))) (Ob (((0 : Nat) + List.length b) * (1 : Nat) ≤ (140737488355328 : Nat)) ∧ (Ob (List.length ([] ++ b) ≤ (140737488355328 : Nat)) ∧ (cond ((cDecode ([] ++ b)).snd != (0 : Int)) (K (.v (.bool ((cDecode ([] ++ b)).fst.Access == (0 : Int) &&
  ((cDecode ([] ++ b)).fst.Init == (0 : Int) &&
    ((cDecode ([] ++ b)).fst.Update.WinSize == (0 : Int) &&
      ((cDecode ([] ++ b)).fst.Update.WinOffset == (0 : Int) &&
        ((cDecode ([] ++ b)).fst.Update.Interval == (0 : Int) &&
          ((cDecode ([] ++ b)).fst.Update.Latency == (0 : Int) &&
            ((cDecode ([] ++ b)).fst.Update.Timeout == (0 : Int) &&
              ((cDecode ([] ++ b)).fst.Map == (0 : Int) &&
                ((cDecode ([] ++ b)).fst.Hop == (0 : Int) &&
                  ((cDecode ([] ++ b)).fst.PPM == (0 : Int) && (cDecode ([] ++ b)).fst.Algorithm == (0 : Int))))))))))))) [.cells [.v (.int .u32 (p.Access)), .v (.int .u32 (p.Init)), .v (.int .i64 (p.Update.WinSize)), .v (.int .i64 (p.Update.WinOffset)), .v (.int .i64 (p.Update.Interval)), .v (.int .i64 (p.Update.Latency)), .v (.int .i64 (p.Update.Timeout)), .v (.int .u64 (p.Map)), .v (.int .i64 (p.Hop)), .v (.int .i64 (p.PPM)), .v (.int .i64 (p.Algorithm))], .gone, .row 5 ([] ++ b), .cells [.v (.int .u32 ((cDecode ([] ++ b)).fst.Access)), .v (.int .u32 ((cDecode ([] ++ b)).fst.Init)), .v (.int .i64 ((cDecode ([] ++ b)).fst.Update.WinSize)), .v (.int .i64 ((cDecode ([] ++ b)).fst.Update.WinOffset)), .v (.int .i64 ((cDecode ([] ++ b)).fst.Update.Interval)), .v (.int .i64 ((cDecode ([] ++ b)).fst.Update.Latency)), .v (.int .i64 ((cDecode ([] ++ b)).fst.Update.Timeout)), .v (.int .u64 ((cDecode ([] ++ b)).fst.Map)), .v (.int .i64 ((cDecode ([] ++ b)).fst.Hop)), .v (.int .i64 ((cDecode ([] ++ b)).fst.PPM)), .v (.int .i64 ((cDecode ([] ++ b)).fst.Algorithm))]]) (Ob (o3 ((cEncode (cDecode ([] ++ b)).fst).snd == (0 : Int))) ∧ (Ob (o3 ((cEncode (cDecode ([] ++ b)).fst).snd == (0 : Int))) ∧ (Ob (o2 ((cEncode (cDecode ([] ++ b)).fst).snd == (0 : Int))) ∧ (K (.v (.bool (bif (cEncode (cDecode ([] ++ b)).fst).snd == (0 : Int) then r2Same (cEncode (cDecode ([] ++ b)).fst).fst b else false))) [.cells [.v (.int .u32 (p.Access)), .v (.int .u32 (p.Init)), .v (.int .i64 (p.Update.WinSize)), .v (.int .i64 (p.Update.WinOffset)), .v (.int .i64 (p.Update.Interval)), .v (.int .i64 (p.Update.Latency)), .v (.int .i64 (p.Update.Timeout)), .v (.int .u64 (p.Map)), .v (.int .i64 (p.Hop)), .v (.int .i64 (p.PPM)), .v (.int .i64 (p.Algorithm))], .gone, .row 5 ([] ++ b), .cells [.v (.int .u32 ((cDecode ([] ++ b)).fst.Access)), .v (.int .u32 ((cDecode ([] ++ b)).fst.Init)), .v (.int .i64 ((cDecode ([] ++ b)).fst.Update.WinSize)), .v (.int .i64 ((cDecode ([] ++ b)).fst.Update.WinOffset)), .v (.int .i64 ((cDecode ([] ++ b)).fst.Update.Interval)), .v (.int .i64 ((cDecode ([] ++ b)).fst.Update.Latency)), .v (.int .i64 ((cDecode ([] ++ b)).fst.Update.Timeout)), .v (.int .u64 ((cDecode ([] ++ b)).fst.Map)), .v (.int .i64 ((cDecode ([] ++ b)).fst.Hop)), .v (.int .i64 ((cDecode ([] ++ b)).fst.PPM)), .v (.int .i64 ((cDecode ([] ++ b)).fst.Algorithm))]])))))))
theorem connectBack.nf_ok (p : ConnParams) (b : List Int) (K : AV El → List (AObj El) → Prop) : evFun (mkCx Try.prog S tab_connectMoves 0) 4 8 [ConnParams.av p, .sl 5 (b : List (El 5)) false] [] K = connectBack.nf p b K := by kernel_rfl
theorem connectBack.key (p : ConnParams) (b : List Int) (hp : b.length ≤ 140737488351232) (v : Bool) (hv : v = connectBack p b) : connectBack.nf p b (fun r' H' => Gives r' H' (connectBack.res v) (connectBack.news v)) := by
  unfold connectBack at hv
  unfold connectBack.nf
  refine by_cond (fun hb hv => ?_) (fun hb hv => ?_) hv
  · refine ⟨⟨by (try clear hv); (try clear q1 q2); (try clear hk); (try simp only [decide_eq_true_eq, decide_eq_false_iff_not, Bool.not_eq_true, Bool.not_eq_false, Bool.and_eq_true, Bool.or_eq_true, Bool.not_not, cond_and, cond_or, List.length_append, List.length_cons, List.length_nil] at *); (first | omega | (intros; (try simp only [Bool.not_not, cond_and, cond_or, Bool.and_eq_true, decide_eq_true_eq] at *); (exact cEncode_len _)) | (intros; omega) | (intros; simp only [sized_iff, Bool.not_not, cond_and, cond_or, Bool.and_eq_true, decide_eq_true_eq] at *; omega) | (intros; simp_all [sized_iff, Bool.not_not]; done))⟩, ?_⟩
    refine ⟨⟨o3_ok _⟩, ?_⟩
    refine ⟨⟨on_ok _⟩, ?_⟩
    refine by_cond (fun hb hv => ?_) (fun hb hv => ?_) hv
    · subst hv; exact And.intro (by kernel_rfl) (by kernel_rfl)
    · refine ⟨⟨by (try clear hv); (try clear q1 q2); (try clear hk); (try simp only [decide_eq_true_eq, decide_eq_false_iff_not, Bool.not_eq_true, Bool.not_eq_false, Bool.and_eq_true, Bool.or_eq_true, Bool.not_not, cond_and, cond_or, List.length_append, List.length_cons, List.length_nil] at *); (first | omega | (intros; (try simp only [Bool.not_not, cond_and, cond_or, Bool.and_eq_true, decide_eq_true_eq] at *); (exact cEncode_len _)) | (intros; omega) | (intros; simp only [sized_iff, Bool.not_not, cond_and, cond_or, Bool.and_eq_true, decide_eq_true_eq] at *; omega) | (intros; simp_all [sized_iff, Bool.not_not]; done))⟩, ?_⟩
      refine ⟨⟨by (try clear hv); (try clear q1 q2); (try clear hk); (try simp only [decide_eq_true_eq, decide_eq_false_iff_not, Bool.not_eq_true, Bool.not_eq_false, Bool.and_eq_true, Bool.or_eq_true, Bool.not_not, cond_and, cond_or, List.length_append, List.length_cons, List.length_nil] at *); (first | omega | (intros; (try simp only [Bool.not_not, cond_and, cond_or, Bool.and_eq_true, decide_eq_true_eq] at *); (exact cEncode_len _)) | (intros; omega) | (intros; simp only [sized_iff, Bool.not_not, cond_and, cond_or, Bool.and_eq_true, decide_eq_true_eq] at *; omega) | (intros; simp_all [sized_iff, Bool.not_not]; done))⟩, ?_⟩
      refine by_cond (fun hb hv => ?_) (fun hb hv => ?_) hv
      · subst hv; exact And.intro (by kernel_rfl) (by kernel_rfl)
      · refine ⟨⟨o3_ok _⟩, ?_⟩
        refine ⟨⟨o3_ok _⟩, ?_⟩
        refine ⟨⟨o2_ok _⟩, ?_⟩
        subst hv; exact And.intro (by kernel_rfl) (by kernel_rfl)
  · refine ⟨⟨by (try clear hv); (try clear q1 q2); (try clear hk); (try simp only [decide_eq_true_eq, decide_eq_false_iff_not, Bool.not_eq_true, Bool.not_eq_false, Bool.and_eq_true, Bool.or_eq_true, Bool.not_not, cond_and, cond_or, List.length_append, List.length_cons, List.length_nil] at *); (first | omega | (intros; (try simp only [Bool.not_not, cond_and, cond_or, Bool.and_eq_true, decide_eq_true_eq] at *); (exact cEncode_len _)) | (intros; omega) | (intros; simp only [sized_iff, Bool.not_not, cond_and, cond_or, Bool.and_eq_true, decide_eq_true_eq] at *; omega) | (intros; simp_all [sized_iff, Bool.not_not]; done))⟩, ?_⟩
    refine ⟨⟨by (try clear hv); (try clear q1 q2); (try clear hk); (try simp only [decide_eq_true_eq, decide_eq_false_iff_not, Bool.not_eq_true, Bool.not_eq_false, Bool.and_eq_true, Bool.or_eq_true, Bool.not_not, cond_and, cond_or, List.length_append, List.length_cons, List.length_nil] at *); (first | omega | (intros; (try simp only [Bool.not_not, cond_and, cond_or, Bool.and_eq_true, decide_eq_true_eq] at *); (exact cEncode_len _)) | (intros; omega) | (intros; simp only [sized_iff, Bool.not_not, cond_and, cond_or, Bool.and_eq_true, decide_eq_true_eq] at *; omega) | (intros; simp_all [sized_iff, Bool.not_not]; done))⟩, ?_⟩
    refine by_cond (fun hb hv => ?_) (fun hb hv => ?_) hv
    · subst hv; exact And.intro (by kernel_rfl) (by kernel_rfl)
    · refine ⟨⟨o3_ok _⟩, ?_⟩
      refine ⟨⟨o3_ok _⟩, ?_⟩
      refine ⟨⟨o2_ok _⟩, ?_⟩
      subst hv; exact And.intro (by kernel_rfl) (by kernel_rfl)
def connectBack.ct : Ct El := ctOf connectBack.dec (fun x => [x.2.length ≤ 140737488351232]) (fun x => connectBack.res (connectBack x.1 x.2)) (fun x => connectBack.news (connectBack x.1 x.2))
theorem connectBack.ok : CtOk (mkCx Try.prog S [] 0) 8 connectBack.ct := ct_mk (C := (mkCx Try.prog S tab_connectMoves 0)) (mkCx_ok sigOk mixed tab_connectMoves_ok 0) connectBack.dec_ok (fun x => rfl) 4 (fun x hp => (connectBack.nf_ok x.1 x.2 _).mpr (connectBack.key x.1 x.2 (hp _ (List.mem_singleton.2 rfl)) _ rfl))
def tab_connectBack : List (FuncId × Ct El) := (8, connectBack.ct) :: tab_connectBytes
theorem tab_connectBack_ok : TabOk Try.prog S tab_connectBack := ⟨connectBack.ok, by kernel_rfl, tab_connectBytes_ok⟩

end Go.Aw.W
