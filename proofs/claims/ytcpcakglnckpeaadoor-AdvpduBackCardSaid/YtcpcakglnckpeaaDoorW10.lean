/- Contracts of the seat (printed by ct.py). -/
import Derived.Test.YtcpcakglnckpeaaDoorW9
set_option linter.unusedVariables false
set_option linter.unusedSimpArgs false
set_option maxRecDepth 20000
set_option maxHeartbeats 1000000
namespace Go.Aw.W
open Go Go.Aw Go.Proofs
attribute [local irreducible] evCode evFun evOps evDs evOne ctxK loopK loopB subC bodyC headS okH roundK

/-! wireless/advpdu.Check -/
def pCheck.res (r : Int) : AV El := .v (.int .i64 (r))
def pCheck.news (r : Int) : List (AObj El) := []
def pCheck (p : AdvPDU) : Int := cond (!(aForm p.Kind).known) ((12 : Int)) (cond (aCheck p.Sender != (0 : Int)) (aCheck p.Sender) (cond ((aForm p.Kind).target) (cond (aCheck p.Target != (0 : Int)) (aCheck p.Target) (cond (bif (aForm p.Kind).data then decide ((31 : Int) < (↑(List.length p.Data) : Int)) else false) ((4 : Int)) (cond (bif !(aForm p.Kind).data then decide ((0 : Int) < (↑(List.length p.Data) : Int)) else false) ((1 : Int)) (cond ((aForm p.Kind).conn) (cCheck p.Conn) (cond (!(p.Conn.Access == (0 : Int) && (p.Conn.Init == (0 : Int) && (p.Conn.Update.WinSize == (0 : Int) && (p.Conn.Update.WinOffset == (0 : Int) && (p.Conn.Update.Interval == (0 : Int) && (p.Conn.Update.Latency == (0 : Int) && (p.Conn.Update.Timeout == (0 : Int) && (p.Conn.Map == (0 : Int) && (p.Conn.Hop == (0 : Int) && (p.Conn.PPM == (0 : Int) && p.Conn.Algorithm == (0 : Int)))))))))))) ((1 : Int)) ((0 : Int))))))) (cond (!(p.Target.Kind == (0 : Int) && p.Target.Bits == (0 : Int))) ((1 : Int)) (cond (bif (aForm p.Kind).data then decide ((31 : Int) < (↑(List.length p.Data) : Int)) else false) ((4 : Int)) (cond (bif !(aForm p.Kind).data then decide ((0 : Int) < (↑(List.length p.Data) : Int)) else false) ((1 : Int)) (cond ((aForm p.Kind).conn) (cCheck p.Conn) (cond (!(p.Conn.Access == (0 : Int) && (p.Conn.Init == (0 : Int) && (p.Conn.Update.WinSize == (0 : Int) && (p.Conn.Update.WinOffset == (0 : Int) && (p.Conn.Update.Interval == (0 : Int) && (p.Conn.Update.Latency == (0 : Int) && (p.Conn.Update.Timeout == (0 : Int) && (p.Conn.Map == (0 : Int) && (p.Conn.Hop == (0 : Int) && (p.Conn.PPM == (0 : Int) && p.Conn.Algorithm == (0 : Int)))))))))))) ((1 : Int)) ((0 : Int)))))))))
def pCheck.dec (cs : List (AV El)) : Option (AdvPDU) := popA AdvPDU.dec cs fun a0 c0 => popE c0 a0
def pCheck.enc (x : AdvPDU) : List (AV El) := [AdvPDU.av x]
theorem pCheck.dec_ok : ∀ cs x, pCheck.dec cs = some x → Imp (S := S) cs (pCheck.enc x) := by
  intro cs x h
  unfold pCheck.dec at h
  obtain ⟨a0, c0, h0, k0⟩ := popA_some (S := S) AdvPDU.dec_ok h
  obtain ⟨rfl, rfl⟩ := popE_some (S := S) h0
  exact (k0 _ (.refl _))
def pCheck.nf (p : AdvPDU) (K : AV El → List (AObj El) → Prop) : Prop := cond (!(aForm p.Kind).known) (K (.v (.int .i64 ((12 : Int)))) [.cells [.v (.int .i64 (p.Kind)), .v (.int .i64 (p.Sender.Kind)), .v (.int .u64 (p.Sender.Bits)), .v (.int .i64 (p.Target.Kind)), .v (.int .u64 (p.Target.Bits)), .sl 5 (p.Data : List (El 5)) false, .v (.int .u32 (p.Conn.Access)), .v (.int .u32 (p.Conn.Init)), .v (.int .i64 (p.Conn.Update.WinSize)), .v (.int .i64 (p.Conn.Update.WinOffset)), .v (.int .i64 (p.Conn.Update.Interval)), .v (.int .i64 (p.Conn.Update.Latency)), .v (.int .i64 (p.Conn.Update.Timeout)), .v (.int .u64 (p.Conn.Map)), .v (.int .i64 (p.Conn.Hop)), .v (.int .i64 (p.Conn.PPM)), .v (.int .i64 (p.Conn.Algorithm))], .cells [.v (.bool ((aForm p.Kind).known)), .v (.bool ((aForm p.Kind).target)), .v (.bool ((aForm p.Kind).data)), .v (.bool ((aForm p.Kind).conn))]]) (cond (aCheck p.Sender != (0 : Int)) (K (.v (.int .i64 (aCheck p.Sender))) [.cells [.v (.int .i64 (p.Kind)), .v (.int .i64 (p.Sender.Kind)), .v (.int .u64 (p.Sender.Bits)), .v (.int .i64 (p.Target.Kind)), .v (.int .u64 (p.Target.Bits)), .sl 5 (p.Data : List (El 5)) false, .v (.int .u32 (p.Conn.Access)), .v (.int .u32 (p.Conn.Init)), .v (.int .i64 (p.Conn.Update.WinSize)), .v (.int .i64 (p.Conn.Update.WinOffset)), .v (.int .i64 (p.Conn.Update.Interval)), .v (.int .i64 (p.Conn.Update.Latency)), .v (.int .i64 (p.Conn.Update.Timeout)), .v (.int .u64 (p.Conn.Map)), .v (.int .i64 (p.Conn.Hop)), .v (.int .i64 (p.Conn.PPM)), .v (.int .i64 (p.Conn.Algorithm))], .cells [.v (.bool ((aForm p.Kind).known)), .v (.bool ((aForm p.Kind).target)), .v (.bool ((aForm p.Kind).data)), .v (.bool ((aForm p.Kind).conn))]]) (cond ((aForm p.Kind).target) (cond (aCheck p.Target != (0 : Int)) (K (.v (.int .i64 (aCheck p.Target))) [.cells [.v (.int .i64 (p.Kind)), .v (.int .i64 (p.Sender.Kind)), .v (.int .u64 (p.Sender.Bits)), .v (.int .i64 (p.Target.Kind)), .v (.int .u64 (p.Target.Bits)), .sl 5 (p.Data : List (El 5)) false, .v (.int .u32 (p.Conn.Access)), .v (.int .u32 (p.Conn.Init)), .v (.int .i64 (p.Conn.Update.WinSize)), .v (.int .i64 (p.Conn.Update.WinOffset)), .v (.int .i64 (p.Conn.Update.Interval)), .v (.int .i64 (p.Conn.Update.Latency)), .v (.int .i64 (p.Conn.Update.Timeout)), .v (.int .u64 (p.Conn.Map)), .v (.int .i64 (p.Conn.Hop)), .v (.int .i64 (p.Conn.PPM)), .v (.int .i64 (p.Conn.Algorithm))], .cells [.v (.bool ((aForm p.Kind).known)), .v (.bool ((aForm p.Kind).target)), .v (.bool ((aForm p.Kind).data)), .v (.bool ((aForm p.Kind).conn))]]) (Ob (o3 ((aForm p.Kind).data)) ∧ (Ob (o3 ((aForm p.Kind).data)) ∧ (Ob (o3 ((aForm p.Kind).data)) ∧ (Ob (o2 ((aForm p.Kind).data)) ∧ (cond (bif (aForm p.Kind).data then decide ((31 : Int) < (↑(List.length p.Data) : Int)) else false) (K (.v (.int .i64 ((4 : Int)))) [.cells [.v (.int .i64 (p.Kind)), .v (.int .i64 (p.Sender.Kind)), .v (.int .u64 (p.Sender.Bits)), .v (.int .i64 (p.Target.Kind)), .v (.int .u64 (p.Target.Bits)), .sl 5 (p.Data : List (El 5)) false, .v (.int .u32 (p.Conn.Access)), .v (.int .u32 (p.Conn.Init)), .v (.int .i64 (p.Conn.Update.WinSize)), .v (.int .i64 (p.Conn.Update.WinOffset)), .v (.int .i64 (p.Conn.Update.Interval)), .v (.int .i64 (p.Conn.Update.Latency)), .v (.int .i64 (p.Conn.Update.Timeout)), .v (.int .u64 (p.Conn.Map)), .v (.int .i64 (p.Conn.Hop)), .v (.int .i64 (p.Conn.PPM)), .v (.int .i64 (p.Conn.Algorithm))], .cells [.v (.bool ((aForm p.Kind).known)), .v (.bool ((aForm p.Kind).target)), .v (.bool ((aForm p.Kind).data)), .v (.bool ((aForm p.Kind).conn))]]) (Ob (o3 (!(aForm p.Kind).data)) ∧ (Ob (o3 (!(aForm p.Kind).data)) ∧ (Ob (o3 (!(aForm p.Kind).data)) ∧ (Ob (o2 (!(aForm p.Kind).data)) ∧ (cond (bif !(aForm p.Kind).data then decide ((0 : Int) < (↑(List.length p.Data) : Int)) else false) (K (.v (.int .i64 ((1 : Int)))) [.cells [.v (.int .i64 (p.Kind)), .v (.int .i64 (p.Sender.Kind)), .v (.int .u64 (p.Sender.Bits)), .v (.int .i64 (p.Target.Kind)), .v (.int .u64 (p.Target.Bits)), .sl 5 (p.Data : List (El 5)) false, .v (.int .u32 (p.Conn.Access)), .v (.int .u32 (p.Conn.Init)), .v (.int .i64 (p.Conn.Update.WinSize)), .v (.int .i64 (p.Conn.Update.WinOffset)), .v (.int .i64 (p.Conn.Update.Interval)), .v (.int .i64 (p.Conn.Update.Latency)), .v (.int .i64 (p.Conn.Update.Timeout)), .v (.int .u64 (p.Conn.Map)), .v (.int .i64 (p.Conn.Hop)), .v (.int .i64 (p.Conn.PPM)), .v (.int .i64 (p.Conn.Algorithm))], .cells [.v (.bool ((aForm p.Kind).known)), .v (.bool ((aForm p.Kind).target)), .v (.bool ((aForm p.Kind).data)), .v (.bool ((aForm p.Kind).conn))]]) (cond ((aForm p.Kind).conn) (K (.v (.int .i64 (cCheck p.Conn))) [.cells [.v (.int .i64 (p.Kind)), .v (.int .i64 (p.Sender.Kind)), .v (.int .u64 (p.Sender.Bits)), .v (.int .i64 (p.Target.Kind)), .v (.int .u64 (p.Target.Bits)), .sl 5 (p.Data : List (El 5)) false, .v (.int .u32 (p.Conn.Access)), .v (.int .u32 (p.Conn.Init)), .v (.int .i64 (p.Conn.Update.WinSize)), .v (.int .i64 (p.Conn.Update.WinOffset)), .v (.int .i64 (p.Conn.Update.Interval)), .v (.int .i64 (p.Conn.Update.Latency)), .v (.int .i64 (p.Conn.Update.Timeout)), .v (.int .u64 (p.Conn.Map)), .v (.int .i64 (p.Conn.Hop)), .v (.int .i64 (p.Conn.PPM)), .v (.int .i64 (p.Conn.Algorithm))], .cells [.v (.bool ((aForm p.Kind).known)), .v (.bool ((aForm p.Kind).target)), .v (.bool ((aForm p.Kind).data)), .v (.bool ((aForm p.Kind).conn))]]) (cond (!(p.Conn.Access == (0 : Int) && (p.Conn.Init == (0 : Int) && (p.Conn.Update.WinSize == (0 : Int) && (p.Conn.Update.WinOffset == (0 : Int) && (p.Conn.Update.Interval == (0 : Int) && (p.Conn.Update.Latency == (0 : Int) && (p.Conn.Update.Timeout == (0 : Int) && (p.Conn.Map == (0 : Int) && (p.Conn.Hop == (0 : Int) && (p.Conn.PPM == (0 : Int) && p.Conn.Algorithm == (0 : Int)))))))))))) (K (.v (.int .i64 ((1 : Int)))) [.cells [.v (.int .i64 (p.Kind)), .v (.int .i64 (p.Sender.Kind)), .v (.int .u64 (p.Sender.Bits)), .v (.int .i64 (p.Target.Kind)), .v (.int .u64 (p.Target.Bits)), .sl 5 (p.Data : List (El 5)) false, .v (.int .u32 (p.Conn.Access)), .v (.int .u32 (p.Conn.Init)), .v (.int .i64 (p.Conn.Update.WinSize)), .v (.int .i64 (p.Conn.Update.WinOffset)), .v (.int .i64 (p.Conn.Update.Interval)), .v (.int .i64 (p.Conn.Update.Latency)), .v (.int .i64 (p.Conn.Update.Timeout)), .v (.int .u64 (p.Conn.Map)), .v (.int .i64 (p.Conn.Hop)), .v (.int .i64 (p.Conn.PPM)), .v (.int .i64 (p.Conn.Algorithm))], .cells [.v (.bool ((aForm p.Kind).known)), .v (.bool ((aForm p.Kind).target)), .v (.bool ((aForm p.Kind).data)), .v (.bool ((aForm p.Kind).conn))]]) (K (.v (.int .i64 ((0 : Int)))) [.cells [.v (.int .i64 (p.Kind)), .v (.int .i64 (p.Sender.Kind)), .v (.int .u64 (p.Sender.Bits)), .v (.int .i64 (p.Target.Kind)), .v (.int .u64 (p.Target.Bits)), .sl 5 (p.Data : List (El 5)) false, .v (.int .u32 (p.Conn.Access)), .v (.int .u32 (p.Conn.Init)), .v (.int .i64 (p.Conn.Update.WinSize)), .v (.int .i64 (p.Conn.Update.WinOffset)), .v (.int .i64 (p.Conn.Update.Interval)), .v (.int .i64 (p.Conn.Update.Latency)), .v (.int .i64 (p.Conn.Update.Timeout)), .v (.int .u64 (p.Conn.Map)), .v (.int .i64 (p.Conn.Hop)), .v (.int .i64 (p.Conn.PPM)), .v (.int .i64 (p.Conn.Algorithm))], .cells [.v (.bool ((aForm p.Kind).known)), .v (.bool ((aForm p.Kind).target)), .v (.bool ((aForm p.Kind).data)), .v (.bool ((aForm p.Kind).conn))]])))))))))))))) (cond (!(p.Target.Kind == (0 : Int) && p.Target.Bits == (0 : Int))) (K (.v (.int .i64 ((1 : Int)))) [.cells [.v (.int .i64 (p.Kind)), .v (.int .i64 (p.Sender.Kind)), .v (.int .u64 (p.Sender.Bits)), .v (.int .i64 (p.Target.Kind)), .v (.int .u64 (p.Target.Bits)), .sl 5 (p.Data : List (El 5)) false, .v (.int .u32 (p.Conn.Access)), .v (.int .u32 (p.Conn.Init)), .v (.int .i64 (p.Conn.Update.WinSize)), .v (.int .i64 (p.Conn.Update.WinOffset)), .v (.int .i64 (p.Conn.Update.Interval)), .v (.int .i64 (p.Conn.Update.Latency)), .v (.int .i64 (p.Conn.Update.Timeout)), .v (.int .u64 (p.Conn.Map)), .v (.int .i64 (p.Conn.Hop)), .v (.int .i64 (p.Conn.PPM)), .v (.int .i64 (p.Conn.Algorithm))], .cells [.v (.bool ((aForm p.Kind).known)), .v (.bool ((aForm p.Kind).target)), .v (.bool ((aForm p.Kind).data)), .v (.bool ((aForm p.Kind).conn))]]) (Ob (o3 ((aForm p.Kind).data)) ∧ (Ob (o3 ((aForm p.Kind).data)) ∧ (Ob (o3 ((aForm p.Kind).data)) ∧ (Ob (o2 ((aForm p.Kind).data)) ∧ (cond (bif (aForm p.Kind).data then decide ((31 : Int) < (↑(List.length p.Data) : Int)) else false) (K (.v (.int .i64 ((4 : Int)))) [.cells [.v (.int .i64 (p.Kind)), .v (.int .i64 (p.Sender.Kind)), .v (.int .u64 (p.Sender.Bits)), .v (.int .i64 (p.Target.Kind)), .v (.int .u64 (p.Target.Bits)), .sl 5 (p.Data : List (El 5)) false, .v (.int .u32 (p.Conn.Access)), .v (.int .u32 (p.Conn.Init)), .v (.int .i64 (p.Conn.Update.WinSize)), .v (.int .i64 (p.Conn.Update.WinOffset)), .v (.int .i64 (p.Conn.Update.Interval)), .v (.int .i64 (p.Conn.Update.Latency)), .v (.int .i64 (p.Conn.Update.Timeout)), .v (.int .u64 (p.Conn.Map)), .v (.int .i64 (p.Conn.Hop)), .v (.int .i64 (p.Conn.PPM)), .v (.int .i64 (p.Conn.Algorithm))], .cells [.v (.bool ((aForm p.Kind).known)), .v (.bool ((aForm p.Kind).target)), .v (.bool ((aForm p.Kind).data)), .v (.bool ((aForm p.Kind).conn))]]) (Ob (o3 (!(aForm p.Kind).data)) ∧ (Ob (o3 (!(aForm p.Kind).data)) ∧ (Ob (o3 (!(aForm p.Kind).data)) ∧ (Ob (o2 (!(aForm p.Kind).data)) ∧ (cond (bif !(aForm p.Kind).data then decide ((0 : Int) < (↑(List.length p.Data) : Int)) else false) (K (.v (.int .i64 ((1 : Int)))) [.cells [.v (.int .i64 (p.Kind)), .v (.int .i64 (p.Sender.Kind)), .v (.int .u64 (p.Sender.Bits)), .v (.int .i64 (p.Target.Kind)), .v (.int .u64 (p.Target.Bits)), .sl 5 (p.Data : List (El 5)) false, .v (.int .u32 (p.Conn.Access)), .v (.int .u32 (p.Conn.Init)), .v (.int .i64 (p.Conn.Update.WinSize)), .v (.int .i64 (p.Conn.Update.WinOffset)), .v (.int .i64 (p.Conn.Update.Interval)), .v (.int .i64 (p.Conn.Update.Latency)), .v (.int .i64 (p.Conn.Update.Timeout)), .v (.int .u64 (p.Conn.Map)), .v (.int .i64 (p.Conn.Hop)), .v (.int .i64 (p.Conn.PPM)), .v (.int .i64 (p.Conn.Algorithm))], .cells [.v (.bool ((aForm p.Kind).known)), .v (.bool ((aForm p.Kind).target)), .v (.bool ((aForm p.Kind).data)), .v (.bool ((aForm p.Kind).conn))]]) (cond ((aForm p.Kind).conn) (K (.v (.int .i64 (cCheck p.Conn))) [.cells [.v (.int .i64 (p.Kind)), .v (.int .i64 (p.Sender.Kind)), .v (.int .u64 (p.Sender.Bits)), .v (.int .i64 (p.Target.Kind)), .v (.int .u64 (p.Target.Bits)), .sl 5 (p.Data : List (El 5)) false, .v (.int .u32 (p.Conn.Access)), .v (.int .u32 (p.Conn.Init)), .v (.int .i64 (p.Conn.Update.WinSize)), .v (.int .i64 (p.Conn.Update.WinOffset)), .v (.int .i64 (p.Conn.Update.Interval)), .v (.int .i64 (p.Conn.Update.Latency)), .v (.int .i64 (p.Conn.Update.Timeout)), .v (.int .u64 (p.Conn.Map)), .v (.int .i64 (p.Conn.Hop)), .v (.int .i64 (p.Conn.PPM)), .v (.int .i64 (p.Conn.Algorithm))], .cells [.v (.bool ((aForm p.Kind).known)), .v (.bool ((aForm p.Kind).target)), .v (.bool ((aForm p.Kind).data)), .v (.bool ((aForm p.Kind).conn))]]) (cond (!(p.Conn.Access == (0 : Int) && (p.Conn.Init == (0 : Int) && (p.Conn.Update.WinSize == (0 : Int) && (p.Conn.Update.WinOffset == (0 : Int) && (p.Conn.Update.Interval == (0 : Int) && (p.Conn.Update.Latency == (0 : Int) && (p.Conn.Update.Timeout == (0 : Int) && (p.Conn.Map == (0 : Int) && (p.Conn.Hop == (0 : Int) && (p.Conn.PPM == (0 : Int) && p.Conn.Algorithm == (0 : Int)))))))))))) (K (.v (.int .i64 ((1 : Int)))) [.cells [.v (.int .i64 (p.Kind)), .v (.int .i64 (p.Sender.Kind)), .v (.int .u64 (p.Sender.Bits)), .v (.int .i64 (p.Target.Kind)), .v (.int .u64 (p.Target.Bits)), .sl 5 (p.Data : List (El 5)) false, .v (.int .u32 (p.Conn.Access)), .v (.int .u32 (p.Conn.Init)), .v (.int .i64 (p.Conn.Update.WinSize)), .v (.int .i64 (p.Conn.Update.WinOffset)), .v (.int .i64 (p.Conn.Update.Interval)), .v (.int .i64 (p.Conn.Update.Latency)), .v (.int .i64 (p.Conn.Update.Timeout)), .v (.int .u64 (p.Conn.Map)), .v (.int .i64 (p.Conn.Hop)), .v (.int .i64 (p.Conn.PPM)), .v (.int .i64 (p.Conn.Algorithm))], .cells [.v (.bool ((aForm p.Kind).known)), .v (.bool ((aForm p.Kind).target)), .v (.bool ((aForm p.Kind).data)), .v (.bool ((aForm p.Kind).conn))]]) (K (.v (.int .i64 ((0 : Int)))) [.cells [.v (.int .i64 (p.Kind)), .v (.int .i64 (p.Sender.Kind)), .v (.int .u64 (p.Sender.Bits)), .v (.int .i64 (p.Target.Kind)), .v (.int .u64 (p.Target.Bits)), .sl 5 (p.Data : List (El 5)) false, .v (.int .u32 (p.Conn.Access)), .v (.int .u32 (p.Conn.Init)), .v (.int .i64 (p.Conn.Update.WinSize)), .v (.int .i64 (p.Conn.Update.WinOffset)), .v (.int .i64 (p.Conn.Update.Interval)), .v (.int .i64 (p.Conn.Update.Latency)), .v (.int .i64 (p.Conn.Update.Timeout)), .v (.int .u64 (p.Conn.Map)), .v (.int .i64 (p.Conn.Hop)), .v (.int .i64 (p.Conn.PPM)), .v (.int .i64 (p.Conn.Algorithm))], .cells [.v (.bool ((aForm p.Kind).known)), .v (.bool ((aForm p.Kind).target)), .v (.bool ((aForm p.Kind).data)), .v (.bool ((aForm p.Kind).conn))]]))))))))))))))))
theorem pCheck.nf_ok (p : AdvPDU) (K : AV El → List (AObj El) → Prop) : evFun (mkCx Tryd.prog S tab_r8Decode 0) 4 30 [AdvPDU.av p] [] K = pCheck.nf p K := by kernel_rfl
theorem pCheck.key (p : AdvPDU) (v : Int) (hv : v = pCheck p) : pCheck.nf p (fun r' H' => Gives r' H' (pCheck.res v) (pCheck.news v)) := by
  unfold pCheck at hv
  unfold pCheck.nf
  revert hv; refine by_cond2 (fun hb hv => ?_) (fun hb hv => ?_)
  · subst hv; exact And.intro (by kernel_rfl) (by kernel_rfl)
  · revert hv; refine by_cond2 (fun hb hv => ?_) (fun hb hv => ?_)
    · subst hv; exact And.intro (by kernel_rfl) (by kernel_rfl)
    · revert hv; refine by_cond2 (fun hb hv => ?_) (fun hb hv => ?_)
      · revert hv; refine by_cond2 (fun hb hv => ?_) (fun hb hv => ?_)
        · subst hv; exact And.intro (by kernel_rfl) (by kernel_rfl)
        · refine ⟨⟨o3_ok _⟩, ?_⟩
          refine ⟨⟨o3_ok _⟩, ?_⟩
          refine ⟨⟨o3_ok _⟩, ?_⟩
          refine ⟨⟨o2_ok _⟩, ?_⟩
          revert hv; refine by_cond2 (fun hb hv => ?_) (fun hb hv => ?_)
          · subst hv; exact And.intro (by kernel_rfl) (by kernel_rfl)
          · refine ⟨⟨o3_ok _⟩, ?_⟩
            refine ⟨⟨o3_ok _⟩, ?_⟩
            refine ⟨⟨o3_ok _⟩, ?_⟩
            refine ⟨⟨o2_ok _⟩, ?_⟩
            revert hv; refine by_cond2 (fun hb hv => ?_) (fun hb hv => ?_)
            · subst hv; exact And.intro (by kernel_rfl) (by kernel_rfl)
            · revert hv; refine by_cond2 (fun hb hv => ?_) (fun hb hv => ?_)
              · subst hv; exact And.intro (by kernel_rfl) (by kernel_rfl)
              · revert hv; refine by_cond2 (fun hb hv => ?_) (fun hb hv => ?_)
                · subst hv; exact And.intro (by kernel_rfl) (by kernel_rfl)
                · subst hv; exact And.intro (by kernel_rfl) (by kernel_rfl)
      · revert hv; refine by_cond2 (fun hb hv => ?_) (fun hb hv => ?_)
        · subst hv; exact And.intro (by kernel_rfl) (by kernel_rfl)
        · refine ⟨⟨o3_ok _⟩, ?_⟩
          refine ⟨⟨o3_ok _⟩, ?_⟩
          refine ⟨⟨o3_ok _⟩, ?_⟩
          refine ⟨⟨o2_ok _⟩, ?_⟩
          revert hv; refine by_cond2 (fun hb hv => ?_) (fun hb hv => ?_)
          · subst hv; exact And.intro (by kernel_rfl) (by kernel_rfl)
          · refine ⟨⟨o3_ok _⟩, ?_⟩
            refine ⟨⟨o3_ok _⟩, ?_⟩
            refine ⟨⟨o3_ok _⟩, ?_⟩
            refine ⟨⟨o2_ok _⟩, ?_⟩
            revert hv; refine by_cond2 (fun hb hv => ?_) (fun hb hv => ?_)
            · subst hv; exact And.intro (by kernel_rfl) (by kernel_rfl)
            · revert hv; refine by_cond2 (fun hb hv => ?_) (fun hb hv => ?_)
              · subst hv; exact And.intro (by kernel_rfl) (by kernel_rfl)
              · revert hv; refine by_cond2 (fun hb hv => ?_) (fun hb hv => ?_)
                · subst hv; exact And.intro (by kernel_rfl) (by kernel_rfl)
                · subst hv; exact And.intro (by kernel_rfl) (by kernel_rfl)
def pCheck.ct : Ct El := ctOf pCheck.dec (fun _ => []) (fun x => pCheck.res (pCheck x)) (fun x => pCheck.news (pCheck x))
theorem pCheck.ok : CtOk (mkCx Tryd.prog S [] 0) 30 pCheck.ct := ct_mk (C := (mkCx Tryd.prog S tab_r8Decode 0)) (mkCx_ok sigOk mixed tab_r8Decode_ok 0) pCheck.dec_ok (fun x => rfl) 4 (fun x _ => (pCheck.nf_ok x _).mpr (pCheck.key x _ rfl))
def tab_pCheck : List (FuncId × Ct El) := (30, pCheck.ct) :: tab_r8Decode
theorem tab_pCheck_ok : TabOk Tryd.prog S tab_pCheck := ⟨pCheck.ok, by kernel_rfl, tab_r8Decode_ok⟩

/-! wireless/wirelessref19.Check -/
def r19Check.res (r : Int) : AV El := .v (.int .i64 (r))
def r19Check.news (r : Int) : List (AObj El) := []
def r19Check (p : AdvPDU) : Int := cond (bif decide (p.Kind < (0 : Int)) then true else decide ((6 : Int) < p.Kind)) ((12 : Int)) (cond (r8Check p.Sender != (0 : Int)) (r8Check p.Sender) (cond (hasTarget p.Kind) (cond (r8Check p.Target != (0 : Int)) (r8Check p.Target) (cond (bif hasData p.Kind then decide ((31 : Int) < (↑(List.length p.Data) : Int)) else false) ((4 : Int)) (cond (bif !hasData p.Kind then decide ((0 : Int) < (↑(List.length p.Data) : Int)) else false) ((1 : Int)) (cond (p.Kind == (5 : Int)) (r17Check p.Conn) (cond (!(p.Conn.Access == (0 : Int) && (p.Conn.Init == (0 : Int) && (p.Conn.Update.WinSize == (0 : Int) && (p.Conn.Update.WinOffset == (0 : Int) && (p.Conn.Update.Interval == (0 : Int) && (p.Conn.Update.Latency == (0 : Int) && (p.Conn.Update.Timeout == (0 : Int) && (p.Conn.Map == (0 : Int) && (p.Conn.Hop == (0 : Int) && (p.Conn.PPM == (0 : Int) && p.Conn.Algorithm == (0 : Int)))))))))))) ((1 : Int)) ((0 : Int))))))) (cond (!(p.Target.Kind == (0 : Int) && p.Target.Bits == (0 : Int))) ((1 : Int)) (cond (bif hasData p.Kind then decide ((31 : Int) < (↑(List.length p.Data) : Int)) else false) ((4 : Int)) (cond (bif !hasData p.Kind then decide ((0 : Int) < (↑(List.length p.Data) : Int)) else false) ((1 : Int)) (cond (p.Kind == (5 : Int)) (r17Check p.Conn) (cond (!(p.Conn.Access == (0 : Int) && (p.Conn.Init == (0 : Int) && (p.Conn.Update.WinSize == (0 : Int) && (p.Conn.Update.WinOffset == (0 : Int) && (p.Conn.Update.Interval == (0 : Int) && (p.Conn.Update.Latency == (0 : Int) && (p.Conn.Update.Timeout == (0 : Int) && (p.Conn.Map == (0 : Int) && (p.Conn.Hop == (0 : Int) && (p.Conn.PPM == (0 : Int) && p.Conn.Algorithm == (0 : Int)))))))))))) ((1 : Int)) ((0 : Int)))))))))
def r19Check.dec (cs : List (AV El)) : Option (AdvPDU) := popA AdvPDU.dec cs fun a0 c0 => popE c0 a0
def r19Check.enc (x : AdvPDU) : List (AV El) := [AdvPDU.av x]
theorem r19Check.dec_ok : ∀ cs x, r19Check.dec cs = some x → Imp (S := S) cs (r19Check.enc x) := by
  intro cs x h
  unfold r19Check.dec at h
  obtain ⟨a0, c0, h0, k0⟩ := popA_some (S := S) AdvPDU.dec_ok h
  obtain ⟨rfl, rfl⟩ := popE_some (S := S) h0
  exact (k0 _ (.refl _))
def r19Check.nf (p : AdvPDU) (K : AV El → List (AObj El) → Prop) : Prop := Ob (o3 (!decide (p.Kind < (0 : Int)))) ∧ (Ob (o3 (!decide (p.Kind < (0 : Int)))) ∧ (Ob (on (decide (p.Kind < (0 : Int)))) ∧ (cond (bif decide (p.Kind < (0 : Int)) then true else decide ((6 : Int) < p.Kind)) (K (.v (.int .i64 ((12 : Int)))) [.cells [.v (.int .i64 (p.Kind)), .v (.int .i64 (p.Sender.Kind)), .v (.int .u64 (p.Sender.Bits)), .v (.int .i64 (p.Target.Kind)), .v (.int .u64 (p.Target.Bits)), .sl 5 (p.Data : List (El 5)) false, .v (.int .u32 (p.Conn.Access)), .v (.int .u32 (p.Conn.Init)), .v (.int .i64 (p.Conn.Update.WinSize)), .v (.int .i64 (p.Conn.Update.WinOffset)), .v (.int .i64 (p.Conn.Update.Interval)), .v (.int .i64 (p.Conn.Update.Latency)), .v (.int .i64 (p.Conn.Update.Timeout)), .v (.int .u64 (p.Conn.Map)), .v (.int .i64 (p.Conn.Hop)), .v (.int .i64 (p.Conn.PPM)), .v (.int .i64 (p.Conn.Algorithm))]]) (cond (r8Check p.Sender != (0 : Int)) (K (.v (.int .i64 (r8Check p.Sender))) [.cells [.v (.int .i64 (p.Kind)), .v (.int .i64 (p.Sender.Kind)), .v (.int .u64 (p.Sender.Bits)), .v (.int .i64 (p.Target.Kind)), .v (.int .u64 (p.Target.Bits)), .sl 5 (p.Data : List (El 5)) false, .v (.int .u32 (p.Conn.Access)), .v (.int .u32 (p.Conn.Init)), .v (.int .i64 (p.Conn.Update.WinSize)), .v (.int .i64 (p.Conn.Update.WinOffset)), .v (.int .i64 (p.Conn.Update.Interval)), .v (.int .i64 (p.Conn.Update.Latency)), .v (.int .i64 (p.Conn.Update.Timeout)), .v (.int .u64 (p.Conn.Map)), .v (.int .i64 (p.Conn.Hop)), .v (.int .i64 (p.Conn.PPM)), .v (.int .i64 (p.Conn.Algorithm))]]) (cond (hasTarget p.Kind) (cond (r8Check p.Target != (0 : Int)) (K (.v (.int .i64 (r8Check p.Target))) [.cells [.v (.int .i64 (p.Kind)), .v (.int .i64 (p.Sender.Kind)), .v (.int .u64 (p.Sender.Bits)), .v (.int .i64 (p.Target.Kind)), .v (.int .u64 (p.Target.Bits)), .sl 5 (p.Data : List (El 5)) false, .v (.int .u32 (p.Conn.Access)), .v (.int .u32 (p.Conn.Init)), .v (.int .i64 (p.Conn.Update.WinSize)), .v (.int .i64 (p.Conn.Update.WinOffset)), .v (.int .i64 (p.Conn.Update.Interval)), .v (.int .i64 (p.Conn.Update.Latency)), .v (.int .i64 (p.Conn.Update.Timeout)), .v (.int .u64 (p.Conn.Map)), .v (.int .i64 (p.Conn.Hop)), .v (.int .i64 (p.Conn.PPM)), .v (.int .i64 (p.Conn.Algorithm))]]) (Ob (o3 (hasData p.Kind)) ∧ (Ob (o3 (hasData p.Kind)) ∧ (Ob (o3 (hasData p.Kind)) ∧ (Ob (o2 (hasData p.Kind)) ∧ (cond (bif hasData p.Kind then decide ((31 : Int) < (↑(List.length p.Data) : Int)) else false) (K (.v (.int .i64 ((4 : Int)))) [.cells [.v (.int .i64 (p.Kind)), .v (.int .i64 (p.Sender.Kind)), .v (.int .u64 (p.Sender.Bits)), .v (.int .i64 (p.Target.Kind)), .v (.int .u64 (p.Target.Bits)), .sl 5 (p.Data : List (El 5)) false, .v (.int .u32 (p.Conn.Access)), .v (.int .u32 (p.Conn.Init)), .v (.int .i64 (p.Conn.Update.WinSize)), .v (.int .i64 (p.Conn.Update.WinOffset)), .v (.int .i64 (p.Conn.Update.Interval)), .v (.int .i64 (p.Conn.Update.Latency)), .v (.int .i64 (p.Conn.Update.Timeout)), .v (.int .u64 (p.Conn.Map)), .v (.int .i64 (p.Conn.Hop)), .v (.int .i64 (p.Conn.PPM)), .v (.int .i64 (p.Conn.Algorithm))]]) (Ob (o3 (!hasData p.Kind)) ∧ (Ob (o3 (!hasData p.Kind)) ∧ (Ob (o3 (!hasData p.Kind)) ∧ (Ob (o2 (!hasData p.Kind)) ∧ (cond (bif !hasData p.Kind then decide ((0 : Int) < (↑(List.length p.Data) : Int)) else false) (K (.v (.int .i64 ((1 : Int)))) [.cells [.v (.int .i64 (p.Kind)), .v (.int .i64 (p.Sender.Kind)), .v (.int .u64 (p.Sender.Bits)), .v (.int .i64 (p.Target.Kind)), .v (.int .u64 (p.Target.Bits)), .sl 5 (p.Data : List (El 5)) false, .v (.int .u32 (p.Conn.Access)), .v (.int .u32 (p.Conn.Init)), .v (.int .i64 (p.Conn.Update.WinSize)), .v (.int .i64 (p.Conn.Update.WinOffset)), .v (.int .i64 (p.Conn.Update.Interval)), .v (.int .i64 (p.Conn.Update.Latency)), .v (.int .i64 (p.Conn.Update.Timeout)), .v (.int .u64 (p.Conn.Map)), .v (.int .i64 (p.Conn.Hop)), .v (.int .i64 (p.Conn.PPM)), .v (.int .i64 (p.Conn.Algorithm))]]) (cond (p.Kind == (5 : Int)) (K (.v (.int .i64 (r17Check p.Conn))) [.cells [.v (.int .i64 (p.Kind)), .v (.int .i64 (p.Sender.Kind)), .v (.int .u64 (p.Sender.Bits)), .v (.int .i64 (p.Target.Kind)), .v (.int .u64 (p.Target.Bits)), .sl 5 (p.Data : List (El 5)) false, .v (.int .u32 (p.Conn.Access)), .v (.int .u32 (p.Conn.Init)), .v (.int .i64 (p.Conn.Update.WinSize)), .v (.int .i64 (p.Conn.Update.WinOffset)), .v (.int .i64 (p.Conn.Update.Interval)), .v (.int .i64 (p.Conn.Update.Latency)), .v (.int .i64 (p.Conn.Update.Timeout)), .v (.int .u64 (p.Conn.Map)), .v (.int .i64 (p.Conn.Hop)), .v (.int .i64 (p.Conn.PPM)), .v (.int .i64 (p.Conn.Algorithm))]]) (cond (!(p.Conn.Access == (0 : Int) && (p.Conn.Init == (0 : Int) && (p.Conn.Update.WinSize == (0 : Int) && (p.Conn.Update.WinOffset == (0 : Int) && (p.Conn.Update.Interval == (0 : Int) && (p.Conn.Update.Latency == (0 : Int) && (p.Conn.Update.Timeout == (0 : Int) && (p.Conn.Map == (0 : Int) && (p.Conn.Hop == (0 : Int) && (p.Conn.PPM == (0 : Int) && p.Conn.Algorithm == (0 : Int)))))))))))) (K (.v (.int .i64 ((1 : Int)))) [.cells [.v (.int .i64 (p.Kind)), .v (.int .i64 (p.Sender.Kind)), .v (.int .u64 (p.Sender.Bits)), .v (.int .i64 (p.Target.Kind)), .v (.int .u64 (p.Target.Bits)), .sl 5 (p.Data : List (El 5)) false, .v (.int .u32 (p.Conn.Access)), .v (.int .u32 (p.Conn.Init)), .v (.int .i64 (p.Conn.Update.WinSize)), .v (.int .i64 (p.Conn.Update.WinOffset)), .v (.int .i64 (p.Conn.Update.Interval)), .v (.int .i64 (p.Conn.Update.Latency)), .v (.int .i64 (p.Conn.Update.Timeout)), .v (.int .u64 (p.Conn.Map)), .v (.int .i64 (p.Conn.Hop)), .v (.int .i64 (p.Conn.PPM)), .v (.int .i64 (p.Conn.Algorithm))]]) (K (.v (.int .i64 ((0 : Int)))) [.cells [.v (.int .i64 (p.Kind)), .v (.int .i64 (p.Sender.Kind)), .v (.int .u64 (p.Sender.Bits)), .v (.int .i64 (p.Target.Kind)), .v (.int .u64 (p.Target.Bits)), .sl 5 (p.Data : List (El 5)) false, .v (.int .u32 (p.Conn.Access)), .v (.int .u32 (p.Conn.Init)), .v (.int .i64 (p.Conn.Update.WinSize)), .v (.int .i64 (p.Conn.Update.WinOffset)), .v (.int .i64 (p.Conn.Update.Interval)), .v (.int .i64 (p.Conn.Update.Latency)), .v (.int .i64 (p.Conn.Update.Timeout)), .v (.int .u64 (p.Conn.Map)), .v (.int .i64 (p.Conn.Hop)), .v (.int .i64 (p.Conn.PPM)), .v (.int .i64 (p.Conn.Algorithm))]])))))))))))))) (cond (!(p.Target.Kind == (0 : Int) && p.Target.Bits == (0 : Int))) (K (.v (.int .i64 ((1 : Int)))) [.cells [.v (.int .i64 (p.Kind)), .v (.int .i64 (p.Sender.Kind)), .v (.int .u64 (p.Sender.Bits)), .v (.int .i64 (p.Target.Kind)), .v (.int .u64 (p.Target.Bits)), .sl 5 (p.Data : List (El 5)) false, .v (.int .u32 (p.Conn.Access)), .v (.int .u32 (p.Conn.Init)), .v (.int .i64 (p.Conn.Update.WinSize)), .v (.int .i64 (p.Conn.Update.WinOffset)), .v (.int .i64 (p.Conn.Update.Interval)), .v (.int .i64 (p.Conn.Update.Latency)), .v (.int .i64 (p.Conn.Update.Timeout)), .v (.int .u64 (p.Conn.Map)), .v (.int .i64 (p.Conn.Hop)), .v (.int .i64 (p.Conn.PPM)), .v (.int .i64 (p.Conn.Algorithm))]]) (Ob (o3 (hasData p.Kind)) ∧ (Ob (o3 (hasData p.Kind)) ∧ (Ob (o3 (hasData p.Kind)) ∧ (Ob (o2 (hasData p.Kind)) ∧ (cond (bif hasData p.Kind then decide ((31 : Int) < (↑(List.length p.Data) : Int)) else false) (K (.v (.int .i64 ((4 : Int)))) [.cells [.v (.int .i64 (p.Kind)), .v (.int .i64 (p.Sender.Kind)), .v (.int .u64 (p.Sender.Bits)), .v (.int .i64 (p.Target.Kind)), .v (.int .u64 (p.Target.Bits)), .sl 5 (p.Data : List (El 5)) false, .v (.int .u32 (p.Conn.Access)), .v (.int .u32 (p.Conn.Init)), .v (.int .i64 (p.Conn.Update.WinSize)), .v (.int .i64 (p.Conn.Update.WinOffset)), .v (.int .i64 (p.Conn.Update.Interval)), .v (.int .i64 (p.Conn.Update.Latency)), .v (.int .i64 (p.Conn.Update.Timeout)), .v (.int .u64 (p.Conn.Map)), .v (.int .i64 (p.Conn.Hop)), .v (.int .i64 (p.Conn.PPM)), .v (.int .i64 (p.Conn.Algorithm))]]) (Ob (o3 (!hasData p.Kind)) ∧ (Ob (o3 (!hasData p.Kind)) ∧ (Ob (o3 (!hasData p.Kind)) ∧ (Ob (o2 (!hasData p.Kind)) ∧ (cond (bif !hasData p.Kind then decide ((0 : Int) < (↑(List.length p.Data) : Int)) else false) (K (.v (.int .i64 ((1 : Int)))) [.cells [.v (.int .i64 (p.Kind)), .v (.int .i64 (p.Sender.Kind)), .v (.int .u64 (p.Sender.Bits)), .v (.int .i64 (p.Target.Kind)), .v (.int .u64 (p.Target.Bits)), .sl 5 (p.Data : List (El 5)) false, .v (.int .u32 (p.Conn.Access)), .v (.int .u32 (p.Conn.Init)), .v (.int .i64 (p.Conn.Update.WinSize)), .v (.int .i64 (p.Conn.Update.WinOffset)), .v (.int .i64 (p.Conn.Update.Interval)), .v (.int .i64 (p.Conn.Update.Latency)), .v (.int .i64 (p.Conn.Update.Timeout)), .v (.int .u64 (p.Conn.Map)), .v (.int .i64 (p.Conn.Hop)), .v (.int .i64 (p.Conn.PPM)), .v (.int .i64 (p.Conn.Algorithm))]]) (cond (p.Kind == (5 : Int)) (K (.v (.int .i64 (r17Check p.Conn))) [.cells [.v (.int .i64 (p.Kind)), .v (.int .i64 (p.Sender.Kind)), .v (.int .u64 (p.Sender.Bits)), .v (.int .i64 (p.Target.Kind)), .v (.int .u64 (p.Target.Bits)), .sl 5 (p.Data : List (El 5)) false, .v (.int .u32 (p.Conn.Access)), .v (.int .u32 (p.Conn.Init)), .v (.int .i64 (p.Conn.Update.WinSize)), .v (.int .i64 (p.Conn.Update.WinOffset)), .v (.int .i64 (p.Conn.Update.Interval)), .v (.int .i64 (p.Conn.Update.Latency)), .v (.int .i64 (p.Conn.Update.Timeout)), .v (.int .u64 (p.Conn.Map)), .v (.int .i64 (p.Conn.Hop)), .v (.int .i64 (p.Conn.PPM)), .v (.int .i64 (p.Conn.Algorithm))]]) (cond (!(p.Conn.Access == (0 : Int) && (p.Conn.Init == (0 : Int) && (p.Conn.Update.WinSize == (0 : Int) && (p.Conn.Update.WinOffset == (0 : Int) && (p.Conn.Update.Interval == (0 : Int) && (p.Conn.Update.Latency == (0 : Int) && (p.Conn.Update.Timeout == (0 : Int) && (p.Conn.Map == (0 : Int) && (p.Conn.Hop == (0 : Int) && (p.Conn.PPM == (0 : Int) && p.Conn.Algorithm == (0 : Int)))))))))))) (K (.v (.int .i64 ((1 : Int)))) [.cells [.v (.int .i64 (p.Kind)), .v (.int .i64 (p.Sender.Kind)), .v (.int .u64 (p.Sender.Bits)), .v (.int .i64 (p.Target.Kind)), .v (.int .u64 (p.Target.Bits)), .sl 5 (p.Data : List (El 5)) false, .v (.int .u32 (p.Conn.Access)), .v (.int .u32 (p.Conn.Init)), .v (.int .i64 (p.Conn.Update.WinSize)), .v (.int .i64 (p.Conn.Update.WinOffset)), .v (.int .i64 (p.Conn.Update.Interval)), .v (.int .i64 (p.Conn.Update.Latency)), .v (.int .i64 (p.Conn.Update.Timeout)), .v (.int .u64 (p.Conn.Map)), .v (.int .i64 (p.Conn.Hop)), .v (.int .i64 (p.Conn.PPM)), .v (.int .i64 (p.Conn.Algorithm))]]) (K (.v (.int .i64 ((0 : Int)))) [.cells [.v (.int .i64 (p.Kind)), .v (.int .i64 (p.Sender.Kind)), .v (.int .u64 (p.Sender.Bits)), .v (.int .i64 (p.Target.Kind)), .v (.int .u64 (p.Target.Bits)), .sl 5 (p.Data : List (El 5)) false, .v (.int .u32 (p.Conn.Access)), .v (.int .u32 (p.Conn.Init)), .v (.int .i64 (p.Conn.Update.WinSize)), .v (.int .i64 (p.Conn.Update.WinOffset)), .v (.int .i64 (p.Conn.Update.Interval)), .v (.int .i64 (p.Conn.Update.Latency)), .v (.int .i64 (p.Conn.Update.Timeout)), .v (.int .u64 (p.Conn.Map)), .v (.int .i64 (p.Conn.Hop)), .v (.int .i64 (p.Conn.PPM)), .v (.int .i64 (p.Conn.Algorithm))]])))))))))))))))))))
theorem r19Check.nf_ok (p : AdvPDU) (K : AV El → List (AObj El) → Prop) : evFun (mkCx Tryd.prog S tab_r8Decode 0) 4 32 [AdvPDU.av p] [] K = r19Check.nf p K := by kernel_rfl
theorem r19Check.key (p : AdvPDU) (v : Int) (hv : v = r19Check p) : r19Check.nf p (fun r' H' => Gives r' H' (r19Check.res v) (r19Check.news v)) := by
  unfold r19Check at hv
  unfold r19Check.nf
  refine ⟨⟨o3_ok _⟩, ?_⟩
  refine ⟨⟨o3_ok _⟩, ?_⟩
  refine ⟨⟨on_ok _⟩, ?_⟩
  revert hv; refine by_cond2 (fun hb hv => ?_) (fun hb hv => ?_)
  · subst hv; exact And.intro (by kernel_rfl) (by kernel_rfl)
  · revert hv; refine by_cond2 (fun hb hv => ?_) (fun hb hv => ?_)
    · subst hv; exact And.intro (by kernel_rfl) (by kernel_rfl)
    · revert hv; refine by_cond2 (fun hb hv => ?_) (fun hb hv => ?_)
      · revert hv; refine by_cond2 (fun hb hv => ?_) (fun hb hv => ?_)
        · subst hv; exact And.intro (by kernel_rfl) (by kernel_rfl)
        · refine ⟨⟨o3_ok _⟩, ?_⟩
          refine ⟨⟨o3_ok _⟩, ?_⟩
          refine ⟨⟨o3_ok _⟩, ?_⟩
          refine ⟨⟨o2_ok _⟩, ?_⟩
          revert hv; refine by_cond2 (fun hb hv => ?_) (fun hb hv => ?_)
          · subst hv; exact And.intro (by kernel_rfl) (by kernel_rfl)
          · refine ⟨⟨o3_ok _⟩, ?_⟩
            refine ⟨⟨o3_ok _⟩, ?_⟩
            refine ⟨⟨o3_ok _⟩, ?_⟩
            refine ⟨⟨o2_ok _⟩, ?_⟩
            revert hv; refine by_cond2 (fun hb hv => ?_) (fun hb hv => ?_)
            · subst hv; exact And.intro (by kernel_rfl) (by kernel_rfl)
            · revert hv; refine by_cond2 (fun hb hv => ?_) (fun hb hv => ?_)
              · subst hv; exact And.intro (by kernel_rfl) (by kernel_rfl)
              · revert hv; refine by_cond2 (fun hb hv => ?_) (fun hb hv => ?_)
                · subst hv; exact And.intro (by kernel_rfl) (by kernel_rfl)
                · subst hv; exact And.intro (by kernel_rfl) (by kernel_rfl)
      · revert hv; refine by_cond2 (fun hb hv => ?_) (fun hb hv => ?_)
        · subst hv; exact And.intro (by kernel_rfl) (by kernel_rfl)
        · refine ⟨⟨o3_ok _⟩, ?_⟩
          refine ⟨⟨o3_ok _⟩, ?_⟩
          refine ⟨⟨o3_ok _⟩, ?_⟩
          refine ⟨⟨o2_ok _⟩, ?_⟩
          revert hv; refine by_cond2 (fun hb hv => ?_) (fun hb hv => ?_)
          · subst hv; exact And.intro (by kernel_rfl) (by kernel_rfl)
          · refine ⟨⟨o3_ok _⟩, ?_⟩
            refine ⟨⟨o3_ok _⟩, ?_⟩
            refine ⟨⟨o3_ok _⟩, ?_⟩
            refine ⟨⟨o2_ok _⟩, ?_⟩
            revert hv; refine by_cond2 (fun hb hv => ?_) (fun hb hv => ?_)
            · subst hv; exact And.intro (by kernel_rfl) (by kernel_rfl)
            · revert hv; refine by_cond2 (fun hb hv => ?_) (fun hb hv => ?_)
              · subst hv; exact And.intro (by kernel_rfl) (by kernel_rfl)
              · revert hv; refine by_cond2 (fun hb hv => ?_) (fun hb hv => ?_)
                · subst hv; exact And.intro (by kernel_rfl) (by kernel_rfl)
                · subst hv; exact And.intro (by kernel_rfl) (by kernel_rfl)
def r19Check.ct : Ct El := ctOf r19Check.dec (fun _ => []) (fun x => r19Check.res (r19Check x)) (fun x => r19Check.news (r19Check x))
theorem r19Check.ok : CtOk (mkCx Tryd.prog S [] 0) 32 r19Check.ct := ct_mk (C := (mkCx Tryd.prog S tab_r8Decode 0)) (mkCx_ok sigOk mixed tab_r8Decode_ok 0) r19Check.dec_ok (fun x => rfl) 4 (fun x _ => (r19Check.nf_ok x _).mpr (r19Check.key x _ rfl))
def tab_r19Check : List (FuncId × Ct El) := (32, r19Check.ct) :: tab_pCheck
theorem tab_r19Check_ok : TabOk Tryd.prog S tab_r19Check := ⟨r19Check.ok, by kernel_rfl, tab_pCheck_ok⟩

/-! wireless/advpdu.head -/
def pHead.res (r : Int) : AV El := .v (.int .u8 (r))
def pHead.news (r : Int) : List (AObj El) := []
def pHead (p : AdvPDU) : Int := cond (p.Sender.Kind != (1 : Int)) (cond (bif (aForm p.Kind).target then p.Target.Kind != (1 : Int) else false) (borK IntKind.u8 (borK IntKind.u8 (IntKind.wrap IntKind.u8 p.Kind) (64 : Int)) (128 : Int)) (borK IntKind.u8 (IntKind.wrap IntKind.u8 p.Kind) (64 : Int))) (cond (bif (aForm p.Kind).target then p.Target.Kind != (1 : Int) else false) (borK IntKind.u8 (IntKind.wrap IntKind.u8 p.Kind) (128 : Int)) (IntKind.wrap IntKind.u8 p.Kind))
def pHead.dec (cs : List (AV El)) : Option (AdvPDU) := popA AdvPDU.dec cs fun a0 c0 => popE c0 a0
def pHead.enc (x : AdvPDU) : List (AV El) := [AdvPDU.av x]
theorem pHead.dec_ok : ∀ cs x, pHead.dec cs = some x → Imp (S := S) cs (pHead.enc x) := by
  intro cs x h
  unfold pHead.dec at h
  obtain ⟨a0, c0, h0, k0⟩ := popA_some (S := S) AdvPDU.dec_ok h
  obtain ⟨rfl, rfl⟩ := popE_some (S := S) h0
  exact (k0 _ (.refl _))
def pHead.nf (p : AdvPDU) (K : AV El → List (AObj El) → Prop) : Prop := cond (p.Sender.Kind != (1 : Int)) (Ob (o3 ((aForm p.Kind).target)) ∧ (Ob (o3 ((aForm p.Kind).target)) ∧ (Ob (o3 ((aForm p.Kind).target)) ∧ (Ob (o2 ((aForm p.Kind).target)) ∧ (cond (bif (aForm p.Kind).target then p.Target.Kind != (1 : Int) else false) (K (.v (.int .u8 (borK IntKind.u8 (borK IntKind.u8 (IntKind.wrap IntKind.u8 p.Kind) (64 : Int)) (128 : Int)))) [.cells [.v (.int .i64 (p.Kind)), .v (.int .i64 (p.Sender.Kind)), .v (.int .u64 (p.Sender.Bits)), .v (.int .i64 (p.Target.Kind)), .v (.int .u64 (p.Target.Bits)), .sl 5 (p.Data : List (El 5)) false, .v (.int .u32 (p.Conn.Access)), .v (.int .u32 (p.Conn.Init)), .v (.int .i64 (p.Conn.Update.WinSize)), .v (.int .i64 (p.Conn.Update.WinOffset)), .v (.int .i64 (p.Conn.Update.Interval)), .v (.int .i64 (p.Conn.Update.Latency)), .v (.int .i64 (p.Conn.Update.Timeout)), .v (.int .u64 (p.Conn.Map)), .v (.int .i64 (p.Conn.Hop)), .v (.int .i64 (p.Conn.PPM)), .v (.int .i64 (p.Conn.Algorithm))]]) (K (.v (.int .u8 (borK IntKind.u8 (IntKind.wrap IntKind.u8 p.Kind) (64 : Int)))) [.cells [.v (.int .i64 (p.Kind)), .v (.int .i64 (p.Sender.Kind)), .v (.int .u64 (p.Sender.Bits)), .v (.int .i64 (p.Target.Kind)), .v (.int .u64 (p.Target.Bits)), .sl 5 (p.Data : List (El 5)) false, .v (.int .u32 (p.Conn.Access)), .v (.int .u32 (p.Conn.Init)), .v (.int .i64 (p.Conn.Update.WinSize)), .v (.int .i64 (p.Conn.Update.WinOffset)), .v (.int .i64 (p.Conn.Update.Interval)), .v (.int .i64 (p.Conn.Update.Latency)), .v (.int .i64 (p.Conn.Update.Timeout)), .v (.int .u64 (p.Conn.Map)), .v (.int .i64 (p.Conn.Hop)), .v (.int .i64 (p.Conn.PPM)), .v (.int .i64 (p.Conn.Algorithm))]])))))) (Ob (o3 ((aForm p.Kind).target)) ∧ (Ob (o3 ((aForm p.Kind).target)) ∧ (Ob (o3 ((aForm p.Kind).target)) ∧ (Ob (o2 ((aForm p.Kind).target)) ∧ (cond (bif (aForm p.Kind).target then p.Target.Kind != (1 : Int) else false) (K (.v (.int .u8 (borK IntKind.u8 (IntKind.wrap IntKind.u8 p.Kind) (128 : Int)))) [.cells [.v (.int .i64 (p.Kind)), .v (.int .i64 (p.Sender.Kind)), .v (.int .u64 (p.Sender.Bits)), .v (.int .i64 (p.Target.Kind)), .v (.int .u64 (p.Target.Bits)), .sl 5 (p.Data : List (El 5)) false, .v (.int .u32 (p.Conn.Access)), .v (.int .u32 (p.Conn.Init)), .v (.int .i64 (p.Conn.Update.WinSize)), .v (.int .i64 (p.Conn.Update.WinOffset)), .v (.int .i64 (p.Conn.Update.Interval)), .v (.int .i64 (p.Conn.Update.Latency)), .v (.int .i64 (p.Conn.Update.Timeout)), .v (.int .u64 (p.Conn.Map)), .v (.int .i64 (p.Conn.Hop)), .v (.int .i64 (p.Conn.PPM)), .v (.int .i64 (p.Conn.Algorithm))]]) (K (.v (.int .u8 (IntKind.wrap IntKind.u8 p.Kind))) [.cells [.v (.int .i64 (p.Kind)), .v (.int .i64 (p.Sender.Kind)), .v (.int .u64 (p.Sender.Bits)), .v (.int .i64 (p.Target.Kind)), .v (.int .u64 (p.Target.Bits)), .sl 5 (p.Data : List (El 5)) false, .v (.int .u32 (p.Conn.Access)), .v (.int .u32 (p.Conn.Init)), .v (.int .i64 (p.Conn.Update.WinSize)), .v (.int .i64 (p.Conn.Update.WinOffset)), .v (.int .i64 (p.Conn.Update.Interval)), .v (.int .i64 (p.Conn.Update.Latency)), .v (.int .i64 (p.Conn.Update.Timeout)), .v (.int .u64 (p.Conn.Map)), .v (.int .i64 (p.Conn.Hop)), .v (.int .i64 (p.Conn.PPM)), .v (.int .i64 (p.Conn.Algorithm))]]))))))
theorem pHead.nf_ok (p : AdvPDU) (K : AV El → List (AObj El) → Prop) : evFun (mkCx Tryd.prog S tab_r8Decode 0) 4 58 [AdvPDU.av p] [] K = pHead.nf p K := by kernel_rfl
theorem pHead.key (p : AdvPDU) (v : Int) (hv : v = pHead p) : pHead.nf p (fun r' H' => Gives r' H' (pHead.res v) (pHead.news v)) := by
  unfold pHead at hv
  unfold pHead.nf
  revert hv; refine by_cond2 (fun hb hv => ?_) (fun hb hv => ?_)
  · refine ⟨⟨o3_ok _⟩, ?_⟩
    refine ⟨⟨o3_ok _⟩, ?_⟩
    refine ⟨⟨o3_ok _⟩, ?_⟩
    refine ⟨⟨o2_ok _⟩, ?_⟩
    revert hv; refine by_cond2 (fun hb hv => ?_) (fun hb hv => ?_)
    · subst hv; exact And.intro (by kernel_rfl) (by kernel_rfl)
    · subst hv; exact And.intro (by kernel_rfl) (by kernel_rfl)
  · refine ⟨⟨o3_ok _⟩, ?_⟩
    refine ⟨⟨o3_ok _⟩, ?_⟩
    refine ⟨⟨o3_ok _⟩, ?_⟩
    refine ⟨⟨o2_ok _⟩, ?_⟩
    revert hv; refine by_cond2 (fun hb hv => ?_) (fun hb hv => ?_)
    · subst hv; exact And.intro (by kernel_rfl) (by kernel_rfl)
    · subst hv; exact And.intro (by kernel_rfl) (by kernel_rfl)
def pHead.ct : Ct El := ctOf pHead.dec (fun _ => []) (fun x => pHead.res (pHead x)) (fun x => pHead.news (pHead x))
theorem pHead.ok : CtOk (mkCx Tryd.prog S [] 0) 58 pHead.ct := ct_mk (C := (mkCx Tryd.prog S tab_r8Decode 0)) (mkCx_ok sigOk mixed tab_r8Decode_ok 0) pHead.dec_ok (fun x => rfl) 4 (fun x _ => (pHead.nf_ok x _).mpr (pHead.key x _ rfl))
def tab_pHead : List (FuncId × Ct El) := (58, pHead.ct) :: tab_r19Check
theorem tab_pHead_ok : TabOk Tryd.prog S tab_pHead := ⟨pHead.ok, by kernel_rfl, tab_r19Check_ok⟩

/-! wireless/wirelessref19.First -/
def r19First.res (r : Int) : AV El := .v (.int .u8 (r))
def r19First.news (r : Int) : List (AObj El) := []
def r19First (p : AdvPDU) : Int := cond (p.Sender.Kind != (1 : Int)) (cond (bif hasTarget p.Kind then p.Target.Kind != (1 : Int) else false) (IntKind.wrap IntKind.u8 (IntKind.wrap IntKind.i64 (IntKind.wrap IntKind.i64 (p.Kind + (64 : Int)) + (128 : Int)))) (IntKind.wrap IntKind.u8 (IntKind.wrap IntKind.i64 (p.Kind + (64 : Int))))) (cond (bif hasTarget p.Kind then p.Target.Kind != (1 : Int) else false) (IntKind.wrap IntKind.u8 (IntKind.wrap IntKind.i64 (p.Kind + (128 : Int)))) (IntKind.wrap IntKind.u8 p.Kind))
def r19First.dec (cs : List (AV El)) : Option (AdvPDU) := popA AdvPDU.dec cs fun a0 c0 => popE c0 a0
def r19First.enc (x : AdvPDU) : List (AV El) := [AdvPDU.av x]
theorem r19First.dec_ok : ∀ cs x, r19First.dec cs = some x → Imp (S := S) cs (r19First.enc x) := by
  intro cs x h
  unfold r19First.dec at h
  obtain ⟨a0, c0, h0, k0⟩ := popA_some (S := S) AdvPDU.dec_ok h
  obtain ⟨rfl, rfl⟩ := popE_some (S := S) h0
  exact (k0 _ (.refl _))
def r19First.nf (p : AdvPDU) (K : AV El → List (AObj El) → Prop) : Prop := cond (p.Sender.Kind != (1 : Int)) (Ob (o3 (hasTarget p.Kind)) ∧ (Ob (o3 (hasTarget p.Kind)) ∧ (Ob (o3 (hasTarget p.Kind)) ∧ (Ob (o2 (hasTarget p.Kind)) ∧ (cond (bif hasTarget p.Kind then p.Target.Kind != (1 : Int) else false) (K (.v (.int .u8 (IntKind.wrap IntKind.u8 (IntKind.wrap IntKind.i64 (IntKind.wrap IntKind.i64 (p.Kind + (64 : Int)) + (128 : Int)))))) [.cells [.v (.int .i64 (p.Kind)), .v (.int .i64 (p.Sender.Kind)), .v (.int .u64 (p.Sender.Bits)), .v (.int .i64 (p.Target.Kind)), .v (.int .u64 (p.Target.Bits)), .sl 5 (p.Data : List (El 5)) false, .v (.int .u32 (p.Conn.Access)), .v (.int .u32 (p.Conn.Init)), .v (.int .i64 (p.Conn.Update.WinSize)), .v (.int .i64 (p.Conn.Update.WinOffset)), .v (.int .i64 (p.Conn.Update.Interval)), .v (.int .i64 (p.Conn.Update.Latency)), .v (.int .i64 (p.Conn.Update.Timeout)), .v (.int .u64 (p.Conn.Map)), .v (.int .i64 (p.Conn.Hop)), .v (.int .i64 (p.Conn.PPM)), .v (.int .i64 (p.Conn.Algorithm))]]) (K (.v (.int .u8 (IntKind.wrap IntKind.u8 (IntKind.wrap IntKind.i64 (p.Kind + (64 : Int)))))) [.cells [.v (.int .i64 (p.Kind)), .v (.int .i64 (p.Sender.Kind)), .v (.int .u64 (p.Sender.Bits)), .v (.int .i64 (p.Target.Kind)), .v (.int .u64 (p.Target.Bits)), .sl 5 (p.Data : List (El 5)) false, .v (.int .u32 (p.Conn.Access)), .v (.int .u32 (p.Conn.Init)), .v (.int .i64 (p.Conn.Update.WinSize)), .v (.int .i64 (p.Conn.Update.WinOffset)), .v (.int .i64 (p.Conn.Update.Interval)), .v (.int .i64 (p.Conn.Update.Latency)), .v (.int .i64 (p.Conn.Update.Timeout)), .v (.int .u64 (p.Conn.Map)), .v (.int .i64 (p.Conn.Hop)), .v (.int .i64 (p.Conn.PPM)), .v (.int .i64 (p.Conn.Algorithm))]])))))) (Ob (o3 (hasTarget p.Kind)) ∧ (Ob (o3 (hasTarget p.Kind)) ∧ (Ob (o3 (hasTarget p.Kind)) ∧ (Ob (o2 (hasTarget p.Kind)) ∧ (cond (bif hasTarget p.Kind then p.Target.Kind != (1 : Int) else false) (K (.v (.int .u8 (IntKind.wrap IntKind.u8 (IntKind.wrap IntKind.i64 (p.Kind + (128 : Int)))))) [.cells [.v (.int .i64 (p.Kind)), .v (.int .i64 (p.Sender.Kind)), .v (.int .u64 (p.Sender.Bits)), .v (.int .i64 (p.Target.Kind)), .v (.int .u64 (p.Target.Bits)), .sl 5 (p.Data : List (El 5)) false, .v (.int .u32 (p.Conn.Access)), .v (.int .u32 (p.Conn.Init)), .v (.int .i64 (p.Conn.Update.WinSize)), .v (.int .i64 (p.Conn.Update.WinOffset)), .v (.int .i64 (p.Conn.Update.Interval)), .v (.int .i64 (p.Conn.Update.Latency)), .v (.int .i64 (p.Conn.Update.Timeout)), .v (.int .u64 (p.Conn.Map)), .v (.int .i64 (p.Conn.Hop)), .v (.int .i64 (p.Conn.PPM)), .v (.int .i64 (p.Conn.Algorithm))]]) (K (.v (.int .u8 (IntKind.wrap IntKind.u8 p.Kind))) [.cells [.v (.int .i64 (p.Kind)), .v (.int .i64 (p.Sender.Kind)), .v (.int .u64 (p.Sender.Bits)), .v (.int .i64 (p.Target.Kind)), .v (.int .u64 (p.Target.Bits)), .sl 5 (p.Data : List (El 5)) false, .v (.int .u32 (p.Conn.Access)), .v (.int .u32 (p.Conn.Init)), .v (.int .i64 (p.Conn.Update.WinSize)), .v (.int .i64 (p.Conn.Update.WinOffset)), .v (.int .i64 (p.Conn.Update.Interval)), .v (.int .i64 (p.Conn.Update.Latency)), .v (.int .i64 (p.Conn.Update.Timeout)), .v (.int .u64 (p.Conn.Map)), .v (.int .i64 (p.Conn.Hop)), .v (.int .i64 (p.Conn.PPM)), .v (.int .i64 (p.Conn.Algorithm))]]))))))
theorem r19First.nf_ok (p : AdvPDU) (K : AV El → List (AObj El) → Prop) : evFun (mkCx Tryd.prog S tab_r8Decode 0) 4 61 [AdvPDU.av p] [] K = r19First.nf p K := by kernel_rfl
theorem r19First.key (p : AdvPDU) (v : Int) (hv : v = r19First p) : r19First.nf p (fun r' H' => Gives r' H' (r19First.res v) (r19First.news v)) := by
  unfold r19First at hv
  unfold r19First.nf
  revert hv; refine by_cond2 (fun hb hv => ?_) (fun hb hv => ?_)
  · refine ⟨⟨o3_ok _⟩, ?_⟩
    refine ⟨⟨o3_ok _⟩, ?_⟩
    refine ⟨⟨o3_ok _⟩, ?_⟩
    refine ⟨⟨o2_ok _⟩, ?_⟩
    revert hv; refine by_cond2 (fun hb hv => ?_) (fun hb hv => ?_)
    · subst hv; exact And.intro (by kernel_rfl) (by kernel_rfl)
    · subst hv; exact And.intro (by kernel_rfl) (by kernel_rfl)
  · refine ⟨⟨o3_ok _⟩, ?_⟩
    refine ⟨⟨o3_ok _⟩, ?_⟩
    refine ⟨⟨o3_ok _⟩, ?_⟩
    refine ⟨⟨o2_ok _⟩, ?_⟩
    revert hv; refine by_cond2 (fun hb hv => ?_) (fun hb hv => ?_)
    · subst hv; exact And.intro (by kernel_rfl) (by kernel_rfl)
    · subst hv; exact And.intro (by kernel_rfl) (by kernel_rfl)
def r19First.ct : Ct El := ctOf r19First.dec (fun _ => []) (fun x => r19First.res (r19First x)) (fun x => r19First.news (r19First x))
theorem r19First.ok : CtOk (mkCx Tryd.prog S [] 0) 61 r19First.ct := ct_mk (C := (mkCx Tryd.prog S tab_r8Decode 0)) (mkCx_ok sigOk mixed tab_r8Decode_ok 0) r19First.dec_ok (fun x => rfl) 4 (fun x _ => (r19First.nf_ok x _).mpr (r19First.key x _ rfl))
def tab_r19First : List (FuncId × Ct El) := (61, r19First.ct) :: tab_pHead
theorem tab_r19First_ok : TabOk Tryd.prog S tab_r19First := ⟨r19First.ok, by kernel_rfl, tab_pHead_ok⟩

/-! wireless/wirelessref19.Same -/
def r19Same.res (r : Bool) : AV El := .v (.bool (r))
def r19Same.news (r : Bool) : List (AObj El) := []
def r19Same (p : AdvPDU) (q : AdvPDU) : Bool := bif
    bif
        bif bif p.Kind == q.Kind then p.Sender.Kind == q.Sender.Kind && p.Sender.Bits == q.Sender.Bits else false then
          p.Target.Kind == q.Target.Kind && p.Target.Bits == q.Target.Bits
        else false then
      r2Same p.Data q.Data
    else false then
  p.Conn.Access == q.Conn.Access &&
    (p.Conn.Init == q.Conn.Init &&
      (p.Conn.Update.WinSize == q.Conn.Update.WinSize &&
        (p.Conn.Update.WinOffset == q.Conn.Update.WinOffset &&
          (p.Conn.Update.Interval == q.Conn.Update.Interval &&
            (p.Conn.Update.Latency == q.Conn.Update.Latency &&
              (p.Conn.Update.Timeout == q.Conn.Update.Timeout &&
                (p.Conn.Map == q.Conn.Map &&
                  (p.Conn.Hop == q.Conn.Hop &&
                    (p.Conn.PPM == q.Conn.PPM && p.Conn.Algorithm == q.Conn.Algorithm)))))))))
else false
def r19Same.dec (cs : List (AV El)) : Option (AdvPDU × AdvPDU) := popA AdvPDU.dec cs fun a0 c0 => popA AdvPDU.dec c0 fun a1 c1 => popE c1 (a0, a1)
def r19Same.enc (x : AdvPDU × AdvPDU) : List (AV El) := [AdvPDU.av x.1, AdvPDU.av x.2]
theorem r19Same.dec_ok : ∀ cs x, r19Same.dec cs = some x → Imp (S := S) cs (r19Same.enc x) := by
  intro cs x h
  unfold r19Same.dec at h
  obtain ⟨a0, c0, h0, k0⟩ := popA_some (S := S) AdvPDU.dec_ok h
  obtain ⟨a1, c1, h1, k1⟩ := popA_some (S := S) AdvPDU.dec_ok h0
  obtain ⟨rfl, rfl⟩ := popE_some (S := S) h1
  exact (k0 _ (k1 _ (.refl _)))
def r19Same.nf (p : AdvPDU) (q : AdvPDU) (K : AV El → List (AObj El) → Prop) : Prop := Ob (o3 (p.Kind == q.Kind)) ∧ (Ob (o3 (p.Kind == q.Kind)) ∧ (Ob (o3 (p.Kind == q.Kind)) ∧ (Ob (o3 (p.Kind == q.Kind)) ∧ (Ob (o2 (p.Kind == q.Kind)) ∧ (Ob (o3 (bif p.Kind == q.Kind then p.Sender.Kind == q.Sender.Kind && p.Sender.Bits == q.Sender.Bits else false)) ∧ (Ob (o3 (bif p.Kind == q.Kind then p.Sender.Kind == q.Sender.Kind && p.Sender.Bits == q.Sender.Bits else false)) ∧ (Ob (o3 (bif p.Kind == q.Kind then p.Sender.Kind == q.Sender.Kind && p.Sender.Bits == q.Sender.Bits else false)) ∧ (Ob (o3 (bif p.Kind == q.Kind then p.Sender.Kind == q.Sender.Kind && p.Sender.Bits == q.Sender.Bits else false)) ∧ (Ob (o2 (bif p.Kind == q.Kind then p.Sender.Kind == q.Sender.Kind && p.Sender.Bits == q.Sender.Bits else false)) ∧ (Ob (o3 (bif bif p.Kind == q.Kind then p.Sender.Kind == q.Sender.Kind && p.Sender.Bits == q.Sender.Bits else false then p.Target.Kind == q.Target.Kind && p.Target.Bits == q.Target.Bits else false)) ∧ (Ob (o3 (bif bif p.Kind == q.Kind then p.Sender.Kind == q.Sender.Kind && p.Sender.Bits == q.Sender.Bits else false then p.Target.Kind == q.Target.Kind && p.Target.Bits == q.Target.Bits else false)) ∧ (Ob (o3 (bif bif p.Kind == q.Kind then p.Sender.Kind == q.Sender.Kind && p.Sender.Bits == q.Sender.Bits else false then p.Target.Kind == q.Target.Kind && p.Target.Bits == q.Target.Bits else false)) ∧ (Ob (o3 (bif bif p.Kind == q.Kind then p.Sender.Kind == q.Sender.Kind && p.Sender.Bits == q.Sender.Bits else false then p.Target.Kind == q.Target.Kind && p.Target.Bits == q.Target.Bits else false)) ∧ (Ob (o2 (bif bif p.Kind == q.Kind then p.Sender.Kind == q.Sender.Kind && p.Sender.Bits == q.Sender.Bits else false then p.Target.Kind == q.Target.Kind && p.Target.Bits == q.Target.Bits else false)) ∧ (Ob (o3 (bif bif bif p.Kind == q.Kind then p.Sender.Kind == q.Sender.Kind && p.Sender.Bits == q.Sender.Bits else false then p.Target.Kind == q.Target.Kind && p.Target.Bits == q.Target.Bits else false then r2Same p.Data q.Data else false)) ∧ (Ob (o3 (bif bif bif p.Kind == q.Kind then p.Sender.Kind == q.Sender.Kind && p.Sender.Bits == q.Sender.Bits else false then p.Target.Kind == q.Target.Kind && p.Target.Bits == q.Target.Bits else false then r2Same p.Data q.Data else false)) ∧ (Ob (o3 (bif bif bif p.Kind == q.Kind then p.Sender.Kind == q.Sender.Kind && p.Sender.Bits == q.Sender.Bits else false then p.Target.Kind == q.Target.Kind && p.Target.Bits == q.Target.Bits else false then r2Same p.Data q.Data else false)) ∧ (Ob (o3 (bif bif bif p.Kind == q.Kind then p.Sender.Kind == q.Sender.Kind && p.Sender.Bits == q.Sender.Bits else false then p.Target.Kind == q.Target.Kind && p.Target.Bits == q.Target.Bits else false then r2Same p.Data q.Data else false)) ∧ (Ob (o2 (bif bif bif p.Kind == q.Kind then p.Sender.Kind == q.Sender.Kind && p.Sender.Bits == q.Sender.Bits else false then p.Target.Kind == q.Target.Kind && p.Target.Bits == q.Target.Bits else false then r2Same p.Data q.Data else false)) ∧ (K (.v (.bool (bif bif bif bif p.Kind == q.Kind then p.Sender.Kind == q.Sender.Kind && p.Sender.Bits == q.Sender.Bits else false then p.Target.Kind == q.Target.Kind && p.Target.Bits == q.Target.Bits else false then r2Same p.Data q.Data else false then p.Conn.Access == q.Conn.Access && (p.Conn.Init == q.Conn.Init && (p.Conn.Update.WinSize == q.Conn.Update.WinSize && (p.Conn.Update.WinOffset == q.Conn.Update.WinOffset && (p.Conn.Update.Interval == q.Conn.Update.Interval && (p.Conn.Update.Latency == q.Conn.Update.Latency && (p.Conn.Update.Timeout == q.Conn.Update.Timeout && (p.Conn.Map == q.Conn.Map && (p.Conn.Hop == q.Conn.Hop && (p.Conn.PPM == q.Conn.PPM && p.Conn.Algorithm == q.Conn.Algorithm))))))))) else false))) [.cells [.v (.int .i64 (p.Kind)), .v (.int .i64 (p.Sender.Kind)), .v (.int .u64 (p.Sender.Bits)), .v (.int .i64 (p.Target.Kind)), .v (.int .u64 (p.Target.Bits)), .sl 5 (p.Data : List (El 5)) false, .v (.int .u32 (p.Conn.Access)), .v (.int .u32 (p.Conn.Init)), .v (.int .i64 (p.Conn.Update.WinSize)), .v (.int .i64 (p.Conn.Update.WinOffset)), .v (.int .i64 (p.Conn.Update.Interval)), .v (.int .i64 (p.Conn.Update.Latency)), .v (.int .i64 (p.Conn.Update.Timeout)), .v (.int .u64 (p.Conn.Map)), .v (.int .i64 (p.Conn.Hop)), .v (.int .i64 (p.Conn.PPM)), .v (.int .i64 (p.Conn.Algorithm))], .cells [.v (.int .i64 (q.Kind)), .v (.int .i64 (q.Sender.Kind)), .v (.int .u64 (q.Sender.Bits)), .v (.int .i64 (q.Target.Kind)), .v (.int .u64 (q.Target.Bits)), .sl 5 (q.Data : List (El 5)) false, .v (.int .u32 (q.Conn.Access)), .v (.int .u32 (q.Conn.Init)), .v (.int .i64 (q.Conn.Update.WinSize)), .v (.int .i64 (q.Conn.Update.WinOffset)), .v (.int .i64 (q.Conn.Update.Interval)), .v (.int .i64 (q.Conn.Update.Latency)), .v (.int .i64 (q.Conn.Update.Timeout)), .v (.int .u64 (q.Conn.Map)), .v (.int .i64 (q.Conn.Hop)), .v (.int .i64 (q.Conn.PPM)), .v (.int .i64 (q.Conn.Algorithm))]]))))))))))))))))))))
theorem r19Same.nf_ok (p : AdvPDU) (q : AdvPDU) (K : AV El → List (AObj El) → Prop) : evFun (mkCx Tryd.prog S tab_r8Decode 0) 4 38 [AdvPDU.av p, AdvPDU.av q] [] K = r19Same.nf p q K := by kernel_rfl
theorem r19Same.key (p : AdvPDU) (q : AdvPDU) (v : Bool) (hv : v = r19Same p q) : r19Same.nf p q (fun r' H' => Gives r' H' (r19Same.res v) (r19Same.news v)) := by
  unfold r19Same at hv
  unfold r19Same.nf
  refine ⟨⟨o3_ok _⟩, ?_⟩
  refine ⟨⟨o3_ok _⟩, ?_⟩
  refine ⟨⟨o3_ok _⟩, ?_⟩
  refine ⟨⟨o3_ok _⟩, ?_⟩
  refine ⟨⟨o2_ok _⟩, ?_⟩
  refine ⟨⟨o3_ok _⟩, ?_⟩
  refine ⟨⟨o3_ok _⟩, ?_⟩
  refine ⟨⟨o3_ok _⟩, ?_⟩
  refine ⟨⟨o3_ok _⟩, ?_⟩
  refine ⟨⟨o2_ok _⟩, ?_⟩
  refine ⟨⟨o3_ok _⟩, ?_⟩
  refine ⟨⟨o3_ok _⟩, ?_⟩
  refine ⟨⟨o3_ok _⟩, ?_⟩
  refine ⟨⟨o3_ok _⟩, ?_⟩
  refine ⟨⟨o2_ok _⟩, ?_⟩
  refine ⟨⟨o3_ok _⟩, ?_⟩
  refine ⟨⟨o3_ok _⟩, ?_⟩
  refine ⟨⟨o3_ok _⟩, ?_⟩
  refine ⟨⟨o3_ok _⟩, ?_⟩
  refine ⟨⟨o2_ok _⟩, ?_⟩
  subst hv; exact And.intro (by kernel_rfl) (by kernel_rfl)
def r19Same.ct : Ct El := ctOf r19Same.dec (fun _ => []) (fun x => r19Same.res (r19Same x.1 x.2)) (fun x => r19Same.news (r19Same x.1 x.2))
theorem r19Same.ok : CtOk (mkCx Tryd.prog S [] 0) 38 r19Same.ct := ct_mk (C := (mkCx Tryd.prog S tab_r8Decode 0)) (mkCx_ok sigOk mixed tab_r8Decode_ok 0) r19Same.dec_ok (fun x => rfl) 4 (fun x _ => (r19Same.nf_ok x.1 x.2 _).mpr (r19Same.key x.1 x.2 _ rfl))
def tab_r19Same : List (FuncId × Ct El) := (38, r19Same.ct) :: tab_r19First
theorem tab_r19Same_ok : TabOk Tryd.prog S tab_r19Same := ⟨r19Same.ok, by kernel_rfl, tab_r19First_ok⟩

/-! wireless/wirelesslaw19.own -/
def own19.res (r : AdvPDU) : AV El := .agg [.v (.int .i64 ((r).Kind)), .v (.int .i64 ((r).Sender.Kind)), .v (.int .u64 ((r).Sender.Bits)), .v (.int .i64 ((r).Target.Kind)), .v (.int .u64 ((r).Target.Bits)), .gs 0, .v (.int .u32 ((r).Conn.Access)), .v (.int .u32 ((r).Conn.Init)), .v (.int .i64 ((r).Conn.Update.WinSize)), .v (.int .i64 ((r).Conn.Update.WinOffset)), .v (.int .i64 ((r).Conn.Update.Interval)), .v (.int .i64 ((r).Conn.Update.Latency)), .v (.int .i64 ((r).Conn.Update.Timeout)), .v (.int .u64 ((r).Conn.Map)), .v (.int .i64 ((r).Conn.Hop)), .v (.int .i64 ((r).Conn.PPM)), .v (.int .i64 ((r).Conn.Algorithm))]
def own19.news (r : AdvPDU) : List (AObj El) := [.row 5 ((r).Data : List (El 5))]
def own19 (p : AdvPDU) : AdvPDU := (⟨(p.Kind), ⟨(p.Sender.Kind), (p.Sender.Bits)⟩, ⟨(p.Target.Kind), (p.Target.Bits)⟩, ([] ++ p.Data), ⟨(p.Conn.Access), (p.Conn.Init), ⟨(p.Conn.Update.WinSize), (p.Conn.Update.WinOffset), (p.Conn.Update.Interval), (p.Conn.Update.Latency), (p.Conn.Update.Timeout)⟩, (p.Conn.Map), (p.Conn.Hop), (p.Conn.PPM), (p.Conn.Algorithm)⟩⟩ : AdvPDU)
def own19.dec (cs : List (AV El)) : Option (AdvPDU) := popA AdvPDU.dec cs fun a0 c0 => popE c0 a0
def own19.enc (x : AdvPDU) : List (AV El) := [AdvPDU.av x]
theorem own19.dec_ok : ∀ cs x, own19.dec cs = some x → Imp (S := S) cs (own19.enc x) := by
  intro cs x h
  unfold own19.dec at h
  obtain ⟨a0, c0, h0, k0⟩ := popA_some (S := S) AdvPDU.dec_ok h
  obtain ⟨rfl, rfl⟩ := popE_some (S := S) h0
  exact (k0 _ (.refl _))
def own19.nf (p : AdvPDU) (K : AV El → List (AObj El) → Prop) : Prop := Ob (((0 : Nat) + List.length p.Data) * (1 : Nat) ≤ (140737488355328 : Nat)) ∧ (K (.agg [.v (.int .i64 (p.Kind)), .v (.int .i64 (p.Sender.Kind)), .v (.int .u64 (p.Sender.Bits)), .v (.int .i64 (p.Target.Kind)), .v (.int .u64 (p.Target.Bits)), .gs 3, .v (.int .u32 (p.Conn.Access)), .v (.int .u32 (p.Conn.Init)), .v (.int .i64 (p.Conn.Update.WinSize)), .v (.int .i64 (p.Conn.Update.WinOffset)), .v (.int .i64 (p.Conn.Update.Interval)), .v (.int .i64 (p.Conn.Update.Latency)), .v (.int .i64 (p.Conn.Update.Timeout)), .v (.int .u64 (p.Conn.Map)), .v (.int .i64 (p.Conn.Hop)), .v (.int .i64 (p.Conn.PPM)), .v (.int .i64 (p.Conn.Algorithm))]) [.cells [.v (.int .i64 (p.Kind)), .v (.int .i64 (p.Sender.Kind)), .v (.int .u64 (p.Sender.Bits)), .v (.int .i64 (p.Target.Kind)), .v (.int .u64 (p.Target.Bits)), .gs 3, .v (.int .u32 (p.Conn.Access)), .v (.int .u32 (p.Conn.Init)), .v (.int .i64 (p.Conn.Update.WinSize)), .v (.int .i64 (p.Conn.Update.WinOffset)), .v (.int .i64 (p.Conn.Update.Interval)), .v (.int .i64 (p.Conn.Update.Latency)), .v (.int .i64 (p.Conn.Update.Timeout)), .v (.int .u64 (p.Conn.Map)), .v (.int .i64 (p.Conn.Hop)), .v (.int .i64 (p.Conn.PPM)), .v (.int .i64 (p.Conn.Algorithm))], .cells [.v (.int .i64 (p.Kind)), .v (.int .i64 (p.Sender.Kind)), .v (.int .u64 (p.Sender.Bits)), .v (.int .i64 (p.Target.Kind)), .v (.int .u64 (p.Target.Bits)), .gs 3, .v (.int .u32 (p.Conn.Access)), .v (.int .u32 (p.Conn.Init)), .v (.int .i64 (p.Conn.Update.WinSize)), .v (.int .i64 (p.Conn.Update.WinOffset)), .v (.int .i64 (p.Conn.Update.Interval)), .v (.int .i64 (p.Conn.Update.Latency)), .v (.int .i64 (p.Conn.Update.Timeout)), .v (.int .u64 (p.Conn.Map)), .v (.int .i64 (p.Conn.Hop)), .v (.int .i64 (p.Conn.PPM)), .v (.int .i64 (p.Conn.Algorithm))], .gone, .row 5 ([] ++ p.Data : List (El 5))])
theorem own19.nf_ok (p : AdvPDU) (K : AV El → List (AObj El) → Prop) : evFun (mkCx Tryd.prog S tab_r8Decode 0) 4 31 [AdvPDU.av p] [] K = own19.nf p K := by kernel_rfl
theorem own19.key (p : AdvPDU) (hp : p.Data.length ≤ 140737488351232) (v : AdvPDU) (hv : v = own19 p) : own19.nf p (fun r' H' => Gives r' H' (own19.res v) (own19.news v)) := by
  unfold own19 at hv
  unfold own19.nf
  refine ⟨⟨by (try clear hv); (try clear q1 q2); (try clear hk); (first | omega | ((try simp only [decide_eq_true_eq, decide_eq_false_iff_not, Bool.not_eq_true, Bool.not_eq_false, Bool.and_eq_true, Bool.or_eq_true, Bool.not_not, cond_and, cond_or, List.length_append, List.length_cons, List.length_nil] at *); (first | omega | (intros; (try simp only [Bool.not_not, cond_and, cond_or, Bool.and_eq_true, decide_eq_true_eq] at *); (exact band_nn rfl _ _)) | (intros; (try simp only [Bool.not_not, cond_and, cond_or, Bool.and_eq_true, decide_eq_true_eq] at *); (exact (wu64s _).2.1)) | (intros; (try simp only [Bool.not_not, cond_and, cond_or, Bool.and_eq_true, decide_eq_true_eq] at *); (simp only [Bool.or_eq_false_iff, Bool.and_eq_false_iff, decide_eq_false_iff_not, decide_eq_true_eq, bne_iff_ne, beq_iff_eq, bne_eq_false_iff_eq, beq_eq_false_iff_ne, ne_eq, true_and] at *; omega)) | (intros; (try simp only [Bool.not_not, cond_and, cond_or, Bool.and_eq_true, decide_eq_true_eq] at *); (simp only [List.length_drop, List.length_take, List.length_append, List.length_cons, List.length_nil] at *; omega)) | (intros; omega) | (intros; simp only [Bool.not_not, cond_and, cond_or, Bool.and_eq_true, decide_eq_true_eq] at *; omega) | (intros; simp_all [Bool.not_not]; done))))⟩, ?_⟩
  subst hv; exact And.intro (by kernel_rfl) (by kernel_rfl)
def own19.ct : Ct El := ctOf own19.dec (fun x => [x.Data.length ≤ 140737488351232]) (fun x => own19.res (own19 x)) (fun x => own19.news (own19 x))
theorem own19.ok : CtOk (mkCx Tryd.prog S [] 0) 31 own19.ct := ct_mk (C := (mkCx Tryd.prog S tab_r8Decode 0)) (mkCx_ok sigOk mixed tab_r8Decode_ok 0) own19.dec_ok (fun x => rfl) 4 (fun x hp => (own19.nf_ok x _).mpr (own19.key x (hp _ (List.mem_singleton.2 rfl)) _ rfl))
def tab_own19 : List (FuncId × Ct El) := (31, own19.ct) :: tab_r19Same
theorem tab_own19_ok : TabOk Tryd.prog S tab_own19 := ⟨own19.ok, by kernel_rfl, tab_r19Same_ok⟩

/-! bClone -/
def bClone.res (r : List Int) : AV El := .gs 0
def bClone.news (r : List Int) : List (AObj El) := [.row 5 (r : List (El 5))]
def bClone (s : List Int) : List Int := s
def bClone.dec (cs : List (AV El)) : Option ((List Int)) := popS 5 cs fun a0 c0 => popE c0 a0
def bClone.enc (x : (List Int)) : List (AV El) := [.sl 5 (x : List (El 5)) false]
theorem bClone.dec_ok : ∀ cs x, bClone.dec cs = some x → Imp (S := S) cs (bClone.enc x) := by
  intro cs x h
  unfold bClone.dec at h
  obtain ⟨a0, c0, h0, k0⟩ := popS_some (S := S) (t := 5) h
  obtain ⟨rfl, rfl⟩ := popE_some (S := S) h0
  exact (k0 _ (.refl _))
theorem bClone.nf_ok (s : List Int) (K : AV El → List (AObj El) → Prop) : evFun (mkCx Tryd.prog S tab_own19 0) 4 86 [.sl 5 (s : List (El 5)) false] [] K = (∀ z : Bool, (z = true → s = []) → cond (bif false then !z else z) (K (.v (.slice none 0 0)) []) (Ob (((0 : Nat) + List.length s) * (1 : Nat) ≤ (140737488355328 : Nat)) ∧ (K (.gs 1) [.gone, .row 5 ([] ++ s : List (El 5))]))) := by kernel_rfl
theorem bClone.key (s : List Int) (hp : s.length * 1 ≤ 140737488355328) : evFun (mkCx Tryd.prog S tab_own19 0) 4 86 [.sl 5 (s : List (El 5)) false] [] (fun r' H' => Gives r' H' (bClone.res s) (bClone.news s)) := by
  refine (bClone.nf_ok s _).mpr ?_
  intro z hz
  cases z
  · exact ⟨⟨by omega⟩, And.intro (by kernel_rfl) (by kernel_rfl)⟩
  · have := hz rfl
    subst this
    exact And.intro (by kernel_rfl) (by kernel_rfl)
def bClone.ct : Ct El := ctOf bClone.dec (fun x => [x.length * 1 ≤ 140737488355328]) (fun x => bClone.res (bClone x)) (fun x => bClone.news (bClone x))
theorem bClone.ok : CtOk (mkCx Tryd.prog S [] 0) 86 bClone.ct := ct_mk (C := (mkCx Tryd.prog S tab_own19 0)) (mkCx_ok sigOk mixed tab_own19_ok 0) bClone.dec_ok (fun x => rfl) 4 (fun x hp => bClone.key x (hp _ (List.mem_singleton.2 rfl)))

def tab_bClone : List (FuncId × Ct El) := (86, bClone.ct) :: tab_own19
theorem tab_bClone_ok : TabOk Tryd.prog S tab_bClone := ⟨bClone.ok, by kernel_rfl, tab_own19_ok⟩

end Go.Aw.W
