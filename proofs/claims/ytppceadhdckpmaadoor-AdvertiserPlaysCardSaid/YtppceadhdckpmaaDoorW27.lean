/- Contracts of the seat (printed by ct.py). -/
import Derived.Test.YtppceadhdckpmaaDoorW26
set_option linter.unusedVariables false
set_option linter.unusedSimpArgs false
set_option maxRecDepth 20000
set_option maxHeartbeats 1000000
namespace Go.Aw.W
open Go Go.Aw Go.Proofs
attribute [local irreducible] evCode evFun evOps evDs evOne ctxK loopK loopB subC bodyC headS okH roundK
attribute [local irreducible] pFind r9Find pCheck r19Check connects r21Accepts advStart r21Start advFire r21Fire advAnswer r21Answer lives21 own21
theorem advStart_len (p : AdvParams) (t : Int) (h : p.Data.length ≤ 140737488355328 ∧ p.Scan.length ≤ 140737488355328 ∧ p.Accept.length ≤ 4611686018427 ∧ p.Identities.length ≤ 4611686018427) : (advStart p t).1.Params.Data.length ≤ 140737488355328 ∧ (advStart p t).1.Params.Scan.length ≤ 140737488355328 ∧ (advStart p t).1.Params.Accept.length ≤ 4611686018427 ∧ (advStart p t).1.Params.Identities.length ≤ 4611686018427 := by
  have hh : advStart p t = cond (advCheck p != 0) (Advertiser.zero, advCheck p) (⟨p, true, 0, advMoment t⟩, 0) := by
    unfold advStart; simp only [advOwn_eq]
  rw [hh]
  cases advCheck p != 0
  · exact h
  · simp [Advertiser.zero, AdvParams.zero]
def advertiserAnswers.res (r : Bool) : AV El := .v (.bool (r))
def advertiserAnswers.news (r : Bool) : List (AObj El) := []
def advertiserAnswers.L (e v : Bool) : Prop := advertiserAnswers.res e = advertiserAnswers.res v ∧ advertiserAnswers.news e = advertiserAnswers.news v
def advertiserAnswers (p : AdvParams) (p1 : Law21Heard) : Bool := cond (bif bif !small21 p then true else decide (p1.Local < 0) then true else decide (1099511627776 < p1.Local)) (true) (cond ((advStart (own21 p) 0).snd != 0) (true) (cond (bif bif (advAnswer (advStart (own21 p) 0).fst p1.PDU p1.Channel p1.Local).fst.On == (advAnswer (advStart (own21 p) 0).fst p1.PDU p1.Channel p1.Local).snd.snd then true else decide (1 < (↑(List.length (advAnswer (advStart (own21 p) 0).fst p1.PDU p1.Channel p1.Local).snd.fst) : Int)) then true else bif bif (advAnswer (advStart (own21 p) 0).fst p1.PDU p1.Channel p1.Local).snd.snd then true else decide (0 < (↑(List.length (advAnswer (advStart (own21 p) 0).fst p1.PDU p1.Channel p1.Local).snd.fst) : Int)) then !bif bif r21Meant (advStart (own21 p) 0).fst p1.PDU then decide (37 ≤ p1.Channel) else false then decide (p1.Channel ≤ 39) else false else false) (false) (cond (bif (advAnswer (advStart (own21 p) 0).fst p1.PDU p1.Channel p1.Local).snd.snd then bif bif p1.PDU.Kind != 5 then true else !r19Conn p.Kind then true else decide (0 < (↑(List.length (advAnswer (advStart (own21 p) 0).fst p1.PDU p1.Channel p1.Local).snd.fst) : Int)) else false) (false) (cond ((↑(List.length (advAnswer (advStart (own21 p) 0).fst p1.PDU p1.Channel p1.Local).snd.fst) : Int) == 1) (cond (bif bif bif bif bif bif p1.PDU.Kind != 3 then true else !r19Scan p.Kind then true else (List.getD (advAnswer (advStart (own21 p) 0).fst p1.PDU p1.Channel p1.Local).snd.fst (Int.toNat 0) Send.zero).Channel != p1.Channel then true else (List.getD (advAnswer (advStart (own21 p) 0).fst p1.PDU p1.Channel p1.Local).snd.fst (Int.toNat 0) Send.zero).Time != IntKind.wrap IntKind.i64 (p1.Local + 150) then true else (List.getD (advAnswer (advStart (own21 p) 0).fst p1.PDU p1.Channel p1.Local).snd.fst (Int.toNat 0) Send.zero).PDU.Kind != 4 then true else !((List.getD (advAnswer (advStart (own21 p) 0).fst p1.PDU p1.Channel p1.Local).snd.fst (Int.toNat 0) Send.zero).PDU.Sender.Kind == p.Own.Kind && (List.getD (advAnswer (advStart (own21 p) 0).fst p1.PDU p1.Channel p1.Local).snd.fst (Int.toNat 0) Send.zero).PDU.Sender.Bits == p.Own.Bits) then true else !r2Same (List.getD (advAnswer (advStart (own21 p) 0).fst p1.PDU p1.Channel p1.Local).snd.fst (Int.toNat 0) Send.zero).PDU.Data p.Scan) (false) (bif bif bif bif !bif bif r21Meant (advStart (own21 p) 0).fst p1.PDU then decide (37 ≤ p1.Channel) else false then decide (p1.Channel ≤ 39) else false then true else p.Kind != 0 then true else p.Policy != 0 then true else (advAnswer (advStart (own21 p) 0).fst p1.PDU p1.Channel p1.Local).snd.snd then true else (↑(List.length (advAnswer (advStart (own21 p) 0).fst p1.PDU p1.Channel p1.Local).snd.fst) : Int) == 1)) (bif bif bif bif !bif bif r21Meant (advStart (own21 p) 0).fst p1.PDU then decide (37 ≤ p1.Channel) else false then decide (p1.Channel ≤ 39) else false then true else p.Kind != 0 then true else p.Policy != 0 then true else (advAnswer (advStart (own21 p) 0).fst p1.PDU p1.Channel p1.Local).snd.snd then true else (↑(List.length (advAnswer (advStart (own21 p) 0).fst p1.PDU p1.Channel p1.Local).snd.fst) : Int) == 1)))))
def advertiserAnswers.dec (cs : List (AV El)) : Option (AdvParams × Law21Heard) := popA AdvParams.dec cs fun a0 c0 => popA Law21Heard.dec c0 fun a1 c1 => popE c1 (a0, a1)
def advertiserAnswers.enc (x : AdvParams × Law21Heard) : List (AV El) := [AdvParams.av x.1, Law21Heard.av x.2]
theorem advertiserAnswers.dec_ok : ∀ cs x, advertiserAnswers.dec cs = some x → Imp (S := S) cs (advertiserAnswers.enc x) := by
  intro cs x h
  unfold advertiserAnswers.dec at h
  obtain ⟨a0, c0, h0, k0⟩ := popA_some (S := S) AdvParams.dec_ok h
  obtain ⟨a1, c1, h1, k1⟩ := popA_some (S := S) Law21Heard.dec_ok h0
  obtain ⟨rfl, rfl⟩ := popE_some (S := S) h1
  exact (k0 _ (k1 _ (.refl _)))
def advertiserAnswers_nf_g1 (p : AdvParams) (p1 : Law21Heard) : Bool := bif (r21Meant (advStart (own21 p) (0 : Int)).fst p1.PDU) then (decide ((37 : Int) ≤ p1.Channel)) else false
def advertiserAnswers_nf_g2 (p : AdvParams) (p1 : Law21Heard) : Bool := (advAnswer (advStart (own21 p) (0 : Int)).fst p1.PDU p1.Channel p1.Local).fst.On == (advAnswer (advStart (own21 p) (0 : Int)).fst p1.PDU p1.Channel p1.Local).snd.snd
def advertiserAnswers_nf_g3 (p : AdvParams) (p1 : Law21Heard) : Bool := decide ((1 : Int) < (↑(List.length (advAnswer (advStart (own21 p) (0 : Int)).fst p1.PDU p1.Channel p1.Local).snd.fst) : Int))
def advertiserAnswers_nf_g4 (p : AdvParams) (p1 : Law21Heard) : Bool := bif (advertiserAnswers_nf_g2 p p1) then true else (advertiserAnswers_nf_g3 p p1)
def advertiserAnswers_nf_g5 (p : AdvParams) (p1 : Law21Heard) : Bool := (advAnswer (advStart (own21 p) (0 : Int)).fst p1.PDU p1.Channel p1.Local).snd.snd
def advertiserAnswers_nf_g6 (p : AdvParams) (p1 : Law21Heard) : Bool := (List.getD (advAnswer (advStart (own21 p) (0 : Int)).fst p1.PDU p1.Channel p1.Local).snd.fst (Int.toNat (0 : Int)) Send.zero).Channel != p1.Channel
def advertiserAnswers_nf_g7 (p : AdvParams) (p1 : Law21Heard) : Bool := bif (bif p1.PDU.Kind != (3 : Int) then true else !r19Scan p.Kind) then true else (advertiserAnswers_nf_g6 p p1)
def advertiserAnswers_nf_g8 (p : AdvParams) (p1 : Law21Heard) : Bool := (List.getD (advAnswer (advStart (own21 p) (0 : Int)).fst p1.PDU p1.Channel p1.Local).snd.fst (Int.toNat (0 : Int)) Send.zero).Time != IntKind.wrap IntKind.i64 (p1.Local + (150 : Int))
def advertiserAnswers_nf_g9 (p : AdvParams) (p1 : Law21Heard) : Bool := bif (advertiserAnswers_nf_g7 p p1) then true else (advertiserAnswers_nf_g8 p p1)
def advertiserAnswers_nf_g10 (p : AdvParams) (p1 : Law21Heard) : Bool := (List.getD (advAnswer (advStart (own21 p) (0 : Int)).fst p1.PDU p1.Channel p1.Local).snd.fst (Int.toNat (0 : Int)) Send.zero).PDU.Kind != (4 : Int)
def advertiserAnswers_nf_g11 (p : AdvParams) (p1 : Law21Heard) : Bool := bif (advertiserAnswers_nf_g9 p p1) then true else (advertiserAnswers_nf_g10 p p1)
def advertiserAnswers_nf_g12 (p : AdvParams) (p1 : Law21Heard) : Bool := bif (advertiserAnswers_nf_g1 p p1) then (decide (p1.Channel ≤ (39 : Int))) else false
def advertiserAnswers_nf_g13 (p : AdvParams) (p1 : Law21Heard) : Bool := bif (!(advertiserAnswers_nf_g12 p p1)) then true else (p.Kind != (0 : Int))
def advertiserAnswers_nf_g14 (p : AdvParams) (p1 : Law21Heard) : Bool := bif (advertiserAnswers_nf_g13 p p1) then true else (p.Policy != (0 : Int))
def advertiserAnswers_nf_g15 (p : AdvParams) (p1 : Law21Heard) : Bool := bif (advertiserAnswers_nf_g14 p p1) then true else (advertiserAnswers_nf_g5 p p1)
def advertiserAnswers.nf (p : AdvParams) (p1 : Law21Heard) (v : Bool) : Prop := Ob (o3 (!!small21 p)) ∧ (Ob (o3 (!!small21 p)) ∧ (Ob (on (!small21 p)) ∧ (Ob (o3 (!(bif !small21 p then true else decide (p1.Local < 0)))) ∧ (Ob (o3 (!(bif !small21 p then true else decide (p1.Local < 0)))) ∧ (Ob (on (bif !small21 p then true else decide (p1.Local < 0))) ∧ (cond (bif bif !small21 p then true else decide (p1.Local < 0) then true else decide (1099511627776 < p1.Local)) (advertiserAnswers.L (true) v) (Ob (List.length p.Data ≤ (140737488355328 : Nat) ∧ List.length p.Scan ≤ (140737488355328 : Nat) ∧ List.length p.Accept ≤ (4611686018427 : Nat) ∧ List.length p.Identities ≤ (4611686018427 : Nat)) ∧ (Ob (List.length (own21 p).Data ≤ (140737488355328 : Nat) ∧ List.length (own21 p).Scan ≤ (140737488355328 : Nat) ∧ List.length (own21 p).Accept ≤ (4611686018427 : Nat) ∧ List.length (own21 p).Identities ≤ (4611686018427 : Nat)) ∧ (cond ((advStart (own21 p) 0).snd != 0) (advertiserAnswers.L (true) v) (Ob (List.length (advStart (own21 p) 0).fst.Params.Data ≤ (140737488355328 : Nat) ∧ List.length (advStart (own21 p) 0).fst.Params.Scan ≤ (140737488355328 : Nat) ∧ List.length (advStart (own21 p) 0).fst.Params.Accept ≤ (4611686018427 : Nat) ∧ List.length (advStart (own21 p) 0).fst.Params.Identities ≤ (4611686018427 : Nat)) ∧ (Ob (o3 (r21Meant (advStart (own21 p) 0).fst p1.PDU)) ∧ (Ob (o3 (r21Meant (advStart (own21 p) 0).fst p1.PDU)) ∧ (Ob (o2 (r21Meant (advStart (own21 p) 0).fst p1.PDU)) ∧ (Ob (o3 (advertiserAnswers_nf_g1 p p1)) ∧ (Ob (o3 (advertiserAnswers_nf_g1 p p1)) ∧ (Ob (o2 (advertiserAnswers_nf_g1 p p1)) ∧ (Ob (o3 (!(advertiserAnswers_nf_g2 p p1))) ∧ (Ob (o3 (!(advertiserAnswers_nf_g2 p p1))) ∧ (Ob (on (advertiserAnswers_nf_g2 p p1)) ∧ (Ob (o3 (!(advertiserAnswers_nf_g4 p p1))) ∧ (Ob (o3 ((!bif (advAnswer (advStart (own21 p) 0).fst p1.PDU p1.Channel p1.Local).fst.On == (advAnswer (advStart (own21 p) 0).fst p1.PDU p1.Channel p1.Local).snd.snd then true else decide (1 < (↑(List.length (advAnswer (advStart (own21 p) 0).fst p1.PDU p1.Channel p1.Local).snd.fst) : Int))) && !(advAnswer (advStart (own21 p) 0).fst p1.PDU p1.Channel p1.Local).snd.snd)) ∧ (Ob (o3 ((!bif (advAnswer (advStart (own21 p) 0).fst p1.PDU p1.Channel p1.Local).fst.On == (advAnswer (advStart (own21 p) 0).fst p1.PDU p1.Channel p1.Local).snd.snd then true else decide (1 < (↑(List.length (advAnswer (advStart (own21 p) 0).fst p1.PDU p1.Channel p1.Local).snd.fst) : Int))) && !(advAnswer (advStart (own21 p) 0).fst p1.PDU p1.Channel p1.Local).snd.snd)) ∧ (Ob (o2 (!(advertiserAnswers_nf_g4 p p1))) ∧ (Ob ((!bif (advAnswer (advStart (own21 p) 0).fst p1.PDU p1.Channel p1.Local).fst.On == (advAnswer (advStart (own21 p) 0).fst p1.PDU p1.Channel p1.Local).snd.snd then true else decide (1 < (↑(List.length (advAnswer (advStart (own21 p) 0).fst p1.PDU p1.Channel p1.Local).snd.fst) : Int))) = true → (advAnswer (advStart (own21 p) 0).fst p1.PDU p1.Channel p1.Local).snd.snd = false → ((!bif (advAnswer (advStart (own21 p) 0).fst p1.PDU p1.Channel p1.Local).fst.On == (advAnswer (advStart (own21 p) 0).fst p1.PDU p1.Channel p1.Local).snd.snd then true else decide (1 < (↑(List.length (advAnswer (advStart (own21 p) 0).fst p1.PDU p1.Channel p1.Local).snd.fst) : Int))) && !(advAnswer (advStart (own21 p) 0).fst p1.PDU p1.Channel p1.Local).snd.snd) = true) ∧ (Ob (o3 (!(advertiserAnswers_nf_g4 p p1))) ∧ (Ob (o3 ((!bif (advAnswer (advStart (own21 p) 0).fst p1.PDU p1.Channel p1.Local).fst.On == (advAnswer (advStart (own21 p) 0).fst p1.PDU p1.Channel p1.Local).snd.snd then true else decide (1 < (↑(List.length (advAnswer (advStart (own21 p) 0).fst p1.PDU p1.Channel p1.Local).snd.fst) : Int))) && bif (advAnswer (advStart (own21 p) 0).fst p1.PDU p1.Channel p1.Local).snd.snd then true else decide (0 < (↑(List.length (advAnswer (advStart (own21 p) 0).fst p1.PDU p1.Channel p1.Local).snd.fst) : Int)))) ∧ (Ob (o2 (!(advertiserAnswers_nf_g4 p p1))) ∧ (Ob ((!bif (advAnswer (advStart (own21 p) 0).fst p1.PDU p1.Channel p1.Local).fst.On == (advAnswer (advStart (own21 p) 0).fst p1.PDU p1.Channel p1.Local).snd.snd then true else decide (1 < (↑(List.length (advAnswer (advStart (own21 p) 0).fst p1.PDU p1.Channel p1.Local).snd.fst) : Int))) = true → (bif (advAnswer (advStart (own21 p) 0).fst p1.PDU p1.Channel p1.Local).snd.snd then true else decide (0 < (↑(List.length (advAnswer (advStart (own21 p) 0).fst p1.PDU p1.Channel p1.Local).snd.fst) : Int))) = true → ((!bif (advAnswer (advStart (own21 p) 0).fst p1.PDU p1.Channel p1.Local).fst.On == (advAnswer (advStart (own21 p) 0).fst p1.PDU p1.Channel p1.Local).snd.snd then true else decide (1 < (↑(List.length (advAnswer (advStart (own21 p) 0).fst p1.PDU p1.Channel p1.Local).snd.fst) : Int))) && bif (advAnswer (advStart (own21 p) 0).fst p1.PDU p1.Channel p1.Local).snd.snd then true else decide (0 < (↑(List.length (advAnswer (advStart (own21 p) 0).fst p1.PDU p1.Channel p1.Local).snd.fst) : Int))) = true) ∧ (Ob (on (advertiserAnswers_nf_g4 p p1)) ∧ (cond (bif bif (advAnswer (advStart (own21 p) 0).fst p1.PDU p1.Channel p1.Local).fst.On == (advAnswer (advStart (own21 p) 0).fst p1.PDU p1.Channel p1.Local).snd.snd then true else decide (1 < (↑(List.length (advAnswer (advStart (own21 p) 0).fst p1.PDU p1.Channel p1.Local).snd.fst) : Int)) then true else bif bif (advAnswer (advStart (own21 p) 0).fst p1.PDU p1.Channel p1.Local).snd.snd then true else decide (0 < (↑(List.length (advAnswer (advStart (own21 p) 0).fst p1.PDU p1.Channel p1.Local).snd.fst) : Int)) then !bif bif r21Meant (advStart (own21 p) 0).fst p1.PDU then decide (37 ≤ p1.Channel) else false then decide (p1.Channel ≤ 39) else false else false) (advertiserAnswers.L (false) v) (Ob (o3 (advertiserAnswers_nf_g5 p p1)) ∧ (Ob (o3 (advertiserAnswers_nf_g5 p p1)) ∧ (Ob (o3 (advertiserAnswers_nf_g5 p p1)) ∧ (Ob (o3 (advertiserAnswers_nf_g5 p p1)) ∧ (Ob (o3 ((advAnswer (advStart (own21 p) 0).fst p1.PDU p1.Channel p1.Local).snd.snd && !p1.PDU.Kind != 5)) ∧ (Ob (o3 ((advAnswer (advStart (own21 p) 0).fst p1.PDU p1.Channel p1.Local).snd.snd && !p1.PDU.Kind != 5)) ∧ (Ob (o3 ((advAnswer (advStart (own21 p) 0).fst p1.PDU p1.Channel p1.Local).snd.snd && !p1.PDU.Kind != 5)) ∧ (Ob (o2 (advertiserAnswers_nf_g5 p p1)) ∧ (Ob ((advAnswer (advStart (own21 p) 0).fst p1.PDU p1.Channel p1.Local).snd.snd = true → (p1.PDU.Kind != 5) = false → ((advAnswer (advStart (own21 p) 0).fst p1.PDU p1.Channel p1.Local).snd.snd && !p1.PDU.Kind != 5) = true) ∧ (Ob (o3 (advertiserAnswers_nf_g5 p p1)) ∧ (Ob (o3 ((advAnswer (advStart (own21 p) 0).fst p1.PDU p1.Channel p1.Local).snd.snd && !bif p1.PDU.Kind != 5 then true else !r19Conn p.Kind)) ∧ (Ob (o3 ((advAnswer (advStart (own21 p) 0).fst p1.PDU p1.Channel p1.Local).snd.snd && !bif p1.PDU.Kind != 5 then true else !r19Conn p.Kind)) ∧ (Ob (o2 (advertiserAnswers_nf_g5 p p1)) ∧ (Ob ((advAnswer (advStart (own21 p) 0).fst p1.PDU p1.Channel p1.Local).snd.snd = true → (bif p1.PDU.Kind != 5 then true else !r19Conn p.Kind) = false → ((advAnswer (advStart (own21 p) 0).fst p1.PDU p1.Channel p1.Local).snd.snd && !bif p1.PDU.Kind != 5 then true else !r19Conn p.Kind) = true) ∧ (Ob (o2 (advertiserAnswers_nf_g5 p p1)) ∧ (cond (bif (advAnswer (advStart (own21 p) 0).fst p1.PDU p1.Channel p1.Local).snd.snd then bif bif p1.PDU.Kind != 5 then true else !r19Conn p.Kind then true else decide (0 < (↑(List.length (advAnswer (advStart (own21 p) 0).fst p1.PDU p1.Channel p1.Local).snd.fst) : Int)) else false) (advertiserAnswers.L (false) v) ((List.length (advAnswer (advStart (own21 p) 0).fst p1.PDU p1.Channel p1.Local).snd.fst ≤ (9223372036854775807 : Nat)) → (cond ((↑(List.length (advAnswer (advStart (own21 p) 0).fst p1.PDU p1.Channel p1.Local).snd.fst) : Int) == 1) (Ob ((0 : Int) ≤ (0 : Int) ∧ 0 < (↑(List.length (advAnswer (advStart (own21 p) 0).fst p1.PDU p1.Channel p1.Local).snd.fst) : Int)) ∧ (Ob (o3 (!p1.PDU.Kind != 3)) ∧ (Ob (o3 (!p1.PDU.Kind != 3)) ∧ (Ob (o3 (!p1.PDU.Kind != 3)) ∧ (Ob (on (p1.PDU.Kind != 3)) ∧ (Ob (o3 (!(bif p1.PDU.Kind != 3 then true else !r19Scan p.Kind))) ∧ (Ob ((!bif p1.PDU.Kind != 3 then true else !r19Scan p.Kind) = true → (0 : Int) ≤ (0 : Int) ∧ 0 < (↑(List.length (advAnswer (advStart (own21 p) 0).fst p1.PDU p1.Channel p1.Local).snd.fst) : Int)) ∧ (Ob (o3 (!(bif p1.PDU.Kind != 3 then true else !r19Scan p.Kind))) ∧ (Ob (o3 (!(bif p1.PDU.Kind != 3 then true else !r19Scan p.Kind))) ∧ (Ob (o3 (!(bif p1.PDU.Kind != 3 then true else !r19Scan p.Kind))) ∧ (Ob (o3 (!(bif p1.PDU.Kind != 3 then true else !r19Scan p.Kind))) ∧ (Ob (o3 (!(bif p1.PDU.Kind != 3 then true else !r19Scan p.Kind))) ∧ (Ob (on (bif p1.PDU.Kind != 3 then true else !r19Scan p.Kind)) ∧ (Ob (o3 (!(advertiserAnswers_nf_g7 p p1))) ∧ (Ob ((!bif bif p1.PDU.Kind != 3 then true else !r19Scan p.Kind then true else (List.getD (advAnswer (advStart (own21 p) 0).fst p1.PDU p1.Channel p1.Local).snd.fst (Int.toNat 0) Send.zero).Channel != p1.Channel) = true → (0 : Int) ≤ (0 : Int) ∧ 0 < (↑(List.length (advAnswer (advStart (own21 p) 0).fst p1.PDU p1.Channel p1.Local).snd.fst) : Int)) ∧ (Ob (o3 (!(advertiserAnswers_nf_g7 p p1))) ∧ (Ob (o3 (!(advertiserAnswers_nf_g7 p p1))) ∧ (Ob (o3 (!(advertiserAnswers_nf_g7 p p1))) ∧ (Ob (o3 (!(advertiserAnswers_nf_g7 p p1))) ∧ (Ob (o3 (!(advertiserAnswers_nf_g7 p p1))) ∧ (Ob (o3 (!(advertiserAnswers_nf_g7 p p1))) ∧ (Ob (on (advertiserAnswers_nf_g7 p p1)) ∧ (Ob (o3 (!(advertiserAnswers_nf_g9 p p1))) ∧ (Ob (o3 (!(advertiserAnswers_nf_g9 p p1))) ∧ (Ob (on (advertiserAnswers_nf_g9 p p1)) ∧ (Ob (o3 (!(advertiserAnswers_nf_g11 p p1))) ∧ (Ob (o3 (!(advertiserAnswers_nf_g11 p p1))) ∧ (Ob (o3 (!(advertiserAnswers_nf_g11 p p1))) ∧ (Ob (o3 (!(advertiserAnswers_nf_g11 p p1))) ∧ (Ob (on (advertiserAnswers_nf_g11 p p1)) ∧ (Ob (o3 (!bif bif bif bif bif p1.PDU.Kind != 3 then true else !r19Scan p.Kind then true else (List.getD (advAnswer (advStart (own21 p) 0).fst p1.PDU p1.Channel p1.Local).snd.fst (Int.toNat 0) Send.zero).Channel != p1.Channel then true else (List.getD (advAnswer (advStart (own21 p) 0).fst p1.PDU p1.Channel p1.Local).snd.fst (Int.toNat 0) Send.zero).Time != IntKind.wrap IntKind.i64 (p1.Local + 150) then true else (List.getD (advAnswer (advStart (own21 p) 0).fst p1.PDU p1.Channel p1.Local).snd.fst (Int.toNat 0) Send.zero).PDU.Kind != 4 then true else !((List.getD (advAnswer (advStart (own21 p) 0).fst p1.PDU p1.Channel p1.Local).snd.fst (Int.toNat 0) Send.zero).PDU.Sender.Kind == p.Own.Kind && (List.getD (advAnswer (advStart (own21 p) 0).fst p1.PDU p1.Channel p1.Local).snd.fst (Int.toNat 0) Send.zero).PDU.Sender.Bits == p.Own.Bits))) ∧ (Ob (o3 (!bif bif bif bif bif p1.PDU.Kind != 3 then true else !r19Scan p.Kind then true else (List.getD (advAnswer (advStart (own21 p) 0).fst p1.PDU p1.Channel p1.Local).snd.fst (Int.toNat 0) Send.zero).Channel != p1.Channel then true else (List.getD (advAnswer (advStart (own21 p) 0).fst p1.PDU p1.Channel p1.Local).snd.fst (Int.toNat 0) Send.zero).Time != IntKind.wrap IntKind.i64 (p1.Local + 150) then true else (List.getD (advAnswer (advStart (own21 p) 0).fst p1.PDU p1.Channel p1.Local).snd.fst (Int.toNat 0) Send.zero).PDU.Kind != 4 then true else !((List.getD (advAnswer (advStart (own21 p) 0).fst p1.PDU p1.Channel p1.Local).snd.fst (Int.toNat 0) Send.zero).PDU.Sender.Kind == p.Own.Kind && (List.getD (advAnswer (advStart (own21 p) 0).fst p1.PDU p1.Channel p1.Local).snd.fst (Int.toNat 0) Send.zero).PDU.Sender.Bits == p.Own.Bits))) ∧ (Ob (o3 (!bif bif bif bif bif p1.PDU.Kind != 3 then true else !r19Scan p.Kind then true else (List.getD (advAnswer (advStart (own21 p) 0).fst p1.PDU p1.Channel p1.Local).snd.fst (Int.toNat 0) Send.zero).Channel != p1.Channel then true else (List.getD (advAnswer (advStart (own21 p) 0).fst p1.PDU p1.Channel p1.Local).snd.fst (Int.toNat 0) Send.zero).Time != IntKind.wrap IntKind.i64 (p1.Local + 150) then true else (List.getD (advAnswer (advStart (own21 p) 0).fst p1.PDU p1.Channel p1.Local).snd.fst (Int.toNat 0) Send.zero).PDU.Kind != 4 then true else !((List.getD (advAnswer (advStart (own21 p) 0).fst p1.PDU p1.Channel p1.Local).snd.fst (Int.toNat 0) Send.zero).PDU.Sender.Kind == p.Own.Kind && (List.getD (advAnswer (advStart (own21 p) 0).fst p1.PDU p1.Channel p1.Local).snd.fst (Int.toNat 0) Send.zero).PDU.Sender.Bits == p.Own.Bits))) ∧ (Ob (o3 (!bif bif bif bif bif p1.PDU.Kind != 3 then true else !r19Scan p.Kind then true else (List.getD (advAnswer (advStart (own21 p) 0).fst p1.PDU p1.Channel p1.Local).snd.fst (Int.toNat 0) Send.zero).Channel != p1.Channel then true else (List.getD (advAnswer (advStart (own21 p) 0).fst p1.PDU p1.Channel p1.Local).snd.fst (Int.toNat 0) Send.zero).Time != IntKind.wrap IntKind.i64 (p1.Local + 150) then true else (List.getD (advAnswer (advStart (own21 p) 0).fst p1.PDU p1.Channel p1.Local).snd.fst (Int.toNat 0) Send.zero).PDU.Kind != 4 then true else !((List.getD (advAnswer (advStart (own21 p) 0).fst p1.PDU p1.Channel p1.Local).snd.fst (Int.toNat 0) Send.zero).PDU.Sender.Kind == p.Own.Kind && (List.getD (advAnswer (advStart (own21 p) 0).fst p1.PDU p1.Channel p1.Local).snd.fst (Int.toNat 0) Send.zero).PDU.Sender.Bits == p.Own.Bits))) ∧ (Ob (o3 (!bif bif bif bif bif p1.PDU.Kind != 3 then true else !r19Scan p.Kind then true else (List.getD (advAnswer (advStart (own21 p) 0).fst p1.PDU p1.Channel p1.Local).snd.fst (Int.toNat 0) Send.zero).Channel != p1.Channel then true else (List.getD (advAnswer (advStart (own21 p) 0).fst p1.PDU p1.Channel p1.Local).snd.fst (Int.toNat 0) Send.zero).Time != IntKind.wrap IntKind.i64 (p1.Local + 150) then true else (List.getD (advAnswer (advStart (own21 p) 0).fst p1.PDU p1.Channel p1.Local).snd.fst (Int.toNat 0) Send.zero).PDU.Kind != 4 then true else !((List.getD (advAnswer (advStart (own21 p) 0).fst p1.PDU p1.Channel p1.Local).snd.fst (Int.toNat 0) Send.zero).PDU.Sender.Kind == p.Own.Kind && (List.getD (advAnswer (advStart (own21 p) 0).fst p1.PDU p1.Channel p1.Local).snd.fst (Int.toNat 0) Send.zero).PDU.Sender.Bits == p.Own.Bits))) ∧ (Ob (on (bif bif bif bif bif p1.PDU.Kind != 3 then true else !r19Scan p.Kind then true else (List.getD (advAnswer (advStart (own21 p) 0).fst p1.PDU p1.Channel p1.Local).snd.fst (Int.toNat 0) Send.zero).Channel != p1.Channel then true else (List.getD (advAnswer (advStart (own21 p) 0).fst p1.PDU p1.Channel p1.Local).snd.fst (Int.toNat 0) Send.zero).Time != IntKind.wrap IntKind.i64 (p1.Local + 150) then true else (List.getD (advAnswer (advStart (own21 p) 0).fst p1.PDU p1.Channel p1.Local).snd.fst (Int.toNat 0) Send.zero).PDU.Kind != 4 then true else !((List.getD (advAnswer (advStart (own21 p) 0).fst p1.PDU p1.Channel p1.Local).snd.fst (Int.toNat 0) Send.zero).PDU.Sender.Kind == p.Own.Kind && (List.getD (advAnswer (advStart (own21 p) 0).fst p1.PDU p1.Channel p1.Local).snd.fst (Int.toNat 0) Send.zero).PDU.Sender.Bits == p.Own.Bits))) ∧ (cond (bif bif bif bif bif bif p1.PDU.Kind != 3 then true else !r19Scan p.Kind then true else (List.getD (advAnswer (advStart (own21 p) 0).fst p1.PDU p1.Channel p1.Local).snd.fst (Int.toNat 0) Send.zero).Channel != p1.Channel then true else (List.getD (advAnswer (advStart (own21 p) 0).fst p1.PDU p1.Channel p1.Local).snd.fst (Int.toNat 0) Send.zero).Time != IntKind.wrap IntKind.i64 (p1.Local + 150) then true else (List.getD (advAnswer (advStart (own21 p) 0).fst p1.PDU p1.Channel p1.Local).snd.fst (Int.toNat 0) Send.zero).PDU.Kind != 4 then true else !((List.getD (advAnswer (advStart (own21 p) 0).fst p1.PDU p1.Channel p1.Local).snd.fst (Int.toNat 0) Send.zero).PDU.Sender.Kind == p.Own.Kind && (List.getD (advAnswer (advStart (own21 p) 0).fst p1.PDU p1.Channel p1.Local).snd.fst (Int.toNat 0) Send.zero).PDU.Sender.Bits == p.Own.Bits) then true else !r2Same (List.getD (advAnswer (advStart (own21 p) 0).fst p1.PDU p1.Channel p1.Local).snd.fst (Int.toNat 0) Send.zero).PDU.Data p.Scan) (advertiserAnswers.L (false) v) (Ob (o3 (!(!(advertiserAnswers_nf_g12 p p1)))) ∧ (Ob (o3 (!(!(advertiserAnswers_nf_g12 p p1)))) ∧ (Ob (on (!(advertiserAnswers_nf_g12 p p1))) ∧ (Ob (o3 (!(advertiserAnswers_nf_g13 p p1))) ∧ (Ob (o3 (!(advertiserAnswers_nf_g13 p p1))) ∧ (Ob (on (advertiserAnswers_nf_g13 p p1)) ∧ (Ob (on (advertiserAnswers_nf_g14 p p1)) ∧ (Ob (o3 (!(advertiserAnswers_nf_g15 p p1))) ∧ (Ob (o3 (!(advertiserAnswers_nf_g15 p p1))) ∧ (Ob (on (advertiserAnswers_nf_g15 p p1)) ∧ (advertiserAnswers.L (bif bif bif bif !bif bif r21Meant (advStart (own21 p) 0).fst p1.PDU then decide (37 ≤ p1.Channel) else false then decide (p1.Channel ≤ 39) else false then true else p.Kind != 0 then true else p.Policy != 0 then true else (advAnswer (advStart (own21 p) 0).fst p1.PDU p1.Channel p1.Local).snd.snd then true else (↑(List.length (advAnswer (advStart (own21 p) 0).fst p1.PDU p1.Channel p1.Local).snd.fst) : Int) == 1) v)))))))))))))))))))))))))))))))))))))))))))))))) (Ob (o3 (!(!(advertiserAnswers_nf_g12 p p1)))) ∧ (Ob (o3 (!(!(advertiserAnswers_nf_g12 p p1)))) ∧ (Ob (on (!(advertiserAnswers_nf_g12 p p1))) ∧ (Ob (o3 (!(advertiserAnswers_nf_g13 p p1))) ∧ (Ob (o3 (!(advertiserAnswers_nf_g13 p p1))) ∧ (Ob (on (advertiserAnswers_nf_g13 p p1)) ∧ (Ob (on (advertiserAnswers_nf_g14 p p1)) ∧ (Ob (o3 (!(advertiserAnswers_nf_g15 p p1))) ∧ (Ob (o3 (!(advertiserAnswers_nf_g15 p p1))) ∧ (Ob (on (advertiserAnswers_nf_g15 p p1)) ∧ (advertiserAnswers.L (bif bif bif bif !bif bif r21Meant (advStart (own21 p) 0).fst p1.PDU then decide (37 ≤ p1.Channel) else false then decide (p1.Channel ≤ 39) else false then true else p.Kind != 0 then true else p.Policy != 0 then true else (advAnswer (advStart (own21 p) 0).fst p1.PDU p1.Channel p1.Local).snd.snd then true else (↑(List.length (advAnswer (advStart (own21 p) 0).fst p1.PDU p1.Channel p1.Local).snd.fst) : Int) == 1) v)))))))))))))))))))))))))))))))))))))))))))))))))))))))))))
theorem advertiserAnswers.nf_ok (p : AdvParams) (p1 : Law21Heard) (v : Bool) : evFun (mkCxI Tryd.prog S tab_advertiserStarts 0 true sum_fIdx) 4 7 [AdvParams.av p, Law21Heard.av p1] [] (fun r' H' => Gives r' H' (advertiserAnswers.res v) (advertiserAnswers.news v)) = advertiserAnswers.nf p p1 v := by kernel_rfl
theorem advertiserAnswers.key (p : AdvParams) (p1 : Law21Heard) (hp : p.Data.length ≤ 140737488355328 ∧ p.Scan.length ≤ 140737488355328) (v : Bool) (hv : v = advertiserAnswers p p1) : advertiserAnswers.nf p p1 v := by
  unfold advertiserAnswers at hv
  unfold advertiserAnswers.nf
  refine ⟨⟨o3_ok _⟩, ?_⟩
  refine ⟨⟨o3_ok _⟩, ?_⟩
  refine ⟨⟨on_ok _⟩, ?_⟩
  refine ⟨⟨o3_ok _⟩, ?_⟩
  refine ⟨⟨o3_ok _⟩, ?_⟩
  refine ⟨⟨on_ok _⟩, ?_⟩
  revert hv; refine by_cond2 (fun hb hv => ?_) (fun hb hv => ?_)
  subst hv; exact ⟨rfl, rfl⟩
  refine ⟨⟨?_⟩, ?_⟩; rotate_left
  refine ⟨⟨?_⟩, ?_⟩; rotate_left
  revert hv; refine by_cond2 (fun hb hv => ?_) (fun hb hv => ?_)
  subst hv; exact ⟨rfl, rfl⟩
  refine ⟨⟨?_⟩, ?_⟩; rotate_left
  refine ⟨⟨o3_ok _⟩, ?_⟩
  refine ⟨⟨o3_ok _⟩, ?_⟩
  refine ⟨⟨o2_ok _⟩, ?_⟩
  refine ⟨⟨o3_ok _⟩, ?_⟩
  refine ⟨⟨o3_ok _⟩, ?_⟩
  refine ⟨⟨o2_ok _⟩, ?_⟩
  refine ⟨⟨o3_ok _⟩, ?_⟩
  refine ⟨⟨o3_ok _⟩, ?_⟩
  refine ⟨⟨on_ok _⟩, ?_⟩
  refine ⟨⟨o3_ok _⟩, ?_⟩
  refine ⟨⟨o3_ok _⟩, ?_⟩
  refine ⟨⟨o3_ok _⟩, ?_⟩
  refine ⟨⟨o2_ok _⟩, ?_⟩
  refine ⟨⟨?_⟩, ?_⟩; rotate_left
  refine ⟨⟨o3_ok _⟩, ?_⟩
  refine ⟨⟨o3_ok _⟩, ?_⟩
  refine ⟨⟨o2_ok _⟩, ?_⟩
  refine ⟨⟨?_⟩, ?_⟩; rotate_left
  refine ⟨⟨on_ok _⟩, ?_⟩
  revert hv; refine by_cond2 (fun hb hv => ?_) (fun hb hv => ?_)
  subst hv; exact ⟨rfl, rfl⟩
  refine ⟨⟨o3_ok _⟩, ?_⟩
  refine ⟨⟨o3_ok _⟩, ?_⟩
  refine ⟨⟨o3_ok _⟩, ?_⟩
  refine ⟨⟨o3_ok _⟩, ?_⟩
  refine ⟨⟨o3_ok _⟩, ?_⟩
  refine ⟨⟨o3_ok _⟩, ?_⟩
  refine ⟨⟨o3_ok _⟩, ?_⟩
  refine ⟨⟨o2_ok _⟩, ?_⟩
  refine ⟨⟨?_⟩, ?_⟩; rotate_left
  refine ⟨⟨o3_ok _⟩, ?_⟩
  refine ⟨⟨o3_ok _⟩, ?_⟩
  refine ⟨⟨o3_ok _⟩, ?_⟩
  refine ⟨⟨o2_ok _⟩, ?_⟩
  refine ⟨⟨?_⟩, ?_⟩; rotate_left
  refine ⟨⟨o2_ok _⟩, ?_⟩
  revert hv; refine by_cond2 (fun hb hv => ?_) (fun hb hv => ?_)
  subst hv; exact ⟨rfl, rfl⟩
  intro hlen
  revert hv; refine by_cond2 (fun hb hv => ?_) (fun hb hv => ?_)
  refine ⟨⟨?_⟩, ?_⟩; rotate_left
  refine ⟨⟨o3_ok _⟩, ?_⟩
  refine ⟨⟨o3_ok _⟩, ?_⟩
  refine ⟨⟨o3_ok _⟩, ?_⟩
  refine ⟨⟨on_ok _⟩, ?_⟩
  refine ⟨⟨o3_ok _⟩, ?_⟩
  refine ⟨⟨?_⟩, ?_⟩; rotate_left
  refine ⟨⟨o3_ok _⟩, ?_⟩
  refine ⟨⟨o3_ok _⟩, ?_⟩
  refine ⟨⟨o3_ok _⟩, ?_⟩
  refine ⟨⟨o3_ok _⟩, ?_⟩
  refine ⟨⟨o3_ok _⟩, ?_⟩
  refine ⟨⟨on_ok _⟩, ?_⟩
  refine ⟨⟨o3_ok _⟩, ?_⟩
  refine ⟨⟨?_⟩, ?_⟩; rotate_left
  refine ⟨⟨o3_ok _⟩, ?_⟩
  refine ⟨⟨o3_ok _⟩, ?_⟩
  refine ⟨⟨o3_ok _⟩, ?_⟩
  refine ⟨⟨o3_ok _⟩, ?_⟩
  refine ⟨⟨o3_ok _⟩, ?_⟩
  refine ⟨⟨o3_ok _⟩, ?_⟩
  refine ⟨⟨on_ok _⟩, ?_⟩
  refine ⟨⟨o3_ok _⟩, ?_⟩
  refine ⟨⟨o3_ok _⟩, ?_⟩
  refine ⟨⟨on_ok _⟩, ?_⟩
  refine ⟨⟨o3_ok _⟩, ?_⟩
  refine ⟨⟨o3_ok _⟩, ?_⟩
  refine ⟨⟨o3_ok _⟩, ?_⟩
  refine ⟨⟨o3_ok _⟩, ?_⟩
  refine ⟨⟨on_ok _⟩, ?_⟩
  refine ⟨⟨o3_ok _⟩, ?_⟩
  refine ⟨⟨o3_ok _⟩, ?_⟩
  refine ⟨⟨o3_ok _⟩, ?_⟩
  refine ⟨⟨o3_ok _⟩, ?_⟩
  refine ⟨⟨o3_ok _⟩, ?_⟩
  refine ⟨⟨on_ok _⟩, ?_⟩
  revert hv; refine by_cond2 (fun hb hv => ?_) (fun hb hv => ?_)
  subst hv; exact ⟨rfl, rfl⟩
  refine ⟨⟨o3_ok _⟩, ?_⟩
  refine ⟨⟨o3_ok _⟩, ?_⟩
  refine ⟨⟨on_ok _⟩, ?_⟩
  refine ⟨⟨o3_ok _⟩, ?_⟩
  refine ⟨⟨o3_ok _⟩, ?_⟩
  refine ⟨⟨on_ok _⟩, ?_⟩
  refine ⟨⟨on_ok _⟩, ?_⟩
  refine ⟨⟨o3_ok _⟩, ?_⟩
  refine ⟨⟨o3_ok _⟩, ?_⟩
  refine ⟨⟨on_ok _⟩, ?_⟩
  subst hv; exact ⟨rfl, rfl⟩
  refine ⟨⟨o3_ok _⟩, ?_⟩
  refine ⟨⟨o3_ok _⟩, ?_⟩
  refine ⟨⟨on_ok _⟩, ?_⟩
  refine ⟨⟨o3_ok _⟩, ?_⟩
  refine ⟨⟨o3_ok _⟩, ?_⟩
  refine ⟨⟨on_ok _⟩, ?_⟩
  refine ⟨⟨on_ok _⟩, ?_⟩
  refine ⟨⟨o3_ok _⟩, ?_⟩
  refine ⟨⟨o3_ok _⟩, ?_⟩
  refine ⟨⟨on_ok _⟩, ?_⟩
  subst hv; exact ⟨rfl, rfl⟩
  all_goals ((try clear hv); (try clear q1 q2); (try clear hk); (first | omega | (simp only [own21_eq]; simp_all [small21]; omega) | (refine advStart_len _ _ ?_; simp only [own21_eq]; simp_all [small21]; omega) | (simp_all [small21]; omega) | ((try simp only [decide_eq_true_eq, decide_eq_false_iff_not, Bool.not_eq_true, Bool.not_eq_false, Bool.and_eq_true, Bool.or_eq_true, Bool.not_not, cond_and, cond_or, List.length_append, List.length_cons, List.length_nil] at *); (first | done | ((first | omega | (intros; (try simp only [Bool.not_not, cond_and, cond_or, Bool.and_eq_true, decide_eq_true_eq] at *); (exact band_nn rfl _ _)) | (intros; (try simp only [Bool.not_not, cond_and, cond_or, Bool.and_eq_true, decide_eq_true_eq] at *); (exact (wu64s _).2.1)) | (intros; (try simp only [Bool.not_not, cond_and, cond_or, Bool.and_eq_true, decide_eq_true_eq] at *); (simp only [Bool.or_eq_false_iff, Bool.and_eq_false_iff, decide_eq_false_iff_not, decide_eq_true_eq, bne_iff_ne, beq_iff_eq, bne_eq_false_iff_eq, beq_eq_false_iff_ne, ne_eq, true_and] at *; omega)) | (intros; (try simp only [Bool.not_not, cond_and, cond_or, Bool.and_eq_true, decide_eq_true_eq] at *); (simp only [List.length_drop, List.length_take, List.length_append, List.length_cons, List.length_nil] at *; omega)) | (intros; omega) | (intros; simp only [Bool.not_not, cond_and, cond_or, Bool.and_eq_true, decide_eq_true_eq] at *; omega) | (intros; simp_all [Bool.not_not]; done)))))))
def advertiserAnswers.ct : Ct El := ctOf advertiserAnswers.dec (fun x => [x.1.Data.length ≤ 140737488355328 ∧ x.1.Scan.length ≤ 140737488355328]) (fun x => advertiserAnswers.res (advertiserAnswers x.1 x.2)) (fun x => advertiserAnswers.news (advertiserAnswers x.1 x.2))
theorem advertiserAnswers.ok : CtOk (mkCx Tryd.prog S [] 0) 7 advertiserAnswers.ct := ct_mk (C := (mkCxI Tryd.prog S tab_advertiserStarts 0 true sum_fIdx)) (mkCxI_ok sigOk mixed tab_advertiserStarts_ok 0 true sum_fIdx_ok) advertiserAnswers.dec_ok (fun x => rfl) 4 (fun x hp => (advertiserAnswers.nf_ok x.1 x.2 _).mpr (advertiserAnswers.key x.1 x.2 (hp _ (List.mem_singleton.2 rfl)) _ rfl))
def tab_advertiserAnswers : List (FuncId × Ct El) := (7, advertiserAnswers.ct) :: tab_advertiserStarts
theorem tab_advertiserAnswers_ok : TabOk Tryd.prog S tab_advertiserAnswers := ⟨advertiserAnswers.ok, by kernel_rfl, tab_advertiserStarts_ok⟩
end Go.Aw.W
