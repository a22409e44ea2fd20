/- Contracts of the seat (printed by ct.py). -/
import Derived.Test.YtlnbhdcaebmffaaGreatXW3
set_option linter.unusedVariables false
set_option linter.unusedSimpArgs false
set_option maxRecDepth 20000
set_option maxHeartbeats 1000000
namespace Go.Aw.W
open Go Go.Aw Go.Proofs
attribute [local irreducible] evCode evFun evOps evDs evOne ctxK loopK loopB subC bodyC headS okH roundK
def cCheck.res (r:Int): AV El:=.v (.int .i64 (r))
def cCheck.news (r:Int): List (AObj El):= []
def cCheck.L (e v:Int): Prop:=cCheck.res e=cCheck.res v∧cCheck.news e=cCheck.news v
def cCheck (c:Control): Int:=cond (c.Kind==5) (cond (!(c.Kind==c.Kind && (0==c.Update.WinSize && (0==c.Update.WinOffset && (0==c.Update.Interval && (0==c.Update.Latency && (0==c.Update.Timeout && (0==c.Map && (0==c.Instant && (0==c.Reason && (0==c.Rejected && (0==c.Salt && (0==c.Mark && (0==c.Features && (0==c.Version && 0==c.Length))))))))))))))) (1) (cFine c)) (cond (c.Kind==6) (cond (!(c.Kind==c.Kind && (0==c.Update.WinSize && (0==c.Update.WinOffset && (0==c.Update.Interval && (0==c.Update.Latency && (0==c.Update.Timeout && (0==c.Map && (0==c.Instant && (0==c.Reason && (0==c.Rejected && (0==c.Salt && (0==c.Mark && (0==c.Features && (0==c.Version && 0==c.Length))))))))))))))) (1) (cFine c)) (cond (c.Kind==18) (cond (!(c.Kind==c.Kind && (0==c.Update.WinSize && (0==c.Update.WinOffset && (0==c.Update.Interval && (0==c.Update.Latency && (0==c.Update.Timeout && (0==c.Map && (0==c.Instant && (0==c.Reason && (0==c.Rejected && (0==c.Salt && (0==c.Mark && (0==c.Features && (0==c.Version && 0==c.Length))))))))))))))) (1) (cFine c)) (cond (c.Kind==19) (cond (!(c.Kind==c.Kind && (0==c.Update.WinSize && (0==c.Update.WinOffset && (0==c.Update.Interval && (0==c.Update.Latency && (0==c.Update.Timeout && (0==c.Map && (0==c.Instant && (0==c.Reason && (0==c.Rejected && (0==c.Salt && (0==c.Mark && (0==c.Features && (0==c.Version && 0==c.Length))))))))))))))) (1) (cFine c)) (cond (c.Kind==8) (cond (!(c.Kind==c.Kind && (0==c.Update.WinSize && (0==c.Update.WinOffset && (0==c.Update.Interval && (0==c.Update.Latency && (0==c.Update.Timeout && (0==c.Map && (0==c.Instant && (0==c.Reason && (0==c.Rejected && (0==c.Salt && (0==c.Mark && (List.getD (gFeat c) (Int.toNat 0) 0==c.Features && (0==c.Version && 0==c.Length))))))))))))))) (1) (cFine c)) (cond (c.Kind==9) (cond (!(c.Kind==c.Kind && (0==c.Update.WinSize && (0==c.Update.WinOffset && (0==c.Update.Interval && (0==c.Update.Latency && (0==c.Update.Timeout && (0==c.Map && (0==c.Instant && (0==c.Reason && (0==c.Rejected && (0==c.Salt && (0==c.Mark && (List.getD (gFeat c) (Int.toNat 0) 0==c.Features && (0==c.Version && 0==c.Length))))))))))))))) (1) (cFine c)) (cond (c.Kind==20) (cond (!(c.Kind==c.Kind && (0==c.Update.WinSize && (0==c.Update.WinOffset && (0==c.Update.Interval && (0==c.Update.Latency && (0==c.Update.Timeout && (0==c.Map && (0==c.Instant && (0==c.Reason && (0==c.Rejected && (0==c.Salt && (0==c.Mark && (0==c.Features && (0==c.Version && IntKind.wrap IntKind.i64 (List.getD (gLen c) (Int.toNat 0) 0)== c.Length))))))))))))))) (1) (cIn c.Length 27 251)) (cond (c.Kind==21) (cond (!(c.Kind==c.Kind && (0==c.Update.WinSize && (0==c.Update.WinOffset && (0==c.Update.Interval && (0==c.Update.Latency && (0==c.Update.Timeout && (0==c.Map && (0==c.Instant && (0==c.Reason && (0==c.Rejected && (0==c.Salt && (0==c.Mark && (0==c.Features && (0==c.Version && IntKind.wrap IntKind.i64 (List.getD (gLen c) (Int.toNat 0) 0)== c.Length))))))))))))))) (1) (cIn c.Length 27 251)) (cond (c.Kind==0) (cond (!(c.Kind==c.Kind && ((cUpdated (gUpdate c)).WinSize==c.Update.WinSize && ((cUpdated (gUpdate c)).WinOffset==c.Update.WinOffset && ((cUpdated (gUpdate c)).Interval==c.Update.Interval && ((cUpdated (gUpdate c)).Latency==c.Update.Latency && ((cUpdated (gUpdate c)).Timeout==c.Update.Timeout && (0==c.Map && (IntKind.wrap IntKind.u16 (List.getD (gUpdate c) (Int.toNat 5) 0)== c.Instant && (0==c.Reason && (0==c.Rejected && (0==c.Salt && (0==c.Mark && (0==c.Features && (0==c.Version && 0==c.Length))))))))))))))) (1) (cCheckUpdate c.Update)) (cond (c.Kind==1) (cond (!(c.Kind==c.Kind && (0==c.Update.WinSize && (0==c.Update.WinOffset && (0==c.Update.Interval && (0==c.Update.Latency && (0==c.Update.Timeout && (List.getD (gMap c) (Int.toNat 0) 0==c.Map && (IntKind.wrap IntKind.u16 (List.getD (gMap c) (Int.toNat 1) 0)== c.Instant && (0==c.Reason && (0==c.Rejected && (0==c.Salt && (0==c.Mark && (0==c.Features && (0==c.Version && 0==c.Length))))))))))))))) (1) (kCheck c.Map)) (cond (c.Kind==15) (cond (!(c.Kind==c.Kind && ((cUpdated (gParams c)).WinSize==c.Update.WinSize && ((cUpdated (gParams c)).WinOffset==c.Update.WinOffset && ((cUpdated (gParams c)).Interval==c.Update.Interval && ((cUpdated (gParams c)).Latency==c.Update.Latency && ((cUpdated (gParams c)).Timeout==c.Update.Timeout && (0==c.Map && (0==c.Instant && (0==c.Reason && (0==c.Rejected && (0==c.Salt && (0==c.Mark && (0==c.Features && (0==c.Version && 0==c.Length))))))))))))))) (1) (cCheckUpdate c.Update)) (cond (c.Kind==2) (cond (!(c.Kind==c.Kind && (0==c.Update.WinSize && (0==c.Update.WinOffset && (0==c.Update.Interval && (0==c.Update.Latency && (0==c.Update.Timeout && (0==c.Map && (0==c.Instant && (IntKind.wrap IntKind.i64 (List.getD (gTerm c) (Int.toNat 0) 0)== c.Reason && (0==c.Rejected && (0==c.Salt && (0==c.Mark && (0==c.Features && (0==c.Version && 0==c.Length))))))))))))))) (1) (cIn c.Reason 0 255)) (cond (c.Kind==3) (cond (!(c.Kind==c.Kind && (0==c.Update.WinSize && (0==c.Update.WinOffset && (0==c.Update.Interval && (0==c.Update.Latency && (0==c.Update.Timeout && (0==c.Map && (0==c.Instant && (0==c.Reason && (0==c.Rejected && (List.getD (gEncrypt c) (Int.toNat 0) 0==c.Salt && (List.getD (gEncrypt c) (Int.toNat 1) 0==c.Mark && (0==c.Features && (0==c.Version && 0==c.Length))))))))))))))) (1) (cFine c)) (cond (c.Kind==4) (cond (!(c.Kind==c.Kind && (0==c.Update.WinSize && (0==c.Update.WinOffset && (0==c.Update.Interval && (0==c.Update.Latency && (0==c.Update.Timeout && (0==c.Map && (0==c.Instant && (0==c.Reason && (0==c.Rejected && (List.getD (gEncAns c) (Int.toNat 0) 0==c.Salt && (0==c.Mark && (0==c.Features && (0==c.Version && 0==c.Length))))))))))))))) (1) (cFine c)) (cond (c.Kind==7) (cond (!(c.Kind==c.Kind && (0==c.Update.WinSize && (0==c.Update.WinOffset && (0==c.Update.Interval && (0==c.Update.Latency && (0==c.Update.Timeout && (0==c.Map && (0==c.Instant && (0==c.Reason && (IntKind.wrap IntKind.i64 (List.getD (gUnknown c) (Int.toNat 0) 0)== c.Rejected && (0==c.Salt && (0==c.Mark && (0==c.Features && (0==c.Version && 0==c.Length))))))))))))))) (1) (cIn c.Rejected 0 255)) (cond (c.Kind==12) (cond (!(c.Kind==c.Kind && (0==c.Update.WinSize && (0==c.Update.WinOffset && (0==c.Update.Interval && (0==c.Update.Latency && (0==c.Update.Timeout && (0==c.Map && (0==c.Instant && (0==c.Reason && (0==c.Rejected && (0==c.Salt && (0==c.Mark && (0==c.Features && (IntKind.wrap IntKind.i64 (List.getD (gVersion c) (Int.toNat 0) 0)== c.Version && 0==c.Length))))))))))))))) (1) (cIn c.Version 0 255)) (cond (c.Kind==13) (cond (!(c.Kind==c.Kind && (0==c.Update.WinSize && (0==c.Update.WinOffset && (0==c.Update.Interval && (0==c.Update.Latency && (0==c.Update.Timeout && (0==c.Map && (0==c.Instant && (IntKind.wrap IntKind.i64 (List.getD (gReject c) (Int.toNat 0) 0)== c.Reason && (IntKind.wrap IntKind.i64 (List.getD (gReject c) (Int.toNat 1) 0)== c.Rejected && (0==c.Salt && (0==c.Mark && (0==c.Features && (0==c.Version && 0==c.Length))))))))))))))) (1) (maxI (cIn c.Reason 0 255) (cIn c.Rejected 0 255))) (12)))))))))))))))))
def cCheck.dec (cs:List (AV El)): Option (Control):= popA Control.dec cs fun a0 c0=>popE c0 a0
def cCheck.enc (x:Control): List (AV El):= [Control.av x]
theorem cCheck.dec_ok : ∀cs x,cCheck.dec cs=some x→Imp (S:=S) cs (cCheck.enc x):= by
 intro cs x h
 unfold cCheck.dec at h
 obtain ⟨a0,c0,h0,k0⟩:= popA_some (S:=S) Control.dec_ok h
 obtain ⟨rfl,rfl⟩:= popE_some (S:=S) h0
 exact (k0 _ (.refl _))
def cCheck.nf (c:Control) (v:Int): Prop:=cond (c.Kind==5) (cond (!(c.Kind==c.Kind && (0==c.Update.WinSize && (0==c.Update.WinOffset && (0==c.Update.Interval && (0==c.Update.Latency && (0==c.Update.Timeout && (0==c.Map && (0==c.Instant && (0==c.Reason && (0==c.Rejected && (0==c.Salt && (0==c.Mark && (0==c.Features && (0==c.Version && 0==c.Length))))))))))))))) (cCheck.L (1) v) (cCheck.L (cFine c) v)) (cond (c.Kind==6) (cond (!(c.Kind==c.Kind && (0==c.Update.WinSize && (0==c.Update.WinOffset && (0==c.Update.Interval && (0==c.Update.Latency && (0==c.Update.Timeout && (0==c.Map && (0==c.Instant && (0==c.Reason && (0==c.Rejected && (0==c.Salt && (0==c.Mark && (0==c.Features && (0==c.Version && 0==c.Length))))))))))))))) (cCheck.L (1) v) (cCheck.L (cFine c) v)) (cond (c.Kind==18) (cond (!(c.Kind==c.Kind && (0==c.Update.WinSize && (0==c.Update.WinOffset && (0==c.Update.Interval && (0==c.Update.Latency && (0==c.Update.Timeout && (0==c.Map && (0==c.Instant && (0==c.Reason && (0==c.Rejected && (0==c.Salt && (0==c.Mark && (0==c.Features && (0==c.Version && 0==c.Length))))))))))))))) (cCheck.L (1) v) (cCheck.L (cFine c) v)) (cond (c.Kind==19) (cond (!(c.Kind==c.Kind && (0==c.Update.WinSize && (0==c.Update.WinOffset && (0==c.Update.Interval && (0==c.Update.Latency && (0==c.Update.Timeout && (0==c.Map && (0==c.Instant && (0==c.Reason && (0==c.Rejected && (0==c.Salt && (0==c.Mark && (0==c.Features && (0==c.Version && 0==c.Length))))))))))))))) (cCheck.L (1) v) (cCheck.L (cFine c) v)) (cond (c.Kind==8) (Ob ((0:Int)≤(0:Int)∧0 < (↑(List.length (gFeat c)): Int))∧(cond (!(c.Kind==c.Kind && (0==c.Update.WinSize && (0==c.Update.WinOffset && (0==c.Update.Interval && (0==c.Update.Latency && (0==c.Update.Timeout && (0==c.Map && (0==c.Instant && (0==c.Reason && (0==c.Rejected && (0==c.Salt && (0==c.Mark && (List.getD (gFeat c) (Int.toNat 0) 0==c.Features && (0==c.Version && 0==c.Length))))))))))))))) (cCheck.L (1) v) (cCheck.L (cFine c) v))) (cond (c.Kind==9) (Ob ((0:Int)≤(0:Int)∧0 < (↑(List.length (gFeat c)): Int))∧(cond (!(c.Kind==c.Kind && (0==c.Update.WinSize && (0==c.Update.WinOffset && (0==c.Update.Interval && (0==c.Update.Latency && (0==c.Update.Timeout && (0==c.Map && (0==c.Instant && (0==c.Reason && (0==c.Rejected && (0==c.Salt && (0==c.Mark && (List.getD (gFeat c) (Int.toNat 0) 0==c.Features && (0==c.Version && 0==c.Length))))))))))))))) (cCheck.L (1) v) (cCheck.L (cFine c) v))) (cond (c.Kind==20) (Ob ((0:Int)≤(0:Int)∧0 < (↑(List.length (gLen c)): Int))∧(cond (!(c.Kind==c.Kind && (0==c.Update.WinSize && (0==c.Update.WinOffset && (0==c.Update.Interval && (0==c.Update.Latency && (0==c.Update.Timeout && (0==c.Map && (0==c.Instant && (0==c.Reason && (0==c.Rejected && (0==c.Salt && (0==c.Mark && (0==c.Features && (0==c.Version && IntKind.wrap IntKind.i64 (List.getD (gLen c) (Int.toNat 0) 0)== c.Length))))))))))))))) (cCheck.L (1) v) (cCheck.L (cIn c.Length 27 251) v))) (cond (c.Kind==21) (Ob ((0:Int)≤(0:Int)∧0 < (↑(List.length (gLen c)): Int))∧(cond (!(c.Kind==c.Kind && (0==c.Update.WinSize && (0==c.Update.WinOffset && (0==c.Update.Interval && (0==c.Update.Latency && (0==c.Update.Timeout && (0==c.Map && (0==c.Instant && (0==c.Reason && (0==c.Rejected && (0==c.Salt && (0==c.Mark && (0==c.Features && (0==c.Version && IntKind.wrap IntKind.i64 (List.getD (gLen c) (Int.toNat 0) 0)== c.Length))))))))))))))) (cCheck.L (1) v) (cCheck.L (cIn c.Length 27 251) v))) (cond (c.Kind==0) (Ob ((5:Nat)≤List.length (gUpdate c))∧(Ob ((0:Int)≤(5:Int)∧5 < (↑(List.length (gUpdate c)): Int))∧(cond (!(c.Kind==c.Kind && ((cUpdated (gUpdate c)).WinSize==c.Update.WinSize && ((cUpdated (gUpdate c)).WinOffset==c.Update.WinOffset && ((cUpdated (gUpdate c)).Interval==c.Update.Interval && ((cUpdated (gUpdate c)).Latency==c.Update.Latency && ((cUpdated (gUpdate c)).Timeout==c.Update.Timeout && (0==c.Map && (IntKind.wrap IntKind.u16 (List.getD (gUpdate c) (Int.toNat 5) 0)== c.Instant && (0==c.Reason && (0==c.Rejected && (0==c.Salt && (0==c.Mark && (0==c.Features && (0==c.Version && 0==c.Length))))))))))))))) (cCheck.L (1) v) (cCheck.L (cCheckUpdate c.Update) v)))) (cond (c.Kind==1) (Ob ((0:Int)≤(0:Int)∧0 < (↑(List.length (gMap c)): Int))∧(Ob ((0:Int)≤(1:Int)∧1 < (↑(List.length (gMap c)): Int))∧(cond (!(c.Kind==c.Kind && (0==c.Update.WinSize && (0==c.Update.WinOffset && (0==c.Update.Interval && (0==c.Update.Latency && (0==c.Update.Timeout && (List.getD (gMap c) (Int.toNat 0) 0==c.Map && (IntKind.wrap IntKind.u16 (List.getD (gMap c) (Int.toNat 1) 0)== c.Instant && (0==c.Reason && (0==c.Rejected && (0==c.Salt && (0==c.Mark && (0==c.Features && (0==c.Version && 0==c.Length))))))))))))))) (cCheck.L (1) v) (cCheck.L (kCheck c.Map) v)))) (cond (c.Kind==15) (Ob ((5:Nat)≤List.length (gParams c))∧(cond (!(c.Kind==c.Kind && ((cUpdated (gParams c)).WinSize==c.Update.WinSize && ((cUpdated (gParams c)).WinOffset==c.Update.WinOffset && ((cUpdated (gParams c)).Interval==c.Update.Interval && ((cUpdated (gParams c)).Latency==c.Update.Latency && ((cUpdated (gParams c)).Timeout==c.Update.Timeout && (0==c.Map && (0==c.Instant && (0==c.Reason && (0==c.Rejected && (0==c.Salt && (0==c.Mark && (0==c.Features && (0==c.Version && 0==c.Length))))))))))))))) (cCheck.L (1) v) (cCheck.L (cCheckUpdate c.Update) v))) (cond (c.Kind==2) (Ob ((0:Int)≤(0:Int)∧0 < (↑(List.length (gTerm c)): Int))∧(cond (!(c.Kind==c.Kind && (0==c.Update.WinSize && (0==c.Update.WinOffset && (0==c.Update.Interval && (0==c.Update.Latency && (0==c.Update.Timeout && (0==c.Map && (0==c.Instant && (IntKind.wrap IntKind.i64 (List.getD (gTerm c) (Int.toNat 0) 0)== c.Reason && (0==c.Rejected && (0==c.Salt && (0==c.Mark && (0==c.Features && (0==c.Version && 0==c.Length))))))))))))))) (cCheck.L (1) v) (cCheck.L (cIn c.Reason 0 255) v))) (cond (c.Kind==3) (Ob ((0:Int)≤(0:Int)∧0 < (↑(List.length (gEncrypt c)): Int))∧(Ob ((0:Int)≤(1:Int)∧1 < (↑(List.length (gEncrypt c)): Int))∧(cond (!(c.Kind==c.Kind && (0==c.Update.WinSize && (0==c.Update.WinOffset && (0==c.Update.Interval && (0==c.Update.Latency && (0==c.Update.Timeout && (0==c.Map && (0==c.Instant && (0==c.Reason && (0==c.Rejected && (List.getD (gEncrypt c) (Int.toNat 0) 0==c.Salt && (List.getD (gEncrypt c) (Int.toNat 1) 0==c.Mark && (0==c.Features && (0==c.Version && 0==c.Length))))))))))))))) (cCheck.L (1) v) (cCheck.L (cFine c) v)))) (cond (c.Kind==4) (Ob ((0:Int)≤(0:Int)∧0 < (↑(List.length (gEncAns c)): Int))∧(cond (!(c.Kind==c.Kind && (0==c.Update.WinSize && (0==c.Update.WinOffset && (0==c.Update.Interval && (0==c.Update.Latency && (0==c.Update.Timeout && (0==c.Map && (0==c.Instant && (0==c.Reason && (0==c.Rejected && (List.getD (gEncAns c) (Int.toNat 0) 0==c.Salt && (0==c.Mark && (0==c.Features && (0==c.Version && 0==c.Length))))))))))))))) (cCheck.L (1) v) (cCheck.L (cFine c) v))) (cond (c.Kind==7) (Ob ((0:Int)≤(0:Int)∧0 < (↑(List.length (gUnknown c)): Int))∧(cond (!(c.Kind==c.Kind && (0==c.Update.WinSize && (0==c.Update.WinOffset && (0==c.Update.Interval && (0==c.Update.Latency && (0==c.Update.Timeout && (0==c.Map && (0==c.Instant && (0==c.Reason && (IntKind.wrap IntKind.i64 (List.getD (gUnknown c) (Int.toNat 0) 0)== c.Rejected && (0==c.Salt && (0==c.Mark && (0==c.Features && (0==c.Version && 0==c.Length))))))))))))))) (cCheck.L (1) v) (cCheck.L (cIn c.Rejected 0 255) v))) (cond (c.Kind==12) (Ob ((0:Int)≤(0:Int)∧0 < (↑(List.length (gVersion c)): Int))∧(cond (!(c.Kind==c.Kind && (0==c.Update.WinSize && (0==c.Update.WinOffset && (0==c.Update.Interval && (0==c.Update.Latency && (0==c.Update.Timeout && (0==c.Map && (0==c.Instant && (0==c.Reason && (0==c.Rejected && (0==c.Salt && (0==c.Mark && (0==c.Features && (IntKind.wrap IntKind.i64 (List.getD (gVersion c) (Int.toNat 0) 0)== c.Version && 0==c.Length))))))))))))))) (cCheck.L (1) v) (cCheck.L (cIn c.Version 0 255) v))) (cond (c.Kind==13) (Ob ((0:Int)≤(0:Int)∧0 < (↑(List.length (gReject c)): Int))∧(Ob ((0:Int)≤(1:Int)∧1 < (↑(List.length (gReject c)): Int))∧(cond (!(c.Kind==c.Kind && (0==c.Update.WinSize && (0==c.Update.WinOffset && (0==c.Update.Interval && (0==c.Update.Latency && (0==c.Update.Timeout && (0==c.Map && (0==c.Instant && (IntKind.wrap IntKind.i64 (List.getD (gReject c) (Int.toNat 0) 0)== c.Reason && (IntKind.wrap IntKind.i64 (List.getD (gReject c) (Int.toNat 1) 0)== c.Rejected && (0==c.Salt && (0==c.Mark && (0==c.Features && (0==c.Version && 0==c.Length))))))))))))))) (cCheck.L (1) v) (cCheck.L (maxI (cIn c.Reason 0 255) (cIn c.Rejected 0 255)) v)))) (cCheck.L (12) v)))))))))))))))))
theorem cCheck.nf_ok (c:Control) (v:Int): evFun (mkCx Tryz.prog S tab_gLen 0) 4 32 [Control.av c] [] (fun r' H'=>Gives r' H' (cCheck.res v) (cCheck.news v))= cCheck.nf c v:=by kernel_rfl
theorem cCheck.key (c:Control) (v:Int) (hv:v=cCheck c): cCheck.nf c v:=by
 unfold cCheck at hv
 unfold cCheck.nf
 revert hv;refine by_cond2 (fun hb hv=>?_) (fun hb hv=>?_)
 revert hv;refine by_cond2 (fun hb hv=>?_) (fun hb hv=>?_)
 subst hv;exact ⟨rfl,rfl⟩
 subst hv;exact ⟨rfl,rfl⟩
 revert hv;refine by_cond2 (fun hb hv=>?_) (fun hb hv=>?_)
 revert hv;refine by_cond2 (fun hb hv=>?_) (fun hb hv=>?_)
 subst hv;exact ⟨rfl,rfl⟩
 subst hv;exact ⟨rfl,rfl⟩
 revert hv;refine by_cond2 (fun hb hv=>?_) (fun hb hv=>?_)
 revert hv;refine by_cond2 (fun hb hv=>?_) (fun hb hv=>?_)
 subst hv;exact ⟨rfl,rfl⟩
 subst hv;exact ⟨rfl,rfl⟩
 revert hv;refine by_cond2 (fun hb hv=>?_) (fun hb hv=>?_)
 revert hv;refine by_cond2 (fun hb hv=>?_) (fun hb hv=>?_)
 subst hv;exact ⟨rfl,rfl⟩
 subst hv;exact ⟨rfl,rfl⟩
 revert hv;refine by_cond2 (fun hb hv=>?_) (fun hb hv=>?_)
 refine ⟨⟨?_⟩, ?_⟩;rotate_left
 revert hv;refine by_cond2 (fun hb hv=>?_) (fun hb hv=>?_)
 subst hv;exact ⟨rfl,rfl⟩
 subst hv;exact ⟨rfl,rfl⟩
 revert hv;refine by_cond2 (fun hb hv=>?_) (fun hb hv=>?_)
 refine ⟨⟨?_⟩, ?_⟩;rotate_left
 revert hv;refine by_cond2 (fun hb hv=>?_) (fun hb hv=>?_)
 subst hv;exact ⟨rfl,rfl⟩
 subst hv;exact ⟨rfl,rfl⟩
 revert hv;refine by_cond2 (fun hb hv=>?_) (fun hb hv=>?_)
 refine ⟨⟨?_⟩, ?_⟩;rotate_left
 revert hv;refine by_cond2 (fun hb hv=>?_) (fun hb hv=>?_)
 subst hv;exact ⟨rfl,rfl⟩
 subst hv;exact ⟨rfl,rfl⟩
 revert hv;refine by_cond2 (fun hb hv=>?_) (fun hb hv=>?_)
 refine ⟨⟨?_⟩, ?_⟩;rotate_left
 revert hv;refine by_cond2 (fun hb hv=>?_) (fun hb hv=>?_)
 subst hv;exact ⟨rfl,rfl⟩
 subst hv;exact ⟨rfl,rfl⟩
 revert hv;refine by_cond2 (fun hb hv=>?_) (fun hb hv=>?_)
 refine ⟨⟨?_⟩, ?_⟩;rotate_left
 refine ⟨⟨?_⟩, ?_⟩;rotate_left
 revert hv;refine by_cond2 (fun hb hv=>?_) (fun hb hv=>?_)
 subst hv;exact ⟨rfl,rfl⟩
 subst hv;exact ⟨rfl,rfl⟩
 revert hv;refine by_cond2 (fun hb hv=>?_) (fun hb hv=>?_)
 refine ⟨⟨?_⟩, ?_⟩;rotate_left
 refine ⟨⟨?_⟩, ?_⟩;rotate_left
 revert hv;refine by_cond2 (fun hb hv=>?_) (fun hb hv=>?_)
 subst hv;exact ⟨rfl,rfl⟩
 subst hv;exact ⟨rfl,rfl⟩
 revert hv;refine by_cond2 (fun hb hv=>?_) (fun hb hv=>?_)
 refine ⟨⟨?_⟩, ?_⟩;rotate_left
 revert hv;refine by_cond2 (fun hb hv=>?_) (fun hb hv=>?_)
 subst hv;exact ⟨rfl,rfl⟩
 subst hv;exact ⟨rfl,rfl⟩
 revert hv;refine by_cond2 (fun hb hv=>?_) (fun hb hv=>?_)
 refine ⟨⟨?_⟩, ?_⟩;rotate_left
 revert hv;refine by_cond2 (fun hb hv=>?_) (fun hb hv=>?_)
 subst hv;exact ⟨rfl,rfl⟩
 subst hv;exact ⟨rfl,rfl⟩
 revert hv;refine by_cond2 (fun hb hv=>?_) (fun hb hv=>?_)
 refine ⟨⟨?_⟩, ?_⟩;rotate_left
 refine ⟨⟨?_⟩, ?_⟩;rotate_left
 revert hv;refine by_cond2 (fun hb hv=>?_) (fun hb hv=>?_)
 subst hv;exact ⟨rfl,rfl⟩
 subst hv;exact ⟨rfl,rfl⟩
 revert hv;refine by_cond2 (fun hb hv=>?_) (fun hb hv=>?_)
 refine ⟨⟨?_⟩, ?_⟩;rotate_left
 revert hv;refine by_cond2 (fun hb hv=>?_) (fun hb hv=>?_)
 subst hv;exact ⟨rfl,rfl⟩
 subst hv;exact ⟨rfl,rfl⟩
 revert hv;refine by_cond2 (fun hb hv=>?_) (fun hb hv=>?_)
 refine ⟨⟨?_⟩, ?_⟩;rotate_left
 revert hv;refine by_cond2 (fun hb hv=>?_) (fun hb hv=>?_)
 subst hv;exact ⟨rfl,rfl⟩
 subst hv;exact ⟨rfl,rfl⟩
 revert hv;refine by_cond2 (fun hb hv=>?_) (fun hb hv=>?_)
 refine ⟨⟨?_⟩, ?_⟩;rotate_left
 revert hv;refine by_cond2 (fun hb hv=>?_) (fun hb hv=>?_)
 subst hv;exact ⟨rfl,rfl⟩
 subst hv;exact ⟨rfl,rfl⟩
 revert hv;refine by_cond2 (fun hb hv=>?_) (fun hb hv=>?_)
 refine ⟨⟨?_⟩, ?_⟩;rotate_left
 refine ⟨⟨?_⟩, ?_⟩;rotate_left
 revert hv;refine by_cond2 (fun hb hv=>?_) (fun hb hv=>?_)
 subst hv;exact ⟨rfl,rfl⟩
 subst hv;exact ⟨rfl,rfl⟩
 subst hv;exact ⟨rfl,rfl⟩
 all_goals ((try clear hv);(try clear q1 q2);(try clear hk);(first | omega | (simp only [cUpd,List.length_append,List.length_cons,List.length_nil] at *;omega)| (simp only [gUpdate,gMap,gParams,gTerm,gEncrypt,gEncAns,gUnknown,gVersion,gReject,gPlain,gFeat,gLen,cUpd,List.length_append,List.length_cons,List.length_nil] at *;omega)| ((try simp only [decide_eq_true_eq,decide_eq_false_iff_not,Bool.not_eq_true,Bool.not_eq_false,Bool.and_eq_true,Bool.or_eq_true,Bool.not_not,cond_and,cond_or,List.length_append,List.length_cons,List.length_nil] at *);(first | done | ((first | omega | (intros;(try simp only [Bool.not_not,cond_and,cond_or,Bool.and_eq_true,decide_eq_true_eq] at *);(exact band_nn rfl _ _))| (intros;(try simp only [Bool.not_not,cond_and,cond_or,Bool.and_eq_true,decide_eq_true_eq] at *);(exact (wu64s _).2.1))| (intros;(try simp only [Bool.not_not,cond_and,cond_or,Bool.and_eq_true,decide_eq_true_eq] at *);(simp only [Bool.or_eq_false_iff,Bool.and_eq_false_iff,decide_eq_false_iff_not,decide_eq_true_eq,bne_iff_ne,beq_iff_eq,bne_eq_false_iff_eq,beq_eq_false_iff_ne,ne_eq,true_and] at *;omega))| (intros;(try simp only [Bool.not_not,cond_and,cond_or,Bool.and_eq_true,decide_eq_true_eq] at *);(simp only [List.length_drop,List.length_take,List.length_append,List.length_cons,List.length_nil] at *;omega))| (intros;omega)| (intros;simp only [Bool.not_not,cond_and,cond_or,Bool.and_eq_true,decide_eq_true_eq] at *;omega)| (intros;simp_all [Bool.not_not];done)))))))
def cCheck.ct:Ct El:=ctOf cCheck.dec (fun _=>[]) (fun x=>cCheck.res (cCheck x)) (fun x=>cCheck.news (cCheck x))
theorem cCheck.ok:CtOk (mkCx Tryz.prog S [] 0) 32 cCheck.ct:=ct_mk (C:=(mkCx Tryz.prog S tab_gLen 0)) (mkCx_ok sigOk mixed tab_gLen_ok 0) cCheck.dec_ok (fun x=>rfl) 4 (fun x _=>(cCheck.nf_ok x _).mpr (cCheck.key x _ rfl))
def tab_cCheck:List (FuncId×Ct El):= (32,cCheck.ct):: tab_gLen
theorem tab_cCheck_ok:TabOk Tryz.prog S tab_cCheck:=⟨cCheck.ok,by kernel_rfl,tab_gLen_ok⟩
end Go.Aw.W
