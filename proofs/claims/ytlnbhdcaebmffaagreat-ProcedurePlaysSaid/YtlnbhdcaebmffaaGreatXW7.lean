/- Contracts of the seat (printed by ct.py). -/
import Derived.Test.YtlnbhdcaebmffaaGreatXW6
import Derived.Test.YtlnbhdcaebmffaaGreatXAwL
set_option linter.unusedVariables false
set_option linter.unusedSimpArgs false
set_option maxRecDepth 20000
set_option maxHeartbeats 1000000
namespace Go.Aw.W
open Go Go.Aw Go.Proofs
attribute [local irreducible] evCode evFun evOps evDs evOne ctxK loopK loopB subC bodyC headS okH roundK
def handlersQ:IntKind×List Int×List FuncId:=(.i64,[0,1,2,3,4,5,6,7,13,8,9,12,15,18,19,20,21],[69,69,70,71,72,73,74,75,75,76,76,77,78,79,80,81,81])
def handlers.dec (cs:List (AV El)): Option Addr:=match cs with
 | [.v (.pointer (some a))]=> some a
 | _=>none
def handlers.enc (a:Addr): List (AV El):= [.v (.pointer (some a))]
theorem handlers.dec_ok : ∀cs x,handlers.dec cs=some x→Imp (S:=S) cs (handlers.enc x):= by
 intro cs x h
 unfold handlers.dec at h
 split at h
 ·cases h;exact .refl _
 ·cases h
def handlers.ct:Ct El:=ctOf handlers.dec (fun _=>[]) (fun a=>mapClo handlersQ (.v (.pointer (some a)))) (fun _=>[])
theorem handlers.nf_ok (a:Addr) (K:AV El→List (AObj El)→Prop): evFun (mkCx Tryz.prog S tab_insAdd 0) 4 36 [.v (.pointer (some a))] [] K=(K ((.gm 0:AV El)) [(.mp .i64 ([0,1,2,3,4,5,6,7,13,8,9,12,15,18,19,20,21]: List Int) [.clo 1000069 [.v (.pointer (some a))], .clo 1000069 [.v (.pointer (some a))], .clo 1000070 [.v (.pointer (some a))], .clo 1000071 [.v (.pointer (some a))], .clo 1000072 [.v (.pointer (some a))], .clo 1000073 [.v (.pointer (some a))], .clo 1000074 [.v (.pointer (some a))], .clo 1000075 [.v (.pointer (some a))], .clo 1000075 [.v (.pointer (some a))], .clo 1000076 [.v (.pointer (some a))], .clo 1000076 [.v (.pointer (some a))], .clo 1000077 [.v (.pointer (some a))], .clo 1000078 [.v (.pointer (some a))], .clo 1000079 [.v (.pointer (some a))], .clo 1000080 [.v (.pointer (some a))], .clo 1000081 [.v (.pointer (some a))], .clo 1000081 [.v (.pointer (some a))]]: AObj El)]):= by kernel_rfl
theorem handlers.gives (a:Addr): Gives ((.gm 0:AV El)) [(.mp .i64 ([0,1,2,3,4,5,6,7,13,8,9,12,15,18,19,20,21]: List Int) [.clo 1000069 [.v (.pointer (some a))], .clo 1000069 [.v (.pointer (some a))], .clo 1000070 [.v (.pointer (some a))], .clo 1000071 [.v (.pointer (some a))], .clo 1000072 [.v (.pointer (some a))], .clo 1000073 [.v (.pointer (some a))], .clo 1000074 [.v (.pointer (some a))], .clo 1000075 [.v (.pointer (some a))], .clo 1000075 [.v (.pointer (some a))], .clo 1000076 [.v (.pointer (some a))], .clo 1000076 [.v (.pointer (some a))], .clo 1000077 [.v (.pointer (some a))], .clo 1000078 [.v (.pointer (some a))], .clo 1000079 [.v (.pointer (some a))], .clo 1000080 [.v (.pointer (some a))], .clo 1000081 [.v (.pointer (some a))], .clo 1000081 [.v (.pointer (some a))]]: AObj El)] (mapClo handlersQ (.v (.pointer (some a))): AV El) []:= And.intro (by kernel_rfl) (by kernel_rfl)
theorem handlers.ok:CtOk (mkCx Tryz.prog S [] 0) 36 handlers.ct:=ct_mk (C:=(mkCx Tryz.prog S tab_insAdd 0)) (mkCx_ok sigOk mixed tab_insAdd_ok 0) handlers.dec_ok (fun x=>rfl) 4 (fun x _=>(handlers.nf_ok x _).mpr (handlers.gives x))
theorem handlers.poly:PolyOk Tryz.prog S 36 handlersQ:=⟨handlers.ct,handlers.ok,by kernel_rfl,fun ad=>rfl⟩
end Go.Aw.W
