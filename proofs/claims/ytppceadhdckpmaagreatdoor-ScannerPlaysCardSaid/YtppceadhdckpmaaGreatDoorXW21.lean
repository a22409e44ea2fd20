/- Contracts of the seat (printed by ct.py). -/
import Derived.Test.YtppceadhdckpmaaGreatDoorXW20
import Derived.Test.YtppceadhdckpmaaGreatDoorXAwL
set_option linter.unusedVariables false
set_option linter.unusedSimpArgs false
set_option maxRecDepth 20000
set_option maxHeartbeats 1000000
namespace Go.Aw.W
open Go Go.Aw Go.Proofs
attribute [local irreducible] evCode evFun evOps evDs evOne ctxK loopK loopB subC bodyC headS okH roundK
attribute [local irreducible] pFind r9Find scEntry
def endL (C:Cx) (fn:Func) (lo:Nat) (K:AV C.S.El→List (AObj C.S.El)→Prop): AExit→St C.S.El→Prop:=fun e st=>match e with
 | .exit _=>False
 | _=>match resultsA C fn st with
  | some r=>retK C lo r st.objs K
  | none=>False
def loopL (C:Cx) (fuel:Nat) (f:FuncId) (p:List Bool) (lo:Nat) (Q:AV C.S.El→List (AObj C.S.El)→Prop): AExit→St C.S.El→Prop:=ctxK C (evFun C fuel) p (bodyC C.P f) (endL C (funcC C.P f) lo Q)
def gcells (u:Scanner) (a b c:Nat): List (AV El):= [.v (.int .i64 u.Params.Interval), .v (.int .i64 u.Params.Window), .v (.bool u.Params.Active), .v (.int .i64 u.Params.Policy), .gs a, .gs b, .v (.int .i64 u.Params.Own.Kind), .v (.int .u64 u.Params.Own.Bits), .v (.bool u.Params.Unique), .v (.bool u.On), .v (.int .i64 u.Start), .v (.int .i64 u.Upper), .v (.int .i64 u.Count), .v (.int .i64 u.Fails), .v (.int .i64 u.Wins), .v (.int .i64 u.Wait.Kind), .v (.int .u64 u.Wait.Bits), .gs c, .v (.int .u64 u.Seed)]
def ncells (u:Scanner): List (AV El):= [.v (.int .i64 u.Params.Interval), .v (.int .i64 u.Params.Window), .v (.bool u.Params.Active), .v (.int .i64 u.Params.Policy), .v (.slice none 0 0), .v (.slice none 0 0), .v (.int .i64 u.Params.Own.Kind), .v (.int .u64 u.Params.Own.Bits), .v (.bool u.Params.Unique), .v (.bool u.On), .v (.int .i64 u.Start), .v (.int .i64 u.Upper), .v (.int .i64 u.Count), .v (.int .i64 u.Fails), .v (.int .i64 u.Wins), .v (.int .i64 u.Wait.Kind), .v (.int .u64 u.Wait.Bits), .v (.slice none 0 0), .v (.int .u64 u.Seed)]
def RA (u:Scanner) (p:AdvPDU) (t:Int): List (AV El):= [.agg (gcells u 3 4 5), .agg (AdvPDU.cells p), .v (.int .i64 t)]
def RH (v:Scanner) (q:AdvPDU) (w u:Scanner): List (AObj El):= [.cells (gcells v 3 4 5), .cells (AdvPDU.cells q), .cells (ncells w), .row 26 (u.Params.Accept:List (El 26)), .row 88 (u.Params.Identities:List (El 88)), .row 26 (u.Seen:List (El 26))]
theorem by_condP {b:Bool} {X Y P1 P2:Prop} (h1:b=true→P1→X) (h2:b=false→P2→Y): cond b P1 P2→cond b X Y:=by
 intro hv
 cases b
 ·exact h2 rfl hv
 ·exact h1 rfl hv
def rep.go (v:Scanner) (q:AdvPDU) (w:Scanner) (u:Scanner) (p:AdvPDU) (t:Int) (Q:AV El→List (AObj El)→Prop): Nat→Int→Prop
 | 0,_=>False
 | n0+1,i=>cond (decide (i < (↑(List.length u.Seen): Int))) (cond ((List.getD u.Seen (Int.toNat i) Address.zero).Kind==(scEntry u p).Kind && (List.getD u.Seen (Int.toNat i) Address.zero).Bits==(scEntry u p).Bits) (Q (.tup [.agg [.v (.int .i64 (u.Params.Interval)), .v (.int .i64 (u.Params.Window)), .v (.bool (u.Params.Active)), .v (.int .i64 (u.Params.Policy)), .gs 3, .gs 4, .v (.int .i64 (u.Params.Own.Kind)), .v (.int .u64 (u.Params.Own.Bits)), .v (.bool (u.Params.Unique)), .v (.bool (u.On)), .v (.int .i64 (u.Start)), .v (.int .i64 (u.Upper)), .v (.int .i64 (u.Count)), .v (.int .i64 (u.Fails)), .v (.int .i64 (u.Wins)), .v (.int .i64 (u.Wait.Kind)), .v (.int .u64 (u.Wait.Bits)), .gs 5, .v (.int .u64 (u.Seed))], .v (.slice none 0 0)]) [.cells [.v (.int .i64 (v.Params.Interval)), .v (.int .i64 (v.Params.Window)), .v (.bool (v.Params.Active)), .v (.int .i64 (v.Params.Policy)), .gs 3, .gs 4, .v (.int .i64 (v.Params.Own.Kind)), .v (.int .u64 (v.Params.Own.Bits)), .v (.bool (v.Params.Unique)), .v (.bool (v.On)), .v (.int .i64 (v.Start)), .v (.int .i64 (v.Upper)), .v (.int .i64 (v.Count)), .v (.int .i64 (v.Fails)), .v (.int .i64 (v.Wins)), .v (.int .i64 (v.Wait.Kind)), .v (.int .u64 (v.Wait.Bits)), .gs 5, .v (.int .u64 (v.Seed))], .cells (AdvPDU.cells q), .cells [.v (.int .i64 (w.Params.Interval)), .v (.int .i64 (w.Params.Window)), .v (.bool (w.Params.Active)), .v (.int .i64 (w.Params.Policy)), .v (.slice none 0 0), .v (.slice none 0 0), .v (.int .i64 (w.Params.Own.Kind)), .v (.int .u64 (w.Params.Own.Bits)), .v (.bool (w.Params.Unique)), .v (.bool (w.On)), .v (.int .i64 (w.Start)), .v (.int .i64 (w.Upper)), .v (.int .i64 (w.Count)), .v (.int .i64 (w.Fails)), .v (.int .i64 (w.Wins)), .v (.int .i64 (w.Wait.Kind)), .v (.int .u64 (w.Wait.Bits)), .v (.slice none 0 0), .v (.int .u64 (w.Seed))], .row 26 (u.Params.Accept:List (El 26)), .row 88 (u.Params.Identities:List (El 88)), .row 26 (u.Seen:List (El 26))]) (rep.go v q w u p t Q n0 (IntKind.wrap IntKind.i64 (i+(1:Int))))) (cond (decide ((64:Int)≤(↑(List.length u.Seen): Int))) (Q (.tup [.agg [.v (.int .i64 (u.Params.Interval)), .v (.int .i64 (u.Params.Window)), .v (.bool (u.Params.Active)), .v (.int .i64 (u.Params.Policy)), .gs 3, .gs 4, .v (.int .i64 (u.Params.Own.Kind)), .v (.int .u64 (u.Params.Own.Bits)), .v (.bool (u.Params.Unique)), .v (.bool (u.On)), .v (.int .i64 (u.Start)), .v (.int .i64 (u.Upper)), .v (.int .i64 (u.Count)), .v (.int .i64 (u.Fails)), .v (.int .i64 (u.Wins)), .v (.int .i64 (u.Wait.Kind)), .v (.int .u64 (u.Wait.Bits)), .gs 6, .v (.int .u64 (u.Seed))], .sl 64 ([{Time:=t,Kind:=p.Kind,Sender:=p.Sender,Identity:=pFind u.Params.Identities p.Sender,Data:=clB p.Data:Report}]: List (El 64)) true]) [.cells [.v (.int .i64 (v.Params.Interval)), .v (.int .i64 (v.Params.Window)), .v (.bool (v.Params.Active)), .v (.int .i64 (v.Params.Policy)), .gs 3, .gs 4, .v (.int .i64 (v.Params.Own.Kind)), .v (.int .u64 (v.Params.Own.Bits)), .v (.bool (v.Params.Unique)), .v (.bool (v.On)), .v (.int .i64 (v.Start)), .v (.int .i64 (v.Upper)), .v (.int .i64 (v.Count)), .v (.int .i64 (v.Fails)), .v (.int .i64 (v.Wins)), .v (.int .i64 (v.Wait.Kind)), .v (.int .u64 (v.Wait.Bits)), .gs 5, .v (.int .u64 (v.Seed))], .cells (AdvPDU.cells q), .cells [.v (.int .i64 (w.Params.Interval)), .v (.int .i64 (w.Params.Window)), .v (.bool (w.Params.Active)), .v (.int .i64 (w.Params.Policy)), .v (.slice none 0 0), .v (.slice none 0 0), .v (.int .i64 (w.Params.Own.Kind)), .v (.int .u64 (w.Params.Own.Bits)), .v (.bool (w.Params.Unique)), .v (.bool (w.On)), .v (.int .i64 (w.Start)), .v (.int .i64 (w.Upper)), .v (.int .i64 (w.Count)), .v (.int .i64 (w.Fails)), .v (.int .i64 (w.Wins)), .v (.int .i64 (w.Wait.Kind)), .v (.int .u64 (w.Wait.Bits)), .v (.slice none 0 0), .v (.int .u64 (w.Seed))], .row 26 (u.Params.Accept:List (El 26)), .row 88 (u.Params.Identities:List (El 88)), .gone, .row 26 (List.drop (Int.toNat (1:Int)) u.Seen ++ [scEntry u p]: List (El 26))]) (Q (.tup [.agg [.v (.int .i64 (u.Params.Interval)), .v (.int .i64 (u.Params.Window)), .v (.bool (u.Params.Active)), .v (.int .i64 (u.Params.Policy)), .gs 3, .gs 4, .v (.int .i64 (u.Params.Own.Kind)), .v (.int .u64 (u.Params.Own.Bits)), .v (.bool (u.Params.Unique)), .v (.bool (u.On)), .v (.int .i64 (u.Start)), .v (.int .i64 (u.Upper)), .v (.int .i64 (u.Count)), .v (.int .i64 (u.Fails)), .v (.int .i64 (u.Wins)), .v (.int .i64 (u.Wait.Kind)), .v (.int .u64 (u.Wait.Bits)), .gs 6, .v (.int .u64 (u.Seed))], .sl 64 ([{Time:=t,Kind:=p.Kind,Sender:=p.Sender,Identity:=pFind u.Params.Identities p.Sender,Data:=clB p.Data:Report}]: List (El 64)) true]) [.cells [.v (.int .i64 (v.Params.Interval)), .v (.int .i64 (v.Params.Window)), .v (.bool (v.Params.Active)), .v (.int .i64 (v.Params.Policy)), .gs 3, .gs 4, .v (.int .i64 (v.Params.Own.Kind)), .v (.int .u64 (v.Params.Own.Bits)), .v (.bool (v.Params.Unique)), .v (.bool (v.On)), .v (.int .i64 (v.Start)), .v (.int .i64 (v.Upper)), .v (.int .i64 (v.Count)), .v (.int .i64 (v.Fails)), .v (.int .i64 (v.Wins)), .v (.int .i64 (v.Wait.Kind)), .v (.int .u64 (v.Wait.Bits)), .gs 5, .v (.int .u64 (v.Seed))], .cells (AdvPDU.cells q), .cells [.v (.int .i64 (w.Params.Interval)), .v (.int .i64 (w.Params.Window)), .v (.bool (w.Params.Active)), .v (.int .i64 (w.Params.Policy)), .v (.slice none 0 0), .v (.slice none 0 0), .v (.int .i64 (w.Params.Own.Kind)), .v (.int .u64 (w.Params.Own.Bits)), .v (.bool (w.Params.Unique)), .v (.bool (w.On)), .v (.int .i64 (w.Start)), .v (.int .i64 (w.Upper)), .v (.int .i64 (w.Count)), .v (.int .i64 (w.Fails)), .v (.int .i64 (w.Wins)), .v (.int .i64 (w.Wait.Kind)), .v (.int .u64 (w.Wait.Bits)), .v (.slice none 0 0), .v (.int .u64 (w.Seed))], .row 26 (u.Params.Accept:List (El 26)), .row 88 (u.Params.Identities:List (El 88)), .gone, .row 26 (u.Seen ++ [scEntry u p]: List (El 26))]))
def rep.hd (v:Scanner) (q:AdvPDU) (w:Scanner) (u:Scanner) (p:AdvPDU) (t:Int) (i:Int): St El:={lo:=6,slots:=[(20, .v (.int .i64 (i))),(19, .v (.int .i64 ((↑(List.length u.Seen): Int)))),(18, .gs 5),(3, .ref 6 0),(4, .ref 7 0),(6, .ref 8 0),(8, .ref 9 0),(2, .v (.int .i64 (t))),(7, .v (.slice none 0 0))],n:=60,objs:=[.cells [.v (.int .i64 (v.Params.Interval)), .v (.int .i64 (v.Params.Window)), .v (.bool (v.Params.Active)), .v (.int .i64 (v.Params.Policy)), .gs 3, .gs 4, .v (.int .i64 (v.Params.Own.Kind)), .v (.int .u64 (v.Params.Own.Bits)), .v (.bool (v.Params.Unique)), .v (.bool (v.On)), .v (.int .i64 (v.Start)), .v (.int .i64 (v.Upper)), .v (.int .i64 (v.Count)), .v (.int .i64 (v.Fails)), .v (.int .i64 (v.Wins)), .v (.int .i64 (v.Wait.Kind)), .v (.int .u64 (v.Wait.Bits)), .gs 5, .v (.int .u64 (v.Seed))], .cells (AdvPDU.cells q), .cells [.v (.int .i64 (w.Params.Interval)), .v (.int .i64 (w.Params.Window)), .v (.bool (w.Params.Active)), .v (.int .i64 (w.Params.Policy)), .v (.slice none 0 0), .v (.slice none 0 0), .v (.int .i64 (w.Params.Own.Kind)), .v (.int .u64 (w.Params.Own.Bits)), .v (.bool (w.Params.Unique)), .v (.bool (w.On)), .v (.int .i64 (w.Start)), .v (.int .i64 (w.Upper)), .v (.int .i64 (w.Count)), .v (.int .i64 (w.Fails)), .v (.int .i64 (w.Wins)), .v (.int .i64 (w.Wait.Kind)), .v (.int .u64 (w.Wait.Bits)), .v (.slice none 0 0), .v (.int .u64 (w.Seed))], .row 26 (u.Params.Accept:List (El 26)), .row 88 (u.Params.Identities:List (El 88)), .row 26 (u.Seen:List (El 26)), .cells [.v (.int .i64 (u.Params.Interval)), .v (.int .i64 (u.Params.Window)), .v (.bool (u.Params.Active)), .v (.int .i64 (u.Params.Policy)), .gs 3, .gs 4, .v (.int .i64 (u.Params.Own.Kind)), .v (.int .u64 (u.Params.Own.Bits)), .v (.bool (u.Params.Unique)), .v (.bool (u.On)), .v (.int .i64 (u.Start)), .v (.int .i64 (u.Upper)), .v (.int .i64 (u.Count)), .v (.int .i64 (u.Fails)), .v (.int .i64 (u.Wins)), .v (.int .i64 (u.Wait.Kind)), .v (.int .u64 (u.Wait.Bits)), .gs 5, .v (.int .u64 (u.Seed))], .cells (AdvPDU.cells p), .cells [.v (.int .i64 ((0:Int))), .v (.int .i64 ((0:Int))), .v (.bool (false)), .v (.int .i64 ((0:Int))), .v (.slice none 0 0), .v (.slice none 0 0), .v (.int .i64 ((0:Int))), .v (.int .u64 ((0:Int))), .v (.bool (false)), .v (.bool (false)), .v (.int .i64 ((0:Int))), .v (.int .i64 ((0:Int))), .v (.int .i64 ((0:Int))), .v (.int .i64 ((0:Int))), .v (.int .i64 ((0:Int))), .v (.int .i64 ((0:Int))), .v (.int .u64 ((0:Int))), .v (.slice none 0 0), .v (.int .u64 ((0:Int)))], .cells (Address.cells ((scEntry u p)))]}
def rep.st (v:Scanner) (q:AdvPDU) (w:Scanner) (u:Scanner) (p:AdvPDU) (t:Int) (i:Int) (J:St El→Prop) (Q:AV El→List (AObj El)→Prop): Prop:=cond (decide (i < (↑(List.length u.Seen): Int))) (Ob ((0:Int)≤i∧i < (↑(List.length u.Seen): Int))∧(Ob (Int.toNat i < List.length u.Seen)∧(cond ((List.getD u.Seen (Int.toNat i) Address.zero).Kind==(scEntry u p).Kind && (List.getD u.Seen (Int.toNat i) Address.zero).Bits==(scEntry u p).Bits) (Q (.tup [.agg [.v (.int .i64 (u.Params.Interval)), .v (.int .i64 (u.Params.Window)), .v (.bool (u.Params.Active)), .v (.int .i64 (u.Params.Policy)), .gs 3, .gs 4, .v (.int .i64 (u.Params.Own.Kind)), .v (.int .u64 (u.Params.Own.Bits)), .v (.bool (u.Params.Unique)), .v (.bool (u.On)), .v (.int .i64 (u.Start)), .v (.int .i64 (u.Upper)), .v (.int .i64 (u.Count)), .v (.int .i64 (u.Fails)), .v (.int .i64 (u.Wins)), .v (.int .i64 (u.Wait.Kind)), .v (.int .u64 (u.Wait.Bits)), .gs 5, .v (.int .u64 (u.Seed))], .v (.slice none 0 0)]) [.cells [.v (.int .i64 (v.Params.Interval)), .v (.int .i64 (v.Params.Window)), .v (.bool (v.Params.Active)), .v (.int .i64 (v.Params.Policy)), .gs 3, .gs 4, .v (.int .i64 (v.Params.Own.Kind)), .v (.int .u64 (v.Params.Own.Bits)), .v (.bool (v.Params.Unique)), .v (.bool (v.On)), .v (.int .i64 (v.Start)), .v (.int .i64 (v.Upper)), .v (.int .i64 (v.Count)), .v (.int .i64 (v.Fails)), .v (.int .i64 (v.Wins)), .v (.int .i64 (v.Wait.Kind)), .v (.int .u64 (v.Wait.Bits)), .gs 5, .v (.int .u64 (v.Seed))], .cells (AdvPDU.cells q), .cells [.v (.int .i64 (w.Params.Interval)), .v (.int .i64 (w.Params.Window)), .v (.bool (w.Params.Active)), .v (.int .i64 (w.Params.Policy)), .v (.slice none 0 0), .v (.slice none 0 0), .v (.int .i64 (w.Params.Own.Kind)), .v (.int .u64 (w.Params.Own.Bits)), .v (.bool (w.Params.Unique)), .v (.bool (w.On)), .v (.int .i64 (w.Start)), .v (.int .i64 (w.Upper)), .v (.int .i64 (w.Count)), .v (.int .i64 (w.Fails)), .v (.int .i64 (w.Wins)), .v (.int .i64 (w.Wait.Kind)), .v (.int .u64 (w.Wait.Bits)), .v (.slice none 0 0), .v (.int .u64 (w.Seed))], .row 26 (u.Params.Accept:List (El 26)), .row 88 (u.Params.Identities:List (El 88)), .row 26 (u.Seen:List (El 26))]) (J (rep.hd v q w u p t (IntKind.wrap IntKind.i64 (i+(1:Int)))))))) ((List.length u.Seen≤(9223372036854775807:Nat))→(cond (decide ((64:Int)≤(↑(List.length u.Seen): Int))) (Ob ((0:Int)≤(1:Int)∧(1:Int)≤(↑(List.length u.Seen): Int))∧(Ob ((List.length (List.drop (Int.toNat (1:Int)) u.Seen)+ List.length [scEntry u p])* (16:Nat)≤(140737488355328:Nat))∧(Ob (List.length p.Data*(1:Nat)≤(140737488355328:Nat))∧(Q (.tup [.agg [.v (.int .i64 (u.Params.Interval)), .v (.int .i64 (u.Params.Window)), .v (.bool (u.Params.Active)), .v (.int .i64 (u.Params.Policy)), .gs 3, .gs 4, .v (.int .i64 (u.Params.Own.Kind)), .v (.int .u64 (u.Params.Own.Bits)), .v (.bool (u.Params.Unique)), .v (.bool (u.On)), .v (.int .i64 (u.Start)), .v (.int .i64 (u.Upper)), .v (.int .i64 (u.Count)), .v (.int .i64 (u.Fails)), .v (.int .i64 (u.Wins)), .v (.int .i64 (u.Wait.Kind)), .v (.int .u64 (u.Wait.Bits)), .gs 6, .v (.int .u64 (u.Seed))], .sl 64 ([{Time:=t,Kind:=p.Kind,Sender:=p.Sender,Identity:=pFind u.Params.Identities p.Sender,Data:=clB p.Data:Report}]: List (El 64)) true]) [.cells [.v (.int .i64 (v.Params.Interval)), .v (.int .i64 (v.Params.Window)), .v (.bool (v.Params.Active)), .v (.int .i64 (v.Params.Policy)), .gs 3, .gs 4, .v (.int .i64 (v.Params.Own.Kind)), .v (.int .u64 (v.Params.Own.Bits)), .v (.bool (v.Params.Unique)), .v (.bool (v.On)), .v (.int .i64 (v.Start)), .v (.int .i64 (v.Upper)), .v (.int .i64 (v.Count)), .v (.int .i64 (v.Fails)), .v (.int .i64 (v.Wins)), .v (.int .i64 (v.Wait.Kind)), .v (.int .u64 (v.Wait.Bits)), .gs 5, .v (.int .u64 (v.Seed))], .cells (AdvPDU.cells q), .cells [.v (.int .i64 (w.Params.Interval)), .v (.int .i64 (w.Params.Window)), .v (.bool (w.Params.Active)), .v (.int .i64 (w.Params.Policy)), .v (.slice none 0 0), .v (.slice none 0 0), .v (.int .i64 (w.Params.Own.Kind)), .v (.int .u64 (w.Params.Own.Bits)), .v (.bool (w.Params.Unique)), .v (.bool (w.On)), .v (.int .i64 (w.Start)), .v (.int .i64 (w.Upper)), .v (.int .i64 (w.Count)), .v (.int .i64 (w.Fails)), .v (.int .i64 (w.Wins)), .v (.int .i64 (w.Wait.Kind)), .v (.int .u64 (w.Wait.Bits)), .v (.slice none 0 0), .v (.int .u64 (w.Seed))], .row 26 (u.Params.Accept:List (El 26)), .row 88 (u.Params.Identities:List (El 88)), .gone, .row 26 (List.drop (Int.toNat (1:Int)) u.Seen ++ [scEntry u p]: List (El 26))])))) (Ob ((List.length u.Seen+List.length [scEntry u p])* (16:Nat)≤(140737488355328:Nat))∧(Ob (List.length p.Data*(1:Nat)≤(140737488355328:Nat))∧(Q (.tup [.agg [.v (.int .i64 (u.Params.Interval)), .v (.int .i64 (u.Params.Window)), .v (.bool (u.Params.Active)), .v (.int .i64 (u.Params.Policy)), .gs 3, .gs 4, .v (.int .i64 (u.Params.Own.Kind)), .v (.int .u64 (u.Params.Own.Bits)), .v (.bool (u.Params.Unique)), .v (.bool (u.On)), .v (.int .i64 (u.Start)), .v (.int .i64 (u.Upper)), .v (.int .i64 (u.Count)), .v (.int .i64 (u.Fails)), .v (.int .i64 (u.Wins)), .v (.int .i64 (u.Wait.Kind)), .v (.int .u64 (u.Wait.Bits)), .gs 6, .v (.int .u64 (u.Seed))], .sl 64 ([{Time:=t,Kind:=p.Kind,Sender:=p.Sender,Identity:=pFind u.Params.Identities p.Sender,Data:=clB p.Data:Report}]: List (El 64)) true]) [.cells [.v (.int .i64 (v.Params.Interval)), .v (.int .i64 (v.Params.Window)), .v (.bool (v.Params.Active)), .v (.int .i64 (v.Params.Policy)), .gs 3, .gs 4, .v (.int .i64 (v.Params.Own.Kind)), .v (.int .u64 (v.Params.Own.Bits)), .v (.bool (v.Params.Unique)), .v (.bool (v.On)), .v (.int .i64 (v.Start)), .v (.int .i64 (v.Upper)), .v (.int .i64 (v.Count)), .v (.int .i64 (v.Fails)), .v (.int .i64 (v.Wins)), .v (.int .i64 (v.Wait.Kind)), .v (.int .u64 (v.Wait.Bits)), .gs 5, .v (.int .u64 (v.Seed))], .cells (AdvPDU.cells q), .cells [.v (.int .i64 (w.Params.Interval)), .v (.int .i64 (w.Params.Window)), .v (.bool (w.Params.Active)), .v (.int .i64 (w.Params.Policy)), .v (.slice none 0 0), .v (.slice none 0 0), .v (.int .i64 (w.Params.Own.Kind)), .v (.int .u64 (w.Params.Own.Bits)), .v (.bool (w.Params.Unique)), .v (.bool (w.On)), .v (.int .i64 (w.Start)), .v (.int .i64 (w.Upper)), .v (.int .i64 (w.Count)), .v (.int .i64 (w.Fails)), .v (.int .i64 (w.Wins)), .v (.int .i64 (w.Wait.Kind)), .v (.int .u64 (w.Wait.Bits)), .v (.slice none 0 0), .v (.int .u64 (w.Seed))], .row 26 (u.Params.Accept:List (El 26)), .row 88 (u.Params.Identities:List (El 88)), .gone, .row 26 (u.Seen ++ [scEntry u p]: List (El 26))])))))
theorem rep.st_ok (v:Scanner) (q:AdvPDU) (w:Scanner) (u:Scanner) (p:AdvPDU) (t:Int) (i:Int) (J:St El→Prop) (Q:AV El→List (AObj El)→Prop): evCode (mkCxL Tryz.prog S tab_r22Start 0 true true sum_fIdx) (evFun (mkCxL Tryz.prog S tab_r22Start 0 true true sum_fIdx) 2) (loopB Tryz.prog 29 [true,false,true,false,true,false,true,false]) (rep.hd v q w u p t i) (roundK (C:=(mkCxL Tryz.prog S tab_r22Start 0 true true sum_fIdx)) [20,19,18,3,4,6,8,2,7] [] J (loopL (mkCxL Tryz.prog S tab_r22Start 0 true true sum_fIdx) 2 29 [true,false,true,false,true,false,true,false] 6 Q))= rep.st v q w u p t i J Q:=by kernel_rfl
def rep.rng (v:Scanner) (q:AdvPDU) (w:Scanner) (u:Scanner) (p:AdvPDU) (t:Int) (n0:Nat) (i:Int): Prop:=0≤i∧i≤u.Seen.length∧(u.Seen.length - i).toNat < n0
theorem rep.lp (v:Scanner) (q:AdvPDU) (w:Scanner) (u:Scanner) (p:AdvPDU) (t:Int) (hp:u.Params.Accept.length≤4611686018427∧u.Params.Identities.length≤4611686018427∧u.Seen.length≤4611686018427∧p.Data.length≤140737488355328) (Q:AV El→List (AObj El)→Prop) (n0:Nat) (i:Int) (hv:rep.go v q w u p t Q n0 i) (h0:rep.rng v q w u p t n0 i) (st:St El) (q1:okH [20,19,18,3,4,6,8,2,7] [] st=true) (q2:headS [20,19,18,3,4,6,8,2,7] [] st=rep.hd v q w u p t i): evCode (mkCxL Tryz.prog S tab_r22Start 0 true true sum_fIdx) (evFun (mkCxL Tryz.prog S tab_r22Start 0 true true sum_fIdx) 2) (.loop (loopB Tryz.prog 29 [true,false,true,false,true,false,true,false])) st (loopL (mkCxL Tryz.prog S tab_r22Start 0 true true sum_fIdx) 2 29 [true,false,true,false,true,false,true,false] 6 Q):= by
 refine loop_ev (by kernel_rfl) (evFun_mono _ _) [20,19,18,3,4,6,8,2,7] [] (X:=Nat×Int) (fun x=>rep.hd v q w u p t x.2) (fun x=>x.1) (fun x=>rep.rng v q w u p t x.1 x.2∧rep.go v q w u p t Q x.1 x.2) (n0,i) ⟨q1,q2⟩ ⟨h0,hv⟩ ?_
 clear h0 hv q1 q2
 rintro ⟨n0,i⟩ ⟨hr,hv⟩
 dsimp only at hr hv
 cases n0 with
 | zero=>exact absurd hr (by unfold rep.rng;omega)
 | succ n0 =>
 unfold rep.rng at hr
 unfold rep.go at hv
 refine (rep.st_ok v q w u p t i _ _).mpr ?_
 unfold rep.st
 revert hv;refine by_condP (fun hb hv=>?_) (fun hb hv=>?_)
 refine ⟨⟨?_⟩, ?_⟩;rotate_left
 refine ⟨⟨?_⟩, ?_⟩;rotate_left
 revert hv;refine by_condP (fun hb hv=>?_) (fun hb hv=>?_)
 exact hv
 exact ⟨(n0,(IntKind.wrap IntKind.i64 (i+(1:Int)))),(by kernel_rfl),Nat.lt_succ_self n0,(by dsimp only;unfold rep.rng;(try clear hv);(try clear q1 q2);((try simp only [decide_eq_true_eq] at *);have:=wi64s (i+(1:Int));omega)),hv⟩
 intro hlen
 revert hv;refine by_condP (fun hb hv=>?_) (fun hb hv=>?_)
 refine ⟨⟨?_⟩, ?_⟩;rotate_left
 refine ⟨⟨?_⟩, ?_⟩;rotate_left
 refine ⟨⟨?_⟩, ?_⟩;rotate_left
 exact hv
 refine ⟨⟨?_⟩, ?_⟩;rotate_left
 refine ⟨⟨?_⟩, ?_⟩;rotate_left
 exact hv
 all_goals ((try clear hv);(try clear q1 q2);(first | omega | ((try simp only [decide_eq_true_eq,decide_eq_false_iff_not,List.length_drop,List.length_append,List.length_cons,List.length_nil] at *);omega)| (simp_all;done)))
def rep.out (v:Scanner) (q:AdvPDU) (w:Scanner) (u:Scanner) (p:AdvPDU) (t:Int) (Q:AV El→List (AObj El)→Prop): Prop:=cond (u.Params.Unique) (rep.go v q w u p t Q (u.Seen.length+1) ((0:Int))) (Q (.tup [.agg [.v (.int .i64 (u.Params.Interval)), .v (.int .i64 (u.Params.Window)), .v (.bool (u.Params.Active)), .v (.int .i64 (u.Params.Policy)), .gs 3, .gs 4, .v (.int .i64 (u.Params.Own.Kind)), .v (.int .u64 (u.Params.Own.Bits)), .v (.bool (u.Params.Unique)), .v (.bool (u.On)), .v (.int .i64 (u.Start)), .v (.int .i64 (u.Upper)), .v (.int .i64 (u.Count)), .v (.int .i64 (u.Fails)), .v (.int .i64 (u.Wins)), .v (.int .i64 (u.Wait.Kind)), .v (.int .u64 (u.Wait.Bits)), .gs 5, .v (.int .u64 (u.Seed))], .sl 64 ([{Time:=t,Kind:=p.Kind,Sender:=p.Sender,Identity:=pFind u.Params.Identities p.Sender,Data:=clB p.Data:Report}]: List (El 64)) true]) [.cells [.v (.int .i64 (v.Params.Interval)), .v (.int .i64 (v.Params.Window)), .v (.bool (v.Params.Active)), .v (.int .i64 (v.Params.Policy)), .gs 3, .gs 4, .v (.int .i64 (v.Params.Own.Kind)), .v (.int .u64 (v.Params.Own.Bits)), .v (.bool (v.Params.Unique)), .v (.bool (v.On)), .v (.int .i64 (v.Start)), .v (.int .i64 (v.Upper)), .v (.int .i64 (v.Count)), .v (.int .i64 (v.Fails)), .v (.int .i64 (v.Wins)), .v (.int .i64 (v.Wait.Kind)), .v (.int .u64 (v.Wait.Bits)), .gs 5, .v (.int .u64 (v.Seed))], .cells (AdvPDU.cells q), .cells [.v (.int .i64 (w.Params.Interval)), .v (.int .i64 (w.Params.Window)), .v (.bool (w.Params.Active)), .v (.int .i64 (w.Params.Policy)), .v (.slice none 0 0), .v (.slice none 0 0), .v (.int .i64 (w.Params.Own.Kind)), .v (.int .u64 (w.Params.Own.Bits)), .v (.bool (w.Params.Unique)), .v (.bool (w.On)), .v (.int .i64 (w.Start)), .v (.int .i64 (w.Upper)), .v (.int .i64 (w.Count)), .v (.int .i64 (w.Fails)), .v (.int .i64 (w.Wins)), .v (.int .i64 (w.Wait.Kind)), .v (.int .u64 (w.Wait.Bits)), .v (.slice none 0 0), .v (.int .u64 (w.Seed))], .row 26 (u.Params.Accept:List (El 26)), .row 88 (u.Params.Identities:List (El 88)), .row 26 (u.Seen:List (El 26))])
def rep.nf (v:Scanner) (q:AdvPDU) (w:Scanner) (u:Scanner) (p:AdvPDU) (t:Int) (Q:AV El→List (AObj El)→Prop): Prop:=cond (u.Params.Unique) ((List.length u.Seen≤(9223372036854775807:Nat))→(evCode (mkCxL Tryz.prog S tab_r22Start 0 true true sum_fIdx) (evFun (mkCxL Tryz.prog S tab_r22Start 0 true true sum_fIdx) 2) (.loop (loopB Tryz.prog 29 [true,false,true,false,true,false,true,false])) ({lo:=6,slots:=[(20, .v (.int .i64 ((0:Int)))),(19, .v (.int .i64 ((↑(List.length u.Seen): Int)))),(18, .gs 5),(17, .ref 6 17),(8, .ref 9 0),(16, .agg (Address.cells ((scEntry u p)))),(15, .agg (AdvPDU.cells p)),(14, .agg [.v (.int .i64 (u.Params.Interval)), .v (.int .i64 (u.Params.Window)), .v (.bool (u.Params.Active)), .v (.int .i64 (u.Params.Policy)), .gs 3, .gs 4, .v (.int .i64 (u.Params.Own.Kind)), .v (.int .u64 (u.Params.Own.Bits)), .v (.bool (u.Params.Unique)), .v (.bool (u.On)), .v (.int .i64 (u.Start)), .v (.int .i64 (u.Upper)), .v (.int .i64 (u.Count)), .v (.int .i64 (u.Fails)), .v (.int .i64 (u.Wins)), .v (.int .i64 (u.Wait.Kind)), .v (.int .u64 (u.Wait.Bits)), .gs 5, .v (.int .u64 (u.Seed))]),(13, .v (.bool (true))),(13, .v (.bool (u.Params.Unique))),(12, .ref 6 8),(11, .ref 6 0),(7, .v (.slice none 0 0)),(6, .ref 8 0),(4, .ref 7 0),(3, .ref 6 0),(0, .agg [.v (.int .i64 (u.Params.Interval)), .v (.int .i64 (u.Params.Window)), .v (.bool (u.Params.Active)), .v (.int .i64 (u.Params.Policy)), .gs 3, .gs 4, .v (.int .i64 (u.Params.Own.Kind)), .v (.int .u64 (u.Params.Own.Bits)), .v (.bool (u.Params.Unique)), .v (.bool (u.On)), .v (.int .i64 (u.Start)), .v (.int .i64 (u.Upper)), .v (.int .i64 (u.Count)), .v (.int .i64 (u.Fails)), .v (.int .i64 (u.Wins)), .v (.int .i64 (u.Wait.Kind)), .v (.int .u64 (u.Wait.Bits)), .gs 5, .v (.int .u64 (u.Seed))]),(1, .agg (AdvPDU.cells p)),(2, .v (.int .i64 (t)))],n:=60,objs:=[.cells [.v (.int .i64 (v.Params.Interval)), .v (.int .i64 (v.Params.Window)), .v (.bool (v.Params.Active)), .v (.int .i64 (v.Params.Policy)), .gs 3, .gs 4, .v (.int .i64 (v.Params.Own.Kind)), .v (.int .u64 (v.Params.Own.Bits)), .v (.bool (v.Params.Unique)), .v (.bool (v.On)), .v (.int .i64 (v.Start)), .v (.int .i64 (v.Upper)), .v (.int .i64 (v.Count)), .v (.int .i64 (v.Fails)), .v (.int .i64 (v.Wins)), .v (.int .i64 (v.Wait.Kind)), .v (.int .u64 (v.Wait.Bits)), .gs 5, .v (.int .u64 (v.Seed))], .cells (AdvPDU.cells q), .cells [.v (.int .i64 (w.Params.Interval)), .v (.int .i64 (w.Params.Window)), .v (.bool (w.Params.Active)), .v (.int .i64 (w.Params.Policy)), .v (.slice none 0 0), .v (.slice none 0 0), .v (.int .i64 (w.Params.Own.Kind)), .v (.int .u64 (w.Params.Own.Bits)), .v (.bool (w.Params.Unique)), .v (.bool (w.On)), .v (.int .i64 (w.Start)), .v (.int .i64 (w.Upper)), .v (.int .i64 (w.Count)), .v (.int .i64 (w.Fails)), .v (.int .i64 (w.Wins)), .v (.int .i64 (w.Wait.Kind)), .v (.int .u64 (w.Wait.Bits)), .v (.slice none 0 0), .v (.int .u64 (w.Seed))], .row 26 (u.Params.Accept:List (El 26)), .row 88 (u.Params.Identities:List (El 88)), .row 26 (u.Seen:List (El 26)), .cells [.v (.int .i64 (u.Params.Interval)), .v (.int .i64 (u.Params.Window)), .v (.bool (u.Params.Active)), .v (.int .i64 (u.Params.Policy)), .gs 3, .gs 4, .v (.int .i64 (u.Params.Own.Kind)), .v (.int .u64 (u.Params.Own.Bits)), .v (.bool (u.Params.Unique)), .v (.bool (u.On)), .v (.int .i64 (u.Start)), .v (.int .i64 (u.Upper)), .v (.int .i64 (u.Count)), .v (.int .i64 (u.Fails)), .v (.int .i64 (u.Wins)), .v (.int .i64 (u.Wait.Kind)), .v (.int .u64 (u.Wait.Bits)), .gs 5, .v (.int .u64 (u.Seed))], .cells (AdvPDU.cells p), .cells [.v (.int .i64 ((0:Int))), .v (.int .i64 ((0:Int))), .v (.bool (false)), .v (.int .i64 ((0:Int))), .v (.slice none 0 0), .v (.slice none 0 0), .v (.int .i64 ((0:Int))), .v (.int .u64 ((0:Int))), .v (.bool (false)), .v (.bool (false)), .v (.int .i64 ((0:Int))), .v (.int .i64 ((0:Int))), .v (.int .i64 ((0:Int))), .v (.int .i64 ((0:Int))), .v (.int .i64 ((0:Int))), .v (.int .i64 ((0:Int))), .v (.int .u64 ((0:Int))), .v (.slice none 0 0), .v (.int .u64 ((0:Int)))], .cells (Address.cells ((scEntry u p)))]}) (loopL (mkCxL Tryz.prog S tab_r22Start 0 true true sum_fIdx) 2 29 [true,false,true,false,true,false,true,false] 6 Q))) (Ob (List.length p.Data*(1:Nat)≤(140737488355328:Nat))∧(Q (.tup [.agg [.v (.int .i64 (u.Params.Interval)), .v (.int .i64 (u.Params.Window)), .v (.bool (u.Params.Active)), .v (.int .i64 (u.Params.Policy)), .gs 3, .gs 4, .v (.int .i64 (u.Params.Own.Kind)), .v (.int .u64 (u.Params.Own.Bits)), .v (.bool (u.Params.Unique)), .v (.bool (u.On)), .v (.int .i64 (u.Start)), .v (.int .i64 (u.Upper)), .v (.int .i64 (u.Count)), .v (.int .i64 (u.Fails)), .v (.int .i64 (u.Wins)), .v (.int .i64 (u.Wait.Kind)), .v (.int .u64 (u.Wait.Bits)), .gs 5, .v (.int .u64 (u.Seed))], .sl 64 ([{Time:=t,Kind:=p.Kind,Sender:=p.Sender,Identity:=pFind u.Params.Identities p.Sender,Data:=clB p.Data:Report}]: List (El 64)) true]) [.cells [.v (.int .i64 (v.Params.Interval)), .v (.int .i64 (v.Params.Window)), .v (.bool (v.Params.Active)), .v (.int .i64 (v.Params.Policy)), .gs 3, .gs 4, .v (.int .i64 (v.Params.Own.Kind)), .v (.int .u64 (v.Params.Own.Bits)), .v (.bool (v.Params.Unique)), .v (.bool (v.On)), .v (.int .i64 (v.Start)), .v (.int .i64 (v.Upper)), .v (.int .i64 (v.Count)), .v (.int .i64 (v.Fails)), .v (.int .i64 (v.Wins)), .v (.int .i64 (v.Wait.Kind)), .v (.int .u64 (v.Wait.Bits)), .gs 5, .v (.int .u64 (v.Seed))], .cells (AdvPDU.cells q), .cells [.v (.int .i64 (w.Params.Interval)), .v (.int .i64 (w.Params.Window)), .v (.bool (w.Params.Active)), .v (.int .i64 (w.Params.Policy)), .v (.slice none 0 0), .v (.slice none 0 0), .v (.int .i64 (w.Params.Own.Kind)), .v (.int .u64 (w.Params.Own.Bits)), .v (.bool (w.Params.Unique)), .v (.bool (w.On)), .v (.int .i64 (w.Start)), .v (.int .i64 (w.Upper)), .v (.int .i64 (w.Count)), .v (.int .i64 (w.Fails)), .v (.int .i64 (w.Wins)), .v (.int .i64 (w.Wait.Kind)), .v (.int .u64 (w.Wait.Bits)), .v (.slice none 0 0), .v (.int .u64 (w.Seed))], .row 26 (u.Params.Accept:List (El 26)), .row 88 (u.Params.Identities:List (El 88)), .row 26 (u.Seen:List (El 26))]))
theorem rep.nf_ok (v:Scanner) (q:AdvPDU) (w:Scanner) (u:Scanner) (p:AdvPDU) (t:Int) (Q:AV El→List (AObj El)→Prop): evFun (mkCxL Tryz.prog S tab_r22Start 0 true true sum_fIdx) 3 29 (RA u p t) (RH v q w u) Q=rep.nf v q w u p t Q:=by kernel_rfl
theorem rep.key (v:Scanner) (q:AdvPDU) (w:Scanner) (u:Scanner) (p:AdvPDU) (t:Int) (hp:u.Params.Accept.length≤4611686018427∧u.Params.Identities.length≤4611686018427∧u.Seen.length≤4611686018427∧p.Data.length≤140737488355328) (Q:AV El→List (AObj El)→Prop) (hv:rep.out v q w u p t Q): evFun (mkCxL Tryz.prog S tab_r22Start 0 true true sum_fIdx) 3 29 (RA u p t) (RH v q w u) Q:=by
 rw [rep.nf_ok]
 unfold rep.out at hv
 unfold rep.nf
 revert hv;refine by_condP (fun hb hv=>?_) (fun hb hv=>?_)
 ·intro hlen
  exact rep.lp v q w u p t hp Q _ _ hv (by unfold rep.rng;(try clear hv);(try clear q1 q2);(omega)) _ (by kernel_rfl) (by kernel_rfl)
 ·refine ⟨⟨by (try clear hv);(try clear q1 q2);(first | omega | ((try simp only [decide_eq_true_eq,decide_eq_false_iff_not,List.length_drop,List.length_append,List.length_cons,List.length_nil] at *);omega)| (simp_all;done))⟩, ?_⟩
  exact hv
section
variable {R:Type}
def popG (n:Nat) (cs:List (AV El)) (f:List (AV El)→Option R): Option R :=
 match cs with
 | .gs m::l=>bif Nat.beq m n then f l else none
 | _=>none
def popN (cs:List (AV El)) (f:List (AV El)→Option R): Option R :=
 match cs with
 | .v (.slice none 0 0):: l=>f l
 | _=>none
def popX (t:TypeId) (cs:List (AV El)) (f:List (El t)→List (AV El)→Option R): Option R :=
 match cs with
 | .sl u xs false::l=>if h:u=t then f (h ▸ xs) l else none
 | _=>none
def rowX (t:TypeId) (o:AObj El) (f:List (El t)→Option R): Option R :=
 match o with
 | .row u xs=>if h:u=t then f (h ▸ xs) else none
 | _=>none
theorem popG_some {n:Nat} {cs:List (AV El)} {f:List (AV El)→Option R} {r:R} (h:popG n cs f=some r): ∃l,cs = .gs n::l∧f l=some r:=by
 unfold popG at h
 split at h
 ·obtain ⟨h1,h2⟩:= cond_some h
  have:=Nat.eq_of_beq_eq_true h1
  subst this
  exact ⟨_,rfl,h2⟩
 ·cases h
theorem popN_some {cs:List (AV El)} {f:List (AV El)→Option R} {r:R} (h:popN cs f=some r): ∃l,cs = .v (.slice none 0 0):: l∧f l=some r:=by
 unfold popN at h
 split at h
 ·exact ⟨_,rfl,h⟩
 ·cases h
theorem popX_some {t:TypeId} {cs:List (AV El)} {f:List (El t)→List (AV El)→Option R} {r:R} (h:popX t cs f=some r): ∃xs l,cs = .sl t xs false::l∧f xs l=some r:=by
 unfold popX at h
 split at h
 ·split at h
  ·rename_i hu
   subst hu
   exact ⟨_,_,rfl,h⟩
  ·cases h
 ·cases h
theorem rowX_some {t:TypeId} {o:AObj El} {f:List (El t)→Option R} {r:R} (h:rowX t o f=some r): ∃xs,o = .row t xs∧f xs=some r:=by
 unfold rowX at h
 split at h
 ·split at h
  ·rename_i hu
   subst hu
   exact ⟨_,rfl,h⟩
  ·cases h
 ·cases h
end
def gDec (acc:List Address) (ids:List Identity) (seen:List Address) (cs:List (AV El)): Option Scanner:=popI .i64 cs fun a0 c0=>popI .i64 c0 fun a1 c1=>popB c1 fun a2 c2=>popI .i64 c2 fun a3 c3=>popG 3 c3 fun c4=>popG 4 c4 fun c5=>popI .i64 c5 fun a6 c6=>popI .u64 c6 fun a7 c7=>popB c7 fun a8 c8=>popB c8 fun a9 c9=>popI .i64 c9 fun a10 c10=>popI .i64 c10 fun a11 c11=>popI .i64 c11 fun a12 c12=>popI .i64 c12 fun a13 c13=>popI .i64 c13 fun a14 c14=>popI .i64 c14 fun a15 c15=>popI .u64 c15 fun a16 c16=>popG 5 c16 fun c17=>popI .u64 c17 fun a18 c18=>popE c18 ⟨⟨a0,a1,a2,a3,acc,ids,⟨a6,a7⟩,a8⟩,a9,a10,a11,a12,a13,a14,⟨a15,a16⟩,seen,a18⟩
theorem gDec_ok (acc:List Address) (ids:List Identity) (seen:List Address) {cs:List (AV El)} {x:Scanner} (h:gDec acc ids seen cs=some x): cs=gcells x 3 4 5∧x.Params.Accept=acc∧x.Params.Identities=ids∧x.Seen=seen:=by
 unfold gDec at h
 obtain ⟨a0,c0,rfl,h0⟩:= popI_some (S:=S) h
 obtain ⟨a1,c1,rfl,h1⟩:= popI_some (S:=S) h0
 obtain ⟨a2,c2,rfl,h2⟩:= popB_some (S:=S) h1
 obtain ⟨a3,c3,rfl,h3⟩:= popI_some (S:=S) h2
 obtain ⟨c4,rfl,h4⟩:= popG_some h3
 obtain ⟨c5,rfl,h5⟩:= popG_some h4
 obtain ⟨a6,c6,rfl,h6⟩:= popI_some (S:=S) h5
 obtain ⟨a7,c7,rfl,h7⟩:= popI_some (S:=S) h6
 obtain ⟨a8,c8,rfl,h8⟩:= popB_some (S:=S) h7
 obtain ⟨a9,c9,rfl,h9⟩:= popB_some (S:=S) h8
 obtain ⟨a10,c10,rfl,h10⟩:= popI_some (S:=S) h9
 obtain ⟨a11,c11,rfl,h11⟩:= popI_some (S:=S) h10
 obtain ⟨a12,c12,rfl,h12⟩:= popI_some (S:=S) h11
 obtain ⟨a13,c13,rfl,h13⟩:= popI_some (S:=S) h12
 obtain ⟨a14,c14,rfl,h14⟩:= popI_some (S:=S) h13
 obtain ⟨a15,c15,rfl,h15⟩:= popI_some (S:=S) h14
 obtain ⟨a16,c16,rfl,h16⟩:= popI_some (S:=S) h15
 obtain ⟨c17,rfl,h17⟩:= popG_some h16
 obtain ⟨a18,c18,rfl,h18⟩:= popI_some (S:=S) h17
 obtain ⟨rfl,rfl⟩:= popE_some (S:=S) h18
 exact ⟨rfl,rfl,rfl,rfl⟩
def nDec (cs:List (AV El)): Option Scanner:=popI .i64 cs fun a0 c0=>popI .i64 c0 fun a1 c1=>popB c1 fun a2 c2=>popI .i64 c2 fun a3 c3=>popN c3 fun c4=>popN c4 fun c5=>popI .i64 c5 fun a6 c6=>popI .u64 c6 fun a7 c7=>popB c7 fun a8 c8=>popB c8 fun a9 c9=>popI .i64 c9 fun a10 c10=>popI .i64 c10 fun a11 c11=>popI .i64 c11 fun a12 c12=>popI .i64 c12 fun a13 c13=>popI .i64 c13 fun a14 c14=>popI .i64 c14 fun a15 c15=>popI .u64 c15 fun a16 c16=>popN c16 fun c17=>popI .u64 c17 fun a18 c18=>popE c18 ⟨⟨a0,a1,a2,a3,[],[],⟨a6,a7⟩,a8⟩,a9,a10,a11,a12,a13,a14,⟨a15,a16⟩,[],a18⟩
theorem nDec_ok {cs:List (AV El)} {x:Scanner} (h:nDec cs=some x): cs=ncells x:=by
 unfold nDec at h
 obtain ⟨a0,c0,rfl,h0⟩:= popI_some (S:=S) h
 obtain ⟨a1,c1,rfl,h1⟩:= popI_some (S:=S) h0
 obtain ⟨a2,c2,rfl,h2⟩:= popB_some (S:=S) h1
 obtain ⟨a3,c3,rfl,h3⟩:= popI_some (S:=S) h2
 obtain ⟨c4,rfl,h4⟩:= popN_some h3
 obtain ⟨c5,rfl,h5⟩:= popN_some h4
 obtain ⟨a6,c6,rfl,h6⟩:= popI_some (S:=S) h5
 obtain ⟨a7,c7,rfl,h7⟩:= popI_some (S:=S) h6
 obtain ⟨a8,c8,rfl,h8⟩:= popB_some (S:=S) h7
 obtain ⟨a9,c9,rfl,h9⟩:= popB_some (S:=S) h8
 obtain ⟨a10,c10,rfl,h10⟩:= popI_some (S:=S) h9
 obtain ⟨a11,c11,rfl,h11⟩:= popI_some (S:=S) h10
 obtain ⟨a12,c12,rfl,h12⟩:= popI_some (S:=S) h11
 obtain ⟨a13,c13,rfl,h13⟩:= popI_some (S:=S) h12
 obtain ⟨a14,c14,rfl,h14⟩:= popI_some (S:=S) h13
 obtain ⟨a15,c15,rfl,h15⟩:= popI_some (S:=S) h14
 obtain ⟨a16,c16,rfl,h16⟩:= popI_some (S:=S) h15
 obtain ⟨c17,rfl,h17⟩:= popN_some h16
 obtain ⟨a18,c18,rfl,h18⟩:= popI_some (S:=S) h17
 obtain ⟨rfl,rfl⟩:= popE_some (S:=S) h18
 rfl
def pDec (cs:List (AV El)): Option AdvPDU:=popI .i64 cs fun a0 c0=>popI .i64 c0 fun a1 c1=>popI .u64 c1 fun a2 c2=>popI .i64 c2 fun a3 c3=>popI .u64 c3 fun a4 c4=>popX 5 c4 fun a5 c5=>popI .u32 c5 fun a6 c6=>popI .u32 c6 fun a7 c7=>popI .i64 c7 fun a8 c8=>popI .i64 c8 fun a9 c9=>popI .i64 c9 fun a10 c10=>popI .i64 c10 fun a11 c11=>popI .i64 c11 fun a12 c12=>popI .u64 c12 fun a13 c13=>popI .i64 c13 fun a14 c14=>popI .i64 c14 fun a15 c15=>popI .i64 c15 fun a16 c16=>popE c16 ⟨a0,⟨a1,a2⟩,⟨a3,a4⟩,a5,⟨a6,a7,⟨a8,a9,a10,a11,a12⟩,a13,a14,a15,a16⟩⟩
theorem pDec_ok {cs:List (AV El)} {x:AdvPDU} (h:pDec cs=some x): cs=AdvPDU.cells x:=by
 unfold pDec at h
 obtain ⟨a0,c0,rfl,h0⟩:= popI_some (S:=S) h
 obtain ⟨a1,c1,rfl,h1⟩:= popI_some (S:=S) h0
 obtain ⟨a2,c2,rfl,h2⟩:= popI_some (S:=S) h1
 obtain ⟨a3,c3,rfl,h3⟩:= popI_some (S:=S) h2
 obtain ⟨a4,c4,rfl,h4⟩:= popI_some (S:=S) h3
 obtain ⟨a5,c5,rfl,h5⟩:= popX_some h4
 obtain ⟨a6,c6,rfl,h6⟩:= popI_some (S:=S) h5
 obtain ⟨a7,c7,rfl,h7⟩:= popI_some (S:=S) h6
 obtain ⟨a8,c8,rfl,h8⟩:= popI_some (S:=S) h7
 obtain ⟨a9,c9,rfl,h9⟩:= popI_some (S:=S) h8
 obtain ⟨a10,c10,rfl,h10⟩:= popI_some (S:=S) h9
 obtain ⟨a11,c11,rfl,h11⟩:= popI_some (S:=S) h10
 obtain ⟨a12,c12,rfl,h12⟩:= popI_some (S:=S) h11
 obtain ⟨a13,c13,rfl,h13⟩:= popI_some (S:=S) h12
 obtain ⟨a14,c14,rfl,h14⟩:= popI_some (S:=S) h13
 obtain ⟨a15,c15,rfl,h15⟩:= popI_some (S:=S) h14
 obtain ⟨a16,c16,rfl,h16⟩:= popI_some (S:=S) h15
 obtain ⟨rfl,rfl⟩:= popE_some (S:=S) h16
 rfl
def rep.hit (u:Scanner) (p:AdvPDU) (x:Address): Bool:=x.Kind==(scEntry u p).Kind && x.Bits==(scEntry u p).Bits
def rep.end (v:Scanner) (q:AdvPDU) (w u:Scanner) (p:AdvPDU) (t:Int) (Q:AV El→List (AObj El)→Prop): Prop:=cond (decide ((64:Int)≤(↑(List.length u.Seen): Int))) (Q (.tup [.agg [.v (.int .i64 (u.Params.Interval)), .v (.int .i64 (u.Params.Window)), .v (.bool (u.Params.Active)), .v (.int .i64 (u.Params.Policy)), .gs 3, .gs 4, .v (.int .i64 (u.Params.Own.Kind)), .v (.int .u64 (u.Params.Own.Bits)), .v (.bool (u.Params.Unique)), .v (.bool (u.On)), .v (.int .i64 (u.Start)), .v (.int .i64 (u.Upper)), .v (.int .i64 (u.Count)), .v (.int .i64 (u.Fails)), .v (.int .i64 (u.Wins)), .v (.int .i64 (u.Wait.Kind)), .v (.int .u64 (u.Wait.Bits)), .gs 6, .v (.int .u64 (u.Seed))], .sl 64 ([{Time:=t,Kind:=p.Kind,Sender:=p.Sender,Identity:=pFind u.Params.Identities p.Sender,Data:=clB p.Data:Report}]: List (El 64)) true]) [.cells [.v (.int .i64 (v.Params.Interval)), .v (.int .i64 (v.Params.Window)), .v (.bool (v.Params.Active)), .v (.int .i64 (v.Params.Policy)), .gs 3, .gs 4, .v (.int .i64 (v.Params.Own.Kind)), .v (.int .u64 (v.Params.Own.Bits)), .v (.bool (v.Params.Unique)), .v (.bool (v.On)), .v (.int .i64 (v.Start)), .v (.int .i64 (v.Upper)), .v (.int .i64 (v.Count)), .v (.int .i64 (v.Fails)), .v (.int .i64 (v.Wins)), .v (.int .i64 (v.Wait.Kind)), .v (.int .u64 (v.Wait.Bits)), .gs 5, .v (.int .u64 (v.Seed))], .cells (AdvPDU.cells q), .cells [.v (.int .i64 (w.Params.Interval)), .v (.int .i64 (w.Params.Window)), .v (.bool (w.Params.Active)), .v (.int .i64 (w.Params.Policy)), .v (.slice none 0 0), .v (.slice none 0 0), .v (.int .i64 (w.Params.Own.Kind)), .v (.int .u64 (w.Params.Own.Bits)), .v (.bool (w.Params.Unique)), .v (.bool (w.On)), .v (.int .i64 (w.Start)), .v (.int .i64 (w.Upper)), .v (.int .i64 (w.Count)), .v (.int .i64 (w.Fails)), .v (.int .i64 (w.Wins)), .v (.int .i64 (w.Wait.Kind)), .v (.int .u64 (w.Wait.Bits)), .v (.slice none 0 0), .v (.int .u64 (w.Seed))], .row 26 (u.Params.Accept:List (El 26)), .row 88 (u.Params.Identities:List (El 88)), .gone, .row 26 (List.drop (Int.toNat (1:Int)) u.Seen ++ [scEntry u p]: List (El 26))]) (Q (.tup [.agg [.v (.int .i64 (u.Params.Interval)), .v (.int .i64 (u.Params.Window)), .v (.bool (u.Params.Active)), .v (.int .i64 (u.Params.Policy)), .gs 3, .gs 4, .v (.int .i64 (u.Params.Own.Kind)), .v (.int .u64 (u.Params.Own.Bits)), .v (.bool (u.Params.Unique)), .v (.bool (u.On)), .v (.int .i64 (u.Start)), .v (.int .i64 (u.Upper)), .v (.int .i64 (u.Count)), .v (.int .i64 (u.Fails)), .v (.int .i64 (u.Wins)), .v (.int .i64 (u.Wait.Kind)), .v (.int .u64 (u.Wait.Bits)), .gs 6, .v (.int .u64 (u.Seed))], .sl 64 ([{Time:=t,Kind:=p.Kind,Sender:=p.Sender,Identity:=pFind u.Params.Identities p.Sender,Data:=clB p.Data:Report}]: List (El 64)) true]) [.cells [.v (.int .i64 (v.Params.Interval)), .v (.int .i64 (v.Params.Window)), .v (.bool (v.Params.Active)), .v (.int .i64 (v.Params.Policy)), .gs 3, .gs 4, .v (.int .i64 (v.Params.Own.Kind)), .v (.int .u64 (v.Params.Own.Bits)), .v (.bool (v.Params.Unique)), .v (.bool (v.On)), .v (.int .i64 (v.Start)), .v (.int .i64 (v.Upper)), .v (.int .i64 (v.Count)), .v (.int .i64 (v.Fails)), .v (.int .i64 (v.Wins)), .v (.int .i64 (v.Wait.Kind)), .v (.int .u64 (v.Wait.Bits)), .gs 5, .v (.int .u64 (v.Seed))], .cells (AdvPDU.cells q), .cells [.v (.int .i64 (w.Params.Interval)), .v (.int .i64 (w.Params.Window)), .v (.bool (w.Params.Active)), .v (.int .i64 (w.Params.Policy)), .v (.slice none 0 0), .v (.slice none 0 0), .v (.int .i64 (w.Params.Own.Kind)), .v (.int .u64 (w.Params.Own.Bits)), .v (.bool (w.Params.Unique)), .v (.bool (w.On)), .v (.int .i64 (w.Start)), .v (.int .i64 (w.Upper)), .v (.int .i64 (w.Count)), .v (.int .i64 (w.Fails)), .v (.int .i64 (w.Wins)), .v (.int .i64 (w.Wait.Kind)), .v (.int .u64 (w.Wait.Bits)), .v (.slice none 0 0), .v (.int .u64 (w.Seed))], .row 26 (u.Params.Accept:List (El 26)), .row 88 (u.Params.Identities:List (El 88)), .gone, .row 26 (u.Seen ++ [scEntry u p]: List (El 26))])
def rep.hitQ (v:Scanner) (q:AdvPDU) (w u:Scanner) (p:AdvPDU) (t:Int) (Q:AV El→List (AObj El)→Prop): Prop:=Q (.tup [.agg [.v (.int .i64 (u.Params.Interval)), .v (.int .i64 (u.Params.Window)), .v (.bool (u.Params.Active)), .v (.int .i64 (u.Params.Policy)), .gs 3, .gs 4, .v (.int .i64 (u.Params.Own.Kind)), .v (.int .u64 (u.Params.Own.Bits)), .v (.bool (u.Params.Unique)), .v (.bool (u.On)), .v (.int .i64 (u.Start)), .v (.int .i64 (u.Upper)), .v (.int .i64 (u.Count)), .v (.int .i64 (u.Fails)), .v (.int .i64 (u.Wins)), .v (.int .i64 (u.Wait.Kind)), .v (.int .u64 (u.Wait.Bits)), .gs 5, .v (.int .u64 (u.Seed))], .v (.slice none 0 0)]) [.cells [.v (.int .i64 (v.Params.Interval)), .v (.int .i64 (v.Params.Window)), .v (.bool (v.Params.Active)), .v (.int .i64 (v.Params.Policy)), .gs 3, .gs 4, .v (.int .i64 (v.Params.Own.Kind)), .v (.int .u64 (v.Params.Own.Bits)), .v (.bool (v.Params.Unique)), .v (.bool (v.On)), .v (.int .i64 (v.Start)), .v (.int .i64 (v.Upper)), .v (.int .i64 (v.Count)), .v (.int .i64 (v.Fails)), .v (.int .i64 (v.Wins)), .v (.int .i64 (v.Wait.Kind)), .v (.int .u64 (v.Wait.Bits)), .gs 5, .v (.int .u64 (v.Seed))], .cells (AdvPDU.cells q), .cells [.v (.int .i64 (w.Params.Interval)), .v (.int .i64 (w.Params.Window)), .v (.bool (w.Params.Active)), .v (.int .i64 (w.Params.Policy)), .v (.slice none 0 0), .v (.slice none 0 0), .v (.int .i64 (w.Params.Own.Kind)), .v (.int .u64 (w.Params.Own.Bits)), .v (.bool (w.Params.Unique)), .v (.bool (w.On)), .v (.int .i64 (w.Start)), .v (.int .i64 (w.Upper)), .v (.int .i64 (w.Count)), .v (.int .i64 (w.Fails)), .v (.int .i64 (w.Wins)), .v (.int .i64 (w.Wait.Kind)), .v (.int .u64 (w.Wait.Bits)), .v (.slice none 0 0), .v (.int .u64 (w.Seed))], .row 26 (u.Params.Accept:List (El 26)), .row 88 (u.Params.Identities:List (El 88)), .row 26 (u.Seen:List (El 26))]
def rep.any (v:Scanner) (q:AdvPDU) (w u:Scanner) (p:AdvPDU) (t:Int) (Q:AV El→List (AObj El)→Prop): Prop:=Q (.tup [.agg [.v (.int .i64 (u.Params.Interval)), .v (.int .i64 (u.Params.Window)), .v (.bool (u.Params.Active)), .v (.int .i64 (u.Params.Policy)), .gs 3, .gs 4, .v (.int .i64 (u.Params.Own.Kind)), .v (.int .u64 (u.Params.Own.Bits)), .v (.bool (u.Params.Unique)), .v (.bool (u.On)), .v (.int .i64 (u.Start)), .v (.int .i64 (u.Upper)), .v (.int .i64 (u.Count)), .v (.int .i64 (u.Fails)), .v (.int .i64 (u.Wins)), .v (.int .i64 (u.Wait.Kind)), .v (.int .u64 (u.Wait.Bits)), .gs 5, .v (.int .u64 (u.Seed))], .sl 64 ([{Time:=t,Kind:=p.Kind,Sender:=p.Sender,Identity:=pFind u.Params.Identities p.Sender,Data:=clB p.Data:Report}]: List (El 64)) true]) [.cells [.v (.int .i64 (v.Params.Interval)), .v (.int .i64 (v.Params.Window)), .v (.bool (v.Params.Active)), .v (.int .i64 (v.Params.Policy)), .gs 3, .gs 4, .v (.int .i64 (v.Params.Own.Kind)), .v (.int .u64 (v.Params.Own.Bits)), .v (.bool (v.Params.Unique)), .v (.bool (v.On)), .v (.int .i64 (v.Start)), .v (.int .i64 (v.Upper)), .v (.int .i64 (v.Count)), .v (.int .i64 (v.Fails)), .v (.int .i64 (v.Wins)), .v (.int .i64 (v.Wait.Kind)), .v (.int .u64 (v.Wait.Bits)), .gs 5, .v (.int .u64 (v.Seed))], .cells (AdvPDU.cells q), .cells [.v (.int .i64 (w.Params.Interval)), .v (.int .i64 (w.Params.Window)), .v (.bool (w.Params.Active)), .v (.int .i64 (w.Params.Policy)), .v (.slice none 0 0), .v (.slice none 0 0), .v (.int .i64 (w.Params.Own.Kind)), .v (.int .u64 (w.Params.Own.Bits)), .v (.bool (w.Params.Unique)), .v (.bool (w.On)), .v (.int .i64 (w.Start)), .v (.int .i64 (w.Upper)), .v (.int .i64 (w.Count)), .v (.int .i64 (w.Fails)), .v (.int .i64 (w.Wins)), .v (.int .i64 (w.Wait.Kind)), .v (.int .u64 (w.Wait.Bits)), .v (.slice none 0 0), .v (.int .u64 (w.Seed))], .row 26 (u.Params.Accept:List (El 26)), .row 88 (u.Params.Identities:List (El 88)), .row 26 (u.Seen:List (El 26))]
def rep.fin (v:Scanner) (q:AdvPDU) (w u:Scanner) (p:AdvPDU) (t:Int) (Q:AV El→List (AObj El)→Prop): Prop:=cond u.Params.Unique (cond (u.Seen.any (rep.hit u p)) (rep.hitQ v q w u p t Q) (rep.end v q w u p t Q)) (rep.any v q w u p t Q)
theorem cond_imp2 {b:Bool} {X Y X2 Y2:Prop} (h1:X→X2) (h2:Y→Y2) (h:cond b X Y): cond b X2 Y2:=by
 cases b
 ·exact h2 h
 ·exact h1 h
theorem rep.go_of (v:Scanner) (q:AdvPDU) (w u:Scanner) (p:AdvPDU) (t:Int) (Q:AV El→List (AObj El)→Prop) (hl:u.Seen.length≤4611686018427): ∀(n:Nat) (i:Int),0≤i→i≤u.Seen.length→(u.Seen.length - i).toNat < n→cond ((u.Seen.drop i.toNat).any (rep.hit u p)) (rep.hitQ v q w u p t Q) (rep.end v q w u p t Q)→rep.go v q w u p t Q n i
 | 0,i,h0,h1,h2,_=>by omega
 | n+1,i,h0,h1,h2,h=>by
  unfold rep.go
  by_cases hi:i < (u.Seen.length:Int)
  ·rw [decide_eq_true hi,cond_true]
   have hj:i.toNat < u.Seen.length:=by omega
   rw [List.drop_eq_getElem_cons hj,List.any_cons] at h
   have e:List.getD u.Seen i.toNat Address.zero=u.Seen[i.toNat]:= by simp only [List.getD,List.getElem?_eq_getElem hj,Option.getD_some]
   rw [e]
   cases hh:rep.hit u p u.Seen[i.toNat] with
   | true =>
    rw [hh,Bool.true_or,cond_true] at h
    unfold rep.hit at hh
    rw [hh,cond_true]
    exact h
   | false =>
    rw [hh,Bool.false_or] at h
    unfold rep.hit at hh
    rw [hh,cond_false]
    have hw:IntKind.wrap IntKind.i64 (i+(1:Int))= i+1:=wi64 _ (by omega) (by omega)
    rw [hw]
    refine rep.go_of v q w u p t Q hl n (i+1) (by omega) (by omega) (by omega) ?_
    rw [show (i+1).toNat=i.toNat+1 by omega]
    exact h
  ·rw [decide_eq_false hi,cond_false]
   rw [List.drop_of_length_le (by omega)] at h
   exact h
theorem rep.out_of (v:Scanner) (q:AdvPDU) (w u:Scanner) (p:AdvPDU) (t:Int) (Q:AV El→List (AObj El)→Prop) (hp:u.Params.Accept.length≤4611686018427∧u.Params.Identities.length≤4611686018427∧u.Seen.length≤4611686018427∧p.Data.length≤140737488355328) (h:rep.fin v q w u p t Q): rep.out v q w u p t Q:=by
 unfold rep.fin at h
 unfold rep.out
 refine cond_imp2 (fun h=>?_) (fun h=>?_) h
 ·exact rep.go_of v q w u p t Q hp.2.2.1 _ 0 (by omega) (by omega) (by omega) h
 ·unfold rep.any at h
  exact h
def repP (u:Scanner) (p:AdvPDU): Prop:=u.Params.Accept.length≤4611686018427∧u.Params.Identities.length≤4611686018427∧u.Seen.length≤4611686018427∧p.Data.length≤140737488355328
def repR (args:List (AV El)) (H:List (AObj El)) (K:AV El→List (AObj El)→Prop): Prop :=
 match args,H with
 | [.agg ca, .agg pa, .v (.int .i64 t)],[.cells cv, .cells pq, .cells cw,ra,ri,rs]=>
  match rowX 26 ra (fun acc=>rowX 88 ri fun ids=>rowX 26 rs fun seen=>match gDec acc ids seen ca,pDec pa,gDec [] [] [] cv,pDec pq,nDec cw with
   | some u,some p,some v,some q,some w=>some (u,p,v,q,w)
   | _,_,_,_,_=>none) with
  | some (u,p,v,q,w)=> Ob (repP u p)∧rep.fin v q w u p t K
  | none=>False
 | _,_=>False
theorem repR_ok (args:List (AV El)) (H:List (AObj El)) (K:AV El→List (AObj El)→Prop) (h:repR args H K): evFun (mkCxL Tryz.prog S tab_r22Start 0 true true sum_fIdx) 3 29 args H K:=by
 unfold repR at h
 split at h
 ·split at h
  ·rename_i _ _ ca pa t cv pq cw ra ri rs _ u p v q w hd
   obtain ⟨acc,e1,hd1⟩:= rowX_some hd
   obtain ⟨ids,e2,hd2⟩:= rowX_some hd1
   obtain ⟨seen,e3,hd3⟩:= rowX_some hd2
   subst e1 e2 e3
   clear hd hd1 hd2
   split at hd3
   ·rename_i h1 h2 h3 h4 h5
    simp only [Option.some.injEq,Prod.mk.injEq] at hd3
    obtain ⟨rfl,rfl,rfl,rfl,rfl⟩:= hd3
    obtain ⟨rfl,rfl,rfl,rfl⟩:= gDec_ok _ _ _ h1
    have:=pDec_ok h2;subst this
    obtain ⟨rfl, -, -, -⟩:= gDec_ok _ _ _ h3
    have:=pDec_ok h4;subst this
    have:=nDec_ok h5;subst this
    exact rep.key _ _ _ _ _ t h.1.out K (rep.out_of _ _ _ _ _ t K h.1.out h.2)
   ·cases hd3
  ·exact h.elim
 ·exact h.elim
end Go.Aw.W
