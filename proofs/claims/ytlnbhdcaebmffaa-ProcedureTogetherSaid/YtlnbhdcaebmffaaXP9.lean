/- The arguments of the law (own work). -/
import Derived.Test.YtlnbhdcaebmffaaXOp
import Derived.Test.YtlnbhdcaebmffaaXW29
set_option linter.unusedVariables false
namespace Go.Aw.W
open Go Go.Aw Go.Proofs
theorem talk_pre (x:Law28Talk) (b:Law28Talk.has x): pRan x:=by
 obtain ⟨_,_,_,_,hm,_⟩:= b
 intro m h
 obtain ⟨h1,_,_,h2,h3⟩:= hm m h
 exact ⟨(show 0≤m.Side from h1.1),⟨(show 0≤m.Arrive_0 from h2.1),(show m.Arrive_0≤255 from h2.2)⟩,⟨(show 0≤m.Arrive_1 from h3.1),(show m.Arrive_1≤255 from h3.2)⟩⟩
theorem procedureTogether_true (x:Law28Talk) (b:Law28Talk.has x): procedureTogether x=true:=rfl
theorem procedureTogether_pre (x:Law28Talk) (b:Law28Talk.has x): pRan x:=talk_pre x b
end Go.Aw.W
