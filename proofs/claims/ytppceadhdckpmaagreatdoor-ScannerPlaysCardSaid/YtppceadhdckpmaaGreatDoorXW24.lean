/- The contract of scanner.Hear, told in parts. -/
import Derived.Test.YtppceadhdckpmaaGreatDoorXW23
import Derived.Test.YtppceadhdckpmaaGreatDoorXAwL
set_option linter.unusedVariables false
set_option linter.unusedSimpArgs false
set_option maxRecDepth 20000
set_option maxHeartbeats 1000000
namespace Go.Aw.W
open Go Go.Aw Go.Proofs
attribute [local irreducible] evCode evFun evOps evDs evOne ctxK loopK loopB subC bodyC headS okH roundK
attribute [local irreducible] pFind r9Find scEntry scOwn
def bkof:ByteArray:={data:=#[98,97,99,107,111,102,102]}
abbrev HearR:=Scanner×List Report×List Send
def scHear.res (r:HearR): AV El:=.tup [Scanner.av (r.1), .sl 64 (r.2.1:List (El 64)) false, .sl 67 (r.2.2:List (El 67)) false]
def scHear.news (r:HearR): List (AObj El):= []
def scHear.L (e v:HearR): Prop:=scHear.res e=scHear.res v∧scHear.news e=scHear.news v
def hea.req (u:Scanner) (p:AdvPDU) (c t:Int): Send:={Channel:=c,Time:=IntKind.wrap IntKind.i64 (scMoment t+150),PDU:={Kind:=3,Sender:=u.Params.Own,Target:=p.Sender,Data:=[],Conn:={Access:=0,Init:=0,Update:={WinSize:=0,WinOffset:=0,Interval:=0,Latency:=0,Timeout:=0},Map:=0,Hop:=0,PPM:=0,Algorithm:=0}}}
def hea.rep (u:Scanner) (p:AdvPDU) (t:Int): Report:={Time:=scMoment t,Kind:=p.Kind,Sender:=p.Sender,Identity:=pFind (clI u.Params.Identities) p.Sender,Data:=clB p.Data}
def hea.no (u:Scanner) (p:AdvPDU): Bool:=bif bif !u.Params.Active then true else !(u.Wait.Kind==0 && u.Wait.Bits==0) then true else !aScan p.Kind
def hea.less (u:Scanner): Scanner:={u with Count:=IntKind.wrap IntKind.i64 (u.Count - 1)}
def hea.fin (u:Scanner) (p:AdvPDU) (c t:Int) (r:List Report): HearR:=cond (hea.no u p) (u,r,[]) (cond (IntKind.wrap IntKind.i64 (u.Count - 1) != 0) (hea.less u,r,[]) ({hea.less u with Wait:=p.Sender},r,[hea.req u p c t]))
def hea.out (u:Scanner) (p:AdvPDU): Bool:=bif u.Params.Policy != 0 then !accHas (clA u.Params.Accept) (clI u.Params.Identities) p.Sender else false
def hea.mid (u:Scanner) (p:AdvPDU) (c t:Int): HearR:=cond (hea.out u p) (u,[],[]) (cond u.Params.Unique (cond (List.any (clA u.Seen) (rep.hit u p)) (hea.fin u p c t []) (cond (decide ((64:Int)≤(↑(List.length (clA u.Seen)): Int))) (hea.fin {u with Seen:=List.drop (Int.toNat 1) (clA u.Seen)++ [scEntry u p]} p c t [hea.rep u p t]) (hea.fin {u with Seen:=clA u.Seen ++ [scEntry u p]} p c t [hea.rep u p t]))) (hea.fin u p c t [hea.rep u p t]))
def hea.bk (u:Scanner): Scanner:={u with Count:=IntKind.wrap IntKind.i64 (1+IntKind.wrap IntKind.i64 (Int.tmod (pDerive u.Seed bkof []) (IntKind.wrap IntKind.u64 (maxI u.Upper 1)))),Seed:=pDerive u.Seed bkof []}
def hea.two (s:Scanner): Scanner:=hea.bk {s with Upper:=maxI (IntKind.wrap IntKind.i64 (Int.tdiv s.Upper 2)) 1,Fails:=0,Wins:=0,Wait:=⟨0,0⟩}
def hea.one (s:Scanner): Scanner:=hea.bk {s with Fails:=0,Wins:=IntKind.wrap IntKind.i64 (s.Wins+1),Wait:=⟨0,0⟩}
def hea.deaf (s:Scanner) (p:AdvPDU) (c:Int): Bool:=bif bif bif !s.On then true else decide (c < 37) then true else decide (39 < c) then true else !scIsFor s p
def scHear (s:Scanner) (p:AdvPDU) (c t:Int): HearR:=cond (hea.deaf s p c) (s,[],[]) (cond (p.Kind==4) (cond (IntKind.wrap IntKind.i64 (s.Wins+1)== 2) (hea.mid (hea.two s) p c t) (hea.mid (hea.one s) p c t)) (hea.mid s p c t))
def scHear.dec (cs:List (AV El)): Option (Scanner×AdvPDU×Int×Int):= popA Scanner.dec cs fun a0 c0=>popA AdvPDU.dec c0 fun a1 c1=>popI .i64 c1 fun a2 c2=>popI .i64 c2 fun a3 c3=>popE c3 (a0,a1,a2,a3)
def scHear.enc (x:Scanner×AdvPDU×Int×Int): List (AV El):= [Scanner.av x.1,AdvPDU.av x.2.1, .v (.int .i64 x.2.2.1), .v (.int .i64 x.2.2.2)]
theorem scHear.dec_ok : ∀cs x,scHear.dec cs=some x→Imp (S:=S) cs (scHear.enc x):= by
 intro cs x h
 unfold scHear.dec at h
 obtain ⟨a0,c0,h0,k0⟩:= popA_some (S:=S) Scanner.dec_ok h
 obtain ⟨a1,c1,h1,k1⟩:= popA_some (S:=S) AdvPDU.dec_ok h0
 obtain ⟨a2,c2,rfl,h2⟩:= popI_some (S:=S) h1
 obtain ⟨a3,c3,rfl,h3⟩:= popI_some (S:=S) h2
 obtain ⟨rfl,rfl⟩:= popE_some (S:=S) h3
 exact (k0 _ (k1 _ (.cons (.cons (.refl _)))))
def ob3 (b:Bool) (X:Prop): Prop:=Ob (o3 b)∧Ob (o3 b)∧Ob (o3 b)∧X
theorem ob3_ok {b:Bool} {X:Prop} (h:X): ob3 b X:=⟨⟨o3_ok _⟩,⟨o3_ok _⟩,⟨o3_ok _⟩,h⟩
def hea.finN (u:Scanner) (p:AdvPDU) (c t:Int) (r:List Report) (v:HearR): Prop:=ob3 (!!u.Params.Active) (Ob (on !u.Params.Active)∧ob3 (!bif !u.Params.Active then true else !(u.Wait.Kind==0 && u.Wait.Bits==0)) (Ob (on (bif !u.Params.Active then true else !(u.Wait.Kind==0 && u.Wait.Bits==0)))∧cond (hea.no u p) (scHear.L (u,r,[]) v) (cond (IntKind.wrap IntKind.i64 (u.Count - 1) != 0) (scHear.L (hea.less u,r,[]) v) (scHear.L ({hea.less u with Wait:=p.Sender},r,[hea.req u p c t]) v))))
theorem hea.fin_ok (u:Scanner) (p:AdvPDU) (c t:Int) (r:List Report) (v:HearR) (hv:v=hea.fin u p c t r): hea.finN u p c t r v:=by
 unfold hea.fin at hv
 refine ob3_ok ⟨⟨on_ok _⟩,ob3_ok ⟨⟨on_ok _⟩, ?_⟩⟩
 revert hv;refine by_cond2 (fun hb hv=>?_) (fun hb hv=>?_)
 ·subst hv;exact ⟨rfl,rfl⟩
 revert hv;refine by_cond2 (fun hb hv=>?_) (fun hb hv=>?_)
 ·subst hv;exact ⟨rfl,rfl⟩
 ·subst hv;exact ⟨rfl,rfl⟩
def hea.midN (u:Scanner) (p:AdvPDU) (c t:Int) (v:HearR): Prop:=ob3 (u.Params.Policy != 0) (ob3 (u.Params.Policy != 0) (ob3 (u.Params.Policy != 0) (Ob (o2 (u.Params.Policy != 0))∧cond (hea.out u p) (scHear.L (u,[],[]) v) (Ob (repP u p)∧cond u.Params.Unique (cond (List.any (clA u.Seen) (rep.hit u p)) (hea.finN u p c t [] v) (cond (decide ((64:Int)≤(↑(List.length (clA u.Seen)): Int))) (hea.finN {u with Seen:=List.drop (Int.toNat 1) (clA u.Seen)++ [scEntry u p]} p c t [hea.rep u p t] v) (hea.finN {u with Seen:=clA u.Seen ++ [scEntry u p]} p c t [hea.rep u p t] v))) (hea.finN u p c t [hea.rep u p t] v)))))
theorem hea.mid_ok (u:Scanner) (p:AdvPDU) (c t:Int) (v:HearR) (hp:repP u p) (hv:v=hea.mid u p c t): hea.midN u p c t v:=by
 unfold hea.mid at hv
 refine ob3_ok (ob3_ok (ob3_ok ⟨⟨o2_ok _⟩, ?_⟩))
 revert hv;refine by_cond2 (fun hb hv=>?_) (fun hb hv=>?_)
 ·subst hv;exact ⟨rfl,rfl⟩
 refine ⟨⟨hp⟩, ?_⟩
 revert hv;refine by_cond2 (fun hb hv=>?_) (fun hb hv=>?_)
 ·revert hv;refine by_cond2 (fun hb hv=>?_) (fun hb hv=>?_)
  ·exact hea.fin_ok _ _ _ _ _ _ hv
  revert hv;refine by_cond2 (fun hb hv=>?_) (fun hb hv=>?_)
  ·exact hea.fin_ok _ _ _ _ _ _ hv
  ·exact hea.fin_ok _ _ _ _ _ _ hv
 ·exact hea.fin_ok _ _ _ _ _ _ hv
def scHear.nf (s:Scanner) (p:AdvPDU) (c t:Int) (v:HearR): Prop:=Ob (List.length s.Params.Accept*(16:Nat)≤(140737488355328:Nat))∧Ob (List.length s.Params.Identities*(24:Nat)≤(140737488355328:Nat))∧Ob (List.length s.Seen*(16:Nat)≤(140737488355328:Nat))∧Ob (o3 !!s.On)∧Ob (on !s.On)∧Ob (o3 (!bif !s.On then true else decide (c < 37)))∧Ob (on (bif !s.On then true else decide (c < 37)))∧ob3 (!bif bif !s.On then true else decide (c < 37) then true else decide (39 < c)) (Ob (on (bif bif !s.On then true else decide (c < 37) then true else decide (39 < c)))∧cond (hea.deaf s p c) (scHear.L (s,[],[]) v) (cond (p.Kind==4) (cond (IntKind.wrap IntKind.i64 (s.Wins+1)== 2) (Ob ((2:Int)≠(0:Int))∧Ob (List.length (bytesI bkof)≤(1099511627776:Nat)∧(0:Nat)≤(1099511627776:Nat))∧Ob (IntKind.wrap IntKind.u64 (maxI (maxI (IntKind.wrap IntKind.i64 (Int.tdiv s.Upper 2)) 1) 1)≠(0:Int))∧hea.midN (hea.two s) p c t v) (Ob (List.length (bytesI bkof)≤(1099511627776:Nat)∧(0:Nat)≤(1099511627776:Nat))∧Ob (IntKind.wrap IntKind.u64 (maxI s.Upper 1)≠(0:Int))∧hea.midN (hea.one s) p c t v)) (hea.midN s p c t v)))
theorem scHear.nf_ok (s:Scanner) (p:AdvPDU) (c t:Int) (v:HearR): evFunR (mkCxL Tryz.prog S tab_r22Start 0 true true sum_fIdx) 29 repR 4 9 [Scanner.av s,AdvPDU.av p, .v (.int .i64 c), .v (.int .i64 t)] [] (fun r' H'=>Gives r' H' (scHear.res v) (scHear.news v))= scHear.nf s p c t v:=by kernel_rfl
theorem upper_ne (x:Int) (h:x≤9223372036854775807): IntKind.wrap IntKind.u64 (maxI x 1)≠0:=by
 rw [wu64 _ (by unfold maxI;split <;> omega) (by unfold maxI;split <;> omega)]
 unfold maxI
 split <;> omega
theorem scHear.key (s:Scanner) (p:AdvPDU) (c t:Int) (hp:s.Params.Accept.length≤4611686018427∧s.Params.Identities.length≤4611686018427∧s.Seen.length≤4611686018427∧s.Upper≤9223372036854775807∧p.Data.length≤140737488355328) (v:HearR) (hv:v=scHear s p c t): scHear.nf s p c t v:=by
 have hq : ∀u:Scanner,u.Params=s.Params→u.Seen=s.Seen→repP u p:=by
  intro u h1 h2
  unfold repP
  rw [h1,h2]
  omega
 unfold scHear at hv
 refine ⟨⟨by omega⟩,⟨by omega⟩,⟨by omega⟩,⟨o3_ok _⟩,⟨on_ok _⟩,⟨o3_ok _⟩,⟨on_ok _⟩,ob3_ok ⟨⟨on_ok _⟩, ?_⟩⟩
 revert hv;refine by_cond2 (fun hb hv=>?_) (fun hb hv=>?_)
 ·subst hv;exact ⟨rfl,rfl⟩
 revert hv;refine by_cond2 (fun hb hv=>?_) (fun hb hv=>?_)
 ·revert hv;refine by_cond2 (fun hb hv=>?_) (fun hb hv=>?_)
  ·refine ⟨⟨by decide⟩,⟨⟨by decide,by decide⟩⟩,⟨upper_ne _ ?_⟩,hea.mid_ok _ _ _ _ _ (hq _ rfl rfl) hv⟩
   have:=wi64s (Int.tdiv s.Upper (2:Int))
   unfold maxI
   split <;> omega
  ·exact ⟨⟨⟨by decide,by decide⟩⟩,⟨upper_ne _ (by omega)⟩,hea.mid_ok _ _ _ _ _ (hq _ rfl rfl) hv⟩
 ·exact hea.mid_ok _ _ _ _ _ (hq _ rfl rfl) hv
def scHear.ct:Ct El:=ctOf scHear.dec (fun x=>[x.1.Params.Accept.length≤4611686018427∧x.1.Params.Identities.length≤4611686018427∧x.1.Seen.length≤4611686018427∧x.1.Upper≤9223372036854775807∧x.2.1.Data.length≤140737488355328]) (fun x=>scHear.res (scHear x.1 x.2.1 x.2.2.1 x.2.2.2)) (fun x=>scHear.news (scHear x.1 x.2.1 x.2.2.1 x.2.2.2))
theorem scHear.ok:CtOk (mkCx Tryz.prog S [] 0) 9 scHear.ct:=ct_mk (C:=(mkCxL Tryz.prog S tab_r22Start 0 true true sum_fIdx)) (mkCxL_ok sigOk mixed tab_r22Start_ok 0 true true sum_fIdx_ok) scHear.dec_ok (fun x=>rfl) 7 (fun x hp=>evFunR_le 3 repR_ok 4 _ _ _ _ ((scHear.nf_ok x.1 x.2.1 x.2.2.1 x.2.2.2 _).mpr (scHear.key x.1 x.2.1 x.2.2.1 x.2.2.2 (hp _ (List.mem_singleton.2 rfl)) _ rfl)))
def tab_scHear:List (FuncId×Ct El):= (9,scHear.ct):: tab_r22Start
theorem tab_scHear_ok:TabOk Tryz.prog S tab_scHear:=⟨scHear.ok,by kernel_rfl,tab_r22Start_ok⟩
def tab2_scBackOff:List (FuncId×Ct El):= (37,scBackOff.ct):: tab_scHear
theorem tab2_scBackOff_ok:TabOk Tryz.prog S tab2_scBackOff:=⟨scBackOff.ok,by kernel_rfl,tab_scHear_ok⟩
def tab2_r22Entry:List (FuncId×Ct El):= (53,r22Entry.ct):: tab2_scBackOff
theorem tab2_r22Entry_ok:TabOk Tryz.prog S tab2_r22Entry:=⟨r22Entry.ok,by kernel_rfl,tab2_scBackOff_ok⟩
def tab2_scStart:List (FuncId×Ct El):= (6,scStart.ct):: tab2_r22Entry
theorem tab2_scStart_ok:TabOk Tryz.prog S tab2_scStart:=⟨scStart.ok,by kernel_rfl,tab2_r22Entry_ok⟩
def tab2_scMiss:List (FuncId×Ct El):= (14,scMiss.ct):: tab2_scStart
theorem tab2_scMiss_ok:TabOk Tryz.prog S tab2_scMiss:=⟨scMiss.ok,by kernel_rfl,tab2_scStart_ok⟩
def tab2_scStop:List (FuncId×Ct El):= (16,scStop.ct):: tab2_scMiss
theorem tab2_scStop_ok:TabOk Tryz.prog S tab2_scStop:=⟨scStop.ok,by kernel_rfl,tab2_scMiss_ok⟩
end Go.Aw.W
