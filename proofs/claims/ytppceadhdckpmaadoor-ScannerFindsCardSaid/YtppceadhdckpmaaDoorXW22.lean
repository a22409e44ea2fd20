/- Contracts of the seat (printed by ct.py). -/
import Derived.Test.YtppceadhdckpmaaDoorXW21
set_option linter.unusedVariables false
set_option linter.unusedSimpArgs false
set_option maxRecDepth 20000
set_option maxHeartbeats 1000000
namespace Go.Aw.W
open Go Go.Aw Go.Proofs
attribute [local irreducible] evCode evFun evOps evDs evOne ctxK loopK loopB subC bodyC headS okH roundK
attribute [local irreducible] pFind r9Find
def scOwn.res (r:Scanner): AV El:=Scanner.av (r)
def scOwn.news (r:Scanner): List (AObj El):= []
def scOwn.L (e v:Scanner): Prop:=scOwn.res e=scOwn.res v∧scOwn.news e=scOwn.news v
def scOwn (s:Scanner): Scanner:=(⟨⟨(s.Params.Interval),(s.Params.Window),(s.Params.Active),(s.Params.Policy),(clA s.Params.Accept),(clI s.Params.Identities),⟨(s.Params.Own.Kind),(s.Params.Own.Bits)⟩,(s.Params.Unique)⟩,(s.On),(s.Start),(s.Upper),(s.Count),(s.Fails),(s.Wins),⟨(s.Wait.Kind),(s.Wait.Bits)⟩,(clA s.Seen),(s.Seed)⟩: Scanner)
def scOwn.dec (cs:List (AV El)): Option (Scanner):= popA Scanner.dec cs fun a0 c0=>popE c0 a0
def scOwn.enc (x:Scanner): List (AV El):= [Scanner.av x]
theorem scOwn.dec_ok : ∀cs x,scOwn.dec cs=some x→Imp (S:=S) cs (scOwn.enc x):= by
 intro cs x h
 unfold scOwn.dec at h
 obtain ⟨a0,c0,h0,k0⟩:= popA_some (S:=S) Scanner.dec_ok h
 obtain ⟨rfl,rfl⟩:= popE_some (S:=S) h0
 exact (k0 _ (.refl _))
def scOwn.nf (s:Scanner) (v:Scanner): Prop:=Ob (List.length s.Params.Accept*(16:Nat)≤(140737488355328:Nat))∧(Ob (List.length s.Params.Identities*(24:Nat)≤(140737488355328:Nat))∧(Ob (List.length s.Seen*(16:Nat)≤(140737488355328:Nat))∧(scOwn.L ((⟨⟨(s.Params.Interval),(s.Params.Window),(s.Params.Active),(s.Params.Policy),(clA s.Params.Accept),(clI s.Params.Identities),⟨(s.Params.Own.Kind),(s.Params.Own.Bits)⟩,(s.Params.Unique)⟩,(s.On),(s.Start),(s.Upper),(s.Count),(s.Fails),(s.Wins),⟨(s.Wait.Kind),(s.Wait.Bits)⟩,(clA s.Seen),(s.Seed)⟩: Scanner)) v)))
theorem scOwn.nf_ok (s:Scanner) (v:Scanner): evFun (mkCxI Tryd.prog S tab_r22Start 0 true sum_fIdx) 4 71 [Scanner.av s] [] (fun r' H'=>Gives r' H' (scOwn.res v) (scOwn.news v))= scOwn.nf s v:=by kernel_rfl
theorem scOwn.key (s:Scanner) (hp:s.Params.Accept.length≤4611686018427∧s.Params.Identities.length≤4611686018427∧s.Seen.length≤4611686018427) (v:Scanner) (hv:v=scOwn s): scOwn.nf s v:=by
 unfold scOwn at hv
 unfold scOwn.nf
 refine ⟨⟨?_⟩, ?_⟩;rotate_left
 refine ⟨⟨?_⟩, ?_⟩;rotate_left
 refine ⟨⟨?_⟩, ?_⟩;rotate_left
 subst hv;exact ⟨rfl,rfl⟩
 all_goals ((try clear hv);(try clear q1 q2);(try clear hk);(omega))
def scOwn.ct:Ct El:=ctOf scOwn.dec (fun x=>[x.Params.Accept.length≤4611686018427∧x.Params.Identities.length≤4611686018427∧x.Seen.length≤4611686018427]) (fun x=>scOwn.res (scOwn x)) (fun x=>scOwn.news (scOwn x))
theorem scOwn.ok:CtOk (mkCx Tryd.prog S [] 0) 71 scOwn.ct:=ct_mk (C:=(mkCxI Tryd.prog S tab_r22Start 0 true sum_fIdx)) (mkCxI_ok sigOk mixed tab_r22Start_ok 0 true sum_fIdx_ok) scOwn.dec_ok (fun x=>rfl) 4 (fun x hp=>(scOwn.nf_ok x _).mpr (scOwn.key x (hp _ (List.mem_singleton.2 rfl)) _ rfl))
def tab_scOwn:List (FuncId×Ct El):= (71,scOwn.ct):: tab_r22Start
theorem tab_scOwn_ok:TabOk Tryd.prog S tab_scOwn:=⟨scOwn.ok,by kernel_rfl,tab_r22Start_ok⟩
def scBackOff.res (r:Scanner): AV El:=Scanner.av (r)
def scBackOff.news (r:Scanner): List (AObj El):= []
def scBackOff.L (e v:Scanner): Prop:=scBackOff.res e=scBackOff.res v∧scBackOff.news e=scBackOff.news v
def scBackOff (s:Scanner): Scanner:=(⟨⟨(s.Params.Interval),(s.Params.Window),(s.Params.Active),(s.Params.Policy),(s.Params.Accept),(s.Params.Identities),⟨(s.Params.Own.Kind),(s.Params.Own.Bits)⟩,(s.Params.Unique)⟩,(s.On),(s.Start),(s.Upper),(IntKind.wrap IntKind.i64 (1+IntKind.wrap IntKind.i64 (Int.tmod (pDerive s.Seed {data:=#[(98:UInt8),(97:UInt8),(99:UInt8),(107:UInt8),(111:UInt8),(102:UInt8),(102:UInt8)]: ByteArray} []) (IntKind.wrap IntKind.u64 (maxI s.Upper 1))))),(s.Fails),(s.Wins),⟨(s.Wait.Kind),(s.Wait.Bits)⟩,(s.Seen),(pDerive s.Seed {data:=#[(98:UInt8),(97:UInt8),(99:UInt8),(107:UInt8),(111:UInt8),(102:UInt8),(102:UInt8)]: ByteArray} [])⟩: Scanner)
def scBackOff.dec (cs:List (AV El)): Option (Scanner):= popA Scanner.dec cs fun a0 c0=>popE c0 a0
def scBackOff.enc (x:Scanner): List (AV El):= [Scanner.av x]
theorem scBackOff.dec_ok : ∀cs x,scBackOff.dec cs=some x→Imp (S:=S) cs (scBackOff.enc x):= by
 intro cs x h
 unfold scBackOff.dec at h
 obtain ⟨a0,c0,h0,k0⟩:= popA_some (S:=S) Scanner.dec_ok h
 obtain ⟨rfl,rfl⟩:= popE_some (S:=S) h0
 exact (k0 _ (.refl _))
def scBackOff.nf (s:Scanner) (v:Scanner): Prop:=Ob (List.length (bytesI {data:=#[(98:UInt8),(97:UInt8),(99:UInt8),(107:UInt8),(111:UInt8),(102:UInt8),(102:UInt8)]: ByteArray})≤(1099511627776:Nat)∧(0:Nat)≤(1099511627776:Nat))∧(Ob (IntKind.wrap IntKind.u64 (maxI s.Upper (1:Int))≠(0:Int))∧(scBackOff.L ((⟨⟨(s.Params.Interval),(s.Params.Window),(s.Params.Active),(s.Params.Policy),(s.Params.Accept),(s.Params.Identities),⟨(s.Params.Own.Kind),(s.Params.Own.Bits)⟩,(s.Params.Unique)⟩,(s.On),(s.Start),(s.Upper),(IntKind.wrap IntKind.i64 (1+IntKind.wrap IntKind.i64 (Int.tmod (pDerive s.Seed {data:=#[(98:UInt8),(97:UInt8),(99:UInt8),(107:UInt8),(111:UInt8),(102:UInt8),(102:UInt8)]: ByteArray} []) (IntKind.wrap IntKind.u64 (maxI s.Upper 1))))),(s.Fails),(s.Wins),⟨(s.Wait.Kind),(s.Wait.Bits)⟩,(s.Seen),(pDerive s.Seed {data:=#[(98:UInt8),(97:UInt8),(99:UInt8),(107:UInt8),(111:UInt8),(102:UInt8),(102:UInt8)]: ByteArray} [])⟩: Scanner)) v))
theorem scBackOff.nf_ok (s:Scanner) (v:Scanner): evFun (mkCxI Tryd.prog S tab_r22Start 0 true sum_fIdx) 4 74 [Scanner.av s] [] (fun r' H'=>Gives r' H' (scBackOff.res v) (scBackOff.news v))= scBackOff.nf s v:=by kernel_rfl
theorem scBackOff.key (s:Scanner) (hp:s.Upper≤9223372036854775807) (v:Scanner) (hv:v=scBackOff s): scBackOff.nf s v:=by
 unfold scBackOff at hv
 unfold scBackOff.nf
 refine ⟨⟨by (try clear hv);(try clear q1 q2);(try clear hk);(((try simp only [decide_eq_true_eq,decide_eq_false_iff_not,Bool.not_eq_true,Bool.not_eq_false,Bool.and_eq_true,Bool.or_eq_true,Bool.not_not,cond_and,cond_or,List.length_append,List.length_cons,List.length_nil] at *);(first | done | ((first | omega | (intros;(try simp only [Bool.not_not,cond_and,cond_or,Bool.and_eq_true,decide_eq_true_eq] at *);(refine ⟨?_,pFind_lt _ _⟩;(first | omega | (simp_all;done))))| (intros;(try simp only [Bool.not_not,cond_and,cond_or,Bool.and_eq_true,decide_eq_true_eq] at *);(refine ⟨?_,r9Find_lt _ _⟩;(first | omega | (simp_all;done))))| (intros;(try simp only [Bool.not_not,cond_and,cond_or,Bool.and_eq_true,decide_eq_true_eq] at *);(exact ⟨by decide,by simp⟩))| (intros;(try simp only [Bool.not_not,cond_and,cond_or,Bool.and_eq_true,decide_eq_true_eq] at *);(rw [wu64 _ (by unfold maxI;split <;> omega) (by unfold maxI;split <;> omega)];unfold maxI;split <;> omega))| (intros;(try simp only [Bool.not_not,cond_and,cond_or,Bool.and_eq_true,decide_eq_true_eq] at *);(simp_all [Bool.not_not];omega))| (intros;(try simp only [Bool.not_not,cond_and,cond_or,Bool.and_eq_true,decide_eq_true_eq] at *);(exact band_nn rfl _ _))| (intros;(try simp only [Bool.not_not,cond_and,cond_or,Bool.and_eq_true,decide_eq_true_eq] at *);(exact (wu64s _).2.1))| (intros;(try simp only [Bool.not_not,cond_and,cond_or,Bool.and_eq_true,decide_eq_true_eq] at *);(simp only [Bool.or_eq_false_iff,Bool.and_eq_false_iff,decide_eq_false_iff_not,decide_eq_true_eq,bne_iff_ne,beq_iff_eq,bne_eq_false_iff_eq,beq_eq_false_iff_ne,ne_eq,true_and] at *;omega))| (intros;(try simp only [Bool.not_not,cond_and,cond_or,Bool.and_eq_true,decide_eq_true_eq] at *);(simp only [List.length_drop,List.length_take,List.length_append,List.length_cons,List.length_nil] at *;omega))| (intros;omega)| (intros;simp only [Bool.not_not,cond_and,cond_or,Bool.and_eq_true,decide_eq_true_eq] at *;omega)| (intros;simp_all [Bool.not_not];done))))))⟩, ?_⟩
 refine ⟨⟨by (try clear hv);(try clear q1 q2);(try clear hk);(((try simp only [decide_eq_true_eq,decide_eq_false_iff_not,Bool.not_eq_true,Bool.not_eq_false,Bool.and_eq_true,Bool.or_eq_true,Bool.not_not,cond_and,cond_or,List.length_append,List.length_cons,List.length_nil] at *);(first | done | (have:=wu64s (maxI s.Upper (1:Int));(first | omega | (intros;(try simp only [Bool.not_not,cond_and,cond_or,Bool.and_eq_true,decide_eq_true_eq] at *);(refine ⟨?_,pFind_lt _ _⟩;(first | omega | (simp_all;done))))| (intros;(try simp only [Bool.not_not,cond_and,cond_or,Bool.and_eq_true,decide_eq_true_eq] at *);(refine ⟨?_,r9Find_lt _ _⟩;(first | omega | (simp_all;done))))| (intros;(try simp only [Bool.not_not,cond_and,cond_or,Bool.and_eq_true,decide_eq_true_eq] at *);(exact ⟨by decide,by simp⟩))| (intros;(try simp only [Bool.not_not,cond_and,cond_or,Bool.and_eq_true,decide_eq_true_eq] at *);(rw [wu64 _ (by unfold maxI;split <;> omega) (by unfold maxI;split <;> omega)];unfold maxI;split <;> omega))| (intros;(try simp only [Bool.not_not,cond_and,cond_or,Bool.and_eq_true,decide_eq_true_eq] at *);(simp_all [Bool.not_not];omega))| (intros;(try simp only [Bool.not_not,cond_and,cond_or,Bool.and_eq_true,decide_eq_true_eq] at *);(exact band_nn rfl _ _))| (intros;(try simp only [Bool.not_not,cond_and,cond_or,Bool.and_eq_true,decide_eq_true_eq] at *);(exact (wu64s _).2.1))| (intros;(try simp only [Bool.not_not,cond_and,cond_or,Bool.and_eq_true,decide_eq_true_eq] at *);(simp only [Bool.or_eq_false_iff,Bool.and_eq_false_iff,decide_eq_false_iff_not,decide_eq_true_eq,bne_iff_ne,beq_iff_eq,bne_eq_false_iff_eq,beq_eq_false_iff_ne,ne_eq,true_and] at *;omega))| (intros;(try simp only [Bool.not_not,cond_and,cond_or,Bool.and_eq_true,decide_eq_true_eq] at *);(simp only [List.length_drop,List.length_take,List.length_append,List.length_cons,List.length_nil] at *;omega))| (intros;omega)| (intros;simp only [Bool.not_not,cond_and,cond_or,Bool.and_eq_true,decide_eq_true_eq] at *;omega)| (intros;simp_all [Bool.not_not];done))))))⟩, ?_⟩
 subst hv;exact ⟨rfl,rfl⟩
def scBackOff.ct:Ct El:=ctOf scBackOff.dec (fun x=>[x.Upper≤9223372036854775807]) (fun x=>scBackOff.res (scBackOff x)) (fun x=>scBackOff.news (scBackOff x))
theorem scBackOff.ok:CtOk (mkCx Tryd.prog S [] 0) 74 scBackOff.ct:=ct_mk (C:=(mkCxI Tryd.prog S tab_r22Start 0 true sum_fIdx)) (mkCxI_ok sigOk mixed tab_r22Start_ok 0 true sum_fIdx_ok) scBackOff.dec_ok (fun x=>rfl) 4 (fun x hp=>(scBackOff.nf_ok x _).mpr (scBackOff.key x (hp _ (List.mem_singleton.2 rfl)) _ rfl))
def tab_scBackOff:List (FuncId×Ct El):= (74,scBackOff.ct):: tab_scOwn
theorem tab_scBackOff_ok:TabOk Tryd.prog S tab_scBackOff:=⟨scBackOff.ok,by kernel_rfl,tab_scOwn_ok⟩
def r22Entry.res (r:Address): AV El:=Address.av (r)
def r22Entry.news (r:Address): List (AObj El):= []
def r22Entry.L (e v:Address): Prop:=r22Entry.res e=r22Entry.res v∧r22Entry.news e=r22Entry.news v
def r22Entry (ids:List Identity) (p:AdvPDU): Address:=cond (p.Kind==(4:Int)) ((⟨(IntKind.wrap IntKind.i64 ((r22name ids p.Sender).Kind+(16:Int))),((r22name ids p.Sender).Bits)⟩: Address)) ((r22name ids p.Sender))
def r22Entry.dec (cs:List (AV El)): Option ((List Identity)×AdvPDU):= popS 126 cs fun a0 c0=>popA AdvPDU.dec c0 fun a1 c1=>popE c1 (a0,a1)
def r22Entry.enc (x:(List Identity)×AdvPDU): List (AV El):= [.sl 126 (x.1:List (El 126)) false,AdvPDU.av x.2]
theorem r22Entry.dec_ok : ∀cs x,r22Entry.dec cs=some x→Imp (S:=S) cs (r22Entry.enc x):= by
 intro cs x h
 unfold r22Entry.dec at h
 obtain ⟨a0,c0,h0,k0⟩:= popS_some (S:=S) (t:=126) h
 obtain ⟨a1,c1,h1,k1⟩:= popA_some (S:=S) AdvPDU.dec_ok h0
 obtain ⟨rfl,rfl⟩:= popE_some (S:=S) h1
 exact (k0 _ (k1 _ (.refl _)))
def r22Entry.nf (ids:List Identity) (p:AdvPDU) (v:Address): Prop:=cond (p.Kind==(4:Int)) (r22Entry.L ((⟨(IntKind.wrap IntKind.i64 ((r22name ids p.Sender).Kind+(16:Int))),((r22name ids p.Sender).Bits)⟩: Address)) v) (r22Entry.L ((r22name ids p.Sender)) v)
theorem r22Entry.nf_ok (ids:List Identity) (p:AdvPDU) (v:Address): evFun (mkCxI Tryd.prog S tab_r22Start 0 true sum_fIdx) 4 45 [.sl 126 (ids:List (El 126)) false,AdvPDU.av p] [] (fun r' H'=>Gives r' H' (r22Entry.res v) (r22Entry.news v))= r22Entry.nf ids p v:=by kernel_rfl
theorem r22Entry.key (ids:List Identity) (p:AdvPDU) (v:Address) (hv:v=r22Entry ids p): r22Entry.nf ids p v:=by
 unfold r22Entry at hv
 unfold r22Entry.nf
 revert hv;refine by_cond2 (fun hb hv=>?_) (fun hb hv=>?_)
 ·subst hv;exact ⟨rfl,rfl⟩
 ·subst hv;exact ⟨rfl,rfl⟩
def r22Entry.ct:Ct El:=ctOf r22Entry.dec (fun _=>[]) (fun x=>r22Entry.res (r22Entry x.1 x.2)) (fun x=>r22Entry.news (r22Entry x.1 x.2))
theorem r22Entry.ok:CtOk (mkCx Tryd.prog S [] 0) 45 r22Entry.ct:=ct_mk (C:=(mkCxI Tryd.prog S tab_r22Start 0 true sum_fIdx)) (mkCxI_ok sigOk mixed tab_r22Start_ok 0 true sum_fIdx_ok) r22Entry.dec_ok (fun x=>rfl) 4 (fun x _=>(r22Entry.nf_ok x.1 x.2 _).mpr (r22Entry.key x.1 x.2 _ rfl))
def tab_r22Entry:List (FuncId×Ct El):= (45,r22Entry.ct):: tab_scBackOff
theorem tab_r22Entry_ok:TabOk Tryd.prog S tab_r22Entry:=⟨r22Entry.ok,by kernel_rfl,tab_scBackOff_ok⟩
def scInit.res (r:Send×Bool): AV El:=.tup [Send.av (r.1), .v (.bool (r.2))]
def scInit.news (r:Send×Bool): List (AObj El):= []
def scInit.L (e v:Send×Bool): Prop:=scInit.res e=scInit.res v∧scInit.news e=scInit.news v
def scInit (own:Address) (p1:Address) (ids:List Identity) (c:ConnParams) (p:AdvPDU) (channel:Int) (p6:Int): Send×Bool:=cond (bif bif bif decide (channel < 37) then true else decide (39 < channel) then true else pCheck p != 0 then true else !aConn p.Kind) (((⟨(0),(0),⟨(0),⟨(0),(0)⟩,⟨(0),(0)⟩,([]),⟨(0),(0),⟨(0),(0),(0),(0),(0)⟩,(0),(0),(0),(0)⟩⟩⟩: Send),false)) (cond (bif !(p.Sender.Kind==p1.Kind && p.Sender.Bits==p1.Bits) then bif decide (pFind ids p.Sender < 0) then true else !((List.getD ids (Int.toNat (pFind ids p.Sender)) Identity.zero).Address.Kind==p1.Kind && (List.getD ids (Int.toNat (pFind ids p.Sender)) Identity.zero).Address.Bits==p1.Bits) else false) (((⟨(0),(0),⟨(0),⟨(0),(0)⟩,⟨(0),(0)⟩,([]),⟨(0),(0),⟨(0),(0),(0),(0),(0)⟩,(0),(0),(0),(0)⟩⟩⟩: Send),false)) (cond (bif p.Kind==1 then !(p.Target.Kind==own.Kind && p.Target.Bits==own.Bits) else false) (((⟨(0),(0),⟨(0),⟨(0),(0)⟩,⟨(0),(0)⟩,([]),⟨(0),(0),⟨(0),(0),(0),(0),(0)⟩,(0),(0),(0),(0)⟩⟩⟩: Send),false)) (cond (pCheck {Kind:=5,Sender:=own,Target:=p.Sender,Data:=[],Conn:=c:AdvPDU} != 0) (((⟨(0),(0),⟨(0),⟨(0),(0)⟩,⟨(0),(0)⟩,([]),⟨(0),(0),⟨(0),(0),(0),(0),(0)⟩,(0),(0),(0),(0)⟩⟩⟩: Send),false)) (((⟨(channel),(IntKind.wrap IntKind.i64 (scMoment p6+150)),⟨(5),⟨(own.Kind),(own.Bits)⟩,⟨(p.Sender.Kind),(p.Sender.Bits)⟩,([]),⟨(c.Access),(c.Init),⟨(c.Update.WinSize),(c.Update.WinOffset),(c.Update.Interval),(c.Update.Latency),(c.Update.Timeout)⟩,(c.Map),(c.Hop),(c.PPM),(c.Algorithm)⟩⟩⟩: Send),true)))))
def scInit.dec (cs:List (AV El)): Option (Address×Address×(List Identity)×ConnParams×AdvPDU×Int×Int):= popA Address.dec cs fun a0 c0=>popA Address.dec c0 fun a1 c1=>popS 126 c1 fun a2 c2=>popA ConnParams.dec c2 fun a3 c3=>popA AdvPDU.dec c3 fun a4 c4=>popI .i64 c4 fun a5 c5=>popI .i64 c5 fun a6 c6=>popE c6 (a0,a1,a2,a3,a4,a5,a6)
def scInit.enc (x:Address×Address×(List Identity)×ConnParams×AdvPDU×Int×Int): List (AV El):= [Address.av x.1,Address.av x.2.1, .sl 126 (x.2.2.1:List (El 126)) false,ConnParams.av x.2.2.2.1,AdvPDU.av x.2.2.2.2.1, .v (.int .i64 x.2.2.2.2.2.1), .v (.int .i64 x.2.2.2.2.2.2)]
theorem scInit.dec_ok : ∀cs x,scInit.dec cs=some x→Imp (S:=S) cs (scInit.enc x):= by
 intro cs x h
 unfold scInit.dec at h
 obtain ⟨a0,c0,h0,k0⟩:= popA_some (S:=S) Address.dec_ok h
 obtain ⟨a1,c1,h1,k1⟩:= popA_some (S:=S) Address.dec_ok h0
 obtain ⟨a2,c2,h2,k2⟩:= popS_some (S:=S) (t:=126) h1
 obtain ⟨a3,c3,h3,k3⟩:= popA_some (S:=S) ConnParams.dec_ok h2
 obtain ⟨a4,c4,h4,k4⟩:= popA_some (S:=S) AdvPDU.dec_ok h3
 obtain ⟨a5,c5,rfl,h5⟩:= popI_some (S:=S) h4
 obtain ⟨a6,c6,rfl,h6⟩:= popI_some (S:=S) h5
 obtain ⟨rfl,rfl⟩:= popE_some (S:=S) h6
 exact (k0 _ (k1 _ (k2 _ (k3 _ (k4 _ (.cons (.cons (.refl _))))))))
def scInit_nf_g1 (channel:Int): Bool:=bif (decide (channel < (37:Int))) then true else (decide ((39:Int) < channel))
def scInit_nf_g2 (p:AdvPDU) (channel:Int): Bool:=bif (scInit_nf_g1 channel) then true else (pCheck p != (0:Int))
def scInit.nf (own:Address) (p1:Address) (ids:List Identity) (c:ConnParams) (p:AdvPDU) (channel:Int) (p6:Int) (v:Send×Bool): Prop:=Ob (o3 (!decide (channel < 37)))∧(Ob (on (decide (channel < 37)))∧(Ob (o3 (!(scInit_nf_g1 channel)))∧(Ob (o3 (!(scInit_nf_g1 channel)))∧(Ob (on (scInit_nf_g1 channel))∧(Ob (o3 (!(scInit_nf_g2 p channel)))∧(Ob (o3 (!(scInit_nf_g2 p channel)))∧(Ob (o3 (!(scInit_nf_g2 p channel)))∧(Ob (on (scInit_nf_g2 p channel))∧(cond (bif bif bif decide (channel < 37) then true else decide (39 < channel) then true else pCheck p != 0 then true else !aConn p.Kind) (scInit.L (((⟨(0),(0),⟨(0),⟨(0),(0)⟩,⟨(0),(0)⟩,([]),⟨(0),(0),⟨(0),(0),(0),(0),(0)⟩,(0),(0),(0),(0)⟩⟩⟩: Send),false)) v) (Ob (o3 (!(p.Sender.Kind==p1.Kind && p.Sender.Bits==p1.Bits)))∧(Ob (o3 (!(p.Sender.Kind==p1.Kind && p.Sender.Bits==p1.Bits)))∧(Ob (o3 (!(p.Sender.Kind==p1.Kind && p.Sender.Bits==p1.Bits) && !decide (pFind ids p.Sender < 0)))∧(Ob (o3 (!(p.Sender.Kind==p1.Kind && p.Sender.Bits==p1.Bits) && !decide (pFind ids p.Sender < 0)))∧(Ob ((!(p.Sender.Kind==p1.Kind && p.Sender.Bits==p1.Bits) && !decide (pFind ids p.Sender < 0))= true→0≤pFind ids p.Sender∧pFind ids p.Sender < (↑(List.length ids): Int))∧(Ob (o3 (!(p.Sender.Kind==p1.Kind && p.Sender.Bits==p1.Bits) && !decide (pFind ids p.Sender < 0)))∧(Ob (o3 (!(p.Sender.Kind==p1.Kind && p.Sender.Bits==p1.Bits) && !decide (pFind ids p.Sender < 0)))∧(Ob (o3 (!(p.Sender.Kind==p1.Kind && p.Sender.Bits==p1.Bits) && !decide (pFind ids p.Sender < 0)))∧(Ob (o3 (!(p.Sender.Kind==p1.Kind && p.Sender.Bits==p1.Bits) && !decide (pFind ids p.Sender < 0)))∧(Ob (o2 (!(p.Sender.Kind==p1.Kind && p.Sender.Bits==p1.Bits)))∧(Ob ((!(p.Sender.Kind==p1.Kind && p.Sender.Bits==p1.Bits))= true→decide (pFind ids p.Sender < 0)= false→(!(p.Sender.Kind==p1.Kind && p.Sender.Bits==p1.Bits) && !decide (pFind ids p.Sender < 0))= true)∧(Ob (o2 (!(p.Sender.Kind==p1.Kind && p.Sender.Bits==p1.Bits)))∧(cond (bif !(p.Sender.Kind==p1.Kind && p.Sender.Bits==p1.Bits) then bif decide (pFind ids p.Sender < 0) then true else !((List.getD ids (Int.toNat (pFind ids p.Sender)) Identity.zero).Address.Kind==p1.Kind && (List.getD ids (Int.toNat (pFind ids p.Sender)) Identity.zero).Address.Bits==p1.Bits) else false) (scInit.L (((⟨(0),(0),⟨(0),⟨(0),(0)⟩,⟨(0),(0)⟩,([]),⟨(0),(0),⟨(0),(0),(0),(0),(0)⟩,(0),(0),(0),(0)⟩⟩⟩: Send),false)) v) (Ob (o3 (p.Kind==1))∧(Ob (o3 (p.Kind==1))∧(Ob (o3 (p.Kind==1))∧(Ob (o2 (p.Kind==1))∧(cond (bif p.Kind==1 then !(p.Target.Kind==own.Kind && p.Target.Bits==own.Bits) else false) (scInit.L (((⟨(0),(0),⟨(0),⟨(0),(0)⟩,⟨(0),(0)⟩,([]),⟨(0),(0),⟨(0),(0),(0),(0),(0)⟩,(0),(0),(0),(0)⟩⟩⟩: Send),false)) v) (cond (pCheck {Kind:=5,Sender:=own,Target:=p.Sender,Data:=[],Conn:=c:AdvPDU} != 0) (scInit.L (((⟨(0),(0),⟨(0),⟨(0),(0)⟩,⟨(0),(0)⟩,([]),⟨(0),(0),⟨(0),(0),(0),(0),(0)⟩,(0),(0),(0),(0)⟩⟩⟩: Send),false)) v) (scInit.L (((⟨(channel),(IntKind.wrap IntKind.i64 (scMoment p6+150)),⟨(5),⟨(own.Kind),(own.Bits)⟩,⟨(p.Sender.Kind),(p.Sender.Bits)⟩,([]),⟨(c.Access),(c.Init),⟨(c.Update.WinSize),(c.Update.WinOffset),(c.Update.Interval),(c.Update.Latency),(c.Update.Timeout)⟩,(c.Map),(c.Hop),(c.PPM),(c.Algorithm)⟩⟩⟩: Send),true)) v)))))))))))))))))))))))))))))
theorem scInit.nf_ok (own:Address) (p1:Address) (ids:List Identity) (c:ConnParams) (p:AdvPDU) (channel:Int) (p6:Int) (v:Send×Bool): evFun (mkCxI Tryd.prog S tab_r22Start 0 true sum_fIdx) 4 47 [Address.av own,Address.av p1, .sl 126 (ids:List (El 126)) false,ConnParams.av c,AdvPDU.av p, .v (.int .i64 channel), .v (.int .i64 p6)] [] (fun r' H'=>Gives r' H' (scInit.res v) (scInit.news v))= scInit.nf own p1 ids c p channel p6 v:=by kernel_rfl
theorem scInit.key (own:Address) (p1:Address) (ids:List Identity) (c:ConnParams) (p:AdvPDU) (channel:Int) (p6:Int) (v:Send×Bool) (hv:v=scInit own p1 ids c p channel p6): scInit.nf own p1 ids c p channel p6 v:=by
 unfold scInit at hv
 unfold scInit.nf
 refine ⟨⟨o3_ok _⟩, ?_⟩
 refine ⟨⟨on_ok _⟩, ?_⟩
 iterate 2 refine ⟨⟨o3_ok _⟩, ?_⟩
 refine ⟨⟨on_ok _⟩, ?_⟩
 iterate 3 refine ⟨⟨o3_ok _⟩, ?_⟩
 refine ⟨⟨on_ok _⟩, ?_⟩
 revert hv;refine by_cond2 (fun hb hv=>?_) (fun hb hv=>?_)
 subst hv;exact ⟨rfl,rfl⟩
 iterate 4 refine ⟨⟨o3_ok _⟩, ?_⟩
 refine ⟨⟨?_⟩, ?_⟩;rotate_left
 iterate 4 refine ⟨⟨o3_ok _⟩, ?_⟩
 refine ⟨⟨o2_ok _⟩, ?_⟩
 refine ⟨⟨?_⟩, ?_⟩;rotate_left
 refine ⟨⟨o2_ok _⟩, ?_⟩
 revert hv;refine by_cond2 (fun hb hv=>?_) (fun hb hv=>?_)
 subst hv;exact ⟨rfl,rfl⟩
 iterate 3 refine ⟨⟨o3_ok _⟩, ?_⟩
 refine ⟨⟨o2_ok _⟩, ?_⟩
 revert hv;refine by_cond2 (fun hb hv=>?_) (fun hb hv=>?_)
 subst hv;exact ⟨rfl,rfl⟩
 revert hv;refine by_cond2 (fun hb hv=>?_) (fun hb hv=>?_)
 subst hv;exact ⟨rfl,rfl⟩
 subst hv;exact ⟨rfl,rfl⟩
 all_goals ((try clear hv);(try clear q1 q2);(try clear hk);(((try simp only [decide_eq_true_eq,decide_eq_false_iff_not,Bool.not_eq_true,Bool.not_eq_false,Bool.and_eq_true,Bool.or_eq_true,Bool.not_not,cond_and,cond_or,List.length_append,List.length_cons,List.length_nil] at *);(first | done | ((first | omega | (intros;(try simp only [Bool.not_not,cond_and,cond_or,Bool.and_eq_true,decide_eq_true_eq] at *);(refine ⟨?_,pFind_lt _ _⟩;(first | omega | (simp_all;done))))| (intros;(try simp only [Bool.not_not,cond_and,cond_or,Bool.and_eq_true,decide_eq_true_eq] at *);(refine ⟨?_,r9Find_lt _ _⟩;(first | omega | (simp_all;done))))| (intros;(try simp only [Bool.not_not,cond_and,cond_or,Bool.and_eq_true,decide_eq_true_eq] at *);(exact ⟨by decide,by simp⟩))| (intros;(try simp only [Bool.not_not,cond_and,cond_or,Bool.and_eq_true,decide_eq_true_eq] at *);(rw [wu64 _ (by unfold maxI;split <;> omega) (by unfold maxI;split <;> omega)];unfold maxI;split <;> omega))| (intros;(try simp only [Bool.not_not,cond_and,cond_or,Bool.and_eq_true,decide_eq_true_eq] at *);(simp_all [Bool.not_not];omega))| (intros;(try simp only [Bool.not_not,cond_and,cond_or,Bool.and_eq_true,decide_eq_true_eq] at *);(exact band_nn rfl _ _))| (intros;(try simp only [Bool.not_not,cond_and,cond_or,Bool.and_eq_true,decide_eq_true_eq] at *);(exact (wu64s _).2.1))| (intros;(try simp only [Bool.not_not,cond_and,cond_or,Bool.and_eq_true,decide_eq_true_eq] at *);(simp only [Bool.or_eq_false_iff,Bool.and_eq_false_iff,decide_eq_false_iff_not,decide_eq_true_eq,bne_iff_ne,beq_iff_eq,bne_eq_false_iff_eq,beq_eq_false_iff_ne,ne_eq,true_and] at *;omega))| (intros;(try simp only [Bool.not_not,cond_and,cond_or,Bool.and_eq_true,decide_eq_true_eq] at *);(simp only [List.length_drop,List.length_take,List.length_append,List.length_cons,List.length_nil] at *;omega))| (intros;omega)| (intros;simp only [Bool.not_not,cond_and,cond_or,Bool.and_eq_true,decide_eq_true_eq] at *;omega)| (intros;simp_all [Bool.not_not];done)))))))
def scInit.ct:Ct El:=ctOf scInit.dec (fun _=>[]) (fun x=>scInit.res (scInit x.1 x.2.1 x.2.2.1 x.2.2.2.1 x.2.2.2.2.1 x.2.2.2.2.2.1 x.2.2.2.2.2.2)) (fun x=>scInit.news (scInit x.1 x.2.1 x.2.2.1 x.2.2.2.1 x.2.2.2.2.1 x.2.2.2.2.2.1 x.2.2.2.2.2.2))
theorem scInit.ok:CtOk (mkCx Tryd.prog S [] 0) 47 scInit.ct:=ct_mk (C:=(mkCxI Tryd.prog S tab_r22Start 0 true sum_fIdx)) (mkCxI_ok sigOk mixed tab_r22Start_ok 0 true sum_fIdx_ok) scInit.dec_ok (fun x=>rfl) 4 (fun x _=>(scInit.nf_ok x.1 x.2.1 x.2.2.1 x.2.2.2.1 x.2.2.2.2.1 x.2.2.2.2.2.1 x.2.2.2.2.2.2 _).mpr (scInit.key x.1 x.2.1 x.2.2.1 x.2.2.2.1 x.2.2.2.2.1 x.2.2.2.2.2.1 x.2.2.2.2.2.2 _ rfl))
def tab_scInit:List (FuncId×Ct El):= (47,scInit.ct):: tab_r22Entry
theorem tab_scInit_ok:TabOk Tryd.prog S tab_scInit:=⟨scInit.ok,by kernel_rfl,tab_r22Entry_ok⟩
def r22Initiate.res (r:Send×Bool): AV El:=.tup [Send.av (r.1), .v (.bool (r.2))]
def r22Initiate.news (r:Send×Bool): List (AObj El):= []
def r22Initiate.L (e v:Send×Bool): Prop:=r22Initiate.res e=r22Initiate.res v∧r22Initiate.news e=r22Initiate.news v
def r22Initiate (own:Address) (p1:Address) (ids:List Identity) (c:ConnParams) (p:AdvPDU) (channel:Int) (p6:Int): Send×Bool:=cond (bif bif bif r19Check p != 0 then true else !r19Conn p.Kind then true else decide (channel < 37) then true else decide (39 < channel)) (((⟨(0),(0),⟨(0),⟨(0),(0)⟩,⟨(0),(0)⟩,([]),⟨(0),(0),⟨(0),(0),(0),(0),(0)⟩,(0),(0),(0),(0)⟩⟩⟩: Send),false)) (cond (bif !(p.Sender.Kind==p1.Kind && p.Sender.Bits==p1.Bits) then bif decide (r9Find ids p.Sender < 0) then true else !((List.getD ids (Int.toNat (r9Find ids p.Sender)) Identity.zero).Address.Kind==p1.Kind && (List.getD ids (Int.toNat (r9Find ids p.Sender)) Identity.zero).Address.Bits==p1.Bits) else false) (((⟨(0),(0),⟨(0),⟨(0),(0)⟩,⟨(0),(0)⟩,([]),⟨(0),(0),⟨(0),(0),(0),(0),(0)⟩,(0),(0),(0),(0)⟩⟩⟩: Send),false)) (cond (bif p.Kind==1 then !(p.Target.Kind==own.Kind && p.Target.Bits==own.Bits) else false) (((⟨(0),(0),⟨(0),⟨(0),(0)⟩,⟨(0),(0)⟩,([]),⟨(0),(0),⟨(0),(0),(0),(0),(0)⟩,(0),(0),(0),(0)⟩⟩⟩: Send),false)) (cond (r19Check {Kind:=5,Sender:=own,Target:=p.Sender,Data:=[],Conn:=c:AdvPDU} != 0) (((⟨(0),(0),⟨(0),⟨(0),(0)⟩,⟨(0),(0)⟩,([]),⟨(0),(0),⟨(0),(0),(0),(0),(0)⟩,(0),(0),(0),(0)⟩⟩⟩: Send),false)) (((⟨(channel),(IntKind.wrap IntKind.i64 (r21Place p6+150)),⟨(5),⟨(own.Kind),(own.Bits)⟩,⟨(p.Sender.Kind),(p.Sender.Bits)⟩,([]),⟨(c.Access),(c.Init),⟨(c.Update.WinSize),(c.Update.WinOffset),(c.Update.Interval),(c.Update.Latency),(c.Update.Timeout)⟩,(c.Map),(c.Hop),(c.PPM),(c.Algorithm)⟩⟩⟩: Send),true)))))
def r22Initiate.dec (cs:List (AV El)): Option (Address×Address×(List Identity)×ConnParams×AdvPDU×Int×Int):= popA Address.dec cs fun a0 c0=>popA Address.dec c0 fun a1 c1=>popS 126 c1 fun a2 c2=>popA ConnParams.dec c2 fun a3 c3=>popA AdvPDU.dec c3 fun a4 c4=>popI .i64 c4 fun a5 c5=>popI .i64 c5 fun a6 c6=>popE c6 (a0,a1,a2,a3,a4,a5,a6)
def r22Initiate.enc (x:Address×Address×(List Identity)×ConnParams×AdvPDU×Int×Int): List (AV El):= [Address.av x.1,Address.av x.2.1, .sl 126 (x.2.2.1:List (El 126)) false,ConnParams.av x.2.2.2.1,AdvPDU.av x.2.2.2.2.1, .v (.int .i64 x.2.2.2.2.2.1), .v (.int .i64 x.2.2.2.2.2.2)]
theorem r22Initiate.dec_ok : ∀cs x,r22Initiate.dec cs=some x→Imp (S:=S) cs (r22Initiate.enc x):= by
 intro cs x h
 unfold r22Initiate.dec at h
 obtain ⟨a0,c0,h0,k0⟩:= popA_some (S:=S) Address.dec_ok h
 obtain ⟨a1,c1,h1,k1⟩:= popA_some (S:=S) Address.dec_ok h0
 obtain ⟨a2,c2,h2,k2⟩:= popS_some (S:=S) (t:=126) h1
 obtain ⟨a3,c3,h3,k3⟩:= popA_some (S:=S) ConnParams.dec_ok h2
 obtain ⟨a4,c4,h4,k4⟩:= popA_some (S:=S) AdvPDU.dec_ok h3
 obtain ⟨a5,c5,rfl,h5⟩:= popI_some (S:=S) h4
 obtain ⟨a6,c6,rfl,h6⟩:= popI_some (S:=S) h5
 obtain ⟨rfl,rfl⟩:= popE_some (S:=S) h6
 exact (k0 _ (k1 _ (k2 _ (k3 _ (k4 _ (.cons (.cons (.refl _))))))))
def r22Initiate.nf (own:Address) (p1:Address) (ids:List Identity) (c:ConnParams) (p:AdvPDU) (channel:Int) (p6:Int) (v:Send×Bool): Prop:=Ob (o3 (!r19Check p != 0))∧(Ob (o3 (!r19Check p != 0))∧(Ob (o3 (!r19Check p != 0))∧(Ob (on (r19Check p != 0))∧(Ob (o3 (!bif r19Check p != 0 then true else !r19Conn p.Kind))∧(Ob (on (bif r19Check p != 0 then true else !r19Conn p.Kind))∧(Ob (o3 (!bif bif r19Check p != 0 then true else !r19Conn p.Kind then true else decide (channel < 37)))∧(Ob (on (bif bif r19Check p != 0 then true else !r19Conn p.Kind then true else decide (channel < 37)))∧(cond (bif bif bif r19Check p != 0 then true else !r19Conn p.Kind then true else decide (channel < 37) then true else decide (39 < channel)) (r22Initiate.L (((⟨(0),(0),⟨(0),⟨(0),(0)⟩,⟨(0),(0)⟩,([]),⟨(0),(0),⟨(0),(0),(0),(0),(0)⟩,(0),(0),(0),(0)⟩⟩⟩: Send),false)) v) (Ob (o3 (!(p.Sender.Kind==p1.Kind && p.Sender.Bits==p1.Bits)))∧(Ob (o3 (!(p.Sender.Kind==p1.Kind && p.Sender.Bits==p1.Bits)))∧(Ob (o3 (!(p.Sender.Kind==p1.Kind && p.Sender.Bits==p1.Bits) && !decide (r9Find ids p.Sender < 0)))∧(Ob (o3 (!(p.Sender.Kind==p1.Kind && p.Sender.Bits==p1.Bits) && !decide (r9Find ids p.Sender < 0)))∧(Ob ((!(p.Sender.Kind==p1.Kind && p.Sender.Bits==p1.Bits) && !decide (r9Find ids p.Sender < 0))= true→0≤r9Find ids p.Sender∧r9Find ids p.Sender < (↑(List.length ids): Int))∧(Ob (o3 (!(p.Sender.Kind==p1.Kind && p.Sender.Bits==p1.Bits) && !decide (r9Find ids p.Sender < 0)))∧(Ob (o3 (!(p.Sender.Kind==p1.Kind && p.Sender.Bits==p1.Bits) && !decide (r9Find ids p.Sender < 0)))∧(Ob (o3 (!(p.Sender.Kind==p1.Kind && p.Sender.Bits==p1.Bits) && !decide (r9Find ids p.Sender < 0)))∧(Ob (o3 (!(p.Sender.Kind==p1.Kind && p.Sender.Bits==p1.Bits) && !decide (r9Find ids p.Sender < 0)))∧(Ob (o2 (!(p.Sender.Kind==p1.Kind && p.Sender.Bits==p1.Bits)))∧(Ob ((!(p.Sender.Kind==p1.Kind && p.Sender.Bits==p1.Bits))= true→decide (r9Find ids p.Sender < 0)= false→(!(p.Sender.Kind==p1.Kind && p.Sender.Bits==p1.Bits) && !decide (r9Find ids p.Sender < 0))= true)∧(Ob (o2 (!(p.Sender.Kind==p1.Kind && p.Sender.Bits==p1.Bits)))∧(cond (bif !(p.Sender.Kind==p1.Kind && p.Sender.Bits==p1.Bits) then bif decide (r9Find ids p.Sender < 0) then true else !((List.getD ids (Int.toNat (r9Find ids p.Sender)) Identity.zero).Address.Kind==p1.Kind && (List.getD ids (Int.toNat (r9Find ids p.Sender)) Identity.zero).Address.Bits==p1.Bits) else false) (r22Initiate.L (((⟨(0),(0),⟨(0),⟨(0),(0)⟩,⟨(0),(0)⟩,([]),⟨(0),(0),⟨(0),(0),(0),(0),(0)⟩,(0),(0),(0),(0)⟩⟩⟩: Send),false)) v) (Ob (o3 (p.Kind==1))∧(Ob (o3 (p.Kind==1))∧(Ob (o3 (p.Kind==1))∧(Ob (o2 (p.Kind==1))∧(cond (bif p.Kind==1 then !(p.Target.Kind==own.Kind && p.Target.Bits==own.Bits) else false) (r22Initiate.L (((⟨(0),(0),⟨(0),⟨(0),(0)⟩,⟨(0),(0)⟩,([]),⟨(0),(0),⟨(0),(0),(0),(0),(0)⟩,(0),(0),(0),(0)⟩⟩⟩: Send),false)) v) (cond (r19Check {Kind:=5,Sender:=own,Target:=p.Sender,Data:=[],Conn:=c:AdvPDU} != 0) (r22Initiate.L (((⟨(0),(0),⟨(0),⟨(0),(0)⟩,⟨(0),(0)⟩,([]),⟨(0),(0),⟨(0),(0),(0),(0),(0)⟩,(0),(0),(0),(0)⟩⟩⟩: Send),false)) v) (r22Initiate.L (((⟨(channel),(IntKind.wrap IntKind.i64 (r21Place p6+150)),⟨(5),⟨(own.Kind),(own.Bits)⟩,⟨(p.Sender.Kind),(p.Sender.Bits)⟩,([]),⟨(c.Access),(c.Init),⟨(c.Update.WinSize),(c.Update.WinOffset),(c.Update.Interval),(c.Update.Latency),(c.Update.Timeout)⟩,(c.Map),(c.Hop),(c.PPM),(c.Algorithm)⟩⟩⟩: Send),true)) v))))))))))))))))))))))))))))
theorem r22Initiate.nf_ok (own:Address) (p1:Address) (ids:List Identity) (c:ConnParams) (p:AdvPDU) (channel:Int) (p6:Int) (v:Send×Bool): evFun (mkCxI Tryd.prog S tab_r22Start 0 true sum_fIdx) 4 48 [Address.av own,Address.av p1, .sl 126 (ids:List (El 126)) false,ConnParams.av c,AdvPDU.av p, .v (.int .i64 channel), .v (.int .i64 p6)] [] (fun r' H'=>Gives r' H' (r22Initiate.res v) (r22Initiate.news v))= r22Initiate.nf own p1 ids c p channel p6 v:=by kernel_rfl
theorem r22Initiate.key (own:Address) (p1:Address) (ids:List Identity) (c:ConnParams) (p:AdvPDU) (channel:Int) (p6:Int) (v:Send×Bool) (hv:v=r22Initiate own p1 ids c p channel p6): r22Initiate.nf own p1 ids c p channel p6 v:=by
 unfold r22Initiate at hv
 unfold r22Initiate.nf
 iterate 3 refine ⟨⟨o3_ok _⟩, ?_⟩
 refine ⟨⟨on_ok _⟩, ?_⟩
 refine ⟨⟨o3_ok _⟩, ?_⟩
 refine ⟨⟨on_ok _⟩, ?_⟩
 refine ⟨⟨o3_ok _⟩, ?_⟩
 refine ⟨⟨on_ok _⟩, ?_⟩
 revert hv;refine by_cond2 (fun hb hv=>?_) (fun hb hv=>?_)
 subst hv;exact ⟨rfl,rfl⟩
 iterate 4 refine ⟨⟨o3_ok _⟩, ?_⟩
 refine ⟨⟨?_⟩, ?_⟩;rotate_left
 iterate 4 refine ⟨⟨o3_ok _⟩, ?_⟩
 refine ⟨⟨o2_ok _⟩, ?_⟩
 refine ⟨⟨?_⟩, ?_⟩;rotate_left
 refine ⟨⟨o2_ok _⟩, ?_⟩
 revert hv;refine by_cond2 (fun hb hv=>?_) (fun hb hv=>?_)
 subst hv;exact ⟨rfl,rfl⟩
 iterate 3 refine ⟨⟨o3_ok _⟩, ?_⟩
 refine ⟨⟨o2_ok _⟩, ?_⟩
 revert hv;refine by_cond2 (fun hb hv=>?_) (fun hb hv=>?_)
 subst hv;exact ⟨rfl,rfl⟩
 revert hv;refine by_cond2 (fun hb hv=>?_) (fun hb hv=>?_)
 subst hv;exact ⟨rfl,rfl⟩
 subst hv;exact ⟨rfl,rfl⟩
 all_goals ((try clear hv);(try clear q1 q2);(try clear hk);(((try simp only [decide_eq_true_eq,decide_eq_false_iff_not,Bool.not_eq_true,Bool.not_eq_false,Bool.and_eq_true,Bool.or_eq_true,Bool.not_not,cond_and,cond_or,List.length_append,List.length_cons,List.length_nil] at *);(first | done | ((first | omega | (intros;(try simp only [Bool.not_not,cond_and,cond_or,Bool.and_eq_true,decide_eq_true_eq] at *);(refine ⟨?_,pFind_lt _ _⟩;(first | omega | (simp_all;done))))| (intros;(try simp only [Bool.not_not,cond_and,cond_or,Bool.and_eq_true,decide_eq_true_eq] at *);(refine ⟨?_,r9Find_lt _ _⟩;(first | omega | (simp_all;done))))| (intros;(try simp only [Bool.not_not,cond_and,cond_or,Bool.and_eq_true,decide_eq_true_eq] at *);(exact ⟨by decide,by simp⟩))| (intros;(try simp only [Bool.not_not,cond_and,cond_or,Bool.and_eq_true,decide_eq_true_eq] at *);(rw [wu64 _ (by unfold maxI;split <;> omega) (by unfold maxI;split <;> omega)];unfold maxI;split <;> omega))| (intros;(try simp only [Bool.not_not,cond_and,cond_or,Bool.and_eq_true,decide_eq_true_eq] at *);(simp_all [Bool.not_not];omega))| (intros;(try simp only [Bool.not_not,cond_and,cond_or,Bool.and_eq_true,decide_eq_true_eq] at *);(exact band_nn rfl _ _))| (intros;(try simp only [Bool.not_not,cond_and,cond_or,Bool.and_eq_true,decide_eq_true_eq] at *);(exact (wu64s _).2.1))| (intros;(try simp only [Bool.not_not,cond_and,cond_or,Bool.and_eq_true,decide_eq_true_eq] at *);(simp only [Bool.or_eq_false_iff,Bool.and_eq_false_iff,decide_eq_false_iff_not,decide_eq_true_eq,bne_iff_ne,beq_iff_eq,bne_eq_false_iff_eq,beq_eq_false_iff_ne,ne_eq,true_and] at *;omega))| (intros;(try simp only [Bool.not_not,cond_and,cond_or,Bool.and_eq_true,decide_eq_true_eq] at *);(simp only [List.length_drop,List.length_take,List.length_append,List.length_cons,List.length_nil] at *;omega))| (intros;omega)| (intros;simp only [Bool.not_not,cond_and,cond_or,Bool.and_eq_true,decide_eq_true_eq] at *;omega)| (intros;simp_all [Bool.not_not];done)))))))
def r22Initiate.ct:Ct El:=ctOf r22Initiate.dec (fun _=>[]) (fun x=>r22Initiate.res (r22Initiate x.1 x.2.1 x.2.2.1 x.2.2.2.1 x.2.2.2.2.1 x.2.2.2.2.2.1 x.2.2.2.2.2.2)) (fun x=>r22Initiate.news (r22Initiate x.1 x.2.1 x.2.2.1 x.2.2.2.1 x.2.2.2.2.1 x.2.2.2.2.2.1 x.2.2.2.2.2.2))
theorem r22Initiate.ok:CtOk (mkCx Tryd.prog S [] 0) 48 r22Initiate.ct:=ct_mk (C:=(mkCxI Tryd.prog S tab_r22Start 0 true sum_fIdx)) (mkCxI_ok sigOk mixed tab_r22Start_ok 0 true sum_fIdx_ok) r22Initiate.dec_ok (fun x=>rfl) 4 (fun x _=>(r22Initiate.nf_ok x.1 x.2.1 x.2.2.1 x.2.2.2.1 x.2.2.2.2.1 x.2.2.2.2.2.1 x.2.2.2.2.2.2 _).mpr (r22Initiate.key x.1 x.2.1 x.2.2.1 x.2.2.2.1 x.2.2.2.2.1 x.2.2.2.2.2.1 x.2.2.2.2.2.2 _ rfl))
def tab_r22Initiate:List (FuncId×Ct El):= (48,r22Initiate.ct):: tab_scInit
theorem tab_r22Initiate_ok:TabOk Tryd.prog S tab_r22Initiate:=⟨r22Initiate.ok,by kernel_rfl,tab_scInit_ok⟩
end Go.Aw.W
