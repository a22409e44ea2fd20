/- Contracts of the seat (printed by ct.py). -/
import Derived.Test.YtlnbhdcaebmffaaGreatXW2
set_option linter.unusedVariables false
set_option linter.unusedSimpArgs false
set_option maxRecDepth 20000
set_option maxHeartbeats 1000000
namespace Go.Aw.W
open Go Go.Aw Go.Proofs
attribute [local irreducible] evCode evFun evOps evDs evOne ctxK loopK loopB subC bodyC headS okH roundK
def forms.res:AV El:=.fm .i64 ([5,6,18,19,8,9,20,21,0,1,15,2,3,4,7,12,13]: List Int) [.agg [.sl 3 ([]: List (El 3)) false, .clo 136 [], .clo 137 [], .clo 115 []], .agg [.sl 3 ([]: List (El 3)) false, .clo 136 [], .clo 137 [], .clo 115 []], .agg [.sl 3 ([]: List (El 3)) false, .clo 136 [], .clo 137 [], .clo 115 []], .agg [.sl 3 ([]: List (El 3)) false, .clo 136 [], .clo 137 [], .clo 115 []], .agg [.sl 3 ([(8:Int)]: List (El 3)) false, .clo 138 [], .clo 139 [], .clo 115 []], .agg [.sl 3 ([(8:Int)]: List (El 3)) false, .clo 138 [], .clo 139 [], .clo 115 []], .agg [.sl 3 ([(1:Int)]: List (El 3)) false, .clo 140 [], .clo 141 [], .clo 142 []], .agg [.sl 3 ([(1:Int)]: List (El 3)) false, .clo 140 [], .clo 141 [], .clo 142 []], .agg [.sl 3 ([(1:Int),(2:Int),(2:Int),(2:Int),(2:Int),(2:Int)]: List (El 3)) false, .clo 96 [], .clo 98 [], .clo 100 []], .agg [.sl 3 ([(5:Int),(2:Int)]: List (El 3)) false, .clo 102 [], .clo 103 [], .clo 104 []], .agg [.sl 3 ([(1:Int),(2:Int),(2:Int),(2:Int),(2:Int)]: List (El 3)) false, .clo 106 [], .clo 107 [], .clo 108 []], .agg [.sl 3 ([(1:Int)]: List (El 3)) false, .clo 109 [], .clo 110 [], .clo 111 []], .agg [.sl 3 ([(8:Int),(8:Int)]: List (El 3)) false, .clo 113 [], .clo 114 [], .clo 115 []], .agg [.sl 3 ([(8:Int)]: List (El 3)) false, .clo 116 [], .clo 117 [], .clo 115 []], .agg [.sl 3 ([(1:Int)]: List (El 3)) false, .clo 118 [], .clo 119 [], .clo 120 []], .agg [.sl 3 ([(1:Int)]: List (El 3)) false, .clo 121 [], .clo 122 [], .clo 123 []], .agg [.sl 3 ([(1:Int),(1:Int)]: List (El 3)) false, .clo 124 [], .clo 125 [], .clo 126 []]]
def forms.dec (cs:List (AV El)): Option (Unit):= popE cs ()
def forms.enc (x:Unit): List (AV El):= []
theorem forms.dec_ok : ∀cs x,forms.dec cs=some x→Imp (S:=S) cs (forms.enc x):= by
 intro cs x h
 unfold forms.dec at h
 obtain ⟨rfl,rfl⟩:= popE_some (S:=S) h
 exact (.refl _)
def forms.ct:Ct El:=ctOf forms.dec (fun _=>[]) (fun _=>forms.res) (fun _=>[])
theorem forms.nf_ok (K:AV El→List (AObj El)→Prop): evFun (mkCx Tryz.prog S tab_kCheck 0) 4 63 [] [] K=(K (.gm 0) [.mp .i64 ([]++ [(5:Int)]++ [(6:Int)]++ [(18:Int)]++ [(19:Int)]++ [(8:Int)]++ [(9:Int)]++ [(20:Int)]++ [(21:Int)]++ [(0:Int)]++ [(1:Int)]++ [(15:Int)]++ [(2:Int)]++ [(3:Int)]++ [(4:Int)]++ [(7:Int)]++ [(12:Int)]++ [(13:Int)]) [.agg [.v (.slice none 0 0), .clo 136 [], .clo 137 [], .clo 115 []], .agg [.v (.slice none 0 0), .clo 136 [], .clo 137 [], .clo 115 []], .agg [.v (.slice none 0 0), .clo 136 [], .clo 137 [], .clo 115 []], .agg [.v (.slice none 0 0), .clo 136 [], .clo 137 [], .clo 115 []], .agg [.gs 6, .clo 138 [], .clo 139 [], .clo 115 []], .agg [.gs 8, .clo 138 [], .clo 139 [], .clo 115 []], .agg [.gs 10, .clo 140 [], .clo 141 [], .clo 142 []], .agg [.gs 12, .clo 140 [], .clo 141 [], .clo 142 []], .agg [.gs 13, .clo 96 [], .clo 98 [], .clo 100 []], .agg [.gs 14, .clo 102 [], .clo 103 [], .clo 104 []], .agg [.gs 15, .clo 106 [], .clo 107 [], .clo 108 []], .agg [.gs 16, .clo 109 [], .clo 110 [], .clo 111 []], .agg [.gs 17, .clo 113 [], .clo 114 [], .clo 115 []], .agg [.gs 18, .clo 116 [], .clo 117 [], .clo 115 []], .agg [.gs 19, .clo 118 [], .clo 119 [], .clo 120 []], .agg [.gs 20, .clo 121 [], .clo 122 [], .clo 123 []], .agg [.gs 21, .clo 124 [], .clo 125 [], .clo 126 []]], .cells [.v (.slice none 0 0), .clo 136 [], .clo 137 [], .clo 115 []], .cells [.v (.slice none 0 0), .clo 136 [], .clo 137 [], .clo 115 []], .cells [.v (.slice none 0 0), .clo 136 [], .clo 137 [], .clo 115 []], .cells [.v (.slice none 0 0), .clo 136 [], .clo 137 [], .clo 115 []], .cells [.gs 6, .clo 138 [], .clo 139 [], .clo 115 []], .row 3 ([(8:Int)]: List (El 3)), .cells [.gs 8, .clo 138 [], .clo 139 [], .clo 115 []], .row 3 ([(8:Int)]: List (El 3)), .cells [.gs 10, .clo 140 [], .clo 141 [], .clo 142 []], .row 3 ([(1:Int)]: List (El 3)), .cells [.gs 12, .clo 140 [], .clo 141 [], .clo 142 []], .row 3 ([(1:Int)]: List (El 3)), .row 3 ([(1:Int),(2:Int),(2:Int),(2:Int),(2:Int),(2:Int)]: List (El 3)), .row 3 ([(5:Int),(2:Int)]: List (El 3)), .row 3 ([(1:Int),(2:Int),(2:Int),(2:Int),(2:Int)]: List (El 3)), .row 3 ([(1:Int)]: List (El 3)), .row 3 ([(8:Int),(8:Int)]: List (El 3)), .row 3 ([(8:Int)]: List (El 3)), .row 3 ([(1:Int)]: List (El 3)), .row 3 ([(1:Int)]: List (El 3)), .row 3 ([(1:Int),(1:Int)]: List (El 3))]):= by kernel_rfl
theorem forms.gives:Gives (.gm 0) [.mp .i64 ([]++ [(5:Int)]++ [(6:Int)]++ [(18:Int)]++ [(19:Int)]++ [(8:Int)]++ [(9:Int)]++ [(20:Int)]++ [(21:Int)]++ [(0:Int)]++ [(1:Int)]++ [(15:Int)]++ [(2:Int)]++ [(3:Int)]++ [(4:Int)]++ [(7:Int)]++ [(12:Int)]++ [(13:Int)]) [.agg [.v (.slice none 0 0), .clo 136 [], .clo 137 [], .clo 115 []], .agg [.v (.slice none 0 0), .clo 136 [], .clo 137 [], .clo 115 []], .agg [.v (.slice none 0 0), .clo 136 [], .clo 137 [], .clo 115 []], .agg [.v (.slice none 0 0), .clo 136 [], .clo 137 [], .clo 115 []], .agg [.gs 6, .clo 138 [], .clo 139 [], .clo 115 []], .agg [.gs 8, .clo 138 [], .clo 139 [], .clo 115 []], .agg [.gs 10, .clo 140 [], .clo 141 [], .clo 142 []], .agg [.gs 12, .clo 140 [], .clo 141 [], .clo 142 []], .agg [.gs 13, .clo 96 [], .clo 98 [], .clo 100 []], .agg [.gs 14, .clo 102 [], .clo 103 [], .clo 104 []], .agg [.gs 15, .clo 106 [], .clo 107 [], .clo 108 []], .agg [.gs 16, .clo 109 [], .clo 110 [], .clo 111 []], .agg [.gs 17, .clo 113 [], .clo 114 [], .clo 115 []], .agg [.gs 18, .clo 116 [], .clo 117 [], .clo 115 []], .agg [.gs 19, .clo 118 [], .clo 119 [], .clo 120 []], .agg [.gs 20, .clo 121 [], .clo 122 [], .clo 123 []], .agg [.gs 21, .clo 124 [], .clo 125 [], .clo 126 []]], .cells [.v (.slice none 0 0), .clo 136 [], .clo 137 [], .clo 115 []], .cells [.v (.slice none 0 0), .clo 136 [], .clo 137 [], .clo 115 []], .cells [.v (.slice none 0 0), .clo 136 [], .clo 137 [], .clo 115 []], .cells [.v (.slice none 0 0), .clo 136 [], .clo 137 [], .clo 115 []], .cells [.gs 6, .clo 138 [], .clo 139 [], .clo 115 []], .row 3 ([(8:Int)]: List (El 3)), .cells [.gs 8, .clo 138 [], .clo 139 [], .clo 115 []], .row 3 ([(8:Int)]: List (El 3)), .cells [.gs 10, .clo 140 [], .clo 141 [], .clo 142 []], .row 3 ([(1:Int)]: List (El 3)), .cells [.gs 12, .clo 140 [], .clo 141 [], .clo 142 []], .row 3 ([(1:Int)]: List (El 3)), .row 3 ([(1:Int),(2:Int),(2:Int),(2:Int),(2:Int),(2:Int)]: List (El 3)), .row 3 ([(5:Int),(2:Int)]: List (El 3)), .row 3 ([(1:Int),(2:Int),(2:Int),(2:Int),(2:Int)]: List (El 3)), .row 3 ([(1:Int)]: List (El 3)), .row 3 ([(8:Int),(8:Int)]: List (El 3)), .row 3 ([(8:Int)]: List (El 3)), .row 3 ([(1:Int)]: List (El 3)), .row 3 ([(1:Int)]: List (El 3)), .row 3 ([(1:Int),(1:Int)]: List (El 3))] forms.res []:= And.intro (by kernel_rfl) (by kernel_rfl)
theorem forms.ok:CtOk (mkCx Tryz.prog S [] 0) 63 forms.ct:=ct_mk (C:=(mkCx Tryz.prog S tab_kCheck 0)) (mkCx_ok sigOk mixed tab_kCheck_ok 0) forms.dec_ok (fun x=>rfl) 4 (fun x _=>(forms.nf_ok _).mpr forms.gives)
def tab_forms:List (FuncId×Ct El):= (63,forms.ct):: tab_kCheck
theorem tab_forms_ok:TabOk Tryz.prog S tab_forms:=⟨forms.ok,by kernel_rfl,tab_kCheck_ok⟩
def gUpdate.res (r:(List Int)): AV El:=.sl 22 (r:List (El 22)) false
def gUpdate.news (r:(List Int)): List (AObj El):= []
def gUpdate.L (e v:(List Int)): Prop:=gUpdate.res e=gUpdate.res v∧gUpdate.news e=gUpdate.news v
def gUpdate (c:Control): (List Int):= cUpd c.Update ++ [IntKind.wrap IntKind.u64 c.Instant]
def gUpdate.dec (cs:List (AV El)): Option (Control):= popA Control.dec cs fun a0 c0=>popE c0 a0
def gUpdate.enc (x:Control): List (AV El):= [Control.av x]
theorem gUpdate.dec_ok : ∀cs x,gUpdate.dec cs=some x→Imp (S:=S) cs (gUpdate.enc x):= by
 intro cs x h
 unfold gUpdate.dec at h
 obtain ⟨a0,c0,h0,k0⟩:= popA_some (S:=S) Control.dec_ok h
 obtain ⟨rfl,rfl⟩:= popE_some (S:=S) h0
 exact (k0 _ (.refl _))
def gUpdate.nf (c:Control) (v:(List Int)): Prop:=Ob ((List.length (cUpd c.Update)+ List.length [IntKind.wrap IntKind.u64 c.Instant])* (8:Nat)≤(140737488355328:Nat))∧(gUpdate.L (cUpd c.Update ++ [IntKind.wrap IntKind.u64 c.Instant]) v)
theorem gUpdate.nf_ok (c:Control) (v:(List Int)): evFun (mkCx Tryz.prog S tab_forms 0) 4 96 [Control.av c] [] (fun r' H'=>Gives r' H' (gUpdate.res v) (gUpdate.news v))= gUpdate.nf c v:=by kernel_rfl
theorem gUpdate.key (c:Control) (v:(List Int)) (hv:v=gUpdate c): gUpdate.nf c v:=by
 unfold gUpdate at hv
 unfold gUpdate.nf
 refine ⟨⟨by (try clear hv);(try clear q1 q2);(try clear hk);(first | omega | (simp only [cUpd,List.length_append,List.length_cons,List.length_nil] at *;omega)| ((try simp only [decide_eq_true_eq,decide_eq_false_iff_not,Bool.not_eq_true,Bool.not_eq_false,Bool.and_eq_true,Bool.or_eq_true,Bool.not_not,cond_and,cond_or,List.length_append,List.length_cons,List.length_nil] at *);(first | done | (have:=wu64s c.Instant;(first | omega | (intros;(try simp only [Bool.not_not,cond_and,cond_or,Bool.and_eq_true,decide_eq_true_eq] at *);(exact band_nn rfl _ _))| (intros;(try simp only [Bool.not_not,cond_and,cond_or,Bool.and_eq_true,decide_eq_true_eq] at *);(exact (wu64s _).2.1))| (intros;(try simp only [Bool.not_not,cond_and,cond_or,Bool.and_eq_true,decide_eq_true_eq] at *);(simp only [Bool.or_eq_false_iff,Bool.and_eq_false_iff,decide_eq_false_iff_not,decide_eq_true_eq,bne_iff_ne,beq_iff_eq,bne_eq_false_iff_eq,beq_eq_false_iff_ne,ne_eq,true_and] at *;omega))| (intros;(try simp only [Bool.not_not,cond_and,cond_or,Bool.and_eq_true,decide_eq_true_eq] at *);(simp only [List.length_drop,List.length_take,List.length_append,List.length_cons,List.length_nil] at *;omega))| (intros;omega)| (intros;simp only [Bool.not_not,cond_and,cond_or,Bool.and_eq_true,decide_eq_true_eq] at *;omega)| (intros;simp_all [Bool.not_not];done))))))⟩, ?_⟩
 subst hv;exact ⟨rfl,rfl⟩
def gUpdate.ct:Ct El:=ctOf gUpdate.dec (fun _=>[]) (fun x=>gUpdate.res (gUpdate x)) (fun x=>gUpdate.news (gUpdate x))
theorem gUpdate.ok:CtOk (mkCx Tryz.prog S [] 0) 96 gUpdate.ct:=ct_mk (C:=(mkCx Tryz.prog S tab_forms 0)) (mkCx_ok sigOk mixed tab_forms_ok 0) gUpdate.dec_ok (fun x=>rfl) 4 (fun x _=>(gUpdate.nf_ok x _).mpr (gUpdate.key x _ rfl))
def tab_gUpdate:List (FuncId×Ct El):= (96,gUpdate.ct):: tab_forms
theorem tab_gUpdate_ok:TabOk Tryz.prog S tab_gUpdate:=⟨gUpdate.ok,by kernel_rfl,tab_forms_ok⟩
def gMap.res (r:(List Int)): AV El:=.sl 22 (r:List (El 22)) false
def gMap.news (r:(List Int)): List (AObj El):= []
def gMap.L (e v:(List Int)): Prop:=gMap.res e=gMap.res v∧gMap.news e=gMap.news v
def gMap (c:Control): (List Int):= [c.Map,IntKind.wrap IntKind.u64 c.Instant]
def gMap.dec (cs:List (AV El)): Option (Control):= popA Control.dec cs fun a0 c0=>popE c0 a0
def gMap.enc (x:Control): List (AV El):= [Control.av x]
theorem gMap.dec_ok : ∀cs x,gMap.dec cs=some x→Imp (S:=S) cs (gMap.enc x):= by
 intro cs x h
 unfold gMap.dec at h
 obtain ⟨a0,c0,h0,k0⟩:= popA_some (S:=S) Control.dec_ok h
 obtain ⟨rfl,rfl⟩:= popE_some (S:=S) h0
 exact (k0 _ (.refl _))
def gMap.nf (c:Control) (v:(List Int)): Prop:=gMap.L ([c.Map,IntKind.wrap IntKind.u64 c.Instant]) v
theorem gMap.nf_ok (c:Control) (v:(List Int)): evFun (mkCx Tryz.prog S tab_forms 0) 4 102 [Control.av c] [] (fun r' H'=>Gives r' H' (gMap.res v) (gMap.news v))= gMap.nf c v:=by kernel_rfl
theorem gMap.key (c:Control) (v:(List Int)) (hv:v=gMap c): gMap.nf c v:=by
 unfold gMap at hv
 unfold gMap.nf
 subst hv;exact ⟨rfl,rfl⟩
def gMap.ct:Ct El:=ctOf gMap.dec (fun _=>[]) (fun x=>gMap.res (gMap x)) (fun x=>gMap.news (gMap x))
theorem gMap.ok:CtOk (mkCx Tryz.prog S [] 0) 102 gMap.ct:=ct_mk (C:=(mkCx Tryz.prog S tab_forms 0)) (mkCx_ok sigOk mixed tab_forms_ok 0) gMap.dec_ok (fun x=>rfl) 4 (fun x _=>(gMap.nf_ok x _).mpr (gMap.key x _ rfl))
def tab_gMap:List (FuncId×Ct El):= (102,gMap.ct):: tab_gUpdate
theorem tab_gMap_ok:TabOk Tryz.prog S tab_gMap:=⟨gMap.ok,by kernel_rfl,tab_gUpdate_ok⟩
def gParams.res (r:(List Int)): AV El:=.sl 22 (r:List (El 22)) false
def gParams.news (r:(List Int)): List (AObj El):= []
def gParams.L (e v:(List Int)): Prop:=gParams.res e=gParams.res v∧gParams.news e=gParams.news v
def gParams (c:Control): (List Int):= cUpd c.Update
def gParams.dec (cs:List (AV El)): Option (Control):= popA Control.dec cs fun a0 c0=>popE c0 a0
def gParams.enc (x:Control): List (AV El):= [Control.av x]
theorem gParams.dec_ok : ∀cs x,gParams.dec cs=some x→Imp (S:=S) cs (gParams.enc x):= by
 intro cs x h
 unfold gParams.dec at h
 obtain ⟨a0,c0,h0,k0⟩:= popA_some (S:=S) Control.dec_ok h
 obtain ⟨rfl,rfl⟩:= popE_some (S:=S) h0
 exact (k0 _ (.refl _))
def gParams.nf (c:Control) (v:(List Int)): Prop:=gParams.L (cUpd c.Update) v
theorem gParams.nf_ok (c:Control) (v:(List Int)): evFun (mkCx Tryz.prog S tab_forms 0) 4 106 [Control.av c] [] (fun r' H'=>Gives r' H' (gParams.res v) (gParams.news v))= gParams.nf c v:=by kernel_rfl
theorem gParams.key (c:Control) (v:(List Int)) (hv:v=gParams c): gParams.nf c v:=by
 unfold gParams at hv
 unfold gParams.nf
 subst hv;exact ⟨rfl,rfl⟩
def gParams.ct:Ct El:=ctOf gParams.dec (fun _=>[]) (fun x=>gParams.res (gParams x)) (fun x=>gParams.news (gParams x))
theorem gParams.ok:CtOk (mkCx Tryz.prog S [] 0) 106 gParams.ct:=ct_mk (C:=(mkCx Tryz.prog S tab_forms 0)) (mkCx_ok sigOk mixed tab_forms_ok 0) gParams.dec_ok (fun x=>rfl) 4 (fun x _=>(gParams.nf_ok x _).mpr (gParams.key x _ rfl))
def tab_gParams:List (FuncId×Ct El):= (106,gParams.ct):: tab_gMap
theorem tab_gParams_ok:TabOk Tryz.prog S tab_gParams:=⟨gParams.ok,by kernel_rfl,tab_gMap_ok⟩
def gTerm.res (r:(List Int)): AV El:=.sl 22 (r:List (El 22)) false
def gTerm.news (r:(List Int)): List (AObj El):= []
def gTerm.L (e v:(List Int)): Prop:=gTerm.res e=gTerm.res v∧gTerm.news e=gTerm.news v
def gTerm (c:Control): (List Int):= [IntKind.wrap IntKind.u64 c.Reason]
def gTerm.dec (cs:List (AV El)): Option (Control):= popA Control.dec cs fun a0 c0=>popE c0 a0
def gTerm.enc (x:Control): List (AV El):= [Control.av x]
theorem gTerm.dec_ok : ∀cs x,gTerm.dec cs=some x→Imp (S:=S) cs (gTerm.enc x):= by
 intro cs x h
 unfold gTerm.dec at h
 obtain ⟨a0,c0,h0,k0⟩:= popA_some (S:=S) Control.dec_ok h
 obtain ⟨rfl,rfl⟩:= popE_some (S:=S) h0
 exact (k0 _ (.refl _))
def gTerm.nf (c:Control) (v:(List Int)): Prop:=gTerm.L ([IntKind.wrap IntKind.u64 c.Reason]) v
theorem gTerm.nf_ok (c:Control) (v:(List Int)): evFun (mkCx Tryz.prog S tab_forms 0) 4 109 [Control.av c] [] (fun r' H'=>Gives r' H' (gTerm.res v) (gTerm.news v))= gTerm.nf c v:=by kernel_rfl
theorem gTerm.key (c:Control) (v:(List Int)) (hv:v=gTerm c): gTerm.nf c v:=by
 unfold gTerm at hv
 unfold gTerm.nf
 subst hv;exact ⟨rfl,rfl⟩
def gTerm.ct:Ct El:=ctOf gTerm.dec (fun _=>[]) (fun x=>gTerm.res (gTerm x)) (fun x=>gTerm.news (gTerm x))
theorem gTerm.ok:CtOk (mkCx Tryz.prog S [] 0) 109 gTerm.ct:=ct_mk (C:=(mkCx Tryz.prog S tab_forms 0)) (mkCx_ok sigOk mixed tab_forms_ok 0) gTerm.dec_ok (fun x=>rfl) 4 (fun x _=>(gTerm.nf_ok x _).mpr (gTerm.key x _ rfl))
def tab_gTerm:List (FuncId×Ct El):= (109,gTerm.ct):: tab_gParams
theorem tab_gTerm_ok:TabOk Tryz.prog S tab_gTerm:=⟨gTerm.ok,by kernel_rfl,tab_gParams_ok⟩
def gEncrypt.res (r:(List Int)): AV El:=.sl 22 (r:List (El 22)) false
def gEncrypt.news (r:(List Int)): List (AObj El):= []
def gEncrypt.L (e v:(List Int)): Prop:=gEncrypt.res e=gEncrypt.res v∧gEncrypt.news e=gEncrypt.news v
def gEncrypt (c:Control): (List Int):= [c.Salt,c.Mark]
def gEncrypt.dec (cs:List (AV El)): Option (Control):= popA Control.dec cs fun a0 c0=>popE c0 a0
def gEncrypt.enc (x:Control): List (AV El):= [Control.av x]
theorem gEncrypt.dec_ok : ∀cs x,gEncrypt.dec cs=some x→Imp (S:=S) cs (gEncrypt.enc x):= by
 intro cs x h
 unfold gEncrypt.dec at h
 obtain ⟨a0,c0,h0,k0⟩:= popA_some (S:=S) Control.dec_ok h
 obtain ⟨rfl,rfl⟩:= popE_some (S:=S) h0
 exact (k0 _ (.refl _))
def gEncrypt.nf (c:Control) (v:(List Int)): Prop:=gEncrypt.L ([c.Salt,c.Mark]) v
theorem gEncrypt.nf_ok (c:Control) (v:(List Int)): evFun (mkCx Tryz.prog S tab_forms 0) 4 113 [Control.av c] [] (fun r' H'=>Gives r' H' (gEncrypt.res v) (gEncrypt.news v))= gEncrypt.nf c v:=by kernel_rfl
theorem gEncrypt.key (c:Control) (v:(List Int)) (hv:v=gEncrypt c): gEncrypt.nf c v:=by
 unfold gEncrypt at hv
 unfold gEncrypt.nf
 subst hv;exact ⟨rfl,rfl⟩
def gEncrypt.ct:Ct El:=ctOf gEncrypt.dec (fun _=>[]) (fun x=>gEncrypt.res (gEncrypt x)) (fun x=>gEncrypt.news (gEncrypt x))
theorem gEncrypt.ok:CtOk (mkCx Tryz.prog S [] 0) 113 gEncrypt.ct:=ct_mk (C:=(mkCx Tryz.prog S tab_forms 0)) (mkCx_ok sigOk mixed tab_forms_ok 0) gEncrypt.dec_ok (fun x=>rfl) 4 (fun x _=>(gEncrypt.nf_ok x _).mpr (gEncrypt.key x _ rfl))
def tab_gEncrypt:List (FuncId×Ct El):= (113,gEncrypt.ct):: tab_gTerm
theorem tab_gEncrypt_ok:TabOk Tryz.prog S tab_gEncrypt:=⟨gEncrypt.ok,by kernel_rfl,tab_gTerm_ok⟩
def gEncAns.res (r:(List Int)): AV El:=.sl 22 (r:List (El 22)) false
def gEncAns.news (r:(List Int)): List (AObj El):= []
def gEncAns.L (e v:(List Int)): Prop:=gEncAns.res e=gEncAns.res v∧gEncAns.news e=gEncAns.news v
def gEncAns (c:Control): (List Int):= [c.Salt]
def gEncAns.dec (cs:List (AV El)): Option (Control):= popA Control.dec cs fun a0 c0=>popE c0 a0
def gEncAns.enc (x:Control): List (AV El):= [Control.av x]
theorem gEncAns.dec_ok : ∀cs x,gEncAns.dec cs=some x→Imp (S:=S) cs (gEncAns.enc x):= by
 intro cs x h
 unfold gEncAns.dec at h
 obtain ⟨a0,c0,h0,k0⟩:= popA_some (S:=S) Control.dec_ok h
 obtain ⟨rfl,rfl⟩:= popE_some (S:=S) h0
 exact (k0 _ (.refl _))
def gEncAns.nf (c:Control) (v:(List Int)): Prop:=gEncAns.L ([c.Salt]) v
theorem gEncAns.nf_ok (c:Control) (v:(List Int)): evFun (mkCx Tryz.prog S tab_forms 0) 4 116 [Control.av c] [] (fun r' H'=>Gives r' H' (gEncAns.res v) (gEncAns.news v))= gEncAns.nf c v:=by kernel_rfl
theorem gEncAns.key (c:Control) (v:(List Int)) (hv:v=gEncAns c): gEncAns.nf c v:=by
 unfold gEncAns at hv
 unfold gEncAns.nf
 subst hv;exact ⟨rfl,rfl⟩
def gEncAns.ct:Ct El:=ctOf gEncAns.dec (fun _=>[]) (fun x=>gEncAns.res (gEncAns x)) (fun x=>gEncAns.news (gEncAns x))
theorem gEncAns.ok:CtOk (mkCx Tryz.prog S [] 0) 116 gEncAns.ct:=ct_mk (C:=(mkCx Tryz.prog S tab_forms 0)) (mkCx_ok sigOk mixed tab_forms_ok 0) gEncAns.dec_ok (fun x=>rfl) 4 (fun x _=>(gEncAns.nf_ok x _).mpr (gEncAns.key x _ rfl))
def tab_gEncAns:List (FuncId×Ct El):= (116,gEncAns.ct):: tab_gEncrypt
theorem tab_gEncAns_ok:TabOk Tryz.prog S tab_gEncAns:=⟨gEncAns.ok,by kernel_rfl,tab_gEncrypt_ok⟩
def gUnknown.res (r:(List Int)): AV El:=.sl 22 (r:List (El 22)) false
def gUnknown.news (r:(List Int)): List (AObj El):= []
def gUnknown.L (e v:(List Int)): Prop:=gUnknown.res e=gUnknown.res v∧gUnknown.news e=gUnknown.news v
def gUnknown (c:Control): (List Int):= [IntKind.wrap IntKind.u64 c.Rejected]
def gUnknown.dec (cs:List (AV El)): Option (Control):= popA Control.dec cs fun a0 c0=>popE c0 a0
def gUnknown.enc (x:Control): List (AV El):= [Control.av x]
theorem gUnknown.dec_ok : ∀cs x,gUnknown.dec cs=some x→Imp (S:=S) cs (gUnknown.enc x):= by
 intro cs x h
 unfold gUnknown.dec at h
 obtain ⟨a0,c0,h0,k0⟩:= popA_some (S:=S) Control.dec_ok h
 obtain ⟨rfl,rfl⟩:= popE_some (S:=S) h0
 exact (k0 _ (.refl _))
def gUnknown.nf (c:Control) (v:(List Int)): Prop:=gUnknown.L ([IntKind.wrap IntKind.u64 c.Rejected]) v
theorem gUnknown.nf_ok (c:Control) (v:(List Int)): evFun (mkCx Tryz.prog S tab_forms 0) 4 118 [Control.av c] [] (fun r' H'=>Gives r' H' (gUnknown.res v) (gUnknown.news v))= gUnknown.nf c v:=by kernel_rfl
theorem gUnknown.key (c:Control) (v:(List Int)) (hv:v=gUnknown c): gUnknown.nf c v:=by
 unfold gUnknown at hv
 unfold gUnknown.nf
 subst hv;exact ⟨rfl,rfl⟩
def gUnknown.ct:Ct El:=ctOf gUnknown.dec (fun _=>[]) (fun x=>gUnknown.res (gUnknown x)) (fun x=>gUnknown.news (gUnknown x))
theorem gUnknown.ok:CtOk (mkCx Tryz.prog S [] 0) 118 gUnknown.ct:=ct_mk (C:=(mkCx Tryz.prog S tab_forms 0)) (mkCx_ok sigOk mixed tab_forms_ok 0) gUnknown.dec_ok (fun x=>rfl) 4 (fun x _=>(gUnknown.nf_ok x _).mpr (gUnknown.key x _ rfl))
def tab_gUnknown:List (FuncId×Ct El):= (118,gUnknown.ct):: tab_gEncAns
theorem tab_gUnknown_ok:TabOk Tryz.prog S tab_gUnknown:=⟨gUnknown.ok,by kernel_rfl,tab_gEncAns_ok⟩
def gVersion.res (r:(List Int)): AV El:=.sl 22 (r:List (El 22)) false
def gVersion.news (r:(List Int)): List (AObj El):= []
def gVersion.L (e v:(List Int)): Prop:=gVersion.res e=gVersion.res v∧gVersion.news e=gVersion.news v
def gVersion (c:Control): (List Int):= [IntKind.wrap IntKind.u64 c.Version]
def gVersion.dec (cs:List (AV El)): Option (Control):= popA Control.dec cs fun a0 c0=>popE c0 a0
def gVersion.enc (x:Control): List (AV El):= [Control.av x]
theorem gVersion.dec_ok : ∀cs x,gVersion.dec cs=some x→Imp (S:=S) cs (gVersion.enc x):= by
 intro cs x h
 unfold gVersion.dec at h
 obtain ⟨a0,c0,h0,k0⟩:= popA_some (S:=S) Control.dec_ok h
 obtain ⟨rfl,rfl⟩:= popE_some (S:=S) h0
 exact (k0 _ (.refl _))
def gVersion.nf (c:Control) (v:(List Int)): Prop:=gVersion.L ([IntKind.wrap IntKind.u64 c.Version]) v
theorem gVersion.nf_ok (c:Control) (v:(List Int)): evFun (mkCx Tryz.prog S tab_forms 0) 4 121 [Control.av c] [] (fun r' H'=>Gives r' H' (gVersion.res v) (gVersion.news v))= gVersion.nf c v:=by kernel_rfl
theorem gVersion.key (c:Control) (v:(List Int)) (hv:v=gVersion c): gVersion.nf c v:=by
 unfold gVersion at hv
 unfold gVersion.nf
 subst hv;exact ⟨rfl,rfl⟩
def gVersion.ct:Ct El:=ctOf gVersion.dec (fun _=>[]) (fun x=>gVersion.res (gVersion x)) (fun x=>gVersion.news (gVersion x))
theorem gVersion.ok:CtOk (mkCx Tryz.prog S [] 0) 121 gVersion.ct:=ct_mk (C:=(mkCx Tryz.prog S tab_forms 0)) (mkCx_ok sigOk mixed tab_forms_ok 0) gVersion.dec_ok (fun x=>rfl) 4 (fun x _=>(gVersion.nf_ok x _).mpr (gVersion.key x _ rfl))
def tab_gVersion:List (FuncId×Ct El):= (121,gVersion.ct):: tab_gUnknown
theorem tab_gVersion_ok:TabOk Tryz.prog S tab_gVersion:=⟨gVersion.ok,by kernel_rfl,tab_gUnknown_ok⟩
def gReject.res (r:(List Int)): AV El:=.sl 22 (r:List (El 22)) false
def gReject.news (r:(List Int)): List (AObj El):= []
def gReject.L (e v:(List Int)): Prop:=gReject.res e=gReject.res v∧gReject.news e=gReject.news v
def gReject (c:Control): (List Int):= [IntKind.wrap IntKind.u64 c.Reason,IntKind.wrap IntKind.u64 c.Rejected]
def gReject.dec (cs:List (AV El)): Option (Control):= popA Control.dec cs fun a0 c0=>popE c0 a0
def gReject.enc (x:Control): List (AV El):= [Control.av x]
theorem gReject.dec_ok : ∀cs x,gReject.dec cs=some x→Imp (S:=S) cs (gReject.enc x):= by
 intro cs x h
 unfold gReject.dec at h
 obtain ⟨a0,c0,h0,k0⟩:= popA_some (S:=S) Control.dec_ok h
 obtain ⟨rfl,rfl⟩:= popE_some (S:=S) h0
 exact (k0 _ (.refl _))
def gReject.nf (c:Control) (v:(List Int)): Prop:=gReject.L ([IntKind.wrap IntKind.u64 c.Reason,IntKind.wrap IntKind.u64 c.Rejected]) v
theorem gReject.nf_ok (c:Control) (v:(List Int)): evFun (mkCx Tryz.prog S tab_forms 0) 4 124 [Control.av c] [] (fun r' H'=>Gives r' H' (gReject.res v) (gReject.news v))= gReject.nf c v:=by kernel_rfl
theorem gReject.key (c:Control) (v:(List Int)) (hv:v=gReject c): gReject.nf c v:=by
 unfold gReject at hv
 unfold gReject.nf
 subst hv;exact ⟨rfl,rfl⟩
def gReject.ct:Ct El:=ctOf gReject.dec (fun _=>[]) (fun x=>gReject.res (gReject x)) (fun x=>gReject.news (gReject x))
theorem gReject.ok:CtOk (mkCx Tryz.prog S [] 0) 124 gReject.ct:=ct_mk (C:=(mkCx Tryz.prog S tab_forms 0)) (mkCx_ok sigOk mixed tab_forms_ok 0) gReject.dec_ok (fun x=>rfl) 4 (fun x _=>(gReject.nf_ok x _).mpr (gReject.key x _ rfl))
def tab_gReject:List (FuncId×Ct El):= (124,gReject.ct):: tab_gVersion
theorem tab_gReject_ok:TabOk Tryz.prog S tab_gReject:=⟨gReject.ok,by kernel_rfl,tab_gVersion_ok⟩
def gPlain.res (r:(List Int)): AV El:=.sl 22 (r:List (El 22)) false
def gPlain.news (r:(List Int)): List (AObj El):= []
def gPlain.L (e v:(List Int)): Prop:=gPlain.res e=gPlain.res v∧gPlain.news e=gPlain.news v
def gPlain (c:Control): (List Int):= []
def gPlain.dec (cs:List (AV El)): Option (Control):= popA Control.dec cs fun a0 c0=>popE c0 a0
def gPlain.enc (x:Control): List (AV El):= [Control.av x]
theorem gPlain.dec_ok : ∀cs x,gPlain.dec cs=some x→Imp (S:=S) cs (gPlain.enc x):= by
 intro cs x h
 unfold gPlain.dec at h
 obtain ⟨a0,c0,h0,k0⟩:= popA_some (S:=S) Control.dec_ok h
 obtain ⟨rfl,rfl⟩:= popE_some (S:=S) h0
 exact (k0 _ (.refl _))
def gPlain.nf (c:Control) (v:(List Int)): Prop:=gPlain.L ([]) v
theorem gPlain.nf_ok (c:Control) (v:(List Int)): evFun (mkCx Tryz.prog S tab_forms 0) 4 136 [Control.av c] [] (fun r' H'=>Gives r' H' (gPlain.res v) (gPlain.news v))= gPlain.nf c v:=by kernel_rfl
theorem gPlain.key (c:Control) (v:(List Int)) (hv:v=gPlain c): gPlain.nf c v:=by
 unfold gPlain at hv
 unfold gPlain.nf
 subst hv;exact ⟨rfl,rfl⟩
def gPlain.ct:Ct El:=ctOf gPlain.dec (fun _=>[]) (fun x=>gPlain.res (gPlain x)) (fun x=>gPlain.news (gPlain x))
theorem gPlain.ok:CtOk (mkCx Tryz.prog S [] 0) 136 gPlain.ct:=ct_mk (C:=(mkCx Tryz.prog S tab_forms 0)) (mkCx_ok sigOk mixed tab_forms_ok 0) gPlain.dec_ok (fun x=>rfl) 4 (fun x _=>(gPlain.nf_ok x _).mpr (gPlain.key x _ rfl))
def tab_gPlain:List (FuncId×Ct El):= (136,gPlain.ct):: tab_gReject
theorem tab_gPlain_ok:TabOk Tryz.prog S tab_gPlain:=⟨gPlain.ok,by kernel_rfl,tab_gReject_ok⟩
def gFeat.res (r:(List Int)): AV El:=.sl 22 (r:List (El 22)) false
def gFeat.news (r:(List Int)): List (AObj El):= []
def gFeat.L (e v:(List Int)): Prop:=gFeat.res e=gFeat.res v∧gFeat.news e=gFeat.news v
def gFeat (c:Control): (List Int):= [c.Features]
def gFeat.dec (cs:List (AV El)): Option (Control):= popA Control.dec cs fun a0 c0=>popE c0 a0
def gFeat.enc (x:Control): List (AV El):= [Control.av x]
theorem gFeat.dec_ok : ∀cs x,gFeat.dec cs=some x→Imp (S:=S) cs (gFeat.enc x):= by
 intro cs x h
 unfold gFeat.dec at h
 obtain ⟨a0,c0,h0,k0⟩:= popA_some (S:=S) Control.dec_ok h
 obtain ⟨rfl,rfl⟩:= popE_some (S:=S) h0
 exact (k0 _ (.refl _))
def gFeat.nf (c:Control) (v:(List Int)): Prop:=gFeat.L ([c.Features]) v
theorem gFeat.nf_ok (c:Control) (v:(List Int)): evFun (mkCx Tryz.prog S tab_forms 0) 4 138 [Control.av c] [] (fun r' H'=>Gives r' H' (gFeat.res v) (gFeat.news v))= gFeat.nf c v:=by kernel_rfl
theorem gFeat.key (c:Control) (v:(List Int)) (hv:v=gFeat c): gFeat.nf c v:=by
 unfold gFeat at hv
 unfold gFeat.nf
 subst hv;exact ⟨rfl,rfl⟩
def gFeat.ct:Ct El:=ctOf gFeat.dec (fun _=>[]) (fun x=>gFeat.res (gFeat x)) (fun x=>gFeat.news (gFeat x))
theorem gFeat.ok:CtOk (mkCx Tryz.prog S [] 0) 138 gFeat.ct:=ct_mk (C:=(mkCx Tryz.prog S tab_forms 0)) (mkCx_ok sigOk mixed tab_forms_ok 0) gFeat.dec_ok (fun x=>rfl) 4 (fun x _=>(gFeat.nf_ok x _).mpr (gFeat.key x _ rfl))
def tab_gFeat:List (FuncId×Ct El):= (138,gFeat.ct):: tab_gPlain
theorem tab_gFeat_ok:TabOk Tryz.prog S tab_gFeat:=⟨gFeat.ok,by kernel_rfl,tab_gPlain_ok⟩
def gLen.res (r:(List Int)): AV El:=.sl 22 (r:List (El 22)) false
def gLen.news (r:(List Int)): List (AObj El):= []
def gLen.L (e v:(List Int)): Prop:=gLen.res e=gLen.res v∧gLen.news e=gLen.news v
def gLen (c:Control): (List Int):= [IntKind.wrap IntKind.u64 c.Length]
def gLen.dec (cs:List (AV El)): Option (Control):= popA Control.dec cs fun a0 c0=>popE c0 a0
def gLen.enc (x:Control): List (AV El):= [Control.av x]
theorem gLen.dec_ok : ∀cs x,gLen.dec cs=some x→Imp (S:=S) cs (gLen.enc x):= by
 intro cs x h
 unfold gLen.dec at h
 obtain ⟨a0,c0,h0,k0⟩:= popA_some (S:=S) Control.dec_ok h
 obtain ⟨rfl,rfl⟩:= popE_some (S:=S) h0
 exact (k0 _ (.refl _))
def gLen.nf (c:Control) (v:(List Int)): Prop:=gLen.L ([IntKind.wrap IntKind.u64 c.Length]) v
theorem gLen.nf_ok (c:Control) (v:(List Int)): evFun (mkCx Tryz.prog S tab_forms 0) 4 140 [Control.av c] [] (fun r' H'=>Gives r' H' (gLen.res v) (gLen.news v))= gLen.nf c v:=by kernel_rfl
theorem gLen.key (c:Control) (v:(List Int)) (hv:v=gLen c): gLen.nf c v:=by
 unfold gLen at hv
 unfold gLen.nf
 subst hv;exact ⟨rfl,rfl⟩
def gLen.ct:Ct El:=ctOf gLen.dec (fun _=>[]) (fun x=>gLen.res (gLen x)) (fun x=>gLen.news (gLen x))
theorem gLen.ok:CtOk (mkCx Tryz.prog S [] 0) 140 gLen.ct:=ct_mk (C:=(mkCx Tryz.prog S tab_forms 0)) (mkCx_ok sigOk mixed tab_forms_ok 0) gLen.dec_ok (fun x=>rfl) 4 (fun x _=>(gLen.nf_ok x _).mpr (gLen.key x _ rfl))
def tab_gLen:List (FuncId×Ct El):= (140,gLen.ct):: tab_gFeat
theorem tab_gLen_ok:TabOk Tryz.prog S tab_gLen:=⟨gLen.ok,by kernel_rfl,tab_gFeat_ok⟩
end Go.Aw.W
