/- Contracts of the seat (printed by ct.py). -/
import Derived.Test.YtppceadhdckpmaaDoorXW25
set_option linter.unusedVariables false
set_option linter.unusedSimpArgs false
set_option maxRecDepth 20000
set_option maxHeartbeats 1000000
namespace Go.Aw.W
open Go Go.Aw Go.Proofs
attribute [local irreducible] evCode evFun evOps evDs evOne ctxK loopK loopB subC bodyC headS okH roundK
attribute [local irreducible] pFind r9Find pCheck r19Check scHear scStart scMiss scStop scChannel r22Channel scOwn scInit r22Initiate r22Start lives22 own22 copied22
theorem own22_eq (p:ScanParams): own22 p=p:=by unfold own22;simp
theorem copied22_eq (p:AdvPDU): copied22 p=p:=by unfold copied22;simp
def scannerStarts.res (r:Bool): AV El:=.v (.bool (r))
def scannerStarts.news (r:Bool): List (AObj El):= []
def scannerStarts.L (e v:Bool): Prop:=scannerStarts.res e=scannerStarts.res v∧scannerStarts.news e=scannerStarts.news v
def scannerStarts (p:ScanParams) (p1:Law22At): Bool:=cond (!small22 p) (true) (cond (bif !r22Same (scStart (own22 p) p1.Seed p1.Start).fst (r22Start p p1.Seed p1.Start).fst then true else (scStart (own22 p) p1.Seed p1.Start).snd != (r22Start p p1.Seed p1.Start).snd) (false) (cond ((r22Start p p1.Seed p1.Start).snd != 0) (true) (bif (scChannel (scStart (own22 p) p1.Seed p1.Start).fst p1.Local).fst==(r22Channel (r22Start p p1.Seed p1.Start).fst p1.Local).fst then (scChannel (scStart (own22 p) p1.Seed p1.Start).fst p1.Local).snd==(r22Channel (r22Start p p1.Seed p1.Start).fst p1.Local).snd else false)))
def scannerStarts.dec (cs:List (AV El)): Option (ScanParams×Law22At):= popA ScanParams.dec cs fun a0 c0=>popA Law22At.dec c0 fun a1 c1=>popE c1 (a0,a1)
def scannerStarts.enc (x:ScanParams×Law22At): List (AV El):= [ScanParams.av x.1,Law22At.av x.2]
theorem scannerStarts.dec_ok : ∀cs x,scannerStarts.dec cs=some x→Imp (S:=S) cs (scannerStarts.enc x):= by
 intro cs x h
 unfold scannerStarts.dec at h
 obtain ⟨a0,c0,h0,k0⟩:= popA_some (S:=S) ScanParams.dec_ok h
 obtain ⟨a1,c1,h1,k1⟩:= popA_some (S:=S) Law22At.dec_ok h0
 obtain ⟨rfl,rfl⟩:= popE_some (S:=S) h1
 exact (k0 _ (k1 _ (.refl _)))
def scannerStarts.nf (p:ScanParams) (p1:Law22At) (v:Bool): Prop:=cond (!small22 p) (scannerStarts.L (true) v) (Ob (List.length p.Accept≤(4611686018427:Nat)∧List.length p.Identities≤(4611686018427:Nat))∧(Ob (List.length (own22 p).Accept≤(4611686018427:Nat)∧List.length (own22 p).Identities≤(4611686018427:Nat))∧(Ob (o3 (!!r22Same (scStart (own22 p) p1.Seed p1.Start).fst (r22Start p p1.Seed p1.Start).fst))∧(Ob (o3 (!!r22Same (scStart (own22 p) p1.Seed p1.Start).fst (r22Start p p1.Seed p1.Start).fst))∧(Ob (on (!r22Same (scStart (own22 p) p1.Seed p1.Start).fst (r22Start p p1.Seed p1.Start).fst))∧(cond (bif !r22Same (scStart (own22 p) p1.Seed p1.Start).fst (r22Start p p1.Seed p1.Start).fst then true else (scStart (own22 p) p1.Seed p1.Start).snd != (r22Start p p1.Seed p1.Start).snd) (scannerStarts.L (false) v) (cond ((r22Start p p1.Seed p1.Start).snd != 0) (scannerStarts.L (true) v) (Ob (o3 ((scChannel (scStart (own22 p) p1.Seed p1.Start).fst p1.Local).fst==(r22Channel (r22Start p p1.Seed p1.Start).fst p1.Local).fst))∧(Ob (o3 ((scChannel (scStart (own22 p) p1.Seed p1.Start).fst p1.Local).fst==(r22Channel (r22Start p p1.Seed p1.Start).fst p1.Local).fst))∧(Ob (o2 ((scChannel (scStart (own22 p) p1.Seed p1.Start).fst p1.Local).fst==(r22Channel (r22Start p p1.Seed p1.Start).fst p1.Local).fst))∧(scannerStarts.L (bif (scChannel (scStart (own22 p) p1.Seed p1.Start).fst p1.Local).fst==(r22Channel (r22Start p p1.Seed p1.Start).fst p1.Local).fst then (scChannel (scStart (own22 p) p1.Seed p1.Start).fst p1.Local).snd==(r22Channel (r22Start p p1.Seed p1.Start).fst p1.Local).snd else false) v)))))))))))
theorem scannerStarts.nf_ok (p:ScanParams) (p1:Law22At) (v:Bool): evFun (mkCxI Tryd.prog S tab_lives22 0 true sum_fIdx) 4 8 [ScanParams.av p,Law22At.av p1] [] (fun r' H'=>Gives r' H' (scannerStarts.res v) (scannerStarts.news v))= scannerStarts.nf p p1 v:=by kernel_rfl
theorem scannerStarts.key (p:ScanParams) (p1:Law22At) (v:Bool) (hv:v=scannerStarts p p1): scannerStarts.nf p p1 v:=by
 unfold scannerStarts at hv
 unfold scannerStarts.nf
 revert hv;refine by_cond2 (fun hb hv=>?_) (fun hb hv=>?_)
 subst hv;exact ⟨rfl,rfl⟩
 refine ⟨⟨?_⟩, ?_⟩;rotate_left
 refine ⟨⟨?_⟩, ?_⟩;rotate_left
 iterate 2 refine ⟨⟨o3_ok _⟩, ?_⟩
 refine ⟨⟨on_ok _⟩, ?_⟩
 revert hv;refine by_cond2 (fun hb hv=>?_) (fun hb hv=>?_)
 subst hv;exact ⟨rfl,rfl⟩
 revert hv;refine by_cond2 (fun hb hv=>?_) (fun hb hv=>?_)
 subst hv;exact ⟨rfl,rfl⟩
 iterate 2 refine ⟨⟨o3_ok _⟩, ?_⟩
 refine ⟨⟨o2_ok _⟩, ?_⟩
 subst hv;exact ⟨rfl,rfl⟩
 all_goals ((try clear hv);(try clear q1 q2);(try clear hk);(first | omega | (simp only [own22_eq,copied22_eq];simp_all [small22];omega)| (simp_all [small22];omega)| ((try simp only [decide_eq_true_eq,decide_eq_false_iff_not,Bool.not_eq_true,Bool.not_eq_false,Bool.and_eq_true,Bool.or_eq_true,Bool.not_not,cond_and,cond_or,List.length_append,List.length_cons,List.length_nil] at *);(first | done | ((first | omega | (intros;(try simp only [Bool.not_not,cond_and,cond_or,Bool.and_eq_true,decide_eq_true_eq] at *);(exact band_nn rfl _ _))| (intros;(try simp only [Bool.not_not,cond_and,cond_or,Bool.and_eq_true,decide_eq_true_eq] at *);(exact (wu64s _).2.1))| (intros;(try simp only [Bool.not_not,cond_and,cond_or,Bool.and_eq_true,decide_eq_true_eq] at *);(simp only [Bool.or_eq_false_iff,Bool.and_eq_false_iff,decide_eq_false_iff_not,decide_eq_true_eq,bne_iff_ne,beq_iff_eq,bne_eq_false_iff_eq,beq_eq_false_iff_ne,ne_eq,true_and] at *;omega))| (intros;(try simp only [Bool.not_not,cond_and,cond_or,Bool.and_eq_true,decide_eq_true_eq] at *);(simp only [List.length_drop,List.length_take,List.length_append,List.length_cons,List.length_nil] at *;omega))| (intros;omega)| (intros;simp only [Bool.not_not,cond_and,cond_or,Bool.and_eq_true,decide_eq_true_eq] at *;omega)| (intros;simp_all [Bool.not_not];done)))))))
def scannerStarts.ct:Ct El:=ctOf scannerStarts.dec (fun _=>[]) (fun x=>scannerStarts.res (scannerStarts x.1 x.2)) (fun x=>scannerStarts.news (scannerStarts x.1 x.2))
theorem scannerStarts.ok:CtOk (mkCx Tryd.prog S [] 0) 8 scannerStarts.ct:=ct_mk (C:=(mkCxI Tryd.prog S tab_lives22 0 true sum_fIdx)) (mkCxI_ok sigOk mixed tab_lives22_ok 0 true sum_fIdx_ok) scannerStarts.dec_ok (fun x=>rfl) 4 (fun x _=>(scannerStarts.nf_ok x.1 x.2 _).mpr (scannerStarts.key x.1 x.2 _ rfl))
def tab_scannerStarts:List (FuncId×Ct El):= (8,scannerStarts.ct):: tab_lives22
theorem tab_scannerStarts_ok:TabOk Tryd.prog S tab_scannerStarts:=⟨scannerStarts.ok,by kernel_rfl,tab_lives22_ok⟩
def scannerInitiates.res (r:Bool): AV El:=.v (.bool (r))
def scannerInitiates.news (r:Bool): List (AObj El):= []
def scannerInitiates.L (e v:Bool): Prop:=scannerInitiates.res e=scannerInitiates.res v∧scannerInitiates.news e=scannerInitiates.news v
def scannerInitiates (p0:Law22Ask) (c:ConnParams) (p:AdvPDU): Bool:=cond (decide (100 < (↑(List.length p0.Identities): Int))) (true) (cond ((scInit p0.Own p0.To ([]++ p0.Identities) c (copied22 p) p0.Channel p0.Local).snd==(r22Initiate p0.Own p0.To p0.Identities c p p0.Channel p0.Local).snd) (cond ((scInit p0.Own p0.To ([]++ p0.Identities) c (copied22 p) p0.Channel p0.Local).snd==(r22Initiate p0.Own p0.To p0.Identities c p p0.Channel p0.Local).snd) (bif (scInit p0.Own p0.To ([]++ p0.Identities) c (copied22 p) p0.Channel p0.Local).snd==(r22Initiate p0.Own p0.To p0.Identities c p p0.Channel p0.Local).snd then r21SameSends [(scInit p0.Own p0.To ([]++ p0.Identities) c (copied22 p) p0.Channel p0.Local).fst] [(r22Initiate p0.Own p0.To p0.Identities c p p0.Channel p0.Local).fst] else false) (cond ((scInit p0.Own p0.To ([]++ p0.Identities) c (copied22 p) p0.Channel p0.Local).snd==(r22Initiate p0.Own p0.To p0.Identities c p p0.Channel p0.Local).snd) (false) (bif (scInit p0.Own p0.To ([]++ p0.Identities) c (copied22 p) p0.Channel p0.Local).snd==(r22Initiate p0.Own p0.To p0.Identities c p p0.Channel p0.Local).snd then false else false))) (cond ((scInit p0.Own p0.To ([]++ p0.Identities) c (copied22 p) p0.Channel p0.Local).snd==(r22Initiate p0.Own p0.To p0.Identities c p p0.Channel p0.Local).snd) (cond ((scInit p0.Own p0.To ([]++ p0.Identities) c (copied22 p) p0.Channel p0.Local).snd==(r22Initiate p0.Own p0.To p0.Identities c p p0.Channel p0.Local).snd) (false) (bif (scInit p0.Own p0.To ([]++ p0.Identities) c (copied22 p) p0.Channel p0.Local).snd==(r22Initiate p0.Own p0.To p0.Identities c p p0.Channel p0.Local).snd then false else false)) (cond ((scInit p0.Own p0.To ([]++ p0.Identities) c (copied22 p) p0.Channel p0.Local).snd==(r22Initiate p0.Own p0.To p0.Identities c p p0.Channel p0.Local).snd) (false) (bif (scInit p0.Own p0.To ([]++ p0.Identities) c (copied22 p) p0.Channel p0.Local).snd==(r22Initiate p0.Own p0.To p0.Identities c p p0.Channel p0.Local).snd then false else false))))
def scannerInitiates.dec (cs:List (AV El)): Option (Law22Ask×ConnParams×AdvPDU):= popA Law22Ask.dec cs fun a0 c0=>popA ConnParams.dec c0 fun a1 c1=>popA AdvPDU.dec c1 fun a2 c2=>popE c2 (a0,a1,a2)
def scannerInitiates.enc (x:Law22Ask×ConnParams×AdvPDU): List (AV El):= [Law22Ask.av x.1,ConnParams.av x.2.1,AdvPDU.av x.2.2]
theorem scannerInitiates.dec_ok : ∀cs x,scannerInitiates.dec cs=some x→Imp (S:=S) cs (scannerInitiates.enc x):= by
 intro cs x h
 unfold scannerInitiates.dec at h
 obtain ⟨a0,c0,h0,k0⟩:= popA_some (S:=S) Law22Ask.dec_ok h
 obtain ⟨a1,c1,h1,k1⟩:= popA_some (S:=S) ConnParams.dec_ok h0
 obtain ⟨a2,c2,h2,k2⟩:= popA_some (S:=S) AdvPDU.dec_ok h1
 obtain ⟨rfl,rfl⟩:= popE_some (S:=S) h2
 exact (k0 _ (k1 _ (k2 _ (.refl _))))
def scannerInitiates_nf_g1 (p0:Law22Ask) (c:ConnParams) (p:AdvPDU): Bool:=(scInit p0.Own p0.To ([]++ p0.Identities) c (copied22 p) p0.Channel p0.Local).snd==(r22Initiate p0.Own p0.To p0.Identities c p p0.Channel p0.Local).snd
def scannerInitiates.nf (p0:Law22Ask) (c:ConnParams) (p:AdvPDU) (v:Bool): Prop:=(List.length p0.Identities≤(9223372036854775807:Nat))→(cond (decide (100 < (↑(List.length p0.Identities): Int))) (scannerInitiates.L (true) v) (Ob (((0:Nat)+ List.length p0.Identities)* (24:Nat)≤(140737488355328:Nat))∧(Ob (List.length p.Data≤(140737488355328:Nat))∧(cond ((scInit p0.Own p0.To ([]++ p0.Identities) c (copied22 p) p0.Channel p0.Local).snd==(r22Initiate p0.Own p0.To p0.Identities c p p0.Channel p0.Local).snd) (Ob (((scInit p0.Own p0.To ([]++ p0.Identities) c (copied22 p) p0.Channel p0.Local).snd==(r22Initiate p0.Own p0.To p0.Identities c p p0.Channel p0.Local).snd)= true)∧(cond ((scInit p0.Own p0.To ([]++ p0.Identities) c (copied22 p) p0.Channel p0.Local).snd==(r22Initiate p0.Own p0.To p0.Identities c p p0.Channel p0.Local).snd) (Ob (((scInit p0.Own p0.To ([]++ p0.Identities) c (copied22 p) p0.Channel p0.Local).snd==(r22Initiate p0.Own p0.To p0.Identities c p p0.Channel p0.Local).snd)= true)∧(Ob (o2 (scannerInitiates_nf_g1 p0 c p))∧(scannerInitiates.L (bif (scInit p0.Own p0.To ([]++ p0.Identities) c (copied22 p) p0.Channel p0.Local).snd==(r22Initiate p0.Own p0.To p0.Identities c p p0.Channel p0.Local).snd then r21SameSends [(scInit p0.Own p0.To ([]++ p0.Identities) c (copied22 p) p0.Channel p0.Local).fst] [(r22Initiate p0.Own p0.To p0.Identities c p p0.Channel p0.Local).fst] else false) v))) (cond ((scInit p0.Own p0.To ([]++ p0.Identities) c (copied22 p) p0.Channel p0.Local).snd==(r22Initiate p0.Own p0.To p0.Identities c p p0.Channel p0.Local).snd) (Ob (((scInit p0.Own p0.To ([]++ p0.Identities) c (copied22 p) p0.Channel p0.Local).snd==(r22Initiate p0.Own p0.To p0.Identities c p p0.Channel p0.Local).snd)= true)∧((List.length [(scInit p0.Own p0.To ([]++ p0.Identities) c (copied22 p) p0.Channel p0.Local).fst]≤(9223372036854775807:Nat))→(False))) (Ob (o2 (scannerInitiates_nf_g1 p0 c p))∧(scannerInitiates.L (bif (scInit p0.Own p0.To ([]++ p0.Identities) c (copied22 p) p0.Channel p0.Local).snd==(r22Initiate p0.Own p0.To p0.Identities c p p0.Channel p0.Local).snd then false else false) v))))) (cond ((scInit p0.Own p0.To ([]++ p0.Identities) c (copied22 p) p0.Channel p0.Local).snd==(r22Initiate p0.Own p0.To p0.Identities c p p0.Channel p0.Local).snd) (Ob (((scInit p0.Own p0.To ([]++ p0.Identities) c (copied22 p) p0.Channel p0.Local).snd==(r22Initiate p0.Own p0.To p0.Identities c p p0.Channel p0.Local).snd)= true)∧(cond ((scInit p0.Own p0.To ([]++ p0.Identities) c (copied22 p) p0.Channel p0.Local).snd==(r22Initiate p0.Own p0.To p0.Identities c p p0.Channel p0.Local).snd) (Ob (((scInit p0.Own p0.To ([]++ p0.Identities) c (copied22 p) p0.Channel p0.Local).snd==(r22Initiate p0.Own p0.To p0.Identities c p p0.Channel p0.Local).snd)= true)∧(False)) (Ob (o2 (scannerInitiates_nf_g1 p0 c p))∧(scannerInitiates.L (bif (scInit p0.Own p0.To ([]++ p0.Identities) c (copied22 p) p0.Channel p0.Local).snd==(r22Initiate p0.Own p0.To p0.Identities c p p0.Channel p0.Local).snd then false else false) v)))) (cond ((scInit p0.Own p0.To ([]++ p0.Identities) c (copied22 p) p0.Channel p0.Local).snd==(r22Initiate p0.Own p0.To p0.Identities c p p0.Channel p0.Local).snd) (Ob (((scInit p0.Own p0.To ([]++ p0.Identities) c (copied22 p) p0.Channel p0.Local).snd==(r22Initiate p0.Own p0.To p0.Identities c p p0.Channel p0.Local).snd)= true)∧(Ob (((scInit p0.Own p0.To ([]++ p0.Identities) c (copied22 p) p0.Channel p0.Local).snd==(r22Initiate p0.Own p0.To p0.Identities c p p0.Channel p0.Local).snd)= true)∧(False))) (Ob (o2 (scannerInitiates_nf_g1 p0 c p))∧(scannerInitiates.L (bif (scInit p0.Own p0.To ([]++ p0.Identities) c (copied22 p) p0.Channel p0.Local).snd==(r22Initiate p0.Own p0.To p0.Identities c p p0.Channel p0.Local).snd then false else false) v))))))))
theorem scannerInitiates.nf_ok (p0:Law22Ask) (c:ConnParams) (p:AdvPDU) (v:Bool): evFun (mkCxI Tryd.prog S tab_lives22 0 true sum_fIdx) 4 12 [Law22Ask.av p0,ConnParams.av c,AdvPDU.av p] [] (fun r' H'=>Gives r' H' (scannerInitiates.res v) (scannerInitiates.news v))= scannerInitiates.nf p0 c p v:=by kernel_rfl
theorem scannerInitiates.key (p0:Law22Ask) (c:ConnParams) (p:AdvPDU) (hp:p.Data.length≤140737488355328) (v:Bool) (hv:v=scannerInitiates p0 c p): scannerInitiates.nf p0 c p v:=by
 unfold scannerInitiates at hv
 unfold scannerInitiates.nf
 intro hlen
 revert hv;refine by_cond2 (fun hb hv=>?_) (fun hb hv=>?_)
 subst hv;exact ⟨rfl,rfl⟩
 refine ⟨⟨?_⟩, ?_⟩;rotate_left
 refine ⟨⟨?_⟩, ?_⟩;rotate_left
 revert hv;refine by_cond2 (fun hb hv=>?_) (fun hb hv=>?_)
 refine ⟨⟨?_⟩, ?_⟩;rotate_left
 revert hv;refine by_cond2 (fun hb hv=>?_) (fun hb hv=>?_)
 refine ⟨⟨?_⟩, ?_⟩;rotate_left
 refine ⟨⟨o2_ok _⟩, ?_⟩
 subst hv;exact ⟨rfl,rfl⟩
 revert hv;refine by_cond2 (fun hb hv=>?_) (fun hb hv=>?_)
 refine ⟨⟨?_⟩, ?_⟩;rotate_left
 intro hlen
 exact False.elim (by (try clear hv);(try clear q1 q2);(try clear hk);(simp_all;done))
 refine ⟨⟨o2_ok _⟩, ?_⟩
 subst hv;exact ⟨rfl,rfl⟩
 revert hv;refine by_cond2 (fun hb hv=>?_) (fun hb hv=>?_)
 refine ⟨⟨?_⟩, ?_⟩;rotate_left
 revert hv;refine by_cond2 (fun hb hv=>?_) (fun hb hv=>?_)
 refine ⟨⟨?_⟩, ?_⟩;rotate_left
 exact False.elim (by (try clear hv);(try clear q1 q2);(try clear hk);(simp_all;done))
 refine ⟨⟨o2_ok _⟩, ?_⟩
 subst hv;exact ⟨rfl,rfl⟩
 revert hv;refine by_cond2 (fun hb hv=>?_) (fun hb hv=>?_)
 refine ⟨⟨?_⟩, ?_⟩;rotate_left
 refine ⟨⟨?_⟩, ?_⟩;rotate_left
 exact False.elim (by (try clear hv);(try clear q1 q2);(try clear hk);(simp_all;done))
 refine ⟨⟨o2_ok _⟩, ?_⟩
 subst hv;exact ⟨rfl,rfl⟩
 all_goals ((try clear hv);(try clear q1 q2);(try clear hk);(first | omega | (simp only [own22_eq,copied22_eq];simp_all [small22];omega)| (simp_all [small22];omega)| ((try simp only [decide_eq_true_eq,decide_eq_false_iff_not,Bool.not_eq_true,Bool.not_eq_false,Bool.and_eq_true,Bool.or_eq_true,Bool.not_not,cond_and,cond_or,List.length_append,List.length_cons,List.length_nil] at *);(first | done | ((first | omega | (intros;(try simp only [Bool.not_not,cond_and,cond_or,Bool.and_eq_true,decide_eq_true_eq] at *);(exact band_nn rfl _ _))| (intros;(try simp only [Bool.not_not,cond_and,cond_or,Bool.and_eq_true,decide_eq_true_eq] at *);(exact (wu64s _).2.1))| (intros;(try simp only [Bool.not_not,cond_and,cond_or,Bool.and_eq_true,decide_eq_true_eq] at *);(simp only [Bool.or_eq_false_iff,Bool.and_eq_false_iff,decide_eq_false_iff_not,decide_eq_true_eq,bne_iff_ne,beq_iff_eq,bne_eq_false_iff_eq,beq_eq_false_iff_ne,ne_eq,true_and] at *;omega))| (intros;(try simp only [Bool.not_not,cond_and,cond_or,Bool.and_eq_true,decide_eq_true_eq] at *);(simp only [List.length_drop,List.length_take,List.length_append,List.length_cons,List.length_nil] at *;omega))| (intros;omega)| (intros;simp only [Bool.not_not,cond_and,cond_or,Bool.and_eq_true,decide_eq_true_eq] at *;omega)| (intros;simp_all [Bool.not_not];done)))))))
def scannerInitiates.ct:Ct El:=ctOf scannerInitiates.dec (fun x=>[x.2.2.Data.length≤140737488355328]) (fun x=>scannerInitiates.res (scannerInitiates x.1 x.2.1 x.2.2)) (fun x=>scannerInitiates.news (scannerInitiates x.1 x.2.1 x.2.2))
theorem scannerInitiates.ok:CtOk (mkCx Tryd.prog S [] 0) 12 scannerInitiates.ct:=ct_mk (C:=(mkCxI Tryd.prog S tab_lives22 0 true sum_fIdx)) (mkCxI_ok sigOk mixed tab_lives22_ok 0 true sum_fIdx_ok) scannerInitiates.dec_ok (fun x=>rfl) 4 (fun x hp=>(scannerInitiates.nf_ok x.1 x.2.1 x.2.2 _).mpr (scannerInitiates.key x.1 x.2.1 x.2.2 (hp _ (List.mem_singleton.2 rfl)) _ rfl))
def tab_scannerInitiates:List (FuncId×Ct El):= (12,scannerInitiates.ct):: tab_scannerStarts
theorem tab_scannerInitiates_ok:TabOk Tryd.prog S tab_scannerInitiates:=⟨scannerInitiates.ok,by kernel_rfl,tab_scannerStarts_ok⟩
end Go.Aw.W
