/- Contracts of the seat (printed by ct.py). -/
import Derived.Test.YtppceadhdckpmaaDoorXW24
set_option linter.unusedVariables false
set_option linter.unusedSimpArgs false
set_option maxRecDepth 20000
set_option maxHeartbeats 1000000
namespace Go.Aw.W
open Go Go.Aw Go.Proofs
attribute [local irreducible] evCode evFun evOps evDs evOne ctxK loopK loopB subC bodyC headS okH roundK
attribute [local irreducible] pFind r9Find pCheck r19Check scHear scStart scMiss scStop scChannel r22Channel scOwn scInit r22Initiate r22Start
def r21SameSends.res (r:Bool): AV El:=.v (.bool (r))
def r21SameSends.news (r:Bool): List (AObj El):= []
def r21SameSends.L (e v:Bool): Prop:=r21SameSends.res e=r21SameSends.res v∧r21SameSends.news e=r21SameSends.news v
def r21SameSends.go (a:List Send) (b:List Send): Nat→Int→Bool
 | 0,_=>false
 | n0+1,i=>cond (decide (i < (↑(List.length a): Int))) (cond (bif bif (List.getD a (Int.toNat i) Send.zero).Channel != (List.getD b (Int.toNat i) Send.zero).Channel then true else (List.getD a (Int.toNat i) Send.zero).Time != (List.getD b (Int.toNat i) Send.zero).Time then true else !r19Same (List.getD a (Int.toNat i) Send.zero).PDU (List.getD b (Int.toNat i) Send.zero).PDU) (false) (r21SameSends.go a b n0 (IntKind.wrap IntKind.i64 (i+(1:Int))))) (true)
def r21SameSends.hd (a:List Send) (b:List Send) (i:Int): St El:={lo:=0,slots:=[(5, .v (.int .i64 (i))),(0, .sl 63 (a:List (El 63)) false),(1, .sl 63 (b:List (El 63)) false)],n:=55,objs:=[]}
def r21SameSends_st_g1 (a:List Send) (b:List Send) (i:Int): Bool:=(List.getD a (Int.toNat i) Send.zero).Channel != (List.getD b (Int.toNat i) Send.zero).Channel
def r21SameSends_st_g2 (a:List Send) (b:List Send) (i:Int): Bool:=(List.getD a (Int.toNat i) Send.zero).Time != (List.getD b (Int.toNat i) Send.zero).Time
def r21SameSends_st_g3 (a:List Send) (b:List Send) (i:Int): Bool:=bif (r21SameSends_st_g1 a b i) then true else (r21SameSends_st_g2 a b i)
def r21SameSends.st (a:List Send) (b:List Send) (i:Int) (J:St El→Prop) (v:Bool): Prop:=(List.length a≤(9223372036854775807:Nat))→(cond (decide (i < (↑(List.length a): Int))) (Ob (0≤i∧i < (↑(List.length a): Int))∧(Ob (0≤i∧i < (↑(List.length b): Int))∧(Ob (o3 (!(r21SameSends_st_g1 a b i)))∧(Ob (o3 (!(r21SameSends_st_g1 a b i)))∧(Ob ((!(List.getD a (Int.toNat i) Send.zero).Channel != (List.getD b (Int.toNat i) Send.zero).Channel)= true→0≤i∧i < (↑(List.length a): Int))∧(Ob (o3 (!(r21SameSends_st_g1 a b i)))∧(Ob (o3 (!(r21SameSends_st_g1 a b i)))∧(Ob (o3 (!(r21SameSends_st_g1 a b i)))∧(Ob (o3 (!(r21SameSends_st_g1 a b i)))∧(Ob ((!(List.getD a (Int.toNat i) Send.zero).Channel != (List.getD b (Int.toNat i) Send.zero).Channel)= true→0≤i∧i < (↑(List.length b): Int))∧(Ob (o3 (!(r21SameSends_st_g1 a b i)))∧(Ob (o3 (!(r21SameSends_st_g1 a b i)))∧(Ob (o3 (!(r21SameSends_st_g1 a b i)))∧(Ob (o3 (!(r21SameSends_st_g1 a b i)))∧(Ob (on (r21SameSends_st_g1 a b i))∧(Ob (o3 (!(r21SameSends_st_g3 a b i)))∧(Ob (o3 (!(r21SameSends_st_g3 a b i)))∧(Ob ((!bif (List.getD a (Int.toNat i) Send.zero).Channel != (List.getD b (Int.toNat i) Send.zero).Channel then true else (List.getD a (Int.toNat i) Send.zero).Time != (List.getD b (Int.toNat i) Send.zero).Time)= true→0≤i∧i < (↑(List.length a): Int))∧(Ob (o3 (!(r21SameSends_st_g3 a b i)))∧(Ob (o3 (!(r21SameSends_st_g3 a b i)))∧(Ob (o3 (!(r21SameSends_st_g3 a b i)))∧(Ob (o3 (!(r21SameSends_st_g3 a b i)))∧(Ob ((!bif (List.getD a (Int.toNat i) Send.zero).Channel != (List.getD b (Int.toNat i) Send.zero).Channel then true else (List.getD a (Int.toNat i) Send.zero).Time != (List.getD b (Int.toNat i) Send.zero).Time)= true→0≤i∧i < (↑(List.length b): Int))∧(Ob (o3 (!(r21SameSends_st_g3 a b i)))∧(Ob (o3 (!(r21SameSends_st_g3 a b i)))∧(Ob (o3 (!(r21SameSends_st_g3 a b i)))∧(Ob (o3 (!(r21SameSends_st_g3 a b i)))∧(Ob (o3 (!(r21SameSends_st_g3 a b i)))∧(Ob (on (r21SameSends_st_g3 a b i))∧(cond (bif bif (List.getD a (Int.toNat i) Send.zero).Channel != (List.getD b (Int.toNat i) Send.zero).Channel then true else (List.getD a (Int.toNat i) Send.zero).Time != (List.getD b (Int.toNat i) Send.zero).Time then true else !r19Same (List.getD a (Int.toNat i) Send.zero).PDU (List.getD b (Int.toNat i) Send.zero).PDU) (r21SameSends.L (false) v) (J (r21SameSends.hd a b (IntKind.wrap IntKind.i64 (i+1)))))))))))))))))))))))))))))))))) (r21SameSends.L (true) v))
theorem r21SameSends.st_ok (a:List Send) (b:List Send) (i:Int) (J:St El→Prop) (v:Bool): evCode (mkCxI Tryd.prog S tab2_scStop 0 true sum_fIdx) (evFun (mkCxI Tryd.prog S tab2_scStop 0 true sum_fIdx) 3) (loopB Tryd.prog 29 [true,true,false,true,false]) (r21SameSends.hd a b i) (roundK (C:=(mkCxI Tryd.prog S tab2_scStop 0 true sum_fIdx)) [5,0,1] [] J (loopK (mkCxI Tryd.prog S tab2_scStop 0 true sum_fIdx) 3 29 [true,true,false,true,false] (fun r' H'=>Gives r' H' (r21SameSends.res v) (r21SameSends.news v))))= r21SameSends.st a b i J v:=by kernel_rfl
def r21SameSends.rng (a:List Send) (b:List Send) (n0:Nat) (i:Int): Prop:=0≤i∧i≤a.length∧(a.length - i).toNat < n0∧a.length=b.length
theorem r21SameSends.lp (a:List Send) (b:List Send) (v:Bool) (n0:Nat) (i:Int) (hv:v=r21SameSends.go a b n0 i) (h0:r21SameSends.rng a b n0 i) (st:St El) (q1:okH [5,0,1] [] st=true) (q2:headS [5,0,1] [] st=r21SameSends.hd a b i): evCode (mkCxI Tryd.prog S tab2_scStop 0 true sum_fIdx) (evFun (mkCxI Tryd.prog S tab2_scStop 0 true sum_fIdx) 3) (.loop (loopB Tryd.prog 29 [true,true,false,true,false])) st (loopK (mkCxI Tryd.prog S tab2_scStop 0 true sum_fIdx) 3 29 [true,true,false,true,false] (fun r' H'=>Gives r' H' (r21SameSends.res v) (r21SameSends.news v))):= by
 refine loop_ev (by kernel_rfl) (evFun_mono _ _) [5,0,1] [] (X:=Nat×Int) (fun x=>r21SameSends.hd a b x.2) (fun x=>x.1) (fun x=>r21SameSends.rng a b x.1 x.2∧v=r21SameSends.go a b x.1 x.2) (n0,i) ⟨q1,q2⟩ ⟨h0,hv⟩ ?_
 clear h0 hv q1 q2
 rintro ⟨n0,i⟩ ⟨hr,hv⟩
 dsimp only at hr hv
 cases n0 with
 | zero=>exact absurd hr (by unfold r21SameSends.rng;omega)
 | succ n0 =>
 unfold r21SameSends.rng at hr
 unfold r21SameSends.go at hv
 refine (r21SameSends.st_ok a b i _ _).mpr ?_
 unfold r21SameSends.st
 intro hlen
 revert hv;refine by_cond2 (fun hb hv=>?_) (fun hb hv=>?_)
 refine ⟨⟨?_⟩, ?_⟩;rotate_left
 refine ⟨⟨?_⟩, ?_⟩;rotate_left
 iterate 2 refine ⟨⟨o3_ok _⟩, ?_⟩
 refine ⟨⟨?_⟩, ?_⟩;rotate_left
 iterate 4 refine ⟨⟨o3_ok _⟩, ?_⟩
 refine ⟨⟨?_⟩, ?_⟩;rotate_left
 iterate 4 refine ⟨⟨o3_ok _⟩, ?_⟩
 refine ⟨⟨on_ok _⟩, ?_⟩
 iterate 2 refine ⟨⟨o3_ok _⟩, ?_⟩
 refine ⟨⟨?_⟩, ?_⟩;rotate_left
 iterate 4 refine ⟨⟨o3_ok _⟩, ?_⟩
 refine ⟨⟨?_⟩, ?_⟩;rotate_left
 iterate 5 refine ⟨⟨o3_ok _⟩, ?_⟩
 refine ⟨⟨on_ok _⟩, ?_⟩
 revert hv;refine by_cond2 (fun hb hv=>?_) (fun hb hv=>?_)
 subst hv;exact ⟨rfl,rfl⟩
 exact ⟨(n0,(IntKind.wrap IntKind.i64 (i+(1:Int)))),(by kernel_rfl),Nat.lt_succ_self n0,(by dsimp only;unfold r21SameSends.rng;(try clear hv);(try clear q1 q2);(try clear hk);(try simp only [decide_eq_true_eq,decide_eq_false_iff_not,Bool.not_eq_true,Bool.not_eq_false,Bool.and_eq_true,Bool.or_eq_true,Bool.not_not,cond_and,cond_or,List.length_append,List.length_cons,List.length_nil] at *);have:=wi64s (i+(1:Int));omega),hv⟩
 subst hv;exact ⟨rfl,rfl⟩
 all_goals ((try clear hv);(try clear q1 q2);(try clear hk);(first | omega | ((try simp only [decide_eq_true_eq,decide_eq_false_iff_not,Bool.not_eq_true,Bool.not_eq_false,Bool.and_eq_true,Bool.or_eq_true,Bool.not_not,cond_and,cond_or,List.length_append,List.length_cons,List.length_nil] at *);(first | done | ((first | omega | (intros;(try simp only [Bool.not_not,cond_and,cond_or,Bool.and_eq_true,decide_eq_true_eq] at *);(exact band_nn rfl _ _))| (intros;(try simp only [Bool.not_not,cond_and,cond_or,Bool.and_eq_true,decide_eq_true_eq] at *);(exact (wu64s _).2.1))| (intros;(try simp only [Bool.not_not,cond_and,cond_or,Bool.and_eq_true,decide_eq_true_eq] at *);(simp only [Bool.or_eq_false_iff,Bool.and_eq_false_iff,decide_eq_false_iff_not,decide_eq_true_eq,bne_iff_ne,beq_iff_eq,bne_eq_false_iff_eq,beq_eq_false_iff_ne,ne_eq,true_and] at *;omega))| (intros;(try simp only [Bool.not_not,cond_and,cond_or,Bool.and_eq_true,decide_eq_true_eq] at *);(simp only [List.length_drop,List.length_take,List.length_append,List.length_cons,List.length_nil] at *;omega))| (intros;omega)| (intros;simp only [Bool.not_not,cond_and,cond_or,Bool.and_eq_true,decide_eq_true_eq] at *;omega)| (intros;simp_all [Bool.not_not];done)))))))
def r21SameSends (a:List Send) (b:List Send): Bool:=cond ((↑(List.length a): Int) != (↑(List.length b): Int)) (false) (r21SameSends.go a b (a.length+1) ((0:Int)))
def r21SameSends.dec (cs:List (AV El)): Option ((List Send)×(List Send)):= popS 63 cs fun a0 c0=>popS 63 c0 fun a1 c1=>popE c1 (a0,a1)
def r21SameSends.enc (x:(List Send)×(List Send)): List (AV El):= [.sl 63 (x.1:List (El 63)) false, .sl 63 (x.2:List (El 63)) false]
theorem r21SameSends.dec_ok : ∀cs x,r21SameSends.dec cs=some x→Imp (S:=S) cs (r21SameSends.enc x):= by
 intro cs x h
 unfold r21SameSends.dec at h
 obtain ⟨a0,c0,h0,k0⟩:= popS_some (S:=S) (t:=63) h
 obtain ⟨a1,c1,h1,k1⟩:= popS_some (S:=S) (t:=63) h0
 obtain ⟨rfl,rfl⟩:= popE_some (S:=S) h1
 exact (k0 _ (k1 _ (.refl _)))
def r21SameSends.nf (a:List Send) (b:List Send) (v:Bool): Prop:=(List.length a≤(9223372036854775807:Nat))→((List.length b≤(9223372036854775807:Nat))→(cond ((↑(List.length a): Int) != (↑(List.length b): Int)) (r21SameSends.L (false) v) (evCode (mkCxI Tryd.prog S tab2_scStop 0 true sum_fIdx) (evFun (mkCxI Tryd.prog S tab2_scStop 0 true sum_fIdx) 3) (.loop (loopB Tryd.prog 29 [true,true,false,true,false])) ({lo:=0,slots:=[(5, .v (.int .i64 (0))),(10, .v (.bool (false))),(10, .v (.bool ((↑(List.length a): Int) != (↑(List.length b): Int)))),(9, .v (.int .i64 ((↑(List.length b): Int)))),(8, .sl 63 (b:List (El 63)) false),(7, .v (.int .i64 ((↑(List.length a): Int)))),(6, .sl 63 (a:List (El 63)) false),(4, .v (.bool (false))),(0, .sl 63 (a:List (El 63)) false),(1, .sl 63 (b:List (El 63)) false)],n:=55,objs:=[]}) (loopK (mkCxI Tryd.prog S tab2_scStop 0 true sum_fIdx) 3 29 [true,true,false,true,false] (fun r' H'=>Gives r' H' (r21SameSends.res v) (r21SameSends.news v))))))
theorem r21SameSends.nf_ok (a:List Send) (b:List Send) (v:Bool): evFun (mkCxI Tryd.prog S tab2_scStop 0 true sum_fIdx) 4 29 [.sl 63 (a:List (El 63)) false, .sl 63 (b:List (El 63)) false] [] (fun r' H'=>Gives r' H' (r21SameSends.res v) (r21SameSends.news v))= r21SameSends.nf a b v:=by kernel_rfl
theorem r21SameSends.key (a:List Send) (b:List Send) (v:Bool) (hv:v=r21SameSends a b): r21SameSends.nf a b v:=by
 unfold r21SameSends at hv
 unfold r21SameSends.nf
 intro hlen
 intro hlen
 revert hv;refine by_cond2 (fun hb hv=>?_) (fun hb hv=>?_)
 ·subst hv;exact ⟨rfl,rfl⟩
 ·exact r21SameSends.lp a b v _ _ hv (by unfold r21SameSends.rng;(try clear hv);(try clear q1 q2);(try clear hk);((try simp only [bne_eq_false_iff_eq] at *);omega)) _ (by kernel_rfl) (by kernel_rfl)
def r21SameSends.ct:Ct El:=ctOf r21SameSends.dec (fun _=>[]) (fun x=>r21SameSends.res (r21SameSends x.1 x.2)) (fun x=>r21SameSends.news (r21SameSends x.1 x.2))
theorem r21SameSends.ok:CtOk (mkCx Tryd.prog S [] 0) 29 r21SameSends.ct:=ct_mk (C:=(mkCxI Tryd.prog S tab2_scStop 0 true sum_fIdx)) (mkCxI_ok sigOk mixed tab2_scStop_ok 0 true sum_fIdx_ok) r21SameSends.dec_ok (fun x=>rfl) 4 (fun x _=>(r21SameSends.nf_ok x.1 x.2 _).mpr (r21SameSends.key x.1 x.2 _ rfl))
def tab_r21SameSends:List (FuncId×Ct El):= (29,r21SameSends.ct):: tab2_scStop
theorem tab_r21SameSends_ok:TabOk Tryd.prog S tab_r21SameSends:=⟨r21SameSends.ok,by kernel_rfl,tab2_scStop_ok⟩
def lives22.res (r:Bool): AV El:=.v (.bool (r))
def lives22.news (r:Bool): List (AObj El):= []
def lives22.L (e v:Bool): Prop:=lives22.res e=lives22.res v∧lives22.news e=lives22.news v
def lives22:Bool:=true
def lives22.dec (cs:List (AV El)): Option (Unit):= popE cs ()
def lives22.enc (x:Unit): List (AV El):= []
theorem lives22.dec_ok : ∀cs x,lives22.dec cs=some x→Imp (S:=S) cs (lives22.enc x):= by
 intro cs x h
 unfold lives22.dec at h
 obtain ⟨rfl,rfl⟩:= popE_some (S:=S) h
 exact (.refl _)
def lives22.nf (v:Bool): Prop:=Ob ((0:Nat)≤(4611686018427:Nat)∧(0:Nat)≤(4611686018427:Nat))∧(Ob (List.length (scStart {Interval:=16,Window:=8,Active:=true,Policy:=0,Accept:=[],Identities:=[],Own:={Kind:=1,Bits:=5:Address},Unique:=false:ScanParams} 1 1000).fst.Params.Accept≤(4611686018427:Nat)∧List.length (scStart {Interval:=16,Window:=8,Active:=true,Policy:=0,Accept:=[],Identities:=[],Own:={Kind:=1,Bits:=5:Address},Unique:=false:ScanParams} 1 1000).fst.Params.Identities≤(4611686018427:Nat)∧List.length (scStart {Interval:=16,Window:=8,Active:=true,Policy:=0,Accept:=[],Identities:=[],Own:={Kind:=1,Bits:=5:Address},Unique:=false:ScanParams} 1 1000).fst.Seen≤(4611686018427:Nat)∧(scStart {Interval:=16,Window:=8,Active:=true,Policy:=0,Accept:=[],Identities:=[],Own:={Kind:=1,Bits:=5:Address},Unique:=false:ScanParams} 1 1000).fst.Upper≤9223372036854775807∧List.length [(1:Int),(5:Int)]≤(140737488355328:Nat))∧(Ob (o3 (true))∧(Ob (o3 (true))∧(Ob (false=false→true=true)∧(Ob (o3 (true))∧(Ob (o3 (true))∧(Ob (false=false→true=true)∧(Ob (List.length (scHear (scStart {Interval:=16,Window:=8,Active:=true,Policy:=0,Accept:=[],Identities:=[],Own:={Kind:=1,Bits:=5:Address},Unique:=false:ScanParams} 1 1000).fst {Kind:=6,Sender:={Kind:=1,Bits:=6:Address},Target:={Kind:=0,Bits:=0:Address},Data:=[(1:Int),(5:Int)],Conn:={Access:=0,Init:=0,Update:={WinSize:=0,WinOffset:=0,Interval:=0,Latency:=0,Timeout:=0:Update},Map:=0,Hop:=0,PPM:=0,Algorithm:=0:ConnParams}: AdvPDU} 37 1500).fst.Params.Accept≤(4611686018427:Nat)∧List.length (scHear (scStart {Interval:=16,Window:=8,Active:=true,Policy:=0,Accept:=[],Identities:=[],Own:={Kind:=1,Bits:=5:Address},Unique:=false:ScanParams} 1 1000).fst {Kind:=6,Sender:={Kind:=1,Bits:=6:Address},Target:={Kind:=0,Bits:=0:Address},Data:=[(1:Int),(5:Int)],Conn:={Access:=0,Init:=0,Update:={WinSize:=0,WinOffset:=0,Interval:=0,Latency:=0,Timeout:=0:Update},Map:=0,Hop:=0,PPM:=0,Algorithm:=0:ConnParams}: AdvPDU} 37 1500).fst.Params.Identities≤(4611686018427:Nat)∧List.length (scHear (scStart {Interval:=16,Window:=8,Active:=true,Policy:=0,Accept:=[],Identities:=[],Own:={Kind:=1,Bits:=5:Address},Unique:=false:ScanParams} 1 1000).fst {Kind:=6,Sender:={Kind:=1,Bits:=6:Address},Target:={Kind:=0,Bits:=0:Address},Data:=[(1:Int),(5:Int)],Conn:={Access:=0,Init:=0,Update:={WinSize:=0,WinOffset:=0,Interval:=0,Latency:=0,Timeout:=0:Update},Map:=0,Hop:=0,PPM:=0,Algorithm:=0:ConnParams}: AdvPDU} 37 1500).fst.Seen≤(4611686018427:Nat)∧(scHear (scStart {Interval:=16,Window:=8,Active:=true,Policy:=0,Accept:=[],Identities:=[],Own:={Kind:=1,Bits:=5:Address},Unique:=false:ScanParams} 1 1000).fst {Kind:=6,Sender:={Kind:=1,Bits:=6:Address},Target:={Kind:=0,Bits:=0:Address},Data:=[(1:Int),(5:Int)],Conn:={Access:=0,Init:=0,Update:={WinSize:=0,WinOffset:=0,Interval:=0,Latency:=0,Timeout:=0:Update},Map:=0,Hop:=0,PPM:=0,Algorithm:=0:ConnParams}: AdvPDU} 37 1500).fst.Upper≤9223372036854775807∧(0:Nat)≤(140737488355328:Nat))∧(Ob (List.length (scHear (scStart {Interval:=16,Window:=8,Active:=true,Policy:=0,Accept:=[],Identities:=[],Own:={Kind:=1,Bits:=5:Address},Unique:=false:ScanParams} 1 1000).fst {Kind:=6,Sender:={Kind:=1,Bits:=6:Address},Target:={Kind:=0,Bits:=0:Address},Data:=[(1:Int),(5:Int)],Conn:={Access:=0,Init:=0,Update:={WinSize:=0,WinOffset:=0,Interval:=0,Latency:=0,Timeout:=0:Update},Map:=0,Hop:=0,PPM:=0,Algorithm:=0:ConnParams}: AdvPDU} 37 1500).fst.Params.Accept≤(4611686018427:Nat)∧List.length (scHear (scStart {Interval:=16,Window:=8,Active:=true,Policy:=0,Accept:=[],Identities:=[],Own:={Kind:=1,Bits:=5:Address},Unique:=false:ScanParams} 1 1000).fst {Kind:=6,Sender:={Kind:=1,Bits:=6:Address},Target:={Kind:=0,Bits:=0:Address},Data:=[(1:Int),(5:Int)],Conn:={Access:=0,Init:=0,Update:={WinSize:=0,WinOffset:=0,Interval:=0,Latency:=0,Timeout:=0:Update},Map:=0,Hop:=0,PPM:=0,Algorithm:=0:ConnParams}: AdvPDU} 37 1500).fst.Params.Identities≤(4611686018427:Nat)∧List.length (scHear (scStart {Interval:=16,Window:=8,Active:=true,Policy:=0,Accept:=[],Identities:=[],Own:={Kind:=1,Bits:=5:Address},Unique:=false:ScanParams} 1 1000).fst {Kind:=6,Sender:={Kind:=1,Bits:=6:Address},Target:={Kind:=0,Bits:=0:Address},Data:=[(1:Int),(5:Int)],Conn:={Access:=0,Init:=0,Update:={WinSize:=0,WinOffset:=0,Interval:=0,Latency:=0,Timeout:=0:Update},Map:=0,Hop:=0,PPM:=0,Algorithm:=0:ConnParams}: AdvPDU} 37 1500).fst.Seen≤(4611686018427:Nat)∧(scHear (scStart {Interval:=16,Window:=8,Active:=true,Policy:=0,Accept:=[],Identities:=[],Own:={Kind:=1,Bits:=5:Address},Unique:=false:ScanParams} 1 1000).fst {Kind:=6,Sender:={Kind:=1,Bits:=6:Address},Target:={Kind:=0,Bits:=0:Address},Data:=[(1:Int),(5:Int)],Conn:={Access:=0,Init:=0,Update:={WinSize:=0,WinOffset:=0,Interval:=0,Latency:=0,Timeout:=0:Update},Map:=0,Hop:=0,PPM:=0,Algorithm:=0:ConnParams}: AdvPDU} 37 1500).fst.Upper≤9223372036854775807)∧(Ob (o2 (true))∧(Ob (o3 (true))∧(Ob (o2 (true))∧(Ob (o3 (true))∧(Ob (true=true→(0:Int)≤(0:Int)∧0 < (↑(List.length (scHear (scStart {Interval:=16,Window:=8,Active:=true,Policy:=0,Accept:=[],Identities:=[],Own:={Kind:=1,Bits:=5:Address},Unique:=false:ScanParams} 1 1000).fst {Kind:=6,Sender:={Kind:=1,Bits:=6:Address},Target:={Kind:=0,Bits:=0:Address},Data:=[(1:Int),(5:Int)],Conn:={Access:=0,Init:=0,Update:={WinSize:=0,WinOffset:=0,Interval:=0,Latency:=0,Timeout:=0:Update},Map:=0,Hop:=0,PPM:=0,Algorithm:=0:ConnParams}: AdvPDU} 37 1500).snd.fst): Int))∧(Ob (o3 (true))∧(Ob (o3 (true))∧(Ob (o3 (true))∧(Ob (o3 (true))∧(Ob (o2 (true))∧(Ob (o3 (true))∧(Ob (true=true→(0:Int)≤(0:Int)∧0 < (↑(List.length (scHear (scStart {Interval:=16,Window:=8,Active:=true,Policy:=0,Accept:=[],Identities:=[],Own:={Kind:=1,Bits:=5:Address},Unique:=false:ScanParams} 1 1000).fst {Kind:=6,Sender:={Kind:=1,Bits:=6:Address},Target:={Kind:=0,Bits:=0:Address},Data:=[(1:Int),(5:Int)],Conn:={Access:=0,Init:=0,Update:={WinSize:=0,WinOffset:=0,Interval:=0,Latency:=0,Timeout:=0:Update},Map:=0,Hop:=0,PPM:=0,Algorithm:=0:ConnParams}: AdvPDU} 37 1500).snd.fst): Int))∧(Ob (o3 (true))∧(Ob (o3 (true))∧(Ob (o3 (true))∧(Ob (o2 (true))∧(Ob (o3 (true))∧(Ob (true=true→(0:Int)≤(0:Int)∧0 < (↑(List.length (scHear (scStart {Interval:=16,Window:=8,Active:=true,Policy:=0,Accept:=[],Identities:=[],Own:={Kind:=1,Bits:=5:Address},Unique:=false:ScanParams} 1 1000).fst {Kind:=6,Sender:={Kind:=1,Bits:=6:Address},Target:={Kind:=0,Bits:=0:Address},Data:=[(1:Int),(5:Int)],Conn:={Access:=0,Init:=0,Update:={WinSize:=0,WinOffset:=0,Interval:=0,Latency:=0,Timeout:=0:Update},Map:=0,Hop:=0,PPM:=0,Algorithm:=0:ConnParams}: AdvPDU} 37 1500).snd.fst): Int))∧(Ob (o3 (true))∧(Ob (o3 (true))∧(Ob (o3 (true))∧(Ob (o2 (true))∧(Ob (o3 (true))∧(Ob (true=true→(0:Int)≤(0:Int)∧0 < (↑(List.length (scHear (scStart {Interval:=16,Window:=8,Active:=true,Policy:=0,Accept:=[],Identities:=[],Own:={Kind:=1,Bits:=5:Address},Unique:=false:ScanParams} 1 1000).fst {Kind:=6,Sender:={Kind:=1,Bits:=6:Address},Target:={Kind:=0,Bits:=0:Address},Data:=[(1:Int),(5:Int)],Conn:={Access:=0,Init:=0,Update:={WinSize:=0,WinOffset:=0,Interval:=0,Latency:=0,Timeout:=0:Update},Map:=0,Hop:=0,PPM:=0,Algorithm:=0:ConnParams}: AdvPDU} 37 1500).snd.fst): Int))∧(Ob (o3 (true))∧(Ob (o3 (true))∧(Ob (o3 (true))∧(Ob (o3 (true))∧(Ob (o2 (true))∧(Ob (o3 (true))∧(Ob (true=true→(0:Int)≤(0:Int)∧0 < (↑(List.length (scHear (scStart {Interval:=16,Window:=8,Active:=true,Policy:=0,Accept:=[],Identities:=[],Own:={Kind:=1,Bits:=5:Address},Unique:=false:ScanParams} 1 1000).fst {Kind:=6,Sender:={Kind:=1,Bits:=6:Address},Target:={Kind:=0,Bits:=0:Address},Data:=[(1:Int),(5:Int)],Conn:={Access:=0,Init:=0,Update:={WinSize:=0,WinOffset:=0,Interval:=0,Latency:=0,Timeout:=0:Update},Map:=0,Hop:=0,PPM:=0,Algorithm:=0:ConnParams}: AdvPDU} 37 1500).snd.snd): Int))∧(Ob (o3 (true))∧(Ob (o3 (true))∧(Ob (o3 (true))∧(Ob (o2 (true))∧(Ob (o3 (true))∧(Ob (true=true→(0:Int)≤(0:Int)∧0 < (↑(List.length (scHear (scStart {Interval:=16,Window:=8,Active:=true,Policy:=0,Accept:=[],Identities:=[],Own:={Kind:=1,Bits:=5:Address},Unique:=false:ScanParams} 1 1000).fst {Kind:=6,Sender:={Kind:=1,Bits:=6:Address},Target:={Kind:=0,Bits:=0:Address},Data:=[(1:Int),(5:Int)],Conn:={Access:=0,Init:=0,Update:={WinSize:=0,WinOffset:=0,Interval:=0,Latency:=0,Timeout:=0:Update},Map:=0,Hop:=0,PPM:=0,Algorithm:=0:ConnParams}: AdvPDU} 37 1500).snd.snd): Int))∧(Ob (o3 (true))∧(Ob (o3 (true))∧(Ob (o3 (true))∧(Ob (o3 (true))∧(Ob (o2 (true))∧(Ob (o3 (true))∧(Ob (true=true→(0:Int)≤(0:Int)∧0 < (↑(List.length (scHear (scStart {Interval:=16,Window:=8,Active:=true,Policy:=0,Accept:=[],Identities:=[],Own:={Kind:=1,Bits:=5:Address},Unique:=false:ScanParams} 1 1000).fst {Kind:=6,Sender:={Kind:=1,Bits:=6:Address},Target:={Kind:=0,Bits:=0:Address},Data:=[(1:Int),(5:Int)],Conn:={Access:=0,Init:=0,Update:={WinSize:=0,WinOffset:=0,Interval:=0,Latency:=0,Timeout:=0:Update},Map:=0,Hop:=0,PPM:=0,Algorithm:=0:ConnParams}: AdvPDU} 37 1500).snd.snd): Int))∧(Ob (o3 (true))∧(Ob (o3 (true))∧(Ob (o3 (true))∧(Ob (o3 (true))∧(Ob (o3 (true))∧(Ob (o2 (true))∧(Ob (o3 (true))∧(Ob (o3 (true))∧(Ob (o3 (true))∧(Ob (o2 (true))∧(Ob (o3 (true))∧(Ob (o3 (true))∧(Ob (o2 (true))∧(Ob (o3 (true))∧(Ob (o3 (true))∧(Ob (o2 (true))∧(Ob (o3 (true))∧(Ob (o3 (true))∧(Ob (o2 (true))∧(Ob (o3 (true))∧(Ob (o3 (true))∧(Ob (o2 (true))∧(Ob (o3 (true))∧(Ob (o3 (true))∧(Ob (o2 (true))∧(Ob (o3 (true))∧(Ob (o3 (true))∧(Ob (o3 (true))∧(Ob (o2 (true))∧(Ob (o3 (true))∧(Ob (true=true→List.length (scHear (scStart {Interval:=16,Window:=8,Active:=true,Policy:=0,Accept:=[],Identities:=[],Own:={Kind:=1,Bits:=5:Address},Unique:=false:ScanParams} 1 1000).fst {Kind:=6,Sender:={Kind:=1,Bits:=6:Address},Target:={Kind:=0,Bits:=0:Address},Data:=[(1:Int),(5:Int)],Conn:={Access:=0,Init:=0,Update:={WinSize:=0,WinOffset:=0,Interval:=0,Latency:=0,Timeout:=0:Update},Map:=0,Hop:=0,PPM:=0,Algorithm:=0:ConnParams}: AdvPDU} 37 1500).fst.Params.Accept≤(4611686018427:Nat)∧List.length (scHear (scStart {Interval:=16,Window:=8,Active:=true,Policy:=0,Accept:=[],Identities:=[],Own:={Kind:=1,Bits:=5:Address},Unique:=false:ScanParams} 1 1000).fst {Kind:=6,Sender:={Kind:=1,Bits:=6:Address},Target:={Kind:=0,Bits:=0:Address},Data:=[(1:Int),(5:Int)],Conn:={Access:=0,Init:=0,Update:={WinSize:=0,WinOffset:=0,Interval:=0,Latency:=0,Timeout:=0:Update},Map:=0,Hop:=0,PPM:=0,Algorithm:=0:ConnParams}: AdvPDU} 37 1500).fst.Params.Identities≤(4611686018427:Nat)∧List.length (scHear (scStart {Interval:=16,Window:=8,Active:=true,Policy:=0,Accept:=[],Identities:=[],Own:={Kind:=1,Bits:=5:Address},Unique:=false:ScanParams} 1 1000).fst {Kind:=6,Sender:={Kind:=1,Bits:=6:Address},Target:={Kind:=0,Bits:=0:Address},Data:=[(1:Int),(5:Int)],Conn:={Access:=0,Init:=0,Update:={WinSize:=0,WinOffset:=0,Interval:=0,Latency:=0,Timeout:=0:Update},Map:=0,Hop:=0,PPM:=0,Algorithm:=0:ConnParams}: AdvPDU} 37 1500).fst.Seen≤(4611686018427:Nat))∧(Ob (o3 (true))∧(Ob (o3 (true))∧(Ob (o2 (true))∧(lives22.L (true) v))))))))))))))))))))))))))))))))))))))))))))))))))))))))))))))))))))))))))))))))))))))))
theorem lives22.nf_ok (v:Bool): evFun (mkCxI Tryd.prog S tab_r21SameSends 0 true sum_fIdx) 4 34 [] [] (fun r' H'=>Gives r' H' (lives22.res v) (lives22.news v))= lives22.nf v:=by kernel_rfl
theorem lives22.key (v:Bool) (hv:v=lives22): lives22.nf v:=by
 unfold lives22 at hv
 unfold lives22.nf
 refine ⟨⟨?_⟩, ?_⟩;rotate_left
 refine ⟨⟨?_⟩, ?_⟩;rotate_left
 iterate 2 refine ⟨⟨o3_ok _⟩, ?_⟩
 refine ⟨⟨?_⟩, ?_⟩;rotate_left
 iterate 2 refine ⟨⟨o3_ok _⟩, ?_⟩
 refine ⟨⟨?_⟩, ?_⟩;rotate_left
 refine ⟨⟨?_⟩, ?_⟩;rotate_left
 refine ⟨⟨?_⟩, ?_⟩;rotate_left
 refine ⟨⟨o2_ok _⟩, ?_⟩
 refine ⟨⟨o3_ok _⟩, ?_⟩
 refine ⟨⟨o2_ok _⟩, ?_⟩
 refine ⟨⟨o3_ok _⟩, ?_⟩
 refine ⟨⟨?_⟩, ?_⟩;rotate_left
 iterate 4 refine ⟨⟨o3_ok _⟩, ?_⟩
 refine ⟨⟨o2_ok _⟩, ?_⟩
 refine ⟨⟨o3_ok _⟩, ?_⟩
 refine ⟨⟨?_⟩, ?_⟩;rotate_left
 iterate 3 refine ⟨⟨o3_ok _⟩, ?_⟩
 refine ⟨⟨o2_ok _⟩, ?_⟩
 refine ⟨⟨o3_ok _⟩, ?_⟩
 refine ⟨⟨?_⟩, ?_⟩;rotate_left
 iterate 3 refine ⟨⟨o3_ok _⟩, ?_⟩
 refine ⟨⟨o2_ok _⟩, ?_⟩
 refine ⟨⟨o3_ok _⟩, ?_⟩
 refine ⟨⟨?_⟩, ?_⟩;rotate_left
 iterate 4 refine ⟨⟨o3_ok _⟩, ?_⟩
 refine ⟨⟨o2_ok _⟩, ?_⟩
 refine ⟨⟨o3_ok _⟩, ?_⟩
 refine ⟨⟨?_⟩, ?_⟩;rotate_left
 iterate 3 refine ⟨⟨o3_ok _⟩, ?_⟩
 refine ⟨⟨o2_ok _⟩, ?_⟩
 refine ⟨⟨o3_ok _⟩, ?_⟩
 refine ⟨⟨?_⟩, ?_⟩;rotate_left
 iterate 4 refine ⟨⟨o3_ok _⟩, ?_⟩
 refine ⟨⟨o2_ok _⟩, ?_⟩
 refine ⟨⟨o3_ok _⟩, ?_⟩
 refine ⟨⟨?_⟩, ?_⟩;rotate_left
 iterate 5 refine ⟨⟨o3_ok _⟩, ?_⟩
 refine ⟨⟨o2_ok _⟩, ?_⟩
 iterate 3 refine ⟨⟨o3_ok _⟩, ?_⟩
 refine ⟨⟨o2_ok _⟩, ?_⟩
 iterate 2 refine ⟨⟨o3_ok _⟩, ?_⟩
 refine ⟨⟨o2_ok _⟩, ?_⟩
 iterate 2 refine ⟨⟨o3_ok _⟩, ?_⟩
 refine ⟨⟨o2_ok _⟩, ?_⟩
 iterate 2 refine ⟨⟨o3_ok _⟩, ?_⟩
 refine ⟨⟨o2_ok _⟩, ?_⟩
 iterate 2 refine ⟨⟨o3_ok _⟩, ?_⟩
 refine ⟨⟨o2_ok _⟩, ?_⟩
 iterate 2 refine ⟨⟨o3_ok _⟩, ?_⟩
 refine ⟨⟨o2_ok _⟩, ?_⟩
 iterate 3 refine ⟨⟨o3_ok _⟩, ?_⟩
 refine ⟨⟨o2_ok _⟩, ?_⟩
 refine ⟨⟨o3_ok _⟩, ?_⟩
 refine ⟨⟨?_⟩, ?_⟩;rotate_left
 iterate 2 refine ⟨⟨o3_ok _⟩, ?_⟩
 refine ⟨⟨o2_ok _⟩, ?_⟩
 subst hv;exact ⟨rfl,rfl⟩
 all_goals ((try clear hv);(try clear q1 q2);(try clear hk);(first | omega | (decide +kernel)| ((try simp only [decide_eq_true_eq,decide_eq_false_iff_not,Bool.not_eq_true,Bool.not_eq_false,Bool.and_eq_true,Bool.or_eq_true,Bool.not_not,cond_and,cond_or,List.length_append,List.length_cons,List.length_nil] at *);(first | done | ((first | omega | (intros;(try simp only [Bool.not_not,cond_and,cond_or,Bool.and_eq_true,decide_eq_true_eq] at *);(exact band_nn rfl _ _))| (intros;(try simp only [Bool.not_not,cond_and,cond_or,Bool.and_eq_true,decide_eq_true_eq] at *);(exact (wu64s _).2.1))| (intros;(try simp only [Bool.not_not,cond_and,cond_or,Bool.and_eq_true,decide_eq_true_eq] at *);(simp only [Bool.or_eq_false_iff,Bool.and_eq_false_iff,decide_eq_false_iff_not,decide_eq_true_eq,bne_iff_ne,beq_iff_eq,bne_eq_false_iff_eq,beq_eq_false_iff_ne,ne_eq,true_and] at *;omega))| (intros;(try simp only [Bool.not_not,cond_and,cond_or,Bool.and_eq_true,decide_eq_true_eq] at *);(simp only [List.length_drop,List.length_take,List.length_append,List.length_cons,List.length_nil] at *;omega))| (intros;omega)| (intros;simp only [Bool.not_not,cond_and,cond_or,Bool.and_eq_true,decide_eq_true_eq] at *;omega)| (intros;simp_all [Bool.not_not];done)))))))
def lives22.ct:Ct El:=ctOf lives22.dec (fun _=>[]) (fun x=>lives22.res (lives22)) (fun x=>lives22.news (lives22))
theorem lives22.ok:CtOk (mkCx Tryd.prog S [] 0) 34 lives22.ct:=ct_mk (C:=(mkCxI Tryd.prog S tab_r21SameSends 0 true sum_fIdx)) (mkCxI_ok sigOk mixed tab_r21SameSends_ok 0 true sum_fIdx_ok) lives22.dec_ok (fun x=>rfl) 4 (fun x _=>(lives22.nf_ok _).mpr (lives22.key _ rfl))
def tab_lives22:List (FuncId×Ct El):= (34,lives22.ct):: tab_r21SameSends
theorem tab_lives22_ok:TabOk Tryd.prog S tab_lives22:=⟨lives22.ok,by kernel_rfl,tab_r21SameSends_ok⟩
end Go.Aw.W
