/- Contracts of the seat (printed by ct.py). -/
import Derived.Test.YtlnbhdcaebmffaaXW24
set_option linter.unusedVariables false
set_option linter.unusedSimpArgs false
set_option maxRecDepth 20000
set_option maxHeartbeats 1000000
namespace Go.Aw.W
open Go Go.Aw Go.Proofs
attribute [local irreducible] evCode evFun evOps evDs evOne ctxK loopK loopB subC bodyC headS okH roundK
attribute [local irreducible] cCheck procStart procHandle procReady procDue loopL
theorem grB_no {e:Law28exchange} (hq:decide ((0:Int) < (↑(List.length e.queues_0): Int)+ (↑(List.length e.queues_1): Int))= true) (h:nendB e=false): grB e=false:=by
 unfold grB
 rw [hq,cond_true];exact h
theorem grB_yes {e:Law28exchange} (hq:decide ((0:Int) < (↑(List.length e.queues_0): Int)+ (↑(List.length e.queues_1): Int))= true) (h:nendB e=true): grB e=true:=by
 unfold grB
 rw [hq,cond_true];exact h
theorem run3.ex (ft:Law28Talk) {e:Law28exchange} {n:Nat} (hn:n≤40) (h:(bif decide ((40 - (↑n:Int)) < (40:Int)) then decide ((0:Int) < (↑(List.length e.queues_0): Int)+ (↑(List.length e.queues_1): Int)) else false)= false): inF ft n e=e:=by
 cases n with
 | zero=>rfl
 | succ n =>
  have:decide ((40 - (↑(n+1): Int)) < (40:Int))= true:=by simp only [decide_eq_true_eq];omega
  rw [this,cond_true] at h
  refine inF_no ?_
  unfold grB
  rw [h];rfl
theorem run3.nx (ft:Law28Talk) (i:Int) (J:St El→Prop) {e z7 z9:Law28exchange} {n N D:Nat} (hn:n≤40) (h1:decide ((40 - (↑n:Int)) < (40:Int))= true) (h2:decide ((0:Int) < (↑(List.length e.queues_0): Int)+ (↑(List.length e.queues_1): Int))= true) (h3:nendB e=true) (hz7:z7=arr0F ft (Int.toNat (100:Int)) e) (hz9:z9=arr1F ft (Int.toNat (100:Int)) z7) (hX:XE N D z9) (hJ:J (run2.hd ft (inF ft n e) (IntKind.wrap IntKind.i64 (i+(1:Int))))):
  ∃x':Nat×Law28exchange,run3.hd ft z9 i (IntKind.wrap IntKind.i64 (40 - (↑n:Int)+ (1:Int)))= run3.hd ft x'.2 i (40 - (↑x'.1:Int))∧x'.1 < n∧(x'.1≤40∧XE N D x'.2)∧J (run2.hd ft (inF ft x'.1 x'.2) (IntKind.wrap IntKind.i64 (i+(1:Int)))):= by
 cases n with
 | zero=>simp at h1
 | succ n =>
  have hr:z9=rndE ft e:=by subst hz7 hz9;rfl
  rw [inF_yes (grB_yes h2 h3),←hr] at hJ
  refine ⟨(n,z9), ?_,Nat.lt_succ_self n,⟨by omega,hX⟩,hJ⟩
  rw [wi64 _ (by omega) (by omega)]
  have:40 - (↑(n+1): Int)+ 1=40 - ↑n:=by omega
  rw [this]
theorem run3.lp (ft:Law28Talk) (i:Int) (J:St El→Prop) (K:AV El→List (AObj El)→Prop) (e:Law28exchange) {N D:Nat} (hX:XE N D e) (hN:N≤90000) (hJ:J (run2.hd ft (inF ft 40 e) (IntKind.wrap IntKind.i64 (i+(1:Int))))) (st:St El) (q1:okH [1,3,10,11] [] st=true) (q2:headS [1,3,10,11] [] st=run3.hd ft e i 0): evCode (mkCxR Try.prog S tab_procDue 0 [57,56,58]) (evFunT (mkCxR Try.prog S tab_procDue 0 [57,56,58]) rRun 3) (.loop (fstC (subC [true,false,false,true,true,false] (loopB Try.prog 32 [true,true,true,true,true,false,true,false])))) st (ctxK (mkCxR Try.prog S tab_procDue 0 [57,56,58]) (evFunT (mkCxR Try.prog S tab_procDue 0 [57,56,58]) rRun 3) [true,false,false,true,true,false] (loopB Try.prog 32 [true,true,true,true,true,false,true,false]) (roundK (C:=(mkCxR Try.prog S tab_procDue 0 [57,56,58])) [1,3,10] [] J (loopT (mkCxR Try.prog S tab_procDue 0 [57,56,58]) rRun 3 32 [true,true,true,true,true,false,true,false] 0 K))):= by
 refine loop_ev (by kernel_rfl) (evFunT_mono _ rRun_mono _) [1,3,10,11] [] (X:=Nat×Law28exchange) (fun x=>run3.hd ft x.2 i (40 - (↑x.1:Int))) (fun x=>x.1) (fun x=>(x.1≤40∧XE N D x.2)∧J (run2.hd ft (inF ft x.1 x.2) (IntKind.wrap IntKind.i64 (i+(1:Int))))) (40,e) ⟨q1,q2⟩ ⟨⟨Nat.le_refl _,hX⟩,hJ⟩ ?_
 clear hX hJ q1 q2
 rintro ⟨n,e⟩ ⟨⟨hn,hX⟩,hJ⟩
 dsimp only at hn hX hJ
 refine (run3.st_ok ft e i (40 - (↑n:Int)) J _ K).mpr ?_
 unfold run3.st
 have hw:=gr_wrap hX (by omega)
 iterate 3 refine ⟨⟨o3_ok _⟩, ?_⟩
 refine ⟨⟨fun _=>by decide⟩, ?_⟩
 iterate 5 refine ⟨⟨o3_ok _⟩, ?_⟩
 refine ⟨⟨fun _=>by decide⟩, ?_⟩
 iterate 5 refine ⟨⟨o3_ok _⟩, ?_⟩
 refine ⟨⟨o2_ok _⟩, ?_⟩
 refine cond_case (fun hb0=>?_) (fun hb0=>?_)
 ·rw [hw] at hb0
  have hg0:=(bif_and hb0).2
  have hg1:=(bif_and hb0).1
  refine ⟨⟨by rw [hw];exact hb0⟩, ?_⟩
  refine ⟨⟨by decide⟩, ?_⟩
  iterate 3 refine ⟨⟨o3_ok _⟩, ?_⟩
  refine ⟨⟨fun _=>by decide⟩, ?_⟩
  iterate 3 refine ⟨⟨o3_ok _⟩, ?_⟩
  refine ⟨⟨on_ok _⟩, ?_⟩
  refine ⟨⟨o2_ok _⟩, ?_⟩
  refine cond_case (fun hb1=>?_) (fun hb1=>?_)
  ·refine ⟨⟨arrH0 hX (by omega) (by omega)⟩, ?_⟩
   intro z7
   intro hz7
   have hX1:=arr0_z hz7 hX (by omega)
   refine ⟨⟨arrH1 hX1 (by omega) (by omega)⟩, ?_⟩
   intro z9
   intro hz9
   have hX2:=arr1_z hz9 hX1 (by omega)
   exact run3.nx ft i J hn hg1 hg0 hb1 hz7 hz9 hX2 hJ
  ·rw [inF_no (grB_no hg0 hb1)] at hJ;exact hJ
 ·rw [hw] at hb0
  refine ⟨⟨fun h=>by cases h⟩, ?_⟩
  refine ⟨⟨o2_ok _⟩, ?_⟩
  rw [run3.ex ft hn hb0] at hJ;exact hJ
theorem run2.ex (ft:Law28Talk) {e:Law28exchange} {n:Nat} (h:decide ((80 - (↑n:Int)) < (80:Int))= false): evF ft n e=e:=by
 cases n with
 | zero=>rfl
 | succ n=>simp only [decide_eq_false_iff_not] at h;omega
theorem run2.nx (ft:Law28Talk) {e z5:Law28exchange} {n:Nat} {K:AV El→List (AObj El)→Prop} (hn:n≤80) (h1:decide ((80 - (↑n:Int)) < (80:Int))= true) (h3:nendB e=true) (hz5:z5=begE e) (hE:Ev (80 - n) (140 - n) e) (hK:K (.ref 0 0) (exHR (evF ft n e))):
  ∃x':Nat×Law28exchange,run2.hd ft (inF ft 40 z5) (IntKind.wrap IntKind.i64 (80 - (↑n:Int)+ (1:Int)))= run2.hd ft x'.2 (80 - (↑x'.1:Int))∧x'.1 < n∧(x'.1≤80∧Ev (80 - x'.1) (140 - x'.1) x'.2)∧K (.ref 0 0) (exHR (evF ft x'.1 x'.2)):= by
 cases n with
 | zero=>simp at h1
 | succ n =>
  rw [evF_yes h3,←hz5] at hK
  have he:=ev_step ft hE (by omega) h3
  rw [←hz5,show 80 - (n+1)+ 1=80 - n by omega,show 140 - (n+1)+ 1=140 - n by omega] at he
  refine ⟨(n,inF ft 40 z5), ?_,Nat.lt_succ_self n,⟨by omega,he⟩,hK⟩
  rw [wi64 _ (by omega) (by omega)]
  have:80 - (↑(n+1): Int)+ 1=80 - ↑n:=by omega
  rw [this]
theorem run2.lp (ft:Law28Talk) (K:AV El→List (AObj El)→Prop) (e:Law28exchange) (hE:Ev 0 60 e) (hK:K (.ref 0 0) (exHR (evF ft 80 e))) (st:St El) (q1:okH [1,3,10] [] st=true) (q2:headS [1,3,10] [] st=run2.hd ft e 0): evCode (mkCxR Try.prog S tab_procDue 0 [57,56,58]) (evFunT (mkCxR Try.prog S tab_procDue 0 [57,56,58]) rRun 3) (.loop (loopB Try.prog 32 [true,true,true,true,true,false,true,false])) st (loopT (mkCxR Try.prog S tab_procDue 0 [57,56,58]) rRun 3 32 [true,true,true,true,true,false,true,false] 0 K):= by
 refine loop_ev (by kernel_rfl) (evFunT_mono _ rRun_mono _) [1,3,10] [] (X:=Nat×Law28exchange) (fun x=>run2.hd ft x.2 (80 - (↑x.1:Int))) (fun x=>x.1) (fun x=>(x.1≤80∧Ev (80 - x.1) (140 - x.1) x.2)∧K (.ref 0 0) (exHR (evF ft x.1 x.2))) (80,e) ⟨q1,q2⟩ ⟨⟨Nat.le_refl _,(show Ev (80 - 80) (140 - 80) e from hE)⟩,hK⟩ ?_
 clear hE hK q1 q2
 rintro ⟨n,e⟩ ⟨⟨hn,hE⟩,hK⟩
 dsimp only at hn hE hK
 refine (run2.st_ok ft e (80 - (↑n:Int)) _ K).mpr ?_
 unfold run2.st
 obtain ⟨N,hN,hX,_⟩:= id hE
 refine cond_case (fun hb0=>?_) (fun hb0=>?_)
 ·refine ⟨⟨hb0⟩, ?_⟩
  refine ⟨⟨by decide⟩, ?_⟩
  iterate 3 refine ⟨⟨o3_ok _⟩, ?_⟩
  refine ⟨⟨fun _=>by decide⟩, ?_⟩
  iterate 3 refine ⟨⟨o3_ok _⟩, ?_⟩
  refine ⟨⟨on_ok _⟩, ?_⟩
  refine ⟨⟨o2_ok _⟩, ?_⟩
  refine cond_case (fun hb1=>?_) (fun hb1=>?_)
  ·refine ⟨⟨(begin_ok hX (by omega) (by omega)).1⟩, ?_⟩
   intro z5
   intro hz5
   refine run3.lp ft _ _ K z5 (N:=N+10) (D:=140 - n+1) (by rw [hz5];exact (begin_ok hX (by omega) (by omega)).2) (by omega) (run2.nx ft hn hb0 hb1 hz5 hE hK) _ (by kernel_rfl) (by kernel_rfl)
  ·rw [evF_no hb1] at hK;exact hK
 ·refine ⟨⟨fun h=>by cases h⟩, ?_⟩
  refine ⟨⟨o2_ok _⟩, ?_⟩
  rw [run2.ex ft hb0] at hK;exact hK
theorem mvF_no {t:Law28Talk} {l:List Law28Move} {e:Law28exchange} (h:nendB e=false): mvF t l e=e:=by
 cases l with
 | nil=>rfl
 | cons m l=>unfold mvF;rw [h];rfl
theorem mvF_yes {t:Law28Talk} {m:Law28Move} {l:List Law28Move} {e:Law28exchange} (h:nendB e=true): mvF t (m::l) e=mvF t l (mvE t m e):= by
 conv=>lhs;unfold mvF
 rw [h];rfl
theorem Ev.of {N:Nat} {e:Law28exchange} {D:Nat} (h:XE N D e) (hN:N≤902) (hD:D≤60): Ev 0 60 e:=⟨N,by omega,h.mono (Nat.le_refl _) hD,fun _ => .inl (by omega)⟩
theorem run1.nx (ft:Law28Talk) {e z:Law28exchange} {n:Nat} {K:AV El→List (AObj El)→Prop} (hl:ft.Moves.length≤60) (hn:n≤ft.Moves.length) (h1:decide (((↑(List.length ft.Moves): Int) - (↑n:Int)) < (↑(List.length ft.Moves): Int))= true) (h3:nendB e=true) (hX:XE (2+15*(ft.Moves.length - n)) (ft.Moves.length - n) e) (hz:mvE ft (List.getD ft.Moves (Int.toNat ((↑(List.length ft.Moves): Int) - (↑n:Int))) Law28Move.zero) e=z) (hK:K (.ref 0 0) (exHR (evF ft 80 (mvF ft (ft.Moves.drop (ft.Moves.length - n)) e)))):
  ∃x':Nat×Law28exchange,run1.hd ft z (IntKind.wrap IntKind.i64 ((↑(List.length ft.Moves): Int) - (↑n:Int)+ (1:Int)))= run1.hd ft x'.2 ((↑(List.length ft.Moves): Int) - (↑x'.1:Int))∧x'.1 < n∧(x'.1≤ft.Moves.length∧XE (2+15*(ft.Moves.length - x'.1)) (ft.Moves.length - x'.1) x'.2)∧K (.ref 0 0) (exHR (evF ft 80 (mvF ft (ft.Moves.drop (ft.Moves.length - x'.1)) x'.2))):= by
 cases n with
 | zero=>simp at h1
 | succ n =>
  have hi:Int.toNat ((↑(List.length ft.Moves): Int) - (↑(n+1): Int))= ft.Moves.length - (n+1):= by omega
  have hlt:ft.Moves.length - (n+1) < ft.Moves.length:=by omega
  rw [hi] at hz
  have hd:ft.Moves.drop (ft.Moves.length - (n+1))= List.getD ft.Moves (ft.Moves.length - (n+1)) Law28Move.zero::ft.Moves.drop (ft.Moves.length - n):= by
   rw [List.drop_eq_getElem_cons hlt,List.getD_eq_getElem?_getD,List.getElem?_eq_getElem hlt,show ft.Moves.length - (n+1)+ 1=ft.Moves.length - n by omega];rfl
  rw [hd,mvF_yes h3,hz] at hK
  have he:=mvE_ok ft (List.getD ft.Moves (ft.Moves.length - (n+1)) Law28Move.zero) hX (by omega) (by omega)
  rw [hz] at he
  refine ⟨(n,z), ?_,Nat.lt_succ_self n,⟨by omega,he.mono (by omega) (by omega)⟩,hK⟩
  rw [wi64 _ (by omega) (by omega)]
  have:(↑(List.length ft.Moves): Int) - (↑(n+1): Int)+ 1 = ↑(List.length ft.Moves) - ↑n:=by omega
  rw [this]
theorem run1.lp (ft:Law28Talk) (hR:RunH ft) (K:AV El→List (AObj El)→Prop) (e:Law28exchange) (hX:XE 2 0 e) (hK:K (.ref 0 0) (exHR (evF ft 80 (mvF ft ft.Moves e)))) (st:St El) (q1:okH [1,3,4] [.cell 1 40 28, .cell 1 41 28, .cell 1 42 78, .cell 1 43 78] st=true) (q2:headS [1,3,4] [.cell 1 40 28, .cell 1 41 28, .cell 1 42 78, .cell 1 43 78] st=run1.hd ft e 0): evCode (mkCxR Try.prog S tab_procDue 0 [57,56,58]) (evFunT (mkCxR Try.prog S tab_procDue 0 [57,56,58]) rRun 3) (.loop (loopB Try.prog 32 [true,true,true,true,false,true,false])) st (loopT (mkCxR Try.prog S tab_procDue 0 [57,56,58]) rRun 3 32 [true,true,true,true,false,true,false] 0 K):= by
 obtain ⟨hl,hM⟩:= hR
 refine loop_ev (by kernel_rfl) (evFunT_mono _ rRun_mono _) [1,3,4] [.cell 1 40 28, .cell 1 41 28, .cell 1 42 78, .cell 1 43 78] (X:=Nat×Law28exchange) (fun x=>run1.hd ft x.2 ((↑(List.length ft.Moves): Int) - (↑x.1:Int))) (fun x=>x.1) (fun x=>(x.1≤ft.Moves.length∧XE (2+15*(ft.Moves.length - x.1)) (ft.Moves.length - x.1) x.2)∧K (.ref 0 0) (exHR (evF ft 80 (mvF ft (ft.Moves.drop (ft.Moves.length - x.1)) x.2)))) (ft.Moves.length,e) ⟨q1,q2.trans (by show run1.hd ft e 0=run1.hd ft e (↑(List.length ft.Moves) - ↑(List.length ft.Moves));rw [Int.sub_self])⟩ ⟨⟨Nat.le_refl _,by rw [Nat.sub_self];exact hX⟩,by rw [Nat.sub_self];exact hK⟩ ?_
 clear hX hK q1 q2
 rintro ⟨n,e⟩ ⟨⟨hn,hX⟩,hK⟩
 dsimp only at hn hX hK
 refine (run1.st_ok ft e ((↑(List.length ft.Moves): Int) - (↑n:Int)) _ K).mpr ?_
 unfold run1.st
 have hm:n≠0→List.getD ft.Moves (Int.toNat ((↑(List.length ft.Moves): Int) - (↑n:Int))) Law28Move.zero∈ft.Moves:=by
  intro h0
  have hlt:Int.toNat ((↑(List.length ft.Moves): Int) - (↑n:Int)) < ft.Moves.length:=by omega
  rw [List.getD_eq_getElem?_getD,List.getElem?_eq_getElem hlt]
  exact List.getElem_mem hlt
 generalize hmv:List.getD ft.Moves (Int.toNat ((↑(List.length ft.Moves): Int) - (↑n:Int))) Law28Move.zero=mv at hm
 intro _
 refine cond_case (fun hb0=>?_) (fun hb0=>?_)
 ·have hn0:n≠0:=by intro h;subst h;simp at hb0
  obtain ⟨ms,ma,mb⟩:= hM mv (hm hn0)
  obtain ⟨hBeg,hX1⟩:= begin_ok hX (by omega) (by omega)
  refine ⟨⟨hb0⟩, ?_⟩
  refine ⟨⟨by decide⟩, ?_⟩
  iterate 3 refine ⟨⟨o3_ok _⟩, ?_⟩
  refine ⟨⟨fun _=>by decide⟩, ?_⟩
  iterate 3 refine ⟨⟨o3_ok _⟩, ?_⟩
  refine ⟨⟨on_ok _⟩, ?_⟩
  refine ⟨⟨o2_ok _⟩, ?_⟩
  refine cond_case (fun hb1=>?_) (fun hb1=>?_)
  ·refine ⟨⟨by omega⟩, ?_⟩
   refine ⟨⟨hBeg⟩, ?_⟩
   intro z6
   intro hz6
   rw [←hz6] at hX1
   refine cond_case (fun hb2=>?_) (fun hb2=>?_)
   ·refine ⟨⟨hb2⟩, ?_⟩
    refine ⟨⟨by decide⟩, ?_⟩
    iterate 3 refine ⟨⟨o3_ok _⟩, ?_⟩
    refine ⟨⟨fun _=>by decide⟩, ?_⟩
    iterate 3 refine ⟨⟨o3_ok _⟩, ?_⟩
    refine ⟨⟨on_ok _⟩, ?_⟩
    refine ⟨⟨o2_ok _⟩, ?_⟩
    refine cond_case (fun hb3=>?_) (fun hb3=>?_)
    ·refine cond_case (fun hb4=>?_) (fun hb4=>?_)
     ·refine ⟨⟨by decide⟩, ?_⟩
      refine ⟨⟨by decide⟩, ?_⟩
      refine ⟨⟨by have:=hX1.w0;omega⟩, ?_⟩
      refine ⟨⟨by decide⟩, ?_⟩
      refine ⟨⟨(stE0_ok mv.Control hX1 (by omega)).1⟩, ?_⟩
      intro z8
      intro hz8
      have hz8s:z8=stE mv z6:=hz8.trans (stE_0 hb2 hb3 hb4).symm
      have hX2:=(stE0_ok mv.Control hX1 (by omega)).2
      rw [show stE0 mv.Control z6=z8 from hz8.symm] at hX2
      refine ⟨⟨by decide⟩, ?_⟩
      refine ⟨⟨by rw [wArr ma];exact arrH0 hX2 (by omega) (by omega)⟩, ?_⟩
      intro z10
      intro hz10
      have hX3:=arr0_z hz10 hX2 (by omega)
      refine ⟨⟨by decide⟩, ?_⟩
      refine ⟨⟨by rw [wArr mb];exact arrH1 hX3 (by omega) (by omega)⟩, ?_⟩
      intro z12
      intro hz12
      exact run1.nx ft hl hn hb0 hb1 hX (by rw [hmv];exact mvE_a hz6 hz8s hz10 hz12 ma mb) hK
     ·refine cond_case (fun hb5=>?_) (fun hb5=>?_)
      ·refine ⟨⟨by decide⟩, ?_⟩
       refine ⟨⟨by decide⟩, ?_⟩
       refine ⟨⟨by have:=hX1.w1;omega⟩, ?_⟩
       refine ⟨⟨by decide⟩, ?_⟩
       refine ⟨⟨(stE1_ok mv.Control hX1 (by omega)).1⟩, ?_⟩
       intro z8
       intro hz8
       have hz8s:z8=stE mv z6:=hz8.trans (stE_1 hb2 hb3 hb4).symm
       have hX2:=(stE1_ok mv.Control hX1 (by omega)).2
       rw [show stE1 mv.Control z6=z8 from hz8.symm] at hX2
       refine ⟨⟨by decide⟩, ?_⟩
       refine ⟨⟨by rw [wArr ma];exact arrH0 hX2 (by omega) (by omega)⟩, ?_⟩
       intro z10
       intro hz10
       have hX3:=arr0_z hz10 hX2 (by omega)
       refine ⟨⟨by decide⟩, ?_⟩
       refine ⟨⟨by rw [wArr mb];exact arrH1 hX3 (by omega) (by omega)⟩, ?_⟩
       intro z12
       intro hz12
       exact run1.nx ft hl hn hb0 hb1 hX (by rw [hmv];exact mvE_a hz6 hz8s hz10 hz12 ma mb) hK
      ·exact (rem2 ms hb4 hb5).elim
    ·refine ⟨⟨by decide⟩, ?_⟩
     refine ⟨⟨by rw [wArr ma];exact arrH0 hX1 (by omega) (by omega)⟩, ?_⟩
     intro z8
     intro hz8
     have hX3:=arr0_z hz8 hX1 (by omega)
     refine ⟨⟨by decide⟩, ?_⟩
     refine ⟨⟨by rw [wArr mb];exact arrH1 hX3 (by omega) (by omega)⟩, ?_⟩
     intro z10
     intro hz10
     exact run1.nx ft hl hn hb0 hb1 hX (by rw [hmv];exact mvE_a hz6 (stE_n hb2 hb3).symm hz8 hz10 ma mb) hK
   ·refine ⟨⟨fun h=>by cases h⟩, ?_⟩
    refine ⟨⟨o2_ok _⟩, ?_⟩
    refine ⟨⟨by decide⟩, ?_⟩
    refine ⟨⟨by rw [wArr ma];exact arrH0 hX1 (by omega) (by omega)⟩, ?_⟩
    intro z8
    intro hz8
    have hX3:=arr0_z hz8 hX1 (by omega)
    refine ⟨⟨by decide⟩, ?_⟩
    refine ⟨⟨by rw [wArr mb];exact arrH1 hX3 (by omega) (by omega)⟩, ?_⟩
    intro z10
    intro hz10
    exact run1.nx ft hl hn hb0 hb1 hX (by rw [hmv];exact mvE_a hz6 (stE_m hb2).symm hz8 hz10 ma mb) hK
  ·refine run2.lp ft K e (Ev.of hX (by omega) (by omega)) (by rw [mvF_no hb1] at hK;exact hK) _ (by kernel_rfl) (by kernel_rfl)
 ·refine ⟨⟨fun h=>by cases h⟩, ?_⟩
  refine ⟨⟨o2_ok _⟩, ?_⟩
  refine run2.lp ft K e (Ev.of hX (by omega) (by omega)) (by have h0:n=0:=(by simp only [decide_eq_false_iff_not] at hb0;omega);subst h0;rw [Nat.sub_zero,List.drop_length] at hK;exact hK) _ (by kernel_rfl) (by kernel_rfl)
theorem run.ok (ft:Law28Talk) (hR:RunH ft) (K:AV El→List (AObj El)→Prop) (hK:K (.ref 0 0) (exHR (runX ft))): evFunT (mkCxR Try.prog S tab_procDue 0 [57,56,58]) rRun 4 32 [Law28Talk.av ft] [] K:=by
 refine (run.nf_ok ft K).mpr ?_
 unfold run.nf
 refine ⟨⟨by decide⟩,⟨⟨by decide⟩,⟨⟨by decide⟩,⟨⟨by decide⟩,⟨⟨by decide⟩,⟨⟨by decide⟩, ?_⟩⟩⟩⟩⟩⟩
 exact run1.lp ft hR K (e0 ft) (e0_ok ft) hK _ (by kernel_rfl) (by kernel_rfl)
end Go.Aw.W
