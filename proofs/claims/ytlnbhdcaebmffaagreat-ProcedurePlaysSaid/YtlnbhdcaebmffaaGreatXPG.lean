import Derived.Test.YtlnbhdcaebmffaaGreatXPA
import Derived.Test.YtlnbhdcaebmffaaGreatXW20
import Derived.Test.YtlnbhdcaebmffaaGreatXW24
section
/- What the program does is what the document says: the small functions, and requests (own work). -/
set_option linter.unusedVariables false
set_option linter.unusedSimpArgs false
namespace Go.Aw.W
open Go Go.Aw Go.Proofs
theorem wu16 (n:Int): IntKind.wrap .u16 n=n % 65536:=wu16m n
theorem diff_eq {a b:Int} (ha:0≤a∧a < 65536) (hb:0≤b∧b < 65536): serDiff a b=r1Diff a b:=by
 have h1:IntKind.wrap .i64 (IntKind.wrap .i16 (IntKind.wrap .u16 (b - a)))= IntKind.wrap .i16 (IntKind.wrap .u16 (b - a)):= by
  rw [wu16];simp [IntKind.wrap,IntKind.bits,IntKind.signed];omega
 have h2:IntKind.wrap .i16 (IntKind.wrap .u16 (b - a))= if (b - a) % 65536 < 32768 then (b - a) % 65536 else (b - a) % 65536 - 65536:=by
  rw [wu16];simp [IntKind.wrap,IntKind.bits,IntKind.signed];omega
 unfold serDiff r1Diff
 rw [h1,h2]
 rw [wi64 a (by omega) (by omega),wi64 b (by omega) (by omega),wi64 (b - a) (by omega) (by omega),wi64 (b - a+65536) (by omega) (by omega),wi64 (b - a - 65536) (by omega) (by omega)]
 simp only [Bool.cond_eq_ite,decide_eq_true_eq]
 by_cases h3:b - a < -32768
 ·rw [if_pos h3,if_neg (show ¬(32767 < b - a+65536) by omega)];split <;> omega
 ·rw [if_neg h3]
  by_cases h4:32767 < b - a
  ·rw [if_pos h4];split <;> omega
  ·rw [if_neg h4];split <;> omega
theorem passed_eq {e i:Int} (he:0≤e∧e < 65536) (hi:0≤i∧i < 65536): serPassed e i=r1Passed e i:=by
 unfold serPassed r1Passed;rw [diff_eq hi he]
theorem plan_eq {e:Int} (he:0≤e∧e < 65536): insPlan e 0=r27Plan e 0:=by
 have h1:IntKind.wrap IntKind.i64 ((6:Int)+ minI (maxI (0:Int) (0:Int)) (499:Int))= 6:=by decide
 have h2:IntKind.wrap IntKind.i64 ((6:Int)+ maxI (0:Int) (minI (0:Int) (499:Int)))= 6:=by decide
 unfold insPlan r27Plan serAdd r1Add
 rw [h1,h2,show Int.tmod 6 65536=6 by decide,wi64 e (by omega) (by omega),wi64 (e+6) (by omega) (by omega),wi64 (e+6+65536) (by omega) (by omega),Int.tmod_eq_emod_of_nonneg (by omega)]
 simp only [wu16]
 omega
theorem plan_u16 {e:Int} (he:0≤e∧e < 65536): 0≤insPlan e 0∧insPlan e 0 < 65536:=by
 unfold insPlan serAdd;rw [wu16 (e+_)];omega
theorem icheck_eq {e:Int} {c:Change} (he:0≤e∧e < 65536) (hi:0≤c.Instant∧c.Instant < 65536): insCheck e c=r27Check e c:=by
 unfold insCheck r27Check;rw [passed_eq he hi]
theorem iadd_eq {e:Int} {c:Change} (l:List Change) (he:0≤e∧e < 65536) (hi:0≤c.Instant∧c.Instant < 65536): insAdd l e c=r27Add l e c:=by
 unfold insAdd r27Add
 rw [icheck_eq he hi]
 cases (r27Check e c != (0:Int))
 ·cases l with
  | nil=>rfl
  | cons x l =>
   have h2:decide ((0:Int) < (↑(List.length (x::l)): Int))= true:=by simp only [List.length_cons,decide_eq_true_eq];omega
   rw [h2];rfl
 ·rfl
theorem iadd_fst (l:List Change) (e:Int) (c:Change) (h:((insAdd l e c).2==0)= false): (insAdd l e c).1=l:=by
 unfold insAdd at h ⊢
 cases h1:(insCheck e c != (0:Int))
 ·rw [h1] at h
  cases h2:decide ((0:Int) < (↑(List.length l): Int))
  ·rw [h2] at h;cases h
  ·rfl
 ·rfl
theorem timed_eq : @r28timed =@pChanges:=rfl
theorem idue_eq {e:Int} (l:List Change) (hl:l.length≤1) (he:0≤e∧e < 65536) (hi : ∀c∈l,0≤c.Instant∧c.Instant < 65536): insDue l e=r27Due l e:=by
 match l,hl with
 | [],_=>rfl
 | [c],_ =>
  rw [insDue_one,passed_eq he (hi c (by simp))]
  have h:(List.getD [c] (Int.toNat (0:Int)) Change.zero)= c:=rfl
  unfold r27Due
  rw [h]
  cases r1Passed e c.Instant <;> exact (show (_:List Change×List Change)= _ by kernel_rfl)
theorem quiet_eq (s:Procs): procQuiet s=r28Quiet s:=by
 unfold procQuiet r28Quiet
 rw [Bool.eq_iff_iff]
 simp only [Bool.cond_eq_ite,Bool.if_true_left,Bool.if_false_right,Bool.or_eq_true,Bool.and_eq_true,decide_eq_true_eq,beq_iff_eq]
 omega
theorem late_eq (k a b:Int) (h : -1≤k): pLate k a b=r28late k a b:=by
 unfold pLate r28late
 have:(k != (-1:Int))= decide ((0:Int)≤k):= by rw [Bool.eq_iff_iff];simp;omega
 rw [this,timed_eq]
theorem expired_eq (s:Procs) (n:Int) (h1 : -1≤s.Own) (h2 : -1≤s.Other): procExpired s n=r28Expired s n:=by
 unfold procExpired r28Expired;rw [late_eq _ _ _ h1,late_eq _ _ _ h2]
theorem sent_eq : @procSent =@r28Sent:=by kernel_rfl
theorem answer_eq : @procAnswer =@r28Answer:=by kernel_rfl
end Go.Aw.W
end
section
/- What the program does is what the document says: control PDUs that are received (own work). -/
set_option linter.unusedVariables false
set_option linter.unusedSimpArgs false
namespace Go.Aw.W
open Go Go.Aw Go.Proofs
section
variable (s:Procs) (e n:Int) (u:Update) (m i r j sa mk f v l:Int)
theorem ph0:procHandle s ⟨0,u,m,i,r,j,sa,mk,f,v,l⟩ e n=procHandleK0 s ⟨0,u,m,i,r,j,sa,mk,f,v,l⟩ e n:=by kernel_rfl
theorem rh0:r28Handle s ⟨0,u,m,i,r,j,sa,mk,f,v,l⟩ e n=cond (s.Ended != (0:Int)) (s,[],[]) (((r28hChange s ⟨0,u,m,i,r,j,sa,mk,f,v,l⟩ e n),[],[])):= by kernel_rfl
theorem he0 (hr:s.Role=0∨s.Role=1) (he:0≤e∧e < 65536) (hi:0≤i∧i < 65536): procHandle s ⟨0,u,m,i,r,j,sa,mk,f,v,l⟩ e n=r28Handle s ⟨0,u,m,i,r,j,sa,mk,f,v,l⟩ e n:=by
 rw [ph0,rh0]
 have ha:r27Add s.Pending e (r28change ⟨0,u,m,i,r,j,sa,mk,f,v,l⟩)= insAdd s.Pending e (pChange ⟨0,u,m,i,r,j,sa,mk,f,v,l⟩):= (iadd_eq _ he hi).symm
 unfold procHandleK0 r28hChange
 rw [ha]
 have hg : ∀q:Int,(q==(0:Int))= true→(q==(18:Int))= false:=by intro q hq;have:=eq_of_beq hq;subst this;rfl
 have hq:=hg (insAdd s.Pending e (pChange ⟨0,u,m,i,r,j,sa,mk,f,v,l⟩)).2
 show (_:Procs×List Control×List Indication)= _
 simp only [bne]
 revert hq
 generalize insAdd s.Pending e (pChange ⟨0,u,m,i,r,j,sa,mk,f,v,l⟩)= q
 rcases hr with hr | hr <;> (try simp only [hr]) <;> cases (s.Ended==(0:Int)) <;> cases (s.Own==(15:Int)) <;> cases h0:(q.2==(0:Int)) <;> cases h1:(q.2==(18:Int)) <;> intro hq <;> first | rfl | (exact absurd (hq rfl) (by decide))
theorem ph1:procHandle s ⟨1,u,m,i,r,j,sa,mk,f,v,l⟩ e n=procHandleK1 s ⟨1,u,m,i,r,j,sa,mk,f,v,l⟩ e n:=by kernel_rfl
theorem rh1:r28Handle s ⟨1,u,m,i,r,j,sa,mk,f,v,l⟩ e n=cond (s.Ended != (0:Int)) (s,[],[]) (((r28hChange s ⟨1,u,m,i,r,j,sa,mk,f,v,l⟩ e n),[],[])):= by kernel_rfl
theorem he1 (hr:s.Role=0∨s.Role=1) (he:0≤e∧e < 65536) (hi:0≤i∧i < 65536): procHandle s ⟨1,u,m,i,r,j,sa,mk,f,v,l⟩ e n=r28Handle s ⟨1,u,m,i,r,j,sa,mk,f,v,l⟩ e n:=by
 rw [ph1,rh1]
 have ha:r27Add s.Pending e (r28change ⟨1,u,m,i,r,j,sa,mk,f,v,l⟩)= insAdd s.Pending e (pChange ⟨1,u,m,i,r,j,sa,mk,f,v,l⟩):= (iadd_eq _ he hi).symm
 unfold procHandleK1 r28hChange
 rw [ha]
 have hg : ∀q:Int,(q==(0:Int))= true→(q==(18:Int))= false:=by intro q hq;have:=eq_of_beq hq;subst this;rfl
 have hq:=hg (insAdd s.Pending e (pChange ⟨1,u,m,i,r,j,sa,mk,f,v,l⟩)).2
 show (_:Procs×List Control×List Indication)= _
 simp only [bne]
 revert hq
 generalize insAdd s.Pending e (pChange ⟨1,u,m,i,r,j,sa,mk,f,v,l⟩)= q
 rcases hr with hr | hr <;> (try simp only [hr]) <;> cases (s.Ended==(0:Int)) <;> cases (s.Own==(15:Int)) <;> cases h0:(q.2==(0:Int)) <;> cases h1:(q.2==(18:Int)) <;> intro hq <;> first | rfl | (exact absurd (hq rfl) (by decide))
theorem ph2:procHandle s ⟨2,u,m,i,r,j,sa,mk,f,v,l⟩ e n=procHandleK2 s ⟨2,u,m,i,r,j,sa,mk,f,v,l⟩ e n:=by kernel_rfl
theorem rh2:r28Handle s ⟨2,u,m,i,r,j,sa,mk,f,v,l⟩ e n=cond (s.Ended != (0:Int)) (s,[],[]) (cond (r==(0:Int)) ({s with Ended:=19},[],[]) ({s with Ended:=r},[],[])):= by kernel_rfl
theorem he2 (hr:s.Role=0∨s.Role=1): procHandle s ⟨2,u,m,i,r,j,sa,mk,f,v,l⟩ e n=r28Handle s ⟨2,u,m,i,r,j,sa,mk,f,v,l⟩ e n:=by
 rw [ph2,rh2];rfl
theorem ph3:procHandle s ⟨3,u,m,i,r,j,sa,mk,f,v,l⟩ e n=procHandleK3 s ⟨3,u,m,i,r,j,sa,mk,f,v,l⟩ e n:=by kernel_rfl
theorem rh3:r28Handle s ⟨3,u,m,i,r,j,sa,mk,f,v,l⟩ e n=cond (s.Ended != (0:Int)) (s,[],[]) (r28hCrypt s ⟨3,u,m,i,r,j,sa,mk,f,v,l⟩ n):= by kernel_rfl
theorem he3 (hr:s.Role=0∨s.Role=1): procHandle s ⟨3,u,m,i,r,j,sa,mk,f,v,l⟩ e n=r28Handle s ⟨3,u,m,i,r,j,sa,mk,f,v,l⟩ e n:=by
 rw [ph3,rh3]
 unfold procHandleK3 r28hCrypt
 (try simp only [bne])
 rcases hr with hr | hr <;> (try simp only [hr]) <;> cases (s.Ended==(0:Int)) <;> cases (s.Crypt==(0:Int)) <;> rfl
theorem ph4:procHandle s ⟨4,u,m,i,r,j,sa,mk,f,v,l⟩ e n=procHandleK4 s ⟨4,u,m,i,r,j,sa,mk,f,v,l⟩ e n:=by kernel_rfl
theorem rh4:r28Handle s ⟨4,u,m,i,r,j,sa,mk,f,v,l⟩ e n=cond (s.Ended != (0:Int)) (s,[],[]) (r28hCrypt s ⟨4,u,m,i,r,j,sa,mk,f,v,l⟩ n):= by kernel_rfl
theorem he4 (hr:s.Role=0∨s.Role=1): procHandle s ⟨4,u,m,i,r,j,sa,mk,f,v,l⟩ e n=r28Handle s ⟨4,u,m,i,r,j,sa,mk,f,v,l⟩ e n:=by
 rw [ph4,rh4]
 unfold procHandleK4 r28hCrypt
 (try simp only [bne])
 rcases hr with hr | hr <;> (try simp only [hr]) <;> cases (s.Ended==(0:Int)) <;> cases (s.Crypt==(1:Int)) <;> rfl
theorem ph5:procHandle s ⟨5,u,m,i,r,j,sa,mk,f,v,l⟩ e n=procHandleK5 s ⟨5,u,m,i,r,j,sa,mk,f,v,l⟩ e n:=by kernel_rfl
theorem rh5:r28Handle s ⟨5,u,m,i,r,j,sa,mk,f,v,l⟩ e n=cond (s.Ended != (0:Int)) (s,[],[]) (r28hCrypt s ⟨5,u,m,i,r,j,sa,mk,f,v,l⟩ n):= by kernel_rfl
theorem he5 (hr:s.Role=0∨s.Role=1): procHandle s ⟨5,u,m,i,r,j,sa,mk,f,v,l⟩ e n=r28Handle s ⟨5,u,m,i,r,j,sa,mk,f,v,l⟩ e n:=by
 rw [ph5,rh5]
 unfold procHandleK5 r28hCrypt
 (try simp only [bne])
 rcases hr with hr | hr <;> (try simp only [hr]) <;> cases (s.Ended==(0:Int)) <;> cases (s.Crypt==(2:Int)) <;> rfl
theorem ph6:procHandle s ⟨6,u,m,i,r,j,sa,mk,f,v,l⟩ e n=procHandleK6 s ⟨6,u,m,i,r,j,sa,mk,f,v,l⟩ e n:=by kernel_rfl
theorem rh6:r28Handle s ⟨6,u,m,i,r,j,sa,mk,f,v,l⟩ e n=cond (s.Ended != (0:Int)) (s,[],[]) (r28hCrypt s ⟨6,u,m,i,r,j,sa,mk,f,v,l⟩ n):= by kernel_rfl
theorem he6 (hr:s.Role=0∨s.Role=1): procHandle s ⟨6,u,m,i,r,j,sa,mk,f,v,l⟩ e n=r28Handle s ⟨6,u,m,i,r,j,sa,mk,f,v,l⟩ e n:=by
 rw [ph6,rh6]
 unfold procHandleK6 r28hCrypt
 (try simp only [bne])
 rcases hr with hr | hr <;> (try simp only [hr]) <;> cases (s.Ended==(0:Int)) <;> cases (s.Crypt==(3:Int)) <;> rfl
theorem ph7:procHandle s ⟨7,u,m,i,r,j,sa,mk,f,v,l⟩ e n=procHandleK7 s ⟨7,u,m,i,r,j,sa,mk,f,v,l⟩ e n:=by kernel_rfl
theorem rh7:r28Handle s ⟨7,u,m,i,r,j,sa,mk,f,v,l⟩ e n=cond (s.Ended != (0:Int)) (s,[],[]) (r28hReject s ⟨7,u,m,i,r,j,sa,mk,f,v,l⟩):= by kernel_rfl
theorem he7 (hj:0≤j): procHandle s ⟨7,u,m,i,r,j,sa,mk,f,v,l⟩ e n=r28Handle s ⟨7,u,m,i,r,j,sa,mk,f,v,l⟩ e n:=by
 rw [ph7,rh7]
 unfold procHandleK7 r28hReject
 rw [timed_eq]
 simp only [bne]
 have hq:(s.Own==j)= true→(s.Own==(-1:Int))= false:=by intro hq;have:=eq_of_beq hq;rw [this];simp;omega
 revert hq
 cases (s.Ended==(0:Int)) <;> cases (s.Own==j) <;> cases (pChanges s.Own) <;> cases (s.Own==(2:Int)) <;> cases (s.Own==(3:Int)) <;> cases (s.Own==(-1:Int)) <;> intro hq <;> first | rfl | (exact absurd (hq rfl) (by decide))
theorem ph8:procHandle s ⟨8,u,m,i,r,j,sa,mk,f,v,l⟩ e n=procHandleK8 s ⟨8,u,m,i,r,j,sa,mk,f,v,l⟩ e n:=by kernel_rfl
theorem rh8:r28Handle s ⟨8,u,m,i,r,j,sa,mk,f,v,l⟩ e n=cond (s.Ended != (0:Int)) (s,[],[]) (r28hInfo s ⟨8,u,m,i,r,j,sa,mk,f,v,l⟩):= by kernel_rfl
theorem he8 (hr:s.Role=0∨s.Role=1): procHandle s ⟨8,u,m,i,r,j,sa,mk,f,v,l⟩ e n=r28Handle s ⟨8,u,m,i,r,j,sa,mk,f,v,l⟩ e n:=by
 rw [ph8,rh8]
 unfold procHandleK8 r28hInfo
 (try simp only [bne])
 rcases hr with hr | hr <;> (try simp only [hr]) <;> cases (s.Ended==(0:Int)) <;> rfl
theorem ph9:procHandle s ⟨9,u,m,i,r,j,sa,mk,f,v,l⟩ e n=procHandleK9 s ⟨9,u,m,i,r,j,sa,mk,f,v,l⟩ e n:=by kernel_rfl
theorem rh9:r28Handle s ⟨9,u,m,i,r,j,sa,mk,f,v,l⟩ e n=cond (s.Ended != (0:Int)) (s,[],[]) (r28hInfo s ⟨9,u,m,i,r,j,sa,mk,f,v,l⟩):= by kernel_rfl
theorem he9 (hr:s.Role=0∨s.Role=1): procHandle s ⟨9,u,m,i,r,j,sa,mk,f,v,l⟩ e n=r28Handle s ⟨9,u,m,i,r,j,sa,mk,f,v,l⟩ e n:=by
 rw [ph9,rh9]
 unfold procHandleK9 r28hInfo
 (try simp only [bne])
 rcases hr with hr | hr <;> (try simp only [hr]) <;> cases (s.Ended==(0:Int)) <;> cases (s.Own==(8:Int)) <;> rfl
theorem ph12:procHandle s ⟨12,u,m,i,r,j,sa,mk,f,v,l⟩ e n=procHandleK12 s ⟨12,u,m,i,r,j,sa,mk,f,v,l⟩ e n:=by kernel_rfl
theorem rh12:r28Handle s ⟨12,u,m,i,r,j,sa,mk,f,v,l⟩ e n=cond (s.Ended != (0:Int)) (s,[],[]) (r28hInfo s ⟨12,u,m,i,r,j,sa,mk,f,v,l⟩):= by kernel_rfl
theorem he12 (hr:s.Role=0∨s.Role=1): procHandle s ⟨12,u,m,i,r,j,sa,mk,f,v,l⟩ e n=r28Handle s ⟨12,u,m,i,r,j,sa,mk,f,v,l⟩ e n:=by
 rw [ph12,rh12]
 unfold procHandleK12 r28hInfo
 (try simp only [bne])
 rcases hr with hr | hr <;> (try simp only [hr]) <;> cases (s.Ended==(0:Int)) <;> cases (s.Own==(12:Int)) <;> cases (s.VersionTx) <;> rfl
theorem ph13:procHandle s ⟨13,u,m,i,r,j,sa,mk,f,v,l⟩ e n=procHandleK13 s ⟨13,u,m,i,r,j,sa,mk,f,v,l⟩ e n:=by kernel_rfl
theorem rh13:r28Handle s ⟨13,u,m,i,r,j,sa,mk,f,v,l⟩ e n=cond (s.Ended != (0:Int)) (s,[],[]) (r28hReject s ⟨13,u,m,i,r,j,sa,mk,f,v,l⟩):= by kernel_rfl
theorem he13 (hj:0≤j): procHandle s ⟨13,u,m,i,r,j,sa,mk,f,v,l⟩ e n=r28Handle s ⟨13,u,m,i,r,j,sa,mk,f,v,l⟩ e n:=by
 rw [ph13,rh13]
 unfold procHandleK13 r28hReject
 rw [timed_eq]
 simp only [bne]
 have hq:(s.Own==j)= true→(s.Own==(-1:Int))= false:=by intro hq;have:=eq_of_beq hq;rw [this];simp;omega
 revert hq
 cases (s.Ended==(0:Int)) <;> cases (s.Own==j) <;> cases (pChanges s.Own) <;> cases (s.Own==(2:Int)) <;> cases (s.Own==(3:Int)) <;> cases (s.Own==(-1:Int)) <;> intro hq <;> first | rfl | (exact absurd (hq rfl) (by decide))
theorem ph15:procHandle s ⟨15,u,m,i,r,j,sa,mk,f,v,l⟩ e n=procHandleK15 s ⟨15,u,m,i,r,j,sa,mk,f,v,l⟩ e n:=by kernel_rfl
theorem rh15:r28Handle s ⟨15,u,m,i,r,j,sa,mk,f,v,l⟩ e n=cond (s.Ended != (0:Int)) (s,[],[]) (r28hParams s ⟨15,u,m,i,r,j,sa,mk,f,v,l⟩ n):= by kernel_rfl
theorem he15 (hr:s.Role=0∨s.Role=1): procHandle s ⟨15,u,m,i,r,j,sa,mk,f,v,l⟩ e n=r28Handle s ⟨15,u,m,i,r,j,sa,mk,f,v,l⟩ e n:=by
 rw [ph15,rh15]
 unfold procHandleK15 r28hParams
 (try simp only [bne])
 rcases hr with hr | hr <;> (try simp only [hr]) <;> (try rw [timed_eq]) <;> cases (s.Ended==(0:Int)) <;> cases (pChanges s.Own) <;> rfl
theorem ph18:procHandle s ⟨18,u,m,i,r,j,sa,mk,f,v,l⟩ e n=procHandleK18 s ⟨18,u,m,i,r,j,sa,mk,f,v,l⟩ e n:=by kernel_rfl
theorem rh18:r28Handle s ⟨18,u,m,i,r,j,sa,mk,f,v,l⟩ e n=cond (s.Ended != (0:Int)) (s,[],[]) (r28hInfo s ⟨18,u,m,i,r,j,sa,mk,f,v,l⟩):= by kernel_rfl
theorem he18 (hr:s.Role=0∨s.Role=1): procHandle s ⟨18,u,m,i,r,j,sa,mk,f,v,l⟩ e n=r28Handle s ⟨18,u,m,i,r,j,sa,mk,f,v,l⟩ e n:=by
 rw [ph18,rh18]
 unfold procHandleK18 r28hInfo
 (try simp only [bne])
 rcases hr with hr | hr <;> (try simp only [hr]) <;> cases (s.Ended==(0:Int)) <;> rfl
theorem ph19:procHandle s ⟨19,u,m,i,r,j,sa,mk,f,v,l⟩ e n=procHandleK19 s ⟨19,u,m,i,r,j,sa,mk,f,v,l⟩ e n:=by kernel_rfl
theorem rh19:r28Handle s ⟨19,u,m,i,r,j,sa,mk,f,v,l⟩ e n=cond (s.Ended != (0:Int)) (s,[],[]) (r28hInfo s ⟨19,u,m,i,r,j,sa,mk,f,v,l⟩):= by kernel_rfl
theorem he19 (hr:s.Role=0∨s.Role=1): procHandle s ⟨19,u,m,i,r,j,sa,mk,f,v,l⟩ e n=r28Handle s ⟨19,u,m,i,r,j,sa,mk,f,v,l⟩ e n:=by
 rw [ph19,rh19]
 unfold procHandleK19 r28hInfo
 (try simp only [bne])
 rcases hr with hr | hr <;> (try simp only [hr]) <;> cases (s.Ended==(0:Int)) <;> cases (s.Own==(18:Int)) <;> rfl
theorem ph20:procHandle s ⟨20,u,m,i,r,j,sa,mk,f,v,l⟩ e n=procHandleK20 s ⟨20,u,m,i,r,j,sa,mk,f,v,l⟩ e n:=by kernel_rfl
theorem rh20:r28Handle s ⟨20,u,m,i,r,j,sa,mk,f,v,l⟩ e n=cond (s.Ended != (0:Int)) (s,[],[]) (r28hLength s ⟨20,u,m,i,r,j,sa,mk,f,v,l⟩):= by kernel_rfl
theorem he20 (hr:s.Role=0∨s.Role=1): procHandle s ⟨20,u,m,i,r,j,sa,mk,f,v,l⟩ e n=r28Handle s ⟨20,u,m,i,r,j,sa,mk,f,v,l⟩ e n:=by
 rw [ph20,rh20]
 unfold procHandleK20 r28hLength
 (try simp only [bne])
 rcases hr with hr | hr <;> (try simp only [hr]) <;> cases (s.Ended==(0:Int)) <;> rfl
theorem ph21:procHandle s ⟨21,u,m,i,r,j,sa,mk,f,v,l⟩ e n=procHandleK21 s ⟨21,u,m,i,r,j,sa,mk,f,v,l⟩ e n:=by kernel_rfl
theorem rh21:r28Handle s ⟨21,u,m,i,r,j,sa,mk,f,v,l⟩ e n=cond (s.Ended != (0:Int)) (s,[],[]) (r28hLength s ⟨21,u,m,i,r,j,sa,mk,f,v,l⟩):= by kernel_rfl
theorem he21 (hr:s.Role=0∨s.Role=1): procHandle s ⟨21,u,m,i,r,j,sa,mk,f,v,l⟩ e n=r28Handle s ⟨21,u,m,i,r,j,sa,mk,f,v,l⟩ e n:=by
 rw [ph21,rh21]
 unfold procHandleK21 r28hLength
 (try simp only [bne])
 rcases hr with hr | hr <;> (try simp only [hr]) <;> cases (s.Ended==(0:Int)) <;> cases (s.Own==(20:Int)) <;> rfl
end
theorem hUnk (s:Procs) (c:Control) (e n:Int) (h:known c.Kind=false): procHandle s c e n=r28Handle s c e n:=by
 obtain ⟨e0,e1,e2,e3,e4,e5,e6,e7,e8,e9,e12,e13,e15,e18,e19,e20,e21⟩:= known_not h
 have hf:r26Fields c.Kind=⟨false,false,false,false,false,false,false,false,false,false,false⟩:= by
  unfold r26Fields
  simp only [e0,e1,e2,e3,e4,e5,e6,e7,e8,e9,e12,e13,e15,e18,e19,e20,e21,cond_false]
 have hp:procHandle s c e n=procHandleO s c e n:=by
  unfold procHandle
  simp only [e0,e1,e2,e3,e4,e5,e6,e7,e8,e9,e12,e13,e15,e18,e19,e20,e21,cond_false]
 rw [hp]
 unfold procHandleO r28Handle
 rw [hf]
 simp only [e0,e1,e2,e3,e4,e5,e6,e7,e8,e9,e12,e13,e15,e18,e19,e20,e21,cond_false]
 have hm:maxI (0:Int) (minI c.Kind 255)= minI (maxI c.Kind 0) 255:=by simp only [minI_eq,maxI_eq];omega
 (try rw [hm])
 cases (s.Ended != (0:Int)) <;> rfl
theorem handle_eq (s:Procs) (c:Control) (e n:Int) (hr:s.Role=0∨s.Role=1) (he:0≤e∧e < 65536) (hi:0≤c.Instant∧c.Instant < 65536) (hj:c.Kind=7∨c.Kind=13→0≤c.Rejected): procHandle s c e n=r28Handle s c e n:=by
 cases h:known c.Kind
 ·exact hUnk s c e n h
 ·obtain ⟨k,u,m,i,r,j,sa,mk,f,v,l⟩:= c
  dsimp only at h hi hj
  rcases known_cases h with rfl | rfl | rfl | rfl | rfl | rfl | rfl | rfl | rfl | rfl | rfl | rfl | rfl | rfl | rfl | rfl | rfl
  ·exact he0 s e n u m i r j sa mk f v l hr he hi
  ·exact he1 s e n u m i r j sa mk f v l hr he hi
  ·exact he2 s e n u m i r j sa mk f v l hr
  ·exact he3 s e n u m i r j sa mk f v l hr
  ·exact he4 s e n u m i r j sa mk f v l hr
  ·exact he5 s e n u m i r j sa mk f v l hr
  ·exact he6 s e n u m i r j sa mk f v l hr
  ·exact he7 s e n u m i r j sa mk f v l (hj (.inl rfl))
  ·exact he8 s e n u m i r j sa mk f v l hr
  ·exact he9 s e n u m i r j sa mk f v l hr
  ·exact he12 s e n u m i r j sa mk f v l hr
  ·exact he13 s e n u m i r j sa mk f v l (hj (.inr rfl))
  ·exact he15 s e n u m i r j sa mk f v l hr
  ·exact he18 s e n u m i r j sa mk f v l hr
  ·exact he19 s e n u m i r j sa mk f v l hr
  ·exact he20 s e n u m i r j sa mk f v l hr
  ·exact he21 s e n u m i r j sa mk f v l hr
end Go.Aw.W
end
section
/- What the program does is what the document says: requests (own work). -/
set_option linter.unusedVariables false
set_option linter.unusedSimpArgs false
namespace Go.Aw.W
open Go Go.Aw Go.Proofs
theorem waits_go (p:Procs) (hl:p.Waiting.length≤1000): ∀(n:Nat) (i:Int),0≤i→i≤p.Waiting.length→(p.Waiting.length - i).toNat < n→decide ((0:Int)≤idxEnc.go p.Waiting n i)= r28waits.go p 3 n i
 | 0,i,_,_,h=>by omega
 | n+1,i,h0,h1,h2=>by
  unfold idxEnc.go r28waits.go
  cases h3:decide (i < (↑(List.length p.Waiting): Int))
  ·rfl
  ·simp only [decide_eq_true_eq] at h3
   cases ((List.getD p.Waiting (Int.toNat i) Control.zero).Kind==(3:Int))
   ·simp only [cond_true,cond_false]
    rw [wi64 (i+1) (by omega) (by omega)]
    exact waits_go p hl n (i+1) (by omega) (by omega) (by omega)
   ·simp only [cond_true,decide_eq_true_eq];exact h0
theorem waits_eq (p:Procs) (hl:p.Waiting.length≤1000): conEnc p.Waiting=r28waits p 3:=waits_go p hl _ 0 (by omega) (by omega) (by omega)
theorem pos_iff (n:Nat): decide ((0:Int) < (↑n:Int))= !((↑n:Int)== (0:Int)):= by
 rw [Bool.eq_iff_iff];simp only [decide_eq_true_eq,Bool.not_eq_true',beq_eq_false_iff_ne,ne_eq];omega
def rRest (s:Procs) (k:Int) (c:Control) (e n:Int): Procs×List Control×Int:=cond (!r28allowed s k) (s,[],9) (cond (bif k==(12:Int) then s.VersionTx else false) (s,[],0) (cond (k==(2:Int)) ((r28begin {s with Waiting:=[]} c e n).1,[(r28begin {s with Waiting:=[]} c e n).2],0)
 (cond (bif bif decide ((0:Int)≤s.Own) then true else decide ((0:Int) < (↑(List.length s.Waiting): Int)) then true else !r28can s c) (cond (decide ((8:Int)≤(↑(List.length s.Waiting): Int))) (s,[],8) ({s with Waiting:=[]++ s.Waiting ++ [c]},[],0)) ((r28begin s c e n).1,[(r28begin s c e n).2],0))))
section
variable (s:Procs) (e n:Int) (u:Update) (m i r j sa mk f v l:Int)
theorem begN {k:Int} (h0:(k==(0:Int))= false) (h1:(k==(1:Int))= false) (h3:(k==(3:Int))= false) (h12:(k==(12:Int))= false) (h20:(k==(20:Int))= false): r28begin s ⟨k,u,m,i,r,j,sa,mk,f,v,l⟩ e n=({s with Own:=k,Since:=n},⟨k,u,m,i,r,j,sa,mk,f,v,l⟩):= by
 unfold r28begin;dsimp only;rw [h0,h1,h3,h12,h20];rfl
theorem begT (k:Int) (hk:k=0∨k=1) (he:0≤e∧e < 65536): r28begin s ⟨k,u,m,i,r,j,sa,mk,f,v,l⟩ e n=({s with Own:=k,Since:=n,Other:=(bif k==(0:Int) then bif s.Other==(15:Int) then -1 else s.Other else s.Other),Pending:=(insAdd s.Pending e (pChange ⟨k,u,m,insPlan e 0,r,j,sa,mk,f,v,l⟩)).1,Told:=false},⟨k,u,m,insPlan e 0,r,j,sa,mk,f,v,l⟩):= by
 have hp:=plan_eq he
 have ha:r27Add s.Pending e (r28change ⟨k,u,m,insPlan e 0,r,j,sa,mk,f,v,l⟩)= insAdd s.Pending e (pChange ⟨k,u,m,insPlan e 0,r,j,sa,mk,f,v,l⟩):= (iadd_eq _ he (plan_u16 he)).symm
 have hf:=iadd_fst s.Pending e (pChange ⟨k,u,m,insPlan e 0,r,j,sa,mk,f,v,l⟩)
 unfold r28begin
 dsimp only
 rw [←hp,ha]
 revert hf
 generalize insAdd s.Pending e (pChange ⟨k,u,m,insPlan e 0,r,j,sa,mk,f,v,l⟩)= q
 intro hf
 rcases hk with rfl | rfl <;> cases h:(q.2==(0:Int)) <;> cases (s.Other==(15:Int)) <;> first | rfl | (rw [hf h];rfl)
theorem ps0:procStart s ⟨0,u,m,i,r,j,sa,mk,f,v,l⟩ e n=procStartK0 s ⟨0,u,m,i,r,j,sa,mk,f,v,l⟩ e n:=by kernel_rfl
theorem rs0:r28Start s ⟨0,u,m,i,r,j,sa,mk,f,v,l⟩ e n=cond (r26Check ⟨0,u,m,0,r,j,sa,mk,f,v,l⟩ != (0:Int)) (s,[],r26Check ⟨0,u,m,0,r,j,sa,mk,f,v,l⟩) (rRest s 0 ⟨0,u,m,0,r,j,sa,mk,f,v,l⟩ e n):= by kernel_rfl
theorem se0 (hr:s.Role=0∨s.Role=1) (ho : -1≤s.Own) (hw:s.Waiting.length≤1000) (hf:IntKind.has .u64 s.Features) (he:0≤e∧e < 65536) (hc:Control.has ⟨0,u,m,i,r,j,sa,mk,f,v,l⟩): procStart s ⟨0,u,m,i,r,j,sa,mk,f,v,l⟩ e n=r28Start s ⟨0,u,m,i,r,j,sa,mk,f,v,l⟩ e n:=by
 rw [ps0,rs0]
 have hc':Control.has ⟨0,u,m,0,r,j,sa,mk,f,v,l⟩:= ⟨hc.1,hc.2.1,hc.2.2.1,(show IntKind.has .u16 0 from ⟨by decide,by decide⟩),hc.2.2.2.2⟩
 rw [←check_eq _ hc']
 have hO:decide ((0:Int)≤s.Own)= !(s.Own==(-1:Int)):= by rw [Bool.eq_iff_iff];simp;omega
 have hW:decide ((0:Int) < (↑(List.length s.Waiting): Int))= !((↑(List.length s.Waiting): Int)== (0:Int)):= pos_iff _
 have hP:decide ((0:Int) < (↑(List.length s.Pending): Int))= !((↑(List.length s.Pending): Int)== (0:Int)):= pos_iff _
 have hV:=waits_eq s hw
 unfold procStartK0 rRest r28allowed r28can
 cases (cCheck ⟨0,u,m,0,r,j,sa,mk,f,v,l⟩ != (0:Int))
 case true=>rfl
 simp only [cond_false]
 rw [begT s e n u m 0 r j sa mk f v l 0 (by decide) he]
 (try rw [hO]);(try rw [hW]);(try rw [hP])
 simp only [bne,timed_eq]
 have hR:((s.Role==(0:Int))= true∧(s.Role==(1:Int))= false)∨((s.Role==(0:Int))= false∧(s.Role==(1:Int))= true):= by rcases hr with hr | hr <;> rw [hr] <;> decide
 rcases hR with ⟨r0,r1⟩| ⟨r0,r1⟩ <;> (try simp only [r0,r1]) <;> cases (s.Ended==(0:Int)) <;> cases (s.Own==(2:Int)) <;> cases (s.Own==(-1:Int)) <;> cases ((↑(List.length s.Waiting): Int)== (0:Int)) <;> cases ((↑(List.length s.Pending): Int)== (0:Int)) <;> cases (s.Other==(15:Int)) <;> cases (decide ((8:Int)≤(↑(List.length s.Waiting): Int))) <;> rfl
theorem ps1:procStart s ⟨1,u,m,i,r,j,sa,mk,f,v,l⟩ e n=procStartK1 s ⟨1,u,m,i,r,j,sa,mk,f,v,l⟩ e n:=by kernel_rfl
theorem rs1:r28Start s ⟨1,u,m,i,r,j,sa,mk,f,v,l⟩ e n=cond (r26Check ⟨1,u,m,0,r,j,sa,mk,f,v,l⟩ != (0:Int)) (s,[],r26Check ⟨1,u,m,0,r,j,sa,mk,f,v,l⟩) (rRest s 1 ⟨1,u,m,0,r,j,sa,mk,f,v,l⟩ e n):= by kernel_rfl
theorem se1 (hr:s.Role=0∨s.Role=1) (ho : -1≤s.Own) (hw:s.Waiting.length≤1000) (hf:IntKind.has .u64 s.Features) (he:0≤e∧e < 65536) (hc:Control.has ⟨1,u,m,i,r,j,sa,mk,f,v,l⟩): procStart s ⟨1,u,m,i,r,j,sa,mk,f,v,l⟩ e n=r28Start s ⟨1,u,m,i,r,j,sa,mk,f,v,l⟩ e n:=by
 rw [ps1,rs1]
 have hc':Control.has ⟨1,u,m,0,r,j,sa,mk,f,v,l⟩:= ⟨hc.1,hc.2.1,hc.2.2.1,(show IntKind.has .u16 0 from ⟨by decide,by decide⟩),hc.2.2.2.2⟩
 rw [←check_eq _ hc']
 have hO:decide ((0:Int)≤s.Own)= !(s.Own==(-1:Int)):= by rw [Bool.eq_iff_iff];simp;omega
 have hW:decide ((0:Int) < (↑(List.length s.Waiting): Int))= !((↑(List.length s.Waiting): Int)== (0:Int)):= pos_iff _
 have hP:decide ((0:Int) < (↑(List.length s.Pending): Int))= !((↑(List.length s.Pending): Int)== (0:Int)):= pos_iff _
 have hV:=waits_eq s hw
 unfold procStartK1 rRest r28allowed r28can
 cases (cCheck ⟨1,u,m,0,r,j,sa,mk,f,v,l⟩ != (0:Int))
 case true=>rfl
 simp only [cond_false]
 rw [begT s e n u m 0 r j sa mk f v l 1 (by decide) he]
 (try rw [hO]);(try rw [hW]);(try rw [hP])
 simp only [bne,timed_eq]
 have hR:((s.Role==(0:Int))= true∧(s.Role==(1:Int))= false)∨((s.Role==(0:Int))= false∧(s.Role==(1:Int))= true):= by rcases hr with hr | hr <;> rw [hr] <;> decide
 rcases hR with ⟨r0,r1⟩| ⟨r0,r1⟩ <;> (try simp only [r0,r1]) <;> cases (s.Ended==(0:Int)) <;> cases (s.Own==(2:Int)) <;> cases (s.Own==(-1:Int)) <;> cases ((↑(List.length s.Waiting): Int)== (0:Int)) <;> cases ((↑(List.length s.Pending): Int)== (0:Int)) <;> cases (decide ((8:Int)≤(↑(List.length s.Waiting): Int))) <;> rfl
theorem ps2:procStart s ⟨2,u,m,i,r,j,sa,mk,f,v,l⟩ e n=procStartK2 s ⟨2,u,m,i,r,j,sa,mk,f,v,l⟩ e n:=by kernel_rfl
theorem rs2:r28Start s ⟨2,u,m,i,r,j,sa,mk,f,v,l⟩ e n=cond (r26Check ⟨2,u,m,i,r,j,sa,mk,f,v,l⟩ != (0:Int)) (s,[],r26Check ⟨2,u,m,i,r,j,sa,mk,f,v,l⟩) (rRest s 2 ⟨2,u,m,i,r,j,sa,mk,f,v,l⟩ e n):= by kernel_rfl
theorem se2 (hr:s.Role=0∨s.Role=1) (ho : -1≤s.Own) (hw:s.Waiting.length≤1000) (hf:IntKind.has .u64 s.Features) (he:0≤e∧e < 65536) (hc:Control.has ⟨2,u,m,i,r,j,sa,mk,f,v,l⟩): procStart s ⟨2,u,m,i,r,j,sa,mk,f,v,l⟩ e n=r28Start s ⟨2,u,m,i,r,j,sa,mk,f,v,l⟩ e n:=by
 rw [ps2,rs2]
 have hc':Control.has ⟨2,u,m,i,r,j,sa,mk,f,v,l⟩:= hc
 rw [←check_eq _ hc']
 have hO:decide ((0:Int)≤s.Own)= !(s.Own==(-1:Int)):= by rw [Bool.eq_iff_iff];simp;omega
 have hW:decide ((0:Int) < (↑(List.length s.Waiting): Int))= !((↑(List.length s.Waiting): Int)== (0:Int)):= pos_iff _
 have hP:decide ((0:Int) < (↑(List.length s.Pending): Int))= !((↑(List.length s.Pending): Int)== (0:Int)):= pos_iff _
 have hV:=waits_eq s hw
 unfold procStartK2 rRest r28allowed r28can
 cases (cCheck ⟨2,u,m,i,r,j,sa,mk,f,v,l⟩ != (0:Int))
 case true=>rfl
 simp only [cond_false]
 rw [begN {s with Waiting:=[]} e n u m i r j sa mk f v l (k:=2) rfl rfl rfl rfl rfl,begN s e n u m i r j sa mk f v l (k:=2) rfl rfl rfl rfl rfl]
 simp only [bne,timed_eq]
 have hR:((s.Role==(0:Int))= true∧(s.Role==(1:Int))= false)∨((s.Role==(0:Int))= false∧(s.Role==(1:Int))= true):= by rcases hr with hr | hr <;> rw [hr] <;> decide
 rcases hR with ⟨r0,r1⟩| ⟨r0,r1⟩ <;> (try simp only [r0,r1]) <;> cases (s.Ended==(0:Int)) <;> cases (s.Own==(2:Int)) <;> rfl
theorem ps3:procStart s ⟨3,u,m,i,r,j,sa,mk,f,v,l⟩ e n=procStartK3 s ⟨3,u,m,i,r,j,sa,mk,f,v,l⟩ e n:=by kernel_rfl
theorem rs3:r28Start s ⟨3,u,m,i,r,j,sa,mk,f,v,l⟩ e n=cond (r26Check ⟨3,u,m,i,r,j,sa,mk,f,v,l⟩ != (0:Int)) (s,[],r26Check ⟨3,u,m,i,r,j,sa,mk,f,v,l⟩) (rRest s 3 ⟨3,u,m,i,r,j,sa,mk,f,v,l⟩ e n):= by kernel_rfl
theorem se3 (hr:s.Role=0∨s.Role=1) (ho : -1≤s.Own) (hw:s.Waiting.length≤1000) (hf:IntKind.has .u64 s.Features) (he:0≤e∧e < 65536) (hc:Control.has ⟨3,u,m,i,r,j,sa,mk,f,v,l⟩): procStart s ⟨3,u,m,i,r,j,sa,mk,f,v,l⟩ e n=r28Start s ⟨3,u,m,i,r,j,sa,mk,f,v,l⟩ e n:=by
 rw [ps3,rs3]
 have hc':Control.has ⟨3,u,m,i,r,j,sa,mk,f,v,l⟩:= hc
 rw [←check_eq _ hc']
 have hO:decide ((0:Int)≤s.Own)= !(s.Own==(-1:Int)):= by rw [Bool.eq_iff_iff];simp;omega
 have hW:decide ((0:Int) < (↑(List.length s.Waiting): Int))= !((↑(List.length s.Waiting): Int)== (0:Int)):= pos_iff _
 have hP:decide ((0:Int) < (↑(List.length s.Pending): Int))= !((↑(List.length s.Pending): Int)== (0:Int)):= pos_iff _
 have hV:=waits_eq s hw
 unfold procStartK3 rRest r28allowed r28can
 cases (cCheck ⟨3,u,m,i,r,j,sa,mk,f,v,l⟩ != (0:Int))
 case true=>rfl
 simp only [cond_false]
 rw [hV]
 (try rw [hO]);(try rw [hW]);(try rw [hP])
 simp only [bne,timed_eq]
 have hR:((s.Role==(0:Int))= true∧(s.Role==(1:Int))= false)∨((s.Role==(0:Int))= false∧(s.Role==(1:Int))= true):= by rcases hr with hr | hr <;> rw [hr] <;> decide
 rcases hR with ⟨r0,r1⟩| ⟨r0,r1⟩ <;> (try simp only [r0,r1]) <;> cases (s.Ended==(0:Int)) <;> cases (s.Own==(2:Int)) <;> cases (s.Crypt==(0:Int)) <;> cases (r28waits s 3) <;> cases (s.Own==(-1:Int)) <;> cases ((↑(List.length s.Waiting): Int)== (0:Int)) <;> cases (decide ((8:Int)≤(↑(List.length s.Waiting): Int))) <;> rfl
theorem ps8:procStart s ⟨8,u,m,i,r,j,sa,mk,f,v,l⟩ e n=procStartK8 s ⟨8,u,m,i,r,j,sa,mk,f,v,l⟩ e n:=by kernel_rfl
theorem rs8:r28Start s ⟨8,u,m,i,r,j,sa,mk,f,v,l⟩ e n=cond (r26Check ⟨8,u,m,i,r,j,sa,mk,s.Features,v,l⟩ != (0:Int)) (s,[],r26Check ⟨8,u,m,i,r,j,sa,mk,s.Features,v,l⟩) (rRest s 8 ⟨8,u,m,i,r,j,sa,mk,s.Features,v,l⟩ e n):= by kernel_rfl
theorem se8 (hr:s.Role=0∨s.Role=1) (ho : -1≤s.Own) (hw:s.Waiting.length≤1000) (hf:IntKind.has .u64 s.Features) (he:0≤e∧e < 65536) (hc:Control.has ⟨8,u,m,i,r,j,sa,mk,f,v,l⟩): procStart s ⟨8,u,m,i,r,j,sa,mk,f,v,l⟩ e n=r28Start s ⟨8,u,m,i,r,j,sa,mk,f,v,l⟩ e n:=by
 rw [ps8,rs8]
 have hc':Control.has ⟨8,u,m,i,r,j,sa,mk,s.Features,v,l⟩:= ⟨hc.1,hc.2.1,hc.2.2.1,hc.2.2.2.1,hc.2.2.2.2.1,hc.2.2.2.2.2.1,hc.2.2.2.2.2.2.1,hc.2.2.2.2.2.2.2.1,hf,hc.2.2.2.2.2.2.2.2.2⟩
 rw [←check_eq _ hc']
 have hO:decide ((0:Int)≤s.Own)= !(s.Own==(-1:Int)):= by rw [Bool.eq_iff_iff];simp;omega
 have hW:decide ((0:Int) < (↑(List.length s.Waiting): Int))= !((↑(List.length s.Waiting): Int)== (0:Int)):= pos_iff _
 have hP:decide ((0:Int) < (↑(List.length s.Pending): Int))= !((↑(List.length s.Pending): Int)== (0:Int)):= pos_iff _
 have hV:=waits_eq s hw
 unfold procStartK8 rRest r28allowed r28can
 cases (cCheck ⟨8,u,m,i,r,j,sa,mk,s.Features,v,l⟩ != (0:Int))
 case true=>rfl
 simp only [cond_false]
 (try rw [hO]);(try rw [hW]);(try rw [hP])
 simp only [bne,timed_eq]
 have hR:((s.Role==(0:Int))= true∧(s.Role==(1:Int))= false)∨((s.Role==(0:Int))= false∧(s.Role==(1:Int))= true):= by rcases hr with hr | hr <;> rw [hr] <;> decide
 rcases hR with ⟨r0,r1⟩| ⟨r0,r1⟩ <;> (try simp only [r0,r1]) <;> cases (s.Ended==(0:Int)) <;> cases (s.Own==(2:Int)) <;> cases (s.Own==(-1:Int)) <;> cases ((↑(List.length s.Waiting): Int)== (0:Int)) <;> cases (decide ((8:Int)≤(↑(List.length s.Waiting): Int))) <;> rfl
theorem ps12:procStart s ⟨12,u,m,i,r,j,sa,mk,f,v,l⟩ e n=procStartK12 s ⟨12,u,m,i,r,j,sa,mk,f,v,l⟩ e n:=by kernel_rfl
theorem rs12:r28Start s ⟨12,u,m,i,r,j,sa,mk,f,v,l⟩ e n=cond (r26Check ⟨12,u,m,i,r,j,sa,mk,f,11,l⟩ != (0:Int)) (s,[],r26Check ⟨12,u,m,i,r,j,sa,mk,f,11,l⟩) (rRest s 12 ⟨12,u,m,i,r,j,sa,mk,f,11,l⟩ e n):= by kernel_rfl
theorem se12 (hr:s.Role=0∨s.Role=1) (ho : -1≤s.Own) (hw:s.Waiting.length≤1000) (hf:IntKind.has .u64 s.Features) (he:0≤e∧e < 65536) (hc:Control.has ⟨12,u,m,i,r,j,sa,mk,f,v,l⟩): procStart s ⟨12,u,m,i,r,j,sa,mk,f,v,l⟩ e n=r28Start s ⟨12,u,m,i,r,j,sa,mk,f,v,l⟩ e n:=by
 rw [ps12,rs12]
 have hc':Control.has ⟨12,u,m,i,r,j,sa,mk,f,11,l⟩:= ⟨hc.1,hc.2.1,hc.2.2.1,hc.2.2.2.1,hc.2.2.2.2.1,hc.2.2.2.2.2.1,hc.2.2.2.2.2.2.1,hc.2.2.2.2.2.2.2.1,hc.2.2.2.2.2.2.2.2.1,(show IntKind.has .i64 11 from ⟨by decide,by decide⟩),hc.2.2.2.2.2.2.2.2.2.2⟩
 rw [←check_eq _ hc']
 have hO:decide ((0:Int)≤s.Own)= !(s.Own==(-1:Int)):= by rw [Bool.eq_iff_iff];simp;omega
 have hW:decide ((0:Int) < (↑(List.length s.Waiting): Int))= !((↑(List.length s.Waiting): Int)== (0:Int)):= pos_iff _
 have hP:decide ((0:Int) < (↑(List.length s.Pending): Int))= !((↑(List.length s.Pending): Int)== (0:Int)):= pos_iff _
 have hV:=waits_eq s hw
 unfold procStartK12 rRest r28allowed r28can
 cases (cCheck ⟨12,u,m,i,r,j,sa,mk,f,11,l⟩ != (0:Int))
 case true=>rfl
 simp only [cond_false]
 (try rw [hO]);(try rw [hW]);(try rw [hP])
 simp only [bne,timed_eq]
 have hR:((s.Role==(0:Int))= true∧(s.Role==(1:Int))= false)∨((s.Role==(0:Int))= false∧(s.Role==(1:Int))= true):= by rcases hr with hr | hr <;> rw [hr] <;> decide
 rcases hR with ⟨r0,r1⟩| ⟨r0,r1⟩ <;> (try simp only [r0,r1]) <;> cases (s.Ended==(0:Int)) <;> cases (s.Own==(2:Int)) <;> cases (s.VersionTx) <;> cases (s.Own==(-1:Int)) <;> cases ((↑(List.length s.Waiting): Int)== (0:Int)) <;> cases (decide ((8:Int)≤(↑(List.length s.Waiting): Int))) <;> rfl
theorem ps15:procStart s ⟨15,u,m,i,r,j,sa,mk,f,v,l⟩ e n=procStartK15 s ⟨15,u,m,i,r,j,sa,mk,f,v,l⟩ e n:=by kernel_rfl
theorem rs15:r28Start s ⟨15,u,m,i,r,j,sa,mk,f,v,l⟩ e n=cond (r26Check ⟨15,u,m,i,r,j,sa,mk,f,v,l⟩ != (0:Int)) (s,[],r26Check ⟨15,u,m,i,r,j,sa,mk,f,v,l⟩) (rRest s 15 ⟨15,u,m,i,r,j,sa,mk,f,v,l⟩ e n):= by kernel_rfl
theorem se15 (hr:s.Role=0∨s.Role=1) (ho : -1≤s.Own) (hw:s.Waiting.length≤1000) (hf:IntKind.has .u64 s.Features) (he:0≤e∧e < 65536) (hc:Control.has ⟨15,u,m,i,r,j,sa,mk,f,v,l⟩): procStart s ⟨15,u,m,i,r,j,sa,mk,f,v,l⟩ e n=r28Start s ⟨15,u,m,i,r,j,sa,mk,f,v,l⟩ e n:=by
 rw [ps15,rs15]
 have hc':Control.has ⟨15,u,m,i,r,j,sa,mk,f,v,l⟩:= hc
 rw [←check_eq _ hc']
 have hO:decide ((0:Int)≤s.Own)= !(s.Own==(-1:Int)):= by rw [Bool.eq_iff_iff];simp;omega
 have hW:decide ((0:Int) < (↑(List.length s.Waiting): Int))= !((↑(List.length s.Waiting): Int)== (0:Int)):= pos_iff _
 have hP:decide ((0:Int) < (↑(List.length s.Pending): Int))= !((↑(List.length s.Pending): Int)== (0:Int)):= pos_iff _
 have hV:=waits_eq s hw
 unfold procStartK15 rRest r28allowed r28can
 cases (cCheck ⟨15,u,m,i,r,j,sa,mk,f,v,l⟩ != (0:Int))
 case true=>rfl
 simp only [cond_false]
 (try rw [hO]);(try rw [hW]);(try rw [hP])
 simp only [bne,timed_eq]
 have hR:((s.Role==(0:Int))= true∧(s.Role==(1:Int))= false)∨((s.Role==(0:Int))= false∧(s.Role==(1:Int))= true):= by rcases hr with hr | hr <;> rw [hr] <;> decide
 rcases hR with ⟨r0,r1⟩| ⟨r0,r1⟩ <;> (try simp only [r0,r1]) <;> cases (s.Ended==(0:Int)) <;> cases (s.Own==(2:Int)) <;> cases (s.Own==(-1:Int)) <;> cases ((↑(List.length s.Waiting): Int)== (0:Int)) <;> cases (decide ((8:Int)≤(↑(List.length s.Waiting): Int))) <;> rfl
theorem ps18:procStart s ⟨18,u,m,i,r,j,sa,mk,f,v,l⟩ e n=procStartK18 s ⟨18,u,m,i,r,j,sa,mk,f,v,l⟩ e n:=by kernel_rfl
theorem rs18:r28Start s ⟨18,u,m,i,r,j,sa,mk,f,v,l⟩ e n=cond (r26Check ⟨18,u,m,i,r,j,sa,mk,f,v,l⟩ != (0:Int)) (s,[],r26Check ⟨18,u,m,i,r,j,sa,mk,f,v,l⟩) (rRest s 18 ⟨18,u,m,i,r,j,sa,mk,f,v,l⟩ e n):= by kernel_rfl
theorem se18 (hr:s.Role=0∨s.Role=1) (ho : -1≤s.Own) (hw:s.Waiting.length≤1000) (hf:IntKind.has .u64 s.Features) (he:0≤e∧e < 65536) (hc:Control.has ⟨18,u,m,i,r,j,sa,mk,f,v,l⟩): procStart s ⟨18,u,m,i,r,j,sa,mk,f,v,l⟩ e n=r28Start s ⟨18,u,m,i,r,j,sa,mk,f,v,l⟩ e n:=by
 rw [ps18,rs18]
 have hc':Control.has ⟨18,u,m,i,r,j,sa,mk,f,v,l⟩:= hc
 rw [←check_eq _ hc']
 have hO:decide ((0:Int)≤s.Own)= !(s.Own==(-1:Int)):= by rw [Bool.eq_iff_iff];simp;omega
 have hW:decide ((0:Int) < (↑(List.length s.Waiting): Int))= !((↑(List.length s.Waiting): Int)== (0:Int)):= pos_iff _
 have hP:decide ((0:Int) < (↑(List.length s.Pending): Int))= !((↑(List.length s.Pending): Int)== (0:Int)):= pos_iff _
 have hV:=waits_eq s hw
 unfold procStartK18 rRest r28allowed r28can
 cases (cCheck ⟨18,u,m,i,r,j,sa,mk,f,v,l⟩ != (0:Int))
 case true=>rfl
 simp only [cond_false]
 (try rw [hO]);(try rw [hW]);(try rw [hP])
 simp only [bne,timed_eq]
 have hR:((s.Role==(0:Int))= true∧(s.Role==(1:Int))= false)∨((s.Role==(0:Int))= false∧(s.Role==(1:Int))= true):= by rcases hr with hr | hr <;> rw [hr] <;> decide
 rcases hR with ⟨r0,r1⟩| ⟨r0,r1⟩ <;> (try simp only [r0,r1]) <;> cases (s.Ended==(0:Int)) <;> cases (s.Own==(2:Int)) <;> cases (s.Own==(-1:Int)) <;> cases ((↑(List.length s.Waiting): Int)== (0:Int)) <;> cases (decide ((8:Int)≤(↑(List.length s.Waiting): Int))) <;> rfl
theorem ps20:procStart s ⟨20,u,m,i,r,j,sa,mk,f,v,l⟩ e n=procStartK20 s ⟨20,u,m,i,r,j,sa,mk,f,v,l⟩ e n:=by kernel_rfl
theorem rs20:r28Start s ⟨20,u,m,i,r,j,sa,mk,f,v,l⟩ e n=cond (r26Check ⟨20,u,m,i,r,j,sa,mk,f,v,l⟩ != (0:Int)) (s,[],r26Check ⟨20,u,m,i,r,j,sa,mk,f,v,l⟩) (rRest s 20 ⟨20,u,m,i,r,j,sa,mk,f,v,l⟩ e n):= by kernel_rfl
theorem se20 (hr:s.Role=0∨s.Role=1) (ho : -1≤s.Own) (hw:s.Waiting.length≤1000) (hf:IntKind.has .u64 s.Features) (he:0≤e∧e < 65536) (hc:Control.has ⟨20,u,m,i,r,j,sa,mk,f,v,l⟩): procStart s ⟨20,u,m,i,r,j,sa,mk,f,v,l⟩ e n=r28Start s ⟨20,u,m,i,r,j,sa,mk,f,v,l⟩ e n:=by
 rw [ps20,rs20]
 have hc':Control.has ⟨20,u,m,i,r,j,sa,mk,f,v,l⟩:= hc
 rw [←check_eq _ hc']
 have hO:decide ((0:Int)≤s.Own)= !(s.Own==(-1:Int)):= by rw [Bool.eq_iff_iff];simp;omega
 have hW:decide ((0:Int) < (↑(List.length s.Waiting): Int))= !((↑(List.length s.Waiting): Int)== (0:Int)):= pos_iff _
 have hP:decide ((0:Int) < (↑(List.length s.Pending): Int))= !((↑(List.length s.Pending): Int)== (0:Int)):= pos_iff _
 have hV:=waits_eq s hw
 unfold procStartK20 rRest r28allowed r28can
 cases (cCheck ⟨20,u,m,i,r,j,sa,mk,f,v,l⟩ != (0:Int))
 case true=>rfl
 simp only [cond_false]
 (try rw [hO]);(try rw [hW]);(try rw [hP])
 simp only [bne,timed_eq]
 have hR:((s.Role==(0:Int))= true∧(s.Role==(1:Int))= false)∨((s.Role==(0:Int))= false∧(s.Role==(1:Int))= true):= by rcases hr with hr | hr <;> rw [hr] <;> decide
 rcases hR with ⟨r0,r1⟩| ⟨r0,r1⟩ <;> (try simp only [r0,r1]) <;> cases (s.Ended==(0:Int)) <;> cases (s.Own==(2:Int)) <;> cases (s.Own==(-1:Int)) <;> cases ((↑(List.length s.Waiting): Int)== (0:Int)) <;> cases (decide ((8:Int)≤(↑(List.length s.Waiting): Int))) <;> rfl
end
end Go.Aw.W
end
section
/- What the program does is what the document says: requests that wait, changes that are due (own work). -/
set_option linter.unusedVariables false
set_option linter.unusedSimpArgs false
namespace Go.Aw.W
open Go Go.Aw Go.Proofs
def rqK (k:Int): Prop:=k=0∨k=1∨k=3∨k=8∨k=12∨k=15∨k=18∨k=20
theorem pready_stop (p0:Procs) (ev now:Int) (n0:Nat) (hn:0 < n0) (a:Procs) (out:List Control) (h:0≤a.Own): procReady.go p0 ev now n0 a out=(a,out):= by
 cases n0 with
 | zero=>omega
 | succ n0 =>
 unfold procReady.go
 have h1:(a.Own==(-1:Int))= false:=by simp;omega
 rw [h1]
 cases (a.Ended==(0:Int)) <;> rfl
theorem rready_stop (p0:Procs) (ev now:Int) (n0:Nat) (hn:0 < n0) (a:Procs) (out:List Control) (h:0≤a.Own): r28Ready.go p0 ev now n0 a out=(a,out):= by
 cases n0 with
 | zero=>omega
 | succ n0 =>
 unfold r28Ready.go
 have h1:decide (a.Own < (0:Int))= false:=by simp;omega
 rw [h1]
 cases (a.Ended==(0:Int)) <;> rfl
theorem ready_go_eq (p:Procs) (e n:Int) (he:0≤e∧e < 65536): ∀(n0:Nat) (a:Procs) (out:List Control),a.Waiting.length < n0→(∀c∈a.Waiting,rqK c.Kind)→ -1≤a.Own→procReady.go p e n n0 a out=r28Ready.go p e n n0 a out
 | 0,a,out,hl,_,_=>by omega
 | n0+1,a,out,hl,hk,ho=>by
  have hO:decide (a.Own < (0:Int))= (a.Own==(-1:Int)):= by rw [Bool.eq_iff_iff];simp;omega
  unfold procReady.go r28Ready.go
  rw [hO]
  cases hc:(bif bif a.Ended==(0:Int) then a.Own==(-1:Int) else false then decide ((0:Int) < (↑(List.length a.Waiting): Int)) else false)
  ·rfl
  obtain ⟨ro,ow,si,wa,ot,ott,pe,to,fe,co,kn,vt,ve,le,li,sa,pp,ma,cr,en⟩:= a
  cases wa with
  | nil=>simp at hc
  | cons c W =>
  clear hc hO
  have hg:List.getD (c::W) (Int.toNat (0:Int)) Control.zero=c:=rfl
  have hd:List.drop (Int.toNat (1:Int)) (List.take (Int.toNat (↑(List.length (c::W)): Int)) (c::W))= W:=by
   rw [Int.toNat_natCast,List.take_length];rfl
  dsimp only at *
  have hw0:w0 ⟨ro,ow,si,c::W,ot,ott,pe,to,fe,co,kn,vt,ve,le,li,sa,pp,ma,cr,en⟩= c:=rfl
  rw [hw0,hg,hd]
  have hw:=hk c (List.mem_cons_self ..)
  have hn:0 < n0:=by simp only [List.length_cons] at hl;omega
  have hcan:r28can ⟨ro,ow,si,c::W,ot,ott,pe,to,fe,co,kn,vt,ve,le,li,sa,pp,ma,cr,en⟩ c = !(bif pChanges c.Kind then decide ((0:Int) < (↑(List.length pe): Int)) else false):= by
   unfold r28can;rw [timed_eq,pos_iff];cases (pChanges c.Kind) <;> simp
  rw [hcan]
  cases hp:(bif pChanges c.Kind then decide ((0:Int) < (↑(List.length pe): Int)) else false)
  case true=>rfl
  simp only [Bool.not_false,cond_true,cond_false,List.nil_append]
  cases hs:(bif bif c.Kind==(12:Int) then vt else false then true else bif c.Kind==(3:Int) then cr != (0:Int) else false)
  case true =>
   rw [cond_true,cond_true]
   refine ready_go_eq p e n he n0 _ out ?_ ?_ ho
   ·simp only [List.length_cons] at hl;show W.length < n0;omega
   ·intro x hx;exact hk x (List.mem_cons_of_mem _ hx)
  rw [cond_false,cond_false]
  clear hs hp hcan hg hd
  have fin : ∀(x y:Procs) (l m:List Control),0≤x.Own→x=y→l=m→procReady.go p e n n0 x l=r28Ready.go p e n n0 y m:=by
   intro x y l m h1 h2 h3
   subst h2 h3
   rw [pready_stop p e n n0 hn x l h1,rready_stop p e n n0 hn x l h1]
  obtain ⟨k,u,m,i,r,j,s4,mk,f,v,l⟩:= c
  dsimp only at *
  rcases hw with rfl | rfl | rfl | rfl | rfl | rfl | rfl | rfl
  ·rw [begT ⟨ro,ow,si,W,ot,ott,pe,to,fe,co,kn,vt,ve,le,li,sa,pp,ma,cr,en⟩ e n u m i r j s4 mk f v l 0 (by decide) he]
   cases (ot==(15:Int)) <;> exact fin _ _ _ _ (by dsimp only;decide) rfl rfl
  ·rw [begT ⟨ro,ow,si,W,ot,ott,pe,to,fe,co,kn,vt,ve,le,li,sa,pp,ma,cr,en⟩ e n u m i r j s4 mk f v l 1 (by decide) he]
   exact fin _ _ _ _ (by dsimp only;decide) rfl rfl
  all_goals exact fin _ _ _ _ (by dsimp only;decide) rfl rfl
theorem ready_eq (s:Procs) (e n:Int) (he:0≤e∧e < 65536) (hk : ∀c∈s.Waiting,rqK c.Kind) (ho : -1≤s.Own): procReady s e n=r28Ready s e n:=ready_go_eq s e n he _ _ _ (Nat.lt_succ_self _) hk ho
theorem due_eq (s:Procs) (e:Int) (hr:s.Role=0∨s.Role=1) (hp:s.Pending.length≤1) (he:0≤e∧e < 65536) (hi : ∀c∈s.Pending,0≤c.Instant∧c.Instant < 65536): procDue s e=r28Due s e:=by
 have h:=idue_eq s.Pending hp he hi
 have hl:=(insDue_le s.Pending e hp).2
 have hR:((s.Role==(0:Int))= true∧(s.Role==(1:Int))= false)∨((s.Role==(0:Int))= false∧(s.Role==(1:Int))= true):= by rcases hr with hr | hr <;> rw [hr] <;> decide
 unfold procDue r28Due
 rw [←h]
 revert hl
 generalize insDue s.Pending e=q
 obtain ⟨rest,due⟩:= q
 intro hl
 simp only [bne]
 match due,hl with
 | [],_ =>
  rcases hR with ⟨r0,r1⟩| ⟨r0,r1⟩ <;> simp only [r0,r1] <;> cases s.Told <;> cases (s.Ended==(0:Int)) <;> exact (show (_:Procs×List Change)= _ by kernel_rfl)
 | [c],_ =>
  have hg:(List.getD [c] (Int.toNat (0:Int)) Change.zero)= c:=rfl
  rcases hR with ⟨r0,r1⟩| ⟨r0,r1⟩ <;> simp only [r0,r1,hg] <;> cases s.Told <;> cases (s.Ended==(0:Int)) <;> cases (s.Own==c.Kind) <;> cases (s.Other==c.Kind) <;> exact (show (_:Procs×List Change)= _ by kernel_rfl)
end Go.Aw.W
end
section
/- What every call keeps, and that both answer alike (own work). -/
set_option linter.unusedVariables false
set_option linter.unusedSimpArgs false
set_option maxHeartbeats 1000000
namespace Go.Aw.W
open Go Go.Aw Go.Proofs
theorem sameControls_refl (a:List Control) (h:a.length≤1000): sameControls a a=true:=by
 have go : ∀(n:Nat) (i:Int),0≤i→i≤a.length→(a.length - i).toNat < n→sameControls.go a a n i=true:=by
  intro n
  induction n with
  | zero=>intro i _ _ h;omega
  | succ n ih =>
   intro i h0 h1 h2
   unfold sameControls.go
   simp only [beq_self_eq_true,Bool.and_self,Bool.not_true,cond_false]
   cases h3:decide (i < (↑(List.length a): Int))
   ·rfl
   ·simp only [decide_eq_true_eq] at h3
    rw [cond_true,wi64 (i+1) (by omega) (by omega)]
    exact ih (i+1) (by omega) (by omega) (by omega)
 unfold sameControls
 rw [bne_self_eq_false,cond_false]
 exact go _ 0 (by omega) (by omega) (by omega)
theorem sameChanges_refl (a:List Change) (h:a.length≤1000): sameChanges a a=true:=by
 have go : ∀(n:Nat) (i:Int),0≤i→i≤a.length→(a.length - i).toNat < n→sameChanges.go a a n i=true:=by
  intro n
  induction n with
  | zero=>intro i _ _ h;omega
  | succ n ih =>
   intro i h0 h1 h2
   unfold sameChanges.go
   simp only [beq_self_eq_true,Bool.and_self,Bool.not_true,cond_false]
   cases h3:decide (i < (↑(List.length a): Int))
   ·rfl
   ·simp only [decide_eq_true_eq] at h3
    rw [cond_true,wi64 (i+1) (by omega) (by omega)]
    exact ih (i+1) (by omega) (by omega) (by omega)
 unfold sameChanges
 rw [bne_self_eq_false,cond_false]
 exact go _ 0 (by omega) (by omega) (by omega)
theorem sameInds_refl (a:List Indication) (h:a.length≤1000): sameInds a a=true:=by
 have go : ∀(n:Nat) (i:Int),0≤i→i≤a.length→(a.length - i).toNat < n→sameInds.go a a n i=true:=by
  intro n
  induction n with
  | zero=>intro i _ _ h;omega
  | succ n ih =>
   intro i h0 h1 h2
   unfold sameInds.go
   simp only [beq_self_eq_true,bne_self_eq_false,Bool.and_self,Bool.not_true,cond_false]
   cases h3:decide (i < (↑(List.length a): Int))
   ·rfl
   ·simp only [decide_eq_true_eq] at h3
    rw [cond_true,wi64 (i+1) (by omega) (by omega)]
    exact ih (i+1) (by omega) (by omega) (by omega)
 unfold sameInds
 rw [bne_self_eq_false,cond_false]
 exact go _ 0 (by omega) (by omega) (by omega)
theorem sameProcs_refl (a:Procs) (h1:a.Waiting.length≤1000) (h2:a.Pending.length≤1000): sameProcs a a=true:=by
 unfold sameProcs
 simp only [bne_self_eq_false,beq_self_eq_true,Bool.not_true,cond_false,sameControls_refl _ h1,sameChanges_refl _ h2,cond_true]
structure SOk (s:Procs): Prop where
 role:s.Role=0∨s.Role=1
 own : -1≤s.Own
 oth : -1≤s.Other
 wl:s.Waiting.length≤8
 wk : ∀c∈s.Waiting,rqK c.Kind
 pl:s.Pending.length≤1
 pi : ∀c∈s.Pending,0≤c.Instant∧c.Instant < 65536
 fe:IntKind.has .u64 s.Features
theorem start_eq (s:Procs) (c:Control) (e n:Int) (hs:SOk s) (he:0≤e∧e < 65536) (hc:Control.has c): procStart s c e n=r28Start s c e n:=by
 have hw:s.Waiting.length≤1000:=Nat.le_trans hs.wl (by decide)
 by_cases h:c.Kind=0∨c.Kind=1∨c.Kind=2∨c.Kind=3∨c.Kind=8∨c.Kind=12∨c.Kind=15∨c.Kind=18∨c.Kind=20
 ·obtain ⟨k,u,m,i,r,j,sa,mk,f,v,l⟩:= c
  dsimp only at h
  rcases h with rfl | rfl | rfl | rfl | rfl | rfl | rfl | rfl | rfl
  ·exact se0 s e n u m i r j sa mk f v l hs.role hs.own hw hs.fe he hc
  ·exact se1 s e n u m i r j sa mk f v l hs.role hs.own hw hs.fe he hc
  ·exact se2 s e n u m i r j sa mk f v l hs.role hs.own hw hs.fe he hc
  ·exact se3 s e n u m i r j sa mk f v l hs.role hs.own hw hs.fe he hc
  ·exact se8 s e n u m i r j sa mk f v l hs.role hs.own hw hs.fe he hc
  ·exact se12 s e n u m i r j sa mk f v l hs.role hs.own hw hs.fe he hc
  ·exact se15 s e n u m i r j sa mk f v l hs.role hs.own hw hs.fe he hc
  ·exact se18 s e n u m i r j sa mk f v l hs.role hs.own hw hs.fe he hc
  ·exact se20 s e n u m i r j sa mk f v l hs.role hs.own hw hs.fe he hc
 ·have b : ∀q:Int,c.Kind≠q→(c.Kind==q)= false:=fun q h=>by simpa using h
  have e0:=b 0 (by omega);have e1:=b 1 (by omega);have e2:=b 2 (by omega);have e3:=b 3 (by omega);have e8:=b 8 (by omega)
  have e12:=b 12 (by omega);have e15:=b 15 (by omega);have e18:=b 18 (by omega);have e20:=b 20 (by omega)
  by_cases h1:c.Kind = -1
  ·obtain ⟨k,u,m,i,r,j,sa,mk,f,v,l⟩:= c
   dsimp only at h1
   subst h1
   have hp:procStart s ⟨-1,u,m,i,r,j,sa,mk,f,v,l⟩ e n=(s,[],cCheck ⟨-1,u,m,i,r,j,sa,mk,f,v,l⟩):= by kernel_rfl
   have hr:r28Start s ⟨-1,u,m,i,r,j,sa,mk,f,v,l⟩ e n=(s,[],12):= by kernel_rfl
   rw [hp,hr,cCheck_unknown _ rfl]
  ·have eM:=b (-1) h1
   have hp:procStart s c e n=procStartO s c e n:=by
    unfold procStart
    simp only [eM,e0,e1,e2,e3,e8,e12,e15,e18,e20,cond_false]
   have hne:=cProc_ne c.Kind eM e0 e1 e2 e3 e8 e12 e15 e18 e20
   have hq:r28isRequest c.Kind=false:=by
    unfold r28isRequest
    rw [←(proc_eq c.Kind).1]
    have:(cProc c.Kind==c.Kind)= false:=by simpa using hne
    rw [this]
    cases (r26Fields c.Kind).Known <;> rfl
   rw [hp]
   unfold procStartO r28Start
   rw [hne,hq]
   rfl
theorem iadd_ok {l:List Change} (e:Int) (c:Change) (h:l.length≤1) (hi : ∀x∈l,0≤x.Instant∧x.Instant < 65536) (hc:0≤c.Instant∧c.Instant < 65536): (insAdd l e c).1.length≤1∧∀x∈(insAdd l e c).1,0≤x.Instant∧x.Instant < 65536:=by
 unfold insAdd
 cases (insCheck e c != (0:Int))
 ·cases (decide ((0:Int) < (↑(List.length l): Int)))
  ·refine ⟨Nat.le_refl _,fun x hx=>?_⟩
   simp only [cond_false,List.mem_singleton] at hx
   subst hx;exact hc
  ·exact ⟨h,hi⟩
 ·exact ⟨h,hi⟩
theorem begin_sok {s:Procs} {c:Control} {e:Int} (n:Int) (hs:SOk s) (hk:rqK c.Kind∨c.Kind=2) (he:0≤e∧e < 65536): SOk (r28begin s c e n).1:=by
 obtain ⟨k,u,m,i,r,j,sa,mk,f,v,l⟩:= c
 have hO : ∀k:Int, -1≤(bif k==(0:Int) then bif s.Other==(15:Int) then -1 else s.Other else s.Other):= by
  intro k
  cases (k==(0:Int)) <;> cases (s.Other==(15:Int)) <;> first | exact hs.oth | exact Int.le_refl _
 have ha:=fun k=>iadd_ok e (pChange ⟨k,u,m,insPlan e 0,r,j,sa,mk,f,v,l⟩) hs.pl hs.pi (plan_u16 he)
 have hk:rqK k∨k=2:=hk
 rcases hk with (rfl | rfl | rfl | rfl | rfl | rfl | rfl | rfl)| rfl
 ·rw [begT s e n u m i r j sa mk f v l 0 (by decide) he]
  exact ⟨hs.role,by dsimp only;decide,hO 0,hs.wl,hs.wk,(ha 0).1,(ha 0).2,hs.fe⟩
 ·rw [begT s e n u m i r j sa mk f v l 1 (by decide) he]
  exact ⟨hs.role,by dsimp only;decide,hO 1,hs.wl,hs.wk,(ha 1).1,(ha 1).2,hs.fe⟩
 all_goals exact ⟨hs.role,show (-1:Int)≤_ from by first | (show (-1:Int)≤3;decide)| (show (-1:Int)≤8;decide)| (show (-1:Int)≤12;decide)| (show (-1:Int)≤15;decide)| (show (-1:Int)≤18;decide)| (show (-1:Int)≤20;decide)| (show (-1:Int)≤2;decide),hs.oth,hs.wl,hs.wk,hs.pl,hs.pi,hs.fe⟩
theorem begin_wait (s:Procs) (c:Control) (e n:Int): (r28begin s c e n).1.Waiting=s.Waiting:=by
 unfold r28begin
 simp only [Bool.cond_eq_ite]
 repeat' split
 all_goals rfl
theorem filled_kind (s:Procs) (c:Control): (r28filled s c).Kind=c.Kind:=by
 unfold r28filled
 simp only [Bool.cond_eq_ite]
 repeat' split
 all_goals rfl
theorem known_of {c:Control} (h:r28isRequest c.Kind=true): rqK c.Kind∨c.Kind=2:=by
 by_cases h1:c.Kind = -1
 ·rw [h1] at h;cases h
 ·unfold r28isRequest at h
  rw [←(proc_eq c.Kind).1] at h
  by_cases h2:c.Kind=0∨c.Kind=1∨c.Kind=2∨c.Kind=3∨c.Kind=8∨c.Kind=12∨c.Kind=15∨c.Kind=18∨c.Kind=20
  ·unfold rqK;omega
  ·have b : ∀q:Int,c.Kind≠q→(c.Kind==q)= false:=fun q h=>by simpa using h
   have hne:=cProc_ne c.Kind (b (-1) h1) (b 0 (by omega)) (b 1 (by omega)) (b 2 (by omega)) (b 3 (by omega)) (b 8 (by omega)) (b 12 (by omega)) (b 15 (by omega)) (b 18 (by omega)) (b 20 (by omega))
   have:(cProc c.Kind==c.Kind)= false:=by simpa using hne
   rw [this] at h
   revert h
   cases (r26Fields c.Kind).Known <;> intro h <;> cases h
theorem start_sok {s:Procs} (c:Control) {e:Int} (n:Int) (hs:SOk s) (he:0≤e∧e < 65536): SOk (r28Start s c e n).1∧(r28Start s c e n).2.1.length≤1:=by
 have hs0:SOk {s with Waiting:=[]}:= ⟨hs.role,hs.own,hs.oth,Nat.zero_le _,fun c h=>(by cases h),hs.pl,hs.pi,hs.fe⟩
 unfold r28Start
 cases hq:r28isRequest c.Kind
 ·exact ⟨hs,Nat.zero_le _⟩
 have hk:=known_of hq
 rw [←filled_kind s c] at hk
 generalize hcf:r28filled s c=d at hk
 simp only [Bool.not_true,cond_false]
 cases (r26Check d != (0:Int))
 case true=>exact ⟨hs,Nat.zero_le _⟩
 cases (!r28allowed s d.Kind)
 case true=>exact ⟨hs,Nat.zero_le _⟩
 cases (bif d.Kind==(12:Int) then s.VersionTx else false)
 case true=>exact ⟨hs,Nat.zero_le _⟩
 cases h2:(d.Kind==(2:Int))
 case true=>exact ⟨begin_sok n hs0 hk he,Nat.le_refl _⟩
 cases (bif bif decide ((0:Int)≤s.Own) then true else decide ((0:Int) < (↑(List.length s.Waiting): Int)) then true else !r28can s d)
 case false=>exact ⟨begin_sok n hs hk he,Nat.le_refl _⟩
 cases h8:decide ((8:Int)≤(↑(List.length s.Waiting): Int))
 case true=>exact ⟨hs,Nat.zero_le _⟩
 simp only [decide_eq_false_iff_not] at h8
 have hk2:rqK d.Kind:=hk.resolve_right (by simpa using h2)
 refine ⟨⟨hs.role,hs.own,hs.oth, ?_, ?_,hs.pl,hs.pi,hs.fe⟩,Nat.zero_le _⟩
 ·show ([]++ s.Waiting ++ [d]).length≤8
  simp only [List.length_append,List.length_cons,List.length_nil];omega
 ·intro x hx
  have hx:x∈[]++ s.Waiting ++ [d]:= hx
  simp only [List.nil_append,List.mem_append,List.mem_singleton] at hx
  rcases hx with hx | rfl
  ·exact hs.wk x hx
  ·exact hk2
theorem ready_sok_go (p:Procs) {e:Int} (n:Int) (he:0≤e∧e < 65536): ∀(n0:Nat) (a:Procs) (out:List Control),a.Waiting.length < n0→SOk a→SOk (r28Ready.go p e n n0 a out).1∧(r28Ready.go p e n n0 a out).2.length≤out.length+a.Waiting.length
 | 0,a,out,hl,_=>by omega
 | n0+1,a,out,hl,hs=>by
  unfold r28Ready.go
  cases hc:(bif bif bif a.Ended==(0:Int) then decide (a.Own < (0:Int)) else false then decide ((0:Int) < (↑(List.length a.Waiting): Int)) else false then r28can a (List.getD a.Waiting (Int.toNat (0:Int)) Control.zero) else false)
  ·exact ⟨hs,Nat.le_add_right _ _⟩
  obtain ⟨ro,ow,si,wa,ot,ott,pe,to,fe,co,kn,vt,ve,le,li,sa,pp,ma,cr,en⟩:= a
  cases wa with
  | nil =>
   simp at hc
  | cons c W =>
  clear hc
  have hg:List.getD (c::W) (Int.toNat (0:Int)) Control.zero=c:=rfl
  have hd:List.drop (Int.toNat (1:Int)) (List.take (Int.toNat (↑(List.length (c::W)): Int)) (c::W))= W:=by
   rw [Int.toNat_natCast,List.take_length];rfl
  dsimp only at *
  rw [hg,hd]
  have hW:W.length < n0:=by simp only [List.length_cons] at hl;omega
  have hs':SOk ⟨ro,ow,si,W,ot,ott,pe,to,fe,co,kn,vt,ve,le,li,sa,pp,ma,cr,en⟩:= ⟨hs.role,hs.own,hs.oth,Nat.le_trans (Nat.le_succ _) hs.wl,fun x hx=>hs.wk x (List.mem_cons_of_mem _ hx),hs.pl,hs.pi,hs.fe⟩
  simp only [List.nil_append,cond_true]
  cases (bif bif c.Kind==(12:Int) then vt else false then true else bif c.Kind==(3:Int) then cr != (0:Int) else false)
  case true =>
   have:=ready_sok_go p n he n0 _ out hW hs'
   refine ⟨this.1,Nat.le_trans this.2 ?_⟩
   simp only [List.length_cons];omega
  have hb:=begin_sok n hs' (.inl (hs.wk c (List.mem_cons_self ..))) he
  have hbw:=begin_wait ⟨ro,ow,si,W,ot,ott,pe,to,fe,co,kn,vt,ve,le,li,sa,pp,ma,cr,en⟩ c e n
  have:=ready_sok_go p n he n0 _ (out ++ [(r28begin ⟨ro,ow,si,W,ot,ott,pe,to,fe,co,kn,vt,ve,le,li,sa,pp,ma,cr,en⟩ c e n).2]) (by rw [hbw];exact hW) hb
  refine ⟨this.1,Nat.le_trans this.2 ?_⟩
  rw [hbw]
  simp only [List.length_append,List.length_cons,List.length_nil];omega
theorem ready_sok {s:Procs} {e:Int} (n:Int) (hs:SOk s) (he:0≤e∧e < 65536): SOk (r28Ready s e n).1∧(r28Ready s e n).2.length≤8:=by
 have:=ready_sok_go s n he (s.Waiting.length+1) s [] (Nat.lt_succ_self _) hs
 refine ⟨this.1,Nat.le_trans this.2 ?_⟩
 have:=hs.wl
 simp only [List.length_nil];omega
end Go.Aw.W
end
section
/- One call of each side: both answer alike, and the states stay equal (own work). -/
set_option linter.unusedVariables false
set_option linter.unusedSimpArgs false
set_option maxHeartbeats 1000000
namespace Go.Aw.W
open Go Go.Aw Go.Proofs
def RK (x:Procs×List Control×List Indication): Prop:=SOk x.1∧x.2.1.length≤1∧x.2.2.length≤1
theorem RK.same {s:Procs} (h:SOk s): RK (s,[],[]):= ⟨h,Nat.zero_le _,Nat.zero_le _⟩
theorem RK.mk {s t:Procs} {l:List Control} {q:List Indication} (h:SOk s) (hr:t.Role=s.Role) (ho:t.Own=s.Own∨ -1≤t.Own) (hot:t.Other=s.Other∨ -1≤t.Other) (hw:t.Waiting=s.Waiting) (hp:t.Pending=s.Pending) (hf:t.Features=s.Features) (hl:l.length≤1) (hq:q.length≤1): RK (t,l,q):= by
 refine ⟨⟨?_, ?_, ?_, ?_, ?_, ?_, ?_, ?_⟩,hl,hq⟩
 ·rw [hr];exact h.role
 ·rcases ho with e | e
  ·rw [e];exact h.own
  ·exact e
 ·rcases hot with e | e
  ·rw [e];exact h.oth
  ·exact e
 ·rw [hw];exact h.wl
 ·rw [hw];exact h.wk
 ·rw [hp];exact h.pl
 ·rw [hp];exact h.pi
 ·rw [hf];exact h.fe
theorem one_len (c:Control): (r28one c).length≤1:=Nat.le_refl _
theorem tell_len (k n:Int): (r28tell k n).length≤1:=Nat.le_refl _
theorem crypt_rk {s:Procs} (c:Control) (n:Int) (hs:SOk s): RK (r28hCrypt s c n):= by
 unfold r28hCrypt
 simp only [Bool.cond_eq_ite]
 repeat' split
 all_goals exact RK.mk hs rfl (by first | exact .inl rfl | exact .inr (by dsimp only;decide)) (by first | exact .inl rfl | exact .inr (by dsimp only;decide)) rfl rfl rfl (by first | exact one_len _ | exact Nat.zero_le _) (by first | exact tell_len _ _ | exact Nat.zero_le _)
theorem reject_rk {s:Procs} (c:Control) (hs:SOk s): RK (r28hReject s c):= by
 unfold r28hReject
 simp only [Bool.cond_eq_ite]
 repeat' split
 all_goals exact RK.mk hs rfl (by first | exact .inl rfl | exact .inr (by dsimp only;decide)) (by first | exact .inl rfl | exact .inr (by dsimp only;decide)) rfl rfl rfl (by first | exact one_len _ | exact Nat.zero_le _) (by first | exact tell_len _ _ | exact Nat.zero_le _)
theorem params_rk {s:Procs} (c:Control) (n:Int) (hs:SOk s): RK (r28hParams s c n):= by
 unfold r28hParams
 simp only [Bool.cond_eq_ite]
 repeat' split
 all_goals exact RK.mk hs rfl (by first | exact .inl rfl | exact .inr (by dsimp only;decide)) (by first | exact .inl rfl | exact .inr (by dsimp only;decide)) rfl rfl rfl (by first | exact one_len _ | exact Nat.zero_le _) (by first | exact Nat.le_refl _ | exact Nat.zero_le _)
theorem length_rk {s:Procs} (c:Control) (hs:SOk s): RK (r28hLength s c):= by
 unfold r28hLength
 simp only [Bool.cond_eq_ite]
 repeat' split
 all_goals exact RK.mk hs rfl (by first | exact .inl rfl | exact .inr (by dsimp only;decide)) (by first | exact .inl rfl | exact .inr (by dsimp only;decide)) rfl rfl rfl (by first | exact one_len _ | exact Nat.zero_le _) (by first | exact tell_len _ _ | exact Nat.zero_le _)
theorem info_rk {s:Procs} (c:Control) (hs:SOk s): RK (r28hInfo s c):= by
 unfold r28hInfo
 simp only [Bool.cond_eq_ite]
 repeat' split
 all_goals exact RK.mk hs rfl (by first | exact .inl rfl | exact .inr (by dsimp only;decide)) (by first | exact .inl rfl | exact .inr (by dsimp only;decide)) rfl rfl rfl (by first | exact one_len _ | exact Nat.zero_le _) (by first | exact tell_len _ _ | exact Nat.zero_le _)
theorem change_rk {s:Procs} {c:Control} {e:Int} (n:Int) (hs:SOk s) (he:0≤e∧e < 65536) (hi:0≤c.Instant∧c.Instant < 65536) (hk : -1≤c.Kind): RK (r28hChange s c e n,[],[]):= by
 have ha:=iadd_ok e (r28change c) hs.pl hs.pi hi
 rw [iadd_eq s.Pending he (show 0≤(r28change c).Instant∧(r28change c).Instant < 65536 from hi)] at ha
 unfold r28hChange
 revert ha
 generalize r27Add s.Pending e (r28change c)= q
 intro ha
 simp only [Bool.cond_eq_ite]
 repeat' split
 all_goals first
  | exact RK.same hs
  | exact RK.mk hs rfl (.inl rfl) (.inl rfl) rfl rfl rfl (Nat.zero_le _) (Nat.zero_le _)
  | exact ⟨⟨hs.role,(by dsimp only;decide),hk,hs.wl,hs.wk,ha.1,ha.2,hs.fe⟩,Nat.zero_le _,Nat.zero_le _⟩
  | exact ⟨⟨hs.role,hs.own,hk,hs.wl,hs.wk,ha.1,ha.2,hs.fe⟩,Nat.zero_le _,Nat.zero_le _⟩
theorem handle_rk {s:Procs} {c:Control} {e:Int} (n:Int) (hs:SOk s) (he:0≤e∧e < 65536) (hi:0≤c.Instant∧c.Instant < 65536): RK (r28Handle s c e n):= by
 unfold r28Handle
 cases (s.Ended != (0:Int))
 case true=>exact RK.same hs
 cases (!(r26Fields c.Kind).Known)
 case true=>exact RK.mk hs rfl (.inl rfl) (.inl rfl) rfl rfl rfl (one_len _) (Nat.zero_le _)
 simp only [cond_false]
 cases h0:(c.Kind==(0:Int))
 case true=>exact change_rk n hs he hi (by rw [eq_of_beq h0];decide)
 cases h1:(c.Kind==(1:Int))
 case true=>exact change_rk n hs he hi (by rw [eq_of_beq h1];decide)
 simp only [cond_false]
 cases (c.Kind==(2:Int))
 case true =>
  cases (c.Reason==(0:Int)) <;> exact RK.mk hs rfl (.inl rfl) (.inl rfl) rfl rfl rfl (Nat.zero_le _) (Nat.zero_le _)
 cases (c.Kind==(3:Int))
 case true=>exact crypt_rk c n hs
 cases (c.Kind==(4:Int))
 case true=>exact crypt_rk c n hs
 cases (c.Kind==(5:Int))
 case true=>exact crypt_rk c n hs
 cases (c.Kind==(6:Int))
 case true=>exact crypt_rk c n hs
 cases (c.Kind==(7:Int))
 case true=>exact reject_rk c hs
 cases (c.Kind==(13:Int))
 case true=>exact reject_rk c hs
 cases (c.Kind==(15:Int))
 case true=>exact params_rk c n hs
 cases (c.Kind==(20:Int))
 case true=>exact length_rk c hs
 cases (c.Kind==(21:Int))
 case true=>exact length_rk c hs
 exact info_rk c hs
theorem answer_sok {s:Procs} (f:Bool) (n:Int) (hs:SOk s): SOk (r28Answer s f n).1∧(r28Answer s f n).2.length≤2:=by
 unfold r28Answer
 cases (bif bif s.Role != (1:Int) then true else s.Ended != (0:Int) then true else s.Crypt != (1:Int))
 case true=>exact ⟨hs,Nat.zero_le _⟩
 cases f
 ·exact ⟨⟨hs.role,hs.own,(show (-1:Int)≤ -1 by decide),hs.wl,hs.wk,hs.pl,hs.pi,hs.fe⟩,(show (1:Nat)≤2 by decide)⟩
 ·exact ⟨⟨hs.role,hs.own,hs.oth,hs.wl,hs.wk,hs.pl,hs.pi,hs.fe⟩,Nat.le_refl _⟩
theorem sent_sok {s:Procs} (c:Control) (hs:SOk s): SOk (r28Sent s c).1∧(r28Sent s c).2.length≤1:=by
 unfold r28Sent
 simp only [Bool.cond_eq_ite]
 repeat' split
 all_goals exact ⟨⟨hs.role,hs.own,hs.oth,hs.wl,hs.wk,hs.pl,hs.pi,hs.fe⟩,Nat.zero_le _⟩
theorem idue_ok (l:List Change) (e:Int) (hl:l.length≤1) (hi : ∀c∈l,0≤c.Instant∧c.Instant < 65536): ∀c∈(insDue l e).1,0≤c.Instant∧c.Instant < 65536:=by
 match l,hl with
 | [],_=>rw [insDue_nil];exact fun c h=>(by cases h)
 | [c],_ =>
  rw [insDue_one]
  cases serPassed e c.Instant
  ·exact hi
  ·exact fun c h=>(by cases h)
theorem due_sok {s:Procs} {e:Int} (hs:SOk s): SOk (procDue s e).1∧(procDue s e).2.length≤1:=by
 have h1:=insDue_le s.Pending e hs.pl
 have h2:=idue_ok s.Pending e hs.pl hs.pi
 unfold procDue
 revert h1 h2
 generalize insDue s.Pending e=q
 obtain ⟨rest,due⟩:= q
 intro h1 h2
 have mk : ∀(t:Procs) (l:List Change),t.Role=s.Role→(t.Own=s.Own∨t.Own = -1)→(t.Other=s.Other∨t.Other = -1)→t.Waiting=s.Waiting→t.Pending=rest→t.Features=s.Features→l.length≤1→SOk (t,l).1∧(t,l).2.length≤1:=by
  intro t l a1 a2 a3 a4 a5 a6 a7
  refine ⟨⟨?_, ?_, ?_, ?_, ?_, ?_, ?_, ?_⟩,a7⟩
  ·show t.Role=0∨t.Role=1
   rw [a1];exact hs.role
  ·show -1≤t.Own
   rcases a2 with a2 | a2 <;> rw [a2]
   ·exact hs.own
   ·decide
  ·show -1≤t.Other
   rcases a3 with a3 | a3 <;> rw [a3]
   ·exact hs.oth
   ·decide
  ·show t.Waiting.length≤8
   rw [a4];exact hs.wl
  ·show ∀c∈t.Waiting,_
   rw [a4];exact hs.wk
  ·show t.Pending.length≤1
   rw [a5];exact h1.1
  ·show ∀c∈t.Pending,_
   rw [a5];exact h2
  ·show IntKind.has .u64 t.Features
   rw [a6];exact hs.fe
 match due,h1.2 with
 | [],_ =>
  cases s.Told <;> cases (s.Role != (1:Int)) <;> cases (s.Ended==(0:Int)) <;> exact mk _ _ rfl (.inl rfl) (.inl rfl) rfl rfl rfl (Nat.zero_le _)
 | [c],_ =>
  have hg:(List.getD [c] (Int.toNat (0:Int)) Change.zero)= c:=rfl
  simp only [hg]
  cases s.Told <;> cases (s.Role != (1:Int)) <;> cases (s.Ended==(0:Int)) <;> cases (s.Own==c.Kind) <;> cases (s.Other==c.Kind) <;> exact mk _ _ rfl (by first | exact .inl rfl | exact .inr rfl) (by first | exact .inl rfl | exact .inr rfl) rfl rfl rfl (by first | exact Nat.le_refl _ | exact Nat.zero_le _)
theorem ref_ok {c:Control} (h:r26Check c=0∨r26Check c=12): c.Kind=7∨c.Kind=13→0≤c.Rejected:=by
 intro hk
 have hb:r26isByte c.Rejected=true:=by
  cases hb:r26isByte c.Rejected
  ·exfalso
   obtain ⟨k,u,m,i,r,j,sa,mk,f,v,l⟩:= c
   dsimp only at hk hb
   have:r26Check ⟨k,u,m,i,r,j,sa,mk,f,v,l⟩= 1∨r26Check ⟨k,u,m,i,r,j,sa,mk,f,v,l⟩= 5:=by
    unfold r26Check
    have hf:(r26Fields k).Known=true∧(r26Fields k).Update=false∧(r26Fields k).Map=false:=by rcases hk with rfl | rfl <;> exact ⟨rfl,rfl,rfl⟩
    dsimp only
    rw [hf.1,hf.2.1,hf.2.2,hb]
    simp only [Bool.not_true,Bool.not_false,cond_false]
    generalize (!_:Bool)= z
    cases z
    ·right;cases r26isByte r <;> rfl
    ·left;rfl
   omega
  ·rfl
 rw [isByte_eq] at hb
 by_cases h0:c.Rejected < 0
 ·rw [decide_eq_true h0] at hb;cases hb
 ·omega
theorem play_ok {s:Procs} {x:Law28Step} {e:Int} (n:Int) (hs:SOk s) (hx:Law28Step.has x) (he:0≤e∧e < 65536): ∃t,play s s x e n=(t,t,true)∧SOk t:=by
 have hc:Control.has x.Control:=hx.2.1
 have hi:0≤x.Control.Instant∧x.Control.Instant < 65536:=by
  have h1:0≤x.Control.Instant:=hc.2.2.2.1.1
  have h2:x.Control.Instant≤65535:=hc.2.2.2.1.2
  exact ⟨h1,by omega⟩
 unfold play
 cases (x.Call==(0:Int))
 case true =>
  have h:=start_sok x.Control n hs he
  rw [start_eq s x.Control e n hs he hc]
  refine ⟨_, ?_,h.1⟩
  rw [sameControls_refl _ (Nat.le_trans h.2 (by decide)),beq_self_eq_true];rfl
 cases (x.Call==(1:Int))
 case true =>
  have h:=ready_sok n hs he
  rw [ready_eq s e n he hs.wk hs.own]
  refine ⟨_, ?_,h.1⟩
  rw [sameControls_refl _ (Nat.le_trans h.2 (by decide))];rfl
 cases (x.Call==(2:Int))
 case true =>
  simp only [cond_true,cond_false]
  cases hk:(bif r26Check x.Control != (0:Int) then r26Check x.Control != (12:Int) else false)
  case true=>exact ⟨s,rfl,hs⟩
  have h:=handle_rk n hs he hi
  rw [handle_eq s x.Control e n hs.role he hi (ref_ok (by
   cases h1:(r26Check x.Control != (0:Int))
   ·left;simpa using h1
   ·rw [h1] at hk;right;simpa using hk))]
  refine ⟨_, ?_,h.1⟩
  rw [sameControls_refl _ (Nat.le_trans h.2.1 (by decide)),sameInds_refl _ (Nat.le_trans h.2.2 (by decide))];rfl
 cases (x.Call==(3:Int))
 case true =>
  have h:=answer_sok x.Found x.Salt hs
  rw [answer_eq]
  refine ⟨_, ?_,h.1⟩
  rw [sameControls_refl _ (Nat.le_trans h.2 (by decide))];rfl
 cases (x.Call==(4:Int))
 case true =>
  have h:=sent_sok x.Control hs
  rw [sent_eq]
  refine ⟨_, ?_,h.1⟩
  rw [sameInds_refl _ (Nat.le_trans h.2 (by decide))];rfl
 cases (x.Call==(5:Int))
 case true =>
  have h:=due_sok (e:=e) hs
  rw [due_eq s e hs.role hs.pl he hs.pi] at h ⊢
  refine ⟨_, ?_,h.1⟩
  rw [sameChanges_refl _ (Nat.le_trans h.2 (by decide))];rfl
 refine ⟨s, ?_,hs⟩
 rw [quiet_eq,expired_eq s n hs.own hs.oth]
 simp only [beq_self_eq_true]
 rfl
end Go.Aw.W
end
