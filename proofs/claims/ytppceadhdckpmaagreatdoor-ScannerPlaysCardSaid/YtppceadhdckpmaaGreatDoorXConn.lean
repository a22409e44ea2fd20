/- The plain laws of connection parameters: checks, bytes, back and forth (own work). -/
import Derived.Test.YtppceadhdckpmaaGreatDoorXOctA
import Derived.Test.YtppceadhdckpmaaGreatDoorXBits
import Derived.Test.YtppceadhdckpmaaGreatDoorXW17
set_option linter.unusedVariables false
namespace Go.Aw.W
open Go Go.Aw Go.Proofs
theorem cwithin_go (all:List ConnectSpan) (hl:all.length≤4611686018427387904): ∀(n:Nat) (i:Int),0≤i→i≤all.length→(all.length - i).toNat < n→cwithin.go all n i=(all.drop i.toNat).all fun x=>r17within x.n x.low x.high
 | 0,i,h0,h1,h2=>by omega
 | n+1,i,h0,h1,h2=>by
  unfold cwithin.go
  by_cases hi:i < all.length
  ·have hlt:i.toNat < all.length:=by omega
   simp only [hi,decide_true,cond_true]
   rw [wi64 (i+(1:Int)) (by omega) (by omega),cwithin_go all hl n (i+1) (by omega) (by omega) (by omega),List.drop_eq_getElem_cons hlt,List.all_cons]
   have e:all.getD i.toNat ConnectSpan.zero=all[i.toNat]:= by simp [List.getD,List.getElem?_eq_getElem hlt]
   have e2:(i+1).toNat=i.toNat+1:=by omega
   rw [e,e2]
   unfold r17within
   by_cases a:all[i.toNat].n < all[i.toNat].low
   ·have a2 : ¬all[i.toNat].low≤all[i.toNat].n:=by omega
    simp [a,a2]
   ·have a2:all[i.toNat].low≤all[i.toNat].n:=by omega
    by_cases b:all[i.toNat].high < all[i.toNat].n
    ·have b2 : ¬all[i.toNat].n≤all[i.toNat].high:=by omega
     simp [a,a2,b,b2]
    ·have b2:all[i.toNat].n≤all[i.toNat].high:=by omega
     simp [a,a2,b,b2]
  ·simp only [hi,decide_false,cond_false]
   rw [List.drop_of_length_le (by omega)]
   rfl
theorem cwithin_eq (all:List ConnectSpan) (hl:all.length≤4611686018427387904): cwithin all=all.all fun x=>r17within x.n x.low x.high:=by
 unfold cwithin
 rw [cwithin_go all hl _ _ (by omega) (by omega) (by omega)]
 rfl
theorem checkUpdate_eq (u:Update): cCheckUpdate u=r17CheckUpdate u:=by
 unfold cCheckUpdate r17CheckUpdate
 rw [cwithin_eq _ (by simp)]
 simp only [List.all_cons,List.all_nil]
 generalize r17within u.WinSize 1 8=a
 generalize r17within u.WinOffset 0 3200=b
 generalize r17within u.Interval 6 3200=c
 generalize r17within u.Latency 0 499=d
 generalize r17within u.Timeout 10 3200=e
 cases a <;> cases b <;> cases c <;> cases d <;> cases e <;> rfl
theorem check_eq (p:ConnParams) (hk:kCheck p.Map=r12Check p.Map): cCheck p=r17Check p:=by
 unfold cCheck r17Check
 rw [cwithin_eq _ (by simp),hk,checkUpdate_eq]
 simp only [List.all_cons,List.all_nil]
 generalize r17within p.Hop 5 16=a
 generalize r17within p.PPM 0 500=b
 cases a <;> cases b <;> rfl
def cntB:Nat→Nat→Nat
 | 0,_=>0
 | n+1,x=>x % 2+cntB n (x / 2)
theorem cntB_add : ∀(a b x:Nat),cntB (a+b) x=cntB a x+cntB b (x / 2 ^ a)
 | 0,b,x=>by simp [cntB]
 | a+1,b,x=>by
  rw [show a+1+b=(a+b)+ 1 by omega,cntB,cntB_add a b,cntB,Nat.div_div_eq_div_mul,Nat.pow_succ,Nat.mul_comm 2 (2 ^ a)];omega
theorem cntB_zero : ∀n,cntB n 0=0
 | 0=>rfl
 | n+1=>by simp [cntB,cntB_zero n]
theorem pc_cnt (x:Nat): pc (x % 256)= cntB 8 x:=by
 rw [pc_bits _ (by omega)]
 simp only [cntB]
 omega
theorem ones_cnt (x:Nat) (hx:x < 18446744073709551616): ones x=(cntB 64 x:Nat):= by
 rw [ones_nat x hx]
 have e : ∀n y,cntB (8+n) y=pc (y % 256)+ cntB n (y / 256):= fun n y=>by rw [cntB_add,pc_cnt]
 have e8 : ∀y,cntB 8 y=pc (y % 256):= fun y=>(pc_cnt y).symm
 have h64:cntB 64 x=pc (x % 256)+ (pc (x / 256 % 256)+ (pc (x / 256 / 256 % 256)+ (pc (x / 256 / 256 / 256 % 256)+ (pc (x / 256 / 256 / 256 / 256 % 256)+ (pc (x / 256 / 256 / 256 / 256 / 256 % 256)+ (pc (x / 256 / 256 / 256 / 256 / 256 / 256 % 256)+ pc (x / 256 / 256 / 256 / 256 / 256 / 256 / 256 % 256))))))):= by
  rw [show (64:Nat)= 8+56 from rfl,e,show (56:Nat)= 8+48 from rfl,e,show (48:Nat)= 8+40 from rfl,e,show (40:Nat)= 8+32 from rfl,e,show (32:Nat)= 8+24 from rfl,e,show (24:Nat)= 8+16 from rfl,e,show (16:Nat)= 8+8 from rfl,e,e8]
 rw [h64]
 simp only [Nat.add_assoc]
theorem r12Has_eq (m i:Int) (h0:0≤m) (h1:m < 18446744073709551616) (i0:0≤i) (i1:i≤36): r12Has m i=decide (m / 2 ^ i.toNat % 2=1):= by
 unfold r12Has
 rw [decide_eq_true i0,decide_eq_true i1,r1Power_eq i0 (by omega),Int.tdiv_eq_ediv_of_nonneg h0]
 have hp:(0:Int) < 2 ^ i.toNat:=Int.pow_pos (by decide)
 have h2:0≤m / 2 ^ i.toNat:=Int.ediv_nonneg h0 (by omega)
 have h3:m / 2 ^ i.toNat≤m:=Int.ediv_le_self _ h0
 rw [wu64 _ h2 (by omega),Int.tmod_eq_emod_of_nonneg h2]
 simp only [cond_true]
 rw [Bool.eq_iff_iff];simp
theorem r12List_go (m:Nat) (hm:m < 18446744073709551616): ∀(n:Nat) (i:Int) (out:List Int),0≤i→i≤37→(37 - i).toNat < n→(r12List.go (m:Int) n i out).length=out.length+cntB (37 - i).toNat (m / 2 ^ i.toNat)
 | 0,i,out,h0,h1,h2=>by omega
 | n+1,i,out,h0,h1,h2=>by
  unfold r12List.go
  by_cases hi:i≤36
  ·simp only [hi,decide_true,cond_true]
   rw [wi64 (i+(1:Int)) (by omega) (by omega),r12Has_eq (m:Int) i (by omega) (by omega) h0 hi]
   have e1:(37 - i).toNat=(37 - (i+1)).toNat+1:=by omega
   have e2:m / 2 ^ i.toNat / 2=m / 2 ^ (i+1).toNat:=by rw [Nat.div_div_eq_div_mul,←Nat.pow_succ,show (i+1).toNat=i.toNat+1 by omega]
   have e3:((m:Int) / 2 ^ i.toNat % 2=1) ↔ m / 2 ^ i.toNat % 2=1:=by
    rw [show (2:Int) ^ i.toNat=((2 ^ i.toNat:Nat): Int) by simp,←Int.natCast_ediv];omega
   rw [e1,cntB,e2]
   by_cases hb:m / 2 ^ i.toNat % 2=1
   ·simp only [e3.2 hb,decide_true,cond_true]
    rw [r12List_go m hm n (i+1) _ (by omega) (by omega) (by omega),List.length_append,List.length_singleton,hb];omega
   ·have hb':m / 2 ^ i.toNat % 2=0:=by omega
    simp only [mt e3.1 hb,decide_false,cond_false]
    rw [r12List_go m hm n (i+1) _ (by omega) (by omega) (by omega),hb'];omega
  ·simp only [hi,decide_false,cond_false]
   rw [show (37 - i).toNat=0 by omega];simp [cntB]
theorem r12Count_eq (m:Nat) (hm:m < 18446744073709551616): r12Count (m:Int)= (cntB 37 m:Nat):= by
 unfold r12Count r12List
 rw [r12List_go m hm _ 0 [] (by omega) (by omega) (by omega)]
 simp
theorem kCheck_eq (m:Int) (h0:0≤m) (h1:m < 18446744073709551616): kCheck m=r12Check m:=by
 obtain ⟨x,rfl⟩:= Int.eq_ofNat_of_zero_le h0
 unfold kCheck r12Check kOnes
 rw [bclr_low (n:=37) rfl h0 (by rw [p64];exact h1) (by decide) (by decide),band_low (n:=37) rfl h0 (by rw [p64];exact h1) (by decide) (by decide)]
 have hp:r1Power 37=137438953472:=by rw [r1Power_eq (by decide) (by decide)];decide
 rw [hp,show (2:Int) ^ 37=137438953472 by decide]
 by_cases hx:(137438953472:Int)≤x
 ·have h3:((x:Int) - x % 137438953472 != 0)= true:=by simp only [bne_iff_ne,ne_eq];omega
  rw [h3,decide_eq_true hx];rfl
 ·have e:(x:Int) % 137438953472=x:=by omega
  rw [e,Int.sub_self,ones_cnt x (by omega),r12Count_eq x (by omega)]
  have h2:cntB 64 x=cntB 37 x:=by
   rw [show 64=37+27 from rfl,cntB_add,Nat.div_eq_of_lt (by omega),cntB_zero];omega
  rw [h2]
  simp [hx]
theorem wu64_i64 (n:Int): IntKind.wrap IntKind.u64 (IntKind.wrap IntKind.i64 n)= IntKind.wrap IntKind.u64 n:=by
 simp [IntKind.wrap,IntKind.bits,IntKind.signed];omega
theorem within_iff (n l h:Int): (r17within n l h=true)= (l≤n∧n≤h):= by
 unfold r17within
 by_cases a:l≤n <;> simp [a]
theorem checkUpdate_ok (u:Update) (h:r17CheckUpdate u=0): 1≤u.WinSize∧u.WinSize≤8∧0≤u.WinOffset∧u.WinOffset≤3200∧6≤u.Interval∧u.Interval≤3200∧0≤u.Latency∧u.Latency≤499∧10≤u.Timeout∧u.Timeout≤3200:=by
 have h1:=within_iff u.WinSize 1 8
 have h2:=within_iff u.WinOffset 0 3200
 have h3:=within_iff u.Interval 6 3200
 have h4:=within_iff u.Latency 0 499
 have h5:=within_iff u.Timeout 10 3200
 unfold r17CheckUpdate at h
 generalize r17within u.WinSize 1 8=a at *
 generalize r17within u.WinOffset 0 3200=b at *
 generalize r17within u.Interval 6 3200=c at *
 generalize r17within u.Latency 0 499=d at *
 generalize r17within u.Timeout 10 3200=e at *
 cases a <;> cases b <;> cases c <;> cases d <;> cases e <;> simp at h h1 h2 h3 h4 h5
 exact ⟨h1.1,h1.2,h2.1,h2.2,h3.1,h3.2,h4.1,h4.2,h5.1,h5.2⟩
end Go.Aw.W
