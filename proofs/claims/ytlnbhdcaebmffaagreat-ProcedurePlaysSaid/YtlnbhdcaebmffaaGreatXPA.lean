/- The checks of chapter 26 are those of the document. -/
import Derived.Test.YtlnbhdcaebmffaaGreatXW16
import Derived.Test.YtlnbhdcaebmffaaGreatXOp
set_option linter.unusedVariables false
set_option linter.unusedSimpArgs false
set_option maxRecDepth 8000
namespace Go.Aw.W
open Go Go.Aw Go.Proofs
set_option linter.unusedVariables false
theorem p64:(2:Int) ^ IntKind.u64.bits=18446744073709551616:=by decide
set_option linter.unusedVariables false
def B (f:Nat→Nat): Nat→Nat→Nat
 | 0,_=>0
 | n+1,x=>f (x % 256)+ 256*B f n (x / 256)
theorem B_succ (f:Nat→Nat) (n x:Nat): B f (n+1) x=f (x % 256)+ 256*B f n (x / 256):= rfl
def rep (c:Nat): Nat→Nat
 | 0=>0
 | n+1=>c+256*rep c n
theorem land_byte (x M:Nat): x &&& M=(x % 256 &&& M % 256)+ 256*(x / 256 &&& M / 256):= by
 have h1:(x &&& M) % 2 ^ 8=x % 2 ^ 8 &&& M % 2 ^ 8:=Nat.and_mod_two_pow
 have h2:(x &&& M) / 2 ^ 8=x / 2 ^ 8 &&& M / 2 ^ 8:=Nat.and_div_two_pow
 rw [←h1,←h2]
 exact (Nat.mod_add_div (x &&& M) 256).symm
theorem rep_mod {c:Nat} (hc:c < 256) (n:Nat): rep c (n+1) % 256=c:=by unfold rep;omega
theorem rep_div {c:Nat} (hc:c < 256) (n:Nat): rep c (n+1) / 256=rep c n:=by
 conv=>lhs;unfold rep
 omega
theorem tab1 : ∀b:Fin 256,∀t:Fin 2,(b.val / 2+128*t.val) &&& 85=b.val / 2 &&& 85:=by decide +kernel
theorem tab2 : ∀b:Fin 256,∀t:Fin 4,(b.val / 4+64*t.val) &&& 51=b.val / 4 &&& 51:=by decide +kernel
def t1 (b:Nat): Nat:=(b / 2 &&& 85)+ (b &&& 85)
def t2 (b:Nat): Nat:=(b / 4 &&& 51)+ (b &&& 51)
theorem n1 : ∀n x,(x / 2 &&& rep 85 n)+ (x &&& rep 85 n)= B t1 n x
 | 0,x=>by simp [rep,B]
 | n+1,x=>by
  rw [land_byte (x / 2),land_byte x,rep_mod (by omega),rep_div (by omega),B,←n1 n (x / 256)]
  have e:x / 2 % 256 &&& 85=(x % 256) / 2 &&& 85:=by
   rw [show x / 2 % 256=(x % 256) / 2+128*((x / 256) % 2) by omega]
   exact tab1 ⟨x % 256,by omega⟩ ⟨(x / 256) % 2,by omega⟩
  have e2:x / 2 / 256=x / 256 / 2:=by omega
  rw [e,e2]
  unfold t1
  generalize x % 256 / 2 &&& 85=p
  generalize x % 256 &&& 85=q
  generalize x / 256 / 2 &&& rep 85 n=r
  generalize x / 256 &&& rep 85 n=s
  omega
theorem n2 : ∀n x,(x / 4 &&& rep 51 n)+ (x &&& rep 51 n)= B t2 n x
 | 0,x=>by simp [rep,B]
 | n+1,x=>by
  rw [land_byte (x / 4),land_byte x,rep_mod (by omega),rep_div (by omega),B,←n2 n (x / 256)]
  have e:x / 4 % 256 &&& 51=(x % 256) / 4 &&& 51:=by
   rw [show x / 4 % 256=(x % 256) / 4+64*((x / 256) % 4) by omega]
   exact tab2 ⟨x % 256,by omega⟩ ⟨(x / 256) % 4,by omega⟩
  have e2:x / 4 / 256=x / 256 / 4:=by omega
  rw [e,e2]
  unfold t2
  generalize x % 256 / 4 &&& 51=p
  generalize x % 256 &&& 51=q
  generalize x / 256 / 4 &&& rep 51 n=r
  generalize x / 256 &&& rep 51 n=s
  omega
theorem B_comp {f g:Nat→Nat} (hf : ∀b,b < 256→f b < 256): ∀n x,B g n (B f n x)= B (fun b=>g (f b)) n x
 | 0,x=>rfl
 | n+1,x=>by
  have h:=hf (x % 256) (by omega)
  rw [B_succ g,B_succ f,B_succ (fun b=>g (f b))]
  rw [show (f (x % 256)+ 256*B f n (x / 256)) % 256=f (x % 256) by omega,show (f (x % 256)+ 256*B f n (x / 256)) / 256=B f n (x / 256) by omega,B_comp hf n]
theorem n3 {f:Nat→Nat} (hf : ∀b,b < 256→f b / 16≤4∧f b % 16≤4): ∀n z,(B f n z / 16+B f n z) &&& rep 15 n=B (fun b=>f b / 16+f b % 16) n z
 | 0,z=>by simp [rep,B]
 | n+1,z=>by
  have h:=hf (z % 256) (by omega)
  have hy:B f n (z / 256) % 16≤4:=by
   cases n with
   | zero=>simp [B]
   | succ n=>have:=hf (z / 256 % 256) (by omega);rw [B_succ];omega
  have ih:=n3 hf n (z / 256)
  rw [land_byte,rep_mod (by omega),rep_div (by omega)]
  have e1:(B f (n+1) z / 16+B f (n+1) z) % 256=f (z % 256) / 16+16*(B f n (z / 256) % 16)+ f (z % 256):= by
   rw [B_succ];omega
  have e2:(B f (n+1) z / 16+B f (n+1) z) / 256=B f n (z / 256) / 16+B f n (z / 256):= by
   rw [B_succ];omega
  rw [e1,e2,ih]
  have e3:(f (z % 256) / 16+16*(B f n (z / 256) % 16)+ f (z % 256)) &&& 15=f (z % 256) / 16+f (z % 256) % 16:=by
   rw [Nat.and_two_pow_sub_one_eq_mod _ 4]
   omega
  rw [e3,B_succ]
def pc (b:Nat): Nat:=t2 (t1 b) / 16+t2 (t1 b) % 16
theorem t1_lt : ∀b,b < 256→t1 b < 256:=fun b hb=>(show ∀b:Fin 256,t1 b.val < 256 by decide +kernel) ⟨b,hb⟩
theorem t21_ok : ∀b,b < 256→t2 (t1 b) / 16≤4∧t2 (t1 b) % 16≤4:=fun b hb=>(show ∀b:Fin 256,t2 (t1 b.val) / 16≤4∧t2 (t1 b.val) % 16≤4 by decide +kernel) ⟨b,hb⟩
theorem pc_bits : ∀b,b < 256→pc b=b % 2+b / 2 % 2+b / 4 % 2+b / 8 % 2+b / 16 % 2+b / 32 % 2+b / 64 % 2+b / 128 % 2:=fun b hb=>(show ∀b:Fin 256,pc b.val=b.val % 2+b.val / 2 % 2+b.val / 4 % 2+b.val / 8 % 2+b.val / 16 % 2+b.val / 32 % 2+b.val / 64 % 2+b.val / 128 % 2 by decide +kernel) ⟨b,hb⟩
theorem n123 (n x:Nat): (B t2 n (B t1 n x) / 16+B t2 n (B t1 n x)) &&& rep 15 n=B pc n x:=by
 rw [B_comp t1_lt]
 exact n3 t21_ok n x
theorem B_lt {f:Nat→Nat} (hf : ∀b,b < 256→f b < 256): ∀n x,B f n x < 256 ^ n
 | 0,x=>by simp [B]
 | n+1,x=>by
  have h:=hf (x % 256) (by omega)
  have ih:=B_lt hf n (x / 256)
  rw [B_succ,Nat.pow_succ]
  omega
theorem bandK_nat (a b:Nat) (ha:a < 18446744073709551616) (hb:b < 18446744073709551616): bandK .u64 (a:Int) (b:Int)= ((a &&& b:Nat): Int):= by
 have hab:a &&& b≤a:=Nat.and_le_left
 unfold bandK
 rw [BitVec.ofInt_natCast,BitVec.ofInt_natCast,BitVec.toNat_and,BitVec.toNat_ofNat,BitVec.toNat_ofNat]
 rw [show a % 2 ^ IntKind.u64.bits=a from Nat.mod_eq_of_lt ha,show b % 2 ^ IntKind.u64.bits=b from Nat.mod_eq_of_lt hb]
 exact wu64 _ (by omega) (by omega)
theorem shrK_nat (a k:Nat) (hk:k≤64): shrK .u64 (a:Int) (k:Int)= ((a / 2 ^ k:Nat): Int):= by
 unfold shrK
 rw [show min ((k:Int).toNat) IntKind.u64.bits=k from by simp [IntKind.bits];omega]
 rw [Int.fdiv_eq_ediv_of_nonneg _ (Int.le_of_lt (Int.pow_pos (by decide))),Int.natCast_ediv,Int.natCast_pow]
 rfl
theorem ones1_nat (x:Nat) (hx:x < 18446744073709551616): ones1 x=(B t1 8 x:Nat):= by
 unfold ones1
 rw [show (1:Int)= ((1:Nat): Int) from rfl,shrK_nat _ _ (by omega),show (6148914691236517205:Int)= ((rep 85 8:Nat): Int) from by decide,bandK_nat _ _ (by omega) (by decide),bandK_nat _ _ hx (by decide),←n1 8 x,show x / 2 ^ 1=x / 2 from rfl]
 have h:=B_lt t1_lt 8 x
 rw [←n1 8 x] at h
 exact wu64 _ (by omega) (by omega)
theorem t2_lt : ∀b,b < 256→t2 b < 256:=fun b hb=>(show ∀b:Fin 256,t2 b.val < 256 by decide +kernel) ⟨b,hb⟩
theorem ones2_nat (x:Nat) (hx:x < 18446744073709551616): ones2 x=(B t2 8 x:Nat):= by
 unfold ones2
 rw [show (2:Int)= ((2:Nat): Int) from rfl,shrK_nat _ _ (by omega),show (3689348814741910323:Int)= ((rep 51 8:Nat): Int) from by decide,bandK_nat _ _ (by omega) (by decide),bandK_nat _ _ hx (by decide),←n2 8 x,show x / 2 ^ 2=x / 4 from rfl]
 have h:=B_lt t2_lt 8 x
 rw [←n2 8 x] at h
 exact wu64 _ (by omega) (by omega)
theorem B_le {f:Nat→Nat} {c:Nat} (hf : ∀b,b < 256→f b≤c): ∀n x,B f n x≤c*rep 1 n
 | 0,x=>by simp [B]
 | n+1,x=>by
  have h:=hf (x % 256) (by omega)
  have ih:=B_le hf n (x / 256)
  rw [B_succ,show rep 1 (n+1)= 1+256*rep 1 n from rfl,Nat.mul_add,Nat.mul_left_comm]
  omega
theorem ones3_nat (x:Nat): ones3 (B t2 8 (B t1 8 x): Nat)= (B pc 8 x:Nat):= by
 unfold ones3
 have hle:=B_le (f:=fun b=>t2 (t1 b)) (c:=68) (fun b hb=>by have:=t21_ok b hb;omega) 8 x
 rw [←B_comp (g:=t2) t1_lt] at hle
 rw [show rep 1 8=72340172838076673 from by decide] at hle
 rw [←n123 8 x]
 generalize B t2 8 (B t1 8 x)= y at *
 rw [show (4:Int)= ((4:Nat): Int) from rfl,shrK_nat _ _ (by omega),wu64 _ (by omega) (by omega),show ((y / 2 ^ 4:Nat): Int)+ (y:Int)= ((y / 16+y:Nat): Int) from by push_cast;rfl,show (1085102592571150095:Int)= ((rep 15 8:Nat): Int) from by decide]
 exact bandK_nat _ _ (by omega) (by decide)
theorem pc_le : ∀b,b < 256→pc b≤8:=fun b hb=>by have:=pc_bits b hb;omega
set_option maxHeartbeats 2000000 in
theorem ones_nat (x:Nat) (hx:x < 18446744073709551616): ones x=((pc (x % 256)+ pc (x / 256 % 256)+ pc (x / 256 / 256 % 256)+ pc (x / 256 / 256 / 256 % 256)+ pc (x / 256 / 256 / 256 / 256 % 256)+ pc (x / 256 / 256 / 256 / 256 / 256 % 256)+ pc (x / 256 / 256 / 256 / 256 / 256 / 256 % 256)+ pc (x / 256 / 256 / 256 / 256 / 256 / 256 / 256 % 256): Nat): Int):= by
 unfold ones
 have hb:=B_lt t1_lt 8 x
 rw [ones1_nat x hx,ones2_nat _ (by omega),ones3_nat]
 have e:B pc 8 x=pc (x % 256)+ 256*(pc (x / 256 % 256)+ 256*(pc (x / 256 / 256 % 256)+ 256*(pc (x / 256 / 256 / 256 % 256)+ 256*(pc (x / 256 / 256 / 256 / 256 % 256)+ 256*(pc (x / 256 / 256 / 256 / 256 / 256 % 256)+ 256*(pc (x / 256 / 256 / 256 / 256 / 256 / 256 % 256)+ 256*(pc (x / 256 / 256 / 256 / 256 / 256 / 256 / 256 % 256)+ 256*0))))))):= by simp only [B]
 have l0:=pc_le (x % 256) (by omega)
 have l1:=pc_le (x / 256 % 256) (by omega)
 have l2:=pc_le (x / 256 / 256 % 256) (by omega)
 have l3:=pc_le (x / 256 / 256 / 256 % 256) (by omega)
 have l4:=pc_le (x / 256 / 256 / 256 / 256 % 256) (by omega)
 have l5:=pc_le (x / 256 / 256 / 256 / 256 / 256 % 256) (by omega)
 have l6:=pc_le (x / 256 / 256 / 256 / 256 / 256 / 256 % 256) (by omega)
 have l7:=pc_le (x / 256 / 256 / 256 / 256 / 256 / 256 / 256 % 256) (by omega)
 rw [e]
 clear e hb
 generalize pc (x % 256)= c0 at *
 generalize pc (x / 256 % 256)= c1 at *
 generalize pc (x / 256 / 256 % 256)= c2 at *
 generalize pc (x / 256 / 256 / 256 % 256)= c3 at *
 generalize pc (x / 256 / 256 / 256 / 256 % 256)= c4 at *
 generalize pc (x / 256 / 256 / 256 / 256 / 256 % 256)= c5 at *
 generalize pc (x / 256 / 256 / 256 / 256 / 256 / 256 % 256)= c6 at *
 generalize pc (x / 256 / 256 / 256 / 256 / 256 / 256 / 256 % 256)= c7 at *
 have f4 : ∀(v k:Nat),k≤64→v+v / 2 ^ k < 18446744073709551616→ones4 k v=((v+v / 2 ^ k:Nat): Int):= fun v k hk h=>by
  unfold ones4
  rw [shrK_nat _ _ hk,show (v:Int)+ ((v / 2 ^ k:Nat): Int)= ((v+v / 2 ^ k:Nat): Int) from by push_cast;rfl]
  generalize v / 2 ^ k=q at *
  exact wu64 _ (by omega) (by omega)
 have g1 : ∀v,v=c0+256*(c1+256*(c2+256*(c3+256*(c4+256*(c5+256*(c6+256*(c7+256*0)))))))→v+v / 2 ^ 8=(c0+c1)+ 256*(c1+c2+256*(c2+c3+256*(c3+c4+256*(c4+c5+256*(c5+c6+256*(c6+c7+256*c7)))))):= by
  intro v hv;omega
 generalize hv:c0+256*(c1+256*(c2+256*(c3+256*(c4+256*(c5+256*(c6+256*(c7+256*0)))))))= v at *
 have g1':=g1 v rfl
 rw [show (8:Int)= ((8:Nat): Int) from rfl,f4 v 8 (by omega) (by omega)]
 generalize v+v / 2 ^ 8=u at *
 have g2:u+u / 2 ^ 16=(c0+c1+c2+c3)+ 256*(c1+c2+c3+c4+256*(c2+c3+c4+c5+256*(c3+c4+c5+c6+256*(c4+c5+c6+c7+256*(c5+c6+c7+256*(c6+c7+256*c7)))))):= by omega
 rw [show (16:Int)= ((16:Nat): Int) from rfl,f4 u 16 (by omega) (by omega)]
 generalize u+u / 2 ^ 16=t at *
 have dv : ∀t L H:Nat,t=L+4294967296*H→L < 4294967296→t / 2 ^ 32=H:=by intro t L H h1 h2;omega
 have md : ∀(S M M' R:Nat),R < 256→S=R+256*(M+M')→S % 256=R:=by intro S M M' R h1 h2;omega
 have g2b:=dv t (c0+c1+c2+c3+256*(c1+c2+c3+c4+256*(c2+c3+c4+c5+256*(c3+c4+c5+c6)))) (c4+c5+c6+c7+256*(c5+c6+c7+256*(c6+c7+256*c7))) (by clear g1 f4;omega) (by clear g1 f4 g2 g1' hv;omega)
 have g3:(t+t / 2 ^ 32) % 256=c0+c1+c2+c3+c4+c5+c6+c7:=by
  rw [g2b,g2]
  refine md _ (c1+c2+c3+c4+256*(c2+c3+c4+c5+256*(c3+c4+c5+c6+256*(c4+c5+c6+c7+256*(c5+c6+c7+256*(c6+c7+256*c7)))))) (c5+c6+c7+256*(c6+c7+256*c7)) _ (by clear g1 f4 g2 g2b g1' hv;omega) (by clear g1 f4 g2 g2b g1' hv;omega)
 have g4:t+t / 2 ^ 32 < 9223372036854775808:=by rw [g2b,g2];clear g1 f4 g2 g2b g3 g1' hv dv md;omega
 rw [show (32:Int)= ((32:Nat): Int) from rfl,f4 t 32 (by decide) (Nat.lt_trans g4 (by decide))]
 generalize t+t / 2 ^ 32=s at *
 clear g1 f4 g2 g2b g1' hv dv md
 rw [wi64 _ (by omega) (by omega)]
 unfold bandK
 rw [show (127:Int)= ((127:Nat): Int) from rfl,BitVec.ofInt_natCast,BitVec.ofInt_natCast,BitVec.toNat_and,BitVec.toNat_ofNat,BitVec.toNat_ofNat]
 rw [show s % 2 ^ IntKind.i64.bits=s from Nat.mod_eq_of_lt (by simp [IntKind.bits];omega),show 127 % 2 ^ IntKind.i64.bits=2 ^ 7 - 1 from by decide,Nat.and_two_pow_sub_one_eq_mod,wi64 _ (by omega) (by omega)]
 congr 1
 omega
set_option linter.unusedVariables false
theorem cwithin_go (all:List ConnectSpan) (hl:all.length≤4611686018427387904): ∀(n:Nat) (i:Int),0≤i→i≤all.length→(all.length - i).toNat < n→cwithin.go all n i=(all.drop i.toNat).all fun x=>r17within x.n x.low x.high
 | 0,i,h0,h1,h2=>by omega
 | n+1,i,h0,h1,h2=>by
  unfold cwithin.go
  by_cases hi:i < all.length
  ·have hlt:i.toNat < all.length:=by omega
   simp only [hi,decide_true,cond_true]
   rw [wi64 (i+(1:Int)) (by omega) (by omega),cwithin_go all hl n (i+1) (by omega) (by omega) (by omega),List.drop_eq_getElem_cons hlt,List.all_cons]
   have e:all.getD i.toNat ConnectSpan.zero=all[i.toNat]:= by simp [List.getD,List.getElem?_eq_getElem hlt]
   have e2:(i+1).toNat=i.toNat+1:=by omega
   rw [e,e2]
   unfold r17within
   by_cases a:all[i.toNat].n < all[i.toNat].low
   ·have a2 : ¬all[i.toNat].low≤all[i.toNat].n:=by omega
    simp [a,a2]
   ·have a2:all[i.toNat].low≤all[i.toNat].n:=by omega
    by_cases b:all[i.toNat].high < all[i.toNat].n
    ·have b2 : ¬all[i.toNat].n≤all[i.toNat].high:=by omega
     simp [a,a2,b,b2]
    ·have b2:all[i.toNat].n≤all[i.toNat].high:=by omega
     simp [a,a2,b,b2]
  ·simp only [hi,decide_false,cond_false]
   rw [List.drop_of_length_le (by omega)]
   rfl
theorem cwithin_eq (all:List ConnectSpan) (hl:all.length≤4611686018427387904): cwithin all=all.all fun x=>r17within x.n x.low x.high:=by
 unfold cwithin
 rw [cwithin_go all hl _ _ (by omega) (by omega) (by omega)]
 rfl
theorem checkUpdate_eq (u:Update): cCheckUpdate u=r17CheckUpdate u:=by
 unfold cCheckUpdate r17CheckUpdate
 rw [cwithin_eq _ (by simp)]
 simp only [List.all_cons,List.all_nil]
 generalize r17within u.WinSize 1 8=a
 generalize r17within u.WinOffset 0 3200=b
 generalize r17within u.Interval 6 3200=c
 generalize r17within u.Latency 0 499=d
 generalize r17within u.Timeout 10 3200=e
 cases a <;> cases b <;> cases c <;> cases d <;> cases e <;> rfl
def cntB:Nat→Nat→Nat
 | 0,_=>0
 | n+1,x=>x % 2+cntB n (x / 2)
theorem cntB_add : ∀(a b x:Nat),cntB (a+b) x=cntB a x+cntB b (x / 2 ^ a)
 | 0,b,x=>by simp [cntB]
 | a+1,b,x=>by
  rw [show a+1+b=(a+b)+ 1 by omega,cntB,cntB_add a b,cntB,Nat.div_div_eq_div_mul,Nat.pow_succ,Nat.mul_comm 2 (2 ^ a)];omega
theorem cntB_zero : ∀n,cntB n 0=0
 | 0=>rfl
 | n+1=>by simp [cntB,cntB_zero n]
theorem pc_cnt (x:Nat): pc (x % 256)= cntB 8 x:=by
 rw [pc_bits _ (by omega)]
 simp only [cntB]
 omega
theorem ones_cnt (x:Nat) (hx:x < 18446744073709551616): ones x=(cntB 64 x:Nat):= by
 rw [ones_nat x hx]
 have e : ∀n y,cntB (8+n) y=pc (y % 256)+ cntB n (y / 256):= fun n y=>by rw [cntB_add,pc_cnt]
 have e8 : ∀y,cntB 8 y=pc (y % 256):= fun y=>(pc_cnt y).symm
 have h64:cntB 64 x=pc (x % 256)+ (pc (x / 256 % 256)+ (pc (x / 256 / 256 % 256)+ (pc (x / 256 / 256 / 256 % 256)+ (pc (x / 256 / 256 / 256 / 256 % 256)+ (pc (x / 256 / 256 / 256 / 256 / 256 % 256)+ (pc (x / 256 / 256 / 256 / 256 / 256 / 256 % 256)+ pc (x / 256 / 256 / 256 / 256 / 256 / 256 / 256 % 256))))))):= by
  rw [show (64:Nat)= 8+56 from rfl,e,show (56:Nat)= 8+48 from rfl,e,show (48:Nat)= 8+40 from rfl,e,show (40:Nat)= 8+32 from rfl,e,show (32:Nat)= 8+24 from rfl,e,show (24:Nat)= 8+16 from rfl,e,show (16:Nat)= 8+8 from rfl,e,e8]
 rw [h64]
 simp only [Nat.add_assoc]
theorem r12Has_eq (m i:Int) (h0:0≤m) (h1:m < 18446744073709551616) (i0:0≤i) (i1:i≤36): r12Has m i=decide (m / 2 ^ i.toNat % 2=1):= by
 unfold r12Has
 rw [decide_eq_true i0,decide_eq_true i1,r1Power_eq i0 (by omega),Int.tdiv_eq_ediv_of_nonneg h0]
 have hp:(0:Int) < 2 ^ i.toNat:=Int.pow_pos (by decide)
 have h2:0≤m / 2 ^ i.toNat:=Int.ediv_nonneg h0 (by omega)
 have h3:m / 2 ^ i.toNat≤m:=Int.ediv_le_self _ h0
 rw [wu64 _ h2 (by omega),Int.tmod_eq_emod_of_nonneg h2]
 simp only [cond_true]
 rw [Bool.eq_iff_iff];simp
theorem r12List_go (m:Nat) (hm:m < 18446744073709551616): ∀(n:Nat) (i:Int) (out:List Int),0≤i→i≤37→(37 - i).toNat < n→(r12List.go (m:Int) n i out).length=out.length+cntB (37 - i).toNat (m / 2 ^ i.toNat)
 | 0,i,out,h0,h1,h2=>by omega
 | n+1,i,out,h0,h1,h2=>by
  unfold r12List.go
  by_cases hi:i≤36
  ·simp only [hi,decide_true,cond_true]
   rw [wi64 (i+(1:Int)) (by omega) (by omega),r12Has_eq (m:Int) i (by omega) (by omega) h0 hi]
   have e1:(37 - i).toNat=(37 - (i+1)).toNat+1:=by omega
   have e2:m / 2 ^ i.toNat / 2=m / 2 ^ (i+1).toNat:=by rw [Nat.div_div_eq_div_mul,←Nat.pow_succ,show (i+1).toNat=i.toNat+1 by omega]
   have e3:((m:Int) / 2 ^ i.toNat % 2=1) ↔ m / 2 ^ i.toNat % 2=1:=by
    rw [show (2:Int) ^ i.toNat=((2 ^ i.toNat:Nat): Int) by simp,←Int.natCast_ediv];omega
   rw [e1,cntB,e2]
   by_cases hb:m / 2 ^ i.toNat % 2=1
   ·simp only [e3.2 hb,decide_true,cond_true]
    rw [r12List_go m hm n (i+1) _ (by omega) (by omega) (by omega),List.length_append,List.length_singleton,hb];omega
   ·have hb':m / 2 ^ i.toNat % 2=0:=by omega
    simp only [mt e3.1 hb,decide_false,cond_false]
    rw [r12List_go m hm n (i+1) _ (by omega) (by omega) (by omega),hb'];omega
  ·simp only [hi,decide_false,cond_false]
   rw [show (37 - i).toNat=0 by omega];simp [cntB]
theorem r12Count_eq (m:Nat) (hm:m < 18446744073709551616): r12Count (m:Int)= (cntB 37 m:Nat):= by
 unfold r12Count r12List
 rw [r12List_go m hm _ 0 [] (by omega) (by omega) (by omega)]
 simp
theorem kCheck_eq (m:Int) (h0:0≤m) (h1:m < 18446744073709551616): kCheck m=r12Check m:=by
 obtain ⟨x,rfl⟩:= Int.eq_ofNat_of_zero_le h0
 unfold kCheck r12Check kOnes
 rw [bclr_low (n:=37) rfl h0 (by rw [p64];exact h1) (by decide) (by decide),band_low (n:=37) rfl h0 (by rw [p64];exact h1) (by decide) (by decide)]
 have hp:r1Power 37=137438953472:=by rw [r1Power_eq (by decide) (by decide)];decide
 rw [hp,show (2:Int) ^ 37=137438953472 by decide]
 by_cases hx:(137438953472:Int)≤x
 ·have h3:((x:Int) - x % 137438953472 != 0)= true:=by simp only [bne_iff_ne,ne_eq];omega
  rw [h3,decide_eq_true hx];rfl
 ·have e:(x:Int) % 137438953472=x:=by omega
  rw [e,Int.sub_self,ones_cnt x (by omega),r12Count_eq x (by omega)]
  have h2:cntB 64 x=cntB 37 x:=by
   rw [show 64=37+27 from rfl,cntB_add,Nat.div_eq_of_lt (by omega),cntB_zero];omega
  rw [h2]
  simp [hx]
set_option linter.unusedVariables false
set_option maxRecDepth 8000
def known (k:Int): Bool:=[0,1,2,3,4,5,6,7,8,9,12,13,15,18,19,20,21].contains k
theorem known_cases {k:Int} (h:known k=true): k=0∨k=1∨k=2∨k=3∨k=4∨k=5∨k=6∨k=7∨k=8∨k=9∨k=12∨k=13∨k=15∨k=18∨k=19∨k=20∨k=21:=by
 simpa [known] using h
theorem known_not {k:Int} (h:known k=false): (k==(0:Int))= false∧(k==(1:Int))= false∧(k==(2:Int))= false∧(k==(3:Int))= false∧(k==(4:Int))= false∧(k==(5:Int))= false∧(k==(6:Int))= false∧(k==(7:Int))= false∧(k==(8:Int))= false∧(k==(9:Int))= false∧(k==(12:Int))= false∧(k==(13:Int))= false∧(k==(15:Int))= false∧(k==(18:Int))= false∧(k==(19:Int))= false∧(k==(20:Int))= false∧(k==(21:Int))= false:=by
 simp [known] at h
 simp only [beq_eq_false_iff_ne,ne_eq]
 omega
theorem proc_eq (k:Int): cProc k=r26Proc k∧cProc (cProc k)= cProc k:=by
 cases h:known k
 ·obtain ⟨e0,e1,e2,e3,e4,e5,e6,e7,e8,e9,e12,e13,e15,e18,e19,e20,e21⟩:= known_not h
  have h1:cProc k = -1:=by unfold cProc;simp only [e0,e1,e2,e3,e4,e5,e6,e8,e9,e12,e15,e18,e19,e20,e21,cond_false]
  have h2:r26Proc k = -1:=by unfold r26Proc;simp only [e0,e1,e2,e3,e4,e5,e6,e8,e9,e12,e15,e18,e19,e20,e21,cond_false]
  rw [h1,h2]
  exact ⟨rfl,rfl⟩
 ·rcases known_cases h with rfl | rfl | rfl | rfl | rfl | rfl | rfl | rfl | rfl | rfl | rfl | rfl | rfl | rfl | rfl | rfl | rfl <;> exact ⟨rfl,rfl⟩
set_option linter.unusedVariables false
set_option linter.unusedSimpArgs false
set_option maxRecDepth 8000
def valK (c:Control): List Int:=cond (c.Kind==0) ([IntKind.wrap .u64 c.Update.WinSize,IntKind.wrap .u64 c.Update.WinOffset,IntKind.wrap .u64 c.Update.Interval,IntKind.wrap .u64 c.Update.Latency,IntKind.wrap .u64 c.Update.Timeout,IntKind.wrap .u64 c.Instant]) (cond (c.Kind==1) ([c.Map,IntKind.wrap .u64 c.Instant]) (cond (c.Kind==2) ([IntKind.wrap .u64 c.Reason]) (cond (c.Kind==3) ([c.Salt,c.Mark]) (cond (c.Kind==4) ([c.Salt]) (cond (c.Kind==5) ([]) (cond (c.Kind==6) ([]) (cond (c.Kind==7) ([IntKind.wrap .u64 c.Rejected]) (cond (c.Kind==8) ([c.Features]) (cond (c.Kind==9) ([c.Features]) (cond (c.Kind==12) ([IntKind.wrap .u64 c.Version]) (cond (c.Kind==13) ([IntKind.wrap .u64 c.Reason,IntKind.wrap .u64 c.Rejected]) (cond (c.Kind==15) ([IntKind.wrap .u64 c.Update.WinSize,IntKind.wrap .u64 c.Update.WinOffset,IntKind.wrap .u64 c.Update.Interval,IntKind.wrap .u64 c.Update.Latency,IntKind.wrap .u64 c.Update.Timeout]) (cond (c.Kind==18) ([]) (cond (c.Kind==19) ([]) (cond (c.Kind==20) ([IntKind.wrap .u64 c.Length]) (cond (c.Kind==21) ([IntKind.wrap .u64 c.Length]) ([])))))))))))))))))
def setK (k:Int) (l:List Int): Control:=cond (k==0) (⟨0,⟨IntKind.wrap .i64 (l.getD 0 0),IntKind.wrap .i64 (l.getD 1 0),IntKind.wrap .i64 (l.getD 2 0),IntKind.wrap .i64 (l.getD 3 0),IntKind.wrap .i64 (l.getD 4 0)⟩,0,IntKind.wrap .u16 (l.getD 5 0),0,0,0,0,0,0,0⟩) (cond (k==1) (⟨1,⟨0,0,0,0,0⟩,l.getD 0 0,IntKind.wrap .u16 (l.getD 1 0),0,0,0,0,0,0,0⟩) (cond (k==2) (⟨2,⟨0,0,0,0,0⟩,0,0,IntKind.wrap .i64 (l.getD 0 0),0,0,0,0,0,0⟩) (cond (k==3) (⟨3,⟨0,0,0,0,0⟩,0,0,0,0,l.getD 0 0,l.getD 1 0,0,0,0⟩) (cond (k==4) (⟨4,⟨0,0,0,0,0⟩,0,0,0,0,l.getD 0 0,0,0,0,0⟩) (cond (k==5) (⟨5,⟨0,0,0,0,0⟩,0,0,0,0,0,0,0,0,0⟩) (cond (k==6) (⟨6,⟨0,0,0,0,0⟩,0,0,0,0,0,0,0,0,0⟩) (cond (k==7) (⟨7,⟨0,0,0,0,0⟩,0,0,0,IntKind.wrap .i64 (l.getD 0 0),0,0,0,0,0⟩) (cond (k==8) (⟨8,⟨0,0,0,0,0⟩,0,0,0,0,0,0,l.getD 0 0,0,0⟩) (cond (k==9) (⟨9,⟨0,0,0,0,0⟩,0,0,0,0,0,0,l.getD 0 0,0,0⟩) (cond (k==12) (⟨12,⟨0,0,0,0,0⟩,0,0,0,0,0,0,0,IntKind.wrap .i64 (l.getD 0 0),0⟩) (cond (k==13) (⟨13,⟨0,0,0,0,0⟩,0,0,IntKind.wrap .i64 (l.getD 0 0),IntKind.wrap .i64 (l.getD 1 0),0,0,0,0,0⟩) (cond (k==15) (⟨15,⟨IntKind.wrap .i64 (l.getD 0 0),IntKind.wrap .i64 (l.getD 1 0),IntKind.wrap .i64 (l.getD 2 0),IntKind.wrap .i64 (l.getD 3 0),IntKind.wrap .i64 (l.getD 4 0)⟩,0,0,0,0,0,0,0,0,0⟩) (cond (k==18) (⟨18,⟨0,0,0,0,0⟩,0,0,0,0,0,0,0,0,0⟩) (cond (k==19) (⟨19,⟨0,0,0,0,0⟩,0,0,0,0,0,0,0,0,0⟩) (cond (k==20) (⟨20,⟨0,0,0,0,0⟩,0,0,0,0,0,0,0,0,IntKind.wrap .i64 (l.getD 0 0)⟩) (cond (k==21) (⟨21,⟨0,0,0,0,0⟩,0,0,0,0,0,0,0,0,IntKind.wrap .i64 (l.getD 0 0)⟩) (Control.zero)))))))))))))))))
def chkK (c:Control): Int:=cond (c.Kind==0) (cCheckUpdate c.Update) (cond (c.Kind==1) (kCheck c.Map) (cond (c.Kind==2) (cIn c.Reason 0 255) (cond (c.Kind==3) (0) (cond (c.Kind==4) (0) (cond (c.Kind==5) (0) (cond (c.Kind==6) (0) (cond (c.Kind==7) (cIn c.Rejected 0 255) (cond (c.Kind==8) (0) (cond (c.Kind==9) (0) (cond (c.Kind==12) (cIn c.Version 0 255) (cond (c.Kind==13) (maxI (cIn c.Reason 0 255) (cIn c.Rejected 0 255)) (cond (c.Kind==15) (cCheckUpdate c.Update) (cond (c.Kind==18) (0) (cond (c.Kind==19) (0) (cond (c.Kind==20) (cIn c.Length 27 251) (cond (c.Kind==21) (cIn c.Length 27 251) (12)))))))))))))))))
def refK (c:Control): Int:=cond (c.Kind==0) (cond (r17CheckUpdate c.Update != 0) (r17CheckUpdate c.Update) (cond (bif bif bif !r26isByte c.Reason then true else !r26isByte c.Rejected then true else !r26isByte c.Version then true else bif false then bif decide (c.Length < (27:Int)) then true else decide ((251:Int) < c.Length) else false) ((5:Int)) ((0:Int)))) (cond (c.Kind==1) (cond (r12Check c.Map != 0) (r12Check c.Map) (cond (bif bif bif !r26isByte c.Reason then true else !r26isByte c.Rejected then true else !r26isByte c.Version then true else bif false then bif decide (c.Length < (27:Int)) then true else decide ((251:Int) < c.Length) else false) ((5:Int)) ((0:Int)))) (cond (c.Kind==2) (cond (bif bif bif !r26isByte c.Reason then true else !r26isByte c.Rejected then true else !r26isByte c.Version then true else bif false then bif decide (c.Length < (27:Int)) then true else decide ((251:Int) < c.Length) else false) ((5:Int)) ((0:Int))) (cond (c.Kind==3) (cond (bif bif bif !r26isByte c.Reason then true else !r26isByte c.Rejected then true else !r26isByte c.Version then true else bif false then bif decide (c.Length < (27:Int)) then true else decide ((251:Int) < c.Length) else false) ((5:Int)) ((0:Int))) (cond (c.Kind==4) (cond (bif bif bif !r26isByte c.Reason then true else !r26isByte c.Rejected then true else !r26isByte c.Version then true else bif false then bif decide (c.Length < (27:Int)) then true else decide ((251:Int) < c.Length) else false) ((5:Int)) ((0:Int))) (cond (c.Kind==5) (cond (bif bif bif !r26isByte c.Reason then true else !r26isByte c.Rejected then true else !r26isByte c.Version then true else bif false then bif decide (c.Length < (27:Int)) then true else decide ((251:Int) < c.Length) else false) ((5:Int)) ((0:Int))) (cond (c.Kind==6) (cond (bif bif bif !r26isByte c.Reason then true else !r26isByte c.Rejected then true else !r26isByte c.Version then true else bif false then bif decide (c.Length < (27:Int)) then true else decide ((251:Int) < c.Length) else false) ((5:Int)) ((0:Int))) (cond (c.Kind==7) (cond (bif bif bif !r26isByte c.Reason then true else !r26isByte c.Rejected then true else !r26isByte c.Version then true else bif false then bif decide (c.Length < (27:Int)) then true else decide ((251:Int) < c.Length) else false) ((5:Int)) ((0:Int))) (cond (c.Kind==8) (cond (bif bif bif !r26isByte c.Reason then true else !r26isByte c.Rejected then true else !r26isByte c.Version then true else bif false then bif decide (c.Length < (27:Int)) then true else decide ((251:Int) < c.Length) else false) ((5:Int)) ((0:Int))) (cond (c.Kind==9) (cond (bif bif bif !r26isByte c.Reason then true else !r26isByte c.Rejected then true else !r26isByte c.Version then true else bif false then bif decide (c.Length < (27:Int)) then true else decide ((251:Int) < c.Length) else false) ((5:Int)) ((0:Int))) (cond (c.Kind==12) (cond (bif bif bif !r26isByte c.Reason then true else !r26isByte c.Rejected then true else !r26isByte c.Version then true else bif false then bif decide (c.Length < (27:Int)) then true else decide ((251:Int) < c.Length) else false) ((5:Int)) ((0:Int))) (cond (c.Kind==13) (cond (bif bif bif !r26isByte c.Reason then true else !r26isByte c.Rejected then true else !r26isByte c.Version then true else bif false then bif decide (c.Length < (27:Int)) then true else decide ((251:Int) < c.Length) else false) ((5:Int)) ((0:Int))) (cond (c.Kind==15) (cond (r17CheckUpdate c.Update != 0) (r17CheckUpdate c.Update) (cond (bif bif bif !r26isByte c.Reason then true else !r26isByte c.Rejected then true else !r26isByte c.Version then true else bif false then bif decide (c.Length < (27:Int)) then true else decide ((251:Int) < c.Length) else false) ((5:Int)) ((0:Int)))) (cond (c.Kind==18) (cond (bif bif bif !r26isByte c.Reason then true else !r26isByte c.Rejected then true else !r26isByte c.Version then true else bif false then bif decide (c.Length < (27:Int)) then true else decide ((251:Int) < c.Length) else false) ((5:Int)) ((0:Int))) (cond (c.Kind==19) (cond (bif bif bif !r26isByte c.Reason then true else !r26isByte c.Rejected then true else !r26isByte c.Version then true else bif false then bif decide (c.Length < (27:Int)) then true else decide ((251:Int) < c.Length) else false) ((5:Int)) ((0:Int))) (cond (c.Kind==20) (cond (bif bif bif !r26isByte c.Reason then true else !r26isByte c.Rejected then true else !r26isByte c.Version then true else bif true then bif decide (c.Length < (27:Int)) then true else decide ((251:Int) < c.Length) else false) ((5:Int)) ((0:Int))) (cond (c.Kind==21) (cond (bif bif bif !r26isByte c.Reason then true else !r26isByte c.Rejected then true else !r26isByte c.Version then true else bif true then bif decide (c.Length < (27:Int)) then true else decide ((251:Int) < c.Length) else false) ((5:Int)) ((0:Int))) (12)))))))))))))))))
def eqC (x y:Control): Bool:=x.Kind==y.Kind && (x.Update.WinSize==y.Update.WinSize && (x.Update.WinOffset==y.Update.WinOffset && (x.Update.Interval==y.Update.Interval && (x.Update.Latency==y.Update.Latency && (x.Update.Timeout==y.Update.Timeout && (x.Map==y.Map && (x.Instant==y.Instant && (x.Reason==y.Reason && (x.Rejected==y.Rejected && (x.Salt==y.Salt && (x.Mark==y.Mark && (x.Features==y.Features && (x.Version==y.Version && x.Length==y.Length)))))))))))))
theorem eqC_iff (x y:Control): (eqC x y=true)= (x=y):= by
 obtain ⟨k,⟨a,b,c,d,e⟩,m,i,r,j,s,q,f,v,l⟩:= x
 obtain ⟨k',⟨a',b',c',d',e'⟩,m',i',r',j',s',q',f',v',l'⟩:= y
 simp only [eqC,Bool.and_eq_true,beq_iff_eq,Control.mk.injEq,Update.mk.injEq]
 refine propext ⟨fun h=>?_,fun h=>?_⟩
 ·obtain ⟨h1,h2,h3,h4,h5,h6,h7,h8,h9,h10,h11,h12,h13,h14,h15⟩:= h
  exact ⟨h1,⟨h2,h3,h4,h5,h6⟩,h7,h8,h9,h10,h11,h12,h13,h14,h15⟩
 ·obtain ⟨h1,⟨h2,h3,h4,h5,h6⟩,h7,h8,h9,h10,h11,h12,h13,h14,h15⟩:= h
  exact ⟨h1,h2,h3,h4,h5,h6,h7,h8,h9,h10,h11,h12,h13,h14,h15⟩
theorem w64 {a:Int} (h:IntKind.has .i64 a): IntKind.wrap .i64 (IntKind.wrap .u64 a)= a:=by
 simp [IntKind.has,IntKind.min,IntKind.max,IntKind.bits,IntKind.signed] at h
 simp [IntKind.wrap,IntKind.bits,IntKind.signed];omega
theorem w16 {a:Int} (h:IntKind.has .u16 a): IntKind.wrap .u16 (IntKind.wrap .u64 a)= a:=by
 simp [IntKind.has,IntKind.min,IntKind.max,IntKind.bits,IntKind.signed] at h
 rw [wu16m,wu64m];omega
theorem isByte_eq (n:Int): r26isByte n = !(bif decide (n < 0) then true else decide (255 < n)):= by
 unfold r26isByte
 by_cases h0:n < 0
 ·rw [decide_eq_true h0,decide_eq_false (by omega)];rfl
 ·rw [decide_eq_false h0,decide_eq_true (by omega)]
  by_cases h1:255 < n
  ·rw [decide_eq_true h1,decide_eq_false (by omega)];rfl
  ·rw [decide_eq_false h1,decide_eq_true (by omega)];rfl
theorem cond_self0 (t:Int): cond (t != 0) t 0=t:=by
 by_cases h:t=0
 ·subst h;rfl
 ·rw [show (t != 0)= true by simp [h]];rfl
section
variable (a b c d e m i r j s k f v l:Int)
theorem ck0:cCheck ⟨0,⟨a,b,c,d,e⟩,m,i,r,j,s,k,f,v,l⟩= cond (!(eqC (setK 0 (valK ⟨0,⟨a,b,c,d,e⟩,m,i,r,j,s,k,f,v,l⟩)) ⟨0,⟨a,b,c,d,e⟩,m,i,r,j,s,k,f,v,l⟩)) 1 (chkK ⟨0,⟨a,b,c,d,e⟩,m,i,r,j,s,k,f,v,l⟩):= by kernel_rfl
theorem rk0:r26Check ⟨0,⟨a,b,c,d,e⟩,m,i,r,j,s,k,f,v,l⟩= cond (!(eqC (r26rest ⟨0,⟨a,b,c,d,e⟩,m,i,r,j,s,k,f,v,l⟩) Control.zero)) 1 (refK ⟨0,⟨a,b,c,d,e⟩,m,i,r,j,s,k,f,v,l⟩):= by kernel_rfl
theorem sv0:setK 0 (valK ⟨0,⟨a,b,c,d,e⟩,m,i,r,j,s,k,f,v,l⟩)= ⟨0,⟨IntKind.wrap .i64 (IntKind.wrap .u64 a),IntKind.wrap .i64 (IntKind.wrap .u64 b),IntKind.wrap .i64 (IntKind.wrap .u64 c),IntKind.wrap .i64 (IntKind.wrap .u64 d),IntKind.wrap .i64 (IntKind.wrap .u64 e)⟩,0,IntKind.wrap .u16 (IntKind.wrap .u64 i),0,0,0,0,0,0,0⟩:= by kernel_rfl
theorem rr0:r26rest ⟨0,⟨a,b,c,d,e⟩,m,i,r,j,s,k,f,v,l⟩= ⟨0,⟨0,0,0,0,0⟩,m,0,r,j,s,k,f,v,l⟩:= by kernel_rfl
theorem ez0 (h:Control.has ⟨0,⟨a,b,c,d,e⟩,m,i,r,j,s,k,f,v,l⟩): eqC (setK 0 (valK ⟨0,⟨a,b,c,d,e⟩,m,i,r,j,s,k,f,v,l⟩)) ⟨0,⟨a,b,c,d,e⟩,m,i,r,j,s,k,f,v,l⟩= eqC (r26rest ⟨0,⟨a,b,c,d,e⟩,m,i,r,j,s,k,f,v,l⟩) Control.zero:=by
 obtain ⟨h0,⟨ha,hb,hc,hd,he⟩,hm,hi,hr,hj,hs,hk,hf,hv,hl⟩:= h
 rw [Bool.eq_iff_iff,eqC_iff,eqC_iff,sv0,rr0]
 rw [w64 ha,w64 hb,w64 hc,w64 hd,w64 he,w16 hi]
 show (_=_) ↔ (_=(⟨0,⟨0,0,0,0,0⟩,0,0,0,0,0,0,0,0,0⟩: Control))
 simp only [Control.mk.injEq,Update.mk.injEq,true_and,and_true,and_self]
 omega
theorem fk0 (h:Control.has ⟨0,⟨a,b,c,d,e⟩,m,i,r,j,s,k,f,v,l⟩) (hz:eqC (r26rest ⟨0,⟨a,b,c,d,e⟩,m,i,r,j,s,k,f,v,l⟩) Control.zero=true): chkK ⟨0,⟨a,b,c,d,e⟩,m,i,r,j,s,k,f,v,l⟩= refK ⟨0,⟨a,b,c,d,e⟩,m,i,r,j,s,k,f,v,l⟩:= by
 rw [eqC_iff,rr0] at hz
 have hz:_=(⟨0,⟨0,0,0,0,0⟩,0,0,0,0,0,0,0,0,0⟩: Control):= hz
 simp only [Control.mk.injEq,Update.mk.injEq] at hz
 obtain rfl:r=0:=by omega
 obtain rfl:j=0:=by omega
 obtain rfl:v=0:=by omega
 show cCheckUpdate ⟨a,b,c,d,e⟩= cond (r17CheckUpdate ⟨a,b,c,d,e⟩ != 0) (r17CheckUpdate ⟨a,b,c,d,e⟩) 0
 rw [checkUpdate_eq,cond_self0]
theorem ck1:cCheck ⟨1,⟨a,b,c,d,e⟩,m,i,r,j,s,k,f,v,l⟩= cond (!(eqC (setK 1 (valK ⟨1,⟨a,b,c,d,e⟩,m,i,r,j,s,k,f,v,l⟩)) ⟨1,⟨a,b,c,d,e⟩,m,i,r,j,s,k,f,v,l⟩)) 1 (chkK ⟨1,⟨a,b,c,d,e⟩,m,i,r,j,s,k,f,v,l⟩):= by kernel_rfl
theorem rk1:r26Check ⟨1,⟨a,b,c,d,e⟩,m,i,r,j,s,k,f,v,l⟩= cond (!(eqC (r26rest ⟨1,⟨a,b,c,d,e⟩,m,i,r,j,s,k,f,v,l⟩) Control.zero)) 1 (refK ⟨1,⟨a,b,c,d,e⟩,m,i,r,j,s,k,f,v,l⟩):= by kernel_rfl
theorem sv1:setK 1 (valK ⟨1,⟨a,b,c,d,e⟩,m,i,r,j,s,k,f,v,l⟩)= ⟨1,⟨0,0,0,0,0⟩,m,IntKind.wrap .u16 (IntKind.wrap .u64 i),0,0,0,0,0,0,0⟩:= by kernel_rfl
theorem rr1:r26rest ⟨1,⟨a,b,c,d,e⟩,m,i,r,j,s,k,f,v,l⟩= ⟨0,⟨a,b,c,d,e⟩,0,0,r,j,s,k,f,v,l⟩:= by kernel_rfl
theorem ez1 (h:Control.has ⟨1,⟨a,b,c,d,e⟩,m,i,r,j,s,k,f,v,l⟩): eqC (setK 1 (valK ⟨1,⟨a,b,c,d,e⟩,m,i,r,j,s,k,f,v,l⟩)) ⟨1,⟨a,b,c,d,e⟩,m,i,r,j,s,k,f,v,l⟩= eqC (r26rest ⟨1,⟨a,b,c,d,e⟩,m,i,r,j,s,k,f,v,l⟩) Control.zero:=by
 obtain ⟨h0,⟨ha,hb,hc,hd,he⟩,hm,hi,hr,hj,hs,hk,hf,hv,hl⟩:= h
 rw [Bool.eq_iff_iff,eqC_iff,eqC_iff,sv1,rr1]
 rw [w16 hi]
 show (_=_) ↔ (_=(⟨0,⟨0,0,0,0,0⟩,0,0,0,0,0,0,0,0,0⟩: Control))
 simp only [Control.mk.injEq,Update.mk.injEq,true_and,and_true,and_self]
 omega
theorem fk1 (h:Control.has ⟨1,⟨a,b,c,d,e⟩,m,i,r,j,s,k,f,v,l⟩) (hz:eqC (r26rest ⟨1,⟨a,b,c,d,e⟩,m,i,r,j,s,k,f,v,l⟩) Control.zero=true): chkK ⟨1,⟨a,b,c,d,e⟩,m,i,r,j,s,k,f,v,l⟩= refK ⟨1,⟨a,b,c,d,e⟩,m,i,r,j,s,k,f,v,l⟩:= by
 rw [eqC_iff,rr1] at hz
 have hz:_=(⟨0,⟨0,0,0,0,0⟩,0,0,0,0,0,0,0,0,0⟩: Control):= hz
 simp only [Control.mk.injEq,Update.mk.injEq] at hz
 obtain rfl:r=0:=by omega
 obtain rfl:j=0:=by omega
 obtain rfl:v=0:=by omega
 show kCheck m=cond (r12Check m != 0) (r12Check m) 0
 have hm:=h.2.2.1
 simp [IntKind.has,IntKind.min,IntKind.max,IntKind.bits,IntKind.signed] at hm
 rw [kCheck_eq m (by omega) (by omega),cond_self0]
theorem ck2:cCheck ⟨2,⟨a,b,c,d,e⟩,m,i,r,j,s,k,f,v,l⟩= cond (!(eqC (setK 2 (valK ⟨2,⟨a,b,c,d,e⟩,m,i,r,j,s,k,f,v,l⟩)) ⟨2,⟨a,b,c,d,e⟩,m,i,r,j,s,k,f,v,l⟩)) 1 (chkK ⟨2,⟨a,b,c,d,e⟩,m,i,r,j,s,k,f,v,l⟩):= by kernel_rfl
theorem rk2:r26Check ⟨2,⟨a,b,c,d,e⟩,m,i,r,j,s,k,f,v,l⟩= cond (!(eqC (r26rest ⟨2,⟨a,b,c,d,e⟩,m,i,r,j,s,k,f,v,l⟩) Control.zero)) 1 (refK ⟨2,⟨a,b,c,d,e⟩,m,i,r,j,s,k,f,v,l⟩):= by kernel_rfl
theorem sv2:setK 2 (valK ⟨2,⟨a,b,c,d,e⟩,m,i,r,j,s,k,f,v,l⟩)= ⟨2,⟨0,0,0,0,0⟩,0,0,IntKind.wrap .i64 (IntKind.wrap .u64 r),0,0,0,0,0,0⟩:= by kernel_rfl
theorem rr2:r26rest ⟨2,⟨a,b,c,d,e⟩,m,i,r,j,s,k,f,v,l⟩= ⟨0,⟨a,b,c,d,e⟩,m,i,0,j,s,k,f,v,l⟩:= by kernel_rfl
theorem ez2 (h:Control.has ⟨2,⟨a,b,c,d,e⟩,m,i,r,j,s,k,f,v,l⟩): eqC (setK 2 (valK ⟨2,⟨a,b,c,d,e⟩,m,i,r,j,s,k,f,v,l⟩)) ⟨2,⟨a,b,c,d,e⟩,m,i,r,j,s,k,f,v,l⟩= eqC (r26rest ⟨2,⟨a,b,c,d,e⟩,m,i,r,j,s,k,f,v,l⟩) Control.zero:=by
 obtain ⟨h0,⟨ha,hb,hc,hd,he⟩,hm,hi,hr,hj,hs,hk,hf,hv,hl⟩:= h
 rw [Bool.eq_iff_iff,eqC_iff,eqC_iff,sv2,rr2]
 rw [w64 hr]
 show (_=_) ↔ (_=(⟨0,⟨0,0,0,0,0⟩,0,0,0,0,0,0,0,0,0⟩: Control))
 simp only [Control.mk.injEq,Update.mk.injEq,true_and,and_true,and_self]
 omega
theorem fk2 (h:Control.has ⟨2,⟨a,b,c,d,e⟩,m,i,r,j,s,k,f,v,l⟩) (hz:eqC (r26rest ⟨2,⟨a,b,c,d,e⟩,m,i,r,j,s,k,f,v,l⟩) Control.zero=true): chkK ⟨2,⟨a,b,c,d,e⟩,m,i,r,j,s,k,f,v,l⟩= refK ⟨2,⟨a,b,c,d,e⟩,m,i,r,j,s,k,f,v,l⟩:= by
 rw [eqC_iff,rr2] at hz
 have hz:_=(⟨0,⟨0,0,0,0,0⟩,0,0,0,0,0,0,0,0,0⟩: Control):= hz
 simp only [Control.mk.injEq,Update.mk.injEq] at hz
 obtain rfl:j=0:=by omega
 obtain rfl:v=0:=by omega
 show cond (bif decide (r < 0) then true else decide (255 < r)) 5 0=cond (bif bif bif !r26isByte r then true else !r26isByte 0 then true else !r26isByte 0 then true else bif false then bif decide (l < (27:Int)) then true else decide ((251:Int) < l) else false) 5 0
 rw [isByte_eq r]
 generalize (bif decide (r < 0) then true else decide (255 < r))= B
 cases B <;> rfl
theorem ck3:cCheck ⟨3,⟨a,b,c,d,e⟩,m,i,r,j,s,k,f,v,l⟩= cond (!(eqC (setK 3 (valK ⟨3,⟨a,b,c,d,e⟩,m,i,r,j,s,k,f,v,l⟩)) ⟨3,⟨a,b,c,d,e⟩,m,i,r,j,s,k,f,v,l⟩)) 1 (chkK ⟨3,⟨a,b,c,d,e⟩,m,i,r,j,s,k,f,v,l⟩):= by kernel_rfl
theorem rk3:r26Check ⟨3,⟨a,b,c,d,e⟩,m,i,r,j,s,k,f,v,l⟩= cond (!(eqC (r26rest ⟨3,⟨a,b,c,d,e⟩,m,i,r,j,s,k,f,v,l⟩) Control.zero)) 1 (refK ⟨3,⟨a,b,c,d,e⟩,m,i,r,j,s,k,f,v,l⟩):= by kernel_rfl
theorem sv3:setK 3 (valK ⟨3,⟨a,b,c,d,e⟩,m,i,r,j,s,k,f,v,l⟩)= ⟨3,⟨0,0,0,0,0⟩,0,0,0,0,s,k,0,0,0⟩:= by kernel_rfl
theorem rr3:r26rest ⟨3,⟨a,b,c,d,e⟩,m,i,r,j,s,k,f,v,l⟩= ⟨0,⟨a,b,c,d,e⟩,m,i,r,j,0,0,f,v,l⟩:= by kernel_rfl
theorem ez3 (h:Control.has ⟨3,⟨a,b,c,d,e⟩,m,i,r,j,s,k,f,v,l⟩): eqC (setK 3 (valK ⟨3,⟨a,b,c,d,e⟩,m,i,r,j,s,k,f,v,l⟩)) ⟨3,⟨a,b,c,d,e⟩,m,i,r,j,s,k,f,v,l⟩= eqC (r26rest ⟨3,⟨a,b,c,d,e⟩,m,i,r,j,s,k,f,v,l⟩) Control.zero:=by
 obtain ⟨h0,⟨ha,hb,hc,hd,he⟩,hm,hi,hr,hj,hs,hk,hf,hv,hl⟩:= h
 rw [Bool.eq_iff_iff,eqC_iff,eqC_iff,sv3,rr3]
 show (_=_) ↔ (_=(⟨0,⟨0,0,0,0,0⟩,0,0,0,0,0,0,0,0,0⟩: Control))
 simp only [Control.mk.injEq,Update.mk.injEq,true_and,and_true,and_self]
 omega
theorem fk3 (h:Control.has ⟨3,⟨a,b,c,d,e⟩,m,i,r,j,s,k,f,v,l⟩) (hz:eqC (r26rest ⟨3,⟨a,b,c,d,e⟩,m,i,r,j,s,k,f,v,l⟩) Control.zero=true): chkK ⟨3,⟨a,b,c,d,e⟩,m,i,r,j,s,k,f,v,l⟩= refK ⟨3,⟨a,b,c,d,e⟩,m,i,r,j,s,k,f,v,l⟩:= by
 rw [eqC_iff,rr3] at hz
 have hz:_=(⟨0,⟨0,0,0,0,0⟩,0,0,0,0,0,0,0,0,0⟩: Control):= hz
 simp only [Control.mk.injEq,Update.mk.injEq] at hz
 obtain rfl:r=0:=by omega
 obtain rfl:j=0:=by omega
 obtain rfl:v=0:=by omega
 rfl
theorem ck4:cCheck ⟨4,⟨a,b,c,d,e⟩,m,i,r,j,s,k,f,v,l⟩= cond (!(eqC (setK 4 (valK ⟨4,⟨a,b,c,d,e⟩,m,i,r,j,s,k,f,v,l⟩)) ⟨4,⟨a,b,c,d,e⟩,m,i,r,j,s,k,f,v,l⟩)) 1 (chkK ⟨4,⟨a,b,c,d,e⟩,m,i,r,j,s,k,f,v,l⟩):= by kernel_rfl
theorem rk4:r26Check ⟨4,⟨a,b,c,d,e⟩,m,i,r,j,s,k,f,v,l⟩= cond (!(eqC (r26rest ⟨4,⟨a,b,c,d,e⟩,m,i,r,j,s,k,f,v,l⟩) Control.zero)) 1 (refK ⟨4,⟨a,b,c,d,e⟩,m,i,r,j,s,k,f,v,l⟩):= by kernel_rfl
theorem sv4:setK 4 (valK ⟨4,⟨a,b,c,d,e⟩,m,i,r,j,s,k,f,v,l⟩)= ⟨4,⟨0,0,0,0,0⟩,0,0,0,0,s,0,0,0,0⟩:= by kernel_rfl
theorem rr4:r26rest ⟨4,⟨a,b,c,d,e⟩,m,i,r,j,s,k,f,v,l⟩= ⟨0,⟨a,b,c,d,e⟩,m,i,r,j,0,k,f,v,l⟩:= by kernel_rfl
theorem ez4 (h:Control.has ⟨4,⟨a,b,c,d,e⟩,m,i,r,j,s,k,f,v,l⟩): eqC (setK 4 (valK ⟨4,⟨a,b,c,d,e⟩,m,i,r,j,s,k,f,v,l⟩)) ⟨4,⟨a,b,c,d,e⟩,m,i,r,j,s,k,f,v,l⟩= eqC (r26rest ⟨4,⟨a,b,c,d,e⟩,m,i,r,j,s,k,f,v,l⟩) Control.zero:=by
 obtain ⟨h0,⟨ha,hb,hc,hd,he⟩,hm,hi,hr,hj,hs,hk,hf,hv,hl⟩:= h
 rw [Bool.eq_iff_iff,eqC_iff,eqC_iff,sv4,rr4]
 show (_=_) ↔ (_=(⟨0,⟨0,0,0,0,0⟩,0,0,0,0,0,0,0,0,0⟩: Control))
 simp only [Control.mk.injEq,Update.mk.injEq,true_and,and_true,and_self]
 omega
theorem fk4 (h:Control.has ⟨4,⟨a,b,c,d,e⟩,m,i,r,j,s,k,f,v,l⟩) (hz:eqC (r26rest ⟨4,⟨a,b,c,d,e⟩,m,i,r,j,s,k,f,v,l⟩) Control.zero=true): chkK ⟨4,⟨a,b,c,d,e⟩,m,i,r,j,s,k,f,v,l⟩= refK ⟨4,⟨a,b,c,d,e⟩,m,i,r,j,s,k,f,v,l⟩:= by
 rw [eqC_iff,rr4] at hz
 have hz:_=(⟨0,⟨0,0,0,0,0⟩,0,0,0,0,0,0,0,0,0⟩: Control):= hz
 simp only [Control.mk.injEq,Update.mk.injEq] at hz
 obtain rfl:r=0:=by omega
 obtain rfl:j=0:=by omega
 obtain rfl:v=0:=by omega
 rfl
theorem ck5:cCheck ⟨5,⟨a,b,c,d,e⟩,m,i,r,j,s,k,f,v,l⟩= cond (!(eqC (setK 5 (valK ⟨5,⟨a,b,c,d,e⟩,m,i,r,j,s,k,f,v,l⟩)) ⟨5,⟨a,b,c,d,e⟩,m,i,r,j,s,k,f,v,l⟩)) 1 (chkK ⟨5,⟨a,b,c,d,e⟩,m,i,r,j,s,k,f,v,l⟩):= by kernel_rfl
theorem rk5:r26Check ⟨5,⟨a,b,c,d,e⟩,m,i,r,j,s,k,f,v,l⟩= cond (!(eqC (r26rest ⟨5,⟨a,b,c,d,e⟩,m,i,r,j,s,k,f,v,l⟩) Control.zero)) 1 (refK ⟨5,⟨a,b,c,d,e⟩,m,i,r,j,s,k,f,v,l⟩):= by kernel_rfl
theorem sv5:setK 5 (valK ⟨5,⟨a,b,c,d,e⟩,m,i,r,j,s,k,f,v,l⟩)= ⟨5,⟨0,0,0,0,0⟩,0,0,0,0,0,0,0,0,0⟩:= by kernel_rfl
theorem rr5:r26rest ⟨5,⟨a,b,c,d,e⟩,m,i,r,j,s,k,f,v,l⟩= ⟨0,⟨a,b,c,d,e⟩,m,i,r,j,s,k,f,v,l⟩:= by kernel_rfl
theorem ez5 (h:Control.has ⟨5,⟨a,b,c,d,e⟩,m,i,r,j,s,k,f,v,l⟩): eqC (setK 5 (valK ⟨5,⟨a,b,c,d,e⟩,m,i,r,j,s,k,f,v,l⟩)) ⟨5,⟨a,b,c,d,e⟩,m,i,r,j,s,k,f,v,l⟩= eqC (r26rest ⟨5,⟨a,b,c,d,e⟩,m,i,r,j,s,k,f,v,l⟩) Control.zero:=by
 obtain ⟨h0,⟨ha,hb,hc,hd,he⟩,hm,hi,hr,hj,hs,hk,hf,hv,hl⟩:= h
 rw [Bool.eq_iff_iff,eqC_iff,eqC_iff,sv5,rr5]
 show (_=_) ↔ (_=(⟨0,⟨0,0,0,0,0⟩,0,0,0,0,0,0,0,0,0⟩: Control))
 simp only [Control.mk.injEq,Update.mk.injEq,true_and,and_true,and_self]
 omega
theorem fk5 (h:Control.has ⟨5,⟨a,b,c,d,e⟩,m,i,r,j,s,k,f,v,l⟩) (hz:eqC (r26rest ⟨5,⟨a,b,c,d,e⟩,m,i,r,j,s,k,f,v,l⟩) Control.zero=true): chkK ⟨5,⟨a,b,c,d,e⟩,m,i,r,j,s,k,f,v,l⟩= refK ⟨5,⟨a,b,c,d,e⟩,m,i,r,j,s,k,f,v,l⟩:= by
 rw [eqC_iff,rr5] at hz
 have hz:_=(⟨0,⟨0,0,0,0,0⟩,0,0,0,0,0,0,0,0,0⟩: Control):= hz
 simp only [Control.mk.injEq,Update.mk.injEq] at hz
 obtain rfl:r=0:=by omega
 obtain rfl:j=0:=by omega
 obtain rfl:v=0:=by omega
 rfl
theorem ck6:cCheck ⟨6,⟨a,b,c,d,e⟩,m,i,r,j,s,k,f,v,l⟩= cond (!(eqC (setK 6 (valK ⟨6,⟨a,b,c,d,e⟩,m,i,r,j,s,k,f,v,l⟩)) ⟨6,⟨a,b,c,d,e⟩,m,i,r,j,s,k,f,v,l⟩)) 1 (chkK ⟨6,⟨a,b,c,d,e⟩,m,i,r,j,s,k,f,v,l⟩):= by kernel_rfl
theorem rk6:r26Check ⟨6,⟨a,b,c,d,e⟩,m,i,r,j,s,k,f,v,l⟩= cond (!(eqC (r26rest ⟨6,⟨a,b,c,d,e⟩,m,i,r,j,s,k,f,v,l⟩) Control.zero)) 1 (refK ⟨6,⟨a,b,c,d,e⟩,m,i,r,j,s,k,f,v,l⟩):= by kernel_rfl
theorem sv6:setK 6 (valK ⟨6,⟨a,b,c,d,e⟩,m,i,r,j,s,k,f,v,l⟩)= ⟨6,⟨0,0,0,0,0⟩,0,0,0,0,0,0,0,0,0⟩:= by kernel_rfl
theorem rr6:r26rest ⟨6,⟨a,b,c,d,e⟩,m,i,r,j,s,k,f,v,l⟩= ⟨0,⟨a,b,c,d,e⟩,m,i,r,j,s,k,f,v,l⟩:= by kernel_rfl
theorem ez6 (h:Control.has ⟨6,⟨a,b,c,d,e⟩,m,i,r,j,s,k,f,v,l⟩): eqC (setK 6 (valK ⟨6,⟨a,b,c,d,e⟩,m,i,r,j,s,k,f,v,l⟩)) ⟨6,⟨a,b,c,d,e⟩,m,i,r,j,s,k,f,v,l⟩= eqC (r26rest ⟨6,⟨a,b,c,d,e⟩,m,i,r,j,s,k,f,v,l⟩) Control.zero:=by
 obtain ⟨h0,⟨ha,hb,hc,hd,he⟩,hm,hi,hr,hj,hs,hk,hf,hv,hl⟩:= h
 rw [Bool.eq_iff_iff,eqC_iff,eqC_iff,sv6,rr6]
 show (_=_) ↔ (_=(⟨0,⟨0,0,0,0,0⟩,0,0,0,0,0,0,0,0,0⟩: Control))
 simp only [Control.mk.injEq,Update.mk.injEq,true_and,and_true,and_self]
 omega
theorem fk6 (h:Control.has ⟨6,⟨a,b,c,d,e⟩,m,i,r,j,s,k,f,v,l⟩) (hz:eqC (r26rest ⟨6,⟨a,b,c,d,e⟩,m,i,r,j,s,k,f,v,l⟩) Control.zero=true): chkK ⟨6,⟨a,b,c,d,e⟩,m,i,r,j,s,k,f,v,l⟩= refK ⟨6,⟨a,b,c,d,e⟩,m,i,r,j,s,k,f,v,l⟩:= by
 rw [eqC_iff,rr6] at hz
 have hz:_=(⟨0,⟨0,0,0,0,0⟩,0,0,0,0,0,0,0,0,0⟩: Control):= hz
 simp only [Control.mk.injEq,Update.mk.injEq] at hz
 obtain rfl:r=0:=by omega
 obtain rfl:j=0:=by omega
 obtain rfl:v=0:=by omega
 rfl
theorem ck7:cCheck ⟨7,⟨a,b,c,d,e⟩,m,i,r,j,s,k,f,v,l⟩= cond (!(eqC (setK 7 (valK ⟨7,⟨a,b,c,d,e⟩,m,i,r,j,s,k,f,v,l⟩)) ⟨7,⟨a,b,c,d,e⟩,m,i,r,j,s,k,f,v,l⟩)) 1 (chkK ⟨7,⟨a,b,c,d,e⟩,m,i,r,j,s,k,f,v,l⟩):= by kernel_rfl
theorem rk7:r26Check ⟨7,⟨a,b,c,d,e⟩,m,i,r,j,s,k,f,v,l⟩= cond (!(eqC (r26rest ⟨7,⟨a,b,c,d,e⟩,m,i,r,j,s,k,f,v,l⟩) Control.zero)) 1 (refK ⟨7,⟨a,b,c,d,e⟩,m,i,r,j,s,k,f,v,l⟩):= by kernel_rfl
theorem sv7:setK 7 (valK ⟨7,⟨a,b,c,d,e⟩,m,i,r,j,s,k,f,v,l⟩)= ⟨7,⟨0,0,0,0,0⟩,0,0,0,IntKind.wrap .i64 (IntKind.wrap .u64 j),0,0,0,0,0⟩:= by kernel_rfl
theorem rr7:r26rest ⟨7,⟨a,b,c,d,e⟩,m,i,r,j,s,k,f,v,l⟩= ⟨0,⟨a,b,c,d,e⟩,m,i,r,0,s,k,f,v,l⟩:= by kernel_rfl
theorem ez7 (h:Control.has ⟨7,⟨a,b,c,d,e⟩,m,i,r,j,s,k,f,v,l⟩): eqC (setK 7 (valK ⟨7,⟨a,b,c,d,e⟩,m,i,r,j,s,k,f,v,l⟩)) ⟨7,⟨a,b,c,d,e⟩,m,i,r,j,s,k,f,v,l⟩= eqC (r26rest ⟨7,⟨a,b,c,d,e⟩,m,i,r,j,s,k,f,v,l⟩) Control.zero:=by
 obtain ⟨h0,⟨ha,hb,hc,hd,he⟩,hm,hi,hr,hj,hs,hk,hf,hv,hl⟩:= h
 rw [Bool.eq_iff_iff,eqC_iff,eqC_iff,sv7,rr7]
 rw [w64 hj]
 show (_=_) ↔ (_=(⟨0,⟨0,0,0,0,0⟩,0,0,0,0,0,0,0,0,0⟩: Control))
 simp only [Control.mk.injEq,Update.mk.injEq,true_and,and_true,and_self]
 omega
theorem fk7 (h:Control.has ⟨7,⟨a,b,c,d,e⟩,m,i,r,j,s,k,f,v,l⟩) (hz:eqC (r26rest ⟨7,⟨a,b,c,d,e⟩,m,i,r,j,s,k,f,v,l⟩) Control.zero=true): chkK ⟨7,⟨a,b,c,d,e⟩,m,i,r,j,s,k,f,v,l⟩= refK ⟨7,⟨a,b,c,d,e⟩,m,i,r,j,s,k,f,v,l⟩:= by
 rw [eqC_iff,rr7] at hz
 have hz:_=(⟨0,⟨0,0,0,0,0⟩,0,0,0,0,0,0,0,0,0⟩: Control):= hz
 simp only [Control.mk.injEq,Update.mk.injEq] at hz
 obtain rfl:r=0:=by omega
 obtain rfl:v=0:=by omega
 show cond (bif decide (j < 0) then true else decide (255 < j)) 5 0=cond (bif bif bif !r26isByte 0 then true else !r26isByte j then true else !r26isByte 0 then true else bif false then bif decide (l < (27:Int)) then true else decide ((251:Int) < l) else false) 5 0
 rw [isByte_eq j]
 generalize (bif decide (j < 0) then true else decide (255 < j))= B
 cases B <;> rfl
theorem ck8:cCheck ⟨8,⟨a,b,c,d,e⟩,m,i,r,j,s,k,f,v,l⟩= cond (!(eqC (setK 8 (valK ⟨8,⟨a,b,c,d,e⟩,m,i,r,j,s,k,f,v,l⟩)) ⟨8,⟨a,b,c,d,e⟩,m,i,r,j,s,k,f,v,l⟩)) 1 (chkK ⟨8,⟨a,b,c,d,e⟩,m,i,r,j,s,k,f,v,l⟩):= by kernel_rfl
theorem rk8:r26Check ⟨8,⟨a,b,c,d,e⟩,m,i,r,j,s,k,f,v,l⟩= cond (!(eqC (r26rest ⟨8,⟨a,b,c,d,e⟩,m,i,r,j,s,k,f,v,l⟩) Control.zero)) 1 (refK ⟨8,⟨a,b,c,d,e⟩,m,i,r,j,s,k,f,v,l⟩):= by kernel_rfl
theorem sv8:setK 8 (valK ⟨8,⟨a,b,c,d,e⟩,m,i,r,j,s,k,f,v,l⟩)= ⟨8,⟨0,0,0,0,0⟩,0,0,0,0,0,0,f,0,0⟩:= by kernel_rfl
theorem rr8:r26rest ⟨8,⟨a,b,c,d,e⟩,m,i,r,j,s,k,f,v,l⟩= ⟨0,⟨a,b,c,d,e⟩,m,i,r,j,s,k,0,v,l⟩:= by kernel_rfl
theorem ez8 (h:Control.has ⟨8,⟨a,b,c,d,e⟩,m,i,r,j,s,k,f,v,l⟩): eqC (setK 8 (valK ⟨8,⟨a,b,c,d,e⟩,m,i,r,j,s,k,f,v,l⟩)) ⟨8,⟨a,b,c,d,e⟩,m,i,r,j,s,k,f,v,l⟩= eqC (r26rest ⟨8,⟨a,b,c,d,e⟩,m,i,r,j,s,k,f,v,l⟩) Control.zero:=by
 obtain ⟨h0,⟨ha,hb,hc,hd,he⟩,hm,hi,hr,hj,hs,hk,hf,hv,hl⟩:= h
 rw [Bool.eq_iff_iff,eqC_iff,eqC_iff,sv8,rr8]
 show (_=_) ↔ (_=(⟨0,⟨0,0,0,0,0⟩,0,0,0,0,0,0,0,0,0⟩: Control))
 simp only [Control.mk.injEq,Update.mk.injEq,true_and,and_true,and_self]
 omega
theorem fk8 (h:Control.has ⟨8,⟨a,b,c,d,e⟩,m,i,r,j,s,k,f,v,l⟩) (hz:eqC (r26rest ⟨8,⟨a,b,c,d,e⟩,m,i,r,j,s,k,f,v,l⟩) Control.zero=true): chkK ⟨8,⟨a,b,c,d,e⟩,m,i,r,j,s,k,f,v,l⟩= refK ⟨8,⟨a,b,c,d,e⟩,m,i,r,j,s,k,f,v,l⟩:= by
 rw [eqC_iff,rr8] at hz
 have hz:_=(⟨0,⟨0,0,0,0,0⟩,0,0,0,0,0,0,0,0,0⟩: Control):= hz
 simp only [Control.mk.injEq,Update.mk.injEq] at hz
 obtain rfl:r=0:=by omega
 obtain rfl:j=0:=by omega
 obtain rfl:v=0:=by omega
 rfl
theorem ck9:cCheck ⟨9,⟨a,b,c,d,e⟩,m,i,r,j,s,k,f,v,l⟩= cond (!(eqC (setK 9 (valK ⟨9,⟨a,b,c,d,e⟩,m,i,r,j,s,k,f,v,l⟩)) ⟨9,⟨a,b,c,d,e⟩,m,i,r,j,s,k,f,v,l⟩)) 1 (chkK ⟨9,⟨a,b,c,d,e⟩,m,i,r,j,s,k,f,v,l⟩):= by kernel_rfl
theorem rk9:r26Check ⟨9,⟨a,b,c,d,e⟩,m,i,r,j,s,k,f,v,l⟩= cond (!(eqC (r26rest ⟨9,⟨a,b,c,d,e⟩,m,i,r,j,s,k,f,v,l⟩) Control.zero)) 1 (refK ⟨9,⟨a,b,c,d,e⟩,m,i,r,j,s,k,f,v,l⟩):= by kernel_rfl
theorem sv9:setK 9 (valK ⟨9,⟨a,b,c,d,e⟩,m,i,r,j,s,k,f,v,l⟩)= ⟨9,⟨0,0,0,0,0⟩,0,0,0,0,0,0,f,0,0⟩:= by kernel_rfl
theorem rr9:r26rest ⟨9,⟨a,b,c,d,e⟩,m,i,r,j,s,k,f,v,l⟩= ⟨0,⟨a,b,c,d,e⟩,m,i,r,j,s,k,0,v,l⟩:= by kernel_rfl
theorem ez9 (h:Control.has ⟨9,⟨a,b,c,d,e⟩,m,i,r,j,s,k,f,v,l⟩): eqC (setK 9 (valK ⟨9,⟨a,b,c,d,e⟩,m,i,r,j,s,k,f,v,l⟩)) ⟨9,⟨a,b,c,d,e⟩,m,i,r,j,s,k,f,v,l⟩= eqC (r26rest ⟨9,⟨a,b,c,d,e⟩,m,i,r,j,s,k,f,v,l⟩) Control.zero:=by
 obtain ⟨h0,⟨ha,hb,hc,hd,he⟩,hm,hi,hr,hj,hs,hk,hf,hv,hl⟩:= h
 rw [Bool.eq_iff_iff,eqC_iff,eqC_iff,sv9,rr9]
 show (_=_) ↔ (_=(⟨0,⟨0,0,0,0,0⟩,0,0,0,0,0,0,0,0,0⟩: Control))
 simp only [Control.mk.injEq,Update.mk.injEq,true_and,and_true,and_self]
 omega
theorem fk9 (h:Control.has ⟨9,⟨a,b,c,d,e⟩,m,i,r,j,s,k,f,v,l⟩) (hz:eqC (r26rest ⟨9,⟨a,b,c,d,e⟩,m,i,r,j,s,k,f,v,l⟩) Control.zero=true): chkK ⟨9,⟨a,b,c,d,e⟩,m,i,r,j,s,k,f,v,l⟩= refK ⟨9,⟨a,b,c,d,e⟩,m,i,r,j,s,k,f,v,l⟩:= by
 rw [eqC_iff,rr9] at hz
 have hz:_=(⟨0,⟨0,0,0,0,0⟩,0,0,0,0,0,0,0,0,0⟩: Control):= hz
 simp only [Control.mk.injEq,Update.mk.injEq] at hz
 obtain rfl:r=0:=by omega
 obtain rfl:j=0:=by omega
 obtain rfl:v=0:=by omega
 rfl
theorem ck12:cCheck ⟨12,⟨a,b,c,d,e⟩,m,i,r,j,s,k,f,v,l⟩= cond (!(eqC (setK 12 (valK ⟨12,⟨a,b,c,d,e⟩,m,i,r,j,s,k,f,v,l⟩)) ⟨12,⟨a,b,c,d,e⟩,m,i,r,j,s,k,f,v,l⟩)) 1 (chkK ⟨12,⟨a,b,c,d,e⟩,m,i,r,j,s,k,f,v,l⟩):= by kernel_rfl
theorem rk12:r26Check ⟨12,⟨a,b,c,d,e⟩,m,i,r,j,s,k,f,v,l⟩= cond (!(eqC (r26rest ⟨12,⟨a,b,c,d,e⟩,m,i,r,j,s,k,f,v,l⟩) Control.zero)) 1 (refK ⟨12,⟨a,b,c,d,e⟩,m,i,r,j,s,k,f,v,l⟩):= by kernel_rfl
theorem sv12:setK 12 (valK ⟨12,⟨a,b,c,d,e⟩,m,i,r,j,s,k,f,v,l⟩)= ⟨12,⟨0,0,0,0,0⟩,0,0,0,0,0,0,0,IntKind.wrap .i64 (IntKind.wrap .u64 v),0⟩:= by kernel_rfl
theorem rr12:r26rest ⟨12,⟨a,b,c,d,e⟩,m,i,r,j,s,k,f,v,l⟩= ⟨0,⟨a,b,c,d,e⟩,m,i,r,j,s,k,f,0,l⟩:= by kernel_rfl
theorem ez12 (h:Control.has ⟨12,⟨a,b,c,d,e⟩,m,i,r,j,s,k,f,v,l⟩): eqC (setK 12 (valK ⟨12,⟨a,b,c,d,e⟩,m,i,r,j,s,k,f,v,l⟩)) ⟨12,⟨a,b,c,d,e⟩,m,i,r,j,s,k,f,v,l⟩= eqC (r26rest ⟨12,⟨a,b,c,d,e⟩,m,i,r,j,s,k,f,v,l⟩) Control.zero:=by
 obtain ⟨h0,⟨ha,hb,hc,hd,he⟩,hm,hi,hr,hj,hs,hk,hf,hv,hl⟩:= h
 rw [Bool.eq_iff_iff,eqC_iff,eqC_iff,sv12,rr12]
 rw [w64 hv]
 show (_=_) ↔ (_=(⟨0,⟨0,0,0,0,0⟩,0,0,0,0,0,0,0,0,0⟩: Control))
 simp only [Control.mk.injEq,Update.mk.injEq,true_and,and_true,and_self]
 omega
theorem fk12 (h:Control.has ⟨12,⟨a,b,c,d,e⟩,m,i,r,j,s,k,f,v,l⟩) (hz:eqC (r26rest ⟨12,⟨a,b,c,d,e⟩,m,i,r,j,s,k,f,v,l⟩) Control.zero=true): chkK ⟨12,⟨a,b,c,d,e⟩,m,i,r,j,s,k,f,v,l⟩= refK ⟨12,⟨a,b,c,d,e⟩,m,i,r,j,s,k,f,v,l⟩:= by
 rw [eqC_iff,rr12] at hz
 have hz:_=(⟨0,⟨0,0,0,0,0⟩,0,0,0,0,0,0,0,0,0⟩: Control):= hz
 simp only [Control.mk.injEq,Update.mk.injEq] at hz
 obtain rfl:r=0:=by omega
 obtain rfl:j=0:=by omega
 show cond (bif decide (v < 0) then true else decide (255 < v)) 5 0=cond (bif bif bif !r26isByte 0 then true else !r26isByte 0 then true else !r26isByte v then true else bif false then bif decide (l < (27:Int)) then true else decide ((251:Int) < l) else false) 5 0
 rw [isByte_eq v]
 generalize (bif decide (v < 0) then true else decide (255 < v))= B
 cases B <;> rfl
theorem ck13:cCheck ⟨13,⟨a,b,c,d,e⟩,m,i,r,j,s,k,f,v,l⟩= cond (!(eqC (setK 13 (valK ⟨13,⟨a,b,c,d,e⟩,m,i,r,j,s,k,f,v,l⟩)) ⟨13,⟨a,b,c,d,e⟩,m,i,r,j,s,k,f,v,l⟩)) 1 (chkK ⟨13,⟨a,b,c,d,e⟩,m,i,r,j,s,k,f,v,l⟩):= by kernel_rfl
theorem rk13:r26Check ⟨13,⟨a,b,c,d,e⟩,m,i,r,j,s,k,f,v,l⟩= cond (!(eqC (r26rest ⟨13,⟨a,b,c,d,e⟩,m,i,r,j,s,k,f,v,l⟩) Control.zero)) 1 (refK ⟨13,⟨a,b,c,d,e⟩,m,i,r,j,s,k,f,v,l⟩):= by kernel_rfl
theorem sv13:setK 13 (valK ⟨13,⟨a,b,c,d,e⟩,m,i,r,j,s,k,f,v,l⟩)= ⟨13,⟨0,0,0,0,0⟩,0,0,IntKind.wrap .i64 (IntKind.wrap .u64 r),IntKind.wrap .i64 (IntKind.wrap .u64 j),0,0,0,0,0⟩:= by kernel_rfl
theorem rr13:r26rest ⟨13,⟨a,b,c,d,e⟩,m,i,r,j,s,k,f,v,l⟩= ⟨0,⟨a,b,c,d,e⟩,m,i,0,0,s,k,f,v,l⟩:= by kernel_rfl
theorem ez13 (h:Control.has ⟨13,⟨a,b,c,d,e⟩,m,i,r,j,s,k,f,v,l⟩): eqC (setK 13 (valK ⟨13,⟨a,b,c,d,e⟩,m,i,r,j,s,k,f,v,l⟩)) ⟨13,⟨a,b,c,d,e⟩,m,i,r,j,s,k,f,v,l⟩= eqC (r26rest ⟨13,⟨a,b,c,d,e⟩,m,i,r,j,s,k,f,v,l⟩) Control.zero:=by
 obtain ⟨h0,⟨ha,hb,hc,hd,he⟩,hm,hi,hr,hj,hs,hk,hf,hv,hl⟩:= h
 rw [Bool.eq_iff_iff,eqC_iff,eqC_iff,sv13,rr13]
 rw [w64 hr,w64 hj]
 show (_=_) ↔ (_=(⟨0,⟨0,0,0,0,0⟩,0,0,0,0,0,0,0,0,0⟩: Control))
 simp only [Control.mk.injEq,Update.mk.injEq,true_and,and_true,and_self]
 omega
theorem fk13 (h:Control.has ⟨13,⟨a,b,c,d,e⟩,m,i,r,j,s,k,f,v,l⟩) (hz:eqC (r26rest ⟨13,⟨a,b,c,d,e⟩,m,i,r,j,s,k,f,v,l⟩) Control.zero=true): chkK ⟨13,⟨a,b,c,d,e⟩,m,i,r,j,s,k,f,v,l⟩= refK ⟨13,⟨a,b,c,d,e⟩,m,i,r,j,s,k,f,v,l⟩:= by
 rw [eqC_iff,rr13] at hz
 have hz:_=(⟨0,⟨0,0,0,0,0⟩,0,0,0,0,0,0,0,0,0⟩: Control):= hz
 simp only [Control.mk.injEq,Update.mk.injEq] at hz
 obtain rfl:v=0:=by omega
 show maxI (cond (bif decide (r < 0) then true else decide (255 < r)) 5 0) (cond (bif decide (j < 0) then true else decide (255 < j)) 5 0)= cond (bif bif bif !r26isByte r then true else !r26isByte j then true else !r26isByte 0 then true else bif false then bif decide (l < (27:Int)) then true else decide ((251:Int) < l) else false) 5 0
 rw [isByte_eq r,isByte_eq j]
 generalize (bif decide (r < 0) then true else decide (255 < r))= B
 generalize (bif decide (j < 0) then true else decide (255 < j))= D
 cases B <;> cases D <;> rfl
theorem ck15:cCheck ⟨15,⟨a,b,c,d,e⟩,m,i,r,j,s,k,f,v,l⟩= cond (!(eqC (setK 15 (valK ⟨15,⟨a,b,c,d,e⟩,m,i,r,j,s,k,f,v,l⟩)) ⟨15,⟨a,b,c,d,e⟩,m,i,r,j,s,k,f,v,l⟩)) 1 (chkK ⟨15,⟨a,b,c,d,e⟩,m,i,r,j,s,k,f,v,l⟩):= by kernel_rfl
theorem rk15:r26Check ⟨15,⟨a,b,c,d,e⟩,m,i,r,j,s,k,f,v,l⟩= cond (!(eqC (r26rest ⟨15,⟨a,b,c,d,e⟩,m,i,r,j,s,k,f,v,l⟩) Control.zero)) 1 (refK ⟨15,⟨a,b,c,d,e⟩,m,i,r,j,s,k,f,v,l⟩):= by kernel_rfl
theorem sv15:setK 15 (valK ⟨15,⟨a,b,c,d,e⟩,m,i,r,j,s,k,f,v,l⟩)= ⟨15,⟨IntKind.wrap .i64 (IntKind.wrap .u64 a),IntKind.wrap .i64 (IntKind.wrap .u64 b),IntKind.wrap .i64 (IntKind.wrap .u64 c),IntKind.wrap .i64 (IntKind.wrap .u64 d),IntKind.wrap .i64 (IntKind.wrap .u64 e)⟩,0,0,0,0,0,0,0,0,0⟩:= by kernel_rfl
theorem rr15:r26rest ⟨15,⟨a,b,c,d,e⟩,m,i,r,j,s,k,f,v,l⟩= ⟨0,⟨0,0,0,0,0⟩,m,i,r,j,s,k,f,v,l⟩:= by kernel_rfl
theorem ez15 (h:Control.has ⟨15,⟨a,b,c,d,e⟩,m,i,r,j,s,k,f,v,l⟩): eqC (setK 15 (valK ⟨15,⟨a,b,c,d,e⟩,m,i,r,j,s,k,f,v,l⟩)) ⟨15,⟨a,b,c,d,e⟩,m,i,r,j,s,k,f,v,l⟩= eqC (r26rest ⟨15,⟨a,b,c,d,e⟩,m,i,r,j,s,k,f,v,l⟩) Control.zero:=by
 obtain ⟨h0,⟨ha,hb,hc,hd,he⟩,hm,hi,hr,hj,hs,hk,hf,hv,hl⟩:= h
 rw [Bool.eq_iff_iff,eqC_iff,eqC_iff,sv15,rr15]
 rw [w64 ha,w64 hb,w64 hc,w64 hd,w64 he]
 show (_=_) ↔ (_=(⟨0,⟨0,0,0,0,0⟩,0,0,0,0,0,0,0,0,0⟩: Control))
 simp only [Control.mk.injEq,Update.mk.injEq,true_and,and_true,and_self]
 omega
theorem fk15 (h:Control.has ⟨15,⟨a,b,c,d,e⟩,m,i,r,j,s,k,f,v,l⟩) (hz:eqC (r26rest ⟨15,⟨a,b,c,d,e⟩,m,i,r,j,s,k,f,v,l⟩) Control.zero=true): chkK ⟨15,⟨a,b,c,d,e⟩,m,i,r,j,s,k,f,v,l⟩= refK ⟨15,⟨a,b,c,d,e⟩,m,i,r,j,s,k,f,v,l⟩:= by
 rw [eqC_iff,rr15] at hz
 have hz:_=(⟨0,⟨0,0,0,0,0⟩,0,0,0,0,0,0,0,0,0⟩: Control):= hz
 simp only [Control.mk.injEq,Update.mk.injEq] at hz
 obtain rfl:r=0:=by omega
 obtain rfl:j=0:=by omega
 obtain rfl:v=0:=by omega
 show cCheckUpdate ⟨a,b,c,d,e⟩= cond (r17CheckUpdate ⟨a,b,c,d,e⟩ != 0) (r17CheckUpdate ⟨a,b,c,d,e⟩) 0
 rw [checkUpdate_eq,cond_self0]
theorem ck18:cCheck ⟨18,⟨a,b,c,d,e⟩,m,i,r,j,s,k,f,v,l⟩= cond (!(eqC (setK 18 (valK ⟨18,⟨a,b,c,d,e⟩,m,i,r,j,s,k,f,v,l⟩)) ⟨18,⟨a,b,c,d,e⟩,m,i,r,j,s,k,f,v,l⟩)) 1 (chkK ⟨18,⟨a,b,c,d,e⟩,m,i,r,j,s,k,f,v,l⟩):= by kernel_rfl
theorem rk18:r26Check ⟨18,⟨a,b,c,d,e⟩,m,i,r,j,s,k,f,v,l⟩= cond (!(eqC (r26rest ⟨18,⟨a,b,c,d,e⟩,m,i,r,j,s,k,f,v,l⟩) Control.zero)) 1 (refK ⟨18,⟨a,b,c,d,e⟩,m,i,r,j,s,k,f,v,l⟩):= by kernel_rfl
theorem sv18:setK 18 (valK ⟨18,⟨a,b,c,d,e⟩,m,i,r,j,s,k,f,v,l⟩)= ⟨18,⟨0,0,0,0,0⟩,0,0,0,0,0,0,0,0,0⟩:= by kernel_rfl
theorem rr18:r26rest ⟨18,⟨a,b,c,d,e⟩,m,i,r,j,s,k,f,v,l⟩= ⟨0,⟨a,b,c,d,e⟩,m,i,r,j,s,k,f,v,l⟩:= by kernel_rfl
theorem ez18 (h:Control.has ⟨18,⟨a,b,c,d,e⟩,m,i,r,j,s,k,f,v,l⟩): eqC (setK 18 (valK ⟨18,⟨a,b,c,d,e⟩,m,i,r,j,s,k,f,v,l⟩)) ⟨18,⟨a,b,c,d,e⟩,m,i,r,j,s,k,f,v,l⟩= eqC (r26rest ⟨18,⟨a,b,c,d,e⟩,m,i,r,j,s,k,f,v,l⟩) Control.zero:=by
 obtain ⟨h0,⟨ha,hb,hc,hd,he⟩,hm,hi,hr,hj,hs,hk,hf,hv,hl⟩:= h
 rw [Bool.eq_iff_iff,eqC_iff,eqC_iff,sv18,rr18]
 show (_=_) ↔ (_=(⟨0,⟨0,0,0,0,0⟩,0,0,0,0,0,0,0,0,0⟩: Control))
 simp only [Control.mk.injEq,Update.mk.injEq,true_and,and_true,and_self]
 omega
theorem fk18 (h:Control.has ⟨18,⟨a,b,c,d,e⟩,m,i,r,j,s,k,f,v,l⟩) (hz:eqC (r26rest ⟨18,⟨a,b,c,d,e⟩,m,i,r,j,s,k,f,v,l⟩) Control.zero=true): chkK ⟨18,⟨a,b,c,d,e⟩,m,i,r,j,s,k,f,v,l⟩= refK ⟨18,⟨a,b,c,d,e⟩,m,i,r,j,s,k,f,v,l⟩:= by
 rw [eqC_iff,rr18] at hz
 have hz:_=(⟨0,⟨0,0,0,0,0⟩,0,0,0,0,0,0,0,0,0⟩: Control):= hz
 simp only [Control.mk.injEq,Update.mk.injEq] at hz
 obtain rfl:r=0:=by omega
 obtain rfl:j=0:=by omega
 obtain rfl:v=0:=by omega
 rfl
theorem ck19:cCheck ⟨19,⟨a,b,c,d,e⟩,m,i,r,j,s,k,f,v,l⟩= cond (!(eqC (setK 19 (valK ⟨19,⟨a,b,c,d,e⟩,m,i,r,j,s,k,f,v,l⟩)) ⟨19,⟨a,b,c,d,e⟩,m,i,r,j,s,k,f,v,l⟩)) 1 (chkK ⟨19,⟨a,b,c,d,e⟩,m,i,r,j,s,k,f,v,l⟩):= by kernel_rfl
theorem rk19:r26Check ⟨19,⟨a,b,c,d,e⟩,m,i,r,j,s,k,f,v,l⟩= cond (!(eqC (r26rest ⟨19,⟨a,b,c,d,e⟩,m,i,r,j,s,k,f,v,l⟩) Control.zero)) 1 (refK ⟨19,⟨a,b,c,d,e⟩,m,i,r,j,s,k,f,v,l⟩):= by kernel_rfl
theorem sv19:setK 19 (valK ⟨19,⟨a,b,c,d,e⟩,m,i,r,j,s,k,f,v,l⟩)= ⟨19,⟨0,0,0,0,0⟩,0,0,0,0,0,0,0,0,0⟩:= by kernel_rfl
theorem rr19:r26rest ⟨19,⟨a,b,c,d,e⟩,m,i,r,j,s,k,f,v,l⟩= ⟨0,⟨a,b,c,d,e⟩,m,i,r,j,s,k,f,v,l⟩:= by kernel_rfl
theorem ez19 (h:Control.has ⟨19,⟨a,b,c,d,e⟩,m,i,r,j,s,k,f,v,l⟩): eqC (setK 19 (valK ⟨19,⟨a,b,c,d,e⟩,m,i,r,j,s,k,f,v,l⟩)) ⟨19,⟨a,b,c,d,e⟩,m,i,r,j,s,k,f,v,l⟩= eqC (r26rest ⟨19,⟨a,b,c,d,e⟩,m,i,r,j,s,k,f,v,l⟩) Control.zero:=by
 obtain ⟨h0,⟨ha,hb,hc,hd,he⟩,hm,hi,hr,hj,hs,hk,hf,hv,hl⟩:= h
 rw [Bool.eq_iff_iff,eqC_iff,eqC_iff,sv19,rr19]
 show (_=_) ↔ (_=(⟨0,⟨0,0,0,0,0⟩,0,0,0,0,0,0,0,0,0⟩: Control))
 simp only [Control.mk.injEq,Update.mk.injEq,true_and,and_true,and_self]
 omega
theorem fk19 (h:Control.has ⟨19,⟨a,b,c,d,e⟩,m,i,r,j,s,k,f,v,l⟩) (hz:eqC (r26rest ⟨19,⟨a,b,c,d,e⟩,m,i,r,j,s,k,f,v,l⟩) Control.zero=true): chkK ⟨19,⟨a,b,c,d,e⟩,m,i,r,j,s,k,f,v,l⟩= refK ⟨19,⟨a,b,c,d,e⟩,m,i,r,j,s,k,f,v,l⟩:= by
 rw [eqC_iff,rr19] at hz
 have hz:_=(⟨0,⟨0,0,0,0,0⟩,0,0,0,0,0,0,0,0,0⟩: Control):= hz
 simp only [Control.mk.injEq,Update.mk.injEq] at hz
 obtain rfl:r=0:=by omega
 obtain rfl:j=0:=by omega
 obtain rfl:v=0:=by omega
 rfl
theorem ck20:cCheck ⟨20,⟨a,b,c,d,e⟩,m,i,r,j,s,k,f,v,l⟩= cond (!(eqC (setK 20 (valK ⟨20,⟨a,b,c,d,e⟩,m,i,r,j,s,k,f,v,l⟩)) ⟨20,⟨a,b,c,d,e⟩,m,i,r,j,s,k,f,v,l⟩)) 1 (chkK ⟨20,⟨a,b,c,d,e⟩,m,i,r,j,s,k,f,v,l⟩):= by kernel_rfl
theorem rk20:r26Check ⟨20,⟨a,b,c,d,e⟩,m,i,r,j,s,k,f,v,l⟩= cond (!(eqC (r26rest ⟨20,⟨a,b,c,d,e⟩,m,i,r,j,s,k,f,v,l⟩) Control.zero)) 1 (refK ⟨20,⟨a,b,c,d,e⟩,m,i,r,j,s,k,f,v,l⟩):= by kernel_rfl
theorem sv20:setK 20 (valK ⟨20,⟨a,b,c,d,e⟩,m,i,r,j,s,k,f,v,l⟩)= ⟨20,⟨0,0,0,0,0⟩,0,0,0,0,0,0,0,0,IntKind.wrap .i64 (IntKind.wrap .u64 l)⟩:= by kernel_rfl
theorem rr20:r26rest ⟨20,⟨a,b,c,d,e⟩,m,i,r,j,s,k,f,v,l⟩= ⟨0,⟨a,b,c,d,e⟩,m,i,r,j,s,k,f,v,0⟩:= by kernel_rfl
theorem ez20 (h:Control.has ⟨20,⟨a,b,c,d,e⟩,m,i,r,j,s,k,f,v,l⟩): eqC (setK 20 (valK ⟨20,⟨a,b,c,d,e⟩,m,i,r,j,s,k,f,v,l⟩)) ⟨20,⟨a,b,c,d,e⟩,m,i,r,j,s,k,f,v,l⟩= eqC (r26rest ⟨20,⟨a,b,c,d,e⟩,m,i,r,j,s,k,f,v,l⟩) Control.zero:=by
 obtain ⟨h0,⟨ha,hb,hc,hd,he⟩,hm,hi,hr,hj,hs,hk,hf,hv,hl⟩:= h
 rw [Bool.eq_iff_iff,eqC_iff,eqC_iff,sv20,rr20]
 rw [w64 hl]
 show (_=_) ↔ (_=(⟨0,⟨0,0,0,0,0⟩,0,0,0,0,0,0,0,0,0⟩: Control))
 simp only [Control.mk.injEq,Update.mk.injEq,true_and,and_true,and_self]
 omega
theorem fk20 (h:Control.has ⟨20,⟨a,b,c,d,e⟩,m,i,r,j,s,k,f,v,l⟩) (hz:eqC (r26rest ⟨20,⟨a,b,c,d,e⟩,m,i,r,j,s,k,f,v,l⟩) Control.zero=true): chkK ⟨20,⟨a,b,c,d,e⟩,m,i,r,j,s,k,f,v,l⟩= refK ⟨20,⟨a,b,c,d,e⟩,m,i,r,j,s,k,f,v,l⟩:= by
 rw [eqC_iff,rr20] at hz
 have hz:_=(⟨0,⟨0,0,0,0,0⟩,0,0,0,0,0,0,0,0,0⟩: Control):= hz
 simp only [Control.mk.injEq,Update.mk.injEq] at hz
 obtain rfl:r=0:=by omega
 obtain rfl:j=0:=by omega
 obtain rfl:v=0:=by omega
 show cond (bif decide (l < 27) then true else decide (251 < l)) 5 0=cond (bif bif bif !r26isByte 0 then true else !r26isByte 0 then true else !r26isByte 0 then true else bif true then bif decide (l < (27:Int)) then true else decide ((251:Int) < l) else false) 5 0
 generalize (bif decide (l < 27) then true else decide (251 < l))= B
 cases B <;> rfl
theorem ck21:cCheck ⟨21,⟨a,b,c,d,e⟩,m,i,r,j,s,k,f,v,l⟩= cond (!(eqC (setK 21 (valK ⟨21,⟨a,b,c,d,e⟩,m,i,r,j,s,k,f,v,l⟩)) ⟨21,⟨a,b,c,d,e⟩,m,i,r,j,s,k,f,v,l⟩)) 1 (chkK ⟨21,⟨a,b,c,d,e⟩,m,i,r,j,s,k,f,v,l⟩):= by kernel_rfl
theorem rk21:r26Check ⟨21,⟨a,b,c,d,e⟩,m,i,r,j,s,k,f,v,l⟩= cond (!(eqC (r26rest ⟨21,⟨a,b,c,d,e⟩,m,i,r,j,s,k,f,v,l⟩) Control.zero)) 1 (refK ⟨21,⟨a,b,c,d,e⟩,m,i,r,j,s,k,f,v,l⟩):= by kernel_rfl
theorem sv21:setK 21 (valK ⟨21,⟨a,b,c,d,e⟩,m,i,r,j,s,k,f,v,l⟩)= ⟨21,⟨0,0,0,0,0⟩,0,0,0,0,0,0,0,0,IntKind.wrap .i64 (IntKind.wrap .u64 l)⟩:= by kernel_rfl
theorem rr21:r26rest ⟨21,⟨a,b,c,d,e⟩,m,i,r,j,s,k,f,v,l⟩= ⟨0,⟨a,b,c,d,e⟩,m,i,r,j,s,k,f,v,0⟩:= by kernel_rfl
theorem ez21 (h:Control.has ⟨21,⟨a,b,c,d,e⟩,m,i,r,j,s,k,f,v,l⟩): eqC (setK 21 (valK ⟨21,⟨a,b,c,d,e⟩,m,i,r,j,s,k,f,v,l⟩)) ⟨21,⟨a,b,c,d,e⟩,m,i,r,j,s,k,f,v,l⟩= eqC (r26rest ⟨21,⟨a,b,c,d,e⟩,m,i,r,j,s,k,f,v,l⟩) Control.zero:=by
 obtain ⟨h0,⟨ha,hb,hc,hd,he⟩,hm,hi,hr,hj,hs,hk,hf,hv,hl⟩:= h
 rw [Bool.eq_iff_iff,eqC_iff,eqC_iff,sv21,rr21]
 rw [w64 hl]
 show (_=_) ↔ (_=(⟨0,⟨0,0,0,0,0⟩,0,0,0,0,0,0,0,0,0⟩: Control))
 simp only [Control.mk.injEq,Update.mk.injEq,true_and,and_true,and_self]
 omega
theorem fk21 (h:Control.has ⟨21,⟨a,b,c,d,e⟩,m,i,r,j,s,k,f,v,l⟩) (hz:eqC (r26rest ⟨21,⟨a,b,c,d,e⟩,m,i,r,j,s,k,f,v,l⟩) Control.zero=true): chkK ⟨21,⟨a,b,c,d,e⟩,m,i,r,j,s,k,f,v,l⟩= refK ⟨21,⟨a,b,c,d,e⟩,m,i,r,j,s,k,f,v,l⟩:= by
 rw [eqC_iff,rr21] at hz
 have hz:_=(⟨0,⟨0,0,0,0,0⟩,0,0,0,0,0,0,0,0,0⟩: Control):= hz
 simp only [Control.mk.injEq,Update.mk.injEq] at hz
 obtain rfl:r=0:=by omega
 obtain rfl:j=0:=by omega
 obtain rfl:v=0:=by omega
 show cond (bif decide (l < 27) then true else decide (251 < l)) 5 0=cond (bif bif bif !r26isByte 0 then true else !r26isByte 0 then true else !r26isByte 0 then true else bif true then bif decide (l < (27:Int)) then true else decide ((251:Int) < l) else false) 5 0
 generalize (bif decide (l < 27) then true else decide (251 < l))= B
 cases B <;> rfl
end
theorem cCheck_known (c:Control) (h:known c.Kind=true): cCheck c=cond (!eqC (setK c.Kind (valK c)) c) 1 (chkK c):= by
 obtain ⟨q,⟨a,b,c,d,e⟩,m,i,r,j,s,k,f,v,l⟩:= c
 dsimp only at h ⊢
 rcases known_cases h with rfl | rfl | rfl | rfl | rfl | rfl | rfl | rfl | rfl | rfl | rfl | rfl | rfl | rfl | rfl | rfl | rfl
 ·exact ck0 _ _ _ _ _ _ _ _ _ _ _ _ _ _
 ·exact ck1 _ _ _ _ _ _ _ _ _ _ _ _ _ _
 ·exact ck2 _ _ _ _ _ _ _ _ _ _ _ _ _ _
 ·exact ck3 _ _ _ _ _ _ _ _ _ _ _ _ _ _
 ·exact ck4 _ _ _ _ _ _ _ _ _ _ _ _ _ _
 ·exact ck5 _ _ _ _ _ _ _ _ _ _ _ _ _ _
 ·exact ck6 _ _ _ _ _ _ _ _ _ _ _ _ _ _
 ·exact ck7 _ _ _ _ _ _ _ _ _ _ _ _ _ _
 ·exact ck8 _ _ _ _ _ _ _ _ _ _ _ _ _ _
 ·exact ck9 _ _ _ _ _ _ _ _ _ _ _ _ _ _
 ·exact ck12 _ _ _ _ _ _ _ _ _ _ _ _ _ _
 ·exact ck13 _ _ _ _ _ _ _ _ _ _ _ _ _ _
 ·exact ck15 _ _ _ _ _ _ _ _ _ _ _ _ _ _
 ·exact ck18 _ _ _ _ _ _ _ _ _ _ _ _ _ _
 ·exact ck19 _ _ _ _ _ _ _ _ _ _ _ _ _ _
 ·exact ck20 _ _ _ _ _ _ _ _ _ _ _ _ _ _
 ·exact ck21 _ _ _ _ _ _ _ _ _ _ _ _ _ _
theorem r26Check_known (c:Control) (h:known c.Kind=true): r26Check c=cond (!eqC (r26rest c) Control.zero) 1 (refK c):= by
 obtain ⟨q,⟨a,b,c,d,e⟩,m,i,r,j,s,k,f,v,l⟩:= c
 dsimp only at h ⊢
 rcases known_cases h with rfl | rfl | rfl | rfl | rfl | rfl | rfl | rfl | rfl | rfl | rfl | rfl | rfl | rfl | rfl | rfl | rfl
 ·exact rk0 _ _ _ _ _ _ _ _ _ _ _ _ _ _
 ·exact rk1 _ _ _ _ _ _ _ _ _ _ _ _ _ _
 ·exact rk2 _ _ _ _ _ _ _ _ _ _ _ _ _ _
 ·exact rk3 _ _ _ _ _ _ _ _ _ _ _ _ _ _
 ·exact rk4 _ _ _ _ _ _ _ _ _ _ _ _ _ _
 ·exact rk5 _ _ _ _ _ _ _ _ _ _ _ _ _ _
 ·exact rk6 _ _ _ _ _ _ _ _ _ _ _ _ _ _
 ·exact rk7 _ _ _ _ _ _ _ _ _ _ _ _ _ _
 ·exact rk8 _ _ _ _ _ _ _ _ _ _ _ _ _ _
 ·exact rk9 _ _ _ _ _ _ _ _ _ _ _ _ _ _
 ·exact rk12 _ _ _ _ _ _ _ _ _ _ _ _ _ _
 ·exact rk13 _ _ _ _ _ _ _ _ _ _ _ _ _ _
 ·exact rk15 _ _ _ _ _ _ _ _ _ _ _ _ _ _
 ·exact rk18 _ _ _ _ _ _ _ _ _ _ _ _ _ _
 ·exact rk19 _ _ _ _ _ _ _ _ _ _ _ _ _ _
 ·exact rk20 _ _ _ _ _ _ _ _ _ _ _ _ _ _
 ·exact rk21 _ _ _ _ _ _ _ _ _ _ _ _ _ _
theorem ez_known (c:Control) (h:known c.Kind=true) (hc:c.has): eqC (setK c.Kind (valK c)) c=eqC (r26rest c) Control.zero:=by
 obtain ⟨q,⟨a,b,c,d,e⟩,m,i,r,j,s,k,f,v,l⟩:= c
 dsimp only at h ⊢
 rcases known_cases h with rfl | rfl | rfl | rfl | rfl | rfl | rfl | rfl | rfl | rfl | rfl | rfl | rfl | rfl | rfl | rfl | rfl
 ·exact ez0 _ _ _ _ _ _ _ _ _ _ _ _ _ _ hc
 ·exact ez1 _ _ _ _ _ _ _ _ _ _ _ _ _ _ hc
 ·exact ez2 _ _ _ _ _ _ _ _ _ _ _ _ _ _ hc
 ·exact ez3 _ _ _ _ _ _ _ _ _ _ _ _ _ _ hc
 ·exact ez4 _ _ _ _ _ _ _ _ _ _ _ _ _ _ hc
 ·exact ez5 _ _ _ _ _ _ _ _ _ _ _ _ _ _ hc
 ·exact ez6 _ _ _ _ _ _ _ _ _ _ _ _ _ _ hc
 ·exact ez7 _ _ _ _ _ _ _ _ _ _ _ _ _ _ hc
 ·exact ez8 _ _ _ _ _ _ _ _ _ _ _ _ _ _ hc
 ·exact ez9 _ _ _ _ _ _ _ _ _ _ _ _ _ _ hc
 ·exact ez12 _ _ _ _ _ _ _ _ _ _ _ _ _ _ hc
 ·exact ez13 _ _ _ _ _ _ _ _ _ _ _ _ _ _ hc
 ·exact ez15 _ _ _ _ _ _ _ _ _ _ _ _ _ _ hc
 ·exact ez18 _ _ _ _ _ _ _ _ _ _ _ _ _ _ hc
 ·exact ez19 _ _ _ _ _ _ _ _ _ _ _ _ _ _ hc
 ·exact ez20 _ _ _ _ _ _ _ _ _ _ _ _ _ _ hc
 ·exact ez21 _ _ _ _ _ _ _ _ _ _ _ _ _ _ hc
theorem fk_known (c:Control) (h:known c.Kind=true) (hc:c.has) (hz:eqC (r26rest c) Control.zero=true): chkK c=refK c:=by
 obtain ⟨q,⟨a,b,c,d,e⟩,m,i,r,j,s,k,f,v,l⟩:= c
 dsimp only at h
 rcases known_cases h with rfl | rfl | rfl | rfl | rfl | rfl | rfl | rfl | rfl | rfl | rfl | rfl | rfl | rfl | rfl | rfl | rfl
 ·exact fk0 _ _ _ _ _ _ _ _ _ _ _ _ _ _ hc hz
 ·exact fk1 _ _ _ _ _ _ _ _ _ _ _ _ _ _ hc hz
 ·exact fk2 _ _ _ _ _ _ _ _ _ _ _ _ _ _ hc hz
 ·exact fk3 _ _ _ _ _ _ _ _ _ _ _ _ _ _ hc hz
 ·exact fk4 _ _ _ _ _ _ _ _ _ _ _ _ _ _ hc hz
 ·exact fk5 _ _ _ _ _ _ _ _ _ _ _ _ _ _ hc hz
 ·exact fk6 _ _ _ _ _ _ _ _ _ _ _ _ _ _ hc hz
 ·exact fk7 _ _ _ _ _ _ _ _ _ _ _ _ _ _ hc hz
 ·exact fk8 _ _ _ _ _ _ _ _ _ _ _ _ _ _ hc hz
 ·exact fk9 _ _ _ _ _ _ _ _ _ _ _ _ _ _ hc hz
 ·exact fk12 _ _ _ _ _ _ _ _ _ _ _ _ _ _ hc hz
 ·exact fk13 _ _ _ _ _ _ _ _ _ _ _ _ _ _ hc hz
 ·exact fk15 _ _ _ _ _ _ _ _ _ _ _ _ _ _ hc hz
 ·exact fk18 _ _ _ _ _ _ _ _ _ _ _ _ _ _ hc hz
 ·exact fk19 _ _ _ _ _ _ _ _ _ _ _ _ _ _ hc hz
 ·exact fk20 _ _ _ _ _ _ _ _ _ _ _ _ _ _ hc hz
 ·exact fk21 _ _ _ _ _ _ _ _ _ _ _ _ _ _ hc hz
theorem cCheck_unknown (c:Control) (h:known c.Kind=false): cCheck c=12:=by
 obtain ⟨e0,e1,e2,e3,e4,e5,e6,e7,e8,e9,e12,e13,e15,e18,e19,e20,e21⟩:= known_not h
 unfold cCheck
 simp only [e0,e1,e2,e3,e4,e5,e6,e7,e8,e9,e12,e13,e15,e18,e19,e20,e21,cond_false]
theorem r26Check_unknown (c:Control) (h:known c.Kind=false): r26Check c=12:=by
 obtain ⟨e0,e1,e2,e3,e4,e5,e6,e7,e8,e9,e12,e13,e15,e18,e19,e20,e21⟩:= known_not h
 have hf:r26Fields c.Kind=⟨false,false,false,false,false,false,false,false,false,false,false⟩:= by
  unfold r26Fields
  simp only [e0,e1,e2,e3,e4,e5,e6,e7,e8,e9,e12,e13,e15,e18,e19,e20,e21,cond_false]
 unfold r26Check
 rw [hf]
 rfl
theorem check_eq (c:Control) (hc:c.has): cCheck c=r26Check c:=by
 cases h:known c.Kind
 ·rw [cCheck_unknown c h,r26Check_unknown c h]
 ·rw [cCheck_known c h,r26Check_known c h,ez_known c h hc]
  cases hz:eqC (r26rest c) Control.zero
  ·rfl
  ·rw [fk_known c h hc hz]
end Go.Aw.W
