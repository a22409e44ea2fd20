/- The count of bits: what math/bits.OnesCount64 computes is the number of bits that are set. Plain Lean. -/
import Derived.Test.YtppceadhdckpmaaGreatDoorXOctA
import Derived.Test.YtppceadhdckpmaaGreatDoorXW17
set_option linter.unusedVariables false
namespace Go.Aw.W
open Go Go.Aw Go.Proofs
def B (f:Nat→Nat): Nat→Nat→Nat
 | 0,_=>0
 | n+1,x=>f (x % 256)+ 256*B f n (x / 256)
theorem B_succ (f:Nat→Nat) (n x:Nat): B f (n+1) x=f (x % 256)+ 256*B f n (x / 256):= rfl
def rep (c:Nat): Nat→Nat
 | 0=>0
 | n+1=>c+256*rep c n
theorem land_byte (x M:Nat): x &&& M=(x % 256 &&& M % 256)+ 256*(x / 256 &&& M / 256):= by
 have h1:(x &&& M) % 2 ^ 8=x % 2 ^ 8 &&& M % 2 ^ 8:=Nat.and_mod_two_pow
 have h2:(x &&& M) / 2 ^ 8=x / 2 ^ 8 &&& M / 2 ^ 8:=Nat.and_div_two_pow
 rw [←h1,←h2]
 exact (Nat.mod_add_div (x &&& M) 256).symm
theorem rep_mod {c:Nat} (hc:c < 256) (n:Nat): rep c (n+1) % 256=c:=by unfold rep;omega
theorem rep_div {c:Nat} (hc:c < 256) (n:Nat): rep c (n+1) / 256=rep c n:=by
 conv=>lhs;unfold rep
 omega
theorem tab1 : ∀b:Fin 256,∀t:Fin 2,(b.val / 2+128*t.val) &&& 85=b.val / 2 &&& 85:=by decide +kernel
theorem tab2 : ∀b:Fin 256,∀t:Fin 4,(b.val / 4+64*t.val) &&& 51=b.val / 4 &&& 51:=by decide +kernel
def t1 (b:Nat): Nat:=(b / 2 &&& 85)+ (b &&& 85)
def t2 (b:Nat): Nat:=(b / 4 &&& 51)+ (b &&& 51)
theorem n1 : ∀n x,(x / 2 &&& rep 85 n)+ (x &&& rep 85 n)= B t1 n x
 | 0,x=>by simp [rep,B]
 | n+1,x=>by
  rw [land_byte (x / 2),land_byte x,rep_mod (by omega),rep_div (by omega),B,←n1 n (x / 256)]
  have e:x / 2 % 256 &&& 85=(x % 256) / 2 &&& 85:=by
   rw [show x / 2 % 256=(x % 256) / 2+128*((x / 256) % 2) by omega]
   exact tab1 ⟨x % 256,by omega⟩ ⟨(x / 256) % 2,by omega⟩
  have e2:x / 2 / 256=x / 256 / 2:=by omega
  rw [e,e2]
  unfold t1
  generalize x % 256 / 2 &&& 85=p
  generalize x % 256 &&& 85=q
  generalize x / 256 / 2 &&& rep 85 n=r
  generalize x / 256 &&& rep 85 n=s
  omega
theorem n2 : ∀n x,(x / 4 &&& rep 51 n)+ (x &&& rep 51 n)= B t2 n x
 | 0,x=>by simp [rep,B]
 | n+1,x=>by
  rw [land_byte (x / 4),land_byte x,rep_mod (by omega),rep_div (by omega),B,←n2 n (x / 256)]
  have e:x / 4 % 256 &&& 51=(x % 256) / 4 &&& 51:=by
   rw [show x / 4 % 256=(x % 256) / 4+64*((x / 256) % 4) by omega]
   exact tab2 ⟨x % 256,by omega⟩ ⟨(x / 256) % 4,by omega⟩
  have e2:x / 4 / 256=x / 256 / 4:=by omega
  rw [e,e2]
  unfold t2
  generalize x % 256 / 4 &&& 51=p
  generalize x % 256 &&& 51=q
  generalize x / 256 / 4 &&& rep 51 n=r
  generalize x / 256 &&& rep 51 n=s
  omega
theorem B_comp {f g:Nat→Nat} (hf : ∀b,b < 256→f b < 256): ∀n x,B g n (B f n x)= B (fun b=>g (f b)) n x
 | 0,x=>rfl
 | n+1,x=>by
  have h:=hf (x % 256) (by omega)
  rw [B_succ g,B_succ f,B_succ (fun b=>g (f b))]
  rw [show (f (x % 256)+ 256*B f n (x / 256)) % 256=f (x % 256) by omega,show (f (x % 256)+ 256*B f n (x / 256)) / 256=B f n (x / 256) by omega,B_comp hf n]
theorem n3 {f:Nat→Nat} (hf : ∀b,b < 256→f b / 16≤4∧f b % 16≤4): ∀n z,(B f n z / 16+B f n z) &&& rep 15 n=B (fun b=>f b / 16+f b % 16) n z
 | 0,z=>by simp [rep,B]
 | n+1,z=>by
  have h:=hf (z % 256) (by omega)
  have hy:B f n (z / 256) % 16≤4:=by
   cases n with
   | zero=>simp [B]
   | succ n=>have:=hf (z / 256 % 256) (by omega);rw [B_succ];omega
  have ih:=n3 hf n (z / 256)
  rw [land_byte,rep_mod (by omega),rep_div (by omega)]
  have e1:(B f (n+1) z / 16+B f (n+1) z) % 256=f (z % 256) / 16+16*(B f n (z / 256) % 16)+ f (z % 256):= by
   rw [B_succ];omega
  have e2:(B f (n+1) z / 16+B f (n+1) z) / 256=B f n (z / 256) / 16+B f n (z / 256):= by
   rw [B_succ];omega
  rw [e1,e2,ih]
  have e3:(f (z % 256) / 16+16*(B f n (z / 256) % 16)+ f (z % 256)) &&& 15=f (z % 256) / 16+f (z % 256) % 16:=by
   rw [Nat.and_two_pow_sub_one_eq_mod _ 4]
   omega
  rw [e3,B_succ]
def pc (b:Nat): Nat:=t2 (t1 b) / 16+t2 (t1 b) % 16
theorem t1_lt : ∀b,b < 256→t1 b < 256:=fun b hb=>(show ∀b:Fin 256,t1 b.val < 256 by decide +kernel) ⟨b,hb⟩
theorem t21_ok : ∀b,b < 256→t2 (t1 b) / 16≤4∧t2 (t1 b) % 16≤4:=fun b hb=>(show ∀b:Fin 256,t2 (t1 b.val) / 16≤4∧t2 (t1 b.val) % 16≤4 by decide +kernel) ⟨b,hb⟩
theorem t21_lt : ∀b,b < 256→t2 (t1 b) < 256:=fun b hb=>by have:=t21_ok b hb;omega
theorem pc_bits : ∀b,b < 256→pc b=b % 2+b / 2 % 2+b / 4 % 2+b / 8 % 2+b / 16 % 2+b / 32 % 2+b / 64 % 2+b / 128 % 2:=fun b hb=>(show ∀b:Fin 256,pc b.val=b.val % 2+b.val / 2 % 2+b.val / 4 % 2+b.val / 8 % 2+b.val / 16 % 2+b.val / 32 % 2+b.val / 64 % 2+b.val / 128 % 2 by decide +kernel) ⟨b,hb⟩
theorem n123 (n x:Nat): (B t2 n (B t1 n x) / 16+B t2 n (B t1 n x)) &&& rep 15 n=B pc n x:=by
 rw [B_comp t1_lt]
 exact n3 t21_ok n x
theorem B_lt {f:Nat→Nat} (hf : ∀b,b < 256→f b < 256): ∀n x,B f n x < 256 ^ n
 | 0,x=>by simp [B]
 | n+1,x=>by
  have h:=hf (x % 256) (by omega)
  have ih:=B_lt hf n (x / 256)
  rw [B_succ,Nat.pow_succ]
  omega
theorem bandK_nat (a b:Nat) (ha:a < 18446744073709551616) (hb:b < 18446744073709551616): bandK .u64 (a:Int) (b:Int)= ((a &&& b:Nat): Int):= by
 have hab:a &&& b≤a:=Nat.and_le_left
 unfold bandK
 rw [BitVec.ofInt_natCast,BitVec.ofInt_natCast,BitVec.toNat_and,BitVec.toNat_ofNat,BitVec.toNat_ofNat]
 rw [show a % 2 ^ IntKind.u64.bits=a from Nat.mod_eq_of_lt ha,show b % 2 ^ IntKind.u64.bits=b from Nat.mod_eq_of_lt hb]
 exact wu64 _ (by omega) (by omega)
theorem shrK_nat (a k:Nat) (hk:k≤64): shrK .u64 (a:Int) (k:Int)= ((a / 2 ^ k:Nat): Int):= by
 unfold shrK
 rw [show min ((k:Int).toNat) IntKind.u64.bits=k from by simp [IntKind.bits];omega]
 rw [Int.fdiv_eq_ediv_of_nonneg _ (Int.le_of_lt (Int.pow_pos (by decide))),Int.natCast_ediv,Int.natCast_pow]
 rfl
theorem ones1_nat (x:Nat) (hx:x < 18446744073709551616): ones1 x=(B t1 8 x:Nat):= by
 unfold ones1
 rw [show (1:Int)= ((1:Nat): Int) from rfl,shrK_nat _ _ (by omega),show (6148914691236517205:Int)= ((rep 85 8:Nat): Int) from by decide,bandK_nat _ _ (by omega) (by decide),bandK_nat _ _ hx (by decide),←n1 8 x,show x / 2 ^ 1=x / 2 from rfl]
 have h:=B_lt t1_lt 8 x
 rw [←n1 8 x] at h
 exact wu64 _ (by omega) (by omega)
theorem t2_lt : ∀b,b < 256→t2 b < 256:=fun b hb=>(show ∀b:Fin 256,t2 b.val < 256 by decide +kernel) ⟨b,hb⟩
theorem ones2_nat (x:Nat) (hx:x < 18446744073709551616): ones2 x=(B t2 8 x:Nat):= by
 unfold ones2
 rw [show (2:Int)= ((2:Nat): Int) from rfl,shrK_nat _ _ (by omega),show (3689348814741910323:Int)= ((rep 51 8:Nat): Int) from by decide,bandK_nat _ _ (by omega) (by decide),bandK_nat _ _ hx (by decide),←n2 8 x,show x / 2 ^ 2=x / 4 from rfl]
 have h:=B_lt t2_lt 8 x
 rw [←n2 8 x] at h
 exact wu64 _ (by omega) (by omega)
theorem B_le {f:Nat→Nat} {c:Nat} (hf : ∀b,b < 256→f b≤c): ∀n x,B f n x≤c*rep 1 n
 | 0,x=>by simp [B]
 | n+1,x=>by
  have h:=hf (x % 256) (by omega)
  have ih:=B_le hf n (x / 256)
  rw [B_succ,show rep 1 (n+1)= 1+256*rep 1 n from rfl,Nat.mul_add,Nat.mul_left_comm]
  omega
theorem ones3_nat (x:Nat): ones3 (B t2 8 (B t1 8 x): Nat)= (B pc 8 x:Nat):= by
 unfold ones3
 have hle:=B_le (f:=fun b=>t2 (t1 b)) (c:=68) (fun b hb=>by have:=t21_ok b hb;omega) 8 x
 rw [←B_comp (g:=t2) t1_lt] at hle
 rw [show rep 1 8=72340172838076673 from by decide] at hle
 rw [←n123 8 x]
 generalize B t2 8 (B t1 8 x)= y at *
 rw [show (4:Int)= ((4:Nat): Int) from rfl,shrK_nat _ _ (by omega),wu64 _ (by omega) (by omega),show ((y / 2 ^ 4:Nat): Int)+ (y:Int)= ((y / 16+y:Nat): Int) from by push_cast;rfl,show (1085102592571150095:Int)= ((rep 15 8:Nat): Int) from by decide]
 exact bandK_nat _ _ (by omega) (by decide)
theorem pc_le : ∀b,b < 256→pc b≤8:=fun b hb=>by have:=pc_bits b hb;omega
set_option maxHeartbeats 2000000 in
theorem ones_nat (x:Nat) (hx:x < 18446744073709551616): ones x=((pc (x % 256)+ pc (x / 256 % 256)+ pc (x / 256 / 256 % 256)+ pc (x / 256 / 256 / 256 % 256)+ pc (x / 256 / 256 / 256 / 256 % 256)+ pc (x / 256 / 256 / 256 / 256 / 256 % 256)+ pc (x / 256 / 256 / 256 / 256 / 256 / 256 % 256)+ pc (x / 256 / 256 / 256 / 256 / 256 / 256 / 256 % 256): Nat): Int):= by
 unfold ones
 have hb:=B_lt t1_lt 8 x
 rw [ones1_nat x hx,ones2_nat _ (by omega),ones3_nat]
 have e:B pc 8 x=pc (x % 256)+ 256*(pc (x / 256 % 256)+ 256*(pc (x / 256 / 256 % 256)+ 256*(pc (x / 256 / 256 / 256 % 256)+ 256*(pc (x / 256 / 256 / 256 / 256 % 256)+ 256*(pc (x / 256 / 256 / 256 / 256 / 256 % 256)+ 256*(pc (x / 256 / 256 / 256 / 256 / 256 / 256 % 256)+ 256*(pc (x / 256 / 256 / 256 / 256 / 256 / 256 / 256 % 256)+ 256*0))))))):= by simp only [B]
 have l0:=pc_le (x % 256) (by omega)
 have l1:=pc_le (x / 256 % 256) (by omega)
 have l2:=pc_le (x / 256 / 256 % 256) (by omega)
 have l3:=pc_le (x / 256 / 256 / 256 % 256) (by omega)
 have l4:=pc_le (x / 256 / 256 / 256 / 256 % 256) (by omega)
 have l5:=pc_le (x / 256 / 256 / 256 / 256 / 256 % 256) (by omega)
 have l6:=pc_le (x / 256 / 256 / 256 / 256 / 256 / 256 % 256) (by omega)
 have l7:=pc_le (x / 256 / 256 / 256 / 256 / 256 / 256 / 256 % 256) (by omega)
 rw [e]
 clear e hb
 generalize pc (x % 256)= c0 at *
 generalize pc (x / 256 % 256)= c1 at *
 generalize pc (x / 256 / 256 % 256)= c2 at *
 generalize pc (x / 256 / 256 / 256 % 256)= c3 at *
 generalize pc (x / 256 / 256 / 256 / 256 % 256)= c4 at *
 generalize pc (x / 256 / 256 / 256 / 256 / 256 % 256)= c5 at *
 generalize pc (x / 256 / 256 / 256 / 256 / 256 / 256 % 256)= c6 at *
 generalize pc (x / 256 / 256 / 256 / 256 / 256 / 256 / 256 % 256)= c7 at *
 have f4 : ∀(v k:Nat),k≤64→v+v / 2 ^ k < 18446744073709551616→ones4 k v=((v+v / 2 ^ k:Nat): Int):= fun v k hk h=>by
  unfold ones4
  rw [shrK_nat _ _ hk,show (v:Int)+ ((v / 2 ^ k:Nat): Int)= ((v+v / 2 ^ k:Nat): Int) from by push_cast;rfl]
  generalize v / 2 ^ k=q at *
  exact wu64 _ (by omega) (by omega)
 have g1 : ∀v,v=c0+256*(c1+256*(c2+256*(c3+256*(c4+256*(c5+256*(c6+256*(c7+256*0)))))))→v+v / 2 ^ 8=(c0+c1)+ 256*(c1+c2+256*(c2+c3+256*(c3+c4+256*(c4+c5+256*(c5+c6+256*(c6+c7+256*c7)))))):= by
  intro v hv;omega
 generalize hv:c0+256*(c1+256*(c2+256*(c3+256*(c4+256*(c5+256*(c6+256*(c7+256*0)))))))= v at *
 have g1':=g1 v rfl
 rw [show (8:Int)= ((8:Nat): Int) from rfl,f4 v 8 (by omega) (by omega)]
 generalize v+v / 2 ^ 8=u at *
 have g2:u+u / 2 ^ 16=(c0+c1+c2+c3)+ 256*(c1+c2+c3+c4+256*(c2+c3+c4+c5+256*(c3+c4+c5+c6+256*(c4+c5+c6+c7+256*(c5+c6+c7+256*(c6+c7+256*c7)))))):= by omega
 rw [show (16:Int)= ((16:Nat): Int) from rfl,f4 u 16 (by omega) (by omega)]
 generalize u+u / 2 ^ 16=t at *
 have dv : ∀t L H:Nat,t=L+4294967296*H→L < 4294967296→t / 2 ^ 32=H:=by intro t L H h1 h2;omega
 have md : ∀(S M M' R:Nat),R < 256→S=R+256*(M+M')→S % 256=R:=by intro S M M' R h1 h2;omega
 have g2b:=dv t (c0+c1+c2+c3+256*(c1+c2+c3+c4+256*(c2+c3+c4+c5+256*(c3+c4+c5+c6)))) (c4+c5+c6+c7+256*(c5+c6+c7+256*(c6+c7+256*c7))) (by clear g1 f4;omega) (by clear g1 f4 g2 g1' hv;omega)
 have g3:(t+t / 2 ^ 32) % 256=c0+c1+c2+c3+c4+c5+c6+c7:=by
  rw [g2b,g2]
  refine md _ (c1+c2+c3+c4+256*(c2+c3+c4+c5+256*(c3+c4+c5+c6+256*(c4+c5+c6+c7+256*(c5+c6+c7+256*(c6+c7+256*c7)))))) (c5+c6+c7+256*(c6+c7+256*c7)) _ (by clear g1 f4 g2 g2b g1' hv;omega) (by clear g1 f4 g2 g2b g1' hv;omega)
 have g4:t+t / 2 ^ 32 < 9223372036854775808:=by rw [g2b,g2];clear g1 f4 g2 g2b g3 g1' hv dv md;omega
 rw [show (32:Int)= ((32:Nat): Int) from rfl,f4 t 32 (by decide) (Nat.lt_trans g4 (by decide))]
 generalize t+t / 2 ^ 32=s at *
 clear g1 f4 g2 g2b g1' hv dv md
 rw [wi64 _ (by omega) (by omega)]
 unfold bandK
 rw [show (127:Int)= ((127:Nat): Int) from rfl,BitVec.ofInt_natCast,BitVec.ofInt_natCast,BitVec.toNat_and,BitVec.toNat_ofNat,BitVec.toNat_ofNat]
 rw [show s % 2 ^ IntKind.i64.bits=s from Nat.mod_eq_of_lt (by simp [IntKind.bits];omega),show 127 % 2 ^ IntKind.i64.bits=2 ^ 7 - 1 from by decide,Nat.and_two_pow_sub_one_eq_mod,wi64 _ (by omega) (by omega)]
 congr 1
 omega
end Go.Aw.W
