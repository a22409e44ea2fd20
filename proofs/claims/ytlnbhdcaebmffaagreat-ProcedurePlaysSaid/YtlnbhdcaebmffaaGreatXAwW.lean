/-
  New slices: literals, whose elements read as data (own work).
-/
import Derived.Test.YtlnbhdcaebmffaaGreatXAwV
set_option linter.unusedSimpArgs false
set_option linter.unusedVariables false
namespace Go.Aw
open Go.RowKit
section
variable {C:Cx} {env:Env} {w:World} {B:Nat} {H:List (AObj C.S.El)}
theorem rep_get {α:Type} (l:List α) (hl:0 < l.length): ∀(n i:Nat),(rep n l)[i]? = if i < n*l.length then l[i % l.length]? else none
 | 0,i=>by simp [rep]
 | n+1,i=>by
  rw [rep,List.getElem?_append]
  by_cases h:i < l.length
  ·rw [if_pos h,if_pos (by rw [Nat.add_mul];omega),Nat.mod_eq_of_lt h]
  ·have e:i % l.length=(i - l.length) % l.length:=Nat.mod_eq_sub_mod (by omega)
   rw [if_neg h,rep_get l hl n,e]
   by_cases h2:i - l.length < n*l.length
   ·rw [if_pos h2,if_pos (by rw [Nat.add_mul];omega)]
   ·rw [if_neg h2,if_neg (by rw [Nat.add_mul];omega)]
theorem rep_len {α:Type} (l:List α): ∀n,(rep n l).length=n*l.length
 | 0=>by simp [rep]
 | n+1=>by rw [rep,List.length_append,rep_len l n,Nat.add_mul,Nat.one_mul,Nat.add_comm]
theorem rep_map {α β:Type} (f:α→β) (l:List α): ∀n,rep n (l.map f)= (rep n l).map f
 | 0=>by simp [rep]
 | n+1=>by simp [rep,rep_map f l n]
theorem zeros_eq (z:Array Value) (n k:Nat) (hz:z.size=k) (hk:0 < k): (Array.range (n*k)).map (z[·% z.size]!)= (rep n z.toList).toArray:=by
 apply Array.ext'
 apply List.ext_getElem?
 intro i
 subst hz
 have hl:z.toList.length=z.size:=by simp
 rw [rep_get _ (by simpa using hk)]
 simp only [Array.toList_map,Array.toList_range,List.getElem?_map,hl]
 by_cases h:i < n*z.size
 ·have hm:i % z.size < z.size:=Nat.mod_lt _ hk
  rw [if_pos h,List.getElem?_range h]
  simp [hm]
 ·rw [if_neg h,List.getElem?_eq_none (by simpa using Nat.le_of_not_lt h)]
  rfl
def RowG (C:Cx) (env:Env) (w:World) (t:TypeId) (xs:List (C.S.El t)) (us:List Value): Prop :=
 us.length=xs.length*C.S.sz t∧∀i j,i < xs.length→Γ C.S env w ((C.S.cell t (xs.getD i (C.S.dflt t))).getD j .any) (us.getD (i*C.S.sz t+j) undef)
theorem RowG.cons (hS:SigOk C.S) {t:TypeId} {x:C.S.El t} {xs:List (C.S.El t)} {u us:List Value} (h:G2 C.S env w (C.S.cell t x) u) (k:RowG C env w t xs us): RowG C env w t (x::xs) (u ++ us):= by
 have hu:u.length=C.S.sz t:=by rw [h.1,hS.len]
 refine ⟨by simp [hu,k.1,Nat.add_mul];omega,fun i j hi=>?_⟩
 cases i with
 | zero =>
  simp only [List.getD_cons_zero,Nat.zero_mul,Nat.zero_add]
  by_cases hj:j < C.S.sz t
  ·have:=h.2 j
   rwa [show (u ++ us).getD j undef=u.getD j undef by simp [List.getD,List.getElem?_append,hu,hj]]
  ·have:(C.S.cell t x).getD j AV.any = .any:=by
    have:=hS.len t x
    generalize C.S.cell t x=cs at this ⊢
    rw [List.getD,List.getElem?_eq_none (by omega)];rfl
   rw [this];exact .any _
 | succ i =>
  simp only [List.getD_cons_succ]
  have:=k.2 i j (by simpa using hi)
  rwa [show (u ++ us).getD ((i+1)* C.S.sz t+j) undef=us.getD (i*C.S.sz t+j) undef by
   simp only [List.getD,List.getElem?_append,hu]
   rw [if_neg (by rw [Nat.add_mul];omega)]
   congr 2
   rw [Nat.add_mul];omega]
theorem decAll_sound (hS:SigOk C.S) {t:TypeId}: ∀(n:Nat) (cs:List (AV C.S.El)) (us:List Value) (xs:List (C.S.El t)),decAll C.S t (chunks (C.S.sz t) n cs)= some xs→cs.length=n*C.S.sz t→G2 C.S env w cs us→xs.length=n∧RowG C env w t xs us
 | 0,cs,us,xs,h,hl,hg=>by
  simp only [chunks,decAll,Option.some.injEq] at h
  subst h
  refine ⟨rfl,by rw [hg.1,hl];simp,fun i j hi=>by simp at hi⟩
 | n+1,cs,us,xs,h,hl,hg=>by
  simp only [chunks,decAll] at h
  split at h
  ·rename_i x xs' hx hxs
   cases h
   have h1:=hS.dec t _ x hx env w _ (hg.take (C.S.sz t))
   obtain ⟨h2,h3⟩:= decAll_sound hS n _ _ xs' hxs (by rw [List.length_drop,hl,Nat.add_mul];omega) (hg.drop (C.S.sz t))
   refine ⟨by simp [h2], ?_⟩
   have:=RowG.cons hS h1 h3
   rwa [List.take_append_drop] at this
  ·cases h
theorem over_len : ∀(xs cs:List (AV C.S.El)) (off:Nat),(over cs off xs).length=cs.length
 | [],cs,off=>rfl
 | x::xs,cs,off=>by rw [over,over_len xs,setN_eq,List.length_set]
theorem fillA_len (place:Nat→Option (Nat×Nat)): ∀(parts:List (Nat×AV C.S.El)) (cs ds:List (AV C.S.El)),fillA C.P place cs parts=some ds→ds.length=cs.length
 | [],cs,ds,h=>by simp only [fillA,Option.some.injEq] at h;rw [h]
 | (i,x):: parts,cs,ds,h=>by
  simp only [fillA] at h
  split at h
  ·obtain ⟨_,h⟩:= cond_some h
   rw [fillA_len place parts _ _ h,over_len]
  ·cases h
theorem buildSliceA_sound (hS:SigOk C.S) {t:TypeId} {len:Nat} {parts:Array (Nat×Operand)} {rho:Operand→AV C.S.El} {e:Operand→Value} {r:Sigma fun e=>List (C.S.El e)} (hr:buildSliceA C t len (parts.toList.map fun (i,x)=> (i,rho x))= some r)
  (h : ∀x,x∈parts.toList.map (·.2)→Γ C.S env w (rho x) (e x)):
  ∃us:Array Value,(Instr.buildSlice t len (parts.map fun (i,x)=> (i,e x))).run C.P w = .ok (.slice (some ⟨w.heap.size,0,none⟩) r.2.length r.2.length) (w.alloc (.cells us r.1))∧RowG C env w r.1 r.2 us.toList∧r.2.length=len∧len≤16777216:=by
 obtain ⟨hl,hp⟩:= parts_ok h
 unfold buildSliceA at hr
 split at hr
 ·cases hr
 ·rename_i el hel
  have hd:C.P.underlying t=some (.slice el):= by
   unfold elemT at hel
   split at hel
   ·cases hel;assumption
   ·cases hel
  split at hr
  ·cases hr
  ·rename_i z hz
   obtain ⟨zv,hzr,rfl,inf,hinf,_⟩:= zeroT_run hz
   obtain ⟨hc,hr⟩:= cond_some hr
   simp only [Bool.and_eq_true,Nat.ble_eq] at hc
   obtain ⟨⟨⟨hc1,hc2⟩,hc3⟩,hc4⟩:= hc
   have hsz:sizeT C.P el=inf.size:=by simp [sizeT,hinf]
   have hz2:=Nat.eq_of_beq_eq_true hc2
   have hz3:0 < zv.cells.size:=by simp only [List.length_map,Array.length_toList] at hc3;omega
   have hz4:=Nat.eq_of_beq_eq_true hc4
   have hzz:zv.cells.size=inf.size:=by rw [←hsz,←hz2];simp
   split at hr
   ·cases hr
   ·rename_i cs hf
    simp only [Option.map_eq_some_iff] at hr
    obtain ⟨xs,hx,rfl⟩:= hr
    rw [rep_map] at hf
    obtain ⟨us,hu,hg⟩:= fillA_sound (C:=C) (env:=env) (w:=w) _ _ _ _ _ (rep len zv.cells.toList).toArray hf (by simpa using G2.vmap _) hl hp
    have hcl:cs.length=len*C.S.sz el:=by
     rw [fillA_len _ _ _ _ hf,List.length_map,rep_len,←hz4,←hz2];simp
    rw [hz4] at hx
    obtain ⟨h1,h2⟩:= decAll_sound hS len cs us.toList xs hx hcl hg
    refine ⟨us, ?_,h2,h1,Nat.le_trans (Nat.le_mul_of_pos_right len (by omega)) hc1⟩
    have hu':Instr.fill (fun k=>some (k*inf.size,inf.size)) (rep len zv.cells.toList).toArray (List.map (fun x=>(x.fst,e x.snd)) parts.toList)= some us:=by rw [hsz] at hu;simpa using hu
    simp only [h1]
    have hb : ¬len*inf.size > 2 ^ 24:=by rw [hsz] at hc1;omega
    by_cases hz0:len*inf.size=0
    ·have hl0:len=0:=by
      rcases Nat.mul_eq_zero.1 hz0 with h | h
      ·exact h
      ·omega
     subst hl0
     simp only [rep] at hu'
     have e0 : ∀f:Nat→Value,Array.map f (Array.range 0)= #[]:= fun f=>Array.eq_empty_of_size_eq_zero (by simp)
     simp [e0,Instr.buildSlice,run_underlying hd,run_sizeOf hinf,hu',newRow]
    ·have hze:=zeros_eq zv.cells len inf.size hzz (by omega)
     simp [Instr.buildSlice,run_underlying hd,run_sizeOf hinf,hb,hz0,hzr,hze,hu',newRow]
end
end Go.Aw
