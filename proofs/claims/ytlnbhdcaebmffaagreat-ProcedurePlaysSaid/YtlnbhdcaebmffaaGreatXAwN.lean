import Derived.Test.YtlnbhdcaebmffaaGreatXAwK
import Derived.Test.YtlnbhdcaebmffaaGreatXAwF
import Derived.WalkKit
import Derived.ProofKit
import Derived.OpenShut
import Derived.Carry
import Derived.SizedLaws
section
/-
 Bits of whole numbers without a sign,as plain numbers (own work).
-/
set_option linter.unusedSimpArgs false
set_option linter.unusedVariables false
namespace Go.Aw
open Go
theorem wrap_un {k:IntKind} (hk:k.signed=false) (n:Int): k.wrap n=n % 2 ^ k.bits:=by
 cases k <;> simp [IntKind.signed] at hk <;> simp [IntKind.wrap,IntKind.bits,IntKind.signed]
theorem ofInt_nat {n:Nat} (a:Nat) (ha:a < 2 ^ n): (BitVec.ofInt n (a:Int)).toNat=a:=by
 rw [BitVec.ofInt_natCast,BitVec.toNat_ofNat,Nat.mod_eq_of_lt ha]
theorem two_pow_cast (n:Nat): ((2 ^ n:Nat): Int)= (2:Int) ^ n:=by simp
theorem band_nat {k:IntKind} (hk:k.signed=false) (a b:Nat) (ha:a < 2 ^ k.bits) (hb:b < 2 ^ k.bits): bandK k (a:Int) (b:Int)= ((a &&& b:Nat): Int):= by
 unfold bandK
 rw [BitVec.toNat_and,ofInt_nat a ha,ofInt_nat b hb,wrap_un hk,←two_pow_cast]
 have:a &&& b < 2 ^ k.bits:=Nat.lt_of_le_of_lt Nat.and_le_left ha
 rw [←Int.natCast_emod,Nat.mod_eq_of_lt this]
theorem band_nn {k:IntKind} (hk:k.signed=false) (a b:Int): 0≤bandK k a b:=by
 unfold bandK
 rw [wrap_un hk]
 exact Int.emod_nonneg _ (Int.ne_of_gt (Int.pow_pos (by decide)))
theorem band_low {k:IntKind} (hk:k.signed=false) {a:Int} (h0:0≤a) (h1:a < 2 ^ k.bits) {m:Int} {n:Nat} (hn:n≤k.bits) (hm:m=2 ^ n - 1): bandK k a m=a % 2 ^ n:=by
 obtain ⟨x,rfl⟩:= Int.eq_ofNat_of_zero_le h0
 have hp:0 < 2 ^ n:=Nat.two_pow_pos n
 have hx:x < 2 ^ k.bits:=by rw [←two_pow_cast] at h1;omega
 have hle:2 ^ n≤2 ^ k.bits:=Nat.pow_le_pow_right (by decide) hn
 have e:m=((2 ^ n - 1:Nat): Int):= by rw [hm,Int.natCast_sub hp,two_pow_cast];rfl
 rw [e,band_nat hk x (2 ^ n - 1) hx (by omega),Nat.and_two_pow_sub_one_eq_mod,←two_pow_cast,Int.natCast_emod]
theorem bclr_low {k:IntKind} (hk:k.signed=false) {a:Int} (h0:0≤a) (h1:a < 2 ^ k.bits) {m:Int} {n:Nat} (hn:n≤k.bits) (hm:m=2 ^ n - 1): bclrK k a m=a - a % 2 ^ n:=by
 obtain ⟨x,rfl⟩:= Int.eq_ofNat_of_zero_le h0
 have hp:0 < 2 ^ n:=Nat.two_pow_pos n
 have hx:x < 2 ^ k.bits:=by rw [←two_pow_cast] at h1;omega
 have hle:2 ^ n≤2 ^ k.bits:=Nat.pow_le_pow_right (by decide) hn
 have e:m=((2 ^ n - 1:Nat): Int):= by rw [hm,Int.natCast_sub hp,two_pow_cast];rfl
 have key:x &&& (2 ^ k.bits - 1 - (2 ^ n - 1))= x - x % 2 ^ n:=by
  apply Nat.eq_of_testBit_eq
  intro i
  have h3:2 ^ k.bits - 1 - (2 ^ n - 1)= 2 ^ k.bits - 2 ^ n:=by omega
  rw [h3,Nat.testBit_and]
  have h4:x - x % 2 ^ n=2 ^ n*(x / 2 ^ n):= by have:=Nat.div_add_mod x (2 ^ n);omega
  have h5:2 ^ k.bits - 2 ^ n=2 ^ n*(2 ^ (k.bits - n) - 1):= by
   rw [Nat.mul_sub,Nat.mul_one,←Nat.pow_add,show n+(k.bits - n)= k.bits by omega]
  rw [h4,h5,Nat.testBit_two_pow_mul,Nat.testBit_two_pow_mul]
  by_cases hi:n≤i
  ·simp only [hi,decide_true,Bool.true_and,Nat.testBit_two_pow_sub_one]
   rw [Nat.testBit_div_two_pow,show i - n+n=i by omega]
   by_cases hb:i - n < k.bits - n
   ·simp [hb]
   ·have:x.testBit i=false:=Nat.testBit_lt_two_pow (Nat.lt_of_lt_of_le hx (Nat.pow_le_pow_right (by decide) (by omega)))
    simp [this]
  ·simp [hi]
 unfold bclrK
 rw [BitVec.toNat_and,BitVec.toNat_not,ofInt_nat x hx,e,ofInt_nat (2 ^ n - 1) (by omega),key,wrap_un hk,←two_pow_cast,←Int.natCast_emod,←two_pow_cast,←Int.natCast_emod]
 rw [Nat.mod_eq_of_lt (Nat.lt_of_le_of_lt (Nat.sub_le _ _) hx),Int.natCast_sub (Nat.mod_le _ _)]
def Bytes (b:List Int): Prop:=∀x∈b,0≤x∧x < 256
theorem Bytes.take {b:List Int} (h:Bytes b) (n:Nat): Bytes (b.take n):= fun x hx=>h x (List.mem_of_mem_take hx)
theorem Bytes.drop {b:List Int} (h:Bytes b) (n:Nat): Bytes (b.drop n):= fun x hx=>h x (List.mem_of_mem_drop hx)
theorem Bytes.getD {b:List Int} (h:Bytes b) (n:Nat): 0≤b.getD n 0∧b.getD n 0 < 256:=by
 by_cases hn:n < b.length
 ·exact h _ (by simp [List.getD,List.getElem?_eq_getElem hn])
 ·simp [List.getD,List.getElem?_eq_none (Nat.le_of_not_lt hn)]
end Go.Aw
end
section
/-
 Arguments,opened: what a value of a type of the program looks like,read off the statement's own condition on arguments.
-/
set_option linter.unusedVariables false
namespace Go.Aw
open Go
variable {P:Program} {w:World} {r:Reach} {b:Nat}
section
open Go.RowKit
variable {C:Cx} {env:Env}
theorem law_of_ct {f:FuncId} {ct:Ct C.S.El} (h:CtOk C f ct) {args:List (AV C.S.El)} {ps:List Prop} {news:List (AObj C.S.El)} (hct:ct args=some (ps, .v (.bool true),news)) (hps : ∀p∈ps,p) (hlt:args.all (lt1 0)= true) {vals:List Value} {w:World}
  (hg:G2 C.S ⟨fun _=>none,fun b _=>b < w.heap.size⟩ w args vals)
  (hgl : ∀g,Γ C.S ⟨fun _=>none,fun b _=>b < w.heap.size⟩ w (C.S.glob g) (.pointer (some ⟨g,0,none⟩))): Calls C.P f vals.toArray w fun e w'=>e = .returned (.bool true)∧Below w.heap.size w w':=by
 refine (h args ps _ news hct hps hlt w.heap.size ⟨fun _=>none,fun b _=>b < w.heap.size⟩ w [] vals hg ⟨fun i=>by simp [obj_nth,ObjOk],fun i v b hl=>by simp [obj_nth,live] at hl,fun i j u v b hl=>by simp [obj_nth,live] at hl,fun b o h=>h,fun i v h=>by simp at h,hgl,Nat.le_refl _⟩).mono ?_
 rintro e w' ⟨v,env',rfl,hΓ,_,hE,hb⟩
 exact ⟨by rw [hΓ.unv],hb⟩
end
section
open Go.ChangeShapes Go.WideShapes Go.ChangeAt Go.RowKit
variable {H:Type} {enc:TypeId×Value→H}
theorem trodAll_below (hl:laidOutB P=true) {W W':World} (hb:Below W.heap.size W W'): ∀(ts:List TypeId) (vs:List Value) (ds:List (DataW H)) (p:List MemPlace),(∀t∈ts,P.readableRec t=true∧t < P.types.size)→
  DataW.TrodAll enc P W 0 (fun _=>true) true ts vs ds p→(∀x∈p,x.block < W.heap.size)→DataW.TrodAll enc P W' 0 (fun b=>decide (b < W.heap.size)) true ts vs ds p
 | [],vs,ds,p,_,h,_=>by
  cases vs <;> cases ds <;> simp_all [DataW.TrodAll]
 | t::ts,vs,ds,p,hr,h,hp=>by
  obtain ⟨v,vs',d,ds',p0,q,rfl,rfl,rfl,h0,h1⟩:= trodAll_cons h
  exact trodAll_cons_mk (Below.trod hl (hr t (List.mem_cons_self ..)).1 (hr t (List.mem_cons_self ..)).2 h0 hb fun x hx=>hp x (by simp [hx]))
   (trodAll_below hl hb ts vs' ds' q (fun t ht=>hr t (List.mem_cons_of_mem _ ht)) h1 fun x hx=>hp x (by simp [hx]))
theorem post_true {f:Func} {s:ChangeSpec} {apart fresh handsOn:Bool} {W W':World} {args:Array Value} {ds:List (DataW H)} {before:List MemPlace} {tb:TypeId} (hl:laidOutB P=true)
  (hW:DataW.Whole enc P f.params.toList s.vars apart W args.toList ds [] before) (hv:s.vars=[]) (hA:DataW.TrodAll enc P W 0 (fun _=>true) true f.params.toList args.toList ds before)
  (hr : ∀t∈f.params.toList,P.readableRec t=true∧t < P.types.size) (hres:f.resultTypes = #[tb]) (htb:P.underlying tb=some .bool)
  (hfn:s.fn H (ds ++ [])= {results:=[.lit (.bool true)],args:=ds}) (hb:Below W.heap.size W W'):
  s.post enc P f apart fresh handsOn false W args (.bool true) W':=by
 have hlt : ∀x∈before,x.block < W.heap.size:=fun x hx=>hW.lt x hx
 refine ⟨ds,[],before,[],before,[],hW, ?_, ?_, ?_,hb.frame _,fun h=>by cases h⟩
 ·rw [hfn,hres]
  exact trodAll_cons_mk (shut_bool htb _) trodAll_mk0
 ·rw [hfn];exact trodAll_below hl hb _ _ _ _ hr hA hlt
 ·rw [hfn,hv];rfl
end
end Go.Aw
end
section
/-
 Arguments by their reading: what reads as a value of a type of the program is a typed value (own work).
-/
set_option linter.unusedVariables false
namespace Go.Aw
open Go Go.ChangeShapes Go.WideShapes Go.ChangeAt Go.RowKit
def env0 (w:World): Env:=⟨fun _=>none,fun b _=>b < w.heap.size⟩
def sane:Value→Prop
 | .slice (some a) _ _=>a.spot=none
 | _=>True
def Opn {H:Type} (enc:TypeId×Value→H) (P:Program) (S:Sig) (w:World) (f:Bool) (t:TypeId) (X:Type) (cell:X→List (AV S.El)) (has:X→Prop): Prop :=
 ∀(base:Nat) (spare:Nat→Bool) (held:Bool) (fuel:Nat) (cs:List Value) (x:DataW H×List MemPlace),DataW.trod enc P w base spare held fuel t cs=some x→(∀n∈x.1.weights P t,n≤reachBytes)→
  (f=false→∀v∈cs,sane v)→∃v:X,G2 S (env0 w) w (cell v) cs∧has v
section
variable {H:Type} {enc:TypeId×Value→H} {P:Program} {S:Sig} {w:World} {f:Bool}
theorem Opn.weak {t:TypeId} {X:Type} {cell:X→List (AV S.El)} {has:X→Prop} (h:Opn enc P S w true t X cell has) (f:Bool): Opn enc P S w f t X cell has :=
 fun base spare held fuel cs x hx hw _=>h base spare held fuel cs x hx hw (fun hf=>by cases hf)
theorem opn_int {t:TypeId} {k:IntKind} (hu:P.underlying t=some (.int k)): Opn enc P S w f t Int (fun n=>[.v (.int k n)]) k.has:=by
 intro base spare held fuel cs x hx hw _
 obtain ⟨n,rfl,rfl,hwf⟩:= DataW.trod_int hu hx
 refine ⟨n, .cons (.v _) .nil, ?_⟩
 simp only [Lit.wf,Bool.and_eq_true,decide_eq_true_eq] at hwf
 exact hwf
theorem opn_bool {t:TypeId} (hu:P.underlying t=some .bool): Opn enc P S w f t Bool (fun n=>[.v (.bool n)]) (fun _=>True):= by
 intro base spare held fuel cs x hx hw _
 obtain ⟨n,rfl,rfl⟩:= DataW.trod_bool hu hx
 exact ⟨n, .cons (.v _) .nil,trivial⟩
theorem weightsAll_mem {e:TypeId}: ∀{l:List (DataW H)} {d:DataW H} {n:Nat},d∈l→n∈d.weights P e→n∈DataW.weightsAll P e l
 | a::l,d,n,hd,hn=>by
  simp only [DataW.weightsAll,List.mem_append]
  rcases List.mem_cons.1 hd with rfl | h
  ·exact .inl hn
  ·exact .inr (weightsAll_mem h hn)
theorem cells?_some {base:Nat} {a:Addr} {n:Nat} {cs:List Value} (h:w.cells? base a n=some cs): cs.length=n∧∀i,i < n→w.cell? (a.add i)= cs[i]?:=by
 unfold World.cells? at h
 split at h
 ·have h1:=mapM_some_length h
  refine ⟨by simpa using h1,fun i hi=>?_⟩
  have:=mapM_some_get h i i (by simp [hi])
  exact this
 ·cases h
theorem cell_lt {a:Addr} {v:Value} (h:w.cell? a=some v): a.block < w.heap.size:=by
 unfold World.cell? at h
 split at h
 ·rename_i c t f he;exact (Array.getElem?_eq_some_iff.1 he).1
 ·cases h
theorem addr_add (a:Addr) (i j:Nat): (a.add i).add j=a.add (i+j):= by
 unfold Addr.add
 by_cases hi:i=0 <;> by_cases hj:j=0 <;> simp [hi,hj,Nat.add_assoc]
theorem pick_lt {α:Type} [Inhabited α] {n:Nat} {p:Nat→α→Prop} (h : ∀i,i < n→∃x,p i x): ∃g:Nat→α,∀i,i < n→p i (g i):= by
 classical
 refine ⟨fun i=>if hi:i < n then Classical.choose (h i hi) else default,fun i hi=>?_⟩
 simp only [dif_pos hi]
 exact Classical.choose_spec (h i hi)
theorem opn_slice {t e:TypeId} (hu:P.underlying t=some (.slice e)) (hsz:P.cellsOf e=S.sz e) (hpos:0 < S.sz e) {has:S.El e→Prop} (hlen : ∀x,(S.cell e x).length=S.sz e) {nb:Nat} (hnb:P.bytesOf e=nb) (he:Opn enc P S w true e (S.El e) (S.cell e) has):
  Opn enc P S w f t (List (S.El e)) (fun xs=>[.sl e xs false]) (fun xs=>(∀x∈xs,has x)∧xs.length*nb≤140737488351232):= by
 subst hnb
 intro base spare held fuel cs x hx hw hs
 rcases DataW.trod_slice hu hx with ⟨rfl,rfl⟩| ⟨a,len,cap,elems,rest,n,_,rfl,rfl,hb,hl,hm,hel,hcs,_,_⟩
 ·exact ⟨[], .cons (.slnil e false) .nil,by simp,by simp⟩
 ·by_cases hlen0:len=0
  ·subst hlen0
   exact ⟨[], .cons (.slemp e false a cap (by simp)) .nil,by simp,by simp⟩
  have hspot:a.spot=none:=by
   have h1:=hcs 0 (by omega)
   have h2:0 < elems.length:=by omega
   rw [List.getElem?_eq_getElem h2,Option.bind_eq_some_iff] at h1
   obtain ⟨ci,hci,_⟩:= h1
   obtain ⟨hc1,hc2⟩:= cells?_some hci
   have h3:=hc2 0 (by omega)
   have hjl:0 < ci.length:=by omega
   rw [List.getElem?_eq_getElem hjl] at h3
   have e0:(a.add (0*P.cellsOf e)).add 0=a:=by simp [Addr.add]
   rw [e0] at h3
   unfold World.cell? at h3
   split at h3
   ·split at h3
    ·cases h3
    ·rename_i hs;simpa using hs
   ·cases h3
  obtain ⟨b,off,sp⟩:= a
  simp only at hspot
  subst hspot
  simp only [DataW.weights,hu] at hw
  have hbulk:=hw _ (List.mem_cons_self ..)
  have key : ∀i,i < len→∃y:S.El e,(∀j,j < S.sz e→∃v,w.cell? ⟨b,off+(i*S.sz e+j),none⟩= some v∧Γ S (env0 w) w ((S.cell e y).getD j .any) v)∧has y:=by
   intro i hi
   have h1:=hcs i hi
   have h2:i < elems.length:=by omega
   rw [List.getElem?_eq_getElem h2,Option.bind_eq_some_iff] at h1
   obtain ⟨ci,hci,hti⟩:= h1
   obtain ⟨y,hy,hh⟩:= he base spare held n ci _ hti (fun m hm=>hw m (List.mem_cons_of_mem _ (List.mem_append.2 (.inl (weightsAll_mem (List.mem_map.2 ⟨_,List.getElem_mem h2,rfl⟩) hm))))) (fun hf=>by cases hf)
   obtain ⟨hc1,hc2⟩:= cells?_some hci
   refine ⟨y,fun j hj=>?_,hh⟩
   have h3:=hc2 j (by omega)
   have hjl:j < ci.length:=by omega
   rw [addr_add,add_plain,List.getElem?_eq_getElem hjl,hsz] at h3
   refine ⟨ci[j],h3, ?_⟩
   have:=hy.2 j
   rwa [show ci.getD j undef=ci[j] by simp [List.getD,hjl]] at this
  have:Inhabited (S.El e):= ⟨S.dflt e⟩
  obtain ⟨g,hg⟩:= pick_lt key
  let xs:=(List.range len).map g
  have hxl:xs.length=len:=by simp [xs]
  have hxg : ∀i,i < len→xs.getD i (S.dflt e)= g i:=fun i hi=>by simp [xs,List.getD,hi]
  refine ⟨xs, .cons ?_ .nil,fun y hy=>?_, ?_⟩
  ·have hcell : ∀k,k < xs.length*S.sz e→∃v,w.cell? ⟨b,off+k,none⟩= some v∧Γ S (env0 w) w ((S.cell e (xs.getD (k / S.sz e) (S.dflt e))).getD (k % S.sz e) .any) v:=by
    intro k hk
    rw [hxl] at hk
    have h4:k / S.sz e < len:=Nat.div_lt_of_lt_mul (by rw [Nat.mul_comm];exact hk)
    have h5:k % S.sz e < S.sz e:=Nat.mod_lt _ hpos
    obtain ⟨v,hv1,hv2⟩:= (hg _ h4).1 _ h5
    rw [Nat.mul_comm,Nat.div_add_mod] at hv1
    exact ⟨v,hv1,by rw [hxg _ h4];exact hv2⟩
   have e1:Value.slice (some ⟨b,off,none⟩) len cap = .slice (some ⟨b,off,none⟩) xs.length cap:=by rw [hxl]
   rw [e1]
   refine .sl e xs false b off cap (fun k=>(w.cell? ⟨b,off+k,none⟩).getD undef) (fun h=>by cases h) ⟨by omega,by simp only [maxLen] at hm;omega⟩ (fun k hk=>?_) (fun i j hi=>?_)
   ·obtain ⟨v,hv1,_⟩:= hcell k hk
    exact ⟨by rw [hv1];rfl,cell_lt hv1⟩
   ·by_cases hj:j < S.sz e
    ·obtain ⟨v,hv1,hv2⟩:= (hg i (by omega)).1 j hj
     rw [hv1,hxg i (by omega)];exact hv2
    ·rw [show (S.cell e (xs.getD i (S.dflt e))).getD j AV.any = .any from by simp [List.getD,List.getElem?_eq_none (show (S.cell e (xs[i]?.getD (S.dflt e))).length≤j by rw [hlen];omega)]]
     exact .any _
  ·obtain ⟨i,hi,rfl⟩:= List.mem_map.1 hy
   exact (hg i (List.mem_range.1 hi)).2
  ·rw [hxl]
   refine Nat.le_trans (Nat.mul_le_mul_right _ ?_) hbulk
   simp only [List.length_map];omega
def OpnL {H:Type} (enc:TypeId×Value→H) (P:Program) (S:Sig) (w:World) (f:Bool) (ts:List TypeId) (X:Type) (cell:X→List (AV S.El)) (has:X→Prop): Prop :=
 ∀(base:Nat) (spare:Nat→Bool) (held:Bool) (fuel:Nat) (css:List (List Value)) (xs:List (DataW H×List MemPlace)),css.length=ts.length→(∀(i:Nat) (t:TypeId) (cs:List Value),ts[i]? = some t→css[i]? = some cs→DataW.trod enc P w base spare held fuel t cs=xs[i]?∧(xs[i]?).isSome)→
  (∀(i:Nat) (t:TypeId) (x:DataW H×List MemPlace),ts[i]? = some t→xs[i]? = some x→∀n∈x.1.weights P t,n≤reachBytes)→(f=false→∀cs∈css,∀v∈cs,sane v)→∃v:X,G2 S (env0 w) w (cell v) css.flatten∧has v
theorem opnL_nil:OpnL enc P S w f [] Unit (fun _=>[]) (fun _=>True):= by
 intro base spare held fuel css xs hl _ _ _
 have:css=[]:= List.eq_nil_of_length_eq_zero hl
 subst this
 exact ⟨(), .nil,trivial⟩
theorem opnL_cons {t:TypeId} {ts:List TypeId} {X Y:Type} {c1:X→List (AV S.El)} {c2:Y→List (AV S.El)} {h1:X→Prop} {h2:Y→Prop} (a:Opn enc P S w f t X c1 h1) (b:OpnL enc P S w f ts Y c2 h2):
  OpnL enc P S w f (t::ts) (X×Y) (fun x=>c1 x.1 ++ c2 x.2) (fun x=>h1 x.1∧h2 x.2):= by
 intro base spare held fuel css xs hl hr hw hs
 match css,hl with
 | cs::css,hl =>
  obtain ⟨r1,r2⟩:= hr 0 t cs rfl rfl
  obtain ⟨x0,hx0⟩:= Option.isSome_iff_exists.1 r2
  obtain ⟨v,hv,hh⟩:= a base spare held fuel cs x0 (r1.trans hx0) (hw 0 t x0 rfl hx0) (fun hf v hv=>hs hf cs (by simp) v hv)
  match xs,hx0 with
  | x0'::xs,hx0 =>
   obtain ⟨u,hu,hk⟩:= b base spare held fuel css xs (by simpa using hl) (fun i t' cs' ht hc=>hr (i+1) t' cs' (by simpa using ht) (by simpa using hc)) (fun i t' x ht hx=>hw (i+1) t' x (by simpa using ht) (by simpa using hx)) (fun hf cs' hc=>hs hf cs' (by simp [hc]))
   exact ⟨(v,u),by rw [List.flatten_cons];exact hv.append hu,hh,hk⟩
def layB (P:Program): Nat→List Go.Field→Nat→Bool
 | off,[],n=>Nat.beq off n
 | off,fd::l,n=>Nat.beq fd.offset off && layB P (off+P.cellsOf fd.type) l n
theorem lay_flat : ∀(l:List Go.Field) (off n:Nat) (cs:List Value),layB P off l n=true→cs.length=n→(l.map fun fd=>(cs.drop fd.offset).take (P.cellsOf fd.type)).flatten=cs.drop off
 | [],off,n,cs,h,hl=>by
  have:=Nat.eq_of_beq_eq_true h
  simp [List.drop_eq_nil_of_le,hl,this]
 | fd::l,off,n,cs,h,hl=>by
  simp only [layB,Bool.and_eq_true] at h
  have h1:=Nat.eq_of_beq_eq_true h.1
  rw [List.map_cons,List.flatten_cons,lay_flat l _ n cs h.2 hl,h1,←List.drop_drop,List.take_append_drop]
theorem weightsEach_mem : ∀{ts:List TypeId} {ds:List (DataW H)} {i:Nat} {t:TypeId} {d:DataW H},ts[i]? = some t→ds[i]? = some d→∀n∈d.weights P t,n∈DataW.weightsEach P ts ds:=fun ht hd n hn=>DataW.weights_mem_each ht hd n hn
theorem opn_struct {t:TypeId} {fs:Array Go.Field} (hu:P.underlying t=some (.struct fs)) (ts:List TypeId) (hts:fs.toList.map (·.type)= ts) (hlay:layB P 0 fs.toList (P.cellsOf t)= true) {X Y:Type} {c:X→List (AV S.El)} {h:X→Prop} (hL:OpnL enc P S w f ts X c h)
  (g:X→Y) {cell:Y→List (AV S.El)} {has:Y→Prop} (hc : ∀x,cell (g x)= c x) (hh : ∀x,h x→has (g x)): Opn enc P S w f t Y cell has:=by
 intro base spare held fuel cs x hx hw hs
 obtain ⟨xs,n,rfl,rfl,hl,hxl,hf⟩:= DataW.trod_struct hu hx
 obtain ⟨v,hv,hv2⟩:= hL base spare held n (fs.toList.map fun fd=>(cs.drop fd.offset).take (P.cellsOf fd.type)) xs (by rw [←hts];simp) (fun i t' cs' ht hcs=>by
   rw [←hts] at ht
   simp only [List.getElem?_map,Option.map_eq_some_iff] at ht hcs
   obtain ⟨fd,hfd,rfl⟩:= ht
   obtain ⟨fd',hfd',rfl⟩:= hcs
   rw [hfd] at hfd';cases hfd'
   refine ⟨hf i fd (by simpa using hfd), ?_⟩
   have:i < xs.length:=by
    have:=(List.getElem?_eq_some_iff.1 hfd).1
    rw [hxl];simpa using this
   simp [this]) (fun i t' x' ht hx' m hm=>hw m (by
   simp only [DataW.weights,hu,hts]
   exact weightsEach_mem ht (by rw [List.getElem?_map,hx'];rfl) m hm)) (fun hf cs' hcs v hv=>by
   obtain ⟨fd,_,rfl⟩:= List.mem_map.1 hcs
   exact hs hf v (List.mem_of_mem_drop (List.mem_of_mem_take hv)))
 rw [lay_flat fs.toList 0 _ cs hlay hl,List.drop_zero] at hv
 exact ⟨g v,by rw [hc];exact hv,hh v hv2⟩
theorem cell_sane {r:Reach} {b:Nat} {t:TypeId} {v:Value} (h:Cell.okWide P w r b t v): sane v:=by
 cases v <;> try exact trivial
 rename_i a n c
 cases a with
 | none=>exact trivial
 | some a =>
  have h':Cell.ok P w r b t (.slice (some a) n c):= by
   unfold Cell.okWide at h
   split at h <;> first | exact h | simp_all
  unfold Cell.ok at h'
  split at h' <;> simp_all
  exact h'.2.2.2.1
theorem arg_agg {r:Reach} {b:Nat} {t:TypeId} {v:Value} (hk:(match P.underlying t with | some (.struct _)| some (.array _ _)=> true | _=>false)= true) (h:Value.okWide P w r b t v): (∃cs:Array Value,v = .agg cs)∧∀c∈v.cells.toList,sane c:=by
 have key : ∃cs:Array Value,v = .agg cs∧Row.okWide P w r b t cs:=by
  unfold Value.okWide at h
  split at h
  ·obtain ⟨cs,rfl,_,hr⟩:= h;exact ⟨cs,rfl,hr⟩
  ·obtain ⟨cs,rfl,_,hr⟩:= h;exact ⟨cs,rfl,hr⟩
  ·rename_i h1 h2
   split at hk
   ·rename_i fs hu;exact absurd hu (h1 fs)
   ·rename_i n e hu;exact absurd hu (h2 n e)
   ·cases hk
 obtain ⟨cs,rfl,ts,_,_,hr⟩:= key
 refine ⟨⟨cs,rfl⟩,fun c hm=>?_⟩
 have hm':c∈cs.toList:=hm
 obtain ⟨i,hi,rfl⟩:= List.getElem_of_mem hm'
 obtain ⟨u,_,hu⟩:= hr i _ (by rw [←Array.getElem?_toList,List.getElem?_eq_getElem hi])
 exact cell_sane hu
theorem open_agg {base:Nat} {spare:Nat→Bool} {held:Bool} {r:Reach} {b:Nat} {t:TypeId} {v:Value} {d:DataW H} {p:List MemPlace} (hk:(match P.underlying t with | some (.struct _)| some (.array _ _)=> true | _=>false)= true) {X:Type} {cell:X→List (AV S.El)} {has:X→Prop} (ho:Opn enc P S w false t X cell has)
  (hv:Value.okWide P w r b t v) (hd:DataW.Trod enc P w base spare held t v d p) (hw : ∀n∈d.weights P t,n≤reachBytes): ∃x:X,Γ S (env0 w) w (.agg (cell x)) v∧has x:=by
 obtain ⟨⟨cs,rfl⟩,h2⟩:= arg_agg hk hv
 obtain ⟨fuel,hf⟩:= hd
 obtain ⟨x,hx,hh⟩:= ho base spare held fuel _ _ hf hw (fun _=>h2)
 exact ⟨x,G2.agg hx,hh⟩
theorem law_of {C:Cx} {X:Type} {dec:List (AV C.S.El)→Option X} {pre:X→List Prop} {res:X→AV C.S.El} {news:X→List (AObj C.S.El)} {fid:FuncId} (h:CtOk C fid (ctOf dec pre res news)) {args:List (AV C.S.El)} {vals:List Value} {x:X} (hd:dec args=some x) (hp : ∀p∈pre x,p)
  (hr:res x = .v (.bool true)) (hlt:args.all (lt1 0)= true) {w:World} (hg:G2 C.S (env0 w) w args vals) (hgl : ∀g,Γ C.S (env0 w) w (C.S.glob g) (.pointer (some ⟨g,0,none⟩))): Calls C.P fid vals.toArray w fun e w'=>e = .returned (.bool true)∧Below w.heap.size w w' :=
 law_of_ct h (ps:=pre x) (news:=news x) (by unfold ctOf;rw [hd,←hr];rfl) hp hlt hg hgl
theorem weights_arg {ts:List TypeId} {ds gs:List (DataW H)} {us:List TypeId} (h:(DataW.weightsEach P (ts ++ us) (ds ++ gs)).all (·≤reachBytes)= true) {j:Nat} {t:TypeId} {d:DataW H} (ht:(ts ++ us)[j]? = some t) (hd:(ds ++ gs)[j]? = some d): ∀n∈d.weights P t,n≤reachBytes:=by
 intro n hn
 have:=List.all_eq_true.1 h n (DataW.weights_mem_each ht hd n hn)
 simpa using this
end
end Go.Aw
end
