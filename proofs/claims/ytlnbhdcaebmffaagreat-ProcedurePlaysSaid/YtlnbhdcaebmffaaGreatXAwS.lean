/-
  What abstract values say of the model's values in a world (own work), and how that lasts.
-/
import Derived.Test.YtlnbhdcaebmffaaGreatXAwA
set_option linter.unusedSimpArgs false
set_option linter.unusedVariables false
namespace Go.Aw
open Go.RowKit
structure Env where
  val:Nat→Option Value
  prot:Nat→Nat→Prop
inductive Γ (S:Sig) (env:Env) (w:World): AV S.El→Value→Prop
  | any (v:Value): Γ S env w .any v
  | v (x:Value): Γ S env w (.v x) x
  | agg (cs:List (AV S.El)) (vs:Array Value) (hn:vs.size=cs.length) (h : ∀j,Γ S env w (cs.getD j .any) (vs.toList.getD j undef)): Γ S env w (.agg cs) (.agg vs)
  | tup (cs:List (AV S.El)) (vs:Array Value) (hn:vs.size=cs.length) (h : ∀j,Γ S env w (cs.getD j .any) (vs.toList.getD j undef)): Γ S env w (.tup cs) (.tuple vs)
  | ref (i off b:Nat) (h:env.val i=some (.pointer (some ⟨b,0,none⟩))): Γ S env w (.ref i off) (.pointer (some ⟨b,off,none⟩))
  | gs (i:Nat) (a:Option Addr) (n c:Nat) (h:env.val i=some (.slice a n c)): Γ S env w (.gs i) (.slice a n c)
  | rg (t:TypeId) (i idx off b n cap bo:Nat) (h:env.val i=some (.slice (some ⟨b,bo,none⟩) n cap)): Γ S env w (.rg t i idx off) (.pointer (some ⟨b,bo+(idx*S.sz t+off),none⟩))
  | sl (t:TypeId) (xs:List (S.El t)) (full:Bool) (b off cap:Nat) (val:Nat→Value) (hf:full=true→cap=xs.length) (hc:xs.length≤cap∧xs.length≤9223372036854775807)
      (hw : ∀k,k < xs.length*S.sz t→w.cell? ⟨b,off+k,none⟩= some (val k)∧env.prot b (off+k))
      (h : ∀i j,i < xs.length→Γ S env w ((S.cell t (xs.getD i (S.dflt t))).getD j .any) (val (i*S.sz t+j))): Γ S env w (.sl t xs full) (.slice (some ⟨b,off,none⟩) xs.length cap)
  | slnil (t:TypeId) (full:Bool): Γ S env w (.sl t [] full) (.slice none 0 0)
  | slemp (t:TypeId) (full:Bool) (a:Addr) (cap:Nat) (hf:full=true→cap=0): Γ S env w (.sl t [] full) (.slice (some a) 0 cap)
  | rp (t:TypeId) (x:S.El t) (off b o:Nat) (val:Nat→Value)
      (hw : ∀k,k < S.sz t→w.cell? ⟨b,o+k,none⟩= some (val k)∧env.prot b (o+k))
      (h : ∀j,Γ S env w ((S.cell t x).getD j .any) (val j)): Γ S env w (.rp t x off) (.pointer (some ⟨b,o+off,none⟩))
  | ra (t:TypeId) (xs:List (S.El t)) (b:Nat) (val:Nat→Value)
      (hw : ∀k,k < xs.length*S.sz t→w.cell? ⟨b,k,none⟩= some (val k)∧env.prot b k)
      (h : ∀i j,i < xs.length→Γ S env w ((S.cell t (xs.getD i (S.dflt t))).getD j .any) (val (i*S.sz t+j))): Γ S env w (.ra t xs) (.pointer (some ⟨b,0,none⟩))
  | clo (f:FuncId) (cap:List (AV S.El)) (vs:Array Value) (hn:vs.size=cap.length) (h : ∀j,Γ S env w (cap.getD j .any) (vs.toList.getD j undef)): Γ S env w (.clo f cap) (closV f vs)
  | gw (t:TypeId) (i lo b n cap off c bo:Nat) (h:env.val i=some (.slice (some ⟨b,bo,none⟩) n cap)) (hl:lo≤n) (ho:lo < n→off=bo+lo*S.sz t): Γ S env w (.gw t i lo) (.slice (some ⟨b,off,none⟩) (n - lo) c)
  | gwnil (t:TypeId) (i lo:Nat) (h:env.val i=some (.slice none 0 0)): Γ S env w (.gw t i lo) (.slice none 0 0)
  | gm (i b:Nat) (h:env.val i=some (.map (some b))): Γ S env w (.gm i) (.map (some b))
  | fm (k:IntKind) (ks:List Int) (vs:List (AV S.El)) (b:Nat) (es:Array MapEntry) (ck:Nat) (hw:w.heap[b]? = some (.map es ck)) (hp:env.prot b 0) (hk:es.toList.map (·.key)= ks.map (.int k ·)) (hn:es.toList.length=vs.length)
      (h : ∀j,Γ S env w (vs.getD j .any) ((es.toList.map (·.val)).getD j undef)): Γ S env w (.fm k ks vs) (.map (some b))
  | gd (g:Bool) (x:AV S.El) (v:Value) (h:g=true→Γ S env w x v) (h':g=false→v=undef): Γ S env w (.gd g x) v
structure Ext (B N:Nat) (env:Env) (w:World) (env':Env) (w':World): Prop where
  below:Below B w w'
  val : ∀i v,i < N→env.val i=some v→env'.val i=some v
  prot : ∀b o,env.prot b o→env'.prot b o
  keep : ∀b o,env.prot b o→w'.heap[b]? = w.heap[b]?
  newp : ∀b o,env'.prot b o→env.prot b o∨B≤b
theorem Ext.refl (B N:Nat) (env:Env) (w:World): Ext B N env w env w:=⟨Below.refl _ _,fun _ _ _ h=>h,fun _ _ h=>h,fun _ _ _=>rfl,fun _ _ h => .inl h⟩
theorem Ext.trans {B N:Nat} {e1 e2 e3:Env} {w1 w2 w3:World} (h:Ext B N e1 w1 e2 w2) (k:Ext B N e2 w2 e3 w3): Ext B N e1 w1 e3 w3 :=
  ⟨h.below.trans k.below,fun i v hi hv=>k.val i v hi (h.val i v hi hv),fun b o hp=>k.prot b o (h.prot b o hp),fun b o hp=>(k.keep b o (h.prot b o hp)).trans (h.keep b o hp),
    fun b o hp=>(k.newp b o hp).elim (h.newp b o) .inr⟩
theorem Ext.mono {B N M:Nat} {e1 e2:Env} {w1 w2:World} (h:Ext B N e1 w1 e2 w2) (hm:M≤N): Ext B M e1 w1 e2 w2 :=
  ⟨h.below,fun i v hi=>h.val i v (Nat.lt_of_lt_of_le hi hm),h.prot,h.keep,h.newp⟩
theorem Ext.cell {B N:Nat} {env env':Env} {w w':World} (he:Ext B N env w env' w') (b o:Nat) {b' o':Nat} (h:env.prot b' o') (hb:b'=b): w'.cell? ⟨b,o,none⟩= w.cell? ⟨b,o,none⟩:= by
  subst hb
  exact World.cell?_of_block (he.keep b' o' h)
theorem Γ.ext {S:Sig} {B N:Nat} {env env':Env} {w w':World} (he:Ext B N env w env' w') (hN : ∀i v,env.val i=some v→i < N) {a:AV S.El} {v:Value} (h:Γ S env w a v): Γ S env' w' a v:=by
  induction h with
  | any v=>exact .any v
  | v x=>exact .v x
  | agg cs vs hn _ ih=>exact .agg cs vs hn ih
  | tup cs vs hn _ ih=>exact .tup cs vs hn ih
  | ref i off b h=>exact .ref i off b (he.val i _ (hN i _ h) h)
  | gs i a n c h=>exact .gs i a n c (he.val i _ (hN i _ h) h)
  | rg t i idx off b n cap bo h=>exact .rg t i idx off b n cap bo (he.val i _ (hN i _ h) h)
  | sl t xs full b off cap val hf hc hw _ ih=>exact .sl t xs full b off cap val hf hc (fun k hk=>⟨(he.cell _ _ (hw k hk).2 rfl).trans (hw k hk).1,he.prot _ _ (hw k hk).2⟩) ih
  | slnil t full=>exact .slnil t full
  | slemp t full a cap hf=>exact .slemp t full a cap hf
  | rp t x off b o val hw _ ih=>exact .rp t x off b o val (fun k hk=>⟨(he.cell _ _ (hw k hk).2 rfl).trans (hw k hk).1,he.prot _ _ (hw k hk).2⟩) ih
  | ra t xs b val hw _ ih=>exact .ra t xs b val (fun k hk=>⟨(he.cell _ _ (hw k hk).2 rfl).trans (hw k hk).1,he.prot _ _ (hw k hk).2⟩) ih
  | clo f cap vs hn _ ih=>exact .clo f cap vs hn ih
  | gw t i lo b n cap off c bo h hl ho=>exact .gw t i lo b n cap off c bo (he.val i _ (hN i _ h) h) hl ho
  | gwnil t i lo h=>exact .gwnil t i lo (he.val i _ (hN i _ h) h)
  | gm i b h=>exact .gm i b (he.val i _ (hN i _ h) h)
  | fm k ks vs b es ck hw hp hk hn _ ih=>exact .fm k ks vs b es ck ((he.keep _ _ hp).trans hw) (he.prot _ _ hp) hk hn ih
  | gd g x v _ h' ih=>exact .gd g x v ih h'
def G2 (S:Sig) (env:Env) (w:World) (cs:List (AV S.El)) (vs:List Value): Prop:=vs.length=cs.length∧∀j,Γ S env w (cs.getD j .any) (vs.getD j undef)
theorem G2.ext {S:Sig} {B N:Nat} {env env':Env} {w w':World} (he:Ext B N env w env' w') (hN : ∀i v,env.val i=some v→i < N) {cs:List (AV S.El)} {vs:List Value} (h:G2 S env w cs vs): G2 S env' w' cs vs :=
  ⟨h.1,fun j=>(h.2 j).ext he hN⟩
theorem G2.nil {S:Sig} {env:Env} {w:World}: G2 S env w [] []:= ⟨rfl,fun _=>by simpa using .any _⟩
theorem G2.cons {S:Sig} {env:Env} {w:World} {c:AV S.El} {v:Value} {cs:List (AV S.El)} {vs:List Value} (h:Γ S env w c v) (k:G2 S env w cs vs): G2 S env w (c::cs) (v::vs):=
  ⟨by simp [k.1],fun j=>by cases j with
    | zero=>simpa using h
    | succ j=>simpa using k.2 j⟩
theorem G2.uncons {S:Sig} {env:Env} {w:World} {c:AV S.El} {cs:List (AV S.El)} {vs:List Value} (h:G2 S env w (c::cs) vs): ∃u us,vs=u::us∧Γ S env w c u∧G2 S env w cs us:=by
  obtain ⟨hl,h⟩:= h
  match vs,hl with
  | u::us,hl=>exact ⟨u,us,rfl,by simpa using h 0,by simpa using hl,fun j=>by simpa using h (j+1)⟩
theorem G2.append {S:Sig} {env:Env} {w:World} {as bs:List (AV S.El)} {us vs:List Value} (h:G2 S env w as us) (k:G2 S env w bs vs): G2 S env w (as ++ bs) (us ++ vs):= by
  induction as generalizing us with
  | nil=>obtain ⟨hl,_⟩:= h;have:us=[]:= List.eq_nil_of_length_eq_zero hl;subst this;simpa using k
  | cons a as ih=>obtain ⟨u,us',rfl,h1,h2⟩:= h.uncons;exact (ih h2).cons h1
theorem G2.drop {S:Sig} {env:Env} {w:World} {as:List (AV S.El)} {us:List Value} (h:G2 S env w as us) (n:Nat): G2 S env w (as.drop n) (us.drop n):= by
  refine ⟨by simp [h.1],fun j=>?_⟩
  have:=h.2 (n+j)
  simpa [List.getD,List.getElem?_drop] using this
theorem G2.take {S:Sig} {env:Env} {w:World} {as:List (AV S.El)} {us:List Value} (h:G2 S env w as us) (n:Nat): G2 S env w (as.take n) (us.take n):= by
  refine ⟨by simp [h.1],fun j=>?_⟩
  have:=h.2 j
  simp only [List.getD,List.getElem?_take] at this ⊢
  split
  · exact this
  · simpa using .any _
theorem G2.vmap {S:Sig} {env:Env} {w:World} (vs:List Value): G2 S env w (vs.map .v) vs:=by
  induction vs with
  | nil=>exact .nil
  | cons v vs ih=>exact ih.cons (.v v)
theorem G2.agg {S:Sig} {env:Env} {w:World} {cs:List (AV S.El)} {vs:Array Value} (h:G2 S env w cs vs.toList): Γ S env w (.agg cs) (.agg vs):= .agg cs vs (by simpa using h.1) h.2
theorem Γ.unagg {S:Sig} {env:Env} {w:World} {cs:List (AV S.El)} {v:Value} (h:Γ S env w (.agg cs) v): ∃vs:Array Value,v = .agg vs∧G2 S env w cs vs.toList:=by
  cases h with | agg _ vs hn h=>exact ⟨vs,rfl,by simpa using hn,h⟩
theorem Γ.untup {S:Sig} {env:Env} {w:World} {cs:List (AV S.El)} {v:Value} (h:Γ S env w (.tup cs) v): ∃vs:Array Value,v = .tuple vs∧G2 S env w cs vs.toList:=by
  cases h with | tup _ vs hn h=>exact ⟨vs,rfl,by simpa using hn,h⟩
theorem Γ.unclo {S:Sig} {env:Env} {w:World} {f:FuncId} {cs:List (AV S.El)} {v:Value} (h:Γ S env w (.clo f cs) v): ∃vs:Array Value,v=closV f vs∧G2 S env w cs vs.toList:=by
  cases h with | clo _ _ vs hn h=>exact ⟨vs,rfl,by simpa using hn,h⟩
theorem Γ.unv {S:Sig} {env:Env} {w:World} {x v:Value} (h:Γ S env w (.v x) v): v=x:=by cases h;rfl
structure SigOk (S:Sig): Prop where
  len : ∀t x,(S.cell t x).length=S.sz t
  pos : ∀t,0 < S.sz t
  flat : ∀t x c,c∈S.cell t x→lt0 0 c=true∧one c=true
  gl : ∀g,lt2 0 (S.glob g)= true
  dec : ∀t cs x,S.dec t cs=some x→∀env w vs,G2 S env w cs vs→G2 S env w (S.cell t x) vs
  ints : ∀t f,S.toInts t=some f→S.sz t=1∧∀xs:List (S.El t),(f xs).length=xs.length∧∀i,i < xs.length→S.cell t (xs.getD i (S.dflt t))= [.v (.int .u8 ((f xs).getD i 0))]
  bytes : ∀t f,S.ofBytes t=some f→S.sz t=1∧∀s:ByteArray,(f s).length=s.size∧∀i,i < s.size→S.cell t ((f s).getD i (S.dflt t))= [.v (.int .u8 ((bytesI s).getD i 0))]
  unif : ∀t x,(S.cell t x).map isScal=(S.cell t (S.dflt t)).map isScal
theorem Γ.lt0' {S:Sig} (hS:SigOk S) {env env':Env} {w w':World} {n:Nat} (hv : ∀i v,i < n→env.val i=some v→env'.val i=some v)
    (hp : ∀b o,env.prot b o→env'.prot b o∧w'.heap[b]? = w.heap[b]?) {a:AV S.El} {v:Value} (h:Γ S env w a v): (Go.Aw.lt0 n a=true∨cl0 a=true∨cl1 a=true)→Γ S env' w' a v:=by
  have hc : ∀b o,env.prot b o→w'.cell? ⟨b,o,none⟩= w.cell? ⟨b,o,none⟩:= fun b o h=>World.cell?_of_block (hp b o h).2
  have key : ∀(t:TypeId) (x:S.El t) j (u:Value),((Go.Aw.lt0 n ((S.cell t x).getD j .any)= true∨cl0 ((S.cell t x).getD j .any)= true∨cl1 ((S.cell t x).getD j .any)= true)→Γ S env' w' ((S.cell t x).getD j .any) u)→Γ S env' w' ((S.cell t x).getD j .any) u:=by
    intro t x j u ih
    by_cases hj:j < (S.cell t x).length
    · refine ih (.inl ?_)
      have hm:(S.cell t x).getD j .any∈S.cell t x:=by simp [List.getD,List.getElem?_eq_getElem hj]
      have:=(hS.flat t x _ hm).1
      revert this
      cases (S.cell t x).getD j .any <;> simp [Go.Aw.lt0]
    · have:(S.cell t x).getD j AV.any = .any:=by simp [List.getD,List.getElem?_eq_none (Nat.le_of_not_lt hj)]
      rw [this];exact .any _
  have all : ∀(cs:List (AV S.El)) (f:AV S.El→Bool) j,cs.all f=true→f .any=true→f (cs.getD j .any)= true:=by
    intro cs f j h h0
    by_cases hj:j < cs.length
    · refine List.all_eq_true.1 h _ ?_
      simp [List.getD,List.getElem?_eq_getElem hj]
    · rw [show cs.getD j AV.any = .any by simp [List.getD,List.getElem?_eq_none (Nat.le_of_not_lt hj)]];exact h0
  induction h with
  | any v=>exact fun _ => .any v
  | v x=>exact fun _ => .v x
  | agg cs vs hn _ ih =>
    intro h
    refine .agg cs vs hn fun j=>ih j (.inr (.inl ?_))
    rcases h with h | h | h
    · simp [Go.Aw.lt0] at h
    · simp [cl0] at h
    · exact all cs cl0 j h rfl
  | tup | gd=>intro h;simp [Go.Aw.lt0,cl0,cl1] at h
  | clo f cap vs hn hc0 ih =>
    intro h
    have hs:cap.all isScal=true:=by
      rcases h with h | h | h
      · simp [Go.Aw.lt0] at h
      · exact h
      · exact h
    refine .clo f cap vs hn fun j=>?_
    have hj:=hc0 j
    by_cases hl:j < cap.length
    · have hm:isScal (cap.getD j .any)= true:=List.all_eq_true.1 hs _ (by simp [List.getD,List.getElem?_eq_getElem hl])
      revert hj hm
      cases cap.getD j .any <;> intro hj hm <;> first | (cases hm;done)| (cases hj;exact .v _)
    · rw [show cap.getD j AV.any = .any by simp [List.getD,List.getElem?_eq_none (Nat.le_of_not_lt hl)]];exact .any _
  | ref i off b h=>intro hl;exact .ref i off b (hv i _ (by simpa [Go.Aw.lt0,cl0,cl1] using hl) h)
  | gs i a n c h=>intro hl;exact .gs i a n c (hv i _ (by simpa [Go.Aw.lt0,cl0,cl1] using hl) h)
  | rg t i idx off b m cap bo h=>intro hl;exact .rg t i idx off b m cap bo (hv i _ (by simpa [Go.Aw.lt0,cl0,cl1] using hl) h)
  | gw t i lo b m cap off c bo h hl ho=>intro hlt;exact .gw t i lo b m cap off c bo (hv i _ (by simpa [Go.Aw.lt0,cl0,cl1] using hlt) h) hl ho
  | gwnil t i lo h=>intro hlt;exact .gwnil t i lo (hv i _ (by simpa [Go.Aw.lt0,cl0,cl1] using hlt) h)
  | gm i b h=>intro hl;exact .gm i b (hv i _ (by simpa [Go.Aw.lt0,cl0,cl1] using hl) h)
  | fm k ks vs b es ck hw hp' hk hn _ ih =>
    intro h
    refine .fm k ks vs b es ck ((hp _ _ hp').2.trans hw) (hp _ _ hp').1 hk hn fun j=>ih j (.inr (.inr ?_))
    rcases h with h | h | h
    · exact all vs cl1 j h rfl
    · simp [cl0] at h
    · simp [cl1,cl0] at h
  | sl t xs full b off cap val hf hcc hw _ ih=>intro _;exact .sl t xs full b off cap val hf hcc (fun k hk=>⟨(hc _ _ (hw k hk).2).trans (hw k hk).1,(hp _ _ (hw k hk).2).1⟩) (fun i j hi=>key _ _ _ _ (ih i j hi))
  | slnil t full=>exact fun _ => .slnil t full
  | slemp t full a cap hf=>exact fun _ => .slemp t full a cap hf
  | rp t x off b o val hw _ ih=>intro _;exact .rp t x off b o val (fun k hk=>⟨(hc _ _ (hw k hk).2).trans (hw k hk).1,(hp _ _ (hw k hk).2).1⟩) (fun j=>key _ _ _ _ (ih j))
  | ra t xs b val hw _ ih=>intro _;exact .ra t xs b val (fun k hk=>⟨(hc _ _ (hw k hk).2).trans (hw k hk).1,(hp _ _ (hw k hk).2).1⟩) (fun i j hi=>key _ _ _ _ (ih i j hi))
theorem Γ.lt0 {S:Sig} (hS:SigOk S) {env env':Env} {w w':World} {n:Nat} (hv : ∀i v,i < n→env.val i=some v→env'.val i=some v)
    (hp : ∀b o,env.prot b o→env'.prot b o∧w'.heap[b]? = w.heap[b]?) {a:AV S.El} {v:Value} (h:Γ S env w a v) (hl:Go.Aw.lt0 n a=true): Γ S env' w' a v:=h.lt0' hS hv hp (.inl hl)
def blkV:Value→Option Nat
  | .pointer (some a)=> some a.block
  | .slice (some a) _ _=>some a.block
  | .map (some b)=> some b
  | _=>none
def live {El:TypeId→Type}: AObj El→Bool
  | .cells _ | .row .. | .mp .. => true
  | _=>false
def OwnsR (w:World) (base:Nat) (e:TypeId) (size:Nat) (v:Value) (n:Nat) (xs:List Value): Prop :=
  xs.length=n*size∧
  ((v = .slice none 0 0∧n=0)∨
   ∃g cap cur,∃fz:Nat×Nat,∃o:Nat,v = .slice (some ⟨g,o,none⟩) n cap∧base≤g∧w.heap[g]? = some (.cells cur e fz)∧n≤cap∧cap≤maxLen∧o+cap*size≤cur.size∧(cur.toList.drop o).take (n*size)= xs∧(fz.2=0∨cur.size≤fz.1))
theorem OwnsR.of {w:World} {base:Nat} {e:TypeId} {size:Nat} {v:Value} {n:Nat} {xs:List Value} (h:w.ownsRow base e size v n xs): OwnsR w base e size v n xs:=by
  refine ⟨h.1, ?_⟩
  rcases h.2 with h | ⟨g,cap,cur,h1,h2,h3,h4,h5,h6,h7⟩
  · exact .inl h
  · exact .inr ⟨g,cap,cur,(0,0),0,h1,h2,h3,h4,h5,by omega,by simpa using h7, .inl rfl⟩
def ObjOk (S:Sig) (env:Env) (w:World) (B:Nat) (v:Option Value): AObj S.El→Prop
  | .cells cs => ∃b vs T,v=some (.pointer (some ⟨b,0,none⟩))∧B≤b∧w.heap[b]? = some (.cells vs T (0,0))∧G2 S env w cs vs.toList
  | .row t xs => ∃u ws,v=some u∧OwnsR w B t (S.sz t) u xs.length ws∧∀i j,i < xs.length→j < S.sz t→Γ S env w ((S.cell t (xs.getD i (S.dflt t))).getD j .any) (ws.getD (i*S.sz t+j) undef)
  | .frozen t xs => ∃u,v=some u∧Γ S env w (.sl t xs false) u
  | .mp k ks vs => ∃b es ck,v=some (.map (some b))∧B≤b∧w.heap[b]? = some (.map es ck)∧es.toList.map (·.key)= ks.map (.int k ·)∧G2 S env w vs (es.toList.map (·.val))
  | .gone=>True
structure Inv (S:Sig) (B:Nat) (env:Env) (w:World) (H:List (AObj S.El)): Prop where
  objs : ∀i,ObjOk S env w B (env.val i) (obj H i)
  free : ∀i v b,live (obj H i)= true→env.val i=some v→blkV v=some b→∀o,¬env.prot b o
  apart : ∀i j u v b,live (obj H i)= true→live (obj H j)= true→env.val i=some u→env.val j=some v→blkV u=some b→blkV v=some b→i=j
  inheap : ∀b o,env.prot b o→b < w.heap.size
  fresh : ∀i v,env.val i=some v→i < H.length
  glob : ∀g,Γ S env w (S.glob g) (.pointer (some ⟨g,0,none⟩))
  base:B≤w.heap.size
end Go.Aw
