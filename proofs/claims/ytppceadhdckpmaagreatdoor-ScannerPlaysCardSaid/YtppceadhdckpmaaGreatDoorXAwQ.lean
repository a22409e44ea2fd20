import Derived.Test.YtppceadhdckpmaaGreatDoorXAwA
section
/-
  What abstract values say of the model's values in a world (own work), and how that lasts.
-/
set_option linter.unusedSimpArgs false
set_option linter.unusedVariables false
namespace Go.Aw
open Go.RowKit
structure Env where
  val:Nat→Option Value
  prot:Nat→Nat→Prop
inductive Γ (S:Sig) (env:Env) (w:World): AV S.El→Value→Prop
  | any (v:Value): Γ S env w .any v
  | v (x:Value): Γ S env w (.v x) x
  | agg (cs:List (AV S.El)) (vs:Array Value) (hn:vs.size=cs.length) (h : ∀j,Γ S env w (cs.getD j .any) (vs.toList.getD j undef)): Γ S env w (.agg cs) (.agg vs)
  | tup (cs:List (AV S.El)) (vs:Array Value) (hn:vs.size=cs.length) (h : ∀j,Γ S env w (cs.getD j .any) (vs.toList.getD j undef)): Γ S env w (.tup cs) (.tuple vs)
  | ref (i off b:Nat) (h:env.val i=some (.pointer (some ⟨b,0,none⟩))): Γ S env w (.ref i off) (.pointer (some ⟨b,off,none⟩))
  | gs (i:Nat) (a:Option Addr) (n c:Nat) (h:env.val i=some (.slice a n c)): Γ S env w (.gs i) (.slice a n c)
  | rg (t:TypeId) (i idx off b n cap bo:Nat) (h:env.val i=some (.slice (some ⟨b,bo,none⟩) n cap)): Γ S env w (.rg t i idx off) (.pointer (some ⟨b,bo+(idx*S.sz t+off),none⟩))
  | sl (t:TypeId) (xs:List (S.El t)) (full:Bool) (b off cap:Nat) (val:Nat→Value) (hf:full=true→cap=xs.length) (hc:xs.length≤cap∧xs.length≤9223372036854775807)
      (hw : ∀k,k < xs.length*S.sz t→w.cell? ⟨b,off+k,none⟩= some (val k)∧env.prot b (off+k))
      (h : ∀i j,i < xs.length→Γ S env w ((S.cell t (xs.getD i (S.dflt t))).getD j .any) (val (i*S.sz t+j))): Γ S env w (.sl t xs full) (.slice (some ⟨b,off,none⟩) xs.length cap)
  | slnil (t:TypeId) (full:Bool): Γ S env w (.sl t [] full) (.slice none 0 0)
  | slemp (t:TypeId) (full:Bool) (a:Addr) (cap:Nat) (hf:full=true→cap=0): Γ S env w (.sl t [] full) (.slice (some a) 0 cap)
  | rp (t:TypeId) (x:S.El t) (off b o:Nat) (val:Nat→Value)
      (hw : ∀k,k < S.sz t→w.cell? ⟨b,o+k,none⟩= some (val k)∧env.prot b (o+k))
      (h : ∀j,Γ S env w ((S.cell t x).getD j .any) (val j)): Γ S env w (.rp t x off) (.pointer (some ⟨b,o+off,none⟩))
  | ra (t:TypeId) (xs:List (S.El t)) (b:Nat) (val:Nat→Value)
      (hw : ∀k,k < xs.length*S.sz t→w.cell? ⟨b,k,none⟩= some (val k)∧env.prot b k)
      (h : ∀i j,i < xs.length→Γ S env w ((S.cell t (xs.getD i (S.dflt t))).getD j .any) (val (i*S.sz t+j))): Γ S env w (.ra t xs) (.pointer (some ⟨b,0,none⟩))
  | clo (f:FuncId) (cap:List (AV S.El)) (vs:Array Value) (hn:vs.size=cap.length) (h : ∀j,Γ S env w (cap.getD j .any) (vs.toList.getD j undef)): Γ S env w (.clo f cap) (.func (.func f) #[] vs)
  | gw (t:TypeId) (i lo b n cap off c bo:Nat) (h:env.val i=some (.slice (some ⟨b,bo,none⟩) n cap)) (hl:lo≤n) (ho:lo < n→off=bo+lo*S.sz t): Γ S env w (.gw t i lo) (.slice (some ⟨b,off,none⟩) (n - lo) c)
  | gwnil (t:TypeId) (i lo:Nat) (h:env.val i=some (.slice none 0 0)): Γ S env w (.gw t i lo) (.slice none 0 0)
  | gm (i b:Nat) (h:env.val i=some (.map (some b))): Γ S env w (.gm i) (.map (some b))
  | fm (k:IntKind) (ks:List Int) (vs:List (AV S.El)) (b:Nat) (es:Array MapEntry) (ck:Nat) (hw:w.heap[b]? = some (.map es ck)) (hp:env.prot b 0) (hk:es.toList.map (·.key)= ks.map (.int k ·)) (hn:es.toList.length=vs.length)
      (h : ∀j,Γ S env w (vs.getD j .any) ((es.toList.map (·.val)).getD j undef)): Γ S env w (.fm k ks vs) (.map (some b))
  | gd (g:Bool) (x:AV S.El) (v:Value) (h:g=true→Γ S env w x v) (h':g=false→v=undef): Γ S env w (.gd g x) v
structure Ext (B N:Nat) (env:Env) (w:World) (env':Env) (w':World): Prop where
  below:Below B w w'
  val : ∀i v,i < N→env.val i=some v→env'.val i=some v
  prot : ∀b o,env.prot b o→env'.prot b o
  keep : ∀b o,env.prot b o→w'.heap[b]? = w.heap[b]?
  newp : ∀b o,env'.prot b o→env.prot b o∨B≤b
theorem Ext.refl (B N:Nat) (env:Env) (w:World): Ext B N env w env w:=⟨Below.refl _ _,fun _ _ _ h=>h,fun _ _ h=>h,fun _ _ _=>rfl,fun _ _ h => .inl h⟩
theorem Ext.trans {B N:Nat} {e1 e2 e3:Env} {w1 w2 w3:World} (h:Ext B N e1 w1 e2 w2) (k:Ext B N e2 w2 e3 w3): Ext B N e1 w1 e3 w3 :=
  ⟨h.below.trans k.below,fun i v hi hv=>k.val i v hi (h.val i v hi hv),fun b o hp=>k.prot b o (h.prot b o hp),fun b o hp=>(k.keep b o (h.prot b o hp)).trans (h.keep b o hp),
    fun b o hp=>(k.newp b o hp).elim (h.newp b o) .inr⟩
theorem Ext.mono {B N M:Nat} {e1 e2:Env} {w1 w2:World} (h:Ext B N e1 w1 e2 w2) (hm:M≤N): Ext B M e1 w1 e2 w2 :=
  ⟨h.below,fun i v hi=>h.val i v (Nat.lt_of_lt_of_le hi hm),h.prot,h.keep,h.newp⟩
theorem Ext.cell {B N:Nat} {env env':Env} {w w':World} (he:Ext B N env w env' w') (b o:Nat) {b' o':Nat} (h:env.prot b' o') (hb:b'=b): w'.cell? ⟨b,o,none⟩= w.cell? ⟨b,o,none⟩:= by
  subst hb
  exact World.cell?_of_block (he.keep b' o' h)
theorem Γ.ext {S:Sig} {B N:Nat} {env env':Env} {w w':World} (he:Ext B N env w env' w') (hN : ∀i v,env.val i=some v→i < N) {a:AV S.El} {v:Value} (h:Γ S env w a v): Γ S env' w' a v:=by
  induction h with
  | any v=>exact .any v
  | v x=>exact .v x
  | agg cs vs hn _ ih=>exact .agg cs vs hn ih
  | tup cs vs hn _ ih=>exact .tup cs vs hn ih
  | ref i off b h=>exact .ref i off b (he.val i _ (hN i _ h) h)
  | gs i a n c h=>exact .gs i a n c (he.val i _ (hN i _ h) h)
  | rg t i idx off b n cap bo h=>exact .rg t i idx off b n cap bo (he.val i _ (hN i _ h) h)
  | sl t xs full b off cap val hf hc hw _ ih=>exact .sl t xs full b off cap val hf hc (fun k hk=>⟨(he.cell _ _ (hw k hk).2 rfl).trans (hw k hk).1,he.prot _ _ (hw k hk).2⟩) ih
  | slnil t full=>exact .slnil t full
  | slemp t full a cap hf=>exact .slemp t full a cap hf
  | rp t x off b o val hw _ ih=>exact .rp t x off b o val (fun k hk=>⟨(he.cell _ _ (hw k hk).2 rfl).trans (hw k hk).1,he.prot _ _ (hw k hk).2⟩) ih
  | ra t xs b val hw _ ih=>exact .ra t xs b val (fun k hk=>⟨(he.cell _ _ (hw k hk).2 rfl).trans (hw k hk).1,he.prot _ _ (hw k hk).2⟩) ih
  | clo f cap vs hn _ ih=>exact .clo f cap vs hn ih
  | gw t i lo b n cap off c bo h hl ho=>exact .gw t i lo b n cap off c bo (he.val i _ (hN i _ h) h) hl ho
  | gwnil t i lo h=>exact .gwnil t i lo (he.val i _ (hN i _ h) h)
  | gm i b h=>exact .gm i b (he.val i _ (hN i _ h) h)
  | fm k ks vs b es ck hw hp hk hn _ ih=>exact .fm k ks vs b es ck ((he.keep _ _ hp).trans hw) (he.prot _ _ hp) hk hn ih
  | gd g x v _ h' ih=>exact .gd g x v ih h'
def G2 (S:Sig) (env:Env) (w:World) (cs:List (AV S.El)) (vs:List Value): Prop:=vs.length=cs.length∧∀j,Γ S env w (cs.getD j .any) (vs.getD j undef)
theorem G2.ext {S:Sig} {B N:Nat} {env env':Env} {w w':World} (he:Ext B N env w env' w') (hN : ∀i v,env.val i=some v→i < N) {cs:List (AV S.El)} {vs:List Value} (h:G2 S env w cs vs): G2 S env' w' cs vs :=
  ⟨h.1,fun j=>(h.2 j).ext he hN⟩
theorem G2.nil {S:Sig} {env:Env} {w:World}: G2 S env w [] []:= ⟨rfl,fun _=>by simpa using .any _⟩
theorem G2.cons {S:Sig} {env:Env} {w:World} {c:AV S.El} {v:Value} {cs:List (AV S.El)} {vs:List Value} (h:Γ S env w c v) (k:G2 S env w cs vs): G2 S env w (c::cs) (v::vs):=
  ⟨by simp [k.1],fun j=>by cases j with
    | zero=>simpa using h
    | succ j=>simpa using k.2 j⟩
theorem G2.uncons {S:Sig} {env:Env} {w:World} {c:AV S.El} {cs:List (AV S.El)} {vs:List Value} (h:G2 S env w (c::cs) vs): ∃u us,vs=u::us∧Γ S env w c u∧G2 S env w cs us:=by
  obtain ⟨hl,h⟩:= h
  match vs,hl with
  | u::us,hl=>exact ⟨u,us,rfl,by simpa using h 0,by simpa using hl,fun j=>by simpa using h (j+1)⟩
theorem G2.append {S:Sig} {env:Env} {w:World} {as bs:List (AV S.El)} {us vs:List Value} (h:G2 S env w as us) (k:G2 S env w bs vs): G2 S env w (as ++ bs) (us ++ vs):= by
  induction as generalizing us with
  | nil=>obtain ⟨hl,_⟩:= h;have:us=[]:= List.eq_nil_of_length_eq_zero hl;subst this;simpa using k
  | cons a as ih=>obtain ⟨u,us',rfl,h1,h2⟩:= h.uncons;exact (ih h2).cons h1
theorem G2.drop {S:Sig} {env:Env} {w:World} {as:List (AV S.El)} {us:List Value} (h:G2 S env w as us) (n:Nat): G2 S env w (as.drop n) (us.drop n):= by
  refine ⟨by simp [h.1],fun j=>?_⟩
  have:=h.2 (n+j)
  simpa [List.getD,List.getElem?_drop] using this
theorem G2.take {S:Sig} {env:Env} {w:World} {as:List (AV S.El)} {us:List Value} (h:G2 S env w as us) (n:Nat): G2 S env w (as.take n) (us.take n):= by
  refine ⟨by simp [h.1],fun j=>?_⟩
  have:=h.2 j
  simp only [List.getD,List.getElem?_take] at this ⊢
  split
  · exact this
  · simpa using .any _
theorem G2.vmap {S:Sig} {env:Env} {w:World} (vs:List Value): G2 S env w (vs.map .v) vs:=by
  induction vs with
  | nil=>exact .nil
  | cons v vs ih=>exact ih.cons (.v v)
theorem G2.agg {S:Sig} {env:Env} {w:World} {cs:List (AV S.El)} {vs:Array Value} (h:G2 S env w cs vs.toList): Γ S env w (.agg cs) (.agg vs):= .agg cs vs (by simpa using h.1) h.2
theorem Γ.unagg {S:Sig} {env:Env} {w:World} {cs:List (AV S.El)} {v:Value} (h:Γ S env w (.agg cs) v): ∃vs:Array Value,v = .agg vs∧G2 S env w cs vs.toList:=by
  cases h with | agg _ vs hn h=>exact ⟨vs,rfl,by simpa using hn,h⟩
theorem Γ.untup {S:Sig} {env:Env} {w:World} {cs:List (AV S.El)} {v:Value} (h:Γ S env w (.tup cs) v): ∃vs:Array Value,v = .tuple vs∧G2 S env w cs vs.toList:=by
  cases h with | tup _ vs hn h=>exact ⟨vs,rfl,by simpa using hn,h⟩
theorem Γ.unclo {S:Sig} {env:Env} {w:World} {f:FuncId} {cs:List (AV S.El)} {v:Value} (h:Γ S env w (.clo f cs) v): ∃vs:Array Value,v = .func (.func f) #[] vs∧G2 S env w cs vs.toList:=by
  cases h with | clo _ _ vs hn h=>exact ⟨vs,rfl,by simpa using hn,h⟩
theorem Γ.unv {S:Sig} {env:Env} {w:World} {x v:Value} (h:Γ S env w (.v x) v): v=x:=by cases h;rfl
structure SigOk (S:Sig): Prop where
  len : ∀t x,(S.cell t x).length=S.sz t
  pos : ∀t,0 < S.sz t
  flat : ∀t x c,c∈S.cell t x→lt0 0 c=true∧one c=true
  gl : ∀g,lt2 0 (S.glob g)= true
  dec : ∀t cs x,S.dec t cs=some x→∀env w vs,G2 S env w cs vs→G2 S env w (S.cell t x) vs
  ints : ∀t f,S.toInts t=some f→S.sz t=1∧∀xs:List (S.El t),(f xs).length=xs.length∧∀i,i < xs.length→S.cell t (xs.getD i (S.dflt t))= [.v (.int .u8 ((f xs).getD i 0))]
  bytes : ∀t f,S.ofBytes t=some f→S.sz t=1∧∀s:ByteArray,(f s).length=s.size∧∀i,i < s.size→S.cell t ((f s).getD i (S.dflt t))= [.v (.int .u8 ((bytesI s).getD i 0))]
  unif : ∀t x,(S.cell t x).map isScal=(S.cell t (S.dflt t)).map isScal
theorem Γ.lt0' {S:Sig} (hS:SigOk S) {env env':Env} {w w':World} {n:Nat} (hv : ∀i v,i < n→env.val i=some v→env'.val i=some v)
    (hp : ∀b o,env.prot b o→env'.prot b o∧w'.heap[b]? = w.heap[b]?) {a:AV S.El} {v:Value} (h:Γ S env w a v): (Go.Aw.lt0 n a=true∨cl0 a=true∨cl1 a=true)→Γ S env' w' a v:=by
  have hc : ∀b o,env.prot b o→w'.cell? ⟨b,o,none⟩= w.cell? ⟨b,o,none⟩:= fun b o h=>World.cell?_of_block (hp b o h).2
  have key : ∀(t:TypeId) (x:S.El t) j (u:Value),((Go.Aw.lt0 n ((S.cell t x).getD j .any)= true∨cl0 ((S.cell t x).getD j .any)= true∨cl1 ((S.cell t x).getD j .any)= true)→Γ S env' w' ((S.cell t x).getD j .any) u)→Γ S env' w' ((S.cell t x).getD j .any) u:=by
    intro t x j u ih
    by_cases hj:j < (S.cell t x).length
    · refine ih (.inl ?_)
      have hm:(S.cell t x).getD j .any∈S.cell t x:=by simp [List.getD,List.getElem?_eq_getElem hj]
      have:=(hS.flat t x _ hm).1
      revert this
      cases (S.cell t x).getD j .any <;> simp [Go.Aw.lt0]
    · have:(S.cell t x).getD j AV.any = .any:=by simp [List.getD,List.getElem?_eq_none (Nat.le_of_not_lt hj)]
      rw [this];exact .any _
  have all : ∀(cs:List (AV S.El)) (f:AV S.El→Bool) j,cs.all f=true→f .any=true→f (cs.getD j .any)= true:=by
    intro cs f j h h0
    by_cases hj:j < cs.length
    · refine List.all_eq_true.1 h _ ?_
      simp [List.getD,List.getElem?_eq_getElem hj]
    · rw [show cs.getD j AV.any = .any by simp [List.getD,List.getElem?_eq_none (Nat.le_of_not_lt hj)]];exact h0
  induction h with
  | any v=>exact fun _ => .any v
  | v x=>exact fun _ => .v x
  | agg cs vs hn _ ih =>
    intro h
    refine .agg cs vs hn fun j=>ih j (.inr (.inl ?_))
    rcases h with h | h | h
    · simp [Go.Aw.lt0] at h
    · simp [cl0] at h
    · exact all cs cl0 j h rfl
  | tup | gd=>intro h;simp [Go.Aw.lt0,cl0,cl1] at h
  | clo f cap vs hn _ ih =>
    intro h
    have:cap=[]:= by
      rcases h with h | h | h
      · simp [Go.Aw.lt0] at h
      · simpa [cl0] using h
      · simpa [cl1,cl0] using h
    subst this
    exact .clo f [] vs hn fun j=>by simpa using Γ.any _
  | ref i off b h=>intro hl;exact .ref i off b (hv i _ (by simpa [Go.Aw.lt0,cl0,cl1] using hl) h)
  | gs i a n c h=>intro hl;exact .gs i a n c (hv i _ (by simpa [Go.Aw.lt0,cl0,cl1] using hl) h)
  | rg t i idx off b m cap bo h=>intro hl;exact .rg t i idx off b m cap bo (hv i _ (by simpa [Go.Aw.lt0,cl0,cl1] using hl) h)
  | gw t i lo b m cap off c bo h hl ho=>intro hlt;exact .gw t i lo b m cap off c bo (hv i _ (by simpa [Go.Aw.lt0,cl0,cl1] using hlt) h) hl ho
  | gwnil t i lo h=>intro hlt;exact .gwnil t i lo (hv i _ (by simpa [Go.Aw.lt0,cl0,cl1] using hlt) h)
  | gm i b h=>intro hl;exact .gm i b (hv i _ (by simpa [Go.Aw.lt0,cl0,cl1] using hl) h)
  | fm k ks vs b es ck hw hp' hk hn _ ih =>
    intro h
    refine .fm k ks vs b es ck ((hp _ _ hp').2.trans hw) (hp _ _ hp').1 hk hn fun j=>ih j (.inr (.inr ?_))
    rcases h with h | h | h
    · exact all vs cl1 j h rfl
    · simp [cl0] at h
    · simp [cl1,cl0] at h
  | sl t xs full b off cap val hf hcc hw _ ih=>intro _;exact .sl t xs full b off cap val hf hcc (fun k hk=>⟨(hc _ _ (hw k hk).2).trans (hw k hk).1,(hp _ _ (hw k hk).2).1⟩) (fun i j hi=>key _ _ _ _ (ih i j hi))
  | slnil t full=>exact fun _ => .slnil t full
  | slemp t full a cap hf=>exact fun _ => .slemp t full a cap hf
  | rp t x off b o val hw _ ih=>intro _;exact .rp t x off b o val (fun k hk=>⟨(hc _ _ (hw k hk).2).trans (hw k hk).1,(hp _ _ (hw k hk).2).1⟩) (fun j=>key _ _ _ _ (ih j))
  | ra t xs b val hw _ ih=>intro _;exact .ra t xs b val (fun k hk=>⟨(hc _ _ (hw k hk).2).trans (hw k hk).1,(hp _ _ (hw k hk).2).1⟩) (fun i j hi=>key _ _ _ _ (ih i j hi))
theorem Γ.lt0 {S:Sig} (hS:SigOk S) {env env':Env} {w w':World} {n:Nat} (hv : ∀i v,i < n→env.val i=some v→env'.val i=some v)
    (hp : ∀b o,env.prot b o→env'.prot b o∧w'.heap[b]? = w.heap[b]?) {a:AV S.El} {v:Value} (h:Γ S env w a v) (hl:Go.Aw.lt0 n a=true): Γ S env' w' a v:=h.lt0' hS hv hp (.inl hl)
def blkV:Value→Option Nat
  | .pointer (some a)=> some a.block
  | .slice (some a) _ _=>some a.block
  | .map (some b)=> some b
  | _=>none
def live {El:TypeId→Type}: AObj El→Bool
  | .cells _ | .row .. | .mp .. => true
  | _=>false
def OwnsR (w:World) (base:Nat) (e:TypeId) (size:Nat) (v:Value) (n:Nat) (xs:List Value): Prop :=
  xs.length=n*size∧
  ((v = .slice none 0 0∧n=0)∨
   ∃g cap cur,∃fz:Nat×Nat,∃o:Nat,v = .slice (some ⟨g,o,none⟩) n cap∧base≤g∧w.heap[g]? = some (.cells cur e fz)∧n≤cap∧cap≤maxLen∧o+cap*size≤cur.size∧(cur.toList.drop o).take (n*size)= xs∧(fz.2=0∨cur.size≤fz.1))
theorem OwnsR.of {w:World} {base:Nat} {e:TypeId} {size:Nat} {v:Value} {n:Nat} {xs:List Value} (h:w.ownsRow base e size v n xs): OwnsR w base e size v n xs:=by
  refine ⟨h.1, ?_⟩
  rcases h.2 with h | ⟨g,cap,cur,h1,h2,h3,h4,h5,h6,h7⟩
  · exact .inl h
  · exact .inr ⟨g,cap,cur,(0,0),0,h1,h2,h3,h4,h5,by omega,by simpa using h7, .inl rfl⟩
def ObjOk (S:Sig) (env:Env) (w:World) (B:Nat) (v:Option Value): AObj S.El→Prop
  | .cells cs => ∃b vs T,v=some (.pointer (some ⟨b,0,none⟩))∧B≤b∧w.heap[b]? = some (.cells vs T (0,0))∧G2 S env w cs vs.toList
  | .row t xs => ∃u ws,v=some u∧OwnsR w B t (S.sz t) u xs.length ws∧∀i j,i < xs.length→j < S.sz t→Γ S env w ((S.cell t (xs.getD i (S.dflt t))).getD j .any) (ws.getD (i*S.sz t+j) undef)
  | .frozen t xs => ∃u,v=some u∧Γ S env w (.sl t xs false) u
  | .mp k ks vs => ∃b es ck,v=some (.map (some b))∧B≤b∧w.heap[b]? = some (.map es ck)∧es.toList.map (·.key)= ks.map (.int k ·)∧G2 S env w vs (es.toList.map (·.val))
  | .gone=>True
structure Inv (S:Sig) (B:Nat) (env:Env) (w:World) (H:List (AObj S.El)): Prop where
  objs : ∀i,ObjOk S env w B (env.val i) (obj H i)
  free : ∀i v b,live (obj H i)= true→env.val i=some v→blkV v=some b→∀o,¬env.prot b o
  apart : ∀i j u v b,live (obj H i)= true→live (obj H j)= true→env.val i=some u→env.val j=some v→blkV u=some b→blkV v=some b→i=j
  inheap : ∀b o,env.prot b o→b < w.heap.size
  fresh : ∀i v,env.val i=some v→i < H.length
  glob : ∀g,Γ S env w (S.glob g) (.pointer (some ⟨g,0,none⟩))
  base:B≤w.heap.size
end Go.Aw
end
section
/-
  The reckoner's pure operations are the model's (own work).
-/
set_option linter.unusedSimpArgs false
set_option linter.unusedVariables false
namespace Go.Aw
open Go.RowKit
def Does (P:Program) (o:Oper) (a:Act) (w:World) (R:Value→World→Prop): Prop :=
 match (execOp a.eval o).run P w with
 | .ok (.value v) w'=>R v w'
 | .ok .skip w'=>R undef w'
 | .ok (.enter f args) w'=>Calls P f args w' (fun e w'' => ∃v,e = .returned v∧R v w'')
 | _=>False
theorem Does.mono {P:Program} {o:Oper} {a:Act} {w:World} {R R':Value→World→Prop} (h:Does P o a w R) (hr : ∀v w',R v w'→R' v w'): Does P o a w R':=by
 unfold Does at *
 split at h
 ·exact hr _ _ h
 ·exact hr _ _ h
 ·exact h.mono fun e w'' ⟨v,he,hv⟩=> ⟨v,he,hr _ _ hv⟩
 ·exact h.elim
theorem Does.wp {P:Program} {o:Oper} {a:Act} {w:World} {R:Value→World→Prop} {next:Act→World→Prop} {Q:Exit→Act→World→Prop} (h:Does P o a w R) (hn : ∀v w',R v w'→next (a.put o.dst v) w'): o.wp P a w next Q:=by
 unfold Does at h
 unfold Oper.wp Oper.upon
 split at h
 ·rename_i heq;rw [heq];exact hn _ _ h
 ·rename_i heq;rw [heq];exact hn _ _ h
 ·rename_i heq;rw [heq];exact h.mono fun e w'' ⟨v,he,hv⟩=> by subst he;exact hn _ _ hv
 ·exact h.elim
theorem does_value {P:Program} {o:Oper} {a:Act} {w w':World} {v:Value} {R:Value→World→Prop} (h:(execOp a.eval o).run P w = .ok (.value v) w') (hr:R v w'): Does P o a w R:=by
 unfold Does;rw [h];exact hr
theorem does_skip {P:Program} {o:Oper} {a:Act} {w w':World} {R:Value→World→Prop} (h:(execOp a.eval o).run P w = .ok .skip w') (hr:R undef w'): Does P o a w R:=by
 unfold Does;rw [h];exact hr
theorem also_iff (ps:List Prop) (q:Prop): also ps q ↔ (∀p∈ps,p)∧q:=by
 induction ps with
 | nil=>simp [also]
 | cons p ps ih =>
  simp only [also,ih,List.mem_cons,forall_eq_or_imp]
  exact ⟨fun ⟨⟨h⟩,h2,h3⟩=> ⟨⟨h,h2⟩,h3⟩,fun ⟨⟨h,h2⟩,h3⟩=> ⟨⟨h⟩,h2,h3⟩⟩
section
variable {S:Sig} {env:Env} {w:World} {P:Program}
theorem nth_eq {α:Type} (l:List α) (i:Nat): nth l i=l[i]?:=by
 induction l generalizing i with
 | nil=>simp [nth]
 | cons a l ih=>cases i <;> simp [nth,ih]
theorem setN_eq {α:Type} (l:List α) (i:Nat) (x:α): setN l i x=l.set i x:=by
 induction l generalizing i with
 | nil=>simp [setN]
 | cons a l ih=>cases i <;> simp [setN,ih]
theorem cond_some {α:Type} {b:Bool} {x:Option α} {y:α} (h:(bif b then x else none)= some y): b=true∧x=some y:=by
 cases b
 ·simp at h
 ·exact ⟨rfl,by simpa using h⟩
theorem G2.get {cs:List (AV S.El)} {vs:List Value} (h:G2 S env w cs vs) {i:Nat} {x:AV S.El} (hi:cs[i]? = some x): ∃v,vs[i]? = some v∧Γ S env w x v:=by
 have hl:i < cs.length:=(List.getElem?_eq_some_iff.1 hi).1
 have hv:i < vs.length:=by rw [h.1];exact hl
 refine ⟨vs[i],List.getElem?_eq_getElem hv, ?_⟩
 have:=h.2 i
 simpa [List.getD,hi,List.getElem?_eq_getElem hv] using this
theorem cellsOf_sound {x:AV S.El} {v:Value} {cs:List (AV S.El)} (h:cellsOf x=some cs) (hg:Γ S env w x v): G2 S env w cs v.cells.toList:=by
 cases x <;> simp only [cellsOf,Option.some.injEq,reduceCtorEq] at h <;> subst h
 case v x=>cases hg;exact G2.vmap _
 case agg cs=>obtain ⟨vs,rfl,h2⟩:= hg.unagg;exact h2
 case ref i o=>cases hg with | ref _ _ b hb=>exact G2.nil.cons (.ref i o b hb)
 case gs i=>cases hg with | gs _ a n c hb=>exact G2.nil.cons (.gs i a n c hb)
 case sl t xs f=>cases hg with
  | sl _ _ _ b off cap val hf hc hw h=>exact G2.nil.cons (.sl t xs f b off cap val hf hc hw h)
  | slnil=>exact G2.nil.cons (.slnil t f)
  | slemp _ _ a cap hf=>exact G2.nil.cons (.slemp t f a cap hf)
 case clo f c=>cases hg with | clo _ _ vs hn h=>exact G2.nil.cons (.clo f c vs hn h)
theorem cut_sound {cs ds:List (AV S.El)} {vs:List Value} {off n:Nat} (h:cut cs off n=some ds) (hg:G2 S env w cs vs): off+n≤vs.length∧G2 S env w ds ((vs.drop off).take n):= by
 unfold cut at h
 obtain ⟨h1,h2⟩:= cond_some h
 cases h2
 exact ⟨by rw [hg.1];exact Nat.le_of_ble_eq_true h1,(hg.drop off).take n⟩
theorem run_isAgg {t:TypeId} {d:TypeDesc} (h:P.underlying t=some d) (w:World): (isAgg t).run P w = .ok (aggD d) w:=by
 simp only [isAgg,aggD]
 cases d <;> simp [run_underlying h]
theorem run_sizeOf {t:TypeId} {i:TypeInfo} (h:P.info? t=some i) (w:World): (sizeOf t).run P w = .ok i.size w:=by
 simp [sizeOf,typeInfo,h]
def At (w:World) (b o:Nat) (vs:List Value): Prop:=∀k u,vs[k]? = some u→w.cell? ⟨b,o+k,none⟩= some u
theorem At.sub {b o:Nat} {vs:List Value} (h:At w b o vs) (off n:Nat): At w b (o+off) ((vs.drop off).take n):= by
 intro k u hk
 rw [List.getElem?_take] at hk
 split at hk
 ·rw [List.getElem?_drop] at hk
  have:=h _ _ hk
  rwa [←Nat.add_assoc] at this
 ·cases hk
theorem whole_sound {t:TypeId} {cs:List (AV S.El)} {vs:List Value} {off b o:Nat} {x:AV S.El} (h:whole P t cs off=some x) (hg:G2 S env w cs vs) (ha:At w b o vs):
  ∃v,(loadVar t ⟨b,o+off,none⟩).run P w = .ok v w∧Γ S env w x v:=by
 unfold whole at h
 split at h
 ·rename_i d i hd hi
  cases hag:aggD d
  ·rw [hag,cond_false,nth_eq] at h
   obtain ⟨v,hv,hx⟩:= hg.get h
   refine ⟨v, ?_,hx⟩
   simp [loadVar,run_isAgg hd,hag,ha _ _ hv]
  ·rw [hag,cond_true] at h
   cases hc:cut cs off i.size with
   | none=>simp [hc] at h
   | some ds =>
    simp only [hc,Option.map_some,Option.some.injEq] at h
    subst h
    obtain ⟨hl,hg'⟩:= cut_sound hc hg
    have hlen:((vs.drop off).take i.size).length=i.size:=by simp;omega
    have hr:=run_loadCells_list (P:=P) w ⟨b,o+off,none⟩ ((vs.drop off).take i.size) (fun j v hv=>by
     rw [Addr.add_lit];exact ha.sub off i.size j v hv)
    rw [hlen] at hr
    refine ⟨.agg ((vs.drop off).take i.size).toArray, ?_,G2.agg (by simpa using hg')⟩
    simp [loadVar,run_isAgg hd,hag,run_sizeOf hi,hr]
 ·cases h
theorem getD_of {l:List Value} {k:Nat} {u:Value} (h:l[k]? = some u): l.getD k undef=u:=by simp [List.getD,h]
theorem range_at {b o n:Nat} {val:Nat→Value} (h : ∀k,k < n→w.cell? ⟨b,o+k,none⟩= some (val k)): At w b o ((List.range n).map val):= by
 intro k u hk
 simp only [List.getElem?_map,Option.map_eq_some_iff] at hk
 obtain ⟨j,hj,rfl⟩:= hk
 obtain ⟨hlt,he⟩:= List.getElem?_eq_some_iff.1 hj
 simp only [List.length_range] at hlt
 simp only [List.getElem_range] at he
 subst he
 exact h _ hlt
theorem range_g2 {cs:List (AV S.El)} {n:Nat} {val:Nat→Value} (hn:cs.length=n) (h : ∀j,Γ S env w (cs.getD j .any) (val j)): G2 S env w cs ((List.range n).map val):= by
 refine ⟨by simp [hn],fun j=>?_⟩
 by_cases hj:j < n
 ·have:((List.range n).map val).getD j undef=val j:=by simp [List.getD,List.getElem?_range hj]
  rw [this];exact h j
 ·have:cs.getD j AV.any = .any:=by simp [List.getD,List.getElem?_eq_none (show cs.length≤j by omega)]
  rw [this];exact .any _
variable {B:Nat} {H:List (AObj S.El)}
theorem obj_nth (H:List (AObj S.El)) (i:Nat): obj H i=(H[i]?).getD .gone:=by rw [obj,nth_eq]
theorem loadA_sound {C:Cx} {env:Env} {w:World} {B:Nat} {H:List (AObj C.S.El)} (hS:SigOk C.S) (hI:Inv C.S B env w H) {t:TypeId} {ad r:AV C.S.El} {ps:List Prop} {va:Value} (h:loadA C t H ad=some (ps,r)) (hp : ∀p∈ps,p) (hg:Γ C.S env w ad va):
  ∃v,(Instr.loadAt t va).run C.P w = .ok v w∧Γ C.S env w r v:=by
 cases ad <;> simp only [loadA,reduceCtorEq] at h
 case ref i off =>
  cases hg with | ref _ _ b hb =>
  have ho:=hI.objs i
  cases hobj:obj H i with
  | cells cs =>
   rw [hobj] at h ho
   obtain ⟨b',vs,T,h1,_,h3,h4⟩:= ho
   rw [hb] at h1
   cases h1
   cases hw:whole C.P t cs off with
   | none=>simp [hw] at h
   | some x =>
    simp only [hw,Option.map_some,Option.some.injEq,Prod.mk.injEq] at h
    obtain ⟨rfl,rfl⟩:= h
    obtain ⟨v,hv,hx⟩:= whole_sound (b:=b) (o:=0) hw h4 (fun k u hk=>by
     simp only [World.cell?,h3,Nat.zero_add]
     simpa using hk)
    exact ⟨v,by simpa [Instr.loadAt,Instr.sureAddr] using hv,hx⟩
  | _=>rw [hobj] at h;cases h
 case rg u i idx off =>
  cases hg with | rg _ _ _ _ b n cap bo hb =>
  have ho:=hI.objs i
  cases hobj:obj H i with
  | row v xs =>
   rw [hobj] at h ho
   obtain ⟨hu,h⟩:= cond_some h
   have hu:=Nat.eq_of_beq_eq_true hu
   subst hu
   obtain ⟨u',ws,h1,h2,h3⟩:= ho
   rw [hb] at h1
   cases h1
   cases hw:whole C.P t (C.S.cell u (xs.getD idx (C.S.dflt u))) off with
   | none=>rw [hw] at h;cases h
   | some x =>
    rw [hw] at h
    simp only [Option.map_some,Option.some.injEq,Prod.mk.injEq] at h
    obtain ⟨rfl,rfl⟩:= h
    have hidx:idx < xs.length:=hp _ (by simp)
    obtain ⟨hlen,h2⟩:= h2
    rcases h2 with ⟨h2,_⟩| ⟨g,cap',cur,fz,bo',h2,_,h4,_,_,h5,h6,_⟩
    ·cases h2
    ·cases h2
     have hat:At w b (bo+idx*C.S.sz u) ((ws.drop (idx*C.S.sz u)).take (C.S.sz u)):= by
      have hA:At w b bo ws:=fun k x hk=>by
       simp only [World.cell?,h4]
       subst h6
       rw [List.getElem?_take,List.getElem?_drop] at hk
       split at hk
       ·simpa using hk
       ·cases hk
      simpa using hA.sub (idx*C.S.sz u) (C.S.sz u)
     have hg2:G2 C.S env w (C.S.cell u (xs.getD idx (C.S.dflt u))) ((ws.drop (idx*C.S.sz u)).take (C.S.sz u)):= by
      refine ⟨?_,fun j=>?_⟩
      ·have:(idx+1)* C.S.sz u≤xs.length*C.S.sz u:=Nat.mul_le_mul_right _ hidx
       rw [Nat.add_mul,Nat.one_mul] at this
       simp [hS.len,hlen];omega
      ·by_cases hj:j < C.S.sz u
       ·have:=h3 idx j hidx hj
        rw [show ((ws.drop (idx*C.S.sz u)).take (C.S.sz u)).getD j undef=ws.getD (idx*C.S.sz u+j) undef by simp [List.getD,hj]]
        exact this
       ·have:(C.S.cell u (xs.getD idx (C.S.dflt u))).getD j AV.any = .any:=by
         have:=hS.len u (xs.getD idx (C.S.dflt u))
         generalize C.S.cell u (xs.getD idx (C.S.dflt u))= cs at this ⊢
         rw [List.getD,List.getElem?_eq_none (by omega)];rfl
        rw [this];exact .any _
     obtain ⟨v,hv,hx⟩:= whole_sound hw hg2 hat
     exact ⟨v,by simpa [Instr.loadAt,Instr.sureAddr,Nat.add_assoc] using hv,hx⟩
  | _=>rw [hobj] at h;cases h
 case rp u x off =>
  cases hg with | rp _ _ _ b o val hw hv =>
  cases hwh:whole C.P t (C.S.cell u x) off with
  | none=>simp [hwh] at h
  | some y =>
   simp only [hwh,Option.map_some,Option.some.injEq,Prod.mk.injEq] at h
   obtain ⟨rfl,rfl⟩:= h
   obtain ⟨v,hv,hx⟩:= whole_sound hwh (range_g2 (hS.len u x) hv) (range_at fun k hk=>(hw k hk).1)
   exact ⟨v,by simpa [Instr.loadAt,Instr.sureAddr] using hv,hx⟩
end
end Go.Aw
end
section
/-
  The reckoner's arithmetic, fields and indexes are the model's (own work).
-/
set_option linter.unusedSimpArgs false
set_option linter.unusedVariables false
namespace Go.Aw
open Go.RowKit
section
variable {C:Cx} {env:Env} {w:World} {B:Nat} {H:List (AObj C.S.El)}
def fitsV:List Bool→List Value→Prop
 | [],[]=> True
 | true::s, .bool _::l=>fitsV s l
 | false::s, .int _ _::l=>fitsV s l
 | _,_=>False
def eqV:List Value→List Value→Option Bool
 | [],[]=> some true
 | .int k a::l, .int k' b::l'=>if k=k' then (eqV l l').map ((a==b) && ·) else none
 | .bool a::l, .bool b::l'=>(eqV l l').map ((a==b) && ·)
 | _,_=>none
def wrapV (P:Program) (t:TypeId) (us:List Value): Value:=bif isAggT P t then .agg us.toArray else us.headD undef
theorem fitsV_split : ∀(s s':List Bool) (us:List Value),fitsV (s ++ s') us→∃a b,us=a ++ b∧fitsV s a∧fitsV s' b∧a.length=s.length
 | [],s',us,h=>⟨[],us,rfl,trivial,h,rfl⟩
 | true::s,s',us,h=>by
  match us,h with
  | .bool x::l,h =>
   obtain ⟨a,b,rfl,h1,h2,h3⟩:= fitsV_split s s' l h
   exact ⟨.bool x::a,b,rfl,h1,h2,by simp [h3]⟩
 | false::s,s',us,h=>by
  match us,h with
  | .int k x::l,h =>
   obtain ⟨a,b,rfl,h1,h2,h3⟩:= fitsV_split s s' l h
   exact ⟨.int k x::a,b,rfl,h1,h2,by simp [h3]⟩
theorem eqV_split : ∀(s:List Bool) (a b a' b':List Value) (r:Bool),fitsV s a→fitsV s a'→eqV (a ++ b) (a' ++ b')= some r→∃r1 r2,eqV a a'=some r1∧eqV b b'=some r2∧r=(r1 && r2)
 | [],a,b,a',b',r,h1,h2,h=>by
  match a,a',h1,h2 with
  | [],[],_,_=>exact ⟨true,r,rfl,h,by simp⟩
 | true::s,a,b,a',b',r,h1,h2,h=>by
  match a,a',h1,h2 with
  | .bool x::l, .bool y::l',h1,h2 =>
   simp only [List.cons_append,eqV,Option.map_eq_some_iff] at h
   obtain ⟨q,hq,rfl⟩:= h
   obtain ⟨r1,r2,e1,e2,rfl⟩:= eqV_split s l b l' b' q h1 h2 hq
   exact ⟨(x==y) && r1,r2,by simp [eqV,e1],e2,by rw [Bool.and_assoc]⟩
 | false::s,a,b,a',b',r,h1,h2,h=>by
  match a,a',h1,h2 with
  | .int k x::l, .int k' y::l',h1,h2 =>
   simp only [List.cons_append,eqV] at h
   split at h
   ·rename_i hk
    simp only [Option.map_eq_some_iff] at h
    obtain ⟨q,hq,rfl⟩:= h
    obtain ⟨r1,r2,e1,e2,rfl⟩:= eqV_split s l b l' b' q h1 h2 hq
    exact ⟨(x==y) && r1,r2,by simp [eqV,hk,e1],e2,by rw [Bool.and_assoc]⟩
   ·cases h
theorem isAggT_some {P:Program} {t:TypeId} {d:TypeDesc} (h:P.underlying t=some d): isAggT P t=aggD d:=by unfold isAggT;rw [h]
theorem part_wrap {P:Program} {t:TypeId} {d:TypeDesc} {i:TypeInfo} (hd:P.underlying t=some d) (hi:P.info? t=some i) (xs a b:List Value) (off:Nat) (hx:xs.drop off=a ++ b) (ha:a.length=sizeT P t) (h0:0 < a.length) (w:World):
  (part t xs.toArray off).run P w = .ok (wrapV P t a) w:=by
 have hs:sizeT P t=i.size:=by simp [sizeT,hi]
 unfold wrapV
 rw [isAggT_some hd]
 cases hag:aggD d
 ·have:xs[off]? = some (a.headD undef):= by
   have:(xs.drop off)[0]? = (a ++ b)[0]?:=by rw [hx]
   rw [List.getElem?_drop] at this
   match a,h0 with
   | u::us,_=>simpa using this
  simp [part,run_isAgg hd,hag,this]
 ·have tk:(xs.drop off).take i.size=a:=by rw [hx,←hs,←ha];simp
  simp [part,run_isAgg hd,hag,run_sizeOf hi,List.extract_eq_take_drop,tk]
theorem flatFs_head {f : TypeId→Option (List Bool)} {sz : TypeId→Nat} {fd : Field} {l : List Field} {n : Nat} {sh : List Bool} (h : flatFs f sz (fd :: l) n = some sh): fd.name≠ "_" ∧fd.offset = n∧∃s s',f fd.type = some s∧sz fd.type = s.length∧0 < s.length∧flatFs f sz l (n + s.length)= some s'∧sh = s ++ s' := by
 unfold flatFs at h
 cases hc : (fd.name == "_" || !(Nat.beq fd.offset n))
 ·rw [hc,cond_false] at h
  simp only [Bool.or_eq_false_iff,Bool.not_eq_false',beq_eq_false_iff_ne,ne_eq] at hc
  cases hf:f fd.type with
  | none=>rw [hf] at h;cases h
  | some s =>
   rw [hf] at h
   obtain ⟨h1,h⟩:= cond_some h
   simp only [Option.map_eq_some_iff] at h
   obtain ⟨s',h2,rfl⟩:= h
   simp only [Bool.and_eq_true,Nat.blt,Nat.ble_eq] at h1
   exact ⟨hc.1,Nat.eq_of_beq_eq_true hc.2,s,s',rfl,Nat.eq_of_beq_eq_true h1.1,by omega,h2,rfl⟩
 ·rw [hc,cond_true] at h;cases h
theorem fitsV_len : ∀(s:List Bool) (us:List Value),fitsV s us→us.length=s.length
 | [],us,h=>by match us,h with | [],_=>rfl
 | true::s,us,h=>by match us,h with | .bool x::l,h=>simp [fitsV_len s l h]
 | false::s,us,h=>by match us,h with | .int k x::l,h=>simp [fitsV_len s l h]
theorem eqFields_flat {P:Program} {dd:Nat} {f:TypeId→Option (List Bool)} (hf : ∀t s,f t=some s→(∃d,P.underlying t=some d)∧∀us vs b w,fitsV s us→fitsV s vs→eqV us vs=some b→(Op.equalIn dd t (wrapV P t us) (wrapV P t vs)).run P w = .ok b w)
  (xs ys:List Value): ∀(fs:List Field) (n:Nat) (sh:List Bool),flatFs f (sizeT P) fs n=some sh→∀us vs b w,xs.drop n=us→ys.drop n=vs→fitsV sh us→fitsV sh vs→eqV us vs=some b→(Op.eqFields dd xs.toArray ys.toArray fs).run P w = .ok b w
 | [],n,sh,h,us,vs,b,w,hx,hy,h1,h2,he=>by
  cases h
  match us,vs,h1,h2 with
  | [],[],_,_=>cases he;simp [Op.eqFields]
 | fd::fs,n,sh,h,us,vs,b,w,hx,hy,h1,h2,he=>by
  obtain ⟨hn,ho,s,s',hs,hsz,h0,hrest,rfl⟩:= flatFs_head h
  obtain ⟨⟨d,hd⟩,hft⟩:= hf _ _ hs
  obtain ⟨a,c,rfl,k1,k2,k3⟩:= fitsV_split s s' us h1
  obtain ⟨a',c',rfl,k1',k2',k3'⟩:= fitsV_split s s' vs h2
  obtain ⟨r1,r2,e1,e2,rfl⟩:= eqV_split s a c a' c' b k1 k1' he
  obtain ⟨i,hi⟩:= info_of_underlying hd
  have p1:=part_wrap hd hi xs a c fd.offset (by rw [ho];exact hx) (by rw [k3,hsz]) (by omega) w
  have p2:=part_wrap hd hi ys a' c' fd.offset (by rw [ho];exact hy) (by rw [k3',hsz]) (by omega) w
  have p3:=hft a a' r1 w k1 k1' e1
  have p4:=eqFields_flat hf xs ys fs (n+s.length) s' hrest c c' r2 w (by rw [←List.drop_drop,hx,←k3];simp) (by rw [←List.drop_drop,hy,←k3'];simp) k2 k2' e2
  simp only [Op.eqFields,hn,ne_eq,not_false_eq_true,if_true,Sem.run_bind,p1,p2,p3,Result.andThen_ok]
  cases r1
  ·simp
  ·simpa using p4
theorem equalIn_flat {P:Program}: ∀(m:Nat) (t:TypeId) (s:List Bool),flatK P m t=some s→(∃d,P.underlying t=some d)∧∀d us vs b w,fitsV s us→fitsV s vs→eqV us vs=some b→(Op.equalIn (d+m) t (wrapV P t us) (wrapV P t vs)).run P w = .ok b w
 | 0,t,s,h=>by cases h
 | m+1,t,s,h=>by
  unfold flatK at h
  split at h
  ·rename_i hu
   cases h
   refine ⟨⟨_,hu⟩,fun d us vs b w h1 h2 he=>?_⟩
   match us,vs,h1,h2 with
   | [.bool x],[.bool y],_,_ =>
    simp only [eqV,Option.map_some,Option.some.injEq,Bool.and_true] at he
    subst he
    have:isAggT P t=false:=by rw [isAggT_some hu];rfl
    simp only [wrapV,this,cond_false,List.headD_cons]
    exact run_equalIn_bool' w (d+m) t x y hu
  ·rename_i q hu
   cases h
   refine ⟨⟨_,hu⟩,fun d us vs b w h1 h2 he=>?_⟩
   match us,vs,h1,h2 with
   | [.int k x],[.int k' y],_,_ =>
    simp only [eqV] at he
    split at he
    ·rename_i hk
     subst hk
     simp only [Option.map_some,Option.some.injEq,Bool.and_true] at he
     subst he
     have:isAggT P t=false:=by rw [isAggT_some hu];rfl
     simp only [wrapV,this,cond_false,List.headD_cons]
     exact run_equalIn_int w (d+m) t k q x y hu
    ·cases he
  ·rename_i fs hu
   refine ⟨⟨_,hu⟩,fun d us vs b w h1 h2 he=>?_⟩
   obtain ⟨hst,h⟩: P.stoodInHeld t=false∧flatFs (flatK P m) (sizeT P) fs.toList 0=some s:=by
    cases hc:P.stoodInHeld t
    ·rw [hc,cond_false] at h;exact ⟨rfl,h⟩
    ·rw [hc,cond_true] at h;cases h
   have hag:isAggT P t=true:=by rw [isAggT_some hu];rfl
   have hfs:P.fieldsOf t=fs:=by simp [Program.fieldsOf,hu]
   simp only [wrapV,hag,cond_true]
   rw [show d+(m+1)= (d+m)+ 1 from rfl,run_equalIn_struct w (d+m) t _ _ (by rw [hfs];exact hu) hst,hfs]
   exact eqFields_flat (f:=flatK P m) (fun t s hs=>by
    obtain ⟨g1,g2⟩:= equalIn_flat m t s hs
    exact ⟨g1,fun us vs b w=>g2 d us vs b w⟩) us vs fs.toList 0 s h us vs b w rfl rfl h1 h2 he
  ·cases h
theorem fits_vals {s:List Bool}: ∀{cs:List (AV C.S.El)} {us:List Value},fitsA s cs=true→G2 C.S env w cs us→fitsV s us:=by
 induction s with
 | nil =>
  intro cs us h hg
  match cs,h with
  | [],_=>have:us=[]:= List.eq_nil_of_length_eq_zero hg.1;subst this;trivial
 | cons b s ih =>
  intro cs us h hg
  cases b
  ·match cs,h with
   | .v (.int k n):: l,h=>obtain ⟨u,us',rfl,h1,h2⟩:= hg.uncons;cases h1.unv;exact ih h h2
  ·match cs,h with
   | .v (.bool n):: l,h=>obtain ⟨u,us',rfl,h1,h2⟩:= hg.uncons;cases h1.unv;exact ih h h2
theorem eqCells_vals : ∀(cs ds:List (AV C.S.El)) (us vs:List Value) (b:Bool),eqCells cs ds=some b→G2 C.S env w cs us→G2 C.S env w ds vs→eqV us vs=some b
 | [],ds,us,vs,b,h,h1,h2=>by
  match ds,h with
  | [],h =>
   cases h
   have:us=[]:= List.eq_nil_of_length_eq_zero h1.1
   subst this
   have:vs=[]:= List.eq_nil_of_length_eq_zero h2.1
   subst this
   rfl
 | c::cs,ds,us,vs,b,h,h1,h2=>by
  obtain ⟨u,us',rfl,g1,g2⟩:= h1.uncons
  unfold eqCells at h
  split at h
  ·rename_i heq
   cases heq
  ·rename_i k a l k' b' l' heq
   cases heq
   obtain ⟨u',vs',rfl,g1',g2'⟩:= h2.uncons
   cases g1.unv;cases g1'.unv
   obtain ⟨hk,h⟩:= cond_some h
   have hk:=eq_of_beq hk
   split at h
   ·cases h
    have:us'=[]:= List.eq_nil_of_length_eq_zero g2.1
    subst this
    have:vs'=[]:= List.eq_nil_of_length_eq_zero g2'.1
    subst this
    simp [eqV,hk]
   ·simp only [Option.map_eq_some_iff] at h
    obtain ⟨q,hq,rfl⟩:= h
    have:=eqCells_vals cs l' us' vs' q hq g2 g2'
    simp [eqV,hk,this]
  ·rename_i a l b' l' heq
   cases heq
   obtain ⟨u',vs',rfl,g1',g2'⟩:= h2.uncons
   cases g1.unv;cases g1'.unv
   simp only [Option.map_eq_some_iff] at h
   obtain ⟨q,hq,rfl⟩:= h
   have:=eqCells_vals cs l' us' vs' q hq g2 g2'
   simp [eqV,this]
  ·cases h
theorem eq_flat {t:TypeId} {cs ds:List (AV C.S.El)} (h:eqOk C.P t cs ds=true) (op:BinOp) (x y:Operand) {us vs:Array Value} {b:Bool} (he:eqCells cs ds=some b) (h1:G2 C.S env w cs us.toList) (h2:G2 C.S env w ds vs.toList) (ho:op = .eql∨op = .neq):
  (do eqGuard op t x y (.agg us) (.agg vs);binOp op t (.agg us) (.agg vs): Sem Value).run C.P w = .ok (.bool (if op = .eql then b else !b)) w:=by
 unfold eqOk at h
 cases hk:flatK C.P 8 t with
 | none=>rw [hk] at h;cases h
 | some s =>
  rw [hk] at h
  simp only [Bool.and_eq_true,Bool.not_eq_true'] at h
  obtain ⟨ha,f1,f2,hgd⟩:= h
  have key:=(equalIn_flat 8 t s hk).2 9992 us.toList vs.toList b w (fits_vals f1 h1) (fits_vals f2 h2) (eqCells_vals cs ds _ _ b he h1 h2)
  simp only [wrapV,ha,cond_true,Array.toArray_toList] at key
  rcases ho with rfl | rfl
  ·simp [run_eqGuard_agg w .eql t x y us vs hgd,run_eql_struct,key]
  ·simp [run_eqGuard_agg w .neq t x y us vs hgd,run_neq_struct,key]
theorem arith_sound (op:BinOp) (t:TypeId) (x y:Operand) (k k':IntKind) (a b:Int) (hk:isShift op=true∨k=k') (w:World)
  (hp : ∀p∈(arith (El:=C.S.El) op k a b).1,p): ∃v,(do eqGuard op t x y (.int k a) (.int k' b);binOp op t (.int k a) (.int k' b): Sem Value).run C.P w = .ok v w∧Γ C.S env w (arith op k a b).2 v:=by
 cases op <;> simp only [isShift,Bool.false_eq_true,false_or,true_or] at hk <;> (try subst hk) <;> simp only [arith,List.mem_cons,List.not_mem_nil,or_false,forall_eq] at hp ⊢
 all_goals refine ⟨_, ?_, .v _⟩
 case quo | rem=>simp [eqGuard,binOp_quo,binOp_rem,Op.intDiv,hp]
 case shl | shr=>simp [eqGuard,binOp_shl,binOp_shr,Op.shift,Int.not_lt.2 hp,shlK,shrK]
 all_goals simp [eqGuard,go_sem,Op.intArith,Op.intBits,bandK,borK,bxorK,bclrK]
theorem binA_sound {op:BinOp} {t:TypeId} {x y:Operand} {ax ay r:AV C.S.El} {vx vy:Value} {ps:List Prop} (h:binA C op t ax ay=some (ps,r)) (hp : ∀p∈ps,p)
  (hx:Γ C.S env w ax vx) (hy:Γ C.S env w ay vy): ∃v,(do eqGuard op t x y vx vy;binOp op t vx vy:Sem Value).run C.P w = .ok v w∧Γ C.S env w r v:=by
 unfold binA at h
 split at h
 ·cases hx.unv;cases hy.unv
  rename_i k a k' b
  obtain ⟨hk,h⟩:= cond_some h
  rw [Option.some.injEq,Prod.ext_iff] at h
  obtain ⟨rfl,rfl⟩:= h
  refine arith_sound op t x y k k' a b ?_ w hp
  simpa using hk
 ·cases hx.unv;cases hy.unv
  obtain ⟨ht,h⟩:= cond_some h
  have ht:C.P.underlying t=some .bool:=by
   unfold isBool at ht
   split at ht
   ·assumption
   ·cases ht
  split at h <;> cases h
  all_goals exact ⟨_,by simp [eqGuard,binOp,run_equal_bool,ht], .v _⟩
 ·cases hx.unv;cases hy.unv
  split at h <;> cases h
  all_goals exact ⟨_,by simp [eqGuard,binOp,Op.stringOp,strEq], .v _⟩
 ·rename_i xs ys
  obtain ⟨us,rfl,hus⟩:= hx.unagg
  obtain ⟨vs,rfl,hvs⟩:= hy.unagg
  obtain ⟨ht,h⟩:= cond_some h
  cases hb:eqCells xs ys with
  | none=>rw [hb] at h;split at h <;> simp_all
  | some b =>
   rw [hb] at h
   cases op <;> simp only [Option.some.injEq,Prod.mk.injEq,reduceCtorEq] at h
   ·obtain ⟨rfl,rfl⟩:= h
    exact ⟨_,by simpa using eq_flat ht .eql x y hb hus hvs (.inl rfl), .v _⟩
   ·obtain ⟨rfl,rfl⟩:= h
    exact ⟨_,by simpa using eq_flat ht .neq x y hb hus hvs (.inr rfl), .v _⟩
 ·cases h
theorem unA_sound {op:UnOp} {ax r:AV C.S.El} {vx:Value} (h:unA op ax=some r) (hx:Γ C.S env w ax vx): ∃v,(Op.unary op vx).run C.P w = .ok v w∧Γ C.S env w r v:=by
 unfold unA at h
 split at h
 ·cases hx.unv
  split at h <;> cases h
  ·exact ⟨_,by simp [Op.unary,Op.intArith], .v _⟩
  ·exact ⟨_,by simp [Op.unary,Op.intBits,bnotK,bxorK], .v _⟩
 ·cases hx.unv
  split at h <;> cases h
  exact ⟨_,by simp [Op.unary], .v _⟩
 ·cases h
theorem foldMM_max {k:IntKind}: ∀(cs:List (AV C.S.El)) (a:Int) (vs:List Value) (r:AV C.S.El),foldMM maxI k a cs=some r→G2 C.S env w cs vs→
  ∃v,(vs.foldlM Builtin.max2 (.int k a)).run C.P w = .ok v w∧Γ C.S env w r v
 | [],a,vs,r,h,hg=>by
  obtain ⟨hl,_⟩:= hg
  have:vs=[]:= List.eq_nil_of_length_eq_zero hl
  subst this
  simp only [foldMM,Option.some.injEq] at h
  subst h
  exact ⟨_,by simp, .v _⟩
 | c::cs,a,vs,r,h,hg=>by
  obtain ⟨u,us,rfl,h1,h2⟩:= hg.uncons
  unfold foldMM at h
  split at h
  ·rename_i heq;cases heq
  ·rename_i k' b rest heq
   cases heq
   cases h1.unv
   obtain ⟨hk,h⟩:= cond_some h
   obtain ⟨v,hv,hr⟩:= foldMM_max _ _ us r h h2
   refine ⟨v, ?_,hr⟩
   simpa [List.foldlM_cons,Builtin.max2,maxI] using hv
  ·cases h
theorem foldMM_min {k:IntKind}: ∀(cs:List (AV C.S.El)) (a:Int) (vs:List Value) (r:AV C.S.El),foldMM minI k a cs=some r→G2 C.S env w cs vs→
  ∃v,(vs.foldlM Builtin.min2 (.int k a)).run C.P w = .ok v w∧Γ C.S env w r v
 | [],a,vs,r,h,hg=>by
  obtain ⟨hl,_⟩:= hg
  have:vs=[]:= List.eq_nil_of_length_eq_zero hl
  subst this
  simp only [foldMM,Option.some.injEq] at h
  subst h
  exact ⟨_,by simp, .v _⟩
 | c::cs,a,vs,r,h,hg=>by
  obtain ⟨u,us,rfl,h1,h2⟩:= hg.uncons
  unfold foldMM at h
  split at h
  ·rename_i heq;cases heq
  ·rename_i k' b rest heq
   cases heq
   cases h1.unv
   obtain ⟨hk,h⟩:= cond_some h
   obtain ⟨v,hv,hr⟩:= foldMM_min _ _ us r h h2
   refine ⟨v, ?_,hr⟩
   simpa [List.foldlM_cons,Builtin.min2,minI] using hv
  ·cases h
theorem fieldT_run {t:TypeId} {f:Nat} {d:Nat×TypeId} (h:fieldT C.P t f=some d): ∃(fs:Array Field) (fd:Field),C.P.underlying t=some (.struct fs)∧fs[f]? = some fd∧d=(fd.offset,fd.type):= by
 unfold fieldT at h
 split at h
 ·rename_i fs hfs
  rw [nth_eq] at h
  simp only [Option.map_eq_some_iff] at h
  obtain ⟨fd,hfd,rfl⟩:= h
  exact ⟨fs,fd,hfs,by simpa using hfd,rfl⟩
 ·cases h
theorem fieldAt_run {t:TypeId} {f:Nat} {d:Nat×TypeId} (h:fieldT C.P t f=some d) (hz:Nat.beq (sizeT C.P d.2) 0=false) (b o:Nat) (w:World):
  (Instr.fieldAt t (.pointer (some ⟨b,o,none⟩)) f).run C.P w = .ok (.pointer (some ⟨b,o+d.1,none⟩)) w:=by
 obtain ⟨fs,fd,h1,h2,rfl⟩:= fieldT_run h
 unfold sizeT at hz
 cases hi:C.P.info? fd.type with
 | none=>simp [hi] at hz
 | some i =>
  have hne : ¬i.size=0:=by
   intro h0
   simp [hi,h0] at hz
  simp [Instr.fieldAt,run_underlying h1,h2,Instr.sureAddr,fieldPlace,run_sizeOf hi,hne,Addr.add_lit]
theorem ite_none {α:Type} {b:Bool} {x y:α} (h:(bif b then none else some x)= some y): b=false∧x=y:=by
 cases b
 ·exact ⟨rfl,by simpa using h⟩
 ·simp at h
theorem fieldAddrA_sound {t:TypeId} {f:Nat} {ax r:AV C.S.El} {vx:Value} (h:fieldAddrA C t f ax=some r) (hx:Γ C.S env w ax vx): ∃v,(Instr.fieldAt t vx f).run C.P w = .ok v w∧Γ C.S env w r v:=by
 cases ax <;> simp only [fieldAddrA,reduceCtorEq] at h
 case ref i off =>
  cases hx with | ref _ _ b hb =>
  cases hd:fieldT C.P t f with
  | none=>simp [hd] at h
  | some d =>
   simp only [hd,Option.bind_some] at h
   obtain ⟨hz,rfl⟩:= ite_none h
   exact ⟨_,fieldAt_run hd hz b off w, .ref i _ b hb⟩
 case rg u i idx off =>
  cases hx with | rg _ _ _ _ b n cap bo hb =>
  cases hd:fieldT C.P t f with
  | none=>simp [hd] at h
  | some d =>
   simp only [hd,Option.bind_some] at h
   obtain ⟨hz,rfl⟩:= ite_none h
   refine ⟨_,fieldAt_run hd hz b _ w, ?_⟩
   rw [Nat.add_assoc,Nat.add_assoc]
   exact .rg u i idx _ b n cap bo hb
 case rp u x off =>
  cases hx with | rp _ _ _ b o val hw hv =>
  cases hd:fieldT C.P t f with
  | none=>simp [hd] at h
  | some d =>
   simp only [hd,Option.bind_some] at h
   obtain ⟨hz,rfl⟩:= ite_none h
   refine ⟨_,fieldAt_run hd hz b _ w, ?_⟩
   rw [Nat.add_assoc]
   exact .rp u x _ b o val hw hv
theorem part_run {t:TypeId} {cs:List (AV C.S.El)} {vs:Array Value} {off:Nat} {x:AV C.S.El} (h:whole C.P t cs off=some x) (hg:G2 C.S env w cs vs.toList): ∃v,(part t vs off).run C.P w = .ok v w∧Γ C.S env w x v:=by
 unfold whole at h
 split at h
 ·rename_i d i hd hi
  cases hag:aggD d
  ·rw [hag,cond_false,nth_eq] at h
   obtain ⟨v,hv,hx⟩:= hg.get h
   refine ⟨v, ?_,hx⟩
   have hv:vs[off]? = some v:=by simpa using hv
   simp [part,run_isAgg hd,hag,hv]
  ·rw [hag,cond_true] at h
   cases hc:cut cs off i.size with
   | none=>simp [hc] at h
   | some ds =>
    simp only [hc,Option.map_some,Option.some.injEq] at h
    subst h
    obtain ⟨hl,hg'⟩:= cut_sound hc hg
    refine ⟨.agg (vs.extract off (off+i.size)), ?_,G2.agg ?_⟩
    ·simp [part,run_isAgg hd,hag,run_sizeOf hi]
    ·rw [Array.toList_extract,List.extract_eq_take_drop]
     simpa using hg'
 ·cases h
theorem fieldA_sound {t:TypeId} {f:Nat} {ax r:AV C.S.El} {vx:Value} (h:fieldA C t f ax=some r) (hx:Γ C.S env w ax vx): ∃v,(Instr.field t vx f).run C.P w = .ok v w∧Γ C.S env w r v:=by
 cases ax <;> simp only [fieldA,reduceCtorEq] at h
 case agg cs =>
  obtain ⟨vs,rfl,hvs⟩:= hx.unagg
  cases hd:fieldT C.P t f with
  | none=>simp [hd] at h
  | some d =>
   simp only [hd,Option.bind_some] at h
   obtain ⟨fs,fd,h1,h2,rfl⟩:= fieldT_run hd
   obtain ⟨v,hv,hr⟩:= part_run h hvs
   exact ⟨v,by simp [Instr.field,run_underlying h1,h2,asAgg];exact hv,hr⟩
theorem fitE_run {t u:TypeId} (h:fitE C t u=true): ∃(d:TypeDesc) (e:TypeId),C.P.underlying t=some d∧((d = .slice e)∨∃n,d = .array n e)∧sizeT C.P e=C.S.sz u:=by
 unfold fitE at h
 split at h
 ·rename_i e he;exact ⟨_,e,he, .inl rfl,Nat.eq_of_beq_eq_true h⟩
 ·rename_i n e he;exact ⟨_,e,he, .inr ⟨n,rfl⟩,Nat.eq_of_beq_eq_true h⟩
 ·cases h
theorem isSl_run {t:TypeId} (h:isSl C.P t=true): ∃e,C.P.underlying t=some (.slice e):= by
 unfold isSl at h
 split at h
 ·exact ⟨_,‹_›⟩
 ·cases h
theorem size_run (hS:SigOk C.S) {e u:TypeId} (h:sizeT C.P e=C.S.sz u): ∃i,C.P.info? e=some i∧i.size=C.S.sz u:=by
 unfold sizeT at h
 cases hi:C.P.info? e with
 | none=>simp [hi] at h;have:=hS.pos u;omega
 | some i=>exact ⟨i,rfl,by simpa [hi] using h⟩
theorem indexAt_slice {t e:TypeId} {i:TypeInfo} (h1:C.P.underlying t=some (.slice e)) (h2:C.P.info? e=some i) {b off len cap:Nat} {k:IntKind} {n:Int} (h0:0≤n) (hn:n < len) (w:World):
  (Instr.indexAt t (.slice (some ⟨b,off,none⟩) len cap) (.int k n)).run C.P w = .ok (.pointer (some ⟨b,off+n.toNat*i.size,none⟩)) w:=by
 simp [Instr.indexAt,asIntOf,run_underlying h1,run_sizeOf h2,h0,hn,Addr.add_lit]
theorem indexAt_array {t e:TypeId} {i:TypeInfo} {len:Nat} (h1:C.P.underlying t=some (.array len e)) (h2:C.P.info? e=some i) {b off:Nat} {k:IntKind} {n:Int} (h0:0≤n) (hn:n < len) (w:World):
  (Instr.indexAt t (.pointer (some ⟨b,off,none⟩)) (.int k n)).run C.P w = .ok (.pointer (some ⟨b,off+n.toNat*i.size,none⟩)) w:=by
 simp [Instr.indexAt,asIntOf,Instr.sureAddr,run_underlying h1,run_sizeOf h2,h0,hn,Addr.add_lit]
theorem elem_rp {t:TypeId} {xs:List (C.S.El t)} {b off:Nat} {val:Nat→Value} {n:Nat} (hn:n < xs.length)
  (hw : ∀k,k < xs.length*C.S.sz t→w.cell? ⟨b,off+k,none⟩= some (val k)∧env.prot b (off+k))
  (h : ∀i j,i < xs.length→Γ C.S env w ((C.S.cell t (xs.getD i (C.S.dflt t))).getD j .any) (val (i*C.S.sz t+j))):
  Γ C.S env w (.rp t (xs.getD n (C.S.dflt t)) 0) (.pointer (some ⟨b,off+n*C.S.sz t,none⟩)):= by
 have hm:(n+1)* C.S.sz t≤xs.length*C.S.sz t:=Nat.mul_le_mul_right _ hn
 rw [Nat.add_mul,Nat.one_mul] at hm
 have:=Γ.rp (S:=C.S) (env:=env) (w:=w) t (xs.getD n (C.S.dflt t)) 0 b (off+n*C.S.sz t) (fun j=>val (n*C.S.sz t+j))
  (fun k hk=>by have:=hw (n*C.S.sz t+k) (by omega);rw [←Nat.add_assoc] at this;exact this) (fun j=>h n j hn)
 simpa using this
theorem indexAddrA_sound (hS:SigOk C.S) (hI:Inv C.S B env w H) {t:TypeId} {ax ai r:AV C.S.El} {vx vi:Value} {ps:List Prop} (h:indexAddrA C t H ax ai=some (ps,r)) (hp : ∀p∈ps,p)
  (hx:Γ C.S env w ax vx) (hi:Γ C.S env w ai vi): ∃v,(Instr.indexAt t vx vi).run C.P w = .ok v w∧Γ C.S env w r v:=by
 unfold indexAddrA at h
 split at h
 ·rename_i u xs full k n
  cases hi.unv
  obtain ⟨hc,h⟩:= cond_some h
  cases h
  obtain ⟨h0,hn⟩:= hp _ (List.mem_singleton.2 rfl)
  simp only [Bool.and_eq_true] at hc
  obtain ⟨e,he⟩:= isSl_run hc.1
  obtain ⟨d,e',hd,hde,hsz⟩:= fitE_run hc.2
  rw [he] at hd;cases hd
  rcases hde with hde | ⟨_,hde⟩ <;> cases hde
  obtain ⟨i,hi1,hi2⟩:= size_run hS hsz
  cases hx with
  | sl _ _ _ b off cap val hf hcc hw hv =>
   refine ⟨_,indexAt_slice he hi1 h0 hn w, ?_⟩
   rw [hi2]
   exact elem_rp (by omega) hw hv
  | slnil=>simp at hn;omega
  | slemp=>simp at hn;omega
 ·rename_i u xs k n
  cases hi.unv
  obtain ⟨hc,h⟩:= cond_some h
  simp only [Option.map_eq_some_iff] at h
  obtain ⟨len,hlen,h⟩:= h
  cases h
  obtain ⟨rfl,h0,hn⟩:= hp _ (List.mem_singleton.2 rfl)
  unfold lenArr at hlen
  split at hlen
  ·rename_i m e he
   cases hlen
   obtain ⟨d,e',hd,hde,hsz⟩:= fitE_run hc
   rw [he] at hd;cases hd
   rcases hde with hde | ⟨_,hde⟩ <;> cases hde
   obtain ⟨i,hi1,hi2⟩:= size_run hS hsz
   cases hx with
   | ra _ _ b val hw hv =>
    refine ⟨_,indexAt_array he hi1 h0 hn w, ?_⟩
    rw [hi2]
    exact elem_rp (off:=0) (by omega) (fun k hk=>by simpa using hw k hk) hv
  ·cases hlen
 ·rename_i i k n
  cases hi.unv
  have ho:=hI.objs i
  cases hobj:obj H i with
  | row u xs =>
   rw [hobj] at h ho
   obtain ⟨hc,h⟩:= cond_some h
   cases h
   obtain ⟨h0,hn⟩:= hp _ (List.mem_singleton.2 rfl)
   simp only [Bool.and_eq_true] at hc
   obtain ⟨e,he⟩:= isSl_run hc.1
   obtain ⟨d,e',hd,hde,hsz⟩:= fitE_run hc.2
   rw [he] at hd;cases hd
   rcases hde with hde | ⟨_,hde⟩ <;> cases hde
   obtain ⟨inf,hi1,hi2⟩:= size_run hS hsz
   cases hx with | gs _ a m cap hv =>
   obtain ⟨u',ws,h1,h2,h3⟩:= ho
   rw [hv] at h1;cases h1
   rcases h2.2 with ⟨h4,h5⟩| ⟨g,cap',cur,fz,bo,h4,_⟩
   ·omega
   ·cases h4
    refine ⟨_,indexAt_slice he hi1 h0 hn w, ?_⟩
    rw [hi2]
    have:=Γ.rg (S:=C.S) (env:=env) (w:=w) u i n.toNat 0 g _ _ bo hv
    simpa using this
  | frozen u xs =>
   rw [hobj] at h ho
   obtain ⟨hc,h⟩:= cond_some h
   cases h
   obtain ⟨h0,hn⟩:= hp _ (List.mem_singleton.2 rfl)
   simp only [Bool.and_eq_true] at hc
   obtain ⟨e,he⟩:= isSl_run hc.1
   obtain ⟨d,e',hd,hde,hsz⟩:= fitE_run hc.2
   rw [he] at hd;cases hd
   rcases hde with hde | ⟨_,hde⟩ <;> cases hde
   obtain ⟨inf,hi1,hi2⟩:= size_run hS hsz
   cases hx with | gs _ a m cap hv =>
   obtain ⟨u',h1,h2⟩:= ho
   rw [hv] at h1;cases h1
   cases h2 with
   | sl _ _ _ b off cap val hf hcc hw hvv =>
    refine ⟨_,indexAt_slice he hi1 h0 hn w, ?_⟩
    rw [hi2]
    exact elem_rp (by omega) hw hvv
   | slnil=>simp at hn;omega
   | slemp=>simp at hn;omega
  | _=>rw [hobj] at h;cases h
 ·rename_i i off k n
  cases hi.unv
  split at h
  ·rename_i len e he
   obtain ⟨hnn,h⟩:= ite_none h
   cases h
   obtain ⟨h0,hn⟩:= hp _ (List.mem_singleton.2 rfl)
   cases hx with | ref _ _ b hb =>
   cases hi:C.P.info? e with
   | none=>simp [hi] at hnn
   | some i =>
    refine ⟨_,indexAt_array he hi h0 hn w, ?_⟩
    have:sizeT C.P e=i.size:=by simp [sizeT,hi]
    rw [this]
    exact .ref _ _ b hb
  ·cases h
 ·cases h
theorem lenA_sound (hI:Inv C.S B env w H) {t ty:TypeId} {ax r:AV C.S.El} {vx:Value} (h:lenA C.P t H ax=some r) (hx:Γ C.S env w ax vx):
  ∃v,(Builtin.len_ #[t] ty #[vx]).run C.P w = .ok v w∧Γ C.S env w r v:=by
 unfold lenA at h
 split at h
 ·obtain ⟨hs,h⟩:= cond_some h
  cases h
  obtain ⟨e,he⟩:= isSl_run hs
  cases hx with
  | sl=>exact ⟨_,by simp [Builtin.len_,run_underlying he,goInt], .v _⟩
  | slnil=>exact ⟨_,by simp [Builtin.len_,run_underlying he,goInt], .v _⟩
  | slemp=>exact ⟨_,by simp [Builtin.len_,run_underlying he,goInt], .v _⟩
 ·rename_i i
  obtain ⟨hs,h⟩:= cond_some h
  obtain ⟨e,he⟩:= isSl_run hs
  cases hx with | gs _ a n c hv =>
  have ho:=hI.objs i
  cases hobj:obj H i with
  | row u xs =>
   rw [hobj] at h ho
   cases h
   obtain ⟨u',ws,h1,h2,h3⟩:= ho
   rw [hv] at h1;cases h1
   have hn:n=xs.length:=by
    rcases h2.2 with ⟨h4,h5⟩| ⟨g,cap',cur,fz,bo,h4,_⟩
    ·cases h4;exact h5.symm
    ·cases h4;rfl
   subst hn
   exact ⟨_,by simp [Builtin.len_,run_underlying he,goInt], .v _⟩
  | frozen u xs =>
   rw [hobj] at h ho
   cases h
   obtain ⟨u',h1,h2⟩:= ho
   rw [hv] at h1;cases h1
   cases h2 with
   | sl=>exact ⟨_,by simp [Builtin.len_,run_underlying he,goInt], .v _⟩
   | slnil=>exact ⟨_,by simp [Builtin.len_,run_underlying he,goInt], .v _⟩
   | slemp=>exact ⟨_,by simp [Builtin.len_,run_underlying he,goInt], .v _⟩
  | _=>rw [hobj] at h;cases h
 ·obtain ⟨hs,h⟩:= cond_some h
  cases h
  cases hx.unv
  unfold isStr at hs
  split at hs
  ·rename_i he
   exact ⟨_,by simp [Builtin.len_,run_underlying he,goInt], .v _⟩
  ·cases hs
 ·obtain ⟨hs,h⟩:= cond_some h
  cases h
  cases hx.unv
  obtain ⟨e,he⟩:= isSl_run hs
  exact ⟨_,by simp [Builtin.len_,run_underlying he,goInt], .v _⟩
 ·cases h
theorem byteAt_run {s:ByteArray} {n:Int} (h0:0≤n) (hn:n < s.size): ∃b:UInt8,s[n.toNat]? = some b∧byteAt s n=b.toNat:=by
 have hlt:n.toNat < s.size:=by omega
 refine ⟨s[n.toNat],by simp [hlt], ?_⟩
 unfold byteAt bytesI
 have hl:n.toNat < s.data.toList.length:=by simpa using hlt
 simp only [List.getD,List.getElem?_map,List.getElem?_eq_getElem hl,Option.map_some,Option.getD_some]
 rfl
theorem indexA_sound {t:TypeId} {ax ai r:AV C.S.El} {vx vi:Value} {ps:List Prop} (h:indexA C t ax ai=some (ps,r)) (hp : ∀p∈ps,p)
  (hx:Γ C.S env w ax vx) (hi:Γ C.S env w ai vi): ∃v,(Instr.index t vx vi).run C.P w = .ok v w∧Γ C.S env w r v:=by
 unfold indexA at h
 split at h
 ·obtain ⟨hs,h⟩:= cond_some h
  cases h
  cases hx.unv;cases hi.unv
  rename_i s k n
  obtain ⟨h0,hn⟩:= hp _ (List.mem_singleton.2 rfl)
  unfold isStr at hs
  split at hs
  ·rename_i he
   obtain ⟨b,hb,hb2⟩:= byteAt_run h0 hn
   exact ⟨.int .u8 b.toNat,by simp [Instr.index,asIntOf,run_underlying he,h0,hb],by rw [hb2];exact .v _⟩
  ·cases hs
 ·obtain ⟨vs,rfl,hvs⟩:= hx.unagg
  cases hi.unv
  split at h
  ·rename_i k n len e he
   simp only [Option.map_eq_some_iff] at h
   obtain ⟨x,hx2,h⟩:= h
   cases h
   obtain ⟨h0,hn⟩:= hp _ (List.mem_singleton.2 rfl)
   obtain ⟨v,hv,hr⟩:= part_run hx2 hvs
   cases hi:C.P.info? e with
   | none=>unfold whole at hx2;rw [hi] at hx2;split at hx2 <;> simp_all
   | some i =>
    have hsz:sizeT C.P e=i.size:=by simp [sizeT,hi]
    rw [hsz] at hv
    exact ⟨v,by simp [Instr.index,asIntOf,run_underlying he,h0,hn,run_sizeOf hi,hv],hr⟩
  ·cases h
 ·cases h
theorem bnd_run {o:Option (AV C.S.El)} {ov:Option Value} {d n:Int} (h:bnd d o=some n) (hg : ∀x,o=some x→∃v,ov=some v∧Γ C.S env w x v) (hn:o=none→ov=none):
  (o=none∧ov=none∧n=d)∨∃k,ov=some (.int k n):= by
 unfold bnd at h
 split at h
 ·cases h;exact .inl ⟨rfl,hn rfl,rfl⟩
 ·cases h
  obtain ⟨v,hv,hx⟩:= hg _ rfl
  cases hx.unv
  exact .inr ⟨_,hv⟩
 ·cases h
theorem sliceBound_run {k:IntKind} {n:Int} {y:Nat} {code:BoundsCode} (h0:0≤n) (hn:n≤y) (w:World) (P:Program): (Instr.sliceBound (.int k n) y code).run P w = .ok n.toNat w:=by
 simp [Instr.sliceBound,asIntOf,h0,hn]
theorem sliceBounds_run {P:Program} {isS:Bool} {len cap:Nat} {lo hi mx:Option Value} {l h m:Int} (hl:(lo=none∧l=0)∨∃k,lo=some (.int k l)) (hh:(hi=none∧h=len)∨∃k,hi=some (.int k h))
  (hm:(mx=none∧m=cap)∨(∃k,mx=some (.int k m))∧∃k,hi=some (.int k h)) (h0:0≤l) (h1:l≤h) (h2:h≤m) (h3:m≤cap) (w:World):
  (Instr.sliceBounds isS len cap lo hi mx).run P w = .ok (l.toNat,h.toNat,m.toNat) w:=by
 have e1:(m.toNat:Int)= m:=by omega
 have e2:(h.toNat:Int)= h:=by omega
 rcases hm with ⟨rfl,rfl⟩| ⟨⟨km,rfl⟩,kh,rfl⟩
 ·rcases hh with ⟨rfl,rfl⟩| ⟨kh,rfl⟩ <;> rcases hl with ⟨rfl,rfl⟩| ⟨kl,rfl⟩
  ·simp [Instr.sliceBounds]
  ·simp [Instr.sliceBounds,sliceBound_run h0 h1]
  ·simp [Instr.sliceBounds,sliceBound_run (show 0≤h by omega) h2]
  ·simp [Instr.sliceBounds,sliceBound_run (show 0≤h by omega) h2,sliceBound_run h0 (show l≤(h.toNat:Nat) by omega)]
 ·rcases hl with ⟨rfl,rfl⟩| ⟨kl,rfl⟩
  ·simp [Instr.sliceBounds,sliceBound_run (show 0≤m by omega) h3,sliceBound_run (show 0≤h by omega) (show h≤(m.toNat:Nat) by omega)]
  ·simp [Instr.sliceBounds,sliceBound_run (show 0≤m by omega) h3,sliceBound_run (show 0≤h by omega) (show h≤(m.toNat:Nat) by omega),sliceBound_run h0 (show l≤(h.toNat:Nat) by omega)]
theorem sliceAt_slice {t e:TypeId} {i:TypeInfo} (h1:C.P.underlying t=some (.slice e)) (h2:C.P.info? e=some i) {a:Option Addr} {len cap l h m:Nat} {lo hi mx:Option Value}
  (hb:(Instr.sliceBounds true len cap lo hi mx).run C.P w = .ok (l,h,m) w):
  (Instr.sliceAt t (.slice a len cap) lo hi mx).run C.P w = .ok (.slice (if m=l then a else a.map (·.add (l*i.size))) (h - l) (m - l)) w:=by
 simp [Instr.sliceAt,Instr.slice,run_underlying h1,hb,run_sizeOf h2]
theorem sub_take {α:Type} (xs:List α) (l h:Nat) (hh:h≤xs.length) (hl:l≤h): ((xs.take h).drop l).length=h - l:=by simp;omega
theorem sub_getD {α:Type} (xs:List α) (l h i:Nat) (d:α) (hi:i < h - l): ((xs.take h).drop l).getD i d=xs.getD (l+i) d:=by
 simp only [List.getD,List.getElem?_drop,List.getElem?_take]
 rw [if_pos (by omega)]
theorem sl_sub {t:TypeId} {xs:List (C.S.El t)} {full full':Bool} {a:Option Addr} {n cap l h m:Nat} (hg:Γ C.S env w (.sl t xs full) (.slice a n cap)) (h0:l≤h) (h1:h≤xs.length) (h2:h≤m) (h3:m≤cap)
  (hf:full'=true→m=h): Γ C.S env w (.sl t ((xs.take h).drop l) full') (.slice (if m=l then a else a.map (·.add (l*C.S.sz t))) (h - l) (m - l)):= by
 have hlen:=sub_take xs l h h1 h0
 cases hg with
 | sl _ _ _ b off cap val _ hc hw hv =>
  rw [←hlen]
  have hm:h*C.S.sz t≤xs.length*C.S.sz t:=Nat.mul_le_mul_right _ h1
  have hlh:(h - l)* C.S.sz t+l*C.S.sz t=h*C.S.sz t:=by rw [←Nat.add_mul,Nat.sub_add_cancel h0]
  by_cases he:m=l
  ·have hn:(xs.take h).drop l=[]:= List.eq_nil_of_length_eq_zero (by omega)
   rw [if_pos he]
   refine .sl t _ full' b off (m - l) val (fun hh=>by rw [hlen,hf hh]) (by omega) (fun k hk=>?_) (fun i j hi=>?_)
   ·rw [hlen] at hk;have:h - l=0:=by omega
    rw [this] at hk;omega
   ·omega
  ·rw [if_neg he]
   simp only [Option.map_some,Addr.add_lit]
   refine .sl t _ full' b (off+l*C.S.sz t) (m - l) (fun k=>val (l*C.S.sz t+k)) (fun hh=>by rw [hlen,hf hh]) (by omega) (fun k hk=>?_) (fun i j hi=>?_)
   ·rw [hlen] at hk
    have:=hw (l*C.S.sz t+k) (by omega)
    rw [←Nat.add_assoc] at this
    exact this
   ·rw [hlen] at hi
    rw [sub_getD _ _ _ _ _ hi]
    have:=hv (l+i) j (by omega)
    rw [Nat.add_mul,Nat.add_assoc] at this
    exact this
 | slnil =>
  simp only [List.length_nil] at h1
  have e1:h=0:=by omega
  have e2:l=0:=by omega
  have e3:m=0:=by omega
  subst e1 e2 e3
  simpa using Γ.slnil (S:=C.S) (env:=env) (w:=w) t full'
 | slemp _ _ a cap hfc =>
  simp only [List.length_nil] at h1
  have e1:h=0:=by omega
  have e2:l=0:=by omega
  subst e1 e2
  have ea:(if m=0 then some a else (some a).map (·.add (0*C.S.sz t)))= some a:=by
   split
   ·rfl
   ·simp [Addr.add]
  rw [ea]
  simpa using Γ.slemp (S:=C.S) (env:=env) (w:=w) t full' a m hf
theorem sliceA_sound (hS:SigOk C.S) {t:TypeId} {alo ahi amx:Option (AV C.S.El)} {lo hi mx:Option Value} {ax r:AV C.S.El} {vx:Value} {ps:List Prop} (h:sliceA C t alo ahi amx ax=some (ps,r)) (hp : ∀p∈ps,p)
  (hx:Γ C.S env w ax vx) (hlo : ∀x,alo=some x→∃v,lo=some v∧Γ C.S env w x v) (hlo':alo=none→lo=none) (hhi : ∀x,ahi=some x→∃v,hi=some v∧Γ C.S env w x v) (hhi':ahi=none→hi=none)
  (hmx : ∀x,amx=some x→∃v,mx=some v∧Γ C.S env w x v) (hmx':amx=none→mx=none):
  ∃v,(Instr.sliceAt t vx lo hi mx).run C.P w = .ok v w∧Γ C.S env w r v:=by
 cases ax <;> simp only [sliceA,reduceCtorEq] at h
 case sl u xs full =>
  obtain ⟨hc,h⟩: (!(isSl C.P t && fitE C t u))= false∧_:=by
   cases hb:(!(isSl C.P t && fitE C t u))
   ·rw [hb,cond_false] at h;exact ⟨rfl,h⟩
   ·rw [hb,cond_true] at h;cases h
  simp only [Bool.not_eq_false',Bool.and_eq_true] at hc
  obtain ⟨e,he⟩:= isSl_run hc.1
  obtain ⟨d,e',hd,hde,hsz⟩:= fitE_run hc.2
  rw [he] at hd;cases hd
  rcases hde with hde | ⟨_,hde⟩ <;> cases hde
  obtain ⟨i,hi1,hi2⟩:= size_run hS hsz
  obtain ⟨a,cap,rfl,hcap,hfull⟩: ∃a cap,vx = .slice a xs.length cap∧xs.length≤cap∧(full=true→cap=xs.length):= by
   cases hx with
   | sl _ _ _ b off cap val hf hcc hw hv=>exact ⟨_,cap,rfl,hcc.1,hf⟩
   | slnil=>exact ⟨none,0,rfl,Nat.le_refl _,fun _=>rfl⟩
   | slemp _ _ a cap hf=>exact ⟨_,cap,rfl,Nat.zero_le _,hf⟩
  cases hl:bnd 0 alo with
  | none=>rw [hl] at h;cases h
  | some l =>
  cases hhh:bnd xs.length ahi with
  | none=>rw [hl,hhh] at h;cases h
  | some hh =>
  rw [hl,hhh] at h
  have hl2:=bnd_run hl hlo hlo'
  have hh2:=bnd_run hhh hhi hhi'
  have hl3:(lo=none∧l=0)∨∃k,lo=some (.int k l):= by rcases hl2 with ⟨_,a,b⟩| b;exact .inl ⟨a,b⟩;exact .inr b
  have hh3:(hi=none∧hh=xs.length)∨∃k,hi=some (.int k hh):= by rcases hh2 with ⟨_,a,b⟩| b;exact .inl ⟨a,b⟩;exact .inr b
  split at h
  ·rename_i h1 h2 h3
   cases h1;cases h2
   cases h
   obtain ⟨p1,p2,p3⟩:= hp _ (List.mem_singleton.2 rfl)
   cases hmx' rfl
   have hb:=sliceBounds_run (P:=C.P) (isS:=true) (len:=xs.length) (cap:=cap) (mx:=none) (m:=cap) hl3 hh3 (.inl ⟨rfl,rfl⟩) p1 p2 (by omega) (by omega) w
   refine ⟨_,sliceAt_slice he hi1 hb, ?_⟩
   rw [hi2]
   simp only [Int.toNat_natCast]
   refine sl_sub hx (by omega) (by omega) (by omega) (by omega) (fun hf=>?_)
   simp only [Bool.and_eq_true] at hf
   have:=hfull hf.1
   rcases hh2 with ⟨e1,e2,e3⟩| _
   ·omega
   ·split at hf
    ·simp only [bnd,Option.some.injEq] at hhh;omega
    ·exact absurd hf.2 (by simp)
  ·rename_i km m h1 h2 h3
   cases h1;cases h2
   obtain ⟨hiS,h⟩:= cond_some h
   cases h
   obtain ⟨p1,p2,p3,p4⟩:= hp _ (List.mem_singleton.2 rfl)
   obtain ⟨vm,rfl,hm⟩:= hmx _ rfl
   cases hm.unv
   subst p4
   have hh4 : ∃k,hi=some (.int k m):= by
    rcases hh2 with ⟨e1,_,_⟩| e
    ·rw [e1] at hiS;cases hiS
    ·exact e
   have hb:=sliceBounds_run (P:=C.P) (isS:=true) (len:=xs.length) (cap:=cap) (mx:=some (.int km m)) (m:=m) hl3 hh3 (.inr ⟨⟨km,rfl⟩,hh4⟩) p1 p2 (by omega) (by omega) w
   refine ⟨_,sliceAt_slice he hi1 hb, ?_⟩
   rw [hi2]
   exact sl_sub hx (by omega) (by omega) (by omega) (by omega) (fun _=>rfl)
  ·cases h
 case v x =>
  cases x <;> simp only [reduceCtorEq] at h
  case string s =>
  obtain ⟨hc,h⟩: (!isStr C.P t)= false∧_:=by
   cases hb:(!isStr C.P t)
   ·rw [hb,cond_false] at h;exact ⟨rfl,h⟩
   ·rw [hb,cond_true] at h;cases h
  have hst:C.P.underlying t=some .string:=by
   unfold isStr at hc
   split at hc
   ·assumption
   ·cases hc
  cases hx.unv
  cases hl:bnd 0 alo with
  | none=>rw [hl] at h;cases h
  | some l =>
  cases hhh:bnd s.size ahi with
  | none=>rw [hl,hhh] at h;cases h
  | some hh =>
  rw [hl,hhh] at h
  have hl2:=bnd_run hl hlo hlo'
  have hh2:=bnd_run hhh hhi hhi'
  have hl3:(lo=none∧l=0)∨∃k,lo=some (.int k l):= by rcases hl2 with ⟨_,a,b⟩| b;exact .inl ⟨a,b⟩;exact .inr b
  have hh3:(hi=none∧hh=s.size)∨∃k,hi=some (.int k hh):= by rcases hh2 with ⟨_,a,b⟩| b;exact .inl ⟨a,b⟩;exact .inr b
  split at h
  ·rename_i h1 h2 h3
   cases h1;cases h2
   cases h
   obtain ⟨p1,p2,p3⟩:= hp _ (List.mem_singleton.2 rfl)
   cases hmx' rfl
   have hb:=sliceBounds_run (P:=C.P) (isS:=false) (len:=s.size) (cap:=s.size) (mx:=none) (m:=s.size) hl3 hh3 (.inl ⟨rfl,rfl⟩) p1 p2 (by omega) (by omega) w
   refine ⟨_, ?_, .v _⟩
   simp [Instr.sliceAt,Instr.slice,run_underlying hst,hb]
  ·cases h
end
end Go.Aw
end
