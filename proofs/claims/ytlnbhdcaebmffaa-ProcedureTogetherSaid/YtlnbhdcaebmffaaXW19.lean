/- Contracts of the seat (printed by ct.py). -/
import Derived.Test.YtlnbhdcaebmffaaXW18
set_option linter.unusedVariables false
set_option linter.unusedSimpArgs false
set_option maxRecDepth 20000
set_option maxHeartbeats 1000000
namespace Go.Aw.W
open Go Go.Aw Go.Proofs
attribute [local irreducible] evCode evFun evOps evDs evOne ctxK loopK loopB subC bodyC headS okH roundK
attribute [local irreducible] cCheck procStart procHandle procReady procDue loopL
section
variable {R:Type}
def popX (t:TypeId) (cs:List (AV El)) (f:List (El t)→List (AV El)→Option R): Option R :=
 match cs with
 | .sl u xs false::l=>if h:u=t then f (h ▸ xs) l else none
 | _=>none
def rowX (t:TypeId) (o:AObj El) (f:List (El t)→Option R): Option R :=
 match o with
 | .row u xs=>if h:u=t then f (h ▸ xs) else none
 | _=>none
theorem popX_some {t:TypeId} {cs:List (AV El)} {f:List (El t)→List (AV El)→Option R} {r:R} (h:popX t cs f=some r): ∃xs l,cs = .sl t xs false::l∧f xs l=some r:=by
 unfold popX at h
 split at h
 ·split at h
  ·rename_i hu
   subst hu
   exact ⟨_,_,rfl,h⟩
  ·cases h
 ·cases h
theorem rowX_some {t:TypeId} {o:AObj El} {f:List (El t)→Option R} {r:R} (h:rowX t o f=some r): ∃xs,o = .row t xs∧f xs=some r:=by
 unfold rowX at h
 split at h
 ·split at h
  ·rename_i hu
   subst hu
   exact ⟨_,rfl,h⟩
  ·cases h
 ·cases h
end
def tkD (cs:List (AV El)): Option Law28Talk:=popI .u64 cs fun a0 c0=>popI .u64 c0 fun a1 c1=>popI .i64 c1 fun a2 c2=>popI .i64 c2 fun a3 c3=>popB c3 fun a4 c4=>popI .u64 c4 fun a5 c5=>popX 117 c5 fun a6 c6=>popE c6 ⟨a0,a1,a2,a3,a4,a5,a6⟩
theorem tkD_ok {cs:List (AV El)} {x:Law28Talk} (h:tkD cs=some x): cs=Law28Talk.cells x:=by
 unfold tkD at h
 obtain ⟨a0,c0,rfl,h0⟩:= popI_some (S:=S) h
 obtain ⟨a1,c1,rfl,h1⟩:= popI_some (S:=S) h0
 obtain ⟨a2,c2,rfl,h2⟩:= popI_some (S:=S) h1
 obtain ⟨a3,c3,rfl,h3⟩:= popI_some (S:=S) h2
 obtain ⟨a4,c4,rfl,h4⟩:= popB_some (S:=S) h3
 obtain ⟨a5,c5,rfl,h5⟩:= popI_some (S:=S) h4
 obtain ⟨a6,c6,rfl,h6⟩:= popX_some h5
 obtain ⟨rfl,rfl⟩:= popE_some (S:=S) h6
 exact rfl
def ctD (cs:List (AV El)): Option Control:=popI .i64 cs fun a0 c0=>popI .i64 c0 fun a1 c1=>popI .i64 c1 fun a2 c2=>popI .i64 c2 fun a3 c3=>popI .i64 c3 fun a4 c4=>popI .i64 c4 fun a5 c5=>popI .u64 c5 fun a6 c6=>popI .u16 c6 fun a7 c7=>popI .i64 c7 fun a8 c8=>popI .i64 c8 fun a9 c9=>popI .u64 c9 fun a10 c10=>popI .u64 c10 fun a11 c11=>popI .u64 c11 fun a12 c12=>popI .i64 c12 fun a13 c13=>popI .i64 c13 fun a14 c14=>popE c14 ⟨a0,⟨a1,a2,a3,a4,a5⟩,a6,a7,a8,a9,a10,a11,a12,a13,a14⟩
theorem ctD_ok {cs:List (AV El)} {x:Control} (h:ctD cs=some x): cs=Control.cells x:=by
 unfold ctD at h
 obtain ⟨a0,c0,rfl,h0⟩:= popI_some (S:=S) h
 obtain ⟨a1,c1,rfl,h1⟩:= popI_some (S:=S) h0
 obtain ⟨a2,c2,rfl,h2⟩:= popI_some (S:=S) h1
 obtain ⟨a3,c3,rfl,h3⟩:= popI_some (S:=S) h2
 obtain ⟨a4,c4,rfl,h4⟩:= popI_some (S:=S) h3
 obtain ⟨a5,c5,rfl,h5⟩:= popI_some (S:=S) h4
 obtain ⟨a6,c6,rfl,h6⟩:= popI_some (S:=S) h5
 obtain ⟨a7,c7,rfl,h7⟩:= popI_some (S:=S) h6
 obtain ⟨a8,c8,rfl,h8⟩:= popI_some (S:=S) h7
 obtain ⟨a9,c9,rfl,h9⟩:= popI_some (S:=S) h8
 obtain ⟨a10,c10,rfl,h10⟩:= popI_some (S:=S) h9
 obtain ⟨a11,c11,rfl,h11⟩:= popI_some (S:=S) h10
 obtain ⟨a12,c12,rfl,h12⟩:= popI_some (S:=S) h11
 obtain ⟨a13,c13,rfl,h13⟩:= popI_some (S:=S) h12
 obtain ⟨a14,c14,rfl,h14⟩:= popI_some (S:=S) h13
 obtain ⟨rfl,rfl⟩:= popE_some (S:=S) h14
 exact rfl
def exCDA (r1 r2:List Control) (r3 r4:List Law28applied) (cs:List (AV El)): Option Law28exchange:=popI .i64 cs fun a0 c0=>popI .i64 c0 fun a1 c1=>popI .i64 c1 fun a2 c2=>popX 28 c2 fun a3 c3=>popI .i64 c3 fun a4 c4=>popI .i64 c4 fun a5 c5=>popX 59 c5 fun a6 c6=>popB c6 fun a7 c7=>popI .u64 c7 fun a8 c8=>popI .u64 c8 fun a9 c9=>popB c9 fun a10 c10=>popB c10 fun a11 c11=>popI .i64 c11 fun a12 c12=>popI .i64 c12 fun a13 c13=>popI .i64 c13 fun a14 c14=>popI .u64 c14 fun a15 c15=>popI .u64 c15 fun a16 c16=>popI .u64 c16 fun a17 c17=>popI .i64 c17 fun a18 c18=>popI .i64 c18 fun a19 c19=>popI .i64 c19 fun a20 c20=>popI .i64 c20 fun a21 c21=>popI .i64 c21 fun a22 c22=>popX 28 c22 fun a23 c23=>popI .i64 c23 fun a24 c24=>popI .i64 c24 fun a25 c25=>popX 59 c25 fun a26 c26=>popB c26 fun a27 c27=>popI .u64 c27 fun a28 c28=>popI .u64 c28 fun a29 c29=>popB c29 fun a30 c30=>popB c30 fun a31 c31=>popI .i64 c31 fun a32 c32=>popI .i64 c32 fun a33 c33=>popI .i64 c33 fun a34 c34=>popI .u64 c34 fun a35 c35=>popI .u64 c35 fun a36 c36=>popI .u64 c36 fun a37 c37=>popI .i64 c37 fun a38 c38=>popI .i64 c38 fun a39 c39=>popG 2 c39 fun c40=>popG 3 c40 fun c41=>popG 4 c41 fun c42=>popG 5 c42 fun c43=>popI .i64 c43 fun a44 c44=>popI .i64 c44 fun a45 c45=>popI .u16 c45 fun a46 c46=>popI .i64 c46 fun a47 c47=>popE c47 ⟨⟨a0,a1,a2,a3,a4,a5,a6,a7,a8,a9,a10,a11,a12,a13,a14,a15,a16,a17,a18,a19⟩,⟨a20,a21,a22,a23,a24,a25,a26,a27,a28,a29,a30,a31,a32,a33,a34,a35,a36,a37,a38,a39⟩,r1,r2,r3,r4,a44,a45,a46,a47⟩
theorem exCDA_ok (r1 r2:List Control) (r3 r4:List Law28applied) {cs:List (AV El)} {x:Law28exchange} (h:exCDA r1 r2 r3 r4 cs=some x): cs=exCA x∧x.queues_0=r1∧x.queues_1=r2∧x.done_0=r3∧x.done_1=r4:=by
 unfold exCDA at h
 obtain ⟨a0,c0,rfl,h0⟩:= popI_some (S:=S) h
 obtain ⟨a1,c1,rfl,h1⟩:= popI_some (S:=S) h0
 obtain ⟨a2,c2,rfl,h2⟩:= popI_some (S:=S) h1
 obtain ⟨a3,c3,rfl,h3⟩:= popX_some h2
 obtain ⟨a4,c4,rfl,h4⟩:= popI_some (S:=S) h3
 obtain ⟨a5,c5,rfl,h5⟩:= popI_some (S:=S) h4
 obtain ⟨a6,c6,rfl,h6⟩:= popX_some h5
 obtain ⟨a7,c7,rfl,h7⟩:= popB_some (S:=S) h6
 obtain ⟨a8,c8,rfl,h8⟩:= popI_some (S:=S) h7
 obtain ⟨a9,c9,rfl,h9⟩:= popI_some (S:=S) h8
 obtain ⟨a10,c10,rfl,h10⟩:= popB_some (S:=S) h9
 obtain ⟨a11,c11,rfl,h11⟩:= popB_some (S:=S) h10
 obtain ⟨a12,c12,rfl,h12⟩:= popI_some (S:=S) h11
 obtain ⟨a13,c13,rfl,h13⟩:= popI_some (S:=S) h12
 obtain ⟨a14,c14,rfl,h14⟩:= popI_some (S:=S) h13
 obtain ⟨a15,c15,rfl,h15⟩:= popI_some (S:=S) h14
 obtain ⟨a16,c16,rfl,h16⟩:= popI_some (S:=S) h15
 obtain ⟨a17,c17,rfl,h17⟩:= popI_some (S:=S) h16
 obtain ⟨a18,c18,rfl,h18⟩:= popI_some (S:=S) h17
 obtain ⟨a19,c19,rfl,h19⟩:= popI_some (S:=S) h18
 obtain ⟨a20,c20,rfl,h20⟩:= popI_some (S:=S) h19
 obtain ⟨a21,c21,rfl,h21⟩:= popI_some (S:=S) h20
 obtain ⟨a22,c22,rfl,h22⟩:= popI_some (S:=S) h21
 obtain ⟨a23,c23,rfl,h23⟩:= popX_some h22
 obtain ⟨a24,c24,rfl,h24⟩:= popI_some (S:=S) h23
 obtain ⟨a25,c25,rfl,h25⟩:= popI_some (S:=S) h24
 obtain ⟨a26,c26,rfl,h26⟩:= popX_some h25
 obtain ⟨a27,c27,rfl,h27⟩:= popB_some (S:=S) h26
 obtain ⟨a28,c28,rfl,h28⟩:= popI_some (S:=S) h27
 obtain ⟨a29,c29,rfl,h29⟩:= popI_some (S:=S) h28
 obtain ⟨a30,c30,rfl,h30⟩:= popB_some (S:=S) h29
 obtain ⟨a31,c31,rfl,h31⟩:= popB_some (S:=S) h30
 obtain ⟨a32,c32,rfl,h32⟩:= popI_some (S:=S) h31
 obtain ⟨a33,c33,rfl,h33⟩:= popI_some (S:=S) h32
 obtain ⟨a34,c34,rfl,h34⟩:= popI_some (S:=S) h33
 obtain ⟨a35,c35,rfl,h35⟩:= popI_some (S:=S) h34
 obtain ⟨a36,c36,rfl,h36⟩:= popI_some (S:=S) h35
 obtain ⟨a37,c37,rfl,h37⟩:= popI_some (S:=S) h36
 obtain ⟨a38,c38,rfl,h38⟩:= popI_some (S:=S) h37
 obtain ⟨a39,c39,rfl,h39⟩:= popI_some (S:=S) h38
 obtain ⟨c40,rfl,h40⟩:= popG_some (El:=El) h39
 obtain ⟨c41,rfl,h41⟩:= popG_some (El:=El) h40
 obtain ⟨c42,rfl,h42⟩:= popG_some (El:=El) h41
 obtain ⟨c43,rfl,h43⟩:= popG_some (El:=El) h42
 obtain ⟨a44,c44,rfl,h44⟩:= popI_some (S:=S) h43
 obtain ⟨a45,c45,rfl,h45⟩:= popI_some (S:=S) h44
 obtain ⟨a46,c46,rfl,h46⟩:= popI_some (S:=S) h45
 obtain ⟨a47,c47,rfl,h47⟩:= popI_some (S:=S) h46
 obtain ⟨rfl,rfl⟩:= popE_some (S:=S) h47
 exact ⟨rfl,rfl,rfl,rfl,rfl⟩
def exCDC (r1 r2:List Control) (r3 r4:List Law28applied) (cs:List (AV El)): Option Law28exchange:=popI .i64 cs fun a0 c0=>popI .i64 c0 fun a1 c1=>popI .i64 c1 fun a2 c2=>popX 28 c2 fun a3 c3=>popI .i64 c3 fun a4 c4=>popI .i64 c4 fun a5 c5=>popX 59 c5 fun a6 c6=>popB c6 fun a7 c7=>popI .u64 c7 fun a8 c8=>popI .u64 c8 fun a9 c9=>popB c9 fun a10 c10=>popB c10 fun a11 c11=>popI .i64 c11 fun a12 c12=>popI .i64 c12 fun a13 c13=>popI .i64 c13 fun a14 c14=>popI .u64 c14 fun a15 c15=>popI .u64 c15 fun a16 c16=>popI .u64 c16 fun a17 c17=>popI .i64 c17 fun a18 c18=>popI .i64 c18 fun a19 c19=>popI .i64 c19 fun a20 c20=>popI .i64 c20 fun a21 c21=>popI .i64 c21 fun a22 c22=>popX 28 c22 fun a23 c23=>popI .i64 c23 fun a24 c24=>popI .i64 c24 fun a25 c25=>popX 59 c25 fun a26 c26=>popB c26 fun a27 c27=>popI .u64 c27 fun a28 c28=>popI .u64 c28 fun a29 c29=>popB c29 fun a30 c30=>popB c30 fun a31 c31=>popI .i64 c31 fun a32 c32=>popI .i64 c32 fun a33 c33=>popI .i64 c33 fun a34 c34=>popI .u64 c34 fun a35 c35=>popI .u64 c35 fun a36 c36=>popI .u64 c36 fun a37 c37=>popI .i64 c37 fun a38 c38=>popI .i64 c38 fun a39 c39=>popG 4 c39 fun c40=>popG 5 c40 fun c41=>popG 6 c41 fun c42=>popG 7 c42 fun c43=>popI .i64 c43 fun a44 c44=>popI .i64 c44 fun a45 c45=>popI .u16 c45 fun a46 c46=>popI .i64 c46 fun a47 c47=>popE c47 ⟨⟨a0,a1,a2,a3,a4,a5,a6,a7,a8,a9,a10,a11,a12,a13,a14,a15,a16,a17,a18,a19⟩,⟨a20,a21,a22,a23,a24,a25,a26,a27,a28,a29,a30,a31,a32,a33,a34,a35,a36,a37,a38,a39⟩,r1,r2,r3,r4,a44,a45,a46,a47⟩
theorem exCDC_ok (r1 r2:List Control) (r3 r4:List Law28applied) {cs:List (AV El)} {x:Law28exchange} (h:exCDC r1 r2 r3 r4 cs=some x): cs=exCC x∧x.queues_0=r1∧x.queues_1=r2∧x.done_0=r3∧x.done_1=r4:=by
 unfold exCDC at h
 obtain ⟨a0,c0,rfl,h0⟩:= popI_some (S:=S) h
 obtain ⟨a1,c1,rfl,h1⟩:= popI_some (S:=S) h0
 obtain ⟨a2,c2,rfl,h2⟩:= popI_some (S:=S) h1
 obtain ⟨a3,c3,rfl,h3⟩:= popX_some h2
 obtain ⟨a4,c4,rfl,h4⟩:= popI_some (S:=S) h3
 obtain ⟨a5,c5,rfl,h5⟩:= popI_some (S:=S) h4
 obtain ⟨a6,c6,rfl,h6⟩:= popX_some h5
 obtain ⟨a7,c7,rfl,h7⟩:= popB_some (S:=S) h6
 obtain ⟨a8,c8,rfl,h8⟩:= popI_some (S:=S) h7
 obtain ⟨a9,c9,rfl,h9⟩:= popI_some (S:=S) h8
 obtain ⟨a10,c10,rfl,h10⟩:= popB_some (S:=S) h9
 obtain ⟨a11,c11,rfl,h11⟩:= popB_some (S:=S) h10
 obtain ⟨a12,c12,rfl,h12⟩:= popI_some (S:=S) h11
 obtain ⟨a13,c13,rfl,h13⟩:= popI_some (S:=S) h12
 obtain ⟨a14,c14,rfl,h14⟩:= popI_some (S:=S) h13
 obtain ⟨a15,c15,rfl,h15⟩:= popI_some (S:=S) h14
 obtain ⟨a16,c16,rfl,h16⟩:= popI_some (S:=S) h15
 obtain ⟨a17,c17,rfl,h17⟩:= popI_some (S:=S) h16
 obtain ⟨a18,c18,rfl,h18⟩:= popI_some (S:=S) h17
 obtain ⟨a19,c19,rfl,h19⟩:= popI_some (S:=S) h18
 obtain ⟨a20,c20,rfl,h20⟩:= popI_some (S:=S) h19
 obtain ⟨a21,c21,rfl,h21⟩:= popI_some (S:=S) h20
 obtain ⟨a22,c22,rfl,h22⟩:= popI_some (S:=S) h21
 obtain ⟨a23,c23,rfl,h23⟩:= popX_some h22
 obtain ⟨a24,c24,rfl,h24⟩:= popI_some (S:=S) h23
 obtain ⟨a25,c25,rfl,h25⟩:= popI_some (S:=S) h24
 obtain ⟨a26,c26,rfl,h26⟩:= popX_some h25
 obtain ⟨a27,c27,rfl,h27⟩:= popB_some (S:=S) h26
 obtain ⟨a28,c28,rfl,h28⟩:= popI_some (S:=S) h27
 obtain ⟨a29,c29,rfl,h29⟩:= popI_some (S:=S) h28
 obtain ⟨a30,c30,rfl,h30⟩:= popB_some (S:=S) h29
 obtain ⟨a31,c31,rfl,h31⟩:= popB_some (S:=S) h30
 obtain ⟨a32,c32,rfl,h32⟩:= popI_some (S:=S) h31
 obtain ⟨a33,c33,rfl,h33⟩:= popI_some (S:=S) h32
 obtain ⟨a34,c34,rfl,h34⟩:= popI_some (S:=S) h33
 obtain ⟨a35,c35,rfl,h35⟩:= popI_some (S:=S) h34
 obtain ⟨a36,c36,rfl,h36⟩:= popI_some (S:=S) h35
 obtain ⟨a37,c37,rfl,h37⟩:= popI_some (S:=S) h36
 obtain ⟨a38,c38,rfl,h38⟩:= popI_some (S:=S) h37
 obtain ⟨a39,c39,rfl,h39⟩:= popI_some (S:=S) h38
 obtain ⟨c40,rfl,h40⟩:= popG_some (El:=El) h39
 obtain ⟨c41,rfl,h41⟩:= popG_some (El:=El) h40
 obtain ⟨c42,rfl,h42⟩:= popG_some (El:=El) h41
 obtain ⟨c43,rfl,h43⟩:= popG_some (El:=El) h42
 obtain ⟨a44,c44,rfl,h44⟩:= popI_some (S:=S) h43
 obtain ⟨a45,c45,rfl,h45⟩:= popI_some (S:=S) h44
 obtain ⟨a46,c46,rfl,h46⟩:= popI_some (S:=S) h45
 obtain ⟨a47,c47,rfl,h47⟩:= popI_some (S:=S) h46
 obtain ⟨rfl,rfl⟩:= popE_some (S:=S) h47
 exact ⟨rfl,rfl,rfl,rfl,rfl⟩
def exDA (H:List (AObj El)): Option (Law28Talk×Law28exchange):= match H with
 | [.cells tc, .cells cs,o1,o2,o3,o4]=> rowX 28 o1 fun r1=>rowX 28 o2 fun r2=>rowX 78 o3 fun r3=>rowX 78 o4 fun r4=>match tkD tc,exCDA r1 r2 r3 r4 cs with
  | some ft,some e=>some (ft,e)
  | _,_=>none
 | _=>none
theorem exDA_ok {H:List (AObj El)} {x:Law28Talk×Law28exchange} (h:exDA H=some x): H=exHA x.1 x.2:=by
 unfold exDA at h
 split at h
 case h_2=>cases h
 obtain ⟨r1,rfl,g1⟩:= rowX_some h
 obtain ⟨r2,rfl,g2⟩:= rowX_some g1
 obtain ⟨r3,rfl,g3⟩:= rowX_some g2
 obtain ⟨r4,rfl,g4⟩:= rowX_some g3
 split at g4
 case h_2=>cases g4
 cases g4
 rename_i q1 q2
 have e1:=tkD_ok q1
 obtain ⟨e2,rfl,rfl,rfl,rfl⟩:= exCDA_ok _ _ _ _ q2
 subst e1;subst e2
 rfl
def exDC (H:List (AObj El)): Option (Law28Talk×Law28Talk×Control×Law28exchange):= match H with
 | [.cells tc, .cells cs, .cells t2, .cells cc,o1,o2,o3,o4]=> rowX 28 o1 fun r1=>rowX 28 o2 fun r2=>rowX 78 o3 fun r3=>rowX 78 o4 fun r4=>match tkD tc,exCDC r1 r2 r3 r4 cs,tkD t2,ctD cc with
  | some ft,some e,some f2,some c=>some (ft,f2,c,e)
  | _,_,_,_=>none
 | _=>none
theorem exDC_ok {H:List (AObj El)} {x:Law28Talk×Law28Talk×Control×Law28exchange} (h:exDC H=some x): H=exHC x.1 x.2.1 x.2.2.1 x.2.2.2:=by
 unfold exDC at h
 split at h
 case h_2=>cases h
 obtain ⟨r1,rfl,g1⟩:= rowX_some h
 obtain ⟨r2,rfl,g2⟩:= rowX_some g1
 obtain ⟨r3,rfl,g3⟩:= rowX_some g2
 obtain ⟨r4,rfl,g4⟩:= rowX_some g3
 split at g4
 case h_2=>cases g4
 cases g4
 rename_i q1 q2 q3 q4
 have e1:=tkD_ok q1
 obtain ⟨e2,rfl,rfl,rfl,rfl⟩:= exCDC_ok _ _ _ _ q2
 have e3:=tkD_ok q3
 have e4:=ctD_ok q4
 subst e1;subst e2;subst e3;subst e4
 rfl
def slX (t:TypeId) (x:AV El) (f:List (El t)→Prop): Prop :=
 match x with
 | .sl u xs false=>if h:u=t then f (h ▸ xs) else False
 | _=>False
theorem slX_some {t:TypeId} {x:AV El} {f:List (El t)→Prop} (h:slX t x f): ∃xs,x = .sl t xs false∧f xs:=by
 unfold slX at h
 split at h
 ·split at h
  ·rename_i hu
   subst hu
   exact ⟨_,rfl,h⟩
  ·exact h.elim
 ·exact h.elim
def putRA:RL El:=fun args H K=>match args,exDA H with
 | [.ref 1 0, .v (.int .i64 k),x],some y=>slX 28 x fun l=>cond (k==0) (Ob (putA0.hyp y.2 l)∧K (.tup []) (exHA y.1 (putA0F y.2 l))) (cond (k==1) (Ob (putA1.hyp y.2 l)∧K (.tup []) (exHA y.1 (putA1F y.2 l))) False)
 | _,_=>False
theorem putRA_ok (args:List (AV El)) (H:List (AObj El)) (K:AV El→List (AObj El)→Prop) (h:putRA args H K): evFun (mkCxW Try.prog S tab_procDue 0 2 [57,56,58]) 3 57 args H K:=by
 unfold putRA at h
 split at h
 case h_2=>exact h.elim
 rename_i k x y he
 have:=exDA_ok he
 subst this
 obtain ⟨l,rfl,q⟩:= slX_some h
 cases h0:(k==0) with
 | true =>
  rw [h0,cond_true] at q
  have:=eq_of_beq h0
  subst this
  exact putA0.ok y.1 y.2 l q.1.out K q.2
 | false =>
 rw [h0,cond_false] at q
 cases h1:(k==1) with
 | true =>
  rw [h1,cond_true] at q
  have:=eq_of_beq h1
  subst this
  exact putA1.ok y.1 y.2 l q.1.out K q.2
 | false=>rw [h1,cond_false] at q;exact q.elim
def putRC:RL El:=fun args H K=>match args,exDC H with
 | [.ref 1 0, .v (.int .i64 k),x],some y=>slX 28 x fun l=>cond (k==0) (Ob (putC0.hyp y.2.2.2 l)∧K (.tup []) (exHC y.1 y.2.1 y.2.2.1 (putC0F y.2.2.2 l))) (cond (k==1) (Ob (putC1.hyp y.2.2.2 l)∧K (.tup []) (exHC y.1 y.2.1 y.2.2.1 (putC1F y.2.2.2 l))) False)
 | _,_=>False
theorem putRC_ok (args:List (AV El)) (H:List (AObj El)) (K:AV El→List (AObj El)→Prop) (h:putRC args H K): evFun (mkCxW Try.prog S tab_procDue 0 4 [57,56,58]) 3 57 args H K:=by
 unfold putRC at h
 split at h
 case h_2=>exact h.elim
 rename_i k x y he
 have:=exDC_ok he
 subst this
 obtain ⟨l,rfl,q⟩:= slX_some h
 cases h0:(k==0) with
 | true =>
  rw [h0,cond_true] at q
  have:=eq_of_beq h0
  subst this
  exact putC0.ok y.1 y.2.1 y.2.2.1 y.2.2.2 l q.1.out K q.2
 | false =>
 rw [h0,cond_false] at q
 cases h1:(k==1) with
 | true =>
  rw [h1,cond_true] at q
  have:=eq_of_beq h1
  subst this
  exact putC1.ok y.1 y.2.1 y.2.2.1 y.2.2.2 l q.1.out K q.2
 | false=>rw [h1,cond_false] at q;exact q.elim
end Go.Aw.W
