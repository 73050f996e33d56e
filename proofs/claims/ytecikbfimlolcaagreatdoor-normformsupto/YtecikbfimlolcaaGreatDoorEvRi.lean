/- The contracts put together: the reference's side. The contracts put together: norm's side, and NormForms. build of no nodes; build over Safe lists; NormForms put together. NormForms with awake looked up. NormForms as a call of the model. NormForms as a call of the model, in its seat: only the memory's premises are left. A query of the caller's: what the row says of it, as the evaluator sees it. -/
import Derived.Test.YtecikbfimlolcaaGreatDoorEvRhd
import Derived.Test.YtecikbfimlolcaaGreatDoorEvRb
import Derived.Test.YtecikbfimlolcaaGreatDoorEvRc
import Derived.Test.YtecikbfimlolcaaGreatDoorEvRd
import Derived.Test.YtecikbfimlolcaaGreatDoorEvRe
import Derived.Test.YtecikbfimlolcaaGreatDoorEvNf
import Derived.Test.YtecikbfimlolcaaGreatDoorEvQb
import Derived.Test.YtecikbfimlolcaaGreatDoorEvF
import Derived.Test.YtecikbfimlolcaaGreatDoorEvG
import Derived.Test.YtecikbfimlolcaaGreatDoorEvGl
import Derived.Test.YtecikbfimlolcaaGreatDoorEvRga
import Derived.Test.YtecikbfimlolcaaGreatDoorRows
set_option maxRecDepth 100000
set_option linter.unusedSimpArgs false
set_option linter.unusedVariables false
namespace Go.Proofs
open Go Go.Ev Go.Nm
noncomputable abbrev C (d:Nat):Ae:=cD PP T27 d
theorem tN {g:FuncId} (q:T27 g=fun _=>none:=by simp [T1,T2,T3,T4,T5,T6,T7,T8,T9,T10,T11,T12,T13,T14,T15,T16,T17,T18,T19,T20,T21,T22,T23,T24,T25,T26,T27,A1]):T27 g=fun _=>none:=q
theorem up {g:FuncId} {args:List AV} {h:H} {Q:AV->H->Prop} {q:Bool} {d:Nat} (hT:T27 g=fun _=>none) (hc:Sx.Af h Q (An PP (C d) 1048576 q g args h)):Sx.Af h Q ((C (d+1)).call g args h):=by
 rw [cdN hT]
 exact gives_callF hc
theorem pr {d k:Nat} (h:k+1<=d):∃ e,d=e+1/\k<=e:=⟨d - 1,by omega,by omega⟩
theorem c72 (d:Nat) (hd:1<=d):R72 (C d):=by
 obtain ⟨e,rfl,he⟩:=pr hd
 exact fun n v h h1 h2=>up tN (r72 _ _ n v h h1 h2)
theorem c73 (d:Nat) (hd:1<=d):R73 (C d):=by
 obtain ⟨e,rfl,he⟩:=pr hd
 exact fun n h=>up tN (r73 _ _ n h)
theorem c230 (d:Nat) (hd:1<=d):R230 (C d):=by
 obtain ⟨e,rfl,he⟩:=pr hd
 exact fun t w h h1=>up tN (r230 _ _ t w h h1)
theorem c119 (d:Nat) (hd:1<=d):R119 (C d):=by
 obtain ⟨e,rfl,he⟩:=pr hd
 exact fun op h=>up tN (r119 _ _ op h)
theorem c120 (d:Nat) (hd:1<=d):R120 (C d):=by
 obtain ⟨e,rfl,he⟩:=pr hd
 exact fun l v i x h h1 h2 h3=>up tN (r120 _ _ l v i x h h1 h2 h3)
theorem c34 (d:Nat) (hd:2<=d):R34 (C d):=by
 obtain ⟨e,rfl,he⟩:=pr hd
 exact fun b h=>up tN (r34 _ _ (c72 e he) (c73 e he) b h)
theorem c231 (d:Nat) (hd:2<=d):R231 (C d):=by
 obtain ⟨e,rfl,he⟩:=pr hd
 exact fun n h h1 h2=>up tN (r231 _ _ (c72 e he) (c73 e he) n h h1 h2)
theorem c232 (d:Nat) (hd:2<=d):R232 (C d):=by
 obtain ⟨e,rfl,he⟩:=pr hd
 exact fun t w n h h1=>up tN (r232 _ _ (c230 e he) t w n h h1)
theorem kid_size {t a:Tr} (h:a∈kids t):size a+1<=size t:=by
 cases t with
 |leaf x=>cases h
 |one o b=>rcases List.mem_singleton.1 h with rfl;exact Nat.le_refl _
 |two o b c=>
  simp only [kids,List.mem_cons,List.not_mem_nil,or_false] at h
  rcases h with rfl|rfl<;>simp only [size]<;>omega
 |three d b c=>
  simp only [kids,List.mem_cons,List.not_mem_nil,or_false] at h
  rcases h with rfl|rfl|rfl<;>simp only [size]<;>omega
theorem c35:∀ (n:Nat) (t:Tr) (d:Nat),size t<=n->size t<=d->size t<=1000->R35 (C d) t
 |0,t,d,h,_,_=>by have:=size_pos t;omega
 |n+1,t,d,h,hd,ht=>by
  have:=size_pos t
  obtain ⟨e,rfl,he⟩:=pr (show 0+1<=d by omega)
  exact fun w h1 h2=>up tN (r35 _ _ t ht (by decide) (fun a ha=>by
   have:=kid_size ha
   exact c35 n a e (by omega) (by omega) (by omega)) w h1 h2)
theorem c35s (d:Nat) (hd:1000<=d):R35s (C d):=fun t ht=>c35 1000 t d ht (by omega) ht
theorem c264 (d:Nat) (hd:1001<=d):R264 (C d):=by
 obtain ⟨e,rfl,he⟩:=pr hd
 exact fun a b wa wb h h1 h2 h3 h4=>up tN (r264 _ _ (c35s e he) (by decide) a b wa wb h h1 h2 h3 h4)
theorem c233 (d:Nat) (hd:1002<=d):R233 (C d):=by
 obtain ⟨e,rfl,he⟩:=pr hd
 exact fun a b wa wb h h1 h2 h3 h4=>up tN (r233 _ _ (c264 e he) a b wa wb h h1 h2 h3 h4)
theorem c234 (d:Nat) (hd:1002<=d):R234 (C d):=by
 obtain ⟨e,rfl,he⟩:=pr hd
 exact fun n a b wa wb h h0 h1 h2 h3 h4=>up tN (r234 _ _ (c264 e he) (c72 e (by omega)) n a b wa wb h h0 h1 h2 h3 h4)
theorem c180 (d:Nat) (hd:3<=d):R180 (C d):=by
 obtain ⟨e,rfl,he⟩:=pr hd
 exact fun a wa h h1=>up tN (r180 _ _ (c72 e (by omega)) (c230 e (by omega)) (c231 e (by omega)) a wa h h1)
theorem c179 (d:Nat) (hd:1010<=d):R179 (C d):=by
 obtain ⟨e,rfl,he⟩:=pr hd
 exact fun n a b wa wb h h0 h1 h2 h3 h4=>up tN (r179 _ _ (c72 e (by omega)) (c73 e (by omega)) (c180 e (by omega)) (c230 e (by omega)) (c231 e (by omega)) (c232 e (by omega)) (c233 e (by omega)) (c234 e (by omega)) n a b wa wb h h0 h1 h2 h3 h4)
theorem c181 (d:Nat) (hd:1010<=d):R181 (C d):=by
 obtain ⟨e,rfl,he⟩:=pr hd
 exact fun c a b wc wa wb h h0 h1 h2 h3 h4 h5=>up tN (r181 _ _ (c34 e (by omega)) (c72 e (by omega)) (c233 e (by omega)) c a b wc wa wb h h0 h1 h2 h3 h4 h5)
theorem c182 (d:Nat) (hd:1010<=d):R182 (C d):=by
 obtain ⟨e,rfl,he⟩:=pr hd
 exact fun n k a b wa wb h h0 h1 h2 h3 h4=>up tN (r182 _ _ (c34 e (by omega)) (c233 e (by omega)) (c234 e (by omega)) n k a b wa wb h h0 h1 h2 h3 h4)
theorem c184a (d:Nat) (hd:1010<=d):R184a (C d):=by
 obtain ⟨e,rfl,he⟩:=pr hd
 exact fun n a b wa wb h h0 h1 h2 h3 h4=>up tN (r184a _ _ (c34 e (by omega)) (c72 e (by omega)) (c230 e (by omega)) (c233 e (by omega)) (c234 e (by omega)) n a b wa wb h h0 h1 h2 h3 h4)
theorem c184 (d:Nat) (hd:1011<=d):R184 (C d):=by
 obtain ⟨e,rfl,he⟩:=pr hd
 intro n a b wa wb h h0 h1 h2 h3 h4
 by_cases hn:n=13\/n=14
 . exact up tN (r184b _ _ (c184a e he) n a b wa wb h hn h1 h2 h3 h4)
 . have e1:F3 n a b=Cm n a b:=by unfold F3;rw [if_neg (by omega),if_neg (by omega)]
   rw [e1]
   exact c184a (e+1) (by omega) n a b wa wb h (by omega) h1 h2 h3 h4
theorem c183 (d:Nat) (hd:1010<=d):R183 (C d):=by
 obtain ⟨e,rfl,he⟩:=pr hd
 exact fun a wa h h1 h2=>up tN (r183 _ _ (c34 e (by omega)) (c72 e (by omega)) (c233 e (by omega)) a wa h h1 h2)
theorem c121_1 (d:Nat) (hd:1020<=d):R121_1 (C d):=by
 obtain ⟨e,rfl,he⟩:=pr hd
 exact fun n a v wa b p h h0 h1 h2 h3=>up tN (r121_1 _ _ (c180 e (by omega)) (c183 e (by omega)) n a v wa b p h h0 h1 h2 h3)
theorem c121_2 (d:Nat) (hd:1020<=d):R121_2 (C d):=by
 obtain ⟨e,rfl,he⟩:=pr hd
 exact fun n a c v wa wc b p b2 p2 h h0 h1 h2 h3 h4 h5 h6=>up tN (r121_2 _ _ (c179 e (by omega)) (c182 e (by omega)) (c184 e (by omega)) n a c v wa wc b p b2 p2 h h0 h1 h2 h3 h4 h5 h6)
theorem c121_3 (d:Nat) (hd:1020<=d):R121_3 (C d):=by
 obtain ⟨e,rfl,he⟩:=pr hd
 exact fun a c t v wa wc wd b p b2 p2 b3 p3 h h1 h2 h3 h4 h5 h6 h7 h8 h9=>up tN (r121_3 _ _ (c181 e (by omega)) a c t v wa wc wd b p b2 p2 b3 p3 h h1 h2 h3 h4 h5 h6 h7 h8 h9)
theorem c71:∀ (n:Nat) (t:Tr) (d:Nat),size t<=n->size t+1020<=d->size t<=1000->R71 (C d) t
 |0,t,d,h,_,_=>by have:=size_pos t;omega
 |n+1,t,d,h,hd,ht=>by
  have:=size_pos t
  obtain ⟨e,rfl,he⟩:=pr (show 1020+1<=d by omega)
  exact fun w h1 h2=>up tN (r71 _ _ (c121_1 e (by omega)) (c121_2 e (by omega)) (c121_3 e (by omega)) (by decide) normalR_size t ht (fun a ha=>by
   have:=kid_size ha
   exact c71 n a e (by omega) (by omega) (by omega)) w h1 h2)
theorem c71s (d:Nat) (hd:1220<=d):R71s (C d):=fun t ht=>c71 200 t d ht (by omega) (by omega)
theorem c70 (d:Nat) (hd:2<=d):R70 (C d):=by
 obtain ⟨e,rfl,he⟩:=pr hd
 exact fun c l v h h1 h2=>up tN (r70 _ _ (c119 e he) (c120 e he) c l v h h1 h2 (by decide))
theorem c32 (d:Nat) (hd:1221<=d):R32 (C d):=by
 obtain ⟨e,rfl,he⟩:=pr hd
 exact fun c l v h h1 h2=>up tN (r32 _ _ (c70 e (by omega)) (c71s e he) (c35s e (by omega)) (fun l c t hb=>(build_law hb).1) normalR_size c l v h h1 h2)
theorem c33 (d:Nat) (hd:1<=d):R33 (C d):=by
 obtain ⟨e,rfl,he⟩:=pr hd
 exact fun l m v w h h1 h2 h3 h4=>up tN (r33 _ _ (by decide) l m v w h h1 h2 h3 h4)
theorem c36 (d:Nat) (hd:1<=d):R36 (C d):=by
 obtain ⟨e,rfl,he⟩:=pr hd
 exact fun l m v w h h1 h2 h3 h4=>up tN (r36 _ _ (by decide) l m v w h h1 h2 h3 h4)
theorem c22 (d:Nat) (hd:1<=d):R22 (C d):=by
 obtain ⟨e,rfl,he⟩:=pr hd
 exact fun l v h h1 h2=>up tN (r22 _ _ l v h h1 h2)
theorem c25 (d:Nat) (hd:1<=d):R25 (C d):=by
 obtain ⟨e,rfl,he⟩:=pr hd
 exact fun l v h h1 h2=>up tN (r25 _ _ l v h h1 h2)
theorem c26 (d:Nat) (hd:1<=d):R26 (C d):=by
 obtain ⟨e,rfl,he⟩:=pr hd
 exact fun l v h h1 h2=>up tN (r26 _ _ l v h h1 h2)
theorem c27 (d:Nat) (hd:1<=d):R27 (C d):=by
 obtain ⟨e,rfl,he⟩:=pr hd
 exact fun l v h h1 h2=>up tN (r27 _ _ l v h h1 h2)
theorem c23 (d:Nat) (hd:1<=d):R23 (C d):=by
 obtain ⟨e,rfl,he⟩:=pr hd
 exact fun q vc vo vm h h1=>up tN (r23 _ _ q vc vo vm h h1)
theorem c9 (d:Nat) (hd:2<=d):R9 (C d):=by
 obtain ⟨e,rfl,he⟩:=pr hd
 exact fun q vc vo vm h h1 h2 h3 h4=>up tN (r9 _ _ (c22 e he) (c25 e he) q vc vo vm h h1 h2 h3 h4)
theorem c12 (d:Nat) (hd:2<=d):R12 (C d):=by
 obtain ⟨e,rfl,he⟩:=pr hd
 exact fun q vc vo vm wc wo wm h h1 h2 h3 h4 h5=>up tN (r12 _ _ (c33 e he) (c36 e he) q vc vo vm wc wo wm h h1 h2 h3 h4 h5)
theorem c7 (d:Nat) (hd:2<=d):R7t (C d):=by
 obtain ⟨e,rfl,he⟩:=pr hd
 exact fun q vc vo vm h h1 h2 h3 h4=>up tN (r7 _ _ (c22 e he) (c23 e he) (by decide) q vc vo vm h h1 h2 h3 h4)
theorem c11 (d:Nat) (hd:1222<=d):R11 (C d):=by
 obtain ⟨e,rfl,he⟩:=pr hd
 exact fun q vc vo vm h h1 h2 h3 h4=>up tN (r11 _ _ (c9 e (by omega)) (c32 e he) (c33 e (by omega)) (c34 e (by omega)) (c35s e (by omega)) normL_len q vc vo vm h h1 h2 h3 h4)
end Go.Proofs
namespace Go.Proofs
open Go Go.Ev Go.Nm
theorem wf_reg:∀ t:Tr,Reg t->Wf t
 |.leaf x,h=>trivial
 |.one o a,h=>wf_reg a h.2
 |.two o a b,h=>⟨by have:=h.1;omega,wf_reg a h.2.1,wf_reg b h.2.2⟩
 |.three c a b,h=>⟨wf_reg c h.1,wf_reg a h.2.1,wf_reg b h.2.2⟩
theorem tS {g:FuncId} {S:List AV->Option AV} (q:T27 g=S:=by simp [T1,T2,T3,T4,T5,T6,T7,T8,T9,T10,T11,T12,T13,T14,T15,T16,T17,T18,T19,T20,T21,T22,T23,T24,T25,T26,T27,A1]):T27 g=S:=q
theorem k29 (d:Nat):N29 (C (d+1)):=fun t h hr hs=>cdS (S:=S29) tS (B7 inj_rep (a:=t) (dom:=fun t=>Wf t/\size t<=1000) ⟨wf_reg t hr,by omega⟩) h
theorem k31 (d:Nat):N31 (C (d+1)):=fun h=>h31 (T:=T27) tS true h
theorem k30 (d:Nat):N30 (C (d+1)):=fun a b h ha hb=>h30 (T:=T27) tS a b h ha hb
theorem gets_callF' [Lim] {ctx:Ae} {q:Bool} {g:FuncId} {args:List AV} {h h0:H} {n:Nat} {Q:AV->H->Prop} (hc:Sx.B3 n h0 Q (An PP ctx 1048576 q g args h)):Sx.B3 n h0 Q (Fc PP ctx g args h):=by
 obtain ⟨v,h',h1,h2,h3⟩:=hc
 exact ⟨v,h',callX_callF (Nat.le_refl _) h1,h2,h3⟩
theorem k64 (d:Nat):H64 (C (d+1)):=fun t h=>cdS (S:=S64) tS (B7 inj_rep (a:=t) (dom:=fun _=>True) trivial) h
theorem k173 [Lim] (d:Nat):H173 (C (d+1)):=fun h v ts h1 h2 h3 h4=>by
 rw [cdN (T:=T27) tS]
 exact gets_callF (n173 _ 1048576 h v ts h1 h2 h3 h4)
theorem k108 [Lim] (d:Nat):H108 (C (d+2)):=by
 intro h0 h bp m st ts w h1 h2 h3 h4 h5 h6 h7
 rw [cdN (T:=T27) tS]
 have a1:st.length<=50000:=by omega
 have a2:ts.length<=50000:=by omega
 have a3:ts.length+1<=1048576:=by omega
 have hc:=n108 (h0:=h0) (h:=h) (bp:=bp) (m:=m) (st:=st) (ts:=ts) (w:=w) (C (d+1)) 1048576 (k64 d) (k173 d) h1 h2 h3 h4 h5 a1 a2 a3
 exact gets_callF' hc
theorem n63F [Lim] {ctx:Ae} (h108:H108 ctx):∀ {h0 h:H} {bp m:Nat} {st:List Tr} {x:Nd},Eo h0.nx h bp st->Sx.Ext m h0 h->h0.nx+m+20<=Bh->st.length<=40000->Sx.B3 (m+10) h0 (Added h0.nx bp (addS st x)) (Fc Tryz.prog ctx 63 [.ptr bp 0,.agg (Bq x)] h):=
 fun {h0 h bp m st x} h1 h2 h3 h4=>by
  have hc:=n63 (h0:=h0) (h:=h) (bp:=bp) (m:=m) (st:=st) (x:=x) ctx 1048576 h108 h1 h2 h3 h4
  exact gets_callF' hc
theorem k63 [Lim] (d:Nat):H63 (C (d+3)):=by
 intro h0 h bp m st x h1 h2 h3 h4
 rw [cdN (T:=T27) tS]
 have h108:H108 (C (d+2)):=k108 d
 exact n63F (h0:=h0) (h:=h) (bp:=bp) (m:=m) (st:=st) (x:=x) h108 h1 h2 h3 h4
theorem ofGets [Lim] {n:Nat} {h:H} {Q:AV->H->Prop} {r:OR} (hg:Sx.B3 n h Q r):Sx.Af h Q r:=by
 obtain ⟨v,h',h1,h2,h3⟩:=hg
 exact ⟨v,h',h1,⟨h2.lo,h2.old,h2.lg⟩,h3⟩
theorem kNd (d:Nat) (hd:2000<=d):NNd (C d):=by
 intro t h hs
 let i:Lim:=⟨h.nx+100000⟩
 have hl:Bh=h.nx+100000:=rfl
 have hh:=hnodes (T:=T27) tS tS tS tS tS t d (by omega) h (by rw [hl];omega) (by omega)
 obtain ⟨v,h',h1,h2,h3,h4⟩:=ofGets hh
 refine ⟨v,h',h1,h2,?_,?_,h4⟩
 . rcases h3.at' with ⟨q0,q1,q2⟩|⟨b,off,cap,ex,cs,e,k,q1,q2,q3,q4,q5,q6,q7⟩
   . exact .inl ⟨q0,q1,q2⟩
   . refine .inr ⟨b,off,cap,ex,cs,q1,q2,⟨q5,e,k,q3,?_⟩,q6,q7⟩
     cases k with
     |exact=>trivial
     |Fz c=>trivial
     |fz c=>trivial
     |old c st=>cases q4
 . intro b off len cap z ex hv h0
   rcases h4 with q0|⟨b',off',cap',ex',cs,k,q1,q2,q3,q4,_⟩
   . have hp:=size_pos t
     rw [B5] at q0
     omega
   . rw [q1] at hv
     cases hv
     exact q4
end Go.Proofs
namespace Go.Proofs
open Go Go.Ev Go.Nm
attribute [local irreducible] Aa Aj Ah Ac
theorem n28nil (ctx:Ae) (n:Nat) (c:Bool) (v:AV) (h:H) (hlen:∀ hh,Ft v hh=.ok (.int .i64 0) hh):Sx.Af h (fun r _=>r=.Bl [.Bx,.bool false]) (An Tryz.prog ctx (n+1) true 28 [v,.bool c] h):=by
 rw [e28]
 repeat' (first|with_reducible (first|apply A3|apply A4|apply A5|apply A6)|(with_reducible (first|apply Cq|apply Cr|apply Cs|apply Ct);(conv=>lhs;simp (disch:=first|exact dA|fail) [lw, *]);with_reducible (first|apply A3|apply A4|apply A5|apply A6|apply Cn|(refine Co (by simp) ?_)|(apply Cp<;>intro hc<;>(try simp only [Ar] at hc)<;>(try (exfalso;omega)))))|(with_reducible (first|apply ze1|apply ze2);(conv=>lhs;simp only [zw,Bool.not_true]))|(with_reducible (first|apply Cu|apply Cv|apply Cw|apply Cx)<;>intro hc<;>(try simp only [Ar] at hc)<;>(try (exfalso;omega))))
 rw [L28x1s]
 repeat' (first|with_reducible (first|apply A3|apply A4|apply A5|apply A6)|(with_reducible (first|apply Cq|apply Cr|apply Cs|apply Ct);(conv=>lhs;simp (disch:=first|exact dA|fail) [lw, *]);with_reducible (first|apply A3|apply A4|apply A5|apply A6|apply Cn|(refine Co (by simp) ?_)|(apply Cp<;>intro hc<;>(try simp only [Ar] at hc)<;>(try (exfalso;omega)))))|(with_reducible (first|apply ze1|apply ze2);(conv=>lhs;simp only [zw,Bool.not_true]))|(with_reducible (first|apply Cu|apply Cv|apply Cw|apply Cx)<;>intro hc<;>(try simp only [Ar] at hc)<;>(try (exfalso;omega))))
 exact Sx.Cj ((Sx.Ai.refl h).new _) rfl
theorem ndAt_safe {lo:Nat} {h:H} {v:AV} {l:List Nd} (hs:FrN lo h v l) (hne:l≠[]):NdAt h v l:=by
 have hp:0<l.length:=List.length_pos_iff.2 hne
 rcases hs.sl with ⟨q0,_,_⟩|⟨b,off,cap,ex,bs,rfl,q2,q3,q4,q5⟩
 . omega
 . rcases hs.wr with q0|⟨b',off',cap',ex',cs,k,p1,p2,p3,p4,p5,p6⟩
   . omega
   . cases p1
     obtain ⟨e',k',q6,q7⟩:=q3.cells
     rw [p2] at q6
     cases q6
     refine ⟨.inr ⟨b,off,cap,ex,_,_,_,rfl,q2,p2,?_,q3.lt,q4,q5⟩⟩
     rcases p6 with rfl|⟨c,st,rfl,_⟩
     . trivial
     . trivial
theorem k28 (d:Nat) (hd:4<=d):N28 (C d):=by
 obtain ⟨e,rfl⟩:∃ e,d=e+3+1:=⟨d - 4,by omega⟩
 intro c l v h lo hs hl
 by_cases hne:l=[]
 . subst hne
   have hlen:∀ hh,Ft v hh=.ok (.int .i64 0) hh:=fun _=>hs.sl.lenL
   rw [show E7 [] c=none from rfl]
   exact up tN (n28nil _ 1048575 c v h hlen)
 . let i:Lim:=⟨h.nx+100000⟩
   have hl2:Bh=h.nx+100000:=rfl
   have h63:H63 (C (e+3)):=k63 e
   have hc:=n28 (C (e+3)) 1048576 h63 (k64 (e+2)) c l hl (by omega) (ndAt_safe hs hne) (by rw [hl2];omega)
   exact up tN (ofGets hc)
theorem c10 (d:Nat) (hd:2001<=d):R10 (C d):=by
 obtain ⟨e,rfl,he⟩:=pr hd
 obtain ⟨f,hf⟩:∃ f,e=f+1:=⟨e - 1,by omega⟩
 have a1:N29 (C e):=by rw [hf];exact k29 f
 have a2:N30 (C e):=by rw [hf];exact k30 f
 have a3:N31 (C e):=by rw [hf];exact k31 f
 exact fun q vc vo vm h h1 h2 h3 h4=>up tN (r10 _ _ (c26 e (by omega)) (c27 e (by omega)) (k28 e (by omega)) a1 a2 a3 (kNd e he) (fun l c t hb=>⟨(build_law hb).1,(build_law hb).2.1⟩) (fun t ht=>(E6 t ht).2) q vc vo vm h h1 h2 h3 h4)
theorem forms_true (ctx:Ae) (h7:R7t ctx) (h9:R9 ctx) (h10:R10 ctx) (h11:R11 ctx) (h12:R12 ctx) (q:Qr) (vc vo vm:AV) (h:H) (h8:R8 ctx h) (ht:Txt q) (hq:QV h q vc vo vm) (hl1:q.code.length<=1000000) (hl3:q.mat.length<=1000000):
 Sx.Af h (fun r _=>r=.bool true) (Fc PP ctx 3 [.agg (qc q vc vo vm)] h):=
 gives_callF (r3 ctx 1048576 (by decide) h7 h9 h10 h11 h12 query_law q vc vo vm h h8 ht hq hl1 hl3)
end Go.Proofs
namespace Go.Proofs
open Go Go.Ev Go.Nm
theorem globOk_grows {h h1:H} (g:Sx.Ai h h1):∀ (gl:List GE),(∀ e∈gl,e.g<h.nx)->Gs gl h=true->Gs gl h1=true
 |[],_,_=>rfl
 |e::gl,hlt,ho=>by
  have hg:=g.old e.g (hlt e (List.mem_cons_self ..))
  unfold Gs at ho ⊢
  rw [hg]
  revert ho
  cases h.m.get e.g with
  |cells l t k=>
   cases k with
   |exact=>
    intro ho
    dsimp only at ho ⊢
    rcases Bool.eq_false_or_eq_true (avsEq l e.l) with a1|a1
    . rw [a1] at ho ⊢
      rcases Bool.eq_false_or_eq_true (Nat.beq t e.t) with a2|a2
      . rw [a2] at ho ⊢
        exact globOk_grows g gl (fun e he=>hlt e (List.mem_cons_of_mem _ he)) ho
      . rw [a2] at ho;cases ho
    . rw [a1] at ho;cases ho
   |fz c=>intro ho;cases ho
   |Fz c=>intro ho;cases ho
   |old c st=>intro ho;cases ho
  |_=>intro ho;cases ho
def tab8:Tab:=⟨256,[⟨8,[],.bool true⟩]⟩
noncomputable abbrev C8 (gl:List GE) (d:Nat):Ae:=ctxO gl tab8 (C d)
theorem c8_other {gl:List GE} {d:Nat} {g:FuncId} (hg:Nat.beq (Nat.land 256 (Nat.pow 2 g)) 0=true) (args:List AV) (h:H):(C8 gl d).call g args h=(C d).call g args h:=by
 have e:orcTry tab8 g args=none:=by
  unfold orcTry
  rw [show tab8.mask=256 from rfl,hg]
 show (Option.rec (motive:=fun _=>OR) ((C d).call g args h) (fun v=>orcV gl v h) (orcTry tab8 g args):OR)=_
 rw [e]
theorem c8_wake {gl:List GE} {d:Nat} {h:H} (ho:Gs gl h=true):(C8 gl d).call 8 [] h=.ok (.bool true) h:=by
 have e:orcTry tab8 8 []=some (.bool true):=rfl
 show (Option.rec (motive:=fun _=>OR) ((C d).call 8 [] h) (fun v=>orcV gl v h) (orcTry tab8 8 []):OR)=_
 rw [e]
 show orcV gl (.bool true) h=_
 unfold orcV
 rw [ho]
theorem forms_run (gl:List GE) (d:Nat) (hd:2001<=d) (q:Qr) (vc vo vm:AV) (h:H) (hgl:∀ e∈gl,e.g<h.nx) (ho:Gs gl h=true) (ht:Txt q) (hq:QV h q vc vo vm) (hl1:q.code.length<=1000000) (hl3:q.mat.length<=1000000):
 Sx.Af h (fun r _=>r=.bool true) (Fc PP (C8 gl d) 3 [.agg (qc q vc vo vm)] h):=by
 refine forms_true (C8 gl d) ?_ ?_ ?_ ?_ ?_ q vc vo vm h ?_ ht hq hl1 hl3
 . intro q vc vo vm h h1 h2 h3 h4
   rw [c8_other rfl]
   exact c7 d (by omega) q vc vo vm h h1 h2 h3 h4
 . intro q vc vo vm h h1 h2 h3 h4
   rw [c8_other rfl]
   exact c9 d (by omega) q vc vo vm h h1 h2 h3 h4
 . intro q vc vo vm h h1 h2 h3 h4
   rw [c8_other rfl]
   exact c10 d (by omega) q vc vo vm h h1 h2 h3 h4
 . intro q vc vo vm h h1 h2 h3 h4
   rw [c8_other rfl]
   exact c11 d (by omega) q vc vo vm h h1 h2 h3 h4
 . intro q vc vo vm wc wo wm h h1 h2 h3 h4 h5
   rw [c8_other rfl]
   exact c12 d (by omega) q vc vo vm wc wo wm h h1 h2 h3 h4 h5
 . intro h1 g
   rw [c8_wake (globOk_grows g gl hgl ho)]
   exact Sx.Cj (Sx.Ai.refl h1) rfl
end Go.Proofs
namespace Go.Proofs
open Go Go.Ev Go.Nm
theorem bo3:Ba PP 3=true:=by kernel_rfl
theorem vrel_true {σ:Dj} {v:Value} (h:Aq σ (.bool true) v):v=.bool true:=by cases h;rfl
theorem forms_call {gl:List GE} (hmx:PP.follows .mixedOrders=true) (hp:progOk PP=true) (hok:glOk PP.globals.size gl=true) (h8:OrcOk PP gl ⟨8,[],.bool true⟩) (q:Qr) (vc vo vm:AV) {args':Array Value} {h:H} {σ:Dj} {w:World}
 (hgl:∀ e∈gl,e.g<h.nx) (ho:Gs gl h=true) (ht:Txt q) (hq:QV h q vc vo vm) (hl1:q.code.length<=1000000) (hl3:q.mat.length<=1000000)
 (hlg:h.lg=[]) (hσ:∀ b,h.nx<=b->σ b=none) (har:Bd σ [.agg (qc q vc vo vm)] args'.toList) (hms:∀ i:Lim,h.nx<=@Bh i->@Ms i PP.globals.size σ h w) (hg:GOk PP.globals.size σ):
 Calls PP 3 args' w fun e w'=>e=.returned (.bool true)/\Kept w w':=by
 have hrun:=forms_run gl 2001 (Nat.le_refl _) q vc vo vm h hgl ho ht hq hl1 hl3
 have hc:∀ i:Lim,@A7 i PP PP.globals.size (C8 gl 2001):=fun i=>ctxO_soundL (cD_sound hmx hp t27 2001) hok (fun o ho=>by
  rcases List.mem_singleton.1 ho with rfl
  exact h8)
 refine (calls_gives hmx hp hc bo3 hrun hlg hσ har hms hg).mono fun e w' hh=>?_
 obtain ⟨v,v',σ',rfl,⟨h',rfl⟩,hv,hk⟩:=hh
 rw [vrel_true hv]
 exact ⟨rfl,hk⟩
end Go.Proofs
namespace Go.Proofs
open Go Go.Ev Go.Nm
open Go.Proofs.YtecikbfimlolcaaGreatDoor (gls wake_ok mixed prog_ok gl_ok)
theorem forms_here (q:Qr) (vc vo vm:AV) {args':Array Value} {h:H} {σ:Dj} {w:World}
 (hgl:∀ e∈gls,e.g<h.nx) (ho:Gs gls h=true) (ht:Txt q) (hq:QV h q vc vo vm) (hl1:q.code.length<=1000000) (hl3:q.mat.length<=1000000)
 (hlg:h.lg=[]) (hσ:∀ b,h.nx<=b->σ b=none) (har:Bd σ [.agg (qc q vc vo vm)] args'.toList) (hms:∀ i:Lim,h.nx<=@Bh i->@Ms i PP.globals.size σ h w) (hg:GOk PP.globals.size σ):
 Calls PP 3 args' w fun e w'=>e=.returned (.bool true)/\Kept w w':=
 forms_call mixed prog_ok gl_ok wake_ok q vc vo vm hgl ho ht hq hl1 hl3 hlg hσ har hms hg
end Go.Proofs
namespace Go.Proofs
open Go Go.Ev Go.Nm
open Go.Proofs.YtecikbfimlolcaaGreatDoor (Rows.uptoBulk Rows.uptoBulkAll)
section
variable {H:Type} {enc:TypeId × Value->H} {W:World} {gl:List GE} {B:List Nat}
theorem ce3:PP.cellsOf 3=1:=by kernel_rfl
theorem ce4:PP.cellsOf 4=1:=by kernel_rfl
theorem ce9:PP.cellsOf 9=1:=by kernel_rfl
theorem ce22:PP.cellsOf 22=1:=by kernel_rfl
theorem ce23:PP.cellsOf 23=1:=by kernel_rfl
theorem ce24:PP.cellsOf 24=1:=by kernel_rfl
theorem ce26:PP.cellsOf 26=20:=by kernel_rfl
theorem ce32:PP.cellsOf 32=3:=by kernel_rfl
theorem ce33:PP.cellsOf 33=2:=by kernel_rfl
theorem bulk_two:∀ (l:List (DataW H)),(∀ d∈l,2<=Rows.uptoBulk d)->2 * l.length<=Rows.uptoBulkAll l
 |[],_=>by simp [Rows.uptoBulkAll]
 |d::l,h=>by
  have h1:=bulk_two l (fun x hx=>h x (List.mem_cons_of_mem _ hx))
  have h2:=h d (List.mem_cons_self ..)
  simp only [Rows.uptoBulkAll,List.length_cons]
  omega
theorem Bj {α:Type} {l:List α} {n:Nat} (h:l.length=n+1):∃ a l',l=a::l'/\l'.length=n:=by
 cases l with
 |nil=>cases h
 |cons a l=>exact ⟨a,l,rfl,by simpa using h⟩
theorem len_zero {α:Type} {l:List α} (h:l.length=0):l=[]:=List.length_eq_zero_iff.1 h
theorem E8 {sp:Nat->Bool} {m:Nat} {xs:List (DataW H × List MemPlace)} {fs:Array Field} {cs:List Value} (hf:∀ (i:Nat) (f:Field),fs[i]?=some f->DataW.trod enc PP W 0 sp true m f.type ((cs.drop f.offset).take (PP.cellsOf f.type))=xs[i]?)
 (i:Nat) {f:Field} (hi:fs[i]?=some f) {t:TypeId} {c:Value} {y:DataW H × List MemPlace} (ht:f.type=t) (hc:PP.cellsOf t=1) (hcs:cs[f.offset]?=some c) (hx:xs[i]?=some y):DataW.trod enc PP W 0 sp true m t [c]=some y:=by
 have h:=hf i f hi
 rw [ht,hc,hx] at h
 rw [<- h]
 congr 1
 apply List.ext_getElem?
 intro j
 rw [List.getElem?_take]
 cases j with
 |zero=>simp [hcs]
 |succ j=>simp
theorem node_in {sp:Nat->Bool} {n:Nat} {cs:List Value} {x:DataW H × List MemPlace} (h:DataW.trod enc PP W 0 sp true n 32 cs=some x):(∃ a:Nd,cs.map litV=Bq a)/\2<=Rows.uptoBulk x.1:=by
 obtain ⟨xs,m,_,rfl,hl,hxl,hf⟩:=DataW.trod_struct Tryz.underlying32 h
 rw [ce32] at hl
 match cs,hl,xs,hxl with
 |[c0,c1,c2],_,[y0,y1,y2],_=>
  have g0:=E8 hf 0 rfl rfl ce3 rfl rfl
  have g1:=E8 hf 1 rfl rfl ce3 rfl rfl
  have g2:=E8 hf 2 rfl rfl ce9 rfl rfl
  obtain ⟨n0,e0,rfl,_⟩:=DataW.trod_int Tryz.underlying3 g0
  obtain ⟨n1,e1,rfl,_⟩:=DataW.trod_int Tryz.underlying3 g1
  obtain ⟨s,e2,rfl,_⟩:=DataW.trod_string Tryz.underlying9 g2
  simp only [List.cons.injEq,and_true] at e0 e1 e2
  subst e0;subst e1;subst e2
  refine ⟨⟨⟨n0,n1,bytesOf s⟩,rfl⟩,?_⟩
  simp only [List.map_cons,List.map_nil,Rows.uptoBulk,Rows.uptoBulkAll]
  omega
theorem pair_in {sp:Nat->Bool} {n:Nat} {cs:List Value} {x:DataW H × List MemPlace} (h:DataW.trod enc PP W 0 sp true n 33 cs=some x):(∃ a:Int × Int,cs.map litV=okC a)/\2<=Rows.uptoBulk x.1:=by
 obtain ⟨xs,m,_,rfl,hl,hxl,hf⟩:=DataW.trod_array Tryz.underlying33 h
 rw [ce33] at hl
 match cs,hl,xs,hxl with
 |[c0,c1],_,[y0,y1],_=>
  have g0:=hf 0 (by omega)
  have g1:=hf 1 (by omega)
  simp only [ce3,Nat.zero_mul,Nat.one_mul,List.drop_zero,List.drop_succ_cons,List.take_succ_cons,List.take_zero,List.getElem?_cons_zero,List.getElem?_cons_succ] at g0 g1
  obtain ⟨n0,e0,rfl,_⟩:=DataW.trod_int Tryz.underlying3 g0
  obtain ⟨n1,e1,rfl,_⟩:=DataW.trod_int Tryz.underlying3 g1
  simp only [List.cons.injEq,and_true] at e0 e1
  subst e0;subst e1
  refine ⟨⟨(n0,n1),rfl⟩,?_⟩
  simp only [List.map_cons,List.map_nil,Rows.uptoBulk,Rows.uptoBulkAll]
  omega
def blkOf:Value->List Nat
 |.slice (some a) _ _=>[a.block]
 |_=>[]
def Kin (gl:List GE) (B:List Nat) (v:Value):Prop:=∀ b∈blkOf v,b∈B\/∃ e∈gl,e.g=b
theorem list_in {α:Type} {f:α->List AV} {s:Nat} {t e:TypeId} (hs:0<s) (ht:PP.underlying t=some (.slice e)) (hc:PP.cellsOf e=s)
 (hel:∀ (n:Nat) (cs:List Value) (x:DataW H × List MemPlace),DataW.trod enc PP W 0 (fun _=>true) true n e cs=some x->(∃ a:α,cs.map litV=f a)/\2<=Rows.uptoBulk x.1)
 (hw:WOk PP gl W) (hok:glOk PP.globals.size gl=true) (hB:Blocks gl W B) {fuel:Nat} {v:Value} {x:DataW H × List MemPlace} (hk:Kin gl B v) (hld:∀ a len cap,v=.slice (some a) len cap->Lead W a)
 (h:DataW.trod enc PP W 0 (fun _=>true) true fuel t [v]=some x):
 ∃ (u:AV) (l:List α),Sx.SlF s f (takeH gl W B) u l/\Aq (takeS PP.globals.size W B) u v/\2 * l.length+1<=Rows.uptoBulk x.1:=by
 rcases Deep.open_slice ht h with ⟨h1,rfl⟩|⟨a,len,cap,m,n,D,Pl,h1,_,hle,_,hm,rfl,hx⟩
 . simp only [List.cons.injEq,and_true] at h1
   subst h1
   exact ⟨.Cb,[],.inl ⟨rfl,rfl,rfl⟩,.Cb,by simp [Rows.uptoBulk]⟩
 . simp only [List.cons.injEq,and_true] at h1
   subst h1
   have hmc:m=cap:=by simpa using hm
   subst hmc
   rw [hc] at hx
   obtain ⟨l,hl,h2,h3⟩:=take_list hs hw hok hB (hld a len m rfl) (hk a.block (by simp [blkOf])) hle (fun i hi=>by
    obtain ⟨cs,q1,q2⟩:=hx i hi
    obtain ⟨⟨x,q3⟩,_⟩:=hel _ _ _ q2
    exact ⟨x,cs,q1,q3⟩)
   refine ⟨_,l,h2,h3,?_⟩
   have h4:2 * ((List.range len).map D).length<=Rows.uptoBulkAll ((List.range len).map D):=bulk_two _ (fun d hd=>by
    obtain ⟨i,hi,rfl⟩:=List.mem_map.1 hd
    obtain ⟨cs,q1,q2⟩:=hx i (by have:=List.mem_range.1 hi;omega)
    exact (hel _ _ _ q2).2)
   simp only [List.length_map,List.length_range] at h4
   simp only [Rows.uptoBulk]
   omega
theorem blen (s:ByteArray):s.data.toList.length=(bytesOf s).length:=by
 rw [Fl]
 rfl
theorem query_in (hw:WOk PP gl W) (hok:glOk PP.globals.size gl=true) {base:Nat} {v:Value} {d:DataW H} {p:List MemPlace} (hval:Value.okWide PP W .any base 26 v) (h:DataW.Trod enc PP W 0 (fun _=>true) true 26 v d p) (hs:Rows.uptoBulk d<=1048576):
 ∃ (q:Qr) (vc vo vm:AV) (B:List Nat),Blocks gl W B/\Txt q/\QV (takeH gl W B) q vc vo vm/\q.code.length<=1000000/\q.mat.length<=1000000/\Aq (takeS PP.globals.size W B) (.agg (qc q vc vo vm)) v:=by
 have hagg:∃ cs,v=.agg cs/\cs.size=PP.cellsOf 26/\Row.okWide PP W .any base 26 cs:=by
  unfold Value.okWide at hval
  rw [Tryz.underlying26] at hval
  exact hval
 obtain ⟨cs,rfl,hsz,ts,_,_,hrow⟩:=hagg
 obtain ⟨fuel,h⟩:=h
 have h':DataW.trod enc PP W 0 (fun _=>true) true fuel 26 cs.toList=some (d,p):=h
 have hlead:∀ (i:Nat) (c:Value),cs.toList[i]?=some c->∀ a len cap,c=.slice (some a) len cap->Lead W a:=by
  intro i c hi a len cap hc
  subst hc
  obtain ⟨u,_,hu⟩:=hrow i _ (by simpa using hi)
  exact okWide_leads hu
 obtain ⟨xs,m,_,hd,hl,hxl,hf⟩:=DataW.trod_struct Tryz.underlying26 h'
 have hd1:d=.agg (xs.map (·.1)):=congrArg Prod.fst hd
 subst hd1
 rw [ce26] at hl
 clear h h' hd hval hrow
 generalize hcl:cs.toList=l at hl hf hlead
 obtain ⟨c0,k1,rfl,hl1⟩:=Bj hl
 obtain ⟨c1,k2,rfl,hl2⟩:=Bj hl1
 obtain ⟨c2,k3,rfl,hl3⟩:=Bj hl2
 obtain ⟨c3,k4,rfl,hl4⟩:=Bj hl3
 obtain ⟨c4,k5,rfl,hl5⟩:=Bj hl4
 obtain ⟨c5,k6,rfl,hl6⟩:=Bj hl5
 obtain ⟨c6,k7,rfl,hl7⟩:=Bj hl6
 obtain ⟨c7,k8,rfl,hl8⟩:=Bj hl7
 obtain ⟨c8,k9,rfl,hl9⟩:=Bj hl8
 obtain ⟨c9,k10,rfl,hl10⟩:=Bj hl9
 obtain ⟨c10,k11,rfl,hl11⟩:=Bj hl10
 obtain ⟨c11,k12,rfl,hl12⟩:=Bj hl11
 obtain ⟨c12,k13,rfl,hl13⟩:=Bj hl12
 obtain ⟨c13,k14,rfl,hl14⟩:=Bj hl13
 obtain ⟨c14,k15,rfl,hl15⟩:=Bj hl14
 obtain ⟨c15,k16,rfl,hl16⟩:=Bj hl15
 obtain ⟨c16,k17,rfl,hl17⟩:=Bj hl16
 obtain ⟨c17,k18,rfl,hl18⟩:=Bj hl17
 obtain ⟨c18,k19,rfl,hl19⟩:=Bj hl18
 obtain ⟨c19,k20,rfl,hl20⟩:=Bj hl19
 obtain rfl:=len_zero hl20
 obtain ⟨y0,x1,rfl,hxl1⟩:=Bj hxl
 obtain ⟨y1,x2,rfl,hxl2⟩:=Bj hxl1
 obtain ⟨y2,x3,rfl,hxl3⟩:=Bj hxl2
 obtain ⟨y3,x4,rfl,hxl4⟩:=Bj hxl3
 obtain ⟨y4,x5,rfl,hxl5⟩:=Bj hxl4
 obtain ⟨y5,x6,rfl,hxl6⟩:=Bj hxl5
 obtain ⟨y6,x7,rfl,hxl7⟩:=Bj hxl6
 obtain ⟨y7,x8,rfl,hxl8⟩:=Bj hxl7
 obtain ⟨y8,x9,rfl,hxl9⟩:=Bj hxl8
 obtain ⟨y9,x10,rfl,hxl10⟩:=Bj hxl9
 obtain ⟨y10,x11,rfl,hxl11⟩:=Bj hxl10
 obtain ⟨y11,x12,rfl,hxl12⟩:=Bj hxl11
 obtain ⟨y12,x13,rfl,hxl13⟩:=Bj hxl12
 obtain ⟨y13,x14,rfl,hxl14⟩:=Bj hxl13
 obtain ⟨y14,x15,rfl,hxl15⟩:=Bj hxl14
 obtain ⟨y15,x16,rfl,hxl16⟩:=Bj hxl15
 obtain ⟨y16,x17,rfl,hxl17⟩:=Bj hxl16
 obtain ⟨y17,x18,rfl,hxl18⟩:=Bj hxl17
 obtain ⟨y18,x19,rfl,hxl19⟩:=Bj hxl18
 obtain ⟨y19,x20,rfl,hxl20⟩:=Bj hxl19
 obtain rfl:=len_zero hxl20
 have g0:=E8 hf 0 rfl rfl ce3 rfl rfl
 have g1:=E8 hf 1 rfl rfl ce22 rfl rfl
 have g2:=E8 hf 2 rfl rfl ce3 rfl rfl
 have g3:=E8 hf 3 rfl rfl ce3 rfl rfl
 have g4:=E8 hf 4 rfl rfl ce3 rfl rfl
 have g5:=E8 hf 5 rfl rfl ce3 rfl rfl
 have g6:=E8 hf 6 rfl rfl ce9 rfl rfl
 have g7:=E8 hf 7 rfl rfl ce3 rfl rfl
 have g8:=E8 hf 8 rfl rfl ce23 rfl rfl
 have g9:=E8 hf 9 rfl rfl ce3 rfl rfl
 have g10:=E8 hf 10 rfl rfl ce4 rfl rfl
 have g11:=E8 hf 11 rfl rfl ce9 rfl rfl
 have g12:=E8 hf 12 rfl rfl ce3 rfl rfl
 have g13:=E8 hf 13 rfl rfl ce9 rfl rfl
 have g14:=E8 hf 14 rfl rfl ce9 rfl rfl
 have g15:=E8 hf 15 rfl rfl ce9 rfl rfl
 have g16:=E8 hf 16 rfl rfl ce3 rfl rfl
 have g17:=E8 hf 17 rfl rfl ce22 rfl rfl
 have g18:=E8 hf 18 rfl rfl ce24 rfl rfl
 have g19:=E8 hf 19 rfl rfl ce3 rfl rfl
 clear hf
 obtain ⟨n0,e0,rfl,_⟩:=DataW.trod_int Tryz.underlying3 g0
 obtain ⟨n2,e2,rfl,_⟩:=DataW.trod_int Tryz.underlying3 g2
 obtain ⟨n3,e3,rfl,_⟩:=DataW.trod_int Tryz.underlying3 g3
 obtain ⟨n4,e4,rfl,_⟩:=DataW.trod_int Tryz.underlying3 g4
 obtain ⟨n5,e5,rfl,_⟩:=DataW.trod_int Tryz.underlying3 g5
 obtain ⟨s6,e6,rfl,_⟩:=DataW.trod_string Tryz.underlying9 g6
 obtain ⟨n7,e7,rfl,_⟩:=DataW.trod_int Tryz.underlying3 g7
 obtain ⟨n9,e9,rfl,_⟩:=DataW.trod_int Tryz.underlying3 g9
 obtain ⟨b10,e10,rfl⟩:=DataW.trod_bool Tryz.underlying4 g10
 obtain ⟨s11,e11,rfl,_⟩:=DataW.trod_string Tryz.underlying9 g11
 obtain ⟨n12,e12,rfl,_⟩:=DataW.trod_int Tryz.underlying3 g12
 obtain ⟨s13,e13,rfl,_⟩:=DataW.trod_string Tryz.underlying9 g13
 obtain ⟨s14,e14,rfl,_⟩:=DataW.trod_string Tryz.underlying9 g14
 obtain ⟨s15,e15,rfl,_⟩:=DataW.trod_string Tryz.underlying9 g15
 obtain ⟨n16,e16,rfl,_⟩:=DataW.trod_int Tryz.underlying3 g16
 obtain ⟨s18,e18,rfl,_⟩:=DataW.trod_string Tryz.underlying24 g18
 obtain ⟨n19,e19,rfl,_⟩:=DataW.trod_int Tryz.underlying3 g19
 simp only [List.cons.injEq,and_true] at e0 e2 e3 e4 e5 e6 e7 e9 e10 e11 e12 e13 e14 e15 e16 e18 e19
 subst e0;subst e2;subst e3;subst e4;subst e5;subst e6;subst e7;subst e9;subst e10;subst e11;subst e12;subst e13;subst e14;subst e15;subst e16;subst e18;subst e19
 let B:List Nat:=(blkOf c1++blkOf c8++blkOf c17).filter fun b=>gl.all fun e=>!(e.g == b)
 have l1:=hlead 1 c1 rfl
 have l8:=hlead 8 c8 rfl
 have l17:=hlead 17 c17 rfl
 have lb:∀ (c:Value),(∀ a len cap,c=.slice (some a) len cap->Lead W a)->∀ b∈blkOf c,∃ (arr:Array Value) (t:TypeId) (lo hi:Nat),W.heap[b]?=some (.cells arr t (lo,hi)):=by
  intro c hc b hb
  unfold blkOf at hb
  split at hb
  . rename_i a len cap
    obtain ⟨_,arr,t,lo,hi,hg,_⟩:=hc a len cap rfl
    rw [List.mem_singleton.1 hb]
    exact ⟨arr,t,lo,hi,hg⟩
  . cases hb
 have hB:Blocks gl W B:=by
  intro b hb
  obtain ⟨h1,h2⟩:=List.mem_filter.1 hb
  refine ⟨?_,fun e he hh=>?_⟩
  . rcases List.mem_append.1 h1 with h1|h1
    . rcases List.mem_append.1 h1 with h1|h1
      . exact lb c1 l1 b h1
      . exact lb c8 l8 b h1
    . exact lb c17 l17 b h1
  . have:=List.all_eq_true.1 h2 e he
    simp [hh] at this
 have hkin:∀ b,b∈blkOf c1++blkOf c8++blkOf c17->b∈B\/∃ e∈gl,e.g=b:=by
  intro b hb
  by_cases h1:∃ e∈gl,e.g=b
  . exact .inr h1
  . refine .inl (List.mem_filter.2 ⟨hb,List.all_eq_true.2 fun e he=>?_⟩)
    have h2:¬ e.g=b:=fun hh=>h1 ⟨e,he,hh⟩
    simp [h2]
 obtain ⟨vc,lc,q1,r1,t1⟩:=list_in (B:=B) (f:=Bq) (by omega) Tryz.underlying22 ce32 (fun _ _ _=>node_in) hw hok hB (fun b hb=>hkin b (by simp [hb])) l1 g1
 obtain ⟨vo,lo,q8,r8,t8⟩:=list_in (B:=B) (f:=okC) (by omega) Tryz.underlying23 ce33 (fun _ _ _=>pair_in) hw hok hB (fun b hb=>hkin b (by simp [hb])) l8 g8
 obtain ⟨vm,lm,q17,r17,t17⟩:=list_in (B:=B) (f:=Bq) (by omega) Tryz.underlying22 ce32 (fun _ _ _=>node_in) hw hok hB (fun b hb=>hkin b (by simp [hb])) l17 g17
 simp only [List.map_cons,List.map_nil,Rows.uptoBulk,Rows.uptoBulkAll,blen] at hs
 refine ⟨⟨n0,lc,n2,n3,n4,n5,bytesOf s6,n7,lo,n9,b10,bytesOf s11,n12,bytesOf s13,bytesOf s14,bytesOf s15,n16,lm,bytesOf s18,n19⟩,vc,vo,vm,B,hB,?_,⟨q1,q8,q17⟩,?_,?_,?_⟩
 . refine ⟨?_,?_,?_,?_,?_,?_⟩<;>(simp only [];omega)
 . simp only [];omega
 . simp only [];omega
 . have hL:Bd (takeS PP.globals.size W B) (qc ⟨n0,lc,n2,n3,n4,n5,bytesOf s6,n7,lo,n9,b10,bytesOf s11,n12,bytesOf s13,bytesOf s14,bytesOf s15,n16,lm,bytesOf s18,n19⟩ vc vo vm) cs.toList:=by
    rw [hcl]
    exact .cons (.int _ _) (.cons r1 (.cons (.int _ _) (.cons (.int _ _) (.cons (.int _ _) (.cons (.int _ _) (.cons (.str _) (.cons (.int _ _) (.cons r8 (.cons (.int _ _) (.cons (.bool _) (.cons (.str _) (.cons (.int _ _) (.cons (.str _) (.cons (.str _) (.cons (.str _) (.cons (.int _ _) (.cons r17 (.cons (.str _) (.cons (.int _ _) (.nil _))))))))))))))))))))
   exact .agg _ cs hL.1 hL.2
end
end Go.Proofs
