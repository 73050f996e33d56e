/- Schemas that numbers select: the functions. -/
import Derived.Test.YtecikbfimlolcaaGreatDoorEvTa
set_option linter.all false
set_option maxRecDepth 100000
noncomputable section
namespace Go.Proofs
open Go Go.Ev Go.Nm Go.Ev.Sx
attribute [local irreducible] Aa Al Af Ad
variable (ctx:Ac) (N:Nat)
theorem Fm.tg {s lo tk len:Nat} {et:TypeId} {h h1:H} {v vl:AV} {c:List AV} (ho:Fm s lo et h v len c) (ht:H8 h tk vl) (Kf:tk<lo) (e:TG tk vl h h1):Fm s lo et h1 v len c:=by
 rcases ho with h3|⟨rfl,rfl,b,off,cs,rfl,h2,h3⟩|⟨b,k,st,rfl,q2,q3,q4,q5,q6,q7,q8,q9⟩
 . exact .inl h3
 . have hs:Sl s h (.sl b off 0 0 s true) 0 []:=.inr ⟨b,off,0,true,cs,rfl,Nat.le_refl _,h2,by omega,by simp⟩
   rcases Sl.tg hs ht (λb off len cap z ex hv h0=>by cases hv;omega) e with ⟨_,_,h4⟩|⟨b',Yk,cap,ex,D7,h4,q2,q3,q4,q5⟩
   . cases h4
   . cases h4
     exact .inr (.inl ⟨rfl,rfl,b,off,D7,rfl,q3,by omega⟩)
 . exact .inr (.inr ⟨b,k,st,rfl,by rw [e.Cf b q6 om];exact q2,by rw [e.Cf k q7 om];exact q3,q4,q5,Nat.lt_of_lt_of_le q6 e.lo,Nat.lt_of_lt_of_le q7 e.lo,q8,q9⟩)
structure Cl where
 name:List Nat
 a:Int
 b:Int
 w:AV
 ws:List (List Nat)
abbrev Hx (c:Cl):List AV:=[.str c.name,.int .i64 c.a,.int .i64 c.b,c.w]
structure AbG (lo:Nat) (h:H) (c:Cl):Prop where
 Mu:c.ws.length<=5
 words:Ig h c.w c.ws
 beh:W7 1 lo c.w
 one:Ge c.w=true
 cell:cellsOf c.w=some [c.w]
theorem AbG.By {lo:Nat} {h h1:H} {c:Cl} (hc:AbG lo h c) (e:Bi h h1):AbG lo h1 c:=⟨hc.Mu,Sl.By hc.words e,hc.beh,hc.one,hc.cell⟩
theorem AbG.tg {lo tk:Nat} {h h1:H} {vl:AV} {c:Cl} (hc:AbG lo h c) (ht:H8 h tk vl) (Kf:tk<lo) (e:TG tk vl h h1):AbG lo h1 c:=
 ⟨hc.Mu,Sl.tg hc.words ht (λb off len cap z ex hv h0=>by have:=hc.beh b off len cap z ex hv h0;omega) e,hc.beh,hc.one,hc.cell⟩
structure Cls (lo:Nat) (h:H) (v:AV) (l:List Cl):Prop where
 own:Fm 4 lo 96 h v l.length (l.flatMap Hx)
 ok:∀c∈l,AbG lo h c
theorem Cls.tg {lo tk:Nat} {h h1:H} {v vl:AV} {l:List Cl} (hc:Cls lo h v l) (ht:H8 h tk vl) (Kf:tk<lo) (e:TG tk vl h h1):Cls lo h1 v l:=⟨Fm.tg hc.own ht Kf e,λc h2=>(hc.ok c h2).tg ht Kf e⟩
theorem Cls.gr {lo:Nat} {h h1:H} {v:AV} {l:List Cl} (hc:Cls lo h v l) (e:Ai h h1):Cls lo h1 v l:=⟨hc.own.gr e,λc h2=>(hc.ok c h2).By e.keeps⟩
theorem Cls.nil (lo:Nat) (h:H):Cls lo h .Bv []:=⟨Fm.nil ..,λc h2=>by cases h2⟩
theorem Al1 {c:Cl} (ho:Ge c.w=true):Bm (Hx c)=true:=by simp [ho]
theorem Atn {lo:Nat} {h:H} {v:AV} {l:List Cl} (hc:Cls lo h v l) (c:Cl) (hk:AbG lo h c) (hl:l.length<=1000) (Kf:lo<=h.nx):
 ∃v' h',Ds 96 4 56 v (.sl h.nx 0 1 1 4 true) (h.new (.cells (Hx c) 96 .exact))=.ok v' h'/\Cls lo h' v' (l++[c])/\(∀h0,h0.nx<=lo->Ai h0 h->Ai h0 h')/\(∀b,b<lo->h'.m.get b=h.m.get b):=by
 have e:Ai h (h.new (.cells (Hx c) 96 .exact)):=(Ai.refl h).new _
 have hc2:=hc.gr e
 have hs:Sl 4 (h.new (.cells (Hx c) 96 .exact)) (.sl h.nx 0 1 1 4 true) 1 (Hx c):=Sl.lit (Bf _) rfl rfl
 obtain ⟨v',h',q1,q2,q3,q4,q5⟩:=Fm.AbQ (bytes:=56) (lo:=lo) hc2.own hs.src (by rfl) om (Al1 hk.one) (by show lo<=h.nx+1;omega)
 refine ⟨v',h',q1,⟨?_,λx hx=>?_⟩,λh0 a1 a2=>q3 h0 a1 (a2.new _),λb hb=>by rw [q5 b hb];exact Cq _ b om⟩
 . rw [List.length_append,List.flatMap_append]
   simpa using q4
 . rcases List.mem_append.1 hx with hx|hx
   . exact (hc2.ok x hx).By q2
   . rw [List.mem_singleton.1 hx]
     exact (hk.By e.keeps).By q2
theorem AlQ (h82:R82 ctx) (h81:R81 ctx) {Q:AV->H->Prop} (tk:Nat) (vl:AV) (L:List Int) (h:H) (hi:H9 tk vl L h)
 (Qz:∀(n:Nat) (v:AV) (l:List Cl) (hc:H) (f:L2),l.length=5->(∀c∈l,AdD c.a c.b c.ws)->l.map Cl.name=N1->Cls h.nx hc v l->TG tk vl h hc->Ah H0 Q (AgD ctx N (n+1) (.ptr tk 0) v (.int .i64 5) f hc)):
 ∀(k i n:Nat) (l:List Cl) (v:AV) (hc:H) (f0:L2),i+k=5->k<n->l.length=i->(∀c∈l,AdD c.a c.b c.ws)->l.map Cl.name=N1.take i->Cls h.nx hc v l->TG tk vl h hc->Ah H0 Q (AgD ctx N n (.ptr tk 0) v (.int .i64 (i:Int)) f0 hc)
 |0,i,n,l,v,hc,f0,Qd,hn,hl,hcv,hnm,hv,he=>by
  obtain ⟨n1,rfl⟩:∃n1,n=n1+1:=⟨n - 1,by omega⟩
  have h5:i=5:=by omega
  subst h5
  exact Qz n1 v l hc f0 hl hcv hnm hv he
 |k+1,i,n,l,v,hc,f0,Qd,hn,hl,hcv,hnm,hv,he=>by
  obtain ⟨n1,rfl⟩:∃n1,n=n1+1:=⟨n - 1,by omega⟩
  have ht:=hi.at'
  have B6:=ht.lt
  have k1:decide ((i:Int)<5)=true:=dt
  have hC:∀(name:List Nat) (hx:H),TG tk vl h hx->D6 tk vl hx (AbH hx.nx name) (ctx.call 81 [.ptr tk 0,.str name] hx):=λname hx e=>h81 tk vl L name hx (hi.tg e)
  rw [Api]
  (repeat' (first|refine wk ?_|((with_reducible (first|apply Fj|apply zc2));exact h82 _ _;intro vv hh ee E8 Bu qq;(try simp only [C9] at E8 Bu);obtain ⟨ws,wn,wh,wb,w1,w2,wne,wcl⟩:=qq)))
  have wn5:ws.length=5:=by rw [wn];rfl
  obtain ⟨b,o,el⟩:=R0.elem (f:=Aeb) (s:=1) (λ_=>rfl) wh (List.getElem?_eq_getElem (show i<ws.length by omega))
  have x1:=el.ia
  have x2:=el.part 0 _ rfl
  rw [Nat.add_zero] at x2
  have hni:N1[i]?=some ws[i]:=by rw [<- List.getElem?_eq_getElem,wn];rfl
  generalize ws[i]=name at x2 hni
  clear wh el wn
  (repeat' (first|refine wk ?_|((with_reducible apply M5);exact hC _ _ L5;intro vv hh ee E8 Bu qq;(try simp only [C9] at E8 Bu);obtain ⟨ca,cb,cw,cws,rfl,c1,c2,c3,c4,c5⟩:=qq)))
  have eh:TG tk vl hc hh:=TG.trans (TG.gr (TG.refl (he.at B6)) (by assumption)) ee
  have Kf:=he.lo
  obtain ⟨v',h',q1,q2,q3,q4⟩:=Atn (hv.tg (he.at B6) B6 eh) ⟨name,ca,cb,cw,cws⟩ ⟨c1.Mu,c2,c3.mono om,c4,c5⟩ om om
  refine Ey q1 ?_
  refine Ey (Uc ..) ?_
  rw [Cr _ om om,show (i:Int)+1=((i+1:Nat):Int) from rfl]
  have e2:TG tk vl h h':=by
   obtain ⟨m,hm,hg⟩:=he.trans eh
   exact ⟨m,hm,q3 _ (Nat.le_refl _) hg⟩
  exact AlQ h82 h81 tk vl L h hi Qz k (i+1) n1 _ v' h' _ om om (by rw [List.length_append,hl];rfl) (λc hc=>by rcases List.mem_append.1 hc with hc|hc;exact hcv c hc;rw [List.mem_singleton.1 hc];exact c1) (by rw [List.map_append,hnm,List.take_add_one,hni];rfl) q2 e2
theorem Ahe {lo:Nat} {h:H} {v sv:AV} {l:List Cl} {c:Cl} (hc:Cls lo h v l) (hk:AbG lo h c) (hs:Sl 4 h sv 1 (Hx c)) (hl:l.length<=1000) (Kf:lo<=h.nx) (hlg:h.lg=[]):
 ∃v' h',Ds 96 4 56 v sv h=.ok v' h'/\Cls lo h' v' (l++[c])/\h.nx<=h'.nx/\(∀b,b<lo->h'.m.get b=h.m.get b)/\(∀x∈h'.lg,lo<=x):=by
 obtain ⟨v',h',q1,q2,q3,q4,q5⟩:=Fm.AbQ (bytes:=56) (lo:=lo) hc.own hs.src (by rfl) om (Al1 hk.one) Kf
 refine ⟨v',h',q1,⟨?_,λx hx=>?_⟩,?_,q5,?_⟩
 . rw [List.length_append,List.flatMap_append]
   simpa using q4
 . rcases List.mem_append.1 hx with hx|hx
   . exact (hc.ok x hx).By q2
   . rw [List.mem_singleton.1 hx]
     exact hk.By q2
 . exact (q3 ⟨h.m,lo,[]⟩ (Nat.le_refl _) ⟨Kf,λb hb=>rfl,λx hx=>by rw [hlg] at hx;cases hx⟩).lo |> λ_=>q2.lo
 . intro x hx
   rcases (q3 ⟨h.m,lo,[]⟩ (Nat.le_refl _) ⟨Kf,λb hb=>rfl,λx hx=>by rw [hlg] at hx;cases hx⟩).lg x hx with h1|h1
   . cases h1
   . exact h1
theorem Asp {tk lo:Nat} {vl:AV} {h hy h':H} (e:TG tk vl h hy) (hl:h.nx<=lo) (h1:hy.nx<=h'.nx) (h2:∀b,b<lo->h'.m.get b=hy.m.get b) (h3:∀x∈h'.lg,lo<=x):TG tk vl h h':=by
 obtain ⟨m,hm,hg⟩:=e
 refine ⟨m,hm,Nat.le_trans hg.lo h1,λb hb=>?_,λx hx=>.inr (Nat.le_trans hl (h3 x hx))⟩
 rw [h2 b (Nat.lt_of_lt_of_le hb hl)]
 exact hg.Cf b hb
theorem Cls.rl {lo:Nat} {h:H} {v:AV} {l:List Cl} {lg:List Nat} (hc:Cls lo h v l):Cls lo (Be lg h) v l:=by
 refine ⟨?_,λc h2=>(hc.ok c h2).By ((Bi.refl h).Be lg)⟩
 rcases hc.own with h3|⟨h1,h2,b,off,cs,h4,h5,h6⟩|h3
 . exact .inl h3
 . exact .inr (.inl ⟨h1,h2,b,off,cs,h4,((Bi.refl h).Be lg).cont b cs h5,h6⟩)
 . exact .inr (.inr h3)
theorem Cls.put {lo c:Nat} {h:H} {v:AV} {l:List Cl} {l0:List AV} {e1:TypeId} (hc:Cls lo h v l) (hl:l≠[]) (B6:c<lo) (hg:Vu l0.length (h.m.get c)=true):Cls lo (h.put c (.cells l0 e1 .exact)) v l:=by
 refine ⟨?_,λx h2=>⟨(hc.ok x h2).Mu,Sl.To (hc.ok x h2).words (hc.ok x h2).beh B6 hg,(hc.ok x h2).beh,(hc.ok x h2).one,(hc.ok x h2).cell⟩⟩
 rcases hc.own with ⟨h3,_⟩|⟨h3,_⟩|⟨b,k,st,h1,q2,q3,q4,q5,q6,q7,q8,q9⟩
 . exact absurd (List.length_eq_zero_iff.1 h3) hl
 . exact absurd (List.length_eq_zero_iff.1 h3) hl
 . exact .inr (.inr ⟨b,k,st,h1,by rw [Aq _ _ _ om];exact q2,by rw [Aq _ _ _ om];exact q3,q4,q5,q6,q7,q8,q9⟩)
structure Zg (lo:Nat) (h:H) (v:AV) (l:List Cl):Prop where
 sl:R0 4 Hx h v l
 beh:W7 4 lo v
 ok:∀c∈l,AbG lo h c
theorem Zg.tg {lo tk:Nat} {h h1:H} {v vl:AV} {l:List Cl} (hc:Zg lo h v l) (ht:H8 h tk vl) (Kf:tk<lo) (e:TG tk vl h h1):Zg lo h1 v l:=⟨Sl.tg hc.sl ht (λb off len cap z ex hv h0=>by have:=hc.beh b off len cap z ex hv h0;omega) e,hc.beh,λc h2=>(hc.ok c h2).tg ht Kf e⟩
theorem Zg.By {lo:Nat} {h h1:H} {v:AV} {l:List Cl} (hc:Zg lo h v l) (e:Bi h h1):Zg lo h1 v l:=⟨Sl.By hc.sl e,hc.beh,λc h2=>(hc.ok c h2).By e⟩
theorem Zg.mono {lo Z6:Nat} {h:H} {v:AV} {l:List Cl} (hc:Zg lo h v l) (e:Z6<=lo):Zg Z6 h v l:=⟨hc.sl,hc.beh.mono e,λc h2=>⟨(hc.ok c h2).Mu,(hc.ok c h2).words,(hc.ok c h2).beh.mono e,(hc.ok c h2).one,(hc.ok c h2).cell⟩⟩
theorem Cls.slice {lo:Nat} {h:H} {v:AV} {l:List Cl} (hc:Cls lo h v l):Zg lo h v l:=⟨hc.own.sl,W7.own hc.own,hc.ok⟩
def Px (c:Cl):List Nat × Int × Int × List (List Nat):=(c.name,c.a,c.b,c.ws)
def Sub (all:List Cl) (i:Nat) (A1:List Cl):Prop:=∃sub:List Cl,sub.Sublist (all.take i)/\A1.map Px=sub.map Px
theorem Sub.snoc {all A1:List Cl} {i:Int} {cl c:Cl} (h:Sub all i.toNat A1) (h0:0<=i) (hi:all[i.toNat]?=some cl) (hd:Px c=Px cl):Sub all (i+1).toNat (A1++[c]):=by
 obtain ⟨sub,h1,h2⟩:=h
 rw [show (i+1).toNat=i.toNat+1 by omega]
 refine ⟨sub++[cl],?_,by simp [h2,hd]⟩
 rw [List.take_add_one,hi]
 exact h1.append (List.Sublist.refl _)
theorem Sub.skip {all A1:List Cl} {i:Int} (h:Sub all i.toNat A1) (h0:0<=i):Sub all (i+1).toNat A1:=by
 obtain ⟨sub,h1,h2⟩:=h
 rw [show (i+1).toNat=i.toNat+1 by omega]
 refine ⟨sub,h1.trans ?_,h2⟩
 rw [List.take_add_one]
 exact List.sublist_append_left _ _
abbrev scB (nm:List Nat) (p:Bool) (m:Int) (cv:AV):AO:=.cells [.str nm,.bool p,.int .i64 m,cv] 73 .exact
theorem AlS (Fg:R38 ctx) (h83:R83 ctx) {Q:AV->H->Prop} (tk:Nat) (vl:AV) (L:List Int) (hA:H) (hi:H9 tk vl L hA) (n2 lo:Nat) (v3:AV) (all:List Cl) (Fs:Zg lo hA v3 all) (hlen:all.length=5) (htl:tk<lo) (Kf:lo<=hA.nx) (t5 t6 t7:AV) (b8:Nat) (hb:hA.nx<=b8) (nm:List Nat) (p:Bool) (m j:Int) (hj:0<=j) (hj5:j<5)
 (Qz:∀(n:Nat) (cv:AV) (A1:List Cl) (hd:H) (f:L2),A1≠[]->A1.length<=5->Sub all 5 A1->b8+1<=hd.nx->hd.m.get b8=scB nm p m cv->Cls (b8+1) hd cv A1->TG tk vl hA hd->Ah H0 Q (AgE ctx N n2 (n+1) (.ptr tk 0) v3 t5 t6 t7 (.ptr b8 0) (.int .i64 j) (.int .i64 5) f hd)):
 ∀(k:Nat) (i:Int) (n:Nat) (A1:List Cl) (cv:AV) (hd:H) (f0:L2),i+(k:Int)=5->0<=i->k<n->(A1.length:Int)<=i->(j<i->A1≠[])->Sub all i.toNat A1->b8+1<=hd.nx->hd.m.get b8=scB nm p m cv->Cls (b8+1) hd cv A1->TG tk vl hA hd->Ah H0 Q (AgE ctx N n2 n (.ptr tk 0) v3 t5 t6 t7 (.ptr b8 0) (.int .i64 j) (.int .i64 i) f0 hd)
 |0,i,n,A1,cv,hd,f0,Qd,H4,hn,Ox,Hr,hsb,hbn,hg,hcv,he=>by
  obtain ⟨n1,rfl⟩:∃n1,n=n1+1:=⟨n - 1,by omega⟩
  have h5:i=5:=by omega
  subst h5
  exact Qz n1 cv A1 hd f0 (Hr hj5) om hsb hbn hg hcv he
 |k+1,i,n,A1,cv,hd,f0,Qd,H4,hn,Ox,Hr,hsb,hbn,hg,hcv,he=>by
  obtain ⟨n1,rfl⟩:∃n1,n=n1+1:=⟨n - 1,by omega⟩
  have ih:=AlS Fg h83 tk vl L hA hi n2 lo v3 all Fs hlen htl Kf t5 t6 t7 b8 hb nm p m j hj hj5 Qz k (i+1) n1
  have ht:=hi.at'
  have B6:=ht.lt
  have htb:tk<b8:=by omega
  have hT:∀(k:Int) (hx:H),TG tk vl hA hx->k<=9223372036854775807->D6 tk vl hx (Below k) (ctx.call 38 [.ptr tk 0,.int .i64 k] hx):=λk hx e hk=>
   Fg tk vl L k hx (hi.tg e).at' (hi.tg e).ints hi.av hi.len hk
  have k1:decide (i<5)=true:=dt
  have X4:((i.toNat:Nat):Int)=i:=Int.toNat_of_nonneg H4
  have hil:i.toNat<all.length:=by omega
  obtain ⟨cl,AmW⟩:∃cl,all[i.toNat]?=some cl:=⟨_,List.getElem?_eq_getElem hil⟩
  have hk0:AbG lo hA cl:=Fs.ok cl (List.mem_of_getElem? AmW)
  have hE:∀hx,TG tk vl hA hx->∃b o,(∀hh,Gc 4 v3 (.int .i64 i) hh=.ok (.ptr b o) hh)/\(∀hh,Bi hx hh->Ae (some (some 4)) (.ptr b o) hh=.ok (.agg (Hx cl)) hh):=by
   intro hx e
   obtain ⟨b,o,el⟩:=R0.elem (f:=Hx) (s:=4) (λ_=>rfl) (Fs.tg ht htl e).sl AmW
   have x1:=el.ia
   rw [X4] at x1
   exact ⟨b,o,x1,el.all⟩
  rw [Apk]
  cases k2:decide (i=j)
  . (repeat' (first|refine wk ?_|((with_reducible apply M5);exact hT _ _ L5 om;intro vv hh ee E8 Bu qq;(try simp only [C9] at E8 Bu);obtain ⟨jj,rfl,j0,j1⟩:=qq)|(refine zqq ?_ ?_<;>intro hc<;>(try (exfalso;omega)))|fail))
    . have Cs:TG tk vl hA hh:=L5
      have Aqs:=hcv.tg (he.at B6) om ee
      have hg2:hh.m.get b8=scB nm p m cv:=by rw [Bu b8 om om];exact hg
      have A8q:b8+1<=hh.nx:=by omega
      obtain ⟨b,o,x1,x2⟩:=hE hh Cs
      obtain ⟨y1,y2⟩:=B2 Aqs.own.sl
      have Z0:=hk0.tg ht htl Cs
      obtain ⟨z1,z2⟩:=B2 Z0.words
      clear hcv hg hbn he hE Fs
      (repeat' (first|refine wd ?_|((with_reducible (first|apply Fj|apply zc2));exact h83 _ _ _ _ cl.ws _ (Sl.By Z0.words M0) Z0.Mu;intro vv hh ee E8 Bu qq;(first|(have eqt:=Ai.quiet ee;try simp only [C9] at E8 Bu eqt)|(try simp only [C9] at E8 Bu));obtain ⟨cw,rfl,c2,c3,c4,c5⟩:=qq)|(refine zqq ?_ ?_<;>intro hc<;>(try (exfalso;omega)))|fail))
      obtain ⟨v',h',q1,q2,q3,q4,q5⟩:=Ahe (lo:=b8+1) (h:=Ab ((Ab hh).new (.cells (Hx ⟨cl.name,cl.a,cl.b,cw,cl.ws⟩) 96 .exact))) (v:=cv) (sv:=.sl hh.nx 0 1 1 4 true) (c:=⟨cl.name,cl.a,cl.b,cw,cl.ws⟩) (Aqs.gr Ex) ⟨Z0.Mu,Sl.By c2 M0,c3.mono (by simp only [C9];omega),c4,c5⟩ (Sl.lit (h:=hh) (Bf (h:=Ab hh) _) rfl rfl) om Ce rfl
      refine Ey q1 ?_
      simp only [C9] at q3
      have hg3:h'.m.get b8=scB nm p m cv:=by
       rw [q4 b8 om]
       exact N4
      have e3:TG tk vl hA h':=Asp (hy:=Ab ((Ab hh).new (.cells (Hx ⟨cl.name,cl.a,cl.b,cw,cl.ws⟩) 96 .exact))) L5 om (by simp only [C9];omega) q4 q5
      clear q1 hg2
      obtain ⟨y3,y4⟩:=B2 q2.own.sl
      repeat' (first|with_reducible (first|apply A7|apply A8|apply A9|apply Ba)|(with_reducible (first|apply Cy|apply Cz|apply C0|apply C1);(conv=>lhs;simp (disch:=first|exact dA|fail) [lw, *,hg3]);with_reducible (first|apply A7|apply A8|apply A9|apply Ba|apply Cu|(refine Cv (by simp) ?_)|(apply Cw<;>intro hc<;>(try simp only [Bt] at hc)<;>(try (exfalso;omega)))))|(with_reducible (first|apply C2|apply C3|apply C4|apply C5)<;>intro hc<;>(try simp only [Bt] at hc)<;>(try (exfalso;omega))))
      refine Pu tk hA.nx ?_ λLz Wp=>?_
      . simp only [List.forall_mem_cons,List.not_mem_nil,false_imp_iff,implies_true,and_true]
        repeat' (refine And.intro ?_ ?_)
        all_goals first|(left;exact eqt)|(left;simp;done)|(refine .inr ⟨λx hx=>.inr ?_,?_⟩;(focus first|(have hz:=q5 x (D4 _ _ _ hx).1;omega)|(have hz:=(D4 _ _ _ hx).1;simp at hz;omega));(repeat' (refine And.intro ?_ ?_));all_goals first|(exact Ar ..)|(refine Ax _ _ _ _ _ _ _ _ _ _ _ _ ?_;decide)|exact Ci ..)
      . rw [Ajg]
        refine wk ?_
        refine ih (A1++[⟨cl.name,cl.a,cl.b,cw,cl.ws⟩]) v' _ _ om om om (by rw [List.length_append];simp;omega) (λ_=>by simp) (hsb.snoc H4 AmW rfl) Ce N4 (((q2.gr (Ai.refl _).nl).put (by simp) om (by show Vu 4 (h'.m.get b8)=true;rw [hg3];rfl)).rl) L5
    . rw [Ajg]
      refine wk ?_
      exact ih A1 cv _ _ om om om om (λhji=>Hr (by have:=of_decide_eq_false k2;omega)) (hsb.skip H4) Ce (by rw [Bu b8 om om];exact hg) (hcv.tg (he.at B6) om ee) L5
  . have Cs:=he
    have Aqs:=hcv
    have hg2:=hg
    have A8q:=hbn
    obtain ⟨b,o,x1,x2⟩:=hE hd Cs
    obtain ⟨y1,y2⟩:=B2 Aqs.own.sl
    have Z0:=hk0.tg ht htl Cs
    obtain ⟨z1,z2⟩:=B2 Z0.words
    clear hcv hg hbn he hE Fs
    (repeat' (first|refine wd ?_|((with_reducible (first|apply Fj|apply zc2));exact h83 _ _ _ _ cl.ws _ (Sl.By Z0.words M0) Z0.Mu;intro vv hh ee E8 Bu qq;(first|(have eqt:=Ai.quiet ee;try simp only [C9] at E8 Bu eqt)|(try simp only [C9] at E8 Bu));obtain ⟨cw,rfl,c2,c3,c4,c5⟩:=qq)))
    obtain ⟨v',h',q1,q2,q3,q4,q5⟩:=Ahe (lo:=b8+1) (h:=Ab ((Ab hh).new (.cells (Hx ⟨cl.name,cl.a,cl.b,cw,cl.ws⟩) 96 .exact))) (v:=cv) (sv:=.sl hh.nx 0 1 1 4 true) (c:=⟨cl.name,cl.a,cl.b,cw,cl.ws⟩) (Aqs.gr Ex) ⟨Z0.Mu,Sl.By c2 M0,c3.mono (by simp only [C9];omega),c4,c5⟩ (Sl.lit (h:=hh) (Bf (h:=Ab hh) _) rfl rfl) om Ce rfl
    refine Ey q1 ?_
    simp only [C9] at q3
    have hg3:h'.m.get b8=scB nm p m cv:=by
     rw [q4 b8 om]
     exact N4
    have e3:TG tk vl hA h':=Asp (hy:=Ab ((Ab hh).new (.cells (Hx ⟨cl.name,cl.a,cl.b,cw,cl.ws⟩) 96 .exact))) L5 om (by simp only [C9];omega) q4 q5
    clear q1 hg2
    obtain ⟨y3,y4⟩:=B2 q2.own.sl
    repeat' (first|with_reducible (first|apply A7|apply A8|apply A9|apply Ba)|(with_reducible (first|apply Cy|apply Cz|apply C0|apply C1);(conv=>lhs;simp (disch:=first|exact dA|fail) [lw, *,hg3]);with_reducible (first|apply A7|apply A8|apply A9|apply Ba|apply Cu|(refine Cv (by simp) ?_)|(apply Cw<;>intro hc<;>(try simp only [Bt] at hc)<;>(try (exfalso;omega)))))|(with_reducible (first|apply C2|apply C3|apply C4|apply C5)<;>intro hc<;>(try simp only [Bt] at hc)<;>(try (exfalso;omega))))
    refine Pu tk hA.nx ?_ λLz Wp=>?_
    . simp only [List.forall_mem_cons,List.not_mem_nil,false_imp_iff,implies_true,and_true]
      repeat' (refine And.intro ?_ ?_)
      all_goals first|(left;exact eqt)|(left;simp;done)|(refine .inr ⟨λx hx=>.inr ?_,?_⟩;(focus first|(have hz:=q5 x (D4 _ _ _ hx).1;omega)|(have hz:=(D4 _ _ _ hx).1;simp at hz;omega));(repeat' (refine And.intro ?_ ?_));all_goals first|(exact Ar ..)|(refine Ax _ _ _ _ _ _ _ _ _ _ _ _ ?_;decide)|exact Ci ..)
    . rw [Ajg]
      refine wk ?_
      refine ih (A1++[⟨cl.name,cl.a,cl.b,cw,cl.ws⟩]) v' _ _ om om om (by rw [List.length_append];simp;omega) (λ_=>by simp) (hsb.snoc H4 AmW rfl) Ce N4 (((q2.gr (Ai.refl _).nl).put (by simp) om (by show Vu 4 (h'.m.get b8)=true;rw [hg3];rfl)).rl) L5
end Go.Proofs
namespace Go.Proofs
open Go Go.Ev Go.Nm Go.Ev.Sx
theorem Aps {s len B1 bytes lo:Nat} {et:TypeId} {h h':H} {x y v:AV} {c c':List AV} (ho:Fm s lo et h x len c) (F6:Hd h s y=some (B1,c')) (Ox:c'.length=B1 * s) (hb:(len+B1) * (bytes+1)<1000000000000) (h1:Bm c'=true) (hr0:Ds et s bytes x y h=.ok v h'):
 ∀j,j<h.nx->B5 (h'.m.get j)=B5 (h.m.get j):=by
 rcases ho with ⟨rfl,rfl,rfl⟩|⟨rfl,rfl,b,off,cs,rfl,h2,h3⟩|⟨b,k,st,rfl,q2,q3,q4,q5,q6,q7,q8,q9⟩
 . obtain ⟨v2,h2,p1,_,_,_,p5⟩:=Fm.AbQ (bytes:=bytes) (Fm.nil s h.nx et h) F6 Ox hb h1 (Nat.le_refl _)
   rw [p1] at hr0
   cases hr0
   exact λj hj=>by rw [p5 j hj]
 . obtain ⟨v2,R3,p1,_,_,_,p5⟩:=Fm.AbQ (bytes:=bytes) (et:=et) (lo:=h.nx) (s:=s) (h:=h) (x:=.sl b off 0 0 s true) (len:=0) (c:=[]) (.inr (.inl ⟨rfl,rfl,b,off,cs,rfl,h2,h3⟩)) F6 Ox hb h1 (Nat.le_refl _)
   rw [p1] at hr0
   cases hr0
   exact λj hj=>by rw [p5 j hj]
 . have hr:Ds et s bytes (.sl b 0 len len s false) y h=(match Hd h s y with
    |some (n,new)=>C6 (.bad 121) (C6 (.bad 121) (C6 (.bad 121) (Lg ⟨et,s,bytes⟩ b 0 len len s false n new h) (Nat.beq s s)) (Bm new)) (Gj ((len+n) * (bytes+1)))
    |none=>.bad 123):=rfl
   rw [hr,F6] at hr0
   simp only [h1,Fi,decide_eq_true hb,Nat.beq_refl] at hr0
   by_cases h0:B1=0
   . subst h0
     have Wh:c'=[]:=List.length_eq_zero_iff.1 om
     subst Wh
     have h5:(C6 (.bad 121) (C6 (.bad 121) (C6 (.bad 121) (Lg ⟨et,s,bytes⟩ b 0 len len s false 0 [] h) true) true) true:OR)=.ok (.sl b 0 (len+0) len s false) h:=by
      show (C6 _ _ (Nat.ble (Nat.add len 0) len):OR)=_
      rw [show Nat.ble (Nat.add len 0) len=true from Nat.ble_eq_true_of_le (Nat.le_refl _)]
      rfl
     rw [h5] at hr0
     cases hr0
     exact λj hj=>rfl
   . have h4:Nat.ble (Nat.add len B1) len=false:=by
      cases hx:Nat.ble (Nat.add len B1) len with
      |false=>rfl
      |true=>
       have:len+B1<=len:=Nat.le_of_ble_eq_true hx
       omega
     have Du:(C6 (.bad 121) (C6 (.bad 121) (C6 (.bad 121) (Lg ⟨et,s,bytes⟩ b 0 len len s false B1 c' h) true) true) true:OR)=.ok (.sl h.nx 0 (len+B1) (len+B1) s false) (((h.put b (.cells c et (.Cf k st))).put k (.Fb st)).new (.cells (c++c') et (.Gt k))):=by
      show (C6 _ _ (Nat.ble (Nat.add len B1) len):OR)=_
      rw [h4]
      show Ny ⟨et,s,bytes⟩ b 0 len (Nat.add len B1) c' h=_
      unfold Ny
      rw [q2]
      simp only [q3,Sn,E5,q9,Nat.zero_add,Nat.le_refl,if_true,Gh,Nat.beq_refl,Dl]
      rfl
     rw [Du] at hr0
     cases hr0
     intro j hj
     rw [Cq (h:=(h.put b (.cells c et (.Cf k st))).put k (.Fb st)) _ j (by show j≠h.nx;omega)]
     by_cases h6:j=k
     . subst h6
       rw [A2,q3]
     . rw [Aq _ _ _ h6]
       by_cases h7:j=b
       . subst h7
         rw [A2,q2]
         rfl
       . rw [Aq _ _ _ h7]
def Kz (h:H) (v:AV):Prop:=∀b off len cap z ex,v=.sl b off len cap z ex->0<len->b<h.nx/\∀k,B5 (h.m.get b)=some k->k<h.nx
theorem Kz.own {s lo len:Nat} {et:TypeId} {h:H} {v:AV} {c:List AV} (ho:Fm s lo et h v len c):Kz h v:=by
 intro b off B1 cap z ex hv h0
 rcases ho with ⟨_,_,h3⟩|⟨_,_,b',Yk,cs,h3,_⟩|⟨b',k,st,h3,q2,q3,q4,q5,q6,q7,q8,q9⟩
 . rw [h3] at hv;cases hv
 . rw [h3] at hv;cases hv;omega
 . rw [h3] at hv
   cases hv
   refine ⟨q6,λk' hk=>?_⟩
   rw [q2] at hk
   cases hk
   exact q7
theorem Kz.N3 {h h1:H} {v:AV} (hk:Kz h v) (hn:h.nx<=h1.nx) (hc:∀b,b<h.nx->B5 (h1.m.get b)=B5 (h.m.get b)):Kz h1 v:=λb off len cap z ex hv h0=>by
 obtain ⟨q1,q2⟩:=hk b off len cap z ex hv h0
 refine ⟨Nat.lt_of_lt_of_le q1 hn,λk hkk=>?_⟩
 rw [hc b q1] at hkk
 exact Nat.lt_of_lt_of_le (q2 k hkk) hn
theorem Kz.tg {h h1:H} {v vl:AV} {tk:Nat} (hk:Kz h v) (ht:H8 h tk vl) (e:TG tk vl h h1):Kz h1 v:=hk.N3 e.lo λb hb=>by
 by_cases hh:b=tk
 . subst hh
   obtain ⟨m,_,h2⟩:=ht.cell
   obtain ⟨m',_,h3⟩:=(e.at ht.lt).cell
   rw [h2,h3]
   rfl
 . rw [e.Cf b hb hh]
end Go.Proofs
namespace Go.Proofs
open Go Go.Ev Go.Nm Go.Ev.Sx
attribute [local irreducible] Aa Al Af Ad
variable (ctx:Ac) (N:Nat)
structure Sc where
 name:List Nat
 pub:Bool
 many:Int
 cv:AV
 A1:List Cl
abbrev Ze (s:Sc):List AV:=[.str s.name,.bool s.pub,.int .i64 s.many,s.cv]
def ScV (all:List Cl) (s:Sc):Prop:=((s.pub=false/\1<=s.many/\s.many<=4)\/(s.pub=true/\s.many=0))/\Sub all 5 s.A1
def SsV (ss:List Sc):Prop:=∃all:List Cl,all.map Cl.name=N1/\(∀c∈all,AdD c.a c.b c.ws)/\ss.map Sc.name=R2.take ss.length/\∀s∈ss,ScV all s
structure AbM (lo:Nat) (h:H) (s:Sc):Prop where
 nn:s.name≠[]
 ne:s.A1≠[]
 Mu:s.A1.length<=5
 A1:Zg lo h s.cv s.A1
 one:Ge s.cv=true
 cell:cellsOf s.cv=some [s.cv]
 kz:Kz h s.cv
theorem AbM.By {lo:Nat} {h h1:H} {s:Sc} (hc:AbM lo h s) (e:Bi h h1) (hk:∀b,b<h.nx->B5 (h1.m.get b)=B5 (h.m.get b)):AbM lo h1 s:=⟨hc.nn,hc.ne,hc.Mu,hc.A1.By e,hc.one,hc.cell,hc.kz.N3 e.lo hk⟩
theorem AbM.gr {lo:Nat} {h h1:H} {s:Sc} (hc:AbM lo h s) (e:Ai h h1):AbM lo h1 s:=hc.By e.keeps λb hb=>by rw [e.Cf b hb]
theorem AbM.tg {lo tk:Nat} {h h1:H} {s:Sc} {vl:AV} (hc:AbM lo h s) (ht:H8 h tk vl) (Kf:tk<lo) (e:TG tk vl h h1):AbM lo h1 s:=⟨hc.nn,hc.ne,hc.Mu,hc.A1.tg ht Kf e,hc.one,hc.cell,hc.kz.tg ht e⟩
structure Scs (lo:Nat) (h:H) (v:AV) (l:List Sc):Prop where
 own:Fm 4 lo 73 h v l.length (l.flatMap Ze)
 ok:∀s∈l,AbM lo h s
theorem Scs.tg {lo tk:Nat} {h h1:H} {v vl:AV} {l:List Sc} (hc:Scs lo h v l) (ht:H8 h tk vl) (Kf:tk<lo) (e:TG tk vl h h1):Scs lo h1 v l:=⟨Fm.tg hc.own ht Kf e,λc h2=>(hc.ok c h2).tg ht Kf e⟩
theorem Scs.nil (lo:Nat) (h:H):Scs lo h .Bv []:=⟨Fm.nil ..,λc h2=>by cases h2⟩
theorem AuM {lo:Nat} {h:H} {v:AV} {l:List Sc} (hc:Scs lo h v l) (s:Sc) (hk:AbM lo h s) (hl:l.length<=1000) (Kf:lo<=h.nx):
 ∃v' h',Ds 73 4 56 v (.sl h.nx 0 1 1 4 true) (h.new (.cells (Ze s) 73 .exact))=.ok v' h'/\Scs lo h' v' (l++[s])/\(∀h0,h0.nx<=lo->Ai h0 h->Ai h0 h')/\Bi h h':=by
 have e:Ai h (h.new (.cells (Ze s) 73 .exact)):=(Ai.refl h).new _
 have hs:Sl 4 (h.new (.cells (Ze s) 73 .exact)) (.sl h.nx 0 1 1 4 true) 1 (Ze s):=Sl.lit (Bf _) rfl rfl
 have ho:Bm (Ze s)=true:=by simp [hk.one]
 obtain ⟨v',h',q1,q2,q3,q4,q5⟩:=Fm.AbQ (bytes:=56) (lo:=lo) (hc.own.gr e) hs.src (by rfl) om ho (by show lo<=h.nx+1;omega)
 refine ⟨v',h',q1,⟨?_,λx hx=>?_⟩,λh0 a1 a2=>q3 h0 a1 (a2.new _),e.keeps.trans q2⟩
 . rw [List.length_append,List.flatMap_append]
   simpa using q4
 . have q6:=Aps (bytes:=56) (hc.own.gr e) hs.src (by rfl) om ho q1
   rcases List.mem_append.1 hx with hx|hx
   . exact ((hc.ok x hx).gr e).By q2 q6
   . rw [List.mem_singleton.1 hx]
     exact (hk.gr e).By q2 q6
theorem AlR (Fg:R38 ctx) (h82:R82 ctx) (h83:R83 ctx) (hN:100<N) {Q:AV->H->Prop} (tk:Nat) (vl:AV) (L:List Int) (h:H) (hi:H9 tk vl L h) (v3:AV) (all:List Cl) (hlen:all.length=5) (many:Int) (hm1:1<=many) (hm:many<=3)
 (hQ:∀(v:AV) (l:List Sc) (hc:H),l≠[]->l.length<=3->(∀s∈l,ScV all s)->l.map Sc.name=R2.take l.length->Scs h.nx hc v l->TG tk vl h hc->Q v hc):
 ∀(k:Nat) (i:Int) (n:Nat) (l:List Sc) (v:AV) (hd:H) (f0:L2),i+(k:Int)=many->0<=i->k<n->(l.length:Int)=i->(∀s∈l,ScV all s)->l.map Sc.name=R2.take l.length->Scs h.nx hd v l->Zg h.nx hd v3 all->TG tk vl h hd->Ah H0 Q (Alo ctx N n (.ptr tk 0) v3 (.int .i64 many) v (.int .i64 i) f0 hd)
 |0,i,n,l,v,hd,f0,Qd,H4,hn,hl,hsv,BcM,hv,Fs,he=>by
  obtain ⟨n1,rfl⟩:∃n1,n=n1+1:=⟨n - 1,by omega⟩
  have k1:decide (i<many)=false:=df
  rw [Apj]
  repeat' (first|with_reducible (first|apply A7|apply A8|apply A9|apply Ba)|(with_reducible (first|apply Cy|apply Cz|apply C0|apply C1);(conv=>lhs;simp (disch:=first|exact dA|fail) [lw, *,k1]);with_reducible (first|apply A7|apply A8|apply A9|apply Ba|apply Cu|(refine Cv (by simp) ?_)|(apply Cw<;>intro hc<;>(try simp only [Bt] at hc)<;>(try (exfalso;omega)))))|(with_reducible (first|apply C2|apply C3|apply C4|apply C5)<;>intro hc<;>(try simp only [Bt] at hc)<;>(try (exfalso;omega))))
  exact zr (Ed _) (hQ v l hd (by intro hh;subst hh;simp at hl;omega) om hsv BcM hv he)
 |k+1,i,n,l,v,hd,f0,Qd,H4,hn,hl,hsv,BcM,hv,Fs,he=>by
  obtain ⟨n1,rfl⟩:∃n1,n=n1+1:=⟨n - 1,by omega⟩
  have ih:=AlR Fg h82 h83 hN tk vl L h hi v3 all hlen many hm1 hm hQ k (i+1) n1
  have ht:=hi.at'
  have B6:=ht.lt
  have ht2:=he.at B6
  have hi2:H9 tk vl L hd:=hi.tg he
  have Kf:=he.lo
  have BeC:tk<hd.nx:=ht2.lt
  have hT:∀(k:Int) (hx:H),TG tk vl hd hx->k<=9223372036854775807->D6 tk vl hx (Below k) (ctx.call 38 [.ptr tk 0,.int .i64 k] hx):=λk hx e hk=>
   Fg tk vl L k hx (hi2.tg e).at' (hi2.tg e).ints hi.av hi.len hk
  have k1:decide (i<many)=true:=dt
  have X4:((i.toNat:Nat):Int)=i:=Int.toNat_of_nonneg H4
  rw [Apj]
  repeat' (first|with_reducible (first|apply A7|apply A8|apply A9|apply Ba)|((with_reducible (first|apply Fj|apply zc2));exact h82 _ _;intro vv hh ee E8 Bu qq;(first|(have eqt:=Ai.quiet ee;try simp only [C9] at E8 Bu eqt)|(try simp only [C9] at E8 Bu));obtain ⟨ws,wn,wh,wb,w1,w2,wne,wcl⟩:=qq)|(with_reducible (first|apply Cy|apply Cz|apply C0|apply C1);(conv=>lhs;simp (disch:=first|exact dA|fail) [lw, *,k1]);with_reducible (first|apply A7|apply A8|apply A9|apply Ba|apply Cu|(refine Cv (by simp) ?_)|(apply Cw<;>intro hc<;>(try simp only [Bt] at hc)<;>(try (exfalso;omega)))))|(with_reducible (first|apply Kl|apply Km);(conv=>lhs;simp only [zw,k1]))|(with_reducible (first|apply C2|apply C3|apply C4|apply C5)<;>intro hc<;>(try simp only [Bt] at hc)<;>(try (exfalso;omega)))|(refine B8 ?_ ?_;(focus (simp (disch:=first|decide|omega|(simp only [C9];omega)) [Aw,Am,Ar,Ax, *];done));(try simp (disch:=first|exact Ce|fail) only [Aw,Am,Bx,Ap,At,List.nil_append,List.cons_append,B9,Dp,Dn,C9,Ca, *])))
  have wn4:ws.length=4:=by rw [wn];rfl
  obtain ⟨nm,hnm⟩:∃nm,ws[i.toNat]?=some nm:=⟨_,List.getElem?_eq_getElem om⟩
  have Zo:nm≠[]:=wne nm (List.mem_of_getElem? hnm)
  have hn0:R2[l.length]?=some nm:=by rw [show l.length=i.toNat by omega,<- hnm,wn];rfl
  obtain ⟨b,o,el⟩:=R0.elem (f:=Aeb) (s:=1) (λ_=>rfl) wh hnm
  have x1:=el.ia
  rw [X4] at x1
  have x2:=el.part 0 _ rfl
  rw [Nat.add_zero] at x2
  obtain ⟨off,cap,ex,hvv⟩:=Acg wh om el
  have hbt:b≠tk:=by have:=wb b off 4 cap 1 ex (wn4 ▸ hvv) om;simp only [C9] at this;omega
  have hbc:=wcl b off _ cap 1 ex hvv
  clear wh el wn hnm hvv
  repeat' (first|with_reducible (first|apply A7|apply A8|apply A9|apply Ba)|((with_reducible apply M5);exact hT _ _ L5 om;intro vv hh ee E8 Bu qq;(try simp only [C9] at E8 Bu);obtain ⟨jj,rfl,j0,j1⟩:=qq)|(with_reducible (first|apply Cy|apply Cz|apply C0|apply C1);(conv=>lhs;simp (disch:=first|exact dA|fail) [lw, *,k1,x1,x2]);with_reducible (first|apply A7|apply A8|apply A9|apply Ba|apply Cu|(refine Cv (by simp) ?_)|(apply Cw<;>intro hc<;>(try simp only [Bt] at hc)<;>(try (exfalso;omega)))))|(with_reducible (first|apply Kl|apply Km);(conv=>lhs;simp only [zw,k1]))|(with_reducible (first|apply C2|apply C3|apply C4|apply C5)<;>intro hc<;>(try simp only [Bt] at hc)<;>(try (exfalso;omega)))|(refine B8 ?_ ?_;(focus (simp (disch:=first|decide|omega|(simp only [C9];omega)) [Aw,Am,Ar,Ax, *];done));(try simp (disch:=first|exact Ce|fail) only [Aw,Am,Bx,Ap,At,List.nil_append,List.cons_append,B9,Dp,Dn,C9,Ca, *])))
  refine Pu tk hd.nx ?_ λLz Wp=>?_
  . simp only [List.forall_mem_cons,List.not_mem_nil,false_imp_iff,implies_true,and_true]
    repeat' (refine And.intro ?_ ?_)
    all_goals first|(left;exact Ai.quiet (by assumption))|(left;simp;done)|(refine .inr ⟨λx hx=>?_,?_⟩;(focus first|exact .inl (TG.wrote (by assumption) x hx)|(refine .inr ?_;have hz:=(D4 _ _ _ hx).1;simp at hz;omega));(repeat' (refine And.intro ?_ ?_));all_goals first|(exact Ar ..)|(refine Ax _ _ _ _ _ _ _ _ _ _ _ _ ?_;decide)|exact Ci ..|exact Dk (tk:=tk) (TG.wrote (by assumption)) Ce (.inl rfl)|exact Dk (tk:=tk) (TG.wrote (by assumption)) Ce (.inr ⟨_,rfl,by omega,by simp [hbc]⟩))
  . generalize hE:Be Lz _=hz
    have t1:TG tk vl hd hz:=by rw [<- hE];exact L5
    have g1:hz.m.get hh.nx=scB nm false (1+jj) .Bv:=by rw [<- hE];exact A2 ..
    have n2:hh.nx+1<=hz.nx:=by rw [<- hE];exact Ce
    have hb:hd.nx<=hh.nx:=by omega
    clear hE Wp
    generalize hh.nx=b8 at *
    have Wj:∀(p:Bool) (m:Int) (hx:H) (f:L2),((p=false/\1<=m/\m<=4)\/(p=true/\m=0))->TG tk vl hd hx->hx.m.get b8=scB nm p m .Bv->b8+1<=hx.nx->Ah H0 Q (AkZ ctx N n1 (.ptr tk 0) v3 (.int .i64 many) v (.int .i64 i) (.ptr b8 0) f hx):=by
     intro p m hx f hpm t2 g2 n3
     rw [AwS]
     repeat' (first|with_reducible (first|apply A7|apply A8|apply A9|apply Ba)|((with_reducible apply M5);exact hT _ _ L5 om;intro vv hh ee E8 Bu qq;(try simp only [C9] at E8 Bu);obtain ⟨jj,rfl,j0,j1⟩:=qq)|(with_reducible (first|apply Cy|apply Cz|apply C0|apply C1);(conv=>lhs;simp (disch:=first|exact dA|fail) [lw, *]);with_reducible (first|apply A7|apply A8|apply A9|apply Ba|apply Cu|(refine Cv (by simp) ?_)|(apply Cw<;>intro hc<;>(try simp only [Bt] at hc)<;>(try (exfalso;omega)))))|(with_reducible (first|apply C2|apply C3|apply C4|apply C5)<;>intro hc<;>(try simp only [Bt] at hc)<;>(try (exfalso;omega))))
     refine AlS ctx N Fg h83 tk vl L hd hi2 n1 h.nx v3 all Fs hlen om Kf _ _ _ b8 hb nm p m _ om om ?_ 5 0 N [] .Bv _ _ om om om (by simp) om ⟨[],List.nil_sublist _,rfl⟩ om (by rw [Bu b8 om om];exact g2) (Cls.nil _ _) L5
     intro n cv A1 hy f2 Hr hc5 hsb hbn hg hcv Fv
     have k5:decide ((5:Int)<5)=false:=rfl
     rw [Apk]
     obtain ⟨y1,y2⟩:=B2 hcv.own.sl
     repeat' (first|with_reducible (first|apply A7|apply A8|apply A9|apply Ba)|(with_reducible (first|apply Cy|apply Cz|apply C0|apply C1);(conv=>lhs;simp (disch:=first|exact dA|fail) [lw, *,k5]);with_reducible (first|apply A7|apply A8|apply A9|apply Ba|apply Cu|(refine Cv (by simp) ?_)|(apply Cw<;>intro hc<;>(try simp only [Bt] at hc)<;>(try (exfalso;omega)))))|(with_reducible (first|apply C2|apply C3|apply C4|apply C5)<;>intro hc<;>(try simp only [Bt] at hc)<;>(try (exfalso;omega))))
     have e4:TG tk vl h hy:=TG.trans he Fv
     have hl4:=e4.lo
     obtain ⟨v',h',q1,q2,q3,q4⟩:=AuM (hv.tg ht2 B6 Fv) ⟨nm,p,m,cv,A1⟩ ⟨Zo,Hr,hc5,hcv.slice.mono om,y1,y2,Kz.own hcv.own⟩ om om
     refine Ey q1 ?_
     have e2:TG tk vl h h':=by
      obtain ⟨m,hm,hg⟩:=e4
      exact ⟨m,hm,q3 _ (Nat.le_refl _) hg⟩
     clear q1
     rw [AwT]
     repeat' (first|with_reducible (first|apply A7|apply A8|apply A9|apply Ba)|(with_reducible (first|apply Cy|apply Cz|apply C0|apply C1);(conv=>lhs;simp (disch:=first|exact dA|fail) [lw, *]);with_reducible (first|apply A7|apply A8|apply A9|apply Ba|apply Cu|(refine Cv (by simp) ?_)|(apply Cw<;>intro hc<;>(try simp only [Bt] at hc)<;>(try (exfalso;omega)))))|(with_reducible (first|apply C2|apply C3|apply C4|apply C5)<;>intro hc<;>(try simp only [Bt] at hc)<;>(try (exfalso;omega))))
     exact ih (l++[⟨nm,p,m,cv,A1⟩]) v' h' _ om om om (by rw [List.length_append];simp;omega) (λs hs=>by rcases List.mem_append.1 hs with hs|hs;exact hsv s hs;rw [List.mem_singleton.1 hs];exact ⟨hpm,hsb⟩) (by rw [List.map_append,BcM,List.length_append];simp only [List.length_cons,List.length_nil,List.take_add_one,hn0];rfl) q2 ((Fs.tg ht2 B6 Fv).By q4) e2
    repeat' (first|with_reducible (first|apply A7|apply A8|apply A9|apply Ba)|((with_reducible apply M5);exact hT _ _ L5 om;intro vv hh ee E8 Bu qq;(try simp only [C9] at E8 Bu);obtain ⟨jj,rfl,j0,j1⟩:=qq)|(with_reducible (first|apply Cy|apply Cz|apply C0|apply C1);(conv=>lhs;simp (disch:=first|exact dA|fail) [lw, *]);with_reducible (first|apply A7|apply A8|apply A9|apply Ba|apply Cu|(refine Cv (by simp) ?_)|(apply Cw<;>intro hc<;>(try simp only [Bt] at hc)<;>(try (exfalso;omega)))))|(with_reducible (first|apply C2|apply C3|apply C4|apply C5)<;>intro hc<;>(try simp only [Bt] at hc)<;>(try (exfalso;omega))))
    . exact Wj _ _ _ _ (.inr ⟨rfl,rfl⟩) L5 (A2 ..) Ce
    . refine Wj _ _ _ _ ?_ L5 (by rw [Bu b8 om om];exact g1) Ce
      exact .inl ⟨rfl,by omega,by omega⟩
    . refine Wj _ _ _ _ ?_ t1 g1 n2
      exact .inl ⟨rfl,by omega,by omega⟩
end Go.Proofs
namespace Go.Proofs
open Go Go.Ev Go.Nm Tryz Go.Ev.Sx
attribute [local irreducible] Aa Al Af Ad
variable (ctx:Ac) (N:Nat)
def R8 (lo:Nat) (r:AV) (h1:H):Prop:=∃l:List Sc,l≠[]/\l.length<=3/\Scs lo h1 r l/\SsV l
def R43:Prop:=∀(tk:Nat) (vl:AV) (L:List Int) (h:H),H9 tk vl L h->D6 tk vl h (R8 h.nx) (ctx.call 43 [.ptr tk 0] h)
theorem r43 (Fg:R38 ctx) (h81:R81 ctx) (h82:R82 ctx) (h83:R83 ctx) (hN:100<N) (tk:Nat) (vl:AV) (L:List Int) (h:H) (hi:H9 tk vl L h):D6 tk vl h (R8 h.nx) (Ay prog ctx N false 43 [.ptr tk 0] h):=by
 refine Qk ?_
 rw [e43]
 have ht:=hi.at'
 have B6:=ht.lt
 have hT:∀(k:Int) (hx:H),TG tk vl h hx->k<=9223372036854775807->D6 tk vl hx (Below k) (ctx.call 38 [.ptr tk 0,.int .i64 k] hx):=λk hx e hk=>
  Fg tk vl L k hx (hi.tg e).at' (hi.tg e).ints hi.av hi.len hk
 refine AlQ ctx N h82 h81 tk vl L h hi ?_ 5 0 N [] .Bv h _ rfl om rfl (λc hc=>by cases hc) rfl (Cls.nil _ _) (TG.refl ht)
 intro n v l hd f hl hcv hnm hv he
 have k5:decide ((5:Int)<5)=false:=rfl
 rw [Api]
 (repeat' (first|refine wk ?_|((with_reducible apply M5);exact hT _ _ L5 om;intro vv hh ee E8 Bu qq;(try simp only [C9] at E8 Bu);obtain ⟨jj,rfl,j0,j1⟩:=qq)))
 refine AlR ctx N Fg h82 h83 hN tk vl L h hi v l hl _ om om (λv' l' hx q1 q2 q5 q6 q3 q4=>⟨q4,l',q1,q2,q3,l,hnm,hcv,q6,q5⟩) (1+jj).toNat 0 N [] .Bv _ _ om om om rfl (λs hs=>by cases hs) rfl (Scs.nil _ _) ?_ L5
 exact hv.slice.tg (he.at B6) B6 ee
theorem AzQ {vl:AV} {h h2:H} {o:AO} (e:TG h.nx vl (h.new o) h2):Ai h h2:=by
 obtain ⟨m,hm,hg⟩:=e
 exact (((Ai.refl h).new o).put h.nx _ (Nat.le_refl _)).trans hg
theorem Sl.av {s len tk:Nat} {h:H} {v:AV} {c:List AV} (hs:Sl s h v len c) (hk:h.nx<=tk):Av tk v:=by
 intro b off B1 cap z ex hv h0
 rcases hs with ⟨_,_,h1⟩|⟨b',Yk,Ll,ex',cs,h1,q2,q3,_⟩
 . rw [h1] at hv;cases hv
 . rw [h1] at hv
   cases hv
   have:=q3.lt
   omega
theorem AkJ {vl:AV} {L:List Int} {h:H} (hv:Lf h vl L) (hl:(L.length:Int)<=9223372036854775807):H9 h.nx vl L (h.new (tkC vl 0)):=
 ⟨⟨Nat.lt_succ_self _,0,Int.le_refl _,Bf _⟩,Sl.By hv ((Ai.refl h).new _).keeps,Sl.av hv (Nat.le_refl _),hl⟩
theorem Yp {s lo Z6 len:Nat} {et:TypeId} {h:H} {v:AV} {c:List AV} (ho:Fm s lo et h v len c) (hl:Z6<=lo):Fm s Z6 et h v len c:=by
 rcases ho with h3|h3|⟨b,k,st,h1,q2,q3,q4,q5,q6⟩
 . exact .inl h3
 . exact .inr (.inl h3)
 . exact .inr (.inr ⟨b,k,st,h1,q2,q3,Nat.le_trans hl q4,Nat.le_trans hl q5,q6⟩)
def R15:Prop:=∀(vl:AV) (L:List Int) (h:H),Lf h vl L->(L.length:Int)<=9223372036854775807->Ah h (R8 h.nx) (ctx.call 15 [vl] h)
theorem r15 (h43:R43 ctx) (vl:AV) (L:List Int) (h:H) (hv:Lf h vl L) (hl:(L.length:Int)<=9223372036854775807):Ah h (R8 h.nx) (Ay prog ctx N false 15 [vl] h):=by
 rw [e15]
 obtain ⟨o1,o2⟩:=B2 hv
 refine wk ?_
 obtain ⟨v,h1,q1,q2,l,q3,q4,q5,q6⟩:=AeX (h43 h.nx vl L _ (AkJ hv hl))
 refine Ey q1 (zr (AzQ q2) ⟨l,q3,q4,⟨Yp q5.own (Nat.le_succ _),λs hs=>?_⟩,q6⟩)
 have:=q5.ok s hs
 exact ⟨this.nn,this.ne,this.Mu,this.A1.mono (Nat.le_succ _),this.one,this.cell,this.kz⟩
end Go.Proofs
