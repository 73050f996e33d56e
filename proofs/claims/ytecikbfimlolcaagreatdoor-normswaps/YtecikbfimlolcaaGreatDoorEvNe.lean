/- The builder of expressions: push, add. -/
import Derived.Test.YtecikbfimlolcaaGreatDoorEvNd
set_option maxRecDepth 100000
set_option linter.unusedSimpArgs false
set_option linter.unusedVariables false
set_option linter.unusedSectionVars false
noncomputable section
namespace Go.Proofs
open Go Go.Ev Go.Nm
attribute [local irreducible] Aa Al Af Ad
variable [Ii]
variable (ctx:Ac) (N:Nat)
theorem As7:Hp PP 103=.sl ⟨56,1,16⟩:=by kernel_rfl
theorem A5l:tk PP 103=.slice:=by kernel_rfl
theorem tk4:tk PP 4=.bool:=by kernel_rfl
theorem Tl:∀l:List Tr,Bm (l.map A3)=true
 |[]=>rfl
 |t::l=>by simp [Tl l]
theorem n173 (h:H) (v:AV) (ts:List Tr) (hv:My h v ts) (hp:ts≠[]) (Fc:ts.length<=50000) (hr:h.nx+3<=Bq):
 Sx.Cb 3 h (λv h'=>My h' v ts) (Ay Tryz.prog ctx N true 173 [v] h):=by
 rw [A7B]
 have hlp:0<ts.length:=List.length_pos_iff.2 hp
 have hv':=hv
 rcases hv.at' with ⟨h1,_,_⟩|⟨b,off,cap,ex,cs,e,k,rfl,_⟩
 . omega
 . refine Sx.Ag (Sx.Atv A5l ..) ?_
   rw [Sx.Dq]
   refine Sx.Ag (v:=.sl h.nx 0 0 0 1 true) (h:=h.new (.cells [] 56 .exact)) (by simp) ?_
   have e1:=(Sx.Ext.refl 0 h).new (.cells [] 56 .exact) (by omega)
   refine Sx.Ic e1 (Sx.Amx (lo:=0) (Sx.A6 _ (by omega)) (hv'.ext e1) hlp (by omega) (Tl ts) (by show h.nx+1+2<=Bq;omega) (by omega)) λv h1 e2 _ q=>?_
   exact Sx.B0 e2 (by omega) q.sl
structure Ew (lo:Nat) (h:H) (bp:Nat) (st:List Tr):Prop where
 p1:lo<=bp
 p2:bp<h.nx
 at':∃sv,h.m.get bp=.cells [sv] 105 .exact/\((st=[]/\sv=.Bv)\/∃b cap c k n,sv=.sl b 0 st.length cap 1 false/\h.m.get b=.cells c 56 (.Gt k)/\h.m.get k=.Fb n/\c.length=cap/\st.length<=cap/\0<cap /\
  c.take st.length=st.map A3/\lo<=b/\lo<=k/\b<h.nx/\k<h.nx/\b≠k/\b≠bp/\k≠bp)
theorem Ew.ext {lo n bp:Nat} {h h1:H} {st:List Tr} (hb:Ew lo h bp st) (e:Sx.Ext n h h1):Ew lo h1 bp st:=by
 obtain ⟨sv,q1,q2⟩:=hb.at'
 refine ⟨hb.p1,Nat.lt_of_lt_of_le hb.p2 e.lo,sv,by rw [e.Cf bp hb.p2];exact q1,?_⟩
 rcases q2 with q2|⟨b,cap,c,k,n,r1,r2,r3,r4,r5,r6,r7,r8,r9,r10,r11,r12⟩
 . exact .inl q2
 . exact .inr ⟨b,cap,c,k,n,r1,by rw [e.Cf b r10];exact r2,by rw [e.Cf k r11];exact r3,r4,r5,r6,r7,r8,r9,Nat.lt_of_lt_of_le r10 e.lo,Nat.lt_of_lt_of_le r11 e.lo,r12⟩
abbrev Afc (h:H) (v:AV) (l:List Bool):Prop:=Sx.Oq 1 h v l.length (l.map AV.bool)
abbrev A1l:Prop:=∀(h:H) (v:AV) (ts:List Tr),My h v ts->ts≠[]->ts.length<=50000->h.nx+3<=Bq->Sx.Cb 3 h (λv h'=>My h' v ts) (ctx.call 173 [v] h)
abbrev H64:Prop:=∀(t:Tr) (h:H),ctx.call 64 [A3 t] h=.ok (.bool (decide (9<=t.op))) h
def F4 (t:Tr):Bool:=decide (9<=t.op)
theorem Ia {α:Type} {f:α->AV} {h:H} {v:AV} {l:List α} (hs:Sx.Oq 1 h v l.length (l.map f)) {i:Nat} {x:α} (hx:l[i]?=some x):
 ∃b o cs e k,(∀h1,Gc 1 v (.int .i64 (i:Int)) h1=.ok (.ptr b o) h1)/\h.m.get b=.cells cs e k/\Sx.readable k/\b<h.nx/\cs[o]?=some (f x):=by
 have hi:i<l.length:=(List.getElem?_eq_some_iff.1 hx).1
 obtain ⟨b,o,cs,e,k,p1,p2,p3,p4,p5,p6⟩:=hs.ia hi
 refine ⟨b,o,cs,e,k,p1,p2,p3,p4,?_⟩
 have h7:((cs.drop o).take 1)[0]?=(((l.map f).drop (i * 1)).take 1)[0]?:=by rw [p6]
 simpa [List.getElem?_take,List.getElem?_drop,hx] using h7
theorem Am9 {h0 h:H} {bp n m:Nat} {st:List Tr} (hb:Ew h0.nx h bp st) (hn:n<st.length) (he:Sx.Ext m h0 h) (hl:h.nx<=Bq):
 ∃sv sv' h',h.m.get bp=.cells [sv] 105 .exact/\xSl Tryz.prog 103 sv none (some (.int .i64 (n:Int))) h=.ok sv' h/\A4 1 (.ptr bp 0) sv' h=.ok (.Bj []) h'/\Sx.Ext m h0 h'/\Ew h0.nx h' bp (st.take n)/\h'.nx=h.nx/\∀c,c<h.nx->c≠bp->h'.m.get c=h.m.get c:=by
 obtain ⟨sv,q1,q2⟩:=hb.at'
 rcases q2 with ⟨rfl,_⟩|⟨b,cap,c,k,n',rfl,r2,r3,r4,r5,r6,r7,r8,r9,r10,r11,r12,r13,r14⟩
 . simp at hn
 . have h2:=hb.p2
   have h1:=hb.p1
   have Kf:=he.lo
   refine ⟨_,.sl b 0 n cap 1 false,h.put bp (.cells [.sl b 0 n cap 1 false] 105 .exact),q1,?_,?_,he.put bp _ h1 (by omega),⟨h1,h2,_,Sx.Dz _ _ (by omega),.inr ⟨b,cap,c,k,n',?_,?_,?_,r4,?_,r6,?_,r8,r9,r10,r11,r12,r13,r14⟩⟩,rfl,λc hc Hr=>Sx.Db _ _ _ (by omega) (by omega) Hr⟩
   . rw [Sx.Aau As7,Sx.Y1 (by omega) (by omega) r6]
     simp
   . simp [q1,Kh]
   . simp [List.length_take];omega
   . rw [Sx.Db _ _ _ (by omega) (by omega) (by omega),r2]
   . rw [Sx.Db _ _ _ (by omega) (by omega) (by omega),r3]
   . simp [List.length_take];omega
   . rw [List.length_take,Nat.min_eq_left (by omega),List.map_take,<- r7,List.take_take,Nat.min_eq_left (by omega)]
theorem Au6 (t:Tr):∃u x,A3 t=.I6 u x:=by cases t<;>exact ⟨_,_,rfl⟩
theorem AuT {h:H} {bp:Nat} {v sv:AV} {o:AO} {ts:List Tr} (hts:ts≠[]) (hv:My h v ts) (hg:h.m.get bp=.cells [sv] 105 .exact) (hsv:∀u x,sv≠.I6 u x) (hl:h.nx<=Bq) (hbp:bp<h.nx):My (h.put bp o) v ts:=by
 rcases hv.at' with h1|⟨b,off,cap,ex,cs,e,k,rfl,q2,q3,q4,q5,q6,q7⟩
 . exact ⟨.inl h1⟩
 . by_cases hb:b=bp
   . subst hb
     rw [hg] at q3
     cases q3
     cases ts with
     |nil=>exact absurd rfl hts
     |cons t ts=>
      exfalso
      obtain ⟨u,x,hx⟩:=Au6 t
      simp only [List.length_cons,List.length_nil,List.map_cons] at q6 q7
      have h0:off=0:=by omega
      subst h0
      rw [List.drop_zero] at q7
      have h8:=congrArg (λl=>l[0]?) q7
      simp [List.getElem?_take] at h8
      exact hsv u x (h8.trans hx)
   . exact ⟨.inr ⟨b,off,cap,ex,cs,e,k,rfl,q2,by rw [Sx.Db _ _ _ (by omega) (by omega) hb];exact q3,q4,q5,q6,q7⟩⟩
def Ajo (lo bp:Nat) (st:List Tr) (ts:List Bool) (hi:H) (r:AV) (h:H):Prop:=
 (hi.nx<=h.nx/\∀c,c<hi.nx->c≠bp->h.m.get c=hi.m.get c) /\
 ((∃v,r=.Bj [v,.bool true]/\ts.length<=st.length/\(st.drop (st.length - ts.length)).map F4=ts/\My h v (st.drop (st.length - ts.length))/\Ew lo h bp (st.take (st.length - ts.length))) \/
 (∃v,r=.Bj [v,.bool false]/\¬ (ts.length<=st.length/\(st.drop (st.length - ts.length)).map F4=ts)))
theorem Aug (h64:H64 ctx) {h0 h hi:H} {bp m M n:Nat} {st:List Tr} {ts:List Bool} {v w:AV} (hb:Ew h0.nx h bp st) (hts:ts≠[]) (hn:n+ts.length=st.length) (hv:My h v (st.drop n)) (hw:Afc h w ts) (he:Sx.Ext m h0 h) (hl:h.nx<=Bq) (hm:m<=M) (Fc:st.length<=100000) (hk:hi.nx<=h.nx/\∀c,c<hi.nx->c≠bp->h.m.get c=hi.m.get c):
 ∀(rest pre:List Bool) (f0:L2) (n1:Nat),ts=pre++rest->((st.drop n).map F4).take pre.length=pre->rest.length+1<=n1 ->
  Sx.Cb M h0 (Ajo h0.nx bp st ts hi) (Afh ctx N n1 (.ptr bp 0) w (.int .i64 (n:Int)) v v (.int .i64 (ts.length:Int)) (.int .i64 (pre.length:Int)) f0 h):=by
 have hol:(st.drop n).length=ts.length:=by rw [List.length_drop];omega
 have hnn:st.length - ts.length=n:=by omega
 have htl:0<ts.length:=List.length_pos_iff.2 hts
 intro rest
 induction rest with
 |nil=>
  intro pre f0 n1 Hk htk hn1
  obtain ⟨n2,rfl⟩:∃n2,n1=n2+1:=⟨n1 - 1,by omega⟩
  rw [List.append_nil] at Hk
  subst Hk
  rw [Alc]
  refine Sx.Ag (Sx.Hf ..) ?_
  rw [show decide ((ts.length:Int)<(ts.length:Int))=false by simp,Sx.Dq]
  refine Sx.Ag (Sx.I0 ..) ?_
  refine Sx.Ag (Sx.E3 ..) ?_
  obtain ⟨sv,sv',h',p1,p2,p3,p4,p5,p6,p7⟩:=Am9 hb (n:=n) (by omega) he hl
  refine Sx.Ag (Sx.Di p1 trivial rfl) ?_
  refine Sx.Ag p2 ?_
  refine Sx.Ag (Sx.I0 ..) ?_
  refine Sx.Ag (Sx.E3 ..) ?_
  refine Sx.Ag p3 ?_
  have hv2:My h' v (st.drop n):=by
   have h2:h'=h.put bp (.cells [sv'] 105 .exact):=by
    have h3:=p3
    obtain ⟨svx,q1,q2⟩:=hb.at'
    rw [p1] at q1
    cases q1
    have hc:cellsOf sv'=some [sv']/\Bm [sv']=true:=by
     have Vt:0<st.length:=by omega
     rcases q2 with ⟨h5,_⟩|⟨b,cap,c,k,n',rfl,_,_,_,_,r6,_⟩
     . rw [h5] at Vt;simp at Vt
     . rw [Sx.Aau As7,Sx.Y1 (by omega) (by omega) r6] at p2
       cases p2
       exact ⟨rfl,rfl⟩
    rw [Sx.Adt,hc.1,Sx.AiA,if_pos ⟨rfl,hc.2⟩,Sx.As0,p1,Sx.Afa,Kh,if_pos (by simp),Sx.AiK,Sx.Agc] at h3
    simpa using (B4 h3).2.symm
   rw [h2]
   refine AuT (by intro hh;rw [hh] at hol;simp at hol;omega) hv p1 (λu x hx=>?_) hl hb.p2
   obtain ⟨svx,q1,q2⟩:=hb.at'
   rw [p1] at q1
   cases q1
   rcases q2 with ⟨_,h5⟩|⟨b,cap,c,k,n',h5,_⟩
   . rw [h5] at hx;cases hx
   . rw [h5] at hx;cases hx
  refine Sx.B0 p4 hm ⟨⟨by rw [p6];exact hk.1,λc hc Hr=>by rw [p7 c (by have:=hk.1;omega) Hr,hk.2 c hc Hr]⟩,.inl ⟨v,rfl,by omega,?_,by rw [hnn];exact hv2,by rw [hnn];exact p5⟩⟩
  rw [hnn,<- htk]
  rw [List.take_of_length_le (by simp;omega)]
 |cons b rest ih=>
  intro pre f0 n1 Hk htk hn1
  obtain ⟨n2,rfl⟩:∃n2,n1=n2+1:=⟨n1 - 1,by omega⟩
  have hlen:ts.length=pre.length+(rest.length+1):=by rw [Hk];simp
  simp only [List.length_cons] at hn1
  obtain ⟨t,ht⟩:∃t,(st.drop n)[pre.length]?=some t:=⟨(st.drop n)[pre.length]'(by omega),List.getElem?_eq_getElem (by omega)⟩
  have ht':st[n+pre.length]?=some t:=by simpa [List.getElem?_drop] using ht
  obtain ⟨c1,o1,cs1,e1,k1,p1,p2,p3,p4,p5⟩:=Ia hv ht
  obtain ⟨c2,o2,cs2,e2,k2,q1,q2,q3,q4,q5⟩:=Ia hw (i:=pre.length) (x:=b) (by rw [Hk];simp)
  rw [Alc]
  refine Sx.Ag (Sx.Hf ..) ?_
  rw [show decide ((pre.length:Int)<(ts.length:Int))=true by simp [hlen];omega,Sx.Ep]
  refine Sx.Ag (p1 h) ?_
  refine Sx.Ag (Sx.Di p2 p3 p5) ?_
  rw [h64,Sx.Hv,Sx.Te,q1,Sx.Hv,Sx.Te,Sx.Di (h:=Ab h) q2 q3 q5,Sx.Hv,Sx.Te,Sx.Aig tk4,Sx.Hv,Sx.Ais]
  by_cases hbt:F4 t=b
  . rw [show (true != (decide (9<=t.op) == b))=false by rw [<- hbt];simp [F4],Sx.Dq]
    refine Sx.Ag (v:=.int .i64 ((pre++[b]).length:Int)) (h:=h) (by rw [Sx.Uc,Sx.Cr];simp;omega;omega) ?_
    refine ih (pre++[b]) _ n2 (by rw [Hk];simp) ?_ (by omega)
    rw [List.length_append,List.length_singleton,List.take_add_one,htk]
    simp [ht',hbt]
  . rw [show (true != (decide (9<=t.op) == b))=true by
     have:(decide (9<=t.op) == b)=false:=by simpa [F4] using hbt
     rw [this];rfl,Sx.Ep]
    refine Sx.B0 he hm ⟨hk,.inr ⟨.Bv,rfl,λhh=>hbt ?_⟩⟩
    have h9:=congrArg (λl=>l[pre.length]?) hh.2
    rw [hnn,Hk] at h9
    simpa [ht'] using h9
theorem n108 (h64:H64 ctx) (A8d:A1l ctx) {h0 h:H} {bp m:Nat} {st:List Tr} {ts:List Bool} {w:AV} (hb:Ew h0.nx h bp st) (hts:ts≠[]) (hw:Afc h w ts) (he:Sx.Ext m h0 h) (hl:h.nx+3<=Bq) (Fc:st.length<=50000) (htl:ts.length<=50000) (hN:ts.length+1<=N):
 Sx.Cb (m+3) h0 (Ajo h0.nx bp st ts h) (Ay Tryz.prog ctx N true 108 [.ptr bp 0,w] h):=by
 have htp:0<ts.length:=List.length_pos_iff.2 hts
 obtain ⟨sv,q1,q2⟩:=hb.at'
 have Z3:∀h1:H,Fo sv h1=.ok (.int .i64 (st.length:Int)) h1:=by
  intro h1
  rcases q2 with ⟨rfl,rfl⟩|⟨b,cap,c,k,n',rfl,_⟩<;>rfl
 rw [A71]
 refine Sx.Ag (Sx.I0 ..) ?_
 refine Sx.Ag (Sx.E3 ..) ?_
 refine Sx.Ag (Sx.Di q1 trivial rfl) ?_
 refine Sx.Ag (Z3 h) ?_
 refine Sx.Ag hw.len ?_
 refine Sx.Ag (v:=.int .i64 ((st.length:Int) - (ts.length:Int))) (h:=h) (by rw [Sx.As3,Sx.Cr];omega;omega) ?_
 refine Sx.Ag (Sx.Hf ..) ?_
 by_cases B6:st.length<ts.length
 . rw [show decide ((st.length:Int) - (ts.length:Int)<0)=true by simp;omega,Sx.Ep]
   exact Sx.B0 he (by omega) ⟨⟨Nat.le_refl _,λ_ _ _=>rfl⟩,.inr ⟨.Bv,rfl,λhh=>by omega⟩⟩
 . rw [show decide ((st.length:Int) - (ts.length:Int)<0)=false by simp;omega,Sx.Dq]
   obtain ⟨n,hn⟩:∃n,n+ts.length=st.length:=⟨st.length - ts.length,by omega⟩
   rw [show (st.length:Int) - (ts.length:Int)=(n:Int) by omega]
   refine Sx.Ag (Sx.I0 ..) ?_
   refine Sx.Ag (Sx.E3 ..) ?_
   refine Sx.Ag (Sx.Di q1 trivial rfl) ?_
   rcases q2 with ⟨h5,_⟩|⟨b,cap,c,k,n',rfl,r2,r3,r4,r5,r6,r7,r8⟩
   . have h6:=congrArg List.length h5
     simp only [List.length_nil] at h6
     omega
   . refine Sx.Ag (v:=.sl b (0+n * 1) (st.length - n) (cap - n) 1 false) (h:=h) (by rw [Sx.Aav As7,Sx.Y1 (by omega) (by omega) (by omega)]) ?_
     have hv:My h (.sl b (0+n * 1) (st.length - n) (cap - n) 1 false) (st.drop n):=by
      refine ⟨.inr ⟨b,0+n * 1,cap - n,false,c,56,.Gt k,by simp [List.length_drop],by simp [List.length_drop];omega,r2,trivial,r8.2.2.1,by simp [List.length_drop];omega,?_⟩⟩
      rw [List.map_drop,<- r7,List.length_drop,Nat.zero_add,Nat.mul_one,Nat.mul_one,<- List.drop_take]
     refine Sx.Ic he (A8d h _ (st.drop n) hv (by intro hh;have:=congrArg List.length hh;simp [List.length_drop] at this;omega) (by simp [List.length_drop];omega) hl) λv h1 e1 e1' q=>?_
     have:=e1'.hi
     refine Sx.Ag q.len ?_
     rw [show (st.drop n).length=ts.length by rw [List.length_drop];omega]
     exact Aug ctx N h64 (hb.ext e1') hts hn q (hw.ext e1') e1 (by omega) (by omega) (by omega) ⟨e1'.lo,λc hc _=>e1'.Cf c hc⟩ ts [] _ N rfl (by simp) hN
theorem Ck (n x:Nat):∀l:List Nat,x∈wrote n l->x∈l
 |[],hx=>hx
 |b::l,hx=>by
  have hx':x∈(Bool.rec (motive:=λ_=>List Nat) (wrote n l) (b::wrote n l) (Nat.blt b n):List Nat):=hx
  cases hb:Nat.blt b n with
  |false=>rw [hb] at hx';exact List.mem_cons_of_mem _ (Ck n x l hx')
  |true=>
   rw [hb] at hx'
   rcases List.mem_cons.1 hx' with rfl|h
   . exact List.mem_cons_self ..
   . exact List.mem_cons_of_mem _ (Ck n x l h)
theorem Aeu (all:List EF):∀l:List EF,(∀e∈l,Q6 e.w=true\/E2 e all=true)->Iu all l=true
 |[],_=>rfl
 |e::l,h=>by
  have ih:=Aeu all l λx hx=>h x (List.mem_cons_of_mem _ hx)
  show (Bool.rec (motive:=λ_=>Bool) (Bool.rec (motive:=λ_=>Bool) false (Iu all l) (E2 e all)) (Iu all l) (Q6 e.w):Bool)=true
  rcases h e (List.mem_cons_self ..) with h1|h1
  . rw [h1];exact ih
  . rw [h1]
    cases Q6 e.w<;>exact ih
theorem Lm (l:List EF) (h:∀e∈l,Q6 e.w=true\/E2 e l=true):Lh l=true:=Aeu l l h
theorem ArF {h0 h:H} {bp m:Nat} {st:List Tr} {t:Tr} {y sv:AV} (hb:Ew h0.nx h bp st) (hg:h.m.get bp=.cells [sv] 105 .exact) (hy:My h y [t]) (he:Sx.Ext m h0 h) (hl:h.nx+2<=Bq) (Fc:st.length<=40000):
 ∃sv2 h2,Ds 56 1 16 sv y h=.ok sv2 h2/\Sx.Ext (m+2) h0 h2/\h.nx<=h2.nx/\(∀x∈h2.lg,x∈h.lg\/h0.nx<=x)/\h2.m.get bp=.cells [sv] 105 .exact/\cellsOf sv2=some [sv2]/\Bm [sv2]=true /\
  Ew h0.nx (h2.put bp (.cells [sv2] 105 .exact)) bp (st++[t]):=by
 have h1:=hb.p1
 have h2:=hb.p2
 have Kf:=he.lo
 obtain ⟨svx,q1,q2⟩:=hb.at'
 rw [hg] at q1
 cases q1
 rcases q2 with ⟨rfl,rfl⟩|⟨b,cap,c,k,n,rfl,r2,r3,r4,r5,r6,r7,r8,r9,r10,r11,r12,r13,r14⟩
 . obtain ⟨v,h3,s1,s2,s3⟩:=Sx.Aa2 (bytes:=16) (et:=56) (lo:=h.nx) hy (by simp) (by simp) (Tl [t]) (by omega) (Nat.le_refl _)
   have BeB:=s2.lo
   obtain ⟨b,k,n,rfl,t2,t3,t4,t5,t6,t7,t8⟩:=s3.at'
   refine ⟨_,h3,s1,he.trans s2,s2.lo,λx hx=>?_,by rw [s2.Cf bp h2];exact hg,rfl,rfl,⟨h1,by show bp<h3.nx;omega,_,Sx.Dz _ _ (by omega),.inr ⟨b,1,[t].map A3,k,n,rfl,?_,?_,rfl,Nat.le_refl _,by omega,rfl,by omega,by omega,t6,t7,t8,by omega,by omega⟩⟩⟩
   . rcases s2.lg x hx with h5|h5
     . exact .inl h5
     . exact .inr (by omega)
   . have:=s2.hi
     rw [Sx.Db _ _ _ (by omega) (by omega) (by omega)];exact t2
   . have:=s2.hi
     rw [Sx.Db _ _ _ (by omega) (by omega) (by omega)];exact t3
 . by_cases hc:st.length+1<=cap
   . -- in place
     have Jr:st.length+1<=c.length:=by omega
     have Du:Ds 56 1 16 (.sl b 0 st.length cap 1 false) y h=.ok (.sl b 0 (st.length+1) cap 1 false) ((h.put b (.cells (c.take st.length++[A3 t]++c.drop (st.length+1)) 56 (.Gt k))).put k (.Fb (n+1))):=by
      show (match Hd h 1 y with
       |some (n,new)=>C6 (.bad 121) (C6 (.bad 121) (C6 (.bad 121) (Lg ⟨56,1,16⟩ b 0 st.length cap 1 false n new h) (Nat.beq 1 1)) (Bm new)) (Gj ((st.length+n) * (16+1)))
       |none=>.bad 123)=_
      rw [hy.src]
      have h3:Nat.ble (Nat.add st.length [t].length) cap=true:=Nat.ble_eq_true_of_le (by simpa using hc)
      simp only [Tl,Sx.Fi,decide_eq_true (show (st.length+[t].length) * (16+1)<1000000000000 by simp;omega),Nat.beq_refl]
      show (C6 _ _ (Nat.ble (Nat.add st.length [t].length) cap):OR)=_
      rw [h3]
      show AgN b 0 st.length cap (Nat.add st.length [t].length) 1 false ([t].map A3) h=_
      unfold AgN
      rw [Sx.As0,r2,Sx.AuX,r3,Sx.Sn,Kh]
      simp only [Nat.zero_add,Nat.mul_one,List.map_cons,List.map_nil,List.length_cons,List.length_nil]
      rw [if_pos Jr,Sx.Asz]
     refine ⟨_,_,Du,((he.put b _ r8 (by omega)).put k _ r9 (by omega)).mono (by omega),Nat.le_refl _,λx hx=>?_,?_,rfl,rfl,⟨h1,h2,_,Sx.Dz _ _ (by omega),.inr ⟨b,cap,c.take st.length++[A3 t]++c.drop (st.length+1),k,n+1,by simp,?_,?_,?_,by simpa using hc,r6,?_,r8,r9,r10,r11,r12,r13,r14⟩⟩⟩
     . rcases List.mem_cons.1 hx with rfl|hx
       . exact .inr r9
       . rcases List.mem_cons.1 hx with rfl|hx
         . exact .inr r8
         . exact .inl hx
     . rw [Sx.Db _ _ _ (by omega) (by omega) (Ne.symm r14),Sx.Db _ _ _ (by omega) (by omega) (Ne.symm r13),hg]
     . rw [Sx.Db _ _ _ (by omega) (by omega) r13,Sx.Db _ _ _ (by omega) (by omega) r12,Sx.Dz _ _ (by omega)]
     . rw [Sx.Db _ _ _ (by omega) (by omega) r14,Sx.Dz _ _ (by omega)]
     . simp [List.length_take,List.length_drop];omega
     . rw [List.length_append,List.length_singleton,List.map_append,<- r7]
       rw [List.take_append_of_le_length (by simp [List.length_take];omega),List.take_of_length_le (by simp [List.length_take];omega)]
       rfl
   . have Ox:st.length=cap:=by omega
     have Du:=Sx.AgO (h:=h) (y:=y) (bytes:=16) (len:=st.length) (c:=c) r2 r3 (by omega) hy (by simp) (by simp;omega) (Tl [t])
     rw [<- Ox]
     have e1:Sx.Ext m h0 ((h.put b (.cells c 56 (.Cf k n))).put k (.Fb n)):=(he.put b _ r8 (by omega)).put k _ r9 (by omega)
     have hx:((h.put b (.cells c 56 (.Cf k n))).put k (.Fb n)).nx=h.nx:=rfl
     have hk:((h.put b (.cells c 56 (.Cf k n))).put k (.Fb n)).m.get k=.Fb n:=Sx.Dz _ _ (by omega)
     have hbp:((h.put b (.cells c 56 (.Cf k n))).put k (.Fb n)).m.get bp=.cells [.sl b 0 cap cap 1 false] 105 .exact:=by
      rw [Sx.Db _ _ _ (by omega) (by omega) (Ne.symm r14),Sx.Db _ _ _ (by omega) (by omega) (Ne.symm r13),hg,Ox]
     have hlg:∀x∈((h.put b (.cells c 56 (.Cf k n))).put k (.Fb n)).lg,x∈h.lg\/h0.nx<=x:=λx hx=>by
      rcases List.mem_cons.1 hx with rfl|hx
      . exact .inr r9
      . rcases List.mem_cons.1 hx with rfl|hx
        . exact .inr r8
        . exact .inl hx
     generalize ((h.put b (.cells c 56 (.Cf k n))).put k (.Fb n))=h3 at *
     refine ⟨_,_,Du,(e1.new _ (by omega)).mono (by omega),by show h.nx<=h3.nx+1;omega,hlg,?_,rfl,rfl,⟨h1,by show bp<h3.nx+1;omega,_,Sx.Dz _ _ (by omega),.inr ⟨h.nx,st.length+1,c++[t].map A3,k,n,by simp,?_,?_,?_,by simp,by omega,?_,by omega,r9,by show h.nx<h3.nx+1;omega,by show k<h3.nx+1;omega,by omega,by omega,r14⟩⟩⟩
     . rw [Sx.H3 _ _ (by omega) (by omega) (by omega),hbp,Ox]
     . rw [Sx.Db _ _ _ (by omega) (by omega) (by omega),<- hx]
       exact Sx.A6 _ (by omega)
     . rw [Sx.Db _ _ _ (by omega) (by omega) r14,Sx.H3 _ _ (by omega) (by omega) (by omega),hk]
     . simp;omega
     . rw [List.length_append,List.length_singleton,List.map_append,<- r7,List.take_of_length_le (by simp;omega),List.take_of_length_le (by omega)]
theorem Ew.Ab {lo bp:Nat} {h:H} {st:List Tr} (hb:Ew lo h bp st):Ew lo (Ab h) bp st:=⟨hb.p1,hb.p2,hb.at'⟩
theorem Ew.Be {lo bp:Nat} {h:H} {st:List Tr} (hb:Ew lo h bp st) (lg:List Nat):Ew lo (Be lg h) bp st:=⟨hb.p1,hb.p2,hb.at'⟩
theorem Od {h0 h:H} {bp m M:Nat} {st:List Tr} {t:Tr} {sv:AV} {Q:AV->H->Prop} {K:AV->H->AV->H->AV->H->AV->H->OR} (hb:Ew h0.nx h bp st) (hg:h.m.get bp=.cells [sv] 105 .exact) (he:Sx.Ext m h0 (Ab h)) (hl:h.nx+3<=Bq) (Fc:st.length<=40000)
 (hK:∀(sv2:AV) (h2:H),Sx.Ext (m+3) h0 ((Ab h2).put bp (.cells [sv2] 105 .exact))->(∀x∈h2.lg,h0.nx<=x)->Ew h0.nx ((Ab h2).put bp (.cells [sv2] 105 .exact)) bp (st++[t]) ->
  Sx.Cb M h0 Q (K sv2 h2 (.ptr bp 0) (Ab h2) (.ptr bp 0) (Ab h2) (.Bj []) ((Ab h2).put bp (.cells [sv2] 105 .exact)))):
 Sx.Cb M h0 Q (Aa (Ds 56 1 16 sv (.sl h.nx 0 1 1 1 true) (Ab ((Ab h).new (.cells [A3 t] 56 .exact)))) λv11 Kc=>Aa (Fu (.ptr bp 0) (Ab Kc)) λv12 Gd=>Aa (Bs v12 0 (Ab Gd)) λE0 It=>Aa (A4 1 E0 v11 (Ab It)) λEr Jz=>K v11 Kc v12 Gd E0 It Er Jz):=by
 have hp2:=hb.p2
 have hp1:=hb.p1
 have e1:=he.new (.cells [A3 t] 56 .exact) (by show h.nx<Bq;omega)
 have hy:My (Ab ((Ab h).new (.cells [A3 t] 56 .exact))) (.sl h.nx 0 1 1 1 true) [t]:=
  ⟨.inr ⟨h.nx,0,1,true,[t].map A3,56,.exact,rfl,Nat.le_refl _,Sx.A6 (h:=Ab h) _ (by show h.nx<Bq;omega),trivial,by show h.nx<h.nx+1;omega,by simp,by simp⟩⟩
 have Wg:Ew h0.nx (Ab ((Ab h).new (.cells [A3 t] 56 .exact))) bp st:=(hb.Ab.ext ((Sx.Ext.refl 0 (Ab h)).new _ (by show h.nx<Bq;omega))).Ab
 have hg2:(Ab ((Ab h).new (.cells [A3 t] 56 .exact))).m.get bp=.cells [sv] 105 .exact:=by
  show ((Ab h).new (.cells [A3 t] 56 .exact)).m.get bp=_
  rw [Sx.H3 _ _ (by show h.nx<Bq;omega) (by omega) (by show bp≠h.nx;omega)]
  exact hg
 obtain ⟨sv2,h2,p1,p2,p3,p4,p5,p6,p7,p8⟩:=ArF Wg hg2 hy e1.Ab (by show h.nx+1+2<=Bq;omega) Fc
 refine Sx.Ag p1 ?_
 refine Sx.Ag (Sx.I0 ..) ?_
 refine Sx.Ag (Sx.E3 ..) ?_
 refine Sx.Ag (v:=.Bj []) (h:=(Ab h2).put bp (.cells [sv2] 105 .exact)) (by rw [Sx.Adt,p6,Sx.AiA,if_pos ⟨rfl,p7⟩,Sx.As0];show AnU (wrO (h2.m.get bp) bp (0+0) [sv2] (Ab h2))=_;rw [p5,Sx.Afa,Kh,if_pos (by simp),Sx.AiK];rfl) ?_
 have hbn:=p8.p2
 refine hK _ h2 (p2.Ab.put bp _ hp1 ?_) (λx hx=>?_) ⟨p8.p1,p8.p2,p8.at'⟩
 . have:=p2.hi
   have:=e1.hi
   have h3:h.nx+1<=h2.nx:=p3
   omega
 . rcases p4 x hx with h5|h5
   . cases h5
   . exact h5
def Gf (st:List Tr) (ts:List Bool):Option (List Tr × List Tr):=
 if ts.length<=st.length/\(st.drop (st.length - ts.length)).map F4=ts then some (st.take (st.length - ts.length),st.drop (st.length - ts.length)) else none
def Fa (st:List Tr) (x:Nd):Option (List Tr):=
 if x.op<=3 then some (st++[.leaf x])
 else if x.op=7\/x.op=17 then (match Gf st [decide (x.op=17)] with|some (r,[a])=>some (r++[.one x.op a])|_=>none)
 else if x.op=8 then (match Gf st [true,false,false] with|some (r,[c,a,b])=>some (r++[.three c a b])|_=>none)
 else (match Gf st [decide (x.op=15)||decide (x.op=16),decide (x.op=15)||decide (x.op=16)] with|some (r,[a,b])=>some (r++[.two x.op a b])|_=>none)
def Vl (lo bp:Nat) (o:Option (List Tr)) (v:AV) (h:H):Prop:=
 match o with
 |some st=>v=.bool true/\Ew lo h bp st
 |none=>v=.bool false
theorem AcR {z:Nat} (h:z∈([]:List Nat)):False:=by cases h
theorem Akw {z bp lo:Nat} (hl:lo<=bp) (h:z∈bp::([]:List Nat)):lo<=z:=by
 rcases List.mem_cons.1 h with rfl|h
 . exact hl
 . cases h
theorem Auq {h0 h:H} {bp m:Nat} {st:List Tr} {x:Nd} (hx:x.op<=3) (hb:Ew h0.nx h bp st) (he:Sx.Ext m h0 h) (hl:h0.nx+m+20<=Bq) (Fc:st.length<=40000):
 Sx.Cb (m+10) h0 (Vl h0.nx bp (Fa st x)) (Ay Tryz.prog ctx N false 63 [.ptr bp 0,.agg (Bw x)] h):=by
 have hp2:=hb.p2
 have AmZ:=he.hi
 have Lp:Fa st x=some (st++[.leaf x]):=by unfold Fa;rw [if_pos hx]
 rw [Lp,e63]
 have e1:=he.new (.cells (Bw x) 32 .exact) (by omega)
 have Qy:=hb.ext ((Sx.Ext.refl 0 h).new (.cells (Bw x) 32 .exact) (by omega))
 have hg1:(h.new (.cells (Bw x) 32 .exact)).m.get h.nx=.cells (Bw x) 32 .exact:=Sx.A6 _ (by omega)
 have hn1:(h.new (.cells (Bw x) 32 .exact)).nx=h.nx+1:=rfl
 refine Sx.Ag (Sx.Hg ..) ?_
 generalize h.new (.cells (Bw x) 32 .exact)=h4 at *
 obtain ⟨sv,q1,q2⟩:=Qy.at'
 refine Sx.Ag (Sx.E3 ..) ?_
 refine Sx.Ag (Sx.Di hg1 trivial rfl) ?_
 refine Sx.Ag (Sx.As2 ..) ?_
 rw [decide_eq_true hx,Sx.Ep]
 refine Sx.Ag (Sx.I0 ..) ?_
 refine Sx.Ag (Sx.E3 ..) ?_
 refine Sx.Ag (Sx.Di (h:=Ab (Ab h4)) q1 trivial rfl) ?_
 refine Sx.Ag (Sx.Nr (h:=Ab (Ab (Ab h4))) hg1 trivial (by simp [Bw])) ?_
 refine Sx.Ag (v:=.agg (Bw x)) (h:=Ab h4) (by simp [Bw]) ?_
 refine Sx.Ag (v:=.sl h4.nx 0 1 1 1 true) (h:=(Ab (Ab h4)).new (.cells [A3 (.leaf x)] 56 .exact)) (by simp [A3]) ?_
 refine Od (h:=Ab h4) (t:=.leaf x) Qy.Ab q1 e1.Ab.Ab (by show h4.nx+3<=Bq;omega) Fc λsv2 h2 f1 f2 f3=>?_
 refine Sx.Jj ?_ ?_
 . refine Lm _ λe he=>?_
   simp only [List.mem_cons,List.not_mem_nil,or_false] at he
   rcases he with rfl|rfl|rfl|rfl|rfl|rfl|rfl|rfl|rfl|rfl|rfl|rfl|rfl
   all_goals first|exact .inl rfl|exact .inr (by simp (disch:=decide) only [Sx.Fz,Sx.Hw,Sx.Ci,Sx.Ar,Sx.Ax,Bool.and_self])
 . refine Sx.B0 (f1.Be _ λz hz=>?_) (by omega) ⟨rfl,f3.Be _⟩
   simp only [Sx.Ap,Sx.At,List.mem_append,List.not_mem_nil,false_or] at hz
   rcases hz with hz|hz|hz|hz|hz|hz|hz|hz|hz|hz|hz
   all_goals first|exact (AcR (Ck _ _ _ hz)).elim|exact .inr (f2 z (Ck _ _ _ hz))|exact .inr (Akw hb.p1 (Ck _ _ _ hz))|exact e1.lg z hz
abbrev Ad5:Prop:=∀{h0 h:H} {bp m:Nat} {st:List Tr} {ts:List Bool} {w:AV},Ew h0.nx h bp st->ts≠[]->Afc h w ts->Sx.Ext m h0 h->h.nx+3<=Bq->st.length<=40000->ts.length<=10->Sx.Cb (m+3) h0 (Ajo h0.nx bp st ts h) (ctx.call 108 [.ptr bp 0,w] h)
theorem A49 {α:Type} {l:List α} (h:l.length=1):∃a,l=[a]:=List.length_eq_one_iff.1 h
theorem AyZ {α:Type} {l:List α} (h:l.length=2):∃a b,l=[a,b]:=by
 match l,h with
 |[a,b],_=>exact ⟨a,b,rfl⟩
theorem A96 {α:Type} {l:List α} (h:l.length=3):∃a b c,l=[a,b,c]:=by
 match l,h with
 |[a,b,c],_=>exact ⟨a,b,c,rfl⟩
theorem Azv (Ov:Ad5 ctx) {h0 h:H} {bp m:Nat} {st:List Tr} {x:Nd} (hx:x.op=7) (hb:Ew h0.nx h bp st) (he:Sx.Ext m h0 h) (hl:h0.nx+m+20<=Bq) (Fc:st.length<=40000):
 Sx.Cb (m+10) h0 (Vl h0.nx bp (Fa st x)) (Ay Tryz.prog ctx N false 63 [.ptr bp 0,.agg (Bw x)] h):=by
 have hp2:=hb.p2
 have AmZ:=he.hi
 have Aq6:=he.lo
 have Lp:Fa st x=(match Gf st [decide (x.op=17)] with|some (r,[a])=>some (r++[.one x.op a])|_=>none):=by unfold Fa;rw [if_neg (by omega),if_pos (by omega)]
 rw [Lp,e63]
 have e1:=he.new (.cells (Bw x) 32 .exact) (by omega)
 have Qy:=hb.ext ((Sx.Ext.refl 0 h).new (.cells (Bw x) 32 .exact) (by omega))
 have hg1:(h.new (.cells (Bw x) 32 .exact)).m.get h.nx=.cells (Bw x) 32 .exact:=Sx.A6 _ (by omega)
 have hn1:(h.new (.cells (Bw x) 32 .exact)).nx=h.nx+1:=rfl
 refine Sx.Ag (Sx.Hg ..) ?_
 generalize h.new (.cells (Bw x) 32 .exact)=h4 at *
 have hno:¬ x.op<=3:=by omega
 have hd:decide (x.op=17)=false:=by simp [hx]
 repeat' (first|with_reducible (first|apply J4|apply J1|apply J5|apply Ko)|(with_reducible (first|apply Wx|apply Vz|apply Wy);(conv=>lhs;simp (disch:=first|exact Ce|fail) [lc,hg1,Bw,hx]);with_reducible (first|apply J4|apply J1|apply J5|apply Ko|(refine Y7 (by simp) ?_))))
 rw [hd]
 have e2:=e1.new (.cells [.bool false] 4 .exact) (by omega)
 have e2':=(Sx.Ext.refl 0 h4).new (.cells [.bool false] 4 .exact) (by omega)
 have hw:Afc (h4.new (.cells [.bool false] 4 .exact)) (.sl h4.nx 0 1 1 1 true) [false]:=⟨.inr ⟨h4.nx,0,1,true,[.bool false],4,.exact,rfl,Nat.le_refl _,Sx.A6 _ (by omega),trivial,by show h4.nx<h4.nx+1;omega,by simp,rfl⟩⟩
 have hg5:(h4.new (.cells [.bool false] 4 .exact)).m.get h.nx=.cells (Bw x) 32 .exact:=by rw [e2'.Cf _ (by omega)];exact hg1
 refine Sx.Jh (Ov (Qy.ext e2') (by simp) hw e2 (by show h4.nx+1+3<=Bq;omega) Fc (by simp)) λr Kr e3 Mh=>?_
 obtain ⟨⟨AhB,Pa⟩,Mh⟩:=Mh
 have Ac3:Kr.m.get h.nx=.cells (Bw x) 32 .exact:=by rw [Pa _ (by show h.nx<h4.nx+1;omega) (by omega)];exact hg5
 have hhi:=e3.hi
 rcases Mh with ⟨v,rfl,hle,heq,Zc,G8⟩|⟨v,rfl,Ac5⟩
 . have hlen:(st.drop (st.length - [false].length)).length=1:=by rw [List.length_drop];simp at hle ⊢;omega
   obtain ⟨a,ha⟩:∃a,st.drop (st.length - [false].length)=[a]:=A49 hlen
   have Hz:Gf st [false]=some (st.take (st.length - [false].length),[a]):=by unfold Gf;rw [if_pos ⟨hle,heq⟩,ha]
   rw [Hz]
   rw [ha] at Zc
   obtain ⟨b0,o0,cs0,ee0,k0,p10,p20,p30,p40,p50⟩:=Ia Zc (i:=0) (x:=a) rfl
   have p60:∀h1,Gc 1 v (.int .i64 0) h1=.ok (.ptr b0 o0) h1:=p10
   have p70:∀hh,rdO (.cells cs0 ee0 k0) hh=some cs0:=λhh=>Sx.Dc p30
   obtain ⟨sv,q1,q2⟩:=G8.at'
   repeat' (first|with_reducible (first|apply J4|apply J1|apply J5|apply Ko)|(with_reducible (first|apply Wx|apply Vz|apply Wy);(conv=>lhs;simp (disch:=first|exact Ce|fail) [lc,Ac3,q1,p60,p20,p70,p50,Bw]);with_reducible (first|apply J4|apply J1|apply J5|apply Ko|(refine Y7 (by simp) ?_))))
   refine Od (h:=Kr) (t:=.one x.op a) G8 q1 e3.Ab (by omega) (by rw [List.length_take];omega) λsv2 h2 f1 f2 f3=>?_
   refine Sx.Jj ?_ ?_
   . refine Lm _ λe he=>?_
     simp only [List.mem_cons,List.not_mem_nil,or_false] at he
     rcases he with rfl|rfl|rfl|rfl|rfl|rfl|rfl|rfl|rfl|rfl|rfl|rfl|rfl|rfl|rfl|rfl|rfl
     all_goals first|exact .inl rfl|exact .inr (by simp (disch:=decide) only [Sx.Fz,Sx.Hw,Sx.Ci,Sx.Ar,Sx.Ax,Bool.and_self])
   . refine Sx.B0 (f1.Be _ λz hz=>?_) (by omega) ⟨rfl,f3.Be _⟩
     simp only [Sx.Ap,Sx.At,List.mem_append,List.not_mem_nil,false_or] at hz
     repeat' (rcases hz with hz|hz)
     all_goals first|exact (AcR (Ck _ _ _ hz)).elim|exact .inr (f2 z (Ck _ _ _ hz))|exact .inr (Akw hb.p1 (Ck _ _ _ hz))|exact e3.lg z hz
 . have Hz:Gf st [false]=none:=by unfold Gf;rw [if_neg Ac5]
   rw [Hz]
   repeat' (first|with_reducible (first|apply J4|apply J1|apply J5|apply Ko)|(with_reducible (first|apply Wx|apply Vz|apply Wy);(conv=>lhs;simp (disch:=first|exact Ce|fail) [lc]);with_reducible (first|apply J4|apply J1|apply J5|apply Ko|(refine Y7 (by simp) ?_))))
   exact Sx.B0 e3 (by omega) rfl
theorem Azw (Ov:Ad5 ctx) {h0 h:H} {bp m:Nat} {st:List Tr} {x:Nd} (hx:x.op=17) (hb:Ew h0.nx h bp st) (he:Sx.Ext m h0 h) (hl:h0.nx+m+20<=Bq) (Fc:st.length<=40000):
 Sx.Cb (m+10) h0 (Vl h0.nx bp (Fa st x)) (Ay Tryz.prog ctx N false 63 [.ptr bp 0,.agg (Bw x)] h):=by
 have hp2:=hb.p2
 have AmZ:=he.hi
 have Aq6:=he.lo
 have Lp:Fa st x=(match Gf st [decide (x.op=17)] with|some (r,[a])=>some (r++[.one x.op a])|_=>none):=by unfold Fa;rw [if_neg (by omega),if_pos (by omega)]
 rw [Lp,e63]
 have e1:=he.new (.cells (Bw x) 32 .exact) (by omega)
 have Qy:=hb.ext ((Sx.Ext.refl 0 h).new (.cells (Bw x) 32 .exact) (by omega))
 have hg1:(h.new (.cells (Bw x) 32 .exact)).m.get h.nx=.cells (Bw x) 32 .exact:=Sx.A6 _ (by omega)
 have hn1:(h.new (.cells (Bw x) 32 .exact)).nx=h.nx+1:=rfl
 refine Sx.Ag (Sx.Hg ..) ?_
 generalize h.new (.cells (Bw x) 32 .exact)=h4 at *
 have hno:¬ x.op<=3:=by omega
 have hd:decide (x.op=17)=true:=by simp [hx]
 repeat' (first|with_reducible (first|apply J4|apply J1|apply J5|apply Ko)|(with_reducible (first|apply Wx|apply Vz|apply Wy);(conv=>lhs;simp (disch:=first|exact Ce|fail) [lc,hg1,Bw,hx]);with_reducible (first|apply J4|apply J1|apply J5|apply Ko|(refine Y7 (by simp) ?_))))
 rw [hd]
 have e2:=e1.new (.cells [.bool true] 4 .exact) (by omega)
 have e2':=(Sx.Ext.refl 0 h4).new (.cells [.bool true] 4 .exact) (by omega)
 have hw:Afc (h4.new (.cells [.bool true] 4 .exact)) (.sl h4.nx 0 1 1 1 true) [true]:=⟨.inr ⟨h4.nx,0,1,true,[.bool true],4,.exact,rfl,Nat.le_refl _,Sx.A6 _ (by omega),trivial,by show h4.nx<h4.nx+1;omega,by simp,rfl⟩⟩
 have hg5:(h4.new (.cells [.bool true] 4 .exact)).m.get h.nx=.cells (Bw x) 32 .exact:=by rw [e2'.Cf _ (by omega)];exact hg1
 refine Sx.Jh (Ov (Qy.ext e2') (by simp) hw e2 (by show h4.nx+1+3<=Bq;omega) Fc (by simp)) λr Kr e3 Mh=>?_
 obtain ⟨⟨AhB,Pa⟩,Mh⟩:=Mh
 have Ac3:Kr.m.get h.nx=.cells (Bw x) 32 .exact:=by rw [Pa _ (by show h.nx<h4.nx+1;omega) (by omega)];exact hg5
 have hhi:=e3.hi
 rcases Mh with ⟨v,rfl,hle,heq,Zc,G8⟩|⟨v,rfl,Ac5⟩
 . have hlen:(st.drop (st.length - [true].length)).length=1:=by rw [List.length_drop];simp at hle ⊢;omega
   obtain ⟨a,ha⟩:∃a,st.drop (st.length - [true].length)=[a]:=A49 hlen
   have Hz:Gf st [true]=some (st.take (st.length - [true].length),[a]):=by unfold Gf;rw [if_pos ⟨hle,heq⟩,ha]
   rw [Hz]
   rw [ha] at Zc
   obtain ⟨b0,o0,cs0,ee0,k0,p10,p20,p30,p40,p50⟩:=Ia Zc (i:=0) (x:=a) rfl
   have p60:∀h1,Gc 1 v (.int .i64 0) h1=.ok (.ptr b0 o0) h1:=p10
   have p70:∀hh,rdO (.cells cs0 ee0 k0) hh=some cs0:=λhh=>Sx.Dc p30
   obtain ⟨sv,q1,q2⟩:=G8.at'
   repeat' (first|with_reducible (first|apply J4|apply J1|apply J5|apply Ko)|(with_reducible (first|apply Wx|apply Vz|apply Wy);(conv=>lhs;simp (disch:=first|exact Ce|fail) [lc,Ac3,q1,p60,p20,p70,p50,Bw]);with_reducible (first|apply J4|apply J1|apply J5|apply Ko|(refine Y7 (by simp) ?_))))
   refine Od (h:=Kr) (t:=.one x.op a) G8 q1 e3.Ab (by omega) (by rw [List.length_take];omega) λsv2 h2 f1 f2 f3=>?_
   refine Sx.Jj ?_ ?_
   . refine Lm _ λe he=>?_
     simp only [List.mem_cons,List.not_mem_nil,or_false] at he
     rcases he with rfl|rfl|rfl|rfl|rfl|rfl|rfl|rfl|rfl|rfl|rfl|rfl|rfl|rfl|rfl|rfl|rfl
     all_goals first|exact .inl rfl|exact .inr (by simp (disch:=decide) only [Sx.Fz,Sx.Hw,Sx.Ci,Sx.Ar,Sx.Ax,Bool.and_self])
   . refine Sx.B0 (f1.Be _ λz hz=>?_) (by omega) ⟨rfl,f3.Be _⟩
     simp only [Sx.Ap,Sx.At,List.mem_append,List.not_mem_nil,false_or] at hz
     repeat' (rcases hz with hz|hz)
     all_goals first|exact (AcR (Ck _ _ _ hz)).elim|exact .inr (f2 z (Ck _ _ _ hz))|exact .inr (Akw hb.p1 (Ck _ _ _ hz))|exact e3.lg z hz
 . have Hz:Gf st [true]=none:=by unfold Gf;rw [if_neg Ac5]
   rw [Hz]
   repeat' (first|with_reducible (first|apply J4|apply J1|apply J5|apply Ko)|(with_reducible (first|apply Wx|apply Vz|apply Wy);(conv=>lhs;simp (disch:=first|exact Ce|fail) [lc]);with_reducible (first|apply J4|apply J1|apply J5|apply Ko|(refine Y7 (by simp) ?_))))
   exact Sx.B0 e3 (by omega) rfl
theorem A4G (Ov:Ad5 ctx) {h0 h:H} {bp m:Nat} {st:List Tr} {x:Nd} (hx:x.op=8) (hb:Ew h0.nx h bp st) (he:Sx.Ext m h0 h) (hl:h0.nx+m+20<=Bq) (Fc:st.length<=40000):
 Sx.Cb (m+10) h0 (Vl h0.nx bp (Fa st x)) (Ay Tryz.prog ctx N false 63 [.ptr bp 0,.agg (Bw x)] h):=by
 have hp2:=hb.p2
 have AmZ:=he.hi
 have Aq6:=he.lo
 have Lp:Fa st x=(match Gf st [true,false,false] with|some (r,[c,a,b])=>some (r++[.three c a b])|_=>none):=by unfold Fa;rw [if_neg (by omega),if_neg (by omega),if_pos hx]
 rw [Lp,e63]
 have e1:=he.new (.cells (Bw x) 32 .exact) (by omega)
 have Qy:=hb.ext ((Sx.Ext.refl 0 h).new (.cells (Bw x) 32 .exact) (by omega))
 have hg1:(h.new (.cells (Bw x) 32 .exact)).m.get h.nx=.cells (Bw x) 32 .exact:=Sx.A6 _ (by omega)
 have hn1:(h.new (.cells (Bw x) 32 .exact)).nx=h.nx+1:=rfl
 refine Sx.Ag (Sx.Hg ..) ?_
 generalize h.new (.cells (Bw x) 32 .exact)=h4 at *
 have hno:¬ x.op<=3:=by omega
 repeat' (first|with_reducible (first|apply J4|apply J1|apply J5|apply Ko)|(with_reducible (first|apply Wx|apply Vz|apply Wy);(conv=>lhs;simp (disch:=first|exact Ce|fail) [lc,hg1,Bw,hx]);with_reducible (first|apply J4|apply J1|apply J5|apply Ko|(refine Y7 (by simp) ?_))))
 have e2:=e1.new (.cells [.bool true,.bool false,.bool false] 4 .exact) (by omega)
 have e2':=(Sx.Ext.refl 0 h4).new (.cells [.bool true,.bool false,.bool false] 4 .exact) (by omega)
 have hw:Afc (h4.new (.cells [.bool true,.bool false,.bool false] 4 .exact)) (.sl h4.nx 0 3 3 1 true) [true,false,false]:=⟨.inr ⟨h4.nx,0,3,true,[.bool true,.bool false,.bool false],4,.exact,rfl,Nat.le_refl _,Sx.A6 _ (by omega),trivial,by show h4.nx<h4.nx+1;omega,by simp,rfl⟩⟩
 have hg5:(h4.new (.cells [.bool true,.bool false,.bool false] 4 .exact)).m.get h.nx=.cells (Bw x) 32 .exact:=by rw [e2'.Cf _ (by omega)];exact hg1
 refine Sx.Jh (Ov (Qy.ext e2') (by simp) hw e2 (by show h4.nx+1+3<=Bq;omega) Fc (by simp)) λr Kr e3 Mh=>?_
 obtain ⟨⟨AhB,Pa⟩,Mh⟩:=Mh
 have Ac3:Kr.m.get h.nx=.cells (Bw x) 32 .exact:=by rw [Pa _ (by show h.nx<h4.nx+1;omega) (by omega)];exact hg5
 have hhi:=e3.hi
 rcases Mh with ⟨v,rfl,hle,heq,Zc,G8⟩|⟨v,rfl,Ac5⟩
 . have hlen:(st.drop (st.length - [true,false,false].length)).length=3:=by rw [List.length_drop];simp at hle ⊢;omega
   obtain ⟨c,a,b,ha⟩:∃c a b,st.drop (st.length - [true,false,false].length)=[c,a,b]:=A96 hlen
   have Hz:Gf st [true,false,false]=some (st.take (st.length - [true,false,false].length),[c,a,b]):=by unfold Gf;rw [if_pos ⟨hle,heq⟩,ha]
   rw [Hz]
   rw [ha] at Zc
   obtain ⟨b0,o0,cs0,ee0,k0,p10,p20,p30,p40,p50⟩:=Ia Zc (i:=0) (x:=c) rfl
   have p60:∀h1,Gc 1 v (.int .i64 0) h1=.ok (.ptr b0 o0) h1:=p10
   have p70:∀hh,rdO (.cells cs0 ee0 k0) hh=some cs0:=λhh=>Sx.Dc p30
   obtain ⟨b1,o1,cs1,ee1,k1,p11,p21,p31,p41,p51⟩:=Ia Zc (i:=1) (x:=a) rfl
   have p61:∀h1,Gc 1 v (.int .i64 1) h1=.ok (.ptr b1 o1) h1:=p11
   have p71:∀hh,rdO (.cells cs1 ee1 k1) hh=some cs1:=λhh=>Sx.Dc p31
   obtain ⟨b2,o2,cs2,ee2,k2,p12,p22,p32,p42,p52⟩:=Ia Zc (i:=2) (x:=b) rfl
   have p62:∀h1,Gc 1 v (.int .i64 2) h1=.ok (.ptr b2 o2) h1:=p12
   have p72:∀hh,rdO (.cells cs2 ee2 k2) hh=some cs2:=λhh=>Sx.Dc p32
   obtain ⟨sv,q1,q2⟩:=G8.at'
   repeat' (first|with_reducible (first|apply J4|apply J1|apply J5|apply Ko)|(with_reducible (first|apply Wx|apply Vz|apply Wy);(conv=>lhs;simp (disch:=first|exact Ce|fail) [lc,Ac3,q1,p60,p20,p70,p50,p61,p21,p71,p51,p62,p22,p72,p52,Bw]);with_reducible (first|apply J4|apply J1|apply J5|apply Ko|(refine Y7 (by simp) ?_))))
   refine Od (h:=Kr) (t:=.three c a b) G8 q1 e3.Ab (by omega) (by rw [List.length_take];omega) λsv2 h2 f1 f2 f3=>?_
   refine Sx.Jj ?_ ?_
   . refine Lm _ λe he=>?_
     simp only [List.mem_cons,List.not_mem_nil,or_false] at he
     rcases he with rfl|rfl|rfl|rfl|rfl|rfl|rfl|rfl|rfl|rfl|rfl|rfl|rfl|rfl|rfl|rfl|rfl|rfl|rfl|rfl|rfl
     all_goals first|exact .inl rfl|exact .inr (by simp (disch:=decide) only [Sx.Fz,Sx.Hw,Sx.Ci,Sx.Ar,Sx.Ax,Bool.and_self])
   . refine Sx.B0 (f1.Be _ λz hz=>?_) (by omega) ⟨rfl,f3.Be _⟩
     simp only [Sx.Ap,Sx.At,List.mem_append,List.not_mem_nil,false_or] at hz
     repeat' (rcases hz with hz|hz)
     all_goals first|exact (AcR (Ck _ _ _ hz)).elim|exact .inr (f2 z (Ck _ _ _ hz))|exact .inr (Akw hb.p1 (Ck _ _ _ hz))|exact e3.lg z hz
 . have Hz:Gf st [true,false,false]=none:=by unfold Gf;rw [if_neg Ac5]
   rw [Hz]
   repeat' (first|with_reducible (first|apply J4|apply J1|apply J5|apply Ko)|(with_reducible (first|apply Wx|apply Vz|apply Wy);(conv=>lhs;simp (disch:=first|exact Ce|fail) [lc]);with_reducible (first|apply J4|apply J1|apply J5|apply Ko|(refine Y7 (by simp) ?_))))
   exact Sx.B0 e3 (by omega) rfl
end Go.Proofs
