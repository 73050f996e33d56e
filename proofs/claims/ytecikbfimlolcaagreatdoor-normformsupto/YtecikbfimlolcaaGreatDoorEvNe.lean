/- The builder of expressions: pop. The builder of expressions: push, add. -/
import Derived.Test.YtecikbfimlolcaaGreatDoorEvNd
import Derived.Test.YtecikbfimlolcaaGreatDoorEvQb
set_option maxRecDepth 100000
set_option linter.unusedSimpArgs false
set_option linter.unusedVariables false
set_option linter.unusedSectionVars false
namespace Go.Proofs
open Go Go.Ev Go.Nm
attribute [local irreducible] Aa Aj Ah Ac
variable [Lim]
variable (ctx:Ae) (N:Nat)
theorem xi103:Gn PP 103=.sl ⟨56,1,16⟩:=by kernel_rfl
theorem tk103:tk PP 103=.slice:=by kernel_rfl
theorem tk4:tk PP 4=.bool:=by kernel_rfl
theorem one_reps:∀ l:List Tr,Bn (l.map Ax)=true
 |[]=>rfl
 |t::l=>by simp [one_reps l]
theorem n173 (h:H) (v:AV) (ts:List Tr) (hv:TrsAt h v ts) (hp:ts≠[]) (hsz:ts.length<=50000) (hr:h.nx+3<=Bh):
 Sx.B3 3 h (fun v h'=>TrsAt h' v ts) (An Tryz.prog ctx N true 173 [v] h):=by
 rw [e173]
 have hlp:0<ts.length:=List.length_pos_iff.2 hp
 have hv':=hv
 rcases hv.at' with ⟨h1,_,_⟩|⟨b,off,cap,ex,cs,e,k,rfl,_⟩
 . omega
 . refine Sx.Ag (Sx.eql_nsl tk103 ..) ?_
   rw [Sx.Dg]
   refine Sx.Ag (v:=.sl h.nx 0 0 0 1 true) (h:=h.new (.cells [] 56 .exact)) (by simp) ?_
   have e1:=(Sx.Ext.refl 0 h).new (.cells [] 56 .exact) (by omega)
   refine Sx.gets_bind e1 (Sx.app_empty (lo:=0) (Sx.Az _ (by omega)) (hv'.ext e1) hlp (by omega) (one_reps ts) (by show h.nx+1+2<=Bh;omega) (by omega)) fun v h1 e2 _ q=>?_
   exact Sx.Bs e2 (by omega) q.sl
structure Eo (lo:Nat) (h:H) (bp:Nat) (st:List Tr):Prop where
 p1:lo<=bp
 p2:bp<h.nx
 at':∃ sv,h.m.get bp=.cells [sv] 105 .exact/\((st=[]/\sv=.Cb)\/∃ b cap c k n,sv=.sl b 0 st.length cap 1 false/\h.m.get b=.cells c 56 (.Fz k)/\h.m.get k=.ctr n/\c.length=cap/\st.length<=cap/\0<cap /\
  c.take st.length=st.map Ax/\lo<=b/\lo<=k/\b<h.nx/\k<h.nx/\b≠k/\b≠bp/\k≠bp)
theorem Eo.ext {lo n bp:Nat} {h h1:H} {st:List Tr} (hb:Eo lo h bp st) (e:Sx.Ext n h h1):Eo lo h1 bp st:=by
 obtain ⟨sv,q1,q2⟩:=hb.at'
 refine ⟨hb.p1,Nat.lt_of_lt_of_le hb.p2 e.lo,sv,by rw [e.old bp hb.p2];exact q1,?_⟩
 rcases q2 with q2|⟨b,cap,c,k,n,r1,r2,r3,r4,r5,r6,r7,r8,r9,r10,r11,r12⟩
 . exact .inl q2
 . exact .inr ⟨b,cap,c,k,n,r1,by rw [e.old b r10];exact r2,by rw [e.old k r11];exact r3,r4,r5,r6,r7,r8,r9,Nat.lt_of_lt_of_le r10 e.lo,Nat.lt_of_lt_of_le r11 e.lo,r12⟩
abbrev BsAt (h:H) (v:AV) (l:List Bool):Prop:=Sx.SlAt 1 h v l.length (l.map AV.bool)
abbrev H173:Prop:=∀ (h:H) (v:AV) (ts:List Tr),TrsAt h v ts->ts≠[]->ts.length<=50000->h.nx+3<=Bh->Sx.B3 3 h (fun v h'=>TrsAt h' v ts) (ctx.call 173 [v] h)
abbrev H64:Prop:=∀ (t:Tr) (h:H),ctx.call 64 [Ax t] h=.ok (.bool (decide (9<=t.op))) h
def Gl (t:Tr):Bool:=decide (9<=t.op)
theorem at_elem {α:Type} {f:α->AV} {h:H} {v:AV} {l:List α} (hs:Sx.SlAt 1 h v l.length (l.map f)) {i:Nat} {x:α} (hx:l[i]?=some x):
 ∃ b o cs e k,(∀ h1,E3 1 v (.int .i64 (i:Int)) h1=.ok (.ptr b o) h1)/\h.m.get b=.cells cs e k/\Sx.readable k/\b<h.nx/\cs[o]?=some (f x):=by
 have hi:i<l.length:=(List.getElem?_eq_some_iff.1 hx).1
 obtain ⟨b,o,cs,e,k,p1,p2,p3,p4,p5,p6⟩:=hs.ia hi
 refine ⟨b,o,cs,e,k,p1,p2,p3,p4,?_⟩
 have h7:((cs.drop o).take 1)[0]?=(((l.map f).drop (i * 1)).take 1)[0]?:=by rw [p6]
 simpa [List.getElem?_take,List.getElem?_drop,hx] using h7
theorem cut_stack {h0 h:H} {bp n m:Nat} {st:List Tr} (hb:Eo h0.nx h bp st) (hn:n<st.length) (he:Sx.Ext m h0 h) (hl:h.nx<=Bh):
 ∃ sv sv' h',h.m.get bp=.cells [sv] 105 .exact/\xSl Tryz.prog 103 sv none (some (.int .i64 (n:Int))) h=.ok sv' h/\Ao 1 (.ptr bp 0) sv' h=.ok (.Bl []) h'/\Sx.Ext m h0 h'/\Eo h0.nx h' bp (st.take n)/\h'.nx=h.nx/\∀ c,c<h.nx->c≠bp->h'.m.get c=h.m.get c:=by
 obtain ⟨sv,q1,q2⟩:=hb.at'
 rcases q2 with ⟨rfl,_⟩|⟨b,cap,c,k,n',rfl,r2,r3,r4,r5,r6,r7,r8,r9,r10,r11,r12,r13,r14⟩
 . simp at hn
 . have h2:=hb.p2
   have h1:=hb.p1
   have hlo:=he.lo
   refine ⟨_,.sl b 0 n cap 1 false,h.put bp (.cells [.sl b 0 n cap 1 false] 105 .exact),q1,?_,?_,he.put bp _ h1 (by omega),⟨h1,h2,_,Sx.Dp _ _ (by omega),.inr ⟨b,cap,c,k,n',?_,?_,?_,r4,?_,r6,?_,r8,r9,r10,r11,r12,r13,r14⟩⟩,rfl,fun c hc hne=>Sx.C3 _ _ _ (by omega) (by omega) hne⟩
   . rw [Sx.xSl_hi xi103,Sx.slSl_ok (by omega) (by omega) r6]
     simp
   . simp [q1,lput_eq]
   . simp [List.length_take];omega
   . rw [Sx.C3 _ _ _ (by omega) (by omega) (by omega),r2]
   . rw [Sx.C3 _ _ _ (by omega) (by omega) (by omega),r3]
   . simp [List.length_take];omega
   . rw [List.length_take,Nat.min_eq_left (by omega),List.map_take,<- r7,List.take_take,Nat.min_eq_left (by omega)]
theorem rep_ifc (t:Tr):∃ u x,Ax t=.ifc u x:=by cases t<;>exact ⟨_,_,rfl⟩
theorem trs_put {h:H} {bp:Nat} {v sv:AV} {o:AO} {ts:List Tr} (hts:ts≠[]) (hv:TrsAt h v ts) (hg:h.m.get bp=.cells [sv] 105 .exact) (hsv:∀ u x,sv≠.ifc u x) (hl:h.nx<=Bh) (hbp:bp<h.nx):TrsAt (h.put bp o) v ts:=by
 rcases hv.at' with h1|⟨b,off,cap,ex,cs,e,k,rfl,q2,q3,q4,q5,q6,q7⟩
 . exact ⟨.inl h1⟩
 . by_cases hb:b=bp
   . subst hb
     rw [hg] at q3
     cases q3
     cases ts with
     |nil=>exact absurd rfl hts
     |cons t ts=>
      exfalso
      obtain ⟨u,x,hx⟩:=rep_ifc t
      simp only [List.length_cons,List.length_nil,List.map_cons] at q6 q7
      have h0:off=0:=by omega
      subst h0
      rw [List.drop_zero] at q7
      have h8:=congrArg (fun l=>l[0]?) q7
      simp [List.getElem?_take] at h8
      exact hsv u x (h8.trans hx)
   . exact ⟨.inr ⟨b,off,cap,ex,cs,e,k,rfl,q2,by rw [Sx.C3 _ _ _ (by omega) (by omega) hb];exact q3,q4,q5,q6,q7⟩⟩
def Popped (lo bp:Nat) (st:List Tr) (ts:List Bool) (hi:H) (r:AV) (h:H):Prop:=
 (hi.nx<=h.nx/\∀ c,c<hi.nx->c≠bp->h.m.get c=hi.m.get c) /\
 ((∃ v,r=.Bl [v,.bool true]/\ts.length<=st.length/\(st.drop (st.length - ts.length)).map Gl=ts/\TrsAt h v (st.drop (st.length - ts.length))/\Eo lo h bp (st.take (st.length - ts.length))) \/
 (∃ v,r=.Bl [v,.bool false]/\¬ (ts.length<=st.length/\(st.drop (st.length - ts.length)).map Gl=ts)))
theorem loop108 (h64:H64 ctx) {h0 h hi:H} {bp m M n:Nat} {st:List Tr} {ts:List Bool} {v w:AV} (hb:Eo h0.nx h bp st) (hts:ts≠[]) (hn:n+ts.length=st.length) (hv:TrsAt h v (st.drop n)) (hw:BsAt h w ts) (he:Sx.Ext m h0 h) (hl:h.nx<=Bh) (hm:m<=M) (hsz:st.length<=100000) (hk:hi.nx<=h.nx/\∀ c,c<hi.nx->c≠bp->h.m.get c=hi.m.get c):
 ∀ (rest pre:List Bool) (f0:L2) (n1:Nat),ts=pre++rest->((st.drop n).map Gl).take pre.length=pre->rest.length+1<=n1 ->
  Sx.B3 M h0 (Popped h0.nx bp st ts hi) (L108x1 ctx N n1 (.ptr bp 0) w (.int .i64 (n:Int)) v v (.int .i64 (ts.length:Int)) (.int .i64 (pre.length:Int)) f0 h):=by
 have hol:(st.drop n).length=ts.length:=by rw [List.length_drop];omega
 have hnn:st.length - ts.length=n:=by omega
 have htl:0<ts.length:=List.length_pos_iff.2 hts
 intro rest
 induction rest with
 |nil=>
  intro pre f0 n1 hpre htk hn1
  obtain ⟨n2,rfl⟩:∃ n2,n1=n2+1:=⟨n1 - 1,by omega⟩
  rw [List.append_nil] at hpre
  subst hpre
  rw [L108x1s]
  refine Sx.Ag (Sx.Fa ..) ?_
  rw [show decide ((ts.length:Int)<(ts.length:Int))=false by simp,Sx.Dg]
  refine Sx.Ag (Sx.xNil_ptr ..) ?_
  refine Sx.Ag (Sx.Cz ..) ?_
  obtain ⟨sv,sv',h',p1,p2,p3,p4,p5,p6,p7⟩:=cut_stack hb (n:=n) (by omega) he hl
  refine Sx.Ag (Sx.Da p1 trivial rfl) ?_
  refine Sx.Ag p2 ?_
  refine Sx.Ag (Sx.xNil_ptr ..) ?_
  refine Sx.Ag (Sx.Cz ..) ?_
  refine Sx.Ag p3 ?_
  have hv2:TrsAt h' v (st.drop n):=by
   have h2:h'=h.put bp (.cells [sv'] 105 .exact):=by
    have h3:=p3
    obtain ⟨svx,q1,q2⟩:=hb.at'
    rw [p1] at q1
    cases q1
    have hc:cellsOf sv'=some [sv']/\Bn [sv']=true:=by
     have hst:0<st.length:=by omega
     rcases q2 with ⟨h5,_⟩|⟨b,cap,c,k,n',rfl,_,_,_,_,r6,_⟩
     . rw [h5] at hst;simp at hst
     . rw [Sx.xSl_hi xi103,Sx.slSl_ok (by omega) (by omega) r6] at p2
       cases p2
       exact ⟨rfl,rfl⟩
    rw [Sx.xStore_ptr,hc.1,Sx.stC_some,if_pos ⟨rfl,hc.2⟩,Sx.wr_eq,p1,Sx.wrO_exact,lput_eq,if_pos (by simp),Sx.wrL_some,Sx.resH_ok] at h3
    simpa using (By h3).2.symm
   rw [h2]
   refine trs_put (by intro hh;rw [hh] at hol;simp at hol;omega) hv p1 (fun u x hx=>?_) hl hb.p2
   obtain ⟨svx,q1,q2⟩:=hb.at'
   rw [p1] at q1
   cases q1
   rcases q2 with ⟨_,h5⟩|⟨b,cap,c,k,n',h5,_⟩
   . rw [h5] at hx;cases hx
   . rw [h5] at hx;cases hx
  refine Sx.Bs p4 hm ⟨⟨by rw [p6];exact hk.1,fun c hc hne=>by rw [p7 c (by have:=hk.1;omega) hne,hk.2 c hc hne]⟩,.inl ⟨v,rfl,by omega,?_,by rw [hnn];exact hv2,by rw [hnn];exact p5⟩⟩
  rw [hnn,<- htk]
  rw [List.take_of_length_le (by simp;omega)]
 |cons b rest ih=>
  intro pre f0 n1 hpre htk hn1
  obtain ⟨n2,rfl⟩:∃ n2,n1=n2+1:=⟨n1 - 1,by omega⟩
  have hlen:ts.length=pre.length+(rest.length+1):=by rw [hpre];simp
  simp only [List.length_cons] at hn1
  obtain ⟨t,ht⟩:∃ t,(st.drop n)[pre.length]?=some t:=⟨(st.drop n)[pre.length]'(by omega),List.getElem?_eq_getElem (by omega)⟩
  have ht':st[n+pre.length]?=some t:=by simpa [List.getElem?_drop] using ht
  obtain ⟨c1,o1,cs1,e1,k1,p1,p2,p3,p4,p5⟩:=at_elem hv ht
  obtain ⟨c2,o2,cs2,e2,k2,q1,q2,q3,q4,q5⟩:=at_elem hw (i:=pre.length) (x:=b) (by rw [hpre];simp)
  rw [L108x1s]
  refine Sx.Ag (Sx.Fa ..) ?_
  rw [show decide ((pre.length:Int)<(ts.length:Int))=true by simp [hlen];omega,Sx.Ef]
  refine Sx.Ag (p1 h) ?_
  refine Sx.Ag (Sx.Da p2 p3 p5) ?_
  rw [h64,Sx.bindQ_noLog,Sx.noLog_noLog,q1,Sx.bindQ_noLog,Sx.noLog_noLog,Sx.Da (h:=Ab h) q2 q3 q5,Sx.bindQ_noLog,Sx.noLog_noLog,Sx.neq_bool tk4,Sx.bindQ_noLog,Sx.reLog_noLog]
  by_cases hbt:Gl t=b
  . rw [show (true != (decide (9<=t.op) == b))=false by rw [<- hbt];simp [Gl],Sx.Dg]
    refine Sx.Ag (v:=.int .i64 ((pre++[b]).length:Int)) (h:=h) (by rw [Sx.xBin_add,Sx.Cg];simp;omega;omega) ?_
    refine ih (pre++[b]) _ n2 (by rw [hpre];simp) ?_ (by omega)
    rw [List.length_append,List.length_singleton,List.take_add_one,htk]
    simp [ht',hbt]
  . rw [show (true != (decide (9<=t.op) == b))=true by
     have:(decide (9<=t.op) == b)=false:=by simpa [Gl] using hbt
     rw [this];rfl,Sx.Ef]
    refine Sx.Bs he hm ⟨hk,.inr ⟨.Cb,rfl,fun hh=>hbt ?_⟩⟩
    have h9:=congrArg (fun l=>l[pre.length]?) hh.2
    rw [hnn,hpre] at h9
    simpa [ht'] using h9
theorem n108 (h64:H64 ctx) (h173:H173 ctx) {h0 h:H} {bp m:Nat} {st:List Tr} {ts:List Bool} {w:AV} (hb:Eo h0.nx h bp st) (hts:ts≠[]) (hw:BsAt h w ts) (he:Sx.Ext m h0 h) (hl:h.nx+3<=Bh) (hsz:st.length<=50000) (htl:ts.length<=50000) (hN:ts.length+1<=N):
 Sx.B3 (m+3) h0 (Popped h0.nx bp st ts h) (An Tryz.prog ctx N true 108 [.ptr bp 0,w] h):=by
 have htp:0<ts.length:=List.length_pos_iff.2 hts
 obtain ⟨sv,q1,q2⟩:=hb.at'
 have hsl:∀ h1:H,Ft sv h1=.ok (.int .i64 (st.length:Int)) h1:=by
  intro h1
  rcases q2 with ⟨rfl,rfl⟩|⟨b,cap,c,k,n',rfl,_⟩<;>rfl
 rw [e108]
 refine Sx.Ag (Sx.xNil_ptr ..) ?_
 refine Sx.Ag (Sx.Cz ..) ?_
 refine Sx.Ag (Sx.Da q1 trivial rfl) ?_
 refine Sx.Ag (hsl h) ?_
 refine Sx.Ag hw.len ?_
 refine Sx.Ag (v:=.int .i64 ((st.length:Int) - (ts.length:Int))) (h:=h) (by rw [Sx.xBin_sub,Sx.Cg];omega;omega) ?_
 refine Sx.Ag (Sx.Fa ..) ?_
 by_cases hlt:st.length<ts.length
 . rw [show decide ((st.length:Int) - (ts.length:Int)<0)=true by simp;omega,Sx.Ef]
   exact Sx.Bs he (by omega) ⟨⟨Nat.le_refl _,fun _ _ _=>rfl⟩,.inr ⟨.Cb,rfl,fun hh=>by omega⟩⟩
 . rw [show decide ((st.length:Int) - (ts.length:Int)<0)=false by simp;omega,Sx.Dg]
   obtain ⟨n,hn⟩:∃ n,n+ts.length=st.length:=⟨st.length - ts.length,by omega⟩
   rw [show (st.length:Int) - (ts.length:Int)=(n:Int) by omega]
   refine Sx.Ag (Sx.xNil_ptr ..) ?_
   refine Sx.Ag (Sx.Cz ..) ?_
   refine Sx.Ag (Sx.Da q1 trivial rfl) ?_
   rcases q2 with ⟨h5,_⟩|⟨b,cap,c,k,n',rfl,r2,r3,r4,r5,r6,r7,r8⟩
   . have h6:=congrArg List.length h5
     simp only [List.length_nil] at h6
     omega
   . refine Sx.Ag (v:=.sl b (0+n * 1) (st.length - n) (cap - n) 1 false) (h:=h) (by rw [Sx.xSl_lo xi103,Sx.slSl_ok (by omega) (by omega) (by omega)]) ?_
     have hv:TrsAt h (.sl b (0+n * 1) (st.length - n) (cap - n) 1 false) (st.drop n):=by
      refine ⟨.inr ⟨b,0+n * 1,cap - n,false,c,56,.Fz k,by simp [List.length_drop],by simp [List.length_drop];omega,r2,trivial,r8.2.2.1,by simp [List.length_drop];omega,?_⟩⟩
      rw [List.map_drop,<- r7,List.length_drop,Nat.zero_add,Nat.mul_one,Nat.mul_one,<- List.drop_take]
     refine Sx.gets_bind he (h173 h _ (st.drop n) hv (by intro hh;have:=congrArg List.length hh;simp [List.length_drop] at this;omega) (by simp [List.length_drop];omega) hl) fun v h1 e1 e1' q=>?_
     have:=e1'.hi
     refine Sx.Ag q.len ?_
     rw [show (st.drop n).length=ts.length by rw [List.length_drop];omega]
     exact loop108 ctx N h64 (hb.ext e1') hts hn q (hw.ext e1') e1 (by omega) (by omega) (by omega) ⟨e1'.lo,fun c hc _=>e1'.old c hc⟩ ts [] _ N rfl (by simp) hN
end Go.Proofs
namespace Go.Proofs
open Go Go.Ev Go.Nm
attribute [local irreducible] Aa Aj Ah Ac
variable [Lim]
variable (ctx:Ae) (N:Nat)
theorem Cc (n x:Nat):∀ l:List Nat,x∈wrote n l->x∈l
 |[],hx=>hx
 |b::l,hx=>by
  have hx':x∈(Bool.rec (motive:=fun _=>List Nat) (wrote n l) (b::wrote n l) (Nat.blt b n):List Nat):=hx
  cases hb:Nat.blt b n with
  |false=>rw [hb] at hx';exact List.mem_cons_of_mem _ (Cc n x l hx')
  |true=>
   rw [hb] at hx'
   rcases List.mem_cons.1 hx' with rfl|h
   . exact List.mem_cons_self ..
   . exact List.mem_cons_of_mem _ (Cc n x l h)
theorem effGo_all (all:List EF):∀ l:List EF,(∀ e∈l,nilN e.w=true\/Fm e all=true)->effGo all l=true
 |[],_=>rfl
 |e::l,h=>by
  have ih:=effGo_all all l fun x hx=>h x (List.mem_cons_of_mem _ hx)
  show (Bool.rec (motive:=fun _=>Bool) (Bool.rec (motive:=fun _=>Bool) false (effGo all l) (Fm e all)) (effGo all l) (nilN e.w):Bool)=true
  rcases h e (List.mem_cons_self ..) with h1|h1
  . rw [h1];exact ih
  . rw [h1]
    cases nilN e.w<;>exact ih
theorem effOk_all (l:List EF) (h:∀ e∈l,nilN e.w=true\/Fm e l=true):effOk l=true:=effGo_all l l h
theorem push_app {h0 h:H} {bp m:Nat} {st:List Tr} {t:Tr} {y sv:AV} (hb:Eo h0.nx h bp st) (hg:h.m.get bp=.cells [sv] 105 .exact) (hy:TrsAt h y [t]) (he:Sx.Ext m h0 h) (hl:h.nx+2<=Bh) (hsz:st.length<=40000):
 ∃ sv2 h2,xApp 56 1 16 sv y h=.ok sv2 h2/\Sx.Ext (m+2) h0 h2/\h.nx<=h2.nx/\(∀ x∈h2.lg,x∈h.lg\/h0.nx<=x)/\h2.m.get bp=.cells [sv] 105 .exact/\cellsOf sv2=some [sv2]/\Bn [sv2]=true /\
  Eo h0.nx (h2.put bp (.cells [sv2] 105 .exact)) bp (st++[t]):=by
 have h1:=hb.p1
 have h2:=hb.p2
 have hlo:=he.lo
 obtain ⟨svx,q1,q2⟩:=hb.at'
 rw [hg] at q1
 cases q1
 rcases q2 with ⟨rfl,rfl⟩|⟨b,cap,c,k,n,rfl,r2,r3,r4,r5,r6,r7,r8,r9,r10,r11,r12,r13,r14⟩
 . obtain ⟨v,h3,s1,s2,s3⟩:=Sx.app_nil_tip (bytes:=16) (et:=56) (lo:=h.nx) hy (by simp) (by simp) (one_reps [t]) (by omega) (Nat.le_refl _)
   have hlo3:=s2.lo
   obtain ⟨b,k,n,rfl,t2,t3,t4,t5,t6,t7,t8⟩:=s3.at'
   refine ⟨_,h3,s1,he.trans s2,s2.lo,fun x hx=>?_,by rw [s2.old bp h2];exact hg,rfl,rfl,⟨h1,by show bp<h3.nx;omega,_,Sx.Dp _ _ (by omega),.inr ⟨b,1,[t].map Ax,k,n,rfl,?_,?_,rfl,Nat.le_refl _,by omega,rfl,by omega,by omega,t6,t7,t8,by omega,by omega⟩⟩⟩
   . rcases s2.lg x hx with h5|h5
     . exact .inl h5
     . exact .inr (by omega)
   . have:=s2.hi
     rw [Sx.C3 _ _ _ (by omega) (by omega) (by omega)];exact t2
   . have:=s2.hi
     rw [Sx.C3 _ _ _ (by omega) (by omega) (by omega)];exact t3
 . by_cases hc:st.length+1<=cap
   . -- in place
     have hlen1:st.length+1<=c.length:=by omega
     have hrun:xApp 56 1 16 (.sl b 0 st.length cap 1 false) y h=.ok (.sl b 0 (st.length+1) cap 1 false) ((h.put b (.cells (c.take st.length++[Ax t]++c.drop (st.length+1)) 56 (.Fz k))).put k (.ctr (n+1))):=by
      show (match srcOf h 1 y with
       |some (n,new)=>Dz (.bad 121) (Dz (.bad 121) (Dz (.bad 121) (appSl ⟨56,1,16⟩ b 0 st.length cap 1 false n new h) (Nat.beq 1 1)) (Bn new)) (Gq ((st.length+n) * (16+1)))
       |none=>.bad 123)=_
      rw [hy.src]
      have h3:Nat.ble (Nat.add st.length [t].length) cap=true:=Nat.ble_eq_true_of_le (by simpa using hc)
      simp only [one_reps,Sx.Fu,decide_eq_true (show (st.length+[t].length) * (16+1)<1000000000000 by simp;omega),Nat.beq_refl]
      show (Dz _ _ (Nat.ble (Nat.add st.length [t].length) cap):OR)=_
      rw [h3]
      show appIn b 0 st.length cap (Nat.add st.length [t].length) 1 false ([t].map Ax) h=_
      unfold appIn
      rw [Sx.wr_eq,r2,Sx.wrO_tip,r3,Sx.ctrN_ctr,lput_eq]
      simp only [Nat.zero_add,Nat.mul_one,List.map_cons,List.map_nil,List.length_cons,List.length_nil]
      rw [if_pos hlen1,Sx.wrT_some]
     refine ⟨_,_,hrun,((he.put b _ r8 (by omega)).put k _ r9 (by omega)).mono (by omega),Nat.le_refl _,fun x hx=>?_,?_,rfl,rfl,⟨h1,h2,_,Sx.Dp _ _ (by omega),.inr ⟨b,cap,c.take st.length++[Ax t]++c.drop (st.length+1),k,n+1,by simp,?_,?_,?_,by simpa using hc,r6,?_,r8,r9,r10,r11,r12,r13,r14⟩⟩⟩
     . rcases List.mem_cons.1 hx with rfl|hx
       . exact .inr r9
       . rcases List.mem_cons.1 hx with rfl|hx
         . exact .inr r8
         . exact .inl hx
     . rw [Sx.C3 _ _ _ (by omega) (by omega) (Ne.symm r14),Sx.C3 _ _ _ (by omega) (by omega) (Ne.symm r13),hg]
     . rw [Sx.C3 _ _ _ (by omega) (by omega) r13,Sx.C3 _ _ _ (by omega) (by omega) r12,Sx.Dp _ _ (by omega)]
     . rw [Sx.C3 _ _ _ (by omega) (by omega) r14,Sx.Dp _ _ (by omega)]
     . simp [List.length_take,List.length_drop];omega
     . rw [List.length_append,List.length_singleton,List.map_append,<- r7]
       rw [List.take_append_of_le_length (by simp [List.length_take];omega),List.take_of_length_le (by simp [List.length_take];omega)]
       rfl
   . have hcl:st.length=cap:=by omega
     have hrun:=Sx.app_tip_run (h:=h) (y:=y) (bytes:=16) (len:=st.length) (c:=c) r2 r3 (by omega) hy (by simp) (by simp;omega) (one_reps [t])
     rw [<- hcl]
     have e1:Sx.Ext m h0 ((h.put b (.cells c 56 (.old k n))).put k (.ctr n)):=(he.put b _ r8 (by omega)).put k _ r9 (by omega)
     have hx:((h.put b (.cells c 56 (.old k n))).put k (.ctr n)).nx=h.nx:=rfl
     have hk:((h.put b (.cells c 56 (.old k n))).put k (.ctr n)).m.get k=.ctr n:=Sx.Dp _ _ (by omega)
     have hbp:((h.put b (.cells c 56 (.old k n))).put k (.ctr n)).m.get bp=.cells [.sl b 0 cap cap 1 false] 105 .exact:=by
      rw [Sx.C3 _ _ _ (by omega) (by omega) (Ne.symm r14),Sx.C3 _ _ _ (by omega) (by omega) (Ne.symm r13),hg,hcl]
     have hlg:∀ x∈((h.put b (.cells c 56 (.old k n))).put k (.ctr n)).lg,x∈h.lg\/h0.nx<=x:=fun x hx=>by
      rcases List.mem_cons.1 hx with rfl|hx
      . exact .inr r9
      . rcases List.mem_cons.1 hx with rfl|hx
        . exact .inr r8
        . exact .inl hx
     generalize ((h.put b (.cells c 56 (.old k n))).put k (.ctr n))=h3 at *
     refine ⟨_,_,hrun,(e1.new _ (by omega)).mono (by omega),by show h.nx<=h3.nx+1;omega,hlg,?_,rfl,rfl,⟨h1,by show bp<h3.nx+1;omega,_,Sx.Dp _ _ (by omega),.inr ⟨h.nx,st.length+1,c++[t].map Ax,k,n,by simp,?_,?_,?_,by simp,by omega,?_,by omega,r9,by show h.nx<h3.nx+1;omega,by show k<h3.nx+1;omega,by omega,by omega,r14⟩⟩⟩
     . rw [Sx.new_get_ne _ _ (by omega) (by omega) (by omega),hbp,hcl]
     . rw [Sx.C3 _ _ _ (by omega) (by omega) (by omega),<- hx]
       exact Sx.Az _ (by omega)
     . rw [Sx.C3 _ _ _ (by omega) (by omega) r14,Sx.new_get_ne _ _ (by omega) (by omega) (by omega),hk]
     . simp;omega
     . rw [List.length_append,List.length_singleton,List.map_append,<- r7,List.take_of_length_le (by simp;omega),List.take_of_length_le (by omega)]
theorem Eo.Ab {lo bp:Nat} {h:H} {st:List Tr} (hb:Eo lo h bp st):Eo lo (Ab h) bp st:=⟨hb.p1,hb.p2,hb.at'⟩
theorem Eo.Ap {lo bp:Nat} {h:H} {st:List Tr} (hb:Eo lo h bp st) (lg:List Nat):Eo lo (Ap lg h) bp st:=⟨hb.p1,hb.p2,hb.at'⟩
theorem push_seq {h0 h:H} {bp m M:Nat} {st:List Tr} {t:Tr} {sv:AV} {Q:AV->H->Prop} {K:AV->H->AV->H->AV->H->AV->H->OR} (hb:Eo h0.nx h bp st) (hg:h.m.get bp=.cells [sv] 105 .exact) (he:Sx.Ext m h0 (Ab h)) (hl:h.nx+3<=Bh) (hsz:st.length<=40000)
 (hK:∀ (sv2:AV) (h2:H),Sx.Ext (m+3) h0 ((Ab h2).put bp (.cells [sv2] 105 .exact))->(∀ x∈h2.lg,h0.nx<=x)->Eo h0.nx ((Ab h2).put bp (.cells [sv2] 105 .exact)) bp (st++[t]) ->
  Sx.B3 M h0 Q (K sv2 h2 (.ptr bp 0) (Ab h2) (.ptr bp 0) (Ab h2) (.Bl []) ((Ab h2).put bp (.cells [sv2] 105 .exact)))):
 Sx.B3 M h0 Q (Aa (xApp 56 1 16 sv (.sl h.nx 0 1 1 1 true) (Ab ((Ab h).new (.cells [Ax t] 56 .exact)))) fun v11 h11=>Aa (xNil (.ptr bp 0) (Ab h11)) fun v12 h12=>Aa (Bg v12 0 (Ab h12)) fun v13 h13=>Aa (Ao 1 v13 v11 (Ab h13)) fun v14 h14=>K v11 h11 v12 h12 v13 h13 v14 h14):=by
 have hp2:=hb.p2
 have hp1:=hb.p1
 have e1:=he.new (.cells [Ax t] 56 .exact) (by show h.nx<Bh;omega)
 have hy:TrsAt (Ab ((Ab h).new (.cells [Ax t] 56 .exact))) (.sl h.nx 0 1 1 1 true) [t]:=
  ⟨.inr ⟨h.nx,0,1,true,[t].map Ax,56,.exact,rfl,Nat.le_refl _,Sx.Az (h:=Ab h) _ (by show h.nx<Bh;omega),trivial,by show h.nx<h.nx+1;omega,by simp,by simp⟩⟩
 have hb2:Eo h0.nx (Ab ((Ab h).new (.cells [Ax t] 56 .exact))) bp st:=(hb.Ab.ext ((Sx.Ext.refl 0 (Ab h)).new _ (by show h.nx<Bh;omega))).Ab
 have hg2:(Ab ((Ab h).new (.cells [Ax t] 56 .exact))).m.get bp=.cells [sv] 105 .exact:=by
  show ((Ab h).new (.cells [Ax t] 56 .exact)).m.get bp=_
  rw [Sx.new_get_ne _ _ (by show h.nx<Bh;omega) (by omega) (by show bp≠h.nx;omega)]
  exact hg
 obtain ⟨sv2,h2,p1,p2,p3,p4,p5,p6,p7,p8⟩:=push_app hb2 hg2 hy e1.Ab (by show h.nx+1+2<=Bh;omega) hsz
 refine Sx.Ag p1 ?_
 refine Sx.Ag (Sx.xNil_ptr ..) ?_
 refine Sx.Ag (Sx.Cz ..) ?_
 refine Sx.Ag (v:=.Bl []) (h:=(Ab h2).put bp (.cells [sv2] 105 .exact)) (by rw [Sx.xStore_ptr,p6,Sx.stC_some,if_pos ⟨rfl,p7⟩,Sx.wr_eq];show resH (wrO (h2.m.get bp) bp (0+0) [sv2] (Ab h2))=_;rw [p5,Sx.wrO_exact,lput_eq,if_pos (by simp),Sx.wrL_some];rfl) ?_
 have hbn:=p8.p2
 refine hK _ h2 (p2.Ab.put bp _ hp1 ?_) (fun x hx=>?_) ⟨p8.p1,p8.p2,p8.at'⟩
 . have:=p2.hi
   have:=e1.hi
   have h3:h.nx+1<=h2.nx:=p3
   omega
 . rcases p4 x hx with h5|h5
   . cases h5
   . exact h5
def Gc (st:List Tr) (ts:List Bool):Option (List Tr × List Tr):=
 if ts.length<=st.length/\(st.drop (st.length - ts.length)).map Gl=ts then some (st.take (st.length - ts.length),st.drop (st.length - ts.length)) else none
def addS (st:List Tr) (x:Nd):Option (List Tr):=
 if x.op<=3 then some (st++[.leaf x])
 else if x.op=7\/x.op=17 then (match Gc st [decide (x.op=17)] with|some (r,[a])=>some (r++[.one x.op a])|_=>none)
 else if x.op=8 then (match Gc st [true,false,false] with|some (r,[c,a,b])=>some (r++[.three c a b])|_=>none)
 else (match Gc st [decide (x.op=15)||decide (x.op=16),decide (x.op=15)||decide (x.op=16)] with|some (r,[a,b])=>some (r++[.two x.op a b])|_=>none)
def Added (lo bp:Nat) (o:Option (List Tr)) (v:AV) (h:H):Prop:=
 match o with
 |some st=>v=.bool true/\Eo lo h bp st
 |none=>v=.bool false
theorem nomem {z:Nat} (h:z∈([]:List Nat)):False:=by cases h
theorem put1 {z bp lo:Nat} (hl:lo<=bp) (h:z∈bp::([]:List Nat)):lo<=z:=by
 rcases List.mem_cons.1 h with rfl|h
 . exact hl
 . cases h
theorem n63leaf {h0 h:H} {bp m:Nat} {st:List Tr} {x:Nd} (hx:x.op<=3) (hb:Eo h0.nx h bp st) (he:Sx.Ext m h0 h) (hl:h0.nx+m+20<=Bh) (hsz:st.length<=40000):
 Sx.B3 (m+10) h0 (Added h0.nx bp (addS st x)) (An Tryz.prog ctx N false 63 [.ptr bp 0,.agg (Bq x)] h):=by
 have hp2:=hb.p2
 have hhi0:=he.hi
 have hadd:addS st x=some (st++[.leaf x]):=by unfold addS;rw [if_pos hx]
 rw [hadd,e63]
 have e1:=he.new (.cells (Bq x) 32 .exact) (by omega)
 have hb1:=hb.ext ((Sx.Ext.refl 0 h).new (.cells (Bq x) 32 .exact) (by omega))
 have hg1:(h.new (.cells (Bq x) 32 .exact)).m.get h.nx=.cells (Bq x) 32 .exact:=Sx.Az _ (by omega)
 have hn1:(h.new (.cells (Bq x) 32 .exact)).nx=h.nx+1:=rfl
 refine Sx.Ag (Sx.xBox_agg ..) ?_
 generalize h.new (.cells (Bq x) 32 .exact)=h4 at *
 obtain ⟨sv,q1,q2⟩:=hb1.at'
 refine Sx.Ag (Sx.Cz ..) ?_
 refine Sx.Ag (Sx.Da hg1 trivial rfl) ?_
 refine Sx.Ag (Sx.xBin_leq ..) ?_
 rw [decide_eq_true hx,Sx.Ef]
 refine Sx.Ag (Sx.xNil_ptr ..) ?_
 refine Sx.Ag (Sx.Cz ..) ?_
 refine Sx.Ag (Sx.Da (h:=Ab (Ab h4)) q1 trivial rfl) ?_
 refine Sx.Ag (Sx.load_many (h:=Ab (Ab (Ab h4))) hg1 trivial (by simp [Bq])) ?_
 refine Sx.Ag (v:=.agg (Bq x)) (h:=Ab h4) (by simp [Bq]) ?_
 refine Sx.Ag (v:=.sl h4.nx 0 1 1 1 true) (h:=(Ab (Ab h4)).new (.cells [Ax (.leaf x)] 56 .exact)) (by simp [Ax]) ?_
 refine push_seq (h:=Ab h4) (t:=.leaf x) hb1.Ab q1 e1.Ab.Ab (by show h4.nx+3<=Bh;omega) hsz fun sv2 h2 f1 f2 f3=>?_
 refine Sx.gets_drEnd ?_ ?_
 . refine effOk_all _ fun e he=>?_
   simp only [List.mem_cons,List.not_mem_nil,or_false] at he
   rcases he with rfl|rfl|rfl|rfl|rfl|rfl|rfl|rfl|rfl|rfl|rfl|rfl|rfl
   all_goals first|exact .inl rfl|exact .inr (by simp (disch:=decide) only [Sx.Ek,Sx.E4,Sx.Fv,Sx.Br,Sx.B4,Bool.and_self])
 . refine Sx.Bs (f1.Ap _ fun z hz=>?_) (by omega) ⟨rfl,f3.Ap _⟩
   simp only [Sx.A8,Sx.Bk,List.mem_append,List.not_mem_nil,false_or] at hz
   rcases hz with hz|hz|hz|hz|hz|hz|hz|hz|hz|hz|hz
   all_goals first|exact (nomem (Cc _ _ _ hz)).elim|exact .inr (f2 z (Cc _ _ _ hz))|exact .inr (put1 hb.p1 (Cc _ _ _ hz))|exact e1.lg z hz
abbrev H108:Prop:=∀ {h0 h:H} {bp m:Nat} {st:List Tr} {ts:List Bool} {w:AV},Eo h0.nx h bp st->ts≠[]->BsAt h w ts->Sx.Ext m h0 h->h.nx+3<=Bh->st.length<=40000->ts.length<=10->Sx.B3 (m+3) h0 (Popped h0.nx bp st ts h) (ctx.call 108 [.ptr bp 0,w] h)
theorem len1 {α:Type} {l:List α} (h:l.length=1):∃ a,l=[a]:=List.length_eq_one_iff.1 h
theorem len2 {α:Type} {l:List α} (h:l.length=2):∃ a b,l=[a,b]:=by
 match l,h with
 |[a,b],_=>exact ⟨a,b,rfl⟩
theorem len3 {α:Type} {l:List α} (h:l.length=3):∃ a b c,l=[a,b,c]:=by
 match l,h with
 |[a,b,c],_=>exact ⟨a,b,c,rfl⟩
theorem n63neg (h108:H108 ctx) {h0 h:H} {bp m:Nat} {st:List Tr} {x:Nd} (hx:x.op=7) (hb:Eo h0.nx h bp st) (he:Sx.Ext m h0 h) (hl:h0.nx+m+20<=Bh) (hsz:st.length<=40000):
 Sx.B3 (m+10) h0 (Added h0.nx bp (addS st x)) (An Tryz.prog ctx N false 63 [.ptr bp 0,.agg (Bq x)] h):=by
 have hp2:=hb.p2
 have hhi0:=he.hi
 have hlo0:=he.lo
 have hadd:addS st x=(match Gc st [decide (x.op=17)] with|some (r,[a])=>some (r++[.one x.op a])|_=>none):=by unfold addS;rw [if_neg (by omega),if_pos (by omega)]
 rw [hadd,e63]
 have e1:=he.new (.cells (Bq x) 32 .exact) (by omega)
 have hb1:=hb.ext ((Sx.Ext.refl 0 h).new (.cells (Bq x) 32 .exact) (by omega))
 have hg1:(h.new (.cells (Bq x) 32 .exact)).m.get h.nx=.cells (Bq x) 32 .exact:=Sx.Az _ (by omega)
 have hn1:(h.new (.cells (Bq x) 32 .exact)).nx=h.nx+1:=rfl
 refine Sx.Ag (Sx.xBox_agg ..) ?_
 generalize h.new (.cells (Bq x) 32 .exact)=h4 at *
 have hno:¬ x.op<=3:=by omega
 have hd:decide (x.op=17)=false:=by simp [hx]
 repeat' (first|with_reducible (first|apply xa1|apply xa2|apply xa3|apply xa4)|(with_reducible (first|apply xb1|apply xb2|apply xb3);(conv=>lhs;simp (disch:=first|exact Ch|fail) [lc,hg1,Bq,hx]);with_reducible (first|apply xa1|apply xa2|apply xa3|apply xa4|(refine xa6 (by simp) ?_))))
 rw [hd]
 have e2:=e1.new (.cells [.bool false] 4 .exact) (by omega)
 have e2':=(Sx.Ext.refl 0 h4).new (.cells [.bool false] 4 .exact) (by omega)
 have hw:BsAt (h4.new (.cells [.bool false] 4 .exact)) (.sl h4.nx 0 1 1 1 true) [false]:=⟨.inr ⟨h4.nx,0,1,true,[.bool false],4,.exact,rfl,Nat.le_refl _,Sx.Az _ (by omega),trivial,by show h4.nx<h4.nx+1;omega,by simp,rfl⟩⟩
 have hg5:(h4.new (.cells [.bool false] 4 .exact)).m.get h.nx=.cells (Bq x) 32 .exact:=by rw [e2'.old _ (by omega)];exact hg1
 refine Sx.gets_bind0 (h108 (hb1.ext e2') (by simp) hw e2 (by show h4.nx+1+3<=Bh;omega) hsz (by simp)) fun r h29 e3 hpop=>?_
 obtain ⟨⟨hlo29,hkeep⟩,hpop⟩:=hpop
 have hg29:h29.m.get h.nx=.cells (Bq x) 32 .exact:=by rw [hkeep _ (by show h.nx<h4.nx+1;omega) (by omega)];exact hg5
 have hhi:=e3.hi
 rcases hpop with ⟨v,rfl,hle,heq,htr,hbl⟩|⟨v,rfl,hno2⟩
 . have hlen:(st.drop (st.length - [false].length)).length=1:=by rw [List.length_drop];simp at hle ⊢;omega
   obtain ⟨a,ha⟩:∃ a,st.drop (st.length - [false].length)=[a]:=len1 hlen
   have hpopS:Gc st [false]=some (st.take (st.length - [false].length),[a]):=by unfold Gc;rw [if_pos ⟨hle,heq⟩,ha]
   rw [hpopS]
   rw [ha] at htr
   obtain ⟨b0,o0,cs0,ee0,k0,p10,p20,p30,p40,p50⟩:=at_elem htr (i:=0) (x:=a) rfl
   have p60:∀ h1,E3 1 v (.int .i64 0) h1=.ok (.ptr b0 o0) h1:=p10
   have p70:∀ hh,rdO (.cells cs0 ee0 k0) hh=some cs0:=fun hh=>Sx.C4 p30
   obtain ⟨sv,q1,q2⟩:=hbl.at'
   repeat' (first|with_reducible (first|apply xa1|apply xa2|apply xa3|apply xa4)|(with_reducible (first|apply xb1|apply xb2|apply xb3);(conv=>lhs;simp (disch:=first|exact Ch|fail) [lc,hg29,q1,p60,p20,p70,p50,Bq]);with_reducible (first|apply xa1|apply xa2|apply xa3|apply xa4|(refine xa6 (by simp) ?_))))
   refine push_seq (h:=h29) (t:=.one x.op a) hbl q1 e3.Ab (by omega) (by rw [List.length_take];omega) fun sv2 h2 f1 f2 f3=>?_
   refine Sx.gets_drEnd ?_ ?_
   . refine effOk_all _ fun e he=>?_
     simp only [List.mem_cons,List.not_mem_nil,or_false] at he
     rcases he with rfl|rfl|rfl|rfl|rfl|rfl|rfl|rfl|rfl|rfl|rfl|rfl|rfl|rfl|rfl|rfl|rfl
     all_goals first|exact .inl rfl|exact .inr (by simp (disch:=decide) only [Sx.Ek,Sx.E4,Sx.Fv,Sx.Br,Sx.B4,Bool.and_self])
   . refine Sx.Bs (f1.Ap _ fun z hz=>?_) (by omega) ⟨rfl,f3.Ap _⟩
     simp only [Sx.A8,Sx.Bk,List.mem_append,List.not_mem_nil,false_or] at hz
     repeat' (rcases hz with hz|hz)
     all_goals first|exact (nomem (Cc _ _ _ hz)).elim|exact .inr (f2 z (Cc _ _ _ hz))|exact .inr (put1 hb.p1 (Cc _ _ _ hz))|exact e3.lg z hz
 . have hpopS:Gc st [false]=none:=by unfold Gc;rw [if_neg hno2]
   rw [hpopS]
   repeat' (first|with_reducible (first|apply xa1|apply xa2|apply xa3|apply xa4)|(with_reducible (first|apply xb1|apply xb2|apply xb3);(conv=>lhs;simp (disch:=first|exact Ch|fail) [lc]);with_reducible (first|apply xa1|apply xa2|apply xa3|apply xa4|(refine xa6 (by simp) ?_))))
   exact Sx.Bs e3 (by omega) rfl
theorem n63not (h108:H108 ctx) {h0 h:H} {bp m:Nat} {st:List Tr} {x:Nd} (hx:x.op=17) (hb:Eo h0.nx h bp st) (he:Sx.Ext m h0 h) (hl:h0.nx+m+20<=Bh) (hsz:st.length<=40000):
 Sx.B3 (m+10) h0 (Added h0.nx bp (addS st x)) (An Tryz.prog ctx N false 63 [.ptr bp 0,.agg (Bq x)] h):=by
 have hp2:=hb.p2
 have hhi0:=he.hi
 have hlo0:=he.lo
 have hadd:addS st x=(match Gc st [decide (x.op=17)] with|some (r,[a])=>some (r++[.one x.op a])|_=>none):=by unfold addS;rw [if_neg (by omega),if_pos (by omega)]
 rw [hadd,e63]
 have e1:=he.new (.cells (Bq x) 32 .exact) (by omega)
 have hb1:=hb.ext ((Sx.Ext.refl 0 h).new (.cells (Bq x) 32 .exact) (by omega))
 have hg1:(h.new (.cells (Bq x) 32 .exact)).m.get h.nx=.cells (Bq x) 32 .exact:=Sx.Az _ (by omega)
 have hn1:(h.new (.cells (Bq x) 32 .exact)).nx=h.nx+1:=rfl
 refine Sx.Ag (Sx.xBox_agg ..) ?_
 generalize h.new (.cells (Bq x) 32 .exact)=h4 at *
 have hno:¬ x.op<=3:=by omega
 have hd:decide (x.op=17)=true:=by simp [hx]
 repeat' (first|with_reducible (first|apply xa1|apply xa2|apply xa3|apply xa4)|(with_reducible (first|apply xb1|apply xb2|apply xb3);(conv=>lhs;simp (disch:=first|exact Ch|fail) [lc,hg1,Bq,hx]);with_reducible (first|apply xa1|apply xa2|apply xa3|apply xa4|(refine xa6 (by simp) ?_))))
 rw [hd]
 have e2:=e1.new (.cells [.bool true] 4 .exact) (by omega)
 have e2':=(Sx.Ext.refl 0 h4).new (.cells [.bool true] 4 .exact) (by omega)
 have hw:BsAt (h4.new (.cells [.bool true] 4 .exact)) (.sl h4.nx 0 1 1 1 true) [true]:=⟨.inr ⟨h4.nx,0,1,true,[.bool true],4,.exact,rfl,Nat.le_refl _,Sx.Az _ (by omega),trivial,by show h4.nx<h4.nx+1;omega,by simp,rfl⟩⟩
 have hg5:(h4.new (.cells [.bool true] 4 .exact)).m.get h.nx=.cells (Bq x) 32 .exact:=by rw [e2'.old _ (by omega)];exact hg1
 refine Sx.gets_bind0 (h108 (hb1.ext e2') (by simp) hw e2 (by show h4.nx+1+3<=Bh;omega) hsz (by simp)) fun r h29 e3 hpop=>?_
 obtain ⟨⟨hlo29,hkeep⟩,hpop⟩:=hpop
 have hg29:h29.m.get h.nx=.cells (Bq x) 32 .exact:=by rw [hkeep _ (by show h.nx<h4.nx+1;omega) (by omega)];exact hg5
 have hhi:=e3.hi
 rcases hpop with ⟨v,rfl,hle,heq,htr,hbl⟩|⟨v,rfl,hno2⟩
 . have hlen:(st.drop (st.length - [true].length)).length=1:=by rw [List.length_drop];simp at hle ⊢;omega
   obtain ⟨a,ha⟩:∃ a,st.drop (st.length - [true].length)=[a]:=len1 hlen
   have hpopS:Gc st [true]=some (st.take (st.length - [true].length),[a]):=by unfold Gc;rw [if_pos ⟨hle,heq⟩,ha]
   rw [hpopS]
   rw [ha] at htr
   obtain ⟨b0,o0,cs0,ee0,k0,p10,p20,p30,p40,p50⟩:=at_elem htr (i:=0) (x:=a) rfl
   have p60:∀ h1,E3 1 v (.int .i64 0) h1=.ok (.ptr b0 o0) h1:=p10
   have p70:∀ hh,rdO (.cells cs0 ee0 k0) hh=some cs0:=fun hh=>Sx.C4 p30
   obtain ⟨sv,q1,q2⟩:=hbl.at'
   repeat' (first|with_reducible (first|apply xa1|apply xa2|apply xa3|apply xa4)|(with_reducible (first|apply xb1|apply xb2|apply xb3);(conv=>lhs;simp (disch:=first|exact Ch|fail) [lc,hg29,q1,p60,p20,p70,p50,Bq]);with_reducible (first|apply xa1|apply xa2|apply xa3|apply xa4|(refine xa6 (by simp) ?_))))
   refine push_seq (h:=h29) (t:=.one x.op a) hbl q1 e3.Ab (by omega) (by rw [List.length_take];omega) fun sv2 h2 f1 f2 f3=>?_
   refine Sx.gets_drEnd ?_ ?_
   . refine effOk_all _ fun e he=>?_
     simp only [List.mem_cons,List.not_mem_nil,or_false] at he
     rcases he with rfl|rfl|rfl|rfl|rfl|rfl|rfl|rfl|rfl|rfl|rfl|rfl|rfl|rfl|rfl|rfl|rfl
     all_goals first|exact .inl rfl|exact .inr (by simp (disch:=decide) only [Sx.Ek,Sx.E4,Sx.Fv,Sx.Br,Sx.B4,Bool.and_self])
   . refine Sx.Bs (f1.Ap _ fun z hz=>?_) (by omega) ⟨rfl,f3.Ap _⟩
     simp only [Sx.A8,Sx.Bk,List.mem_append,List.not_mem_nil,false_or] at hz
     repeat' (rcases hz with hz|hz)
     all_goals first|exact (nomem (Cc _ _ _ hz)).elim|exact .inr (f2 z (Cc _ _ _ hz))|exact .inr (put1 hb.p1 (Cc _ _ _ hz))|exact e3.lg z hz
 . have hpopS:Gc st [true]=none:=by unfold Gc;rw [if_neg hno2]
   rw [hpopS]
   repeat' (first|with_reducible (first|apply xa1|apply xa2|apply xa3|apply xa4)|(with_reducible (first|apply xb1|apply xb2|apply xb3);(conv=>lhs;simp (disch:=first|exact Ch|fail) [lc]);with_reducible (first|apply xa1|apply xa2|apply xa3|apply xa4|(refine xa6 (by simp) ?_))))
   exact Sx.Bs e3 (by omega) rfl
theorem n63if (h108:H108 ctx) {h0 h:H} {bp m:Nat} {st:List Tr} {x:Nd} (hx:x.op=8) (hb:Eo h0.nx h bp st) (he:Sx.Ext m h0 h) (hl:h0.nx+m+20<=Bh) (hsz:st.length<=40000):
 Sx.B3 (m+10) h0 (Added h0.nx bp (addS st x)) (An Tryz.prog ctx N false 63 [.ptr bp 0,.agg (Bq x)] h):=by
 have hp2:=hb.p2
 have hhi0:=he.hi
 have hlo0:=he.lo
 have hadd:addS st x=(match Gc st [true,false,false] with|some (r,[c,a,b])=>some (r++[.three c a b])|_=>none):=by unfold addS;rw [if_neg (by omega),if_neg (by omega),if_pos hx]
 rw [hadd,e63]
 have e1:=he.new (.cells (Bq x) 32 .exact) (by omega)
 have hb1:=hb.ext ((Sx.Ext.refl 0 h).new (.cells (Bq x) 32 .exact) (by omega))
 have hg1:(h.new (.cells (Bq x) 32 .exact)).m.get h.nx=.cells (Bq x) 32 .exact:=Sx.Az _ (by omega)
 have hn1:(h.new (.cells (Bq x) 32 .exact)).nx=h.nx+1:=rfl
 refine Sx.Ag (Sx.xBox_agg ..) ?_
 generalize h.new (.cells (Bq x) 32 .exact)=h4 at *
 have hno:¬ x.op<=3:=by omega
 repeat' (first|with_reducible (first|apply xa1|apply xa2|apply xa3|apply xa4)|(with_reducible (first|apply xb1|apply xb2|apply xb3);(conv=>lhs;simp (disch:=first|exact Ch|fail) [lc,hg1,Bq,hx]);with_reducible (first|apply xa1|apply xa2|apply xa3|apply xa4|(refine xa6 (by simp) ?_))))
 have e2:=e1.new (.cells [.bool true,.bool false,.bool false] 4 .exact) (by omega)
 have e2':=(Sx.Ext.refl 0 h4).new (.cells [.bool true,.bool false,.bool false] 4 .exact) (by omega)
 have hw:BsAt (h4.new (.cells [.bool true,.bool false,.bool false] 4 .exact)) (.sl h4.nx 0 3 3 1 true) [true,false,false]:=⟨.inr ⟨h4.nx,0,3,true,[.bool true,.bool false,.bool false],4,.exact,rfl,Nat.le_refl _,Sx.Az _ (by omega),trivial,by show h4.nx<h4.nx+1;omega,by simp,rfl⟩⟩
 have hg5:(h4.new (.cells [.bool true,.bool false,.bool false] 4 .exact)).m.get h.nx=.cells (Bq x) 32 .exact:=by rw [e2'.old _ (by omega)];exact hg1
 refine Sx.gets_bind0 (h108 (hb1.ext e2') (by simp) hw e2 (by show h4.nx+1+3<=Bh;omega) hsz (by simp)) fun r h29 e3 hpop=>?_
 obtain ⟨⟨hlo29,hkeep⟩,hpop⟩:=hpop
 have hg29:h29.m.get h.nx=.cells (Bq x) 32 .exact:=by rw [hkeep _ (by show h.nx<h4.nx+1;omega) (by omega)];exact hg5
 have hhi:=e3.hi
 rcases hpop with ⟨v,rfl,hle,heq,htr,hbl⟩|⟨v,rfl,hno2⟩
 . have hlen:(st.drop (st.length - [true,false,false].length)).length=3:=by rw [List.length_drop];simp at hle ⊢;omega
   obtain ⟨c,a,b,ha⟩:∃ c a b,st.drop (st.length - [true,false,false].length)=[c,a,b]:=len3 hlen
   have hpopS:Gc st [true,false,false]=some (st.take (st.length - [true,false,false].length),[c,a,b]):=by unfold Gc;rw [if_pos ⟨hle,heq⟩,ha]
   rw [hpopS]
   rw [ha] at htr
   obtain ⟨b0,o0,cs0,ee0,k0,p10,p20,p30,p40,p50⟩:=at_elem htr (i:=0) (x:=c) rfl
   have p60:∀ h1,E3 1 v (.int .i64 0) h1=.ok (.ptr b0 o0) h1:=p10
   have p70:∀ hh,rdO (.cells cs0 ee0 k0) hh=some cs0:=fun hh=>Sx.C4 p30
   obtain ⟨b1,o1,cs1,ee1,k1,p11,p21,p31,p41,p51⟩:=at_elem htr (i:=1) (x:=a) rfl
   have p61:∀ h1,E3 1 v (.int .i64 1) h1=.ok (.ptr b1 o1) h1:=p11
   have p71:∀ hh,rdO (.cells cs1 ee1 k1) hh=some cs1:=fun hh=>Sx.C4 p31
   obtain ⟨b2,o2,cs2,ee2,k2,p12,p22,p32,p42,p52⟩:=at_elem htr (i:=2) (x:=b) rfl
   have p62:∀ h1,E3 1 v (.int .i64 2) h1=.ok (.ptr b2 o2) h1:=p12
   have p72:∀ hh,rdO (.cells cs2 ee2 k2) hh=some cs2:=fun hh=>Sx.C4 p32
   obtain ⟨sv,q1,q2⟩:=hbl.at'
   repeat' (first|with_reducible (first|apply xa1|apply xa2|apply xa3|apply xa4)|(with_reducible (first|apply xb1|apply xb2|apply xb3);(conv=>lhs;simp (disch:=first|exact Ch|fail) [lc,hg29,q1,p60,p20,p70,p50,p61,p21,p71,p51,p62,p22,p72,p52,Bq]);with_reducible (first|apply xa1|apply xa2|apply xa3|apply xa4|(refine xa6 (by simp) ?_))))
   refine push_seq (h:=h29) (t:=.three c a b) hbl q1 e3.Ab (by omega) (by rw [List.length_take];omega) fun sv2 h2 f1 f2 f3=>?_
   refine Sx.gets_drEnd ?_ ?_
   . refine effOk_all _ fun e he=>?_
     simp only [List.mem_cons,List.not_mem_nil,or_false] at he
     rcases he with rfl|rfl|rfl|rfl|rfl|rfl|rfl|rfl|rfl|rfl|rfl|rfl|rfl|rfl|rfl|rfl|rfl|rfl|rfl|rfl|rfl
     all_goals first|exact .inl rfl|exact .inr (by simp (disch:=decide) only [Sx.Ek,Sx.E4,Sx.Fv,Sx.Br,Sx.B4,Bool.and_self])
   . refine Sx.Bs (f1.Ap _ fun z hz=>?_) (by omega) ⟨rfl,f3.Ap _⟩
     simp only [Sx.A8,Sx.Bk,List.mem_append,List.not_mem_nil,false_or] at hz
     repeat' (rcases hz with hz|hz)
     all_goals first|exact (nomem (Cc _ _ _ hz)).elim|exact .inr (f2 z (Cc _ _ _ hz))|exact .inr (put1 hb.p1 (Cc _ _ _ hz))|exact e3.lg z hz
 . have hpopS:Gc st [true,false,false]=none:=by unfold Gc;rw [if_neg hno2]
   rw [hpopS]
   repeat' (first|with_reducible (first|apply xa1|apply xa2|apply xa3|apply xa4)|(with_reducible (first|apply xb1|apply xb2|apply xb3);(conv=>lhs;simp (disch:=first|exact Ch|fail) [lc]);with_reducible (first|apply xa1|apply xa2|apply xa3|apply xa4|(refine xa6 (by simp) ?_))))
   exact Sx.Bs e3 (by omega) rfl
end Go.Proofs
