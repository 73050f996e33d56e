/- The walks of package norm's functions on lists of nodes. -/
import Derived.Test.YtecikbfimlolcaaGreatDoorEvQa
import Derived.Test.YtecikbfimlolcaaGreatDoorEvQb
import Derived.Test.YtecikbfimlolcaaGreatDoorEvG
set_option maxRecDepth 100000
set_option linter.unusedSimpArgs false
set_option linter.unusedVariables false
set_option linter.unusedSectionVars false
namespace Go.Proofs
open Go Go.Ev Go.Nm
attribute [local irreducible] Aa Aj Ah Ac
variable [Lim]
variable (ctx:Ae) (N:Nat)
abbrev flatN (l:List Nd):List AV:=l.flatMap Bq
abbrev NdAt (h:H) (v:AV) (l:List Nd):Prop:=Sx.SlAt 3 h v l.length (flatN l)
def Wr (s:Nat) (et:TypeId) (lo:Nat) (h:H) (v:AV) (len:Nat):Prop:=len=0\/∃ b off cap ex cs k,v=.sl b off len cap s ex/\h.m.get b=.cells cs et k/\off+len * s<=cs.length/\lo<=b/\b<h.nx/\(k=.exact\/∃ c st,k=.Fz c/\h.m.get c=.ctr st/\lo<=c/\c<h.nx/\c≠b)
theorem Wr.mono {s lo lo' len:Nat} {et:TypeId} {h:H} {v:AV} (hw:Wr s et lo h v len) (hh:lo'<=lo):Wr s et lo' h v len:=by
 rcases hw with h1|⟨b,off,cap,ex,cs,k,h1,h2,h3,h4,h5,h6⟩
 . exact .inl h1
 . refine .inr ⟨b,off,cap,ex,cs,k,h1,h2,h3,by omega,h5,?_⟩
   rcases h6 with h6|⟨c,st,h6,h7,h8,h9,h10⟩
   . exact .inl h6
   . exact .inr ⟨c,st,h6,h7,by omega,h9,h10⟩
theorem Wr.Fz {s lo len:Nat} {et:TypeId} {c:List AV} {h:H} {v:AV} (ht:Sx.TipAt s lo et h v len c):Wr s et lo h v len:=by
 obtain ⟨b,k,st,hv,h1,h2,h3,h4,h5,h6,h7⟩:=ht.at'
 have:=ht.clen
 exact .inr ⟨b,0,len,false,c,.Fz k,hv,h1,by omega,h3,h5,.inr ⟨k,st,rfl,h2,h4,h6,fun hh=>h7 hh.symm⟩⟩
abbrev NdOw (lo:Nat) (h:H) (v:AV) (l:List Nd):Prop:=NdAt h v l/\Wr 3 32 lo h v l.length
abbrev TrsAt (h:H) (v:AV) (l:List Tr):Prop:=Sx.SlAt 1 h v l.length (l.map Ax)
theorem one_flat:∀ l:List Nd,Bn (flatN l)=true
 |[]=>rfl
 |x::l=>by
  have ih:=one_flat l
  simp only [flatN] at ih
  simp [flatN,ih]
abbrev HNodes (t:Tr):Prop:=∀ h:H,h.nx+12 * size t<=Bh->size t<=10000->Sx.B3 (12 * size t) h (fun v h'=>NdOw h.nx h' v t.nodes) (aMeth Tryz.prog ctx (Ax t) (mnm Tryz.prog 109 0) [] h)
def cost:List Tr->Nat
 |[]=>4
 |t::l=>12 * size t+2+cost l
abbrev Acc (lo:Nat) (h:H) (v:AV) (l:List Nd):Prop:=(l=[]/\v=.Cb)\/Sx.TipAt 3 lo 32 h v l.length (flatN l)
theorem flat_len (l:List Nd):(flatN l).length=l.length * 3:=by
 induction l with
 |nil=>rfl
 |cons x l ih=>simp only [flatN,List.flatMap_cons,List.length_append] at ih ⊢;rw [ih];simp;omega
theorem len_flat:∀ l:List Tr,l.length<=(l.flatMap Tr.nodes).length
 |[]=>Nat.le_refl _
 |t::l=>by
  have:=len_flat l
  have:=B5 t
  have:=size_pos t
  simp [B5] at *
  omega
theorem app_any {h0 h:H} {m n lo:Nat} {x y:AV} {a l:List Nd} (ha:Acc lo h x a) (hy:NdAt h y l) (hl:l≠[]) (hb:a.length+l.length<=20000) (hr:h.nx+2<=Bh) (he:Sx.Ext n h0 h) (hlo:h0.nx<=lo) (hlo2:lo<=h.nx):
 Sx.B3 (n+2) h0 (fun v h'=>Sx.TipAt 3 lo 32 h' v (a++l).length (flatN (a++l))) (xApp 32 3 32 x y h):=by
 have hlp:0<l.length:=List.length_pos_iff.2 hl
 rcases ha with ⟨rfl,rfl⟩|ht
 . obtain ⟨v,h1,q1,q2,q3⟩:=Sx.app_nil_tip (bytes:=32) (et:=32) (lo:=lo) hy hlp (by omega) (one_flat l) hr hlo2
   exact ⟨v,h1,q1,he.trans q2,q3⟩
 . obtain ⟨v,h1,q1,q2,q3⟩:=Sx.app_tip (bytes:=32) ht hy hlp (by omega) (one_flat l) (by omega) hlo he
   refine ⟨v,h1,q1,q2.mono (by omega),?_⟩
   rw [List.length_append,flatN,List.flatMap_append]
   exact q3
theorem loop351 (o:Int) (v:AV) (ts:List Tr) (hts:∀ t∈ts,HNodes ctx t) (h0:H) (M:Nat) (hv:TrsAt h0 v ts) (hroom:h0.nx+M<=Bh) (hsz:(ts.flatMap Tr.nodes).length+1<=10000):
 ∀ (rest pre:List Tr) (h:H) (m:Nat) (t5:AV) (f0:L2) (n1:Nat),ts=pre++rest->rest.length+1<=n1->Sx.Ext m h0 h->m+cost rest<=M->Acc h0.nx h t5 (pre.flatMap Tr.nodes) ->
  Sx.B3 M h0 (fun v h'=>NdOw h0.nx h' v (ts.flatMap Tr.nodes++[⟨o,0,[]⟩])) (L351x1 ctx N n1 (.int .i64 o) t5 v (.int .i64 ts.length) (.int .i64 pre.length) f0 h):=by
 intro rest
 induction rest with
 |nil=>
  intro pre h m t5 f0 n1 hpre hn he hm hacc
  obtain ⟨n2,rfl⟩:∃ n2,n1=n2+1:=⟨n1 - 1,by omega⟩
  rw [List.append_nil] at hpre
  subst hpre
  simp only [cost] at hm
  have hhi:=he.hi
  have hlo:=he.lo
  rw [L351x1s]
  refine Sx.Ag (Sx.Fa ..) ?_
  rw [show decide ((ts.length:Int)<(ts.length:Int))=false by simp]
  rw [Sx.Dg]
  refine Sx.Ag (v:=.agg (Bq ⟨o,0,[]⟩)) (h:=h) (by simp [Bq]) ?_
  refine Sx.Ag (v:=.sl h.nx 0 1 1 3 true) (h:=h.new (.cells (Bq ⟨o,0,[]⟩) 32 .exact)) (by simp [Bq]) ?_
  have e2:=he.new (.cells (Bq ⟨o,0,[]⟩) 32 .exact) (by omega)
  have hy:NdAt (h.new (.cells (Bq ⟨o,0,[]⟩) 32 .exact)) (.sl h.nx 0 1 1 3 true) [⟨o,0,[]⟩]:=
   ⟨.inr ⟨h.nx,0,1,true,Bq ⟨o,0,[]⟩,32,.exact,rfl,Nat.le_refl _,Sx.Az _ (by omega),trivial,by show h.nx<h.nx+1;omega,by simp [Bq],rfl⟩⟩
  have hacc2:Acc h0.nx (h.new (.cells (Bq ⟨o,0,[]⟩) 32 .exact)) t5 (ts.flatMap Tr.nodes):=by
   rcases hacc with hh|hh
   . exact .inl hh
   . exact .inr (hh.ext ((Sx.Ext.refl 0 h).new _ (by omega)))
  obtain ⟨w,h3,q1,q2,q3⟩:=app_any (m:=0) hacc2 hy (by simp) (by simp at hsz ⊢;omega) (by show h.nx+1+2<=Bh;omega) e2 (Nat.le_refl _) (by show h0.nx<=h.nx+1;omega)
  refine Sx.Ag q1 ?_
  exact Sx.Bs q2 (by omega) ⟨q3.sl,Wr.Fz q3⟩
 |cons t rest ih=>
  intro pre h m t5 f0 n1 hpre hn he hm hacc
  obtain ⟨n2,rfl⟩:∃ n2,n1=n2+1:=⟨n1 - 1,by omega⟩
  have hlen:ts.length=pre.length+(rest.length+1):=by rw [hpre];simp
  have hhi:=he.hi
  have hlo:=he.lo
  have hsp:=size_pos t
  simp only [cost] at hm
  have htot:(pre.flatMap Tr.nodes).length+size t+(rest.flatMap Tr.nodes).length+1<=10000:=by
   rw [hpre] at hsz;simp [List.flatMap_append,B5] at hsz ⊢;omega
  have hpl:=len_flat pre
  rw [L351x1s]
  refine Sx.Ag (Sx.Fa ..) ?_
  rw [show decide ((pre.length:Int)<(ts.length:Int))=true by simp [hlen];omega]
  rw [Sx.Ef]
  obtain ⟨b,o',cs,e,k,p1,p2,p3,p4,p5,p6⟩:=(hv.ext he).ia (i:=pre.length) (by omega)
  refine Sx.Ag (p1 h) ?_
  have hx:cs[o']?=some (Ax t):=by
   have h7:((cs.drop o').take 1)[0]?=(((ts.map Ax).drop (pre.length * 1)).take 1)[0]?:=by rw [p6]
   rw [hpre] at h7
   simpa [List.getElem?_take,List.getElem?_drop] using h7
  refine Sx.Ag (Sx.Da p2 p3 hx) ?_
  have ht:=hts t (by rw [hpre];simp) h (by omega) (by omega)
  refine Sx.gets_bind he ht fun w h1 e1 e1' q=>?_
  have hacc2:Acc h0.nx h1 t5 (pre.flatMap Tr.nodes):=by
   rcases hacc with hh|hh
   . exact .inl hh
   . exact .inr (hh.ext e1')
  have hhi1:=e1.hi
  have hlo1:=e1.lo
  obtain ⟨w2,h3,r1,r2,r3⟩:=app_any (m:=0) hacc2 q.1 (by intro hh;have:=B5 t;rw [hh] at this;simp at this;omega) (by rw [B5];omega) (by omega) e1 (Nat.le_refl _) (by omega)
  refine Sx.Ag r1 ?_
  refine Sx.Ag (v:=.int .i64 ((pre++[t]).length:Int)) (h:=h3) (by rw [Sx.xBin_add,Sx.Cg];simp;omega;omega) ?_
  have:=ih (pre++[t]) h3 (m+12 * size t+2) w2 (fr f0 [(255,(.Bl [])),(11,.bool true),(12,.ptr b o'),(13,Ax t),(7,Ax t),(14,t5),(15,Ax t),(16,w),(17,w2),(18,.int .i64 ((pre++[t]).length:Int))]) n2 (by rw [hpre];simp) (by simp at hn ⊢;omega) r2 (by omega) (.inr (by rw [List.flatMap_append];simpa using r3))
  exact this
abbrev HJoin (o:Int) (ts:List Tr):Prop:=∀ (h:H) (v:AV),TrsAt h v ts->h.nx+cost ts<=Bh->(ts.flatMap Tr.nodes).length+1<=10000->Sx.B3 (cost ts) h (fun v h'=>NdOw h.nx h' v (ts.flatMap Tr.nodes++[⟨o,0,[]⟩])) (ctx.call 351 [.int .i64 o,v] h)
theorem n351 (o:Int) (ts:List Tr) (hN:ts.length+1<=N) (hts:∀ t∈ts,HNodes ctx t) (h:H) (v:AV) (hv:TrsAt h v ts) (hr:h.nx+cost ts<=Bh) (hsz:(ts.flatMap Tr.nodes).length+1<=10000):
 Sx.B3 (cost ts) h (fun v h'=>NdOw h.nx h' v (ts.flatMap Tr.nodes++[⟨o,0,[]⟩])) (An Tryz.prog ctx N true 351 [.int .i64 o,v] h):=by
 rw [e351]
 refine Sx.Ag hv.len ?_
 exact loop351 ctx N o v ts hts h (cost ts) hv hr hsz ts [] h 0 .Cb _ N rfl hN (Sx.Ext.refl 0 h) (by omega) (.inl ⟨rfl,rfl⟩)
theorem buildTrs {h0 h:H} {n:Nat} (ts:List Tr) (he:Sx.Ext n h0 h) (hl:h.nx<Bh):Sx.Ext (n+1) h0 (h.new (.cells (ts.map Ax) 56 .exact))/\TrsAt (h.new (.cells (ts.map Ax) 56 .exact)) (.sl h.nx 0 ts.length ts.length 1 true) ts:=
 ⟨he.new _ hl,⟨.inr ⟨h.nx,0,ts.length,true,ts.map Ax,56,.exact,rfl,Nat.le_refl _,Sx.Az _ hl,trivial,by show h.nx<h.nx+1;omega,by simp,by rw [List.drop_zero,List.take_of_length_le (by simp)]⟩⟩⟩
theorem n356 (x:Nd) (h:H) (hr:h.nx+8<=Bh):Sx.B3 8 h (fun v h'=>NdOw h.nx h' v [x]) (An Tryz.prog ctx N true 356 [.agg (Bq x)] h):=by
 rw [e356]
 have e1:=(Sx.Ext.refl 0 h).new (.cells (Bq x) 170 .exact) (by omega)
 refine Sx.Ag (Sx.xBox_agg ..) ?_
 refine Sx.Ag (Sx.Cz ..) ?_
 refine Sx.Ag (Sx.load_many (Sx.Az _ (by omega)) trivial (by simp [Bq])) ?_
 refine Sx.Ag (v:=.sl (h.nx+1) 0 1 1 3 true) (h:=(h.new (.cells (Bq x) 170 .exact)).new (.cells (Bq x) 32 .exact)) (by simp [Bq]) ?_
 refine Sx.Bs (e1.new _ (by show h.nx+1<Bh;omega)) (by omega) ⟨⟨.inr ⟨h.nx+1,0,1,true,Bq x,32,.exact,rfl,Nat.le_refl _,Sx.Az (h:=h.new (.cells (Bq x) 170 .exact)) _ (by show h.nx+1<Bh;omega),trivial,by show h.nx+1<h.nx+1+1;omega,by simp [Bq],rfl⟩⟩,.inr ⟨h.nx+1,0,1,true,Bq x,.exact,rfl,Sx.Az (h:=h.new (.cells (Bq x) 170 .exact)) _ (by show h.nx+1<Bh;omega),by simp [Bq],by omega,by show h.nx+1<h.nx+1+1;omega,.inl rfl⟩⟩
theorem n349 (o:Int) (a:Tr) (hj:HJoin ctx o [a]) (h:H) (hr:h.nx+12 * size (.one o a)<=Bh) (hs:size (.one o a)<=10000):Sx.B3 (12 * size (.one o a)) h (fun v h'=>NdOw h.nx h' v (Tr.one o a).nodes) (An Tryz.prog ctx N true 349 [.agg [.int .i64 o,Ax a]] h):=by
 rw [e349]
 simp only [size] at hr hs
 have e1:=(Sx.Ext.refl 0 h).new (.cells [.int .i64 o,Ax a] 109 .exact) (by omega)
 have hg:(h.new (.cells [.int .i64 o,Ax a] 109 .exact)).m.get h.nx=.cells [.int .i64 o,Ax a] 109 .exact:=Sx.Az _ (by omega)
 refine Sx.Ag (Sx.xBox_agg ..) ?_
 refine Sx.Ag (Sx.Cz ..) ?_
 refine Sx.Ag (Sx.Da hg trivial rfl) ?_
 refine Sx.Ag (Sx.Cz ..) ?_
 refine Sx.Ag (Sx.Da hg trivial rfl) ?_
 obtain ⟨e2,ht⟩:=buildTrs [a] e1 (by show h.nx+1<Bh;omega)
 refine Sx.Ag (v:=.sl (h.nx+1) 0 1 1 1 true) (h:=(h.new (.cells [.int .i64 o,Ax a] 109 .exact)).new (.cells [Ax a] 56 .exact)) (by simp) ?_
 refine Sx.gets_bind e2 (hj _ _ ht (by simp only [cost];show h.nx+1+1+_<=Bh;omega) (by simp [B5];omega)) fun v h1 e3 _ q=>?_
 refine Sx.Bs e3 (by simp only [cost,size];omega) ⟨?_,?_⟩
 . simpa [Tr.nodes] using q.1
 . simpa [Tr.nodes] using q.2.mono (show h.nx<=h.nx+1+1 by omega)
theorem n352 (o:Int) (a b:Tr) (hj:HJoin ctx o [a,b]) (h:H) (hr:h.nx+12 * size (.two o a b)<=Bh) (hs:size (.two o a b)<=10000):Sx.B3 (12 * size (.two o a b)) h (fun v h'=>NdOw h.nx h' v (Tr.two o a b).nodes) (An Tryz.prog ctx N true 352 [.agg [.int .i64 o,Ax a,Ax b]] h):=by
 rw [e352]
 simp only [size] at hr hs
 have hsa:=size_pos a
 have e1:=(Sx.Ext.refl 0 h).new (.cells [.int .i64 o,Ax a,Ax b] 111 .exact) (by omega)
 have hg:(h.new (.cells [.int .i64 o,Ax a,Ax b] 111 .exact)).m.get h.nx=.cells [.int .i64 o,Ax a,Ax b] 111 .exact:=Sx.Az _ (by omega)
 refine Sx.Ag (Sx.xBox_agg ..) ?_
 refine Sx.Ag (Sx.Cz ..) ?_
 refine Sx.Ag (Sx.Da hg trivial rfl) ?_
 refine Sx.Ag (Sx.Cz ..) ?_
 refine Sx.Ag (Sx.Da hg trivial rfl) ?_
 refine Sx.Ag (Sx.Cz ..) ?_
 refine Sx.Ag (Sx.Da hg trivial rfl) ?_
 obtain ⟨e2,ht⟩:=buildTrs [a,b] e1 (by show h.nx+1<Bh;omega)
 refine Sx.Ag (v:=.sl (h.nx+1) 0 2 2 1 true) (h:=(h.new (.cells [.int .i64 o,Ax a,Ax b] 111 .exact)).new (.cells [Ax a,Ax b] 56 .exact)) (by simp) ?_
 refine Sx.gets_bind e2 (hj _ _ ht (by simp only [cost];show h.nx+1+1+_<=Bh;omega) (by simp [B5];omega)) fun v h1 e3 _ q=>?_
 refine Sx.Bs e3 (by simp only [cost,size];omega) ⟨?_,?_⟩
 . simpa [Tr.nodes] using q.1
 . simpa [Tr.nodes] using q.2.mono (show h.nx<=h.nx+1+1 by omega)
theorem n354 (c a b:Tr) (hj:HJoin ctx 8 [c,a,b]) (h:H) (hr:h.nx+12 * size (.three c a b)<=Bh) (hs:size (.three c a b)<=10000):Sx.B3 (12 * size (.three c a b)) h (fun v h'=>NdOw h.nx h' v (Tr.three c a b).nodes) (An Tryz.prog ctx N true 354 [.agg [Ax c,Ax a,Ax b]] h):=by
 rw [e354]
 simp only [size] at hr hs
 have hsa:=size_pos a
 have hsc:=size_pos c
 have e1:=(Sx.Ext.refl 0 h).new (.cells [Ax c,Ax a,Ax b] 116 .exact) (by omega)
 have hg:(h.new (.cells [Ax c,Ax a,Ax b] 116 .exact)).m.get h.nx=.cells [Ax c,Ax a,Ax b] 116 .exact:=Sx.Az _ (by omega)
 refine Sx.Ag (Sx.xBox_agg ..) ?_
 refine Sx.Ag (Sx.Cz ..) ?_
 refine Sx.Ag (Sx.Da hg trivial rfl) ?_
 refine Sx.Ag (Sx.Cz ..) ?_
 refine Sx.Ag (Sx.Da hg trivial rfl) ?_
 refine Sx.Ag (Sx.Cz ..) ?_
 refine Sx.Ag (Sx.Da hg trivial rfl) ?_
 obtain ⟨e2,ht⟩:=buildTrs [c,a,b] e1 (by show h.nx+1<Bh;omega)
 refine Sx.Ag (v:=.sl (h.nx+1) 0 3 3 1 true) (h:=(h.new (.cells [Ax c,Ax a,Ax b] 116 .exact)).new (.cells [Ax c,Ax a,Ax b] 56 .exact)) (by simp) ?_
 refine Sx.gets_bind e2 (hj _ _ ht (by simp only [cost];show h.nx+1+1+_<=Bh;omega) (by simp [B5];omega)) fun v h1 e3 _ q=>?_
 refine Sx.Bs e3 (by simp only [cost,size];omega) ⟨?_,?_⟩
 . simpa [Tr.nodes] using q.1
 . simpa [Tr.nodes] using q.2.mono (show h.nx<=h.nx+1+1 by omega)
abbrev Run2 (g:FuncId) (args:List AV) (n:Nat) (h:H) (u:AV):Prop:=Sx.Comes (An Tryz.prog ctx N true g args h) (Sx.Out n h u)
theorem n177 (n:Int) (h:H):Run2 ctx N 177 [.int .i64 n] 8 h (.bool false):=by
 unfold Run2;rw [e177]
 repeat' (first|with_reducible (first|apply D3|apply D4|apply D5|apply D6)|(with_reducible (first|apply yb1|apply yb2|apply yb3|apply yb4);(conv=>lhs;simp (disch:=first|exact Ch|fail) [lc, *]);with_reducible (first|apply D3|apply D4|apply D5|apply D6|apply ya5|(refine ya6 (by simp) ?_)|(apply ya7<;>intro hc)))|(with_reducible (first|apply yd1|apply yd2|apply yd3|apply yd4)<;>intro hc))
 (all_goals with_reducible refine Sx.At ?_ ?_ ?_ ?_;all_goals exact finB)
theorem n178 (s:List Nat) (h:H):Run2 ctx N 178 [.str s] 8 h (.bool false):=by
 unfold Run2;rw [e178]
 repeat' (first|with_reducible (first|apply D3|apply D4|apply D5|apply D6)|(with_reducible (first|apply yb1|apply yb2|apply yb3|apply yb4);(conv=>lhs;simp (disch:=first|exact Ch|fail) [lc, *]);with_reducible (first|apply D3|apply D4|apply D5|apply D6|apply ya5|(refine ya6 (by simp) ?_)|(apply ya7<;>intro hc)))|(with_reducible (first|apply yd1|apply yd2|apply yd3|apply yd4)<;>intro hc))
 (all_goals with_reducible refine Sx.At ?_ ?_ ?_ ?_;all_goals exact finB)
abbrev H177:Prop:=∀ (n:Int) (h:H),ctx.call 177 [.int .i64 n] h=.ok (.bool false) h
abbrev H178:Prop:=∀ (s:List Nat) (h:H),ctx.call 178 [.str s] h=.ok (.bool false) h
abbrev H117:Prop:=∀ (a b:Int) (h:H),ctx.call 117 [.int .i64 a,.int .i64 b] h=.ok (.int .i64 (cmpI a b)) h
abbrev H118:Prop:=∀ (a b:List Nat) (h:H),ctx.call 118 [.str a,.str b] h=.ok (.int .i64 (cmpS a b)) h
theorem n117 (h177:H177 ctx) (a b:Int) (h:H):Run2 ctx N 117 [.int .i64 a,.int .i64 b] 8 h (.int .i64 (cmpI a b)):=by
 unfold Run2;rw [e117]
 repeat' (first|with_reducible (first|apply D3|apply D4|apply D5|apply D6)|(with_reducible (first|apply yb1|apply yb2|apply yb3|apply yb4);(conv=>lhs;simp (disch:=first|exact Ch|fail) [lc, *,h177]);with_reducible (first|apply D3|apply D4|apply D5|apply D6|apply ya5|(refine ya6 (by simp) ?_)|(apply ya7<;>intro hc)))|(with_reducible (first|apply yd1|apply yd2|apply yd3|apply yd4)<;>intro hc))
 (all_goals with_reducible refine Sx.At ?_ ?_ ?_ ?_;all_goals first|exact finA|(simp only [decide_eq_true_eq,decide_eq_false_iff_not] at *;simp [*,cmpI];done)|(simp_all [cmpI];done)|(simp_all [cmpI];omega))
theorem n118 (h178:H178 ctx) (a b:List Nat) (h:H):Run2 ctx N 118 [.str a,.str b] 8 h (.int .i64 (cmpS a b)):=by
 unfold Run2;rw [e118]
 repeat' (first|with_reducible (first|apply D3|apply D4|apply D5|apply D6)|(with_reducible (first|apply yb1|apply yb2|apply yb3|apply yb4);(conv=>lhs;simp (disch:=first|exact Ch|fail) [lc, *,h178]);with_reducible (first|apply D3|apply D4|apply D5|apply D6|apply ya5|(refine ya6 (by simp) ?_)|(apply ya7<;>intro hc)))|(with_reducible (first|apply yd1|apply yd2|apply yd3|apply yd4)<;>intro hc))
 (all_goals with_reducible refine Sx.At ?_ ?_ ?_ ?_;all_goals first|exact finA|(simp only [decide_eq_true_eq,decide_eq_false_iff_not] at *;simp [*,cmpS];done)|(simp_all [cmpS];done)|(simp_all [cmpS];omega))
abbrev IntsAt (h:H) (v:AV) (l:List Int):Prop:=Sx.SlAt 1 h v l.length (l.map (AV.int .i64))
theorem loop116 (l:List Int) (h:H) (v:AV) (hv:IntsAt h v l) (hl:l.length<=1000000):∀ (rest pre:List Int) (f0:L2) (n1:Nat),l=pre++rest->(∀ x∈pre,x=0)->rest.length+1<=n1 ->
 L116x1 ctx N n1 (.int .i64 0) v (.int .i64 l.length) (.int .i64 pre.length) f0 h=.ok (.int .i64 (orI rest)) h:=by
 intro rest
 induction rest with
 |nil=>
  intro pre f0 n1 hpre hz hn
  obtain ⟨n2,rfl⟩:∃ n2,n1=n2+1:=⟨n1 - 1,by omega⟩
  rw [List.append_nil] at hpre
  subst hpre
  rw [L116x1s,Sx.Fa,Sx.bindR_ok,show decide ((l.length:Int)<(l.length:Int))=false by simp,Sx.Dg]
  rfl
 |cons x rest ih=>
  intro pre f0 n1 hpre hz hn
  obtain ⟨n2,rfl⟩:∃ n2,n1=n2+1:=⟨n1 - 1,by omega⟩
  have hlen:l.length=pre.length+(rest.length+1):=by rw [hpre];simp
  obtain ⟨b,o',cs,e,k,p1,p2,p3,p4,p5,p6⟩:=hv.ia (i:=pre.length) (by omega)
  have hx:cs[o']?=some (.int .i64 x):=by
   have h7:((cs.drop o').take 1)[0]?=(((l.map (AV.int .i64)).drop (pre.length * 1)).take 1)[0]?:=by rw [p6]
   rw [hpre] at h7
   simpa [List.getElem?_take,List.getElem?_drop] using h7
  rw [L116x1s,Sx.Fa,Sx.bindR_ok,show decide ((pre.length:Int)<(l.length:Int))=true by simp [hlen];omega,Sx.Ef,p1,Sx.bindR_ok,Sx.Da p2 p3 hx,Sx.bindR_ok,Sx.xBin_neq,Sx.bindR_ok]
  by_cases hx0:x=0
  . rw [show (!decide (x=0))=false by simp [hx0],Sx.Dg,Sx.xBin_add,Sx.Cg _ (by omega) (by omega),Sx.bindR_ok]
    have:=ih (pre++[x]) (fr f0 [(255,(.Bl [])),(9,.bool true),(10,.ptr b o'),(11,.int .i64 x),(5,.int .i64 x),(12,.int .i64 x),(13,.int .i64 0),(14,.bool false),(16,.int .i64 ((pre++[x]).length:Int))]) n2 (by rw [hpre];simp) (by intro y hy;rcases List.mem_append.1 hy with hy|hy;exact hz y hy;simp at hy;omega) (by simp at hn ⊢;omega)
    rw [show ((pre++[x]).length:Int)=(pre.length:Int)+1 by simp] at this
    rw [show orI (x::rest)=orI rest by simp [orI,hx0]]
    exact this
  . rw [show (!decide (x=0))=true by simp [hx0],Sx.Ef]
    simp [orI,hx0]
theorem n116 (l:List Int) (h:H) (v:AV) (hv:IntsAt h v l) (hl:l.length<=1000000) (hN:l.length+1<=N):An Tryz.prog ctx N true 116 [v] h=.ok (.int .i64 (orI l)) h:=by
 rw [e116,hv.len,Sx.bindR_ok]
 exact loop116 ctx N l h v hv hl l [] _ N rfl (by simp) hN
abbrev H116:Prop:=∀ (l:List Int) (h:H) (v:AV),IntsAt h v l->l.length<=1000->ctx.call 116 [v] h=.ok (.int .i64 (orI l)) h
theorem n115 (h116:H116 ctx) (h117:H117 ctx) (h118:H118 ctx) (x y:Nd) (h:H) (hr:h.nx+8<=Bh):Run2 ctx N 115 [.agg (Bq x),.agg (Bq y)] 8 h (.int .i64 (cmpN x y)):=by
 unfold Run2;rw [e115]
 have h1:h.nx<Bh:=by omega
 repeat' (first|with_reducible (first|apply D3|apply D4|apply D5|apply D6)|(with_reducible (first|apply yb1|apply yb2|apply yb3|apply yb4);(conv=>lhs;simp (disch:=first|exact Ch|fail) [lc, *,Bq,h117,h118]);with_reducible (first|apply D3|apply D4|apply D5|apply D6|apply ya5|(refine ya6 (by simp) ?_)|(apply ya7<;>intro hc)))|(with_reducible (first|apply yd1|apply yd2|apply yd3|apply yd4)<;>intro hc))
 rw [h116 [cmpI x.op y.op,cmpI x.n y.n,cmpS x.col y.col]]
 . refine Sx.comes_bindQ_noLog ?_
   (all_goals with_reducible refine Sx.At ?_ ?_ ?_ ?_;all_goals first|exact finA|(simp only [decide_eq_true_eq,decide_eq_false_iff_not] at *;simp [*,cmpN];done)|(simp_all [cmpN];done)|(simp_all [cmpN];omega))
 . exact ⟨.inr ⟨h.nx+1+1,0,3,true,[.int .i64 (cmpI x.op y.op),.int .i64 (cmpI x.n y.n),.int .i64 (cmpS x.col y.col)],3,.exact,rfl,Nat.le_refl _,by simp (disch:=first|omega|(simp only [Sx.new_nx,Sx.put_nx,Sx.F6,Sx.reLog_nx];omega)) only [Sx.noLog_m,Sx.new_get,Sx.new_nx,Sx.F6,if_true],trivial,by show h.nx+1+1<h.nx+1+1+1;omega,by simp,by simp⟩⟩
 . simp
abbrev H115:Prop:=∀ (x y:Nd) (h:H),ctx.call 115 [.agg (Bq x),.agg (Bq y)] h=.ok (.int .i64 (cmpN x y)) h
theorem ext_new2 {h0 h:H} {n:Nat} (he:Sx.Ext n h0 h) (o:AO) (c:AO) (hl:h.nx<Bh):Sx.Ext (n+1) h0 ((h.new o).put h.nx c):=by
 have:=he.lo
 exact (he.new o hl).put h.nx c (by omega) hl
theorem flat_at (l:List Nd) (pre:List Nd) (x:Nd) (rest:List Nd) (hl:l=pre++x::rest):((flatN l).drop (pre.length * 3)).take 3=Bq x:=by
 subst hl
 have:flatN (pre++x::rest)=flatN pre++(Bq x++flatN rest):=by simp [flatN]
 rw [this,<- flat_len pre,List.drop_left]
 rfl
theorem loop114 (h115:H115 ctx) (hb:Ba Tryz.prog 115=true) (l m:List Nd) (h0:H) (v w:AV) (hv:NdAt h0 v l) (hw:NdAt h0 w m) (M:Nat) (hroom:h0.nx+M<=Bh) (hl:l.length<=100000):
 ∀ (rest pre m1 m2:List Nd) (h:H) (f0:L2) (n1 k:Nat),l=pre++rest->m=m1++m2->(m1.length=pre.length\/(m2=[]/\m.length<=pre.length/\False))->cmpL l m=cmpL rest m2->rest.length+1<=n1->Sx.Ext k h0 h->k+2 * rest.length<=M ->
  Sx.B3 M h0 (fun u h'=>u=.int .i64 (cmpL l m)) (L114x1 ctx N n1 v w (.fn (.func 115) [] []) v (.int .i64 l.length) (.int .i64 pre.length) f0 h):=by
 intro rest
 induction rest with
 |nil=>
  intro pre m1 m2 h f0 n1 k hpre hm hml hc hn he hk
  obtain ⟨n2,rfl⟩:∃ n2,n1=n2+1:=⟨n1 - 1,by omega⟩
  have hml':m1.length=pre.length:=by rcases hml with hh|⟨_,_,hh⟩;exact hh;exact hh.elim
  have hpl:pre.length=l.length:=by rw [hpre];simp
  have hmm:m.length=m1.length+m2.length:=by rw [hm];simp
  rw [L114x1s]
  refine Sx.Ag (Sx.Fa ..) ?_
  rw [show decide ((pre.length:Int)<(l.length:Int))=false by simp [hpl],Sx.Dg]
  refine Sx.Ag hv.len ?_
  refine Sx.Ag hw.len ?_
  refine Sx.Ag (Sx.Fa ..) ?_
  cases m2 with
  |nil=>
   rw [show decide ((l.length:Int)<(m.length:Int))=false by simp [hmm,<- hpl,hml'],Sx.Dg]
   exact Sx.Bs he (by omega) (by rw [hc];rfl)
  |cons y m2=>
   rw [show decide ((l.length:Int)<(m.length:Int))=true by simp [hmm,<- hpl,hml'];omega,Sx.Ef]
   exact Sx.Bs he (by omega) (by rw [hc];rfl)
 |cons x rest ih=>
  intro pre m1 m2 h f0 n1 k hpre hm hml hc hn he hk
  obtain ⟨n2,rfl⟩:∃ n2,n1=n2+1:=⟨n1 - 1,by omega⟩
  have hml':m1.length=pre.length:=by rcases hml with hh|⟨_,_,hh⟩;exact hh;exact hh.elim
  have hlen:l.length=pre.length+(rest.length+1):=by rw [hpre];simp
  have hmm:m.length=m1.length+m2.length:=by rw [hm];simp
  have hhi:=he.hi
  have hlo:=he.lo
  simp only [List.length_cons] at hk hn
  rw [L114x1s]
  refine Sx.Ag (Sx.Fa ..) ?_
  rw [show decide ((pre.length:Int)<(l.length:Int))=true by simp [hlen];omega,Sx.Ef]
  obtain ⟨b,o',cs,e,kk,p1,p2,p3,p4,p5,p6⟩:=(hv.ext he).ia (i:=pre.length) (by omega)
  rw [flat_at l pre x rest hpre] at p6
  refine Sx.Ag (p1 h) ?_
  refine Sx.Ag (Sx.load_many p2 p3 p5) ?_
  rw [p6]
  refine Sx.Ag (Sx.mk_ok ..) ?_
  refine Sx.Ag (v:=.Bl []) (h:=(h.new (.cells [.int .i64 0,.int .i64 0,.str []] 32 .exact)).put h.nx (.cells (Bq x) 32 .exact)) (by simp (disch:=first|omega|(simp only [Sx.new_nx];omega)) [lput_eq,Bq]) ?_
  have e1:=ext_new2 he (.cells [.int .i64 0,.int .i64 0,.str []] 32 .exact) (.cells (Bq x) 32 .exact) (by omega)
  have g1:((h.new (.cells [.int .i64 0,.int .i64 0,.str []] 32 .exact)).put h.nx (.cells (Bq x) 32 .exact)).m.get h.nx=.cells (Bq x) 32 .exact:=Sx.Dp _ _ (by omega)
  have hx1:((h.new (.cells [.int .i64 0,.int .i64 0,.str []] 32 .exact)).put h.nx (.cells (Bq x) 32 .exact)).nx=h.nx+1:=rfl
  generalize ((h.new (.cells [.int .i64 0,.int .i64 0,.str []] 32 .exact)).put h.nx (.cells (Bq x) 32 .exact))=h1 at e1 g1 hx1 ⊢
  refine Sx.Ag hw.len ?_
  refine Sx.Ag (Sx.xBin_geq ..) ?_
  cases m2 with
  |nil=>
   rw [show decide ((m.length:Int)<=(pre.length:Int))=true by simp [hmm,hml'],Sx.Ef]
   exact Sx.Bs e1 (by omega) (by rw [hc];rfl)
  |cons y m2=>
   rw [show decide ((m.length:Int)<=(pre.length:Int))=false by simp [hmm,hml'];omega,Sx.Dg]
   obtain ⟨b2,o2,cs2,ee,k2,q1,q2,q3,q4,q5,q6⟩:=(hw.ext e1).ia (i:=pre.length) (by rw [hmm,hml'];simp)
   rw [<- hml',flat_at m m1 y m2 hm] at q6
   refine Sx.Ag (q1 _) ?_
   refine Sx.Ag (Sx.load_many q2 q3 q5) ?_
   rw [q6]
   refine Sx.Ag (Sx.mk_ok ..) ?_
   refine Sx.Ag (v:=.Bl []) (h:=(h1.new (.cells [.int .i64 0,.int .i64 0,.str []] 32 .exact)).put h1.nx (.cells (Bq y) 32 .exact)) (by simp (disch:=first|omega|(simp only [Sx.new_nx];omega)) [lput_eq,Bq]) ?_
   have e2:=ext_new2 e1 (.cells [.int .i64 0,.int .i64 0,.str []] 32 .exact) (.cells (Bq y) 32 .exact) (by omega)
   have g2:((h1.new (.cells [.int .i64 0,.int .i64 0,.str []] 32 .exact)).put h1.nx (.cells (Bq y) 32 .exact)).m.get h1.nx=.cells (Bq y) 32 .exact:=Sx.Dp _ _ (by omega)
   have g3:((h1.new (.cells [.int .i64 0,.int .i64 0,.str []] 32 .exact)).put h1.nx (.cells (Bq y) 32 .exact)).m.get h.nx=.cells (Bq x) 32 .exact:=by
    rw [Sx.C3 _ _ _ (by omega) (by omega) (by omega),Sx.new_get_ne _ _ (by omega) (by omega) (by omega),g1]
   generalize ((h1.new (.cells [.int .i64 0,.int .i64 0,.str []] 32 .exact)).put h1.nx (.cells (Bq y) 32 .exact))=h2 at e2 g2 g3 ⊢
   refine Sx.Ag (Sx.load_many g3 trivial (by simp [Bq])) ?_
   refine Sx.Ag (Sx.load_many g2 trivial (by simp [Bq])) ?_
   refine Sx.Ag (v:=.int .i64 (cmpN x y)) (h:=h2) (by rw [Sx.cvV_fn,if_pos hb];exact h115 x y h2) ?_
   refine Sx.Ag (Sx.xBin_neq ..) ?_
   by_cases hz:cmpN x y=0
   . rw [show (!decide (cmpN x y=0))=false by simp [hz],Sx.Dg]
     refine Sx.Ag (v:=.int .i64 ((pre++[x]).length:Int)) (h:=h2) (by rw [Sx.xBin_add,Sx.Cg];simp;omega;omega) ?_
     refine ih (pre++[x]) (m1++[y]) m2 h2 _ n2 (k+1+1) (by rw [hpre];simp) (by rw [hm];simp) (.inl (by simp [hml'])) (by rw [hc];simp [cmpL,hz]) (by omega) e2 (by omega)
   . rw [show (!decide (cmpN x y=0))=true by simp [hz],Sx.Ef]
     exact Sx.Bs e2 (by omega) (by rw [hc];simp [cmpL,hz])
theorem n114 (h115:H115 ctx) (hb:Ba Tryz.prog 115=true) (l m:List Nd) (h:H) (v w:AV) (hv:NdAt h v l) (hw:NdAt h w m) (hr:h.nx+2 * l.length<=Bh) (hN:l.length+1<=N) (hl:l.length<=100000):
 Sx.B3 (2 * l.length) h (fun u h'=>u=.int .i64 (cmpL l m)) (An Tryz.prog ctx N true 114 [v,w,.fn (.func 115) [] []] h):=by
 rw [e114]
 refine Sx.Ag hv.len ?_
 exact loop114 ctx N h115 hb l m h v w hv hw (2 * l.length) hr hl l [] [] m h _ N 0 rfl rfl (.inl rfl) rfl hN (Sx.Ext.refl 0 h) (by omega)
abbrev H114:Prop:=∀ (l m:List Nd) (h:H) (v w:AV),NdAt h v l->NdAt h w m->h.nx+2 * l.length<=Bh->l.length<=100000->Sx.B3 (2 * l.length) h (fun u h'=>u=.int .i64 (cmpL l m)) (ctx.call 114 [v,w,.fn (.func 115) [] []] h)
theorem n68 (a b:Tr) (ha:HNodes ctx a) (hb:HNodes ctx b) (h114:H114 ctx) (hsa:size a<=1000) (hsb:size b<=1000) (h:H) (hr:h.nx+30000<=Bh):Sx.B3 30000 h (fun u h'=>u=.int .i64 (Nm.compare a b)) (An Tryz.prog ctx N true 68 [Ax a,Ax b] h):=by
 rw [e68]
 refine Sx.gets_bind (Sx.Ext.refl 0 h) (ha h (by omega) (by omega)) fun v h1 e1 e1' q1=>?_
 have:=e1.hi
 refine Sx.gets_bind e1 (hb h1 (by omega) (by omega)) fun w h2 e2 e2' q2=>?_
 have:=e2.hi
 refine Sx.gets_bind e2 (h114 a.nodes b.nodes h2 v w (q1.1.ext e2') q2.1 (by rw [B5];omega) (by rw [B5];omega)) fun u h3 e3 e3' q3=>?_
 refine Sx.Bs e3 (by rw [B5];omega) q3
end Go.Proofs
