/- The walks of package norm's functions on lists of nodes. -/
import Derived.Test.YtecikbfimlolcaaGreatDoorEvQa
import Derived.Test.YtecikbfimlolcaaGreatDoorEvQb
set_option maxRecDepth 100000
set_option linter.unusedSimpArgs false
set_option linter.unusedVariables false
set_option linter.unusedSectionVars false
noncomputable section
namespace Go.Proofs
open Go Go.Ev Go.Nm
attribute [local irreducible] Aa Al Af Ad
variable [Ii]
variable (ctx:Ac) (N:Nat)
abbrev Iw (l:List Nd):List AV:=l.flatMap Bw
abbrev Zi (h:H) (v:AV) (l:List Nd):Prop:=Sx.Oq 3 h v l.length (Iw l)
def Wr (s:Nat) (et:TypeId) (lo:Nat) (h:H) (v:AV) (len:Nat):Prop:=len=0\/∃b off cap ex cs k,v=.sl b off len cap s ex/\h.m.get b=.cells cs et k/\off+len * s<=cs.length/\lo<=b/\b<h.nx/\(k=.exact\/∃c st,k=.Gt c/\h.m.get c=.Fb st/\lo<=c/\c<h.nx/\c≠b)
theorem Wr.mono {s lo Z6 len:Nat} {et:TypeId} {h:H} {v:AV} (hw:Wr s et lo h v len) (hh:Z6<=lo):Wr s et Z6 h v len:=by
 rcases hw with h1|⟨b,off,cap,ex,cs,k,h1,h2,h3,h4,h5,h6⟩
 . exact .inl h1
 . refine .inr ⟨b,off,cap,ex,cs,k,h1,h2,h3,by omega,h5,?_⟩
   rcases h6 with h6|⟨c,st,h6,h7,h8,h9,Fh⟩
   . exact .inl h6
   . exact .inr ⟨c,st,h6,h7,by omega,h9,Fh⟩
theorem Wr.Gt {s lo len:Nat} {et:TypeId} {c:List AV} {h:H} {v:AV} (ht:Sx.Rl s lo et h v len c):Wr s et lo h v len:=by
 obtain ⟨b,k,st,hv,h1,h2,h3,h4,h5,h6,h7⟩:=ht.at'
 have:=ht.Rv
 exact .inr ⟨b,0,len,false,c,.Gt k,hv,h1,by omega,h3,h5,.inr ⟨k,st,rfl,h2,h4,h6,λhh=>h7 hh.symm⟩⟩
abbrev AgF (lo:Nat) (h:H) (v:AV) (l:List Nd):Prop:=Zi h v l/\Wr 3 32 lo h v l.length
abbrev My (h:H) (v:AV) (l:List Tr):Prop:=Sx.Oq 1 h v l.length (l.map A3)
theorem Tk:∀l:List Nd,Bm (Iw l)=true
 |[]=>rfl
 |x::l=>by
  have ih:=Tk l
  simp only [Iw] at ih
  simp [Iw,ih]
abbrev Zh (t:Tr):Prop:=∀h:H,h.nx+12 * size t<=Bq->size t<=10000->Sx.Cb (12 * size t) h (λv h'=>AgF h.nx h' v t.nodes) (Hn Tryz.prog ctx (A3 t) (mnm Tryz.prog 109 0) [] h)
def cost:List Tr->Nat
 |[]=>4
 |t::l=>12 * size t+2+cost l
abbrev Acc (lo:Nat) (h:H) (v:AV) (l:List Nd):Prop:=(l=[]/\v=.Bv)\/Sx.Rl 3 lo 32 h v l.length (Iw l)
theorem ApU (l:List Nd):(Iw l).length=l.length * 3:=by
 induction l with
 |nil=>rfl
 |cons x l ih=>simp only [Iw,List.flatMap_cons,List.length_append] at ih ⊢;rw [ih];simp;omega
theorem AhQ:∀l:List Tr,l.length<=(l.flatMap Tr.nodes).length
 |[]=>Nat.le_refl _
 |t::l=>by
  have:=AhQ l
  have:=Ao t
  have:=size_pos t
  simp [Ao] at *
  omega
theorem Alv {h0 h:H} {m n lo:Nat} {x y:AV} {a l:List Nd} (ha:Acc lo h x a) (hy:Zi h y l) (hl:l≠[]) (hb:a.length+l.length<=20000) (hr:h.nx+2<=Bq) (he:Sx.Ext n h0 h) (Kf:h0.nx<=lo) (A3W:lo<=h.nx):
 Sx.Cb (n+2) h0 (λv h'=>Sx.Rl 3 lo 32 h' v (a++l).length (Iw (a++l))) (Ds 32 3 32 x y h):=by
 have hlp:0<l.length:=List.length_pos_iff.2 hl
 rcases ha with ⟨rfl,rfl⟩|ht
 . obtain ⟨v,h1,q1,q2,q3⟩:=Sx.Aa2 (bytes:=32) (et:=32) (lo:=lo) hy hlp (by omega) (Tk l) hr A3W
   exact ⟨v,h1,q1,he.trans q2,q3⟩
 . obtain ⟨v,h1,q1,q2,q3⟩:=Sx.AsZ (bytes:=32) ht hy hlp (by omega) (Tk l) (by omega) Kf he
   refine ⟨v,h1,q1,q2.mono (by omega),?_⟩
   rw [List.length_append,Iw,List.flatMap_append]
   exact q3
theorem Auj (o:Int) (v:AV) (ts:List Tr) (hts:∀t∈ts,Zh ctx t) (h0:H) (M:Nat) (hv:My h0 v ts) (AeB:h0.nx+M<=Bq) (Fc:(ts.flatMap Tr.nodes).length+1<=10000):
 ∀(rest pre:List Tr) (h:H) (m:Nat) (t5:AV) (f0:L2) (n1:Nat),ts=pre++rest->rest.length+1<=n1->Sx.Ext m h0 h->m+cost rest<=M->Acc h0.nx h t5 (pre.flatMap Tr.nodes) ->
  Sx.Cb M h0 (λv h'=>AgF h0.nx h' v (ts.flatMap Tr.nodes++[⟨o,0,[]⟩])) (Afk ctx N n1 (.int .i64 o) t5 v (.int .i64 ts.length) (.int .i64 pre.length) f0 h):=by
 intro rest
 induction rest with
 |nil=>
  intro pre h m t5 f0 n1 Hk hn he hm Ayu
  obtain ⟨n2,rfl⟩:∃n2,n1=n2+1:=⟨n1 - 1,by omega⟩
  rw [List.append_nil] at Hk
  subst Hk
  simp only [cost] at hm
  have hhi:=he.hi
  have Kf:=he.lo
  rw [Ali]
  refine Sx.Ag (Sx.Hf ..) ?_
  rw [show decide ((ts.length:Int)<(ts.length:Int))=false by simp]
  rw [Sx.Dq]
  refine Sx.Ag (v:=.agg (Bw ⟨o,0,[]⟩)) (h:=h) (by simp [Bw]) ?_
  refine Sx.Ag (v:=.sl h.nx 0 1 1 3 true) (h:=h.new (.cells (Bw ⟨o,0,[]⟩) 32 .exact)) (by simp [Bw]) ?_
  have e2:=he.new (.cells (Bw ⟨o,0,[]⟩) 32 .exact) (by omega)
  have hy:Zi (h.new (.cells (Bw ⟨o,0,[]⟩) 32 .exact)) (.sl h.nx 0 1 1 3 true) [⟨o,0,[]⟩]:=
   ⟨.inr ⟨h.nx,0,1,true,Bw ⟨o,0,[]⟩,32,.exact,rfl,Nat.le_refl _,Sx.A6 _ (by omega),trivial,by show h.nx<h.nx+1;omega,by simp [Bw],rfl⟩⟩
  have Aql:Acc h0.nx (h.new (.cells (Bw ⟨o,0,[]⟩) 32 .exact)) t5 (ts.flatMap Tr.nodes):=by
   rcases Ayu with hh|hh
   . exact .inl hh
   . exact .inr (hh.ext ((Sx.Ext.refl 0 h).new _ (by omega)))
  obtain ⟨w,h3,q1,q2,q3⟩:=Alv (m:=0) Aql hy (by simp) (by simp at Fc ⊢;omega) (by show h.nx+1+2<=Bq;omega) e2 (Nat.le_refl _) (by show h0.nx<=h.nx+1;omega)
  refine Sx.Ag q1 ?_
  exact Sx.B0 q2 (by omega) ⟨q3.sl,Wr.Gt q3⟩
 |cons t rest ih=>
  intro pre h m t5 f0 n1 Hk hn he hm Ayu
  obtain ⟨n2,rfl⟩:∃n2,n1=n2+1:=⟨n1 - 1,by omega⟩
  have hlen:ts.length=pre.length+(rest.length+1):=by rw [Hk];simp
  have hhi:=he.hi
  have Kf:=he.lo
  have hsp:=size_pos t
  simp only [cost] at hm
  have BeT:(pre.flatMap Tr.nodes).length+size t+(rest.flatMap Tr.nodes).length+1<=10000:=by
   rw [Hk] at Fc;simp [List.flatMap_append,Ao] at Fc ⊢;omega
  have Z1:=AhQ pre
  rw [Ali]
  refine Sx.Ag (Sx.Hf ..) ?_
  rw [show decide ((pre.length:Int)<(ts.length:Int))=true by simp [hlen];omega]
  rw [Sx.Ep]
  obtain ⟨b,o',cs,e,k,p1,p2,p3,p4,p5,p6⟩:=(hv.ext he).ia (i:=pre.length) (by omega)
  refine Sx.Ag (p1 h) ?_
  have hx:cs[o']?=some (A3 t):=by
   have h7:((cs.drop o').take 1)[0]?=(((ts.map A3).drop (pre.length * 1)).take 1)[0]?:=by rw [p6]
   rw [Hk] at h7
   simpa [List.getElem?_take,List.getElem?_drop] using h7
  refine Sx.Ag (Sx.Di p2 p3 hx) ?_
  have ht:=hts t (by rw [Hk];simp) h (by omega) (by omega)
  refine Sx.Ic he ht λw h1 e1 e1' q=>?_
  have Aql:Acc h0.nx h1 t5 (pre.flatMap Tr.nodes):=by
   rcases Ayu with hh|hh
   . exact .inl hh
   . exact .inr (hh.ext e1')
  have Beu:=e1.hi
  have BeA:=e1.lo
  obtain ⟨w2,h3,r1,r2,r3⟩:=Alv (m:=0) Aql q.1 (by intro hh;have:=Ao t;rw [hh] at this;simp at this;omega) (by rw [Ao];omega) (by omega) e1 (Nat.le_refl _) (by omega)
  refine Sx.Ag r1 ?_
  refine Sx.Ag (v:=.int .i64 ((pre++[t]).length:Int)) (h:=h3) (by rw [Sx.Uc,Sx.Cr];simp;omega;omega) ?_
  have:=ih (pre++[t]) h3 (m+12 * size t+2) w2 (fr f0 [(255,(.Bj [])),(11,.bool true),(12,.ptr b o'),(13,A3 t),(7,A3 t),(14,t5),(15,A3 t),(16,w),(17,w2),(18,.int .i64 ((pre++[t]).length:Int))]) n2 (by rw [Hk];simp) (by simp at hn ⊢;omega) r2 (by omega) (.inr (by rw [List.flatMap_append];simpa using r3))
  exact this
abbrev AkS (o:Int) (ts:List Tr):Prop:=∀(h:H) (v:AV),My h v ts->h.nx+cost ts<=Bq->(ts.flatMap Tr.nodes).length+1<=10000->Sx.Cb (cost ts) h (λv h'=>AgF h.nx h' v (ts.flatMap Tr.nodes++[⟨o,0,[]⟩])) (ctx.call 351 [.int .i64 o,v] h)
theorem A9E (o:Int) (ts:List Tr) (hN:ts.length+1<=N) (hts:∀t∈ts,Zh ctx t) (h:H) (v:AV) (hv:My h v ts) (hr:h.nx+cost ts<=Bq) (Fc:(ts.flatMap Tr.nodes).length+1<=10000):
 Sx.Cb (cost ts) h (λv h'=>AgF h.nx h' v (ts.flatMap Tr.nodes++[⟨o,0,[]⟩])) (Ay Tryz.prog ctx N true 351 [.int .i64 o,v] h):=by
 rw [A7K]
 refine Sx.Ag hv.len ?_
 exact Auj ctx N o v ts hts h (cost ts) hv hr Fc ts [] h 0 .Bv _ N rfl hN (Sx.Ext.refl 0 h) (by omega) (.inl ⟨rfl,rfl⟩)
theorem AbT {h0 h:H} {n:Nat} (ts:List Tr) (he:Sx.Ext n h0 h) (hl:h.nx<Bq):Sx.Ext (n+1) h0 (h.new (.cells (ts.map A3) 56 .exact))/\My (h.new (.cells (ts.map A3) 56 .exact)) (.sl h.nx 0 ts.length ts.length 1 true) ts:=
 ⟨he.new _ hl,⟨.inr ⟨h.nx,0,ts.length,true,ts.map A3,56,.exact,rfl,Nat.le_refl _,Sx.A6 _ hl,trivial,by show h.nx<h.nx+1;omega,by simp,by rw [List.drop_zero,List.take_of_length_le (by simp)]⟩⟩⟩
theorem A9J (x:Nd) (h:H) (hr:h.nx+8<=Bq):Sx.Cb 8 h (λv h'=>AgF h.nx h' v [x]) (Ay Tryz.prog ctx N true 356 [.agg (Bw x)] h):=by
 rw [A7P]
 have e1:=(Sx.Ext.refl 0 h).new (.cells (Bw x) 170 .exact) (by omega)
 refine Sx.Ag (Sx.Hg ..) ?_
 refine Sx.Ag (Sx.E3 ..) ?_
 refine Sx.Ag (Sx.Nr (Sx.A6 _ (by omega)) trivial (by simp [Bw])) ?_
 refine Sx.Ag (v:=.sl (h.nx+1) 0 1 1 3 true) (h:=(h.new (.cells (Bw x) 170 .exact)).new (.cells (Bw x) 32 .exact)) (by simp [Bw]) ?_
 refine Sx.B0 (e1.new _ (by show h.nx+1<Bq;omega)) (by omega) ⟨⟨.inr ⟨h.nx+1,0,1,true,Bw x,32,.exact,rfl,Nat.le_refl _,Sx.A6 (h:=h.new (.cells (Bw x) 170 .exact)) _ (by show h.nx+1<Bq;omega),trivial,by show h.nx+1<h.nx+1+1;omega,by simp [Bw],rfl⟩⟩,.inr ⟨h.nx+1,0,1,true,Bw x,.exact,rfl,Sx.A6 (h:=h.new (.cells (Bw x) 170 .exact)) _ (by show h.nx+1<Bq;omega),by simp [Bw],by omega,by show h.nx+1<h.nx+1+1;omega,.inl rfl⟩⟩
theorem A9C (o:Int) (a:Tr) (hj:AkS ctx o [a]) (h:H) (hr:h.nx+12 * size (.one o a)<=Bq) (hs:size (.one o a)<=10000):Sx.Cb (12 * size (.one o a)) h (λv h'=>AgF h.nx h' v (Tr.one o a).nodes) (Ay Tryz.prog ctx N true 349 [.agg [.int .i64 o,A3 a]] h):=by
 rw [A7I]
 simp only [size] at hr hs
 have e1:=(Sx.Ext.refl 0 h).new (.cells [.int .i64 o,A3 a] 109 .exact) (by omega)
 have hg:(h.new (.cells [.int .i64 o,A3 a] 109 .exact)).m.get h.nx=.cells [.int .i64 o,A3 a] 109 .exact:=Sx.A6 _ (by omega)
 refine Sx.Ag (Sx.Hg ..) ?_
 refine Sx.Ag (Sx.E3 ..) ?_
 refine Sx.Ag (Sx.Di hg trivial rfl) ?_
 refine Sx.Ag (Sx.E3 ..) ?_
 refine Sx.Ag (Sx.Di hg trivial rfl) ?_
 obtain ⟨e2,ht⟩:=AbT [a] e1 (by show h.nx+1<Bq;omega)
 refine Sx.Ag (v:=.sl (h.nx+1) 0 1 1 1 true) (h:=(h.new (.cells [.int .i64 o,A3 a] 109 .exact)).new (.cells [A3 a] 56 .exact)) (by simp) ?_
 refine Sx.Ic e2 (hj _ _ ht (by simp only [cost];show h.nx+1+1+_<=Bq;omega) (by simp [Ao];omega)) λv h1 e3 _ q=>?_
 refine Sx.B0 e3 (by simp only [cost,size];omega) ⟨?_,?_⟩
 . simpa [Tr.nodes] using q.1
 . simpa [Tr.nodes] using q.2.mono (show h.nx<=h.nx+1+1 by omega)
theorem A9F (o:Int) (a b:Tr) (hj:AkS ctx o [a,b]) (h:H) (hr:h.nx+12 * size (.two o a b)<=Bq) (hs:size (.two o a b)<=10000):Sx.Cb (12 * size (.two o a b)) h (λv h'=>AgF h.nx h' v (Tr.two o a b).nodes) (Ay Tryz.prog ctx N true 352 [.agg [.int .i64 o,A3 a,A3 b]] h):=by
 rw [A7L]
 simp only [size] at hr hs
 have hsa:=size_pos a
 have e1:=(Sx.Ext.refl 0 h).new (.cells [.int .i64 o,A3 a,A3 b] 111 .exact) (by omega)
 have hg:(h.new (.cells [.int .i64 o,A3 a,A3 b] 111 .exact)).m.get h.nx=.cells [.int .i64 o,A3 a,A3 b] 111 .exact:=Sx.A6 _ (by omega)
 refine Sx.Ag (Sx.Hg ..) ?_
 refine Sx.Ag (Sx.E3 ..) ?_
 refine Sx.Ag (Sx.Di hg trivial rfl) ?_
 refine Sx.Ag (Sx.E3 ..) ?_
 refine Sx.Ag (Sx.Di hg trivial rfl) ?_
 refine Sx.Ag (Sx.E3 ..) ?_
 refine Sx.Ag (Sx.Di hg trivial rfl) ?_
 obtain ⟨e2,ht⟩:=AbT [a,b] e1 (by show h.nx+1<Bq;omega)
 refine Sx.Ag (v:=.sl (h.nx+1) 0 2 2 1 true) (h:=(h.new (.cells [.int .i64 o,A3 a,A3 b] 111 .exact)).new (.cells [A3 a,A3 b] 56 .exact)) (by simp) ?_
 refine Sx.Ic e2 (hj _ _ ht (by simp only [cost];show h.nx+1+1+_<=Bq;omega) (by simp [Ao];omega)) λv h1 e3 _ q=>?_
 refine Sx.B0 e3 (by simp only [cost,size];omega) ⟨?_,?_⟩
 . simpa [Tr.nodes] using q.1
 . simpa [Tr.nodes] using q.2.mono (show h.nx<=h.nx+1+1 by omega)
theorem A9H (c a b:Tr) (hj:AkS ctx 8 [c,a,b]) (h:H) (hr:h.nx+12 * size (.three c a b)<=Bq) (hs:size (.three c a b)<=10000):Sx.Cb (12 * size (.three c a b)) h (λv h'=>AgF h.nx h' v (Tr.three c a b).nodes) (Ay Tryz.prog ctx N true 354 [.agg [A3 c,A3 a,A3 b]] h):=by
 rw [A7N]
 simp only [size] at hr hs
 have hsa:=size_pos a
 have hsc:=size_pos c
 have e1:=(Sx.Ext.refl 0 h).new (.cells [A3 c,A3 a,A3 b] 116 .exact) (by omega)
 have hg:(h.new (.cells [A3 c,A3 a,A3 b] 116 .exact)).m.get h.nx=.cells [A3 c,A3 a,A3 b] 116 .exact:=Sx.A6 _ (by omega)
 refine Sx.Ag (Sx.Hg ..) ?_
 refine Sx.Ag (Sx.E3 ..) ?_
 refine Sx.Ag (Sx.Di hg trivial rfl) ?_
 refine Sx.Ag (Sx.E3 ..) ?_
 refine Sx.Ag (Sx.Di hg trivial rfl) ?_
 refine Sx.Ag (Sx.E3 ..) ?_
 refine Sx.Ag (Sx.Di hg trivial rfl) ?_
 obtain ⟨e2,ht⟩:=AbT [c,a,b] e1 (by show h.nx+1<Bq;omega)
 refine Sx.Ag (v:=.sl (h.nx+1) 0 3 3 1 true) (h:=(h.new (.cells [A3 c,A3 a,A3 b] 116 .exact)).new (.cells [A3 c,A3 a,A3 b] 56 .exact)) (by simp) ?_
 refine Sx.Ic e2 (hj _ _ ht (by simp only [cost];show h.nx+1+1+_<=Bq;omega) (by simp [Ao];omega)) λv h1 e3 _ q=>?_
 refine Sx.B0 e3 (by simp only [cost,size];omega) ⟨?_,?_⟩
 . simpa [Tr.nodes] using q.1
 . simpa [Tr.nodes] using q.2.mono (show h.nx<=h.nx+1+1 by omega)
abbrev Ad6 (g:FuncId) (args:List AV) (n:Nat) (h:H) (u:AV):Prop:=Sx.Comes (Ay Tryz.prog ctx N true g args h) (Sx.Out n h u)
theorem n177 (n:Int) (h:H):Ad6 ctx N 177 [.int .i64 n] 8 h (.bool false):=by
 unfold Ad6;rw [A7F]
 repeat' (first|with_reducible (first|apply Ee|apply Ef|apply Eg|apply Eh)|(with_reducible (first|apply Kv|apply Kw|apply Kx|apply K0);(conv=>lhs;simp (disch:=first|exact Ce|fail) [lc, *]);with_reducible (first|apply Ee|apply Ef|apply Eg|apply Eh|apply Ks|(refine Kt (by simp) ?_)|(apply Ku<;>intro hc)))|(with_reducible (first|apply K7|apply K8|apply K9|apply Ld)<;>intro hc))
 (all_goals with_reducible refine Sx.A0 ?_ ?_ ?_ ?_;all_goals exact Afw)
theorem n178 (s:List Nat) (h:H):Ad6 ctx N 178 [.str s] 8 h (.bool false):=by
 unfold Ad6;rw [A7G]
 repeat' (first|with_reducible (first|apply Ee|apply Ef|apply Eg|apply Eh)|(with_reducible (first|apply Kv|apply Kw|apply Kx|apply K0);(conv=>lhs;simp (disch:=first|exact Ce|fail) [lc, *]);with_reducible (first|apply Ee|apply Ef|apply Eg|apply Eh|apply Ks|(refine Kt (by simp) ?_)|(apply Ku<;>intro hc)))|(with_reducible (first|apply K7|apply K8|apply K9|apply Ld)<;>intro hc))
 (all_goals with_reducible refine Sx.A0 ?_ ?_ ?_ ?_;all_goals exact Afw)
abbrev A1o:Prop:=∀(n:Int) (h:H),ctx.call 177 [.int .i64 n] h=.ok (.bool false) h
abbrev A1p:Prop:=∀(s:List Nat) (h:H),ctx.call 178 [.str s] h=.ok (.bool false) h
abbrev A1j:Prop:=∀(a b:Int) (h:H),ctx.call 117 [.int .i64 a,.int .i64 b] h=.ok (.int .i64 (V5 a b)) h
abbrev A1k:Prop:=∀(a b:List Nat) (h:H),ctx.call 118 [.str a,.str b] h=.ok (.int .i64 (Abg a b)) h
theorem n117 (Ayh:A1o ctx) (a b:Int) (h:H):Ad6 ctx N 117 [.int .i64 a,.int .i64 b] 8 h (.int .i64 (V5 a b)):=by
 unfold Ad6;rw [A78]
 repeat' (first|with_reducible (first|apply Ee|apply Ef|apply Eg|apply Eh)|(with_reducible (first|apply Kv|apply Kw|apply Kx|apply K0);(conv=>lhs;simp (disch:=first|exact Ce|fail) [lc, *,Ayh]);with_reducible (first|apply Ee|apply Ef|apply Eg|apply Eh|apply Ks|(refine Kt (by simp) ?_)|(apply Ku<;>intro hc)))|(with_reducible (first|apply K7|apply K8|apply K9|apply Ld)<;>intro hc))
 (all_goals with_reducible refine Sx.A0 ?_ ?_ ?_ ?_;all_goals first|exact G9|(simp only [decide_eq_true_eq,decide_eq_false_iff_not] at *;simp [*,V5];done)|(simp_all [V5];done)|(simp_all [V5];omega))
theorem n118 (Ayi:A1p ctx) (a b:List Nat) (h:H):Ad6 ctx N 118 [.str a,.str b] 8 h (.int .i64 (Abg a b)):=by
 unfold Ad6;rw [A79]
 repeat' (first|with_reducible (first|apply Ee|apply Ef|apply Eg|apply Eh)|(with_reducible (first|apply Kv|apply Kw|apply Kx|apply K0);(conv=>lhs;simp (disch:=first|exact Ce|fail) [lc, *,Ayi]);with_reducible (first|apply Ee|apply Ef|apply Eg|apply Eh|apply Ks|(refine Kt (by simp) ?_)|(apply Ku<;>intro hc)))|(with_reducible (first|apply K7|apply K8|apply K9|apply Ld)<;>intro hc))
 (all_goals with_reducible refine Sx.A0 ?_ ?_ ?_ ?_;all_goals first|exact G9|(simp only [decide_eq_true_eq,decide_eq_false_iff_not] at *;simp [*,Abg];done)|(simp_all [Abg];done)|(simp_all [Abg];omega))
abbrev Ajc (h:H) (v:AV) (l:List Int):Prop:=Sx.Oq 1 h v l.length (l.map (AV.int .i64))
theorem Aui (l:List Int) (h:H) (v:AV) (hv:Ajc h v l) (hl:l.length<=1000000):∀(rest pre:List Int) (f0:L2) (n1:Nat),l=pre++rest->(∀x∈pre,x=0)->rest.length+1<=n1 ->
 Afj ctx N n1 (.int .i64 0) v (.int .i64 l.length) (.int .i64 pre.length) f0 h=.ok (.int .i64 (orI rest)) h:=by
 intro rest
 induction rest with
 |nil=>
  intro pre f0 n1 Hk hz hn
  obtain ⟨n2,rfl⟩:∃n2,n1=n2+1:=⟨n1 - 1,by omega⟩
  rw [List.append_nil] at Hk
  subst Hk
  rw [Ale,Sx.Hf,Sx.N2,show decide ((l.length:Int)<(l.length:Int))=false by simp,Sx.Dq]
  rfl
 |cons x rest ih=>
  intro pre f0 n1 Hk hz hn
  obtain ⟨n2,rfl⟩:∃n2,n1=n2+1:=⟨n1 - 1,by omega⟩
  have hlen:l.length=pre.length+(rest.length+1):=by rw [Hk];simp
  obtain ⟨b,o',cs,e,k,p1,p2,p3,p4,p5,p6⟩:=hv.ia (i:=pre.length) (by omega)
  have hx:cs[o']?=some (.int .i64 x):=by
   have h7:((cs.drop o').take 1)[0]?=(((l.map (AV.int .i64)).drop (pre.length * 1)).take 1)[0]?:=by rw [p6]
   rw [Hk] at h7
   simpa [List.getElem?_take,List.getElem?_drop] using h7
  rw [Ale,Sx.Hf,Sx.N2,show decide ((pre.length:Int)<(l.length:Int))=true by simp [hlen];omega,Sx.Ep,p1,Sx.N2,Sx.Di p2 p3 hx,Sx.N2,Sx.Y6,Sx.N2]
  by_cases hx0:x=0
  . rw [show (!decide (x=0))=false by simp [hx0],Sx.Dq,Sx.Uc,Sx.Cr _ (by omega) (by omega),Sx.N2]
    have:=ih (pre++[x]) (fr f0 [(255,(.Bj [])),(9,.bool true),(10,.ptr b o'),(11,.int .i64 x),(5,.int .i64 x),(12,.int .i64 x),(13,.int .i64 0),(14,.bool false),(16,.int .i64 ((pre++[x]).length:Int))]) n2 (by rw [Hk];simp) (by intro y hy;rcases List.mem_append.1 hy with hy|hy;exact hz y hy;simp at hy;omega) (by simp at hn ⊢;omega)
    rw [show ((pre++[x]).length:Int)=(pre.length:Int)+1 by simp] at this
    rw [show orI (x::rest)=orI rest by simp [orI,hx0]]
    exact this
  . rw [show (!decide (x=0))=true by simp [hx0],Sx.Ep]
    simp [orI,hx0]
theorem n116 (l:List Int) (h:H) (v:AV) (hv:Ajc h v l) (hl:l.length<=1000000) (hN:l.length+1<=N):Ay Tryz.prog ctx N true 116 [v] h=.ok (.int .i64 (orI l)) h:=by
 rw [A77,hv.len,Sx.N2]
 exact Aui ctx N l h v hv hl l [] _ N rfl (by simp) hN
abbrev A1i:Prop:=∀(l:List Int) (h:H) (v:AV),Ajc h v l->l.length<=1000->ctx.call 116 [v] h=.ok (.int .i64 (orI l)) h
theorem n115 (Ayd:A1i ctx) (Aye:A1j ctx) (Ayf:A1k ctx) (x y:Nd) (h:H) (hr:h.nx+8<=Bq):Ad6 ctx N 115 [.agg (Bw x),.agg (Bw y)] 8 h (.int .i64 (V6 x y)):=by
 unfold Ad6;rw [A76]
 have h1:h.nx<Bq:=by omega
 repeat' (first|with_reducible (first|apply Ee|apply Ef|apply Eg|apply Eh)|(with_reducible (first|apply Kv|apply Kw|apply Kx|apply K0);(conv=>lhs;simp (disch:=first|exact Ce|fail) [lc, *,Bw,Aye,Ayf]);with_reducible (first|apply Ee|apply Ef|apply Eg|apply Eh|apply Ks|(refine Kt (by simp) ?_)|(apply Ku<;>intro hc)))|(with_reducible (first|apply K7|apply K8|apply K9|apply Ld)<;>intro hc))
 rw [Ayd [V5 x.op y.op,V5 x.n y.n,Abg x.Zn y.Zn]]
 . refine Sx.O5 ?_
   (all_goals with_reducible refine Sx.A0 ?_ ?_ ?_ ?_;all_goals first|exact G9|(simp only [decide_eq_true_eq,decide_eq_false_iff_not] at *;simp [*,V6];done)|(simp_all [V6];done)|(simp_all [V6];omega))
 . exact ⟨.inr ⟨h.nx+1+1,0,3,true,[.int .i64 (V5 x.op y.op),.int .i64 (V5 x.n y.n),.int .i64 (Abg x.Zn y.Zn)],3,.exact,rfl,Nat.le_refl _,by simp (disch:=first|omega|(simp only [Sx.Z9,Sx.ArH,Sx.AcQ,Sx.Ait];omega)) only [Sx.Auu,Sx.Ni,Sx.Z9,Sx.AcQ,if_true],trivial,by show h.nx+1+1<h.nx+1+1+1;omega,by simp,by simp⟩⟩
 . simp
abbrev AwE:Prop:=∀(x y:Nd) (h:H),ctx.call 115 [.agg (Bw x),.agg (Bw y)] h=.ok (.int .i64 (V6 x y)) h
theorem Xo {h0 h:H} {n:Nat} (he:Sx.Ext n h0 h) (o:AO) (c:AO) (hl:h.nx<Bq):Sx.Ext (n+1) h0 ((h.new o).put h.nx c):=by
 have:=he.lo
 exact (he.new o hl).put h.nx c (by omega) hl
theorem Afy (l:List Nd) (pre:List Nd) (x:Nd) (rest:List Nd) (hl:l=pre++x::rest):((Iw l).drop (pre.length * 3)).take 3=Bw x:=by
 subst hl
 have:Iw (pre++x::rest)=Iw pre++(Bw x++Iw rest):=by simp [Iw]
 rw [this,<- ApU pre,List.drop_left]
 rfl
theorem Auh (Aqe:AwE ctx) (hb:Bg Tryz.prog 115=true) (l m:List Nd) (h0:H) (v w:AV) (hv:Zi h0 v l) (hw:Zi h0 w m) (M:Nat) (AeB:h0.nx+M<=Bq) (hl:l.length<=100000):
 ∀(rest pre m1 m2:List Nd) (h:H) (f0:L2) (n1 k:Nat),l=pre++rest->m=m1++m2->(m1.length=pre.length\/(m2=[]/\m.length<=pre.length/\False))->cmpL l m=cmpL rest m2->rest.length+1<=n1->Sx.Ext k h0 h->k+2 * rest.length<=M ->
  Sx.Cb M h0 (λu h'=>u=.int .i64 (cmpL l m)) (Afi ctx N n1 v w (.fn (.func 115) [] []) v (.int .i64 l.length) (.int .i64 pre.length) f0 h):=by
 intro rest
 induction rest with
 |nil=>
  intro pre m1 m2 h f0 n1 k Hk hm hml hc hn he hk
  obtain ⟨n2,rfl⟩:∃n2,n1=n2+1:=⟨n1 - 1,by omega⟩
  have AhC:m1.length=pre.length:=by rcases hml with hh|⟨_,_,hh⟩;exact hh;exact hh.elim
  have Z1:pre.length=l.length:=by rw [Hk];simp
  have hmm:m.length=m1.length+m2.length:=by rw [hm];simp
  rw [Ald]
  refine Sx.Ag (Sx.Hf ..) ?_
  rw [show decide ((pre.length:Int)<(l.length:Int))=false by simp [Z1],Sx.Dq]
  refine Sx.Ag hv.len ?_
  refine Sx.Ag hw.len ?_
  refine Sx.Ag (Sx.Hf ..) ?_
  cases m2 with
  |nil=>
   rw [show decide ((l.length:Int)<(m.length:Int))=false by simp [hmm,<- Z1,AhC],Sx.Dq]
   exact Sx.B0 he (by omega) (by rw [hc];rfl)
  |cons y m2=>
   rw [show decide ((l.length:Int)<(m.length:Int))=true by simp [hmm,<- Z1,AhC];omega,Sx.Ep]
   exact Sx.B0 he (by omega) (by rw [hc];rfl)
 |cons x rest ih=>
  intro pre m1 m2 h f0 n1 k Hk hm hml hc hn he hk
  obtain ⟨n2,rfl⟩:∃n2,n1=n2+1:=⟨n1 - 1,by omega⟩
  have AhC:m1.length=pre.length:=by rcases hml with hh|⟨_,_,hh⟩;exact hh;exact hh.elim
  have hlen:l.length=pre.length+(rest.length+1):=by rw [Hk];simp
  have hmm:m.length=m1.length+m2.length:=by rw [hm];simp
  have hhi:=he.hi
  have Kf:=he.lo
  simp only [List.length_cons] at hk hn
  rw [Ald]
  refine Sx.Ag (Sx.Hf ..) ?_
  rw [show decide ((pre.length:Int)<(l.length:Int))=true by simp [hlen];omega,Sx.Ep]
  obtain ⟨b,o',cs,e,kk,p1,p2,p3,p4,p5,p6⟩:=(hv.ext he).ia (i:=pre.length) (by omega)
  rw [Afy l pre x rest Hk] at p6
  refine Sx.Ag (p1 h) ?_
  refine Sx.Ag (Sx.Nr p2 p3 p5) ?_
  rw [p6]
  refine Sx.Ag (Sx.AeI ..) ?_
  refine Sx.Ag (v:=.Bj []) (h:=(h.new (.cells [.int .i64 0,.int .i64 0,.str []] 32 .exact)).put h.nx (.cells (Bw x) 32 .exact)) (by simp (disch:=first|omega|(simp only [Sx.Z9];omega)) [Kh,Bw]) ?_
  have e1:=Xo he (.cells [.int .i64 0,.int .i64 0,.str []] 32 .exact) (.cells (Bw x) 32 .exact) (by omega)
  have g1:((h.new (.cells [.int .i64 0,.int .i64 0,.str []] 32 .exact)).put h.nx (.cells (Bw x) 32 .exact)).m.get h.nx=.cells (Bw x) 32 .exact:=Sx.Dz _ _ (by omega)
  have hx1:((h.new (.cells [.int .i64 0,.int .i64 0,.str []] 32 .exact)).put h.nx (.cells (Bw x) 32 .exact)).nx=h.nx+1:=rfl
  generalize ((h.new (.cells [.int .i64 0,.int .i64 0,.str []] 32 .exact)).put h.nx (.cells (Bw x) 32 .exact))=h1 at e1 g1 hx1 ⊢
  refine Sx.Ag hw.len ?_
  refine Sx.Ag (Sx.As1 ..) ?_
  cases m2 with
  |nil=>
   rw [show decide ((m.length:Int)<=(pre.length:Int))=true by simp [hmm,AhC],Sx.Ep]
   exact Sx.B0 e1 (by omega) (by rw [hc];rfl)
  |cons y m2=>
   rw [show decide ((m.length:Int)<=(pre.length:Int))=false by simp [hmm,AhC];omega,Sx.Dq]
   obtain ⟨b2,o2,cs2,ee,k2,q1,q2,q3,q4,q5,q6⟩:=(hw.ext e1).ia (i:=pre.length) (by rw [hmm,AhC];simp)
   rw [<- AhC,Afy m m1 y m2 hm] at q6
   refine Sx.Ag (q1 _) ?_
   refine Sx.Ag (Sx.Nr q2 q3 q5) ?_
   rw [q6]
   refine Sx.Ag (Sx.AeI ..) ?_
   refine Sx.Ag (v:=.Bj []) (h:=(h1.new (.cells [.int .i64 0,.int .i64 0,.str []] 32 .exact)).put h1.nx (.cells (Bw y) 32 .exact)) (by simp (disch:=first|omega|(simp only [Sx.Z9];omega)) [Kh,Bw]) ?_
   have e2:=Xo e1 (.cells [.int .i64 0,.int .i64 0,.str []] 32 .exact) (.cells (Bw y) 32 .exact) (by omega)
   have g2:((h1.new (.cells [.int .i64 0,.int .i64 0,.str []] 32 .exact)).put h1.nx (.cells (Bw y) 32 .exact)).m.get h1.nx=.cells (Bw y) 32 .exact:=Sx.Dz _ _ (by omega)
   have g3:((h1.new (.cells [.int .i64 0,.int .i64 0,.str []] 32 .exact)).put h1.nx (.cells (Bw y) 32 .exact)).m.get h.nx=.cells (Bw x) 32 .exact:=by
    rw [Sx.Db _ _ _ (by omega) (by omega) (by omega),Sx.H3 _ _ (by omega) (by omega) (by omega),g1]
   generalize ((h1.new (.cells [.int .i64 0,.int .i64 0,.str []] 32 .exact)).put h1.nx (.cells (Bw y) 32 .exact))=h2 at e2 g2 g3 ⊢
   refine Sx.Ag (Sx.Nr g3 trivial (by simp [Bw])) ?_
   refine Sx.Ag (Sx.Nr g2 trivial (by simp [Bw])) ?_
   refine Sx.Ag (v:=.int .i64 (V6 x y)) (h:=h2) (by rw [Sx.AxK,if_pos hb];exact Aqe x y h2) ?_
   refine Sx.Ag (Sx.Y6 ..) ?_
   by_cases hz:V6 x y=0
   . rw [show (!decide (V6 x y=0))=false by simp [hz],Sx.Dq]
     refine Sx.Ag (v:=.int .i64 ((pre++[x]).length:Int)) (h:=h2) (by rw [Sx.Uc,Sx.Cr];simp;omega;omega) ?_
     refine ih (pre++[x]) (m1++[y]) m2 h2 _ n2 (k+1+1) (by rw [Hk];simp) (by rw [hm];simp) (.inl (by simp [AhC])) (by rw [hc];simp [cmpL,hz]) (by omega) e2 (by omega)
   . rw [show (!decide (V6 x y=0))=true by simp [hz],Sx.Ep]
     exact Sx.B0 e2 (by omega) (by rw [hc];simp [cmpL,hz])
theorem n114 (Aqe:AwE ctx) (hb:Bg Tryz.prog 115=true) (l m:List Nd) (h:H) (v w:AV) (hv:Zi h v l) (hw:Zi h w m) (hr:h.nx+2 * l.length<=Bq) (hN:l.length+1<=N) (hl:l.length<=100000):
 Sx.Cb (2 * l.length) h (λu h'=>u=.int .i64 (cmpL l m)) (Ay Tryz.prog ctx N true 114 [v,w,.fn (.func 115) [] []] h):=by
 rw [A75]
 refine Sx.Ag hv.len ?_
 exact Auh ctx N Aqe hb l m h v w hv hw (2 * l.length) hr hl l [] [] m h _ N 0 rfl rfl (.inl rfl) rfl hN (Sx.Ext.refl 0 h) (by omega)
abbrev A1h:Prop:=∀(l m:List Nd) (h:H) (v w:AV),Zi h v l->Zi h w m->h.nx+2 * l.length<=Bq->l.length<=100000->Sx.Cb (2 * l.length) h (λu h'=>u=.int .i64 (cmpL l m)) (ctx.call 114 [v,w,.fn (.func 115) [] []] h)
theorem n68 (a b:Tr) (ha:Zh ctx a) (hb:Zh ctx b) (Ayc:A1h ctx) (hsa:size a<=1000) (hsb:size b<=1000) (h:H) (hr:h.nx+30000<=Bq):Sx.Cb 30000 h (λu h'=>u=.int .i64 (Nm.compare a b)) (Ay Tryz.prog ctx N true 68 [A3 a,A3 b] h):=by
 rw [e68]
 refine Sx.Ic (Sx.Ext.refl 0 h) (ha h (by omega) (by omega)) λv h1 e1 e1' q1=>?_
 have:=e1.hi
 refine Sx.Ic e1 (hb h1 (by omega) (by omega)) λw h2 e2 e2' q2=>?_
 have:=e2.hi
 refine Sx.Ic e2 (Ayc a.nodes b.nodes h2 v w (q1.1.ext e2') q2.1 (by rw [Ao];omega) (by rw [Ao];omega)) λu h3 e3 e3' q3=>?_
 refine Sx.B0 e3 (by rw [Ao];omega) q3
end Go.Proofs
