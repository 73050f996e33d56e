/- A new array whose -/
import Derived.Test.YtahaaiadlgfchaaGreatDoorEvA
import Derived.Laws.Sem
import Derived.Laws.Entries
import Derived.Laws.Strings
import Derived.Laws.StructEq
import Derived.ChangeKeysEq
import Derived.Laws.Cells
set_option linter.all false
noncomputable section
namespace Go.Ev
variable {j:Value}{o:uz}{p:SE}{I:Obj}{J:AO}
variable [Ii]
variable {P:Program}{G:Nat}{σ:Dx}{nt:Nat}{f:L2}{a:Act}{h h':H}{w:World}{v:AV}{Z:Ac}
def Ec{a b}(h:Nat.blt a b=true):a<b:=by simp_all
def G2{a b:Nat}(h:Nat.ble a b=true):a<=b:=by simp_all
def Ch{a b:Nat}(h:Nat.beq a b=true):a=b:=by simp_all
def Ap1{a b}(h:Nat.blt a b=false):b<=a:=by
 have:¬ Nat.blt a b=true:=by grind
 simp_all
def Axo{a b:Nat}(h:Nat.ble a b=false):b<a:=by
 have:¬ Nat.ble a b=true:=by grind
 simp_all
def Ho{a b:Nat}(h:Nat.beq a b=false):a≠b:=by intro e;simp_all
def AbN σ:∀d v,Au σ (App d v) v:=by intro d;induction d with
|zero=>intro v;exact .top v
|succ d b=>intro v;unfold App;split;all_goals first|exact .bool _|exact .int ..|exact .str _|exact .Ob|exact .Bv|exact .Td|exact .Iy|exact .B3|exact .I6 _ _ _ (b _)|exact .top _|skip;refine .agg _ _ (by simp) λi x y c hy=>?_;grind
def Cj(d:Pt σ nt f a)(c:Vm G σ) x(b:Es G x=true):Au σ (ev x f) (a.eval x):=by cases x with
|tmp t=>exact d.slot t (Ec b)
|const v=>exact AbN _ 5 v
|global g=>obtain⟨e,h1,h2⟩:=c g (Ec b);have:=Au.ptr g 0 e h1;rw[h2]at this;exact this
|func g=>exact .fn _ _ _ _ _ λl=>by simp rfl λi x y b _=>by grind rfl λi x y b _=>by grind
def Abw(d:Pt σ nt f a)(c:Vm G σ) l(b:l.all (Es G)=true):Bk σ (W1 l f) (l.map a.eval):=by induction l with
|nil=>exact Bk.nil _
|cons x l e=>simp only[Ku,Sc]at b;exact .cons (Cj d c x b.1) (e b.2)
def Adn{x}{b}(h:vB x=.yes b):x=.bool b:=by cases x<;>cases h;rfl
def P1{x}{k}{n}(h:vI x=.yes k n):x=.int k n:=by cases x<;>cases h;rfl
def Rj{x}{s}(h:vS x=.yes s):x=.str s:=by cases x<;>cases h;rfl
def P2{x}{b o}(h:vP x=.yes b o):x=.ptr b o:=by cases x<;>cases h;rfl
def Wv{x}(h:vP x=.nil):x=.Ob:=by cases x<;>cases h;rfl
def Ri{x}{b o l c z}{e}(h:vL x=.yes b o l c z e):x=.sl b o l c z e:=by cases x<;>cases h;rfl
def Ok{x}(h:vL x=.nil):x=.Bv:=by cases x<;>cases h;rfl
def P0{x}{cs}(h:vA x=.yes cs):x=.agg cs:=by cases x<;>cases h;rfl
def Aar{x}{cs}(h:vT x=.yes cs):x=.Bj cs:=by cases x<;>cases h;rfl
def Ago{x}{r}(h:vM x=.yes r):x=.map r:=by cases x<;>cases h;rfl
def Ado{x}(h:vM x=.nil):x=.Td:=by cases x<;>cases h;rfl
def Aaq{x}{g}{a c}(h:vF x=.yes g a c):x=.fn g a c:=by cases x<;>cases h;rfl
def Pq{x}{t}{v}(h:vIf x=.yes t v):x=.I6 t v:=by cases x<;>cases h;rfl
def Y4{x}(h:vIf x=.nil):x=.B3:=by cases x<;>cases h;rfl
def O4{x}{y}{cs}(h:cellsOf x=some cs)(d:Au σ x y):Bk σ cs y.cells.toList:=by cases d with
|top v=>cases h
|Bj cs D7 b c=>cases h
|agg cs D7 b c=>cases h;exact⟨b,c⟩
|_=>cases h;exact .cons (by constructor<;>assumption) (.nil _)
def Arz{x}{y}(h:Ge x=true)(b:Au σ x y):y.oneCell'=true:=by cases b<;>first|rfl|cases h
def Ran(P:Program)(s:Sem Next)(w:World)(v':Value)(w':World):Prop:=
 s.run P w=.ok (.value v') w'\/(s.run P w=.ok .skip w'/\v'=undef)
def Dd(w:World)(o:Obj):World:={ w with heap:=w.heap.push o }
inductive Ag4(σ:Dx)(h:H)(w:World):AV->Value->H->World->Prop where
|quiet (v:AV) (v':Value) (hv:Au σ v v'):Ag4 σ h w v v' h w
|ptr (cs:List AV) (D7:Array Value) (t:TypeId) (hc:Bk σ cs D7.toList):
 Ag4 σ h w (.ptr h.nx 0) (.pointer (some ⟨w.heap.size,0,none⟩)) (h.new (.cells cs t .exact)) (Dd w (.cells D7 t))
|sl (cs:List AV) (D7:Array Value) (t:TypeId) (len cap sz:Nat) (hle:len<=cap) (hc:Bk σ cs D7.toList):
 Ag4 σ h w (.sl h.nx 0 len cap sz true) (.slice (some ⟨w.heap.size,0,none⟩) len cap) (h.new (.cells cs t .exact)) (Dd w (.cells D7 t))
def Hm(P:Program)(G:Nat)(o:Oper):Prop:=∀(σ:Dx) (nt:Nat) (f:L2) (a:Act) (h h':H) (w:World) (v:AV) (Z:Ac),
 opD o.op o.type P Z f h=.ok v h'->o.op.operands.toList.all (Es G)=true->Pt σ nt f a->Vm G σ ->
 ∃v' w',Ran P (execOp a.eval o) w v' w'/\Ag4 σ h w v v' h' w'
section ops
variable {dst:Option Tmp}{ty:TypeId}{pos:String}{af:Array Edge}{gd:Option (Nat × Bool)}
def B4{v v'}{h h'}(e:OR.ok v h=.ok v' h'):v=v'/\h=h':=by grind
def Ae1 x:Hm P G ⟨dst,.move x,ty,pos,af,gd⟩:=by intro σ nt f a h h' w v Z b e d c;obtain⟨rfl,rfl⟩:=B4 b;exact⟨_,w,.inl rfl,.quiet _ _ (Cj d c x (by simpa[Op.operands]using e))⟩
def AaD x:Hm P G ⟨dst,.assign x,ty,pos,af,gd⟩:=by intro σ nt f a h h' w v Z b e d c;obtain⟨rfl,rfl⟩:=B4 b;exact⟨_,w,.inl rfl,.quiet _ _ (Cj d c x (by simpa[Op.operands]using e))⟩
def ArE{x y z}{h}(c:Bo x y z h=.ok v h'):∃b,x=.bool b/\v=(if b then y else z)/\h'=h:=by cases x<;>first|(cases c)|skip;rename_i b;cases b<;>cases c<;>exact⟨_,rfl,rfl,rfl⟩
def Ae2 c x y:Hm P G ⟨dst,.pick c x y,ty,pos,af,gd⟩:=by
 intro σ nt f a h h' w v Z k d e i;simp[Op.operands]at d;obtain⟨b,hb,rfl,rfl⟩:=ArE k;have j:=Cj e i c d.1;rw[hb]at j;generalize g:a.eval c=cv at j;cases j;refine⟨if b then a.eval x else a.eval y,w,.inl (by simp[execOp,g,asBool]),.quiet _ _ ?_⟩;cases b;. exact Cj e i y d.2.2
 .exact Cj e i x d.2.1
def Kn{t}{cs} σ(h:I1 P t=some cs):∃i z,P.info? t=some i/\i.zero=some z/\Bk σ cs z.cells.toList:=by unfold I1 Ps at h;cases hi:P.info? t with
|none=>grind
|some i=>cases hz:i.zero with
 |none=>grind
 |some z=>simp[hi,hz]at h;exact⟨i,z,rfl,hz,O4 h (AbN _ 5 z)⟩
def AlX{cs}{e}(b:AdR cs e h=.ok v h'):∃c,cs=some c/\v=.ptr h.nx 0/\h'=h.new (cd c e):=by cases cs<;>cases b;simp
def Acn e:Hm P G ⟨dst,.alloc e,ty,pos,af,gd⟩:=by intro σ nt f a h h' w v Z b k j l;obtain⟨c,g,rfl,rfl⟩:=AlX b;obtain⟨i,z,hi,hz,d⟩:=Kn _ g;refine⟨_,_,.inl ?_,.ptr c _ e d⟩;simp[execOp,Instr.alloc,zeroValue,typeInfo,hi,hz,newVar,newRow,Dd]
def Ah4 e x:Hm P G ⟨dst,.box e x,ty,pos,af,gd⟩:=by intro σ nt f a h h' w v Z d g b j;obtain⟨c,k,rfl,rfl⟩:=AlX d;have i:=O4 k (Cj b j x (by simpa[Op.operands]using g));refine⟨_,_,.inl ?_,.ptr c _ e i⟩;rfl
def AbA{x}(b:Py x h=.ok v h'):x=some v/\h'=h:=by cases x<;>cases b;simp
def Aaj{x}(b:Ly x h=.ok v h'):∃cs,x=some cs/\v=.agg cs/\h'=h:=by cases x<;>cases b;simp
def Bl{c:Bool}{x y:OR}{r:OR}(b:Bool.rec y x c=r):(c=true/\x=r)\/(c=false/\y=r):=by
 cases c
 .exact .inr ⟨rfl,b⟩
 .exact .inl ⟨rfl,b⟩
def N0{n}(b:OR.bad n=.ok v h'):False:=by grind
def Vq x:Hm P G ⟨dst,.nilCheck x,ty,pos,af,gd⟩:=by
 intro σ nt f a h h' w v Z b e d k;have c:=Cj d k x (by simpa[Op.operands]using e);rcases Bl b with⟨hn,b⟩|⟨_,b⟩;. obtain⟨rfl,rfl⟩:=B4 b;refine⟨_,w,.inl ?_,.quiet _ _ c⟩;simp[execOp];generalize ev x f=u at *;generalize a.eval x=y at *;cases c with
   |fn g as cs i D7 j _ _ _ _=>cases g<;>first|rfl|(cases hn)
   |_=>first|rfl|(cases hn)
 grind
def Xz x i:Hm P G ⟨dst,.extract x i,ty,pos,af,gd⟩:=by
 intro σ nt f a h h' w v Z d g c m;have n:=Cj c m x (by simpa[Op.operands]using g);have b:L9 _ i h=.ok v _:=d;generalize ev x f=u at *;generalize hy:a.eval x=y at *;cases n<;>first|(cases b)|skip;rename_i cs D7 e j;obtain⟨h1,rfl⟩:=AbA (show Py _ h=.ok v _ from b);rw[Ab6]at h1;obtain⟨y,l,k⟩:=Bk.get ⟨e,j⟩ h1;refine⟨y,w,.inl ?_,.quiet _ _ k⟩;have:D7[i]?=some y:=by grind
 simp[execOp,hy,Instr.extract,this]
def Sv(t:TypeId)(x:Operand):Hm P G ⟨dst,.makeInterface t x,ty,pos,af,gd⟩:=by
 intro σ nt f a h h' w v Z b g e i;have j:=Cj e i x (by simpa[Op.operands]using g);rcases Bl b with⟨hn,b⟩|⟨_,b⟩;. obtain⟨rfl,rfl⟩:=B4 b;refine⟨_,w,.inl ?_,.quiet _ _ (.I6 t _ _ j)⟩;unfold Arb at hn;cases c:P.underlying t with
   |none=>simp_all
   |some d=>rw[c]at hn;cases d<;>first|grind|simp[execOp,Instr.makeInterface,underlying,c]
 grind
def Vp(fn:Fn)(x y:Array Operand):Hm P G ⟨dst,.makeFunc fn x y,ty,pos,af,gd⟩:=by
 intro σ nt f a h h' w v Z m c e g;simp only[Op.operands,Ol,List.all_append,Sc]at c;have j:=Abw e g x.toList c.1;have hy:=Abw e g y.toList c.2;have b:(∀l,fn≠.yield l)/\v=.fn fn (W1 x.toList f) (W1 y.toList f)/\h=h':=by have o:Jt fn x y ty P Z f h=.ok v h':=m;unfold Jt at o;grind
 obtain⟨k,rfl,rfl⟩:=b;refine⟨.func fn (x.map a.eval) (y.map a.eval),w,.inl (by rfl),.quiet _ _ (.fn fn _ _ _ _ k ?_ ?_ ?_ ?_)⟩;. simpa using j.1
 .intro i u v d n;exact j.2 i u v d (by grind)
 .simpa using hy.1
 .intro i u v d n;exact hy.2 i u v d (by grind)
def F3{t}{n}(h:F7 P t=some n):∃i,P.info? t=some i/\i.size=n:=by unfold F7 at h;simp_all
def Xv{t u}{i o}(h:Xu P t i=some (u,o)):∃c b,P.underlying t=some (.struct c)/\c[i]?=some b/\b.type=u/\b.offset=o:=by unfold Xu at h;grind
def Ahw{t}{i o}(h:Wa P t i=some o):∃d c b,P.underlying t=some (.struct d)/\d[i]?=some c/\P.info? c.type=some b/\b.size≠0/\c.offset=o:=by
 unfold Wa at h;split at h
 .rename_i u p e;split at h;. rename_i n g;obtain⟨d,c,h1,h2,m,k⟩:=Xv e;obtain⟨b,l,j⟩:=F3 g;simp_all
  grind
 grind
def G1 c off n:(⟨c,off,none⟩:Addr).add n=⟨c,off+n,none⟩:=by unfold Addr.add;simp
def Ss t x i:Hm P G ⟨dst,.fieldAddr t x i,ty,pos,af,gd⟩:=by intro σ nt f a h h' w v Z l m k r;have s:=Cj k r x (by simpa[Op.operands]using m);have j:@Option.rec _ (λ_=>AV->H->OR) _ _ _ _ h=.ok v _:=l;cases g:Wa P t i with
|none=>simp_all
|some d=>rw[g]at j;obtain⟨A,z,p,h1,h2,o,n,rfl⟩:=Ahw g;have c:=j;generalize ev x f=u at *;generalize hy:a.eval x=y at *;cases s<;>first|(cases c;done)|skip;rename_i b off e q;cases c;refine⟨_,w,.inl ?_,.quiet _ _ (.ptr b _ e q)⟩;simp[execOp,hy,Instr.fieldAt,underlying,h1,h2,Instr.sureAddr,fieldPlace,sizeOf,typeInfo,o,n,G1]
def Akc{t}(h:Ft P t=some none):∃d i,P.underlying t=some d/\P.info? t=some i/\(∀b,d≠.struct b)/\∀n e,d≠.array n e:=by unfold Ft at h;grind
def AhO{t}{n}(h:Ft P t=some (some n)):∃d i,P.underlying t=some d/\P.info? t=some i/\i.size=n/\((∃b,d=.struct b)\/∃k e,d=.array k e):=by unfold Ft at h;grind
def Vv{t}(h:Ft P t=some none) w:(isAgg t).run P w=.ok false w:=by obtain⟨d,i,b,hi,h1,h2⟩:=Akc h;simp only[isAgg,Sem.run_bind,run_underlying b,Result.andThen_ok];rfl
def Kj{t}{n}(h:Ft P t=some (some n)) w:(isAgg t).run P w=.ok true w/\(sizeOf t).run P w=.ok n w:=by
 obtain⟨d,i,b,hi,rfl,h1⟩:=AhO h;constructor;. simp[isAgg,Sem.run_bind,run_underlying b,Result.andThen_ok];rcases h1 with⟨c,rfl⟩|⟨k,e,rfl⟩<;>rfl
 .simp[sizeOf,typeInfo,hi]
def Mp{t:TypeId}{cs:uz}{off:Nat}{v:AV}{D7:Array Value}(b:Hc P t cs off=some v)(e:Bk σ cs D7.toList) w:
 ∃v',(part t D7 off).run P w=.ok v' w/\Au σ v v':=by
 unfold Hc Tn at b;split at b
 .rename_i c;rw[Ab6]at b;obtain⟨y,hy,g⟩:=e.get b;refine⟨y,?_,g⟩;have:D7[off]?=some y:=by simp_all
  simp[part,Vv c,this]
 .rename_i n c;cases d:Nf cs off n with
  |none=>grind
  |some r=>
   simp[d]at b;subst b;obtain⟨h1,rfl,_⟩:=Js d;refine⟨.agg (D7.extract off (off+n)),?_,?_⟩;. simp[part,(Kj c w).1,(Kj c w).2]
   .have:=(e.drop off).take n;refine .agg _ _ ?_ ?_;. rw[this.1];simp
    .intro i x y j hy;refine this.2 i x y j ?_;simp_all
 grind
def Acq t x i:Hm P G ⟨dst,.field t x i,ty,pos,af,gd⟩:=by
 intro σ nt f a h h' w v Z z A m k;have g:=Cj m k x (by simpa[Op.operands]using A);have d:Ti t x i ty P Z f h=.ok v _:=z;unfold Ti at d;split at d;. rename_i cs l o e b;obtain⟨h1,rfl⟩:=AbA d;rw[P0 e]at g;generalize hy:a.eval x=y at *;cases g;rename_i D7 n q;unfold Al4 at b;cases c:Xu P t i with
   |none=>simp_all
   |some p=>obtain⟨u,E⟩:=p;simp[c]at b;obtain⟨rfl,rfl⟩:=b;obtain⟨D,C,j,s,rfl,rfl⟩:=Xv c;obtain⟨v',r,B⟩:=Mp h1 ⟨n,q⟩ w;refine⟨_,w,.inl ?_,.quiet _ _ B⟩;simp[execOp,hy,Instr.field,underlying,j,s,asAgg,r]
 grind
def Us{x}{n}(h:Vg x=some n):∃k,x=.int k (.ofNat n):=by cases x<;>first|(cases h)|skip;rename_i k m;cases m<;>cases h;simp
def Qb{m}{n}(h:Akn m=some n):m=.ofNat n:=by cases m<;>cases h;rfl
def AiO{t}{i}(h:Hp P t=.sl i):∃b,P.underlying t=some (.slice i.e)/\P.info? i.e=some b/\b.size=i.s/\b.bytes=i.bytes:=by
 unfold Hp at h;split at h<;>first|simp_all
 .split at h;. rename_i e c _ b hi;cases hz:Nat.blt 0 b.size with
    |false=>simp_all
    |true=>rw[hz]at h;grind
  simp_all
 grind
def Aox{t}{i}(h:Hp P t=.sl i):0<i.s:=by
 unfold Hp at h;split at h<;>first|simp_all|skip
 .split at h;. rename_i e c _ b hi;cases hz:Nat.blt 0 b.size with
    |false=>simp_all
    |true=>rw[hz]at h;cases h;simp_all
  grind
 grind
def Aat{t}{n}{i}(h:Hp P t=.arr n i):∃b,P.underlying t=some (.array n i.e)/\P.info? i.e=some b/\b.size=i.s/\b.bytes=i.bytes:=by unfold Hp at h;cases c:P.underlying t with
|none=>simp_all
|some d=>rw[c]at h;cases d with
 |array k e=>grind
 |slice e=>cases hi:P.info? e with
  |none=>simp_all
  |some b=>cases hz:Nat.blt 0 b.size with
   |false=>simp_all
   |true=>simp_all
 |_=>cases h
def Afb{t}(h:Hp P t=.str):P.underlying t=some .string:=by
 unfold Hp at h;split at h<;>first|(cases h)|skip
 .grind
 .split at h;. rename_i b _;cases hz:Nat.blt 0 b.size with
    |false=>simp_all
    |true=>simp_all
  grind
 grind
def Su(t:TypeId)(x i:Operand):Hm P G ⟨dst,.indexAddr t x i,ty,pos,af,gd⟩:=by intro σ nt f a h h' w v Z J C E D;simp[Op.operands]at C;have F:=Cj E D x C.1;have hi:=Cj E D i C.2;have d:iaX (Hp P t) (ev x f) (Vg (ev i f)) h=.ok v h':=J;generalize hy:a.eval x=y at *;generalize hj:a.eval i=j at *;cases hn:Vg (ev i f)with
|none=>rw[hn]at d;cases g:Hp P t<;>rw[g]at d<;>cases d
|some n=>rw[hn]at d;obtain⟨k,I⟩:=Us hn;rw[I]at hi;cases hi;generalize ev x f=u at *;cases g:Hp P t with
 |bad=>rw[g]at d;cases d
 |str=>rw[g]at d;cases d
 |sl l=>
  rw[g]at d;obtain⟨z,q,B,r,K⟩:=AiO g;have o:iaS u n l.s h=.ok v h':=d;cases F<;>first|(cases o;done)|skip;rename_i b off len cap M ex e L A g1 g2 g3 g4;rcases Bl (show @Bool.rec (λ_=>OR) (.bad 88) (.ok (.ptr b (Nat.add off (Nat.mul n l.s))) h) (Nat.blt n len)=.ok v h' from o)with⟨hb,m⟩|⟨_,m⟩
  .obtain⟨rfl,rfl⟩:=B4 m;have p:=Ec hb;refine⟨.pointer (some ⟨e.c,off+n*l.s,none⟩),w,.inl ?_,.quiet _ _ (.ptr b _ e A)⟩;have h0:(0:Int)<=Int.ofNat n:=bj n;have h1:(Int.ofNat n)<(len:Int):=by simpa using p
   simp[execOp,hy,hj,Instr.indexAt,asIntOf,underlying,q,p,sizeOf,typeInfo,B,r,G1]
  .exact(N0 m).elim
 |arr len l=>
  rw[g]at d;obtain⟨z,q,B,r,K⟩:=Aat g;have o:iaA u len n l.s h=.ok v h':=d;cases F<;>first|(cases o;done)|skip;rename_i b off e A;rcases Bl (show @Bool.rec (λ_=>OR) (.bad 90) (.ok (.ptr b (Nat.add off (Nat.mul n l.s))) h) (Nat.blt n len)=.ok v h' from o)with⟨hb,m⟩|⟨_,m⟩;. obtain⟨rfl,rfl⟩:=B4 m;have p:=Ec hb;refine⟨.pointer (some ⟨e.c,off+n*l.s,none⟩),w,.inl ?_,.quiet _ _ (.ptr b _ e A)⟩;simp[execOp,hy,hj,Instr.indexAt,asIntOf,underlying,q,p,sizeOf,typeInfo,B,r,G1,Instr.sureAddr]
  .exact(N0 m).elim
def AuQ{s}{y}(h:Au σ (.str s) y):∃bs,y=.string bs/\s=bytesOf bs:=by cases h;simp
def AgW s(n:Nat):(bytesOf s)[n]?=s[n]?.map UInt8.toNat:=by unfold bytesOf;simp[Rd];rfl
def Gv s:(bytesOf s).length=s.size:=by unfold bytesOf;simp
def Akz{x}(b:Uv x h=.ok v h'):∃n,x=some n/\v=.int .u8 (.ofNat n)/\h'=h:=by cases x<;>cases b;simp
def Acr(t:TypeId)(x i:Operand):Hm P G ⟨dst,.index t x i,ty,pos,af,gd⟩:=by
 intro σ nt f a h h' w v Z J o r q;simp[Op.operands]at o;have l:=Cj r q x o.1;have hi:=Cj r q i o.2;have c:Tj t x i ty P Z f h=.ok v h':=J;unfold Tj at c;generalize hy:a.eval x=y at *;generalize hj:a.eval i=j at *;split at c;. rename_i n p hn;obtain⟨k,d⟩:=Us hn;rw[d]at hi;cases hi;generalize ev x f=u at *;cases l<;>first|(cases c;done)|skip;rename_i s;obtain⟨m,h1,rfl,rfl⟩:=Akz (show Uv (AuN (bytesOf s) n) h=.ok v h' from c);rw[AuO,AgW]at h1;cases hb:s[n]? with
   |none=>simp[hb]at h1
   |some b=>simp[hb]at h1;subst h1;refine⟨.int .u8 b.toNat,w,.inl ?_,.quiet _ _ (.int .u8 _)⟩;simp[execOp,hy,hj,Instr.index,asIntOf,underlying,Afb p,hb]
 .rename_i len M n p hn;obtain⟨k,d⟩:=Us hn;rw[d]at hi;cases hi;split at c
  .rename_i cs g;rw[P0 g]at l;cases l;rename_i D7 D E;obtain⟨B,z,I,A,O⟩:=Aat p;rcases Bl c with⟨hb,e⟩|⟨_,e⟩;. obtain⟨C,rfl⟩:=AbA e;obtain⟨v',F,K⟩:=Mp (P:=P) (σ:=σ) C (D7:=D7) ⟨D,E⟩ w;have L:=Ec hb;refine⟨v',w,.inl ?_,.quiet _ _ K⟩;simp[execOp,hy,hj,Instr.index,asIntOf,underlying,z,L,sizeOf,typeInfo,I,A,F]
   .exact(N0 e).elim
  .exact(N0 c).elim
 .exact(N0 c).elim
def Ud{t}{z} σ(h:Ps P t=some z):∃i b,P.info? t=some i/\i.zero=some b/\Au σ z b:=by unfold Ps at h;cases hi:P.info? t with
|none=>grind
|some i=>cases hz:i.zero with
 |none=>grind
 |some b=>simp[hi,hz]at h;subst h;exact⟨i,_,rfl,hz,AbN _ 5 _⟩
def Ass{x y}{x' b}(h:Au σ x x')(h':Au σ y b):Au σ (.Bj [x,y]) (.tuple #[x',b]):=by have:=Bk.cons h (Bk.cons h' (Bk.nil _));exact .Bj _ _ this.1 this.2
def AaX{t}{z}(h:AkI P t=some z):∃d,P.underlying t=some d/\(∀m,d≠.interface m)/\Ps P t=some z:=by unfold AkI at h;grind
def Rp(x:Operand)(n t:TypeId)(ok:Bool):Hm P G ⟨dst,.typeAssert x n t ok,ty,pos,af,gd⟩:=by
 intro σ nt f a h h' w v Z p q o B;have k:=Cj o B x (by simpa[Op.operands]using q);have c:G0 x n t ok ty P Z f h=.ok v h':=p;unfold G0 at c;generalize hy:a.eval x=y at *
 split at c
 .rename_i z hz l;rw[Y4 l]at k;cases k;obtain⟨d,e,hd,hz⟩:=AaX hz;obtain⟨i,A,hi,b,m⟩:=Ud σ hz;cases ok
  .exact(N0 c).elim
  .obtain⟨rfl,rfl⟩:=B4 c;refine⟨_,w,.inl ?_,.quiet _ _ (Ass m (.bool false))⟩;cases d<;>first|(exact absurd rfl (hd _))|simp[execOp,hy,Instr.typeAssert,underlying,e,zeroValue,typeInfo,hi,b]
 .rename_i z u C hz l;rw[Pq l]at k;cases k;rename_i s g;obtain⟨d,e,hd,hz⟩:=AaX hz;obtain⟨i,A,hi,b,m⟩:=Ud σ hz;rcases Bl c with⟨hb,j⟩|⟨hb,j⟩
  .obtain⟨rfl,rfl⟩:=B4 j;have:=Ch hb;subst this;cases ok
   .refine⟨s,w,.inl ?_,.quiet _ _ g⟩;cases d<;>first|(exact absurd rfl (hd _))|simp[execOp,hy,Instr.typeAssert,underlying,e]
   .refine⟨_,w,.inl ?_,.quiet _ _ (Ass g (.bool true))⟩;cases d<;>first|(exact absurd rfl (hd _))|simp[execOp,hy,Instr.typeAssert,underlying,e]
  .have r:=Ho hb;cases ok
   .exact(N0 j).elim
   .obtain⟨rfl,rfl⟩:=B4 j;refine⟨_,w,.inl ?_,.quiet _ _ (Ass m (.bool false))⟩;cases d<;>first|(exact absurd rfl (hd _))|simp[execOp,hy,Instr.typeAssert,underlying,e,zeroValue,typeInfo,hi,b,r]
 .exact(N0 c).elim
def Ae3 op t x:Hm P G ⟨dst,.unOp op t x,ty,pos,af,gd⟩:=by intro σ nt f a h h' w v Z i j g l;have e:=Cj g l x (by simpa[Op.operands]using j);have d:AaP _ t x ty P Z f h=.ok v _:=i;unfold AaP at d;generalize hy:a.eval x=y at *;cases op with
|not=>cases c:vB (ev x f)with
 |no=>grind
 |yes b=>rw[c]at d;rw[Adn c]at e;cases e;obtain⟨rfl,rfl⟩:=B4 d;refine⟨.bool !b,w,.inl (by simp[execOp,hy,Op.unary]),.quiet _ _ ?_⟩;rw[Kb];exact .bool _
|neg=>cases c:vI (ev x f)with
 |no=>grind
 |yes k n=>rw[c]at d;rw[P1 c]at e;cases e;obtain⟨rfl,rfl⟩:=B4 d;refine⟨.int k (k.wrap (0-n)),w,.inl (by simp[execOp,hy,Op.unary,Op.intArith]),.quiet _ _ ?_⟩;rw[Ub];exact .int ..
|_=>grind
end ops
section ops
variable {dst:Option Tmp}{ty:TypeId}{pos:String}{af:Array Edge}{gd:Option (Nat × Bool)}
def toNat_inj{a b:UInt8}:a.toNat=b.toNat ↔ a=b:=Is
def Aul(l m:List _):(l.map UInt8.toNat == m.map UInt8.toNat)=(l == m):=by
 rw[C7];simp[beq_iff_eq];constructor;. intro e;induction l generalizing m with
   |nil=>simp_all
   |cons a l c=>cases m with
    |nil=>grind
    |cons b m=>simp[Co,Gf]at e;rw[toNat_inj.1 e.1,c m e.2]
 grind
def Rg x y a b:Gn (x::a) (y::b)=(decide (x<y)||x == y&&Gn a b):=by
 have:Gn (x::a) (y::b)=@Bool.rec (λ_=>Bool) _ ..:=rfl;rw[this];have e1:Nat.blt x y=decide (x<y):=by rw[C7];simp
 have c:Nat.beq x y=(x == y):=by rw[C7];simp
 rw[e1,c];cases decide (x<y)<;>cases x == y<;>rfl
def AaW:∀l m,Gn (l.map UInt8.toNat) (m.map UInt8.toNat)=Op.bytesLess l m
|[],[]=>rfl
|[],_::_=>rfl
|_::_,[]=>rfl
|a::l,b::m=>by simp[Co,Rg,Op.bytesLess,AaW l m];congr 1;congr 1;rw[C7];simp[beq_iff_eq];exact toNat_inj
def Pm:∀l m,(!Gn m l)=(Gn l m||l == m)
|[],[]=>rfl
|[],_::_=>rfl
|_::_,[]=>rfl
|x::l,y::m=>by rw[Rg,Rg,List.cons_beq_cons];have b:=Pm l m;grind
def U1 a b:Qh (bytesOf a) (bytesOf b)=(a.toList == b.toList):=by rw[Qi,ByteArray.toList_eq,ByteArray.toList_eq];exact Aul ..
def AbC a b:Gn (bytesOf a) (bytesOf b)=Op.bytesLess a.toList b.toList:=by rw[ByteArray.toList_eq,ByteArray.toList_eq];exact AaW ..
def AbU a b:bytesOf (a++b)=bytesOf a++bytesOf b:=by unfold bytesOf;simp
def Aft op t x y k k' m n w:(eqGuard op t x y (.int k m) (.int k' n)).run P w=.ok () w:=by unfold eqGuard;simp
def Afu op t x y m n w:(eqGuard op t x y (.string m) (.string n)).run P w=.ok () w:=by unfold eqGuard;simp
def AcS(a b:Int):(!decide (a<b))=decide (b<=a):=by grind
def AjX{g}{k c}{m n}(b:iAr g k m c n h=.ok v h'):k=c/\v=.int k (k.wrap (g m n))/\h'=h:=by
 rcases Bl b with⟨d,b⟩|⟨_,b⟩;. obtain⟨rfl,rfl⟩:=B4 b;exact⟨(Q3 k _).1 d,by rw[Ub],rfl⟩
 grind
def Un{g}{k c}{m n}(b:AjY g k m c n h=.ok v h'):k=c/\v=.bool (g m n)/\h'=h:=by
 rcases Bl b with⟨d,b⟩|⟨_,b⟩;. obtain⟨rfl,rfl⟩:=B4 b;exact⟨(Q3 k _).1 d,rfl,rfl⟩
 grind
def AtX{k c}{m n}(b:A4x k m c n h=.ok v h'):k=c/\n≠0/\v=.int k (k.wrap (m.tdiv n))/\h'=h:=by
 rcases Bl b with⟨d,b⟩|⟨_,b⟩
 .rcases Bl b with⟨_,b⟩|⟨hz,b⟩;. grind
  .obtain⟨rfl,rfl⟩:=B4 b;rw[Q1]at hz;exact⟨(Q3 k _).1 d,by grind,by rw[Ub],rfl⟩
 grind
def AtY{k c}{m n}(b:A4y k m c n h=.ok v h'):k=c/\n≠0/\v=.int k (m.tmod n)/\h'=h:=by
 rcases Bl b with⟨d,b⟩|⟨_,b⟩
 .rcases Bl b with⟨_,b⟩|⟨hz,b⟩;. grind
  .obtain⟨rfl,rfl⟩:=B4 b;rw[Q1]at hz;exact⟨(Q3 k _).1 d,by grind,rfl,rfl⟩
 grind
def AfD{g}{k d}{m n}(c:Anl g k m d n h=.ok v h'):
 ∃a b:Nat,k=d/\m=a/\n=b/\a<=k.max/\b<=k.max/\v=.int k (g a b)/\h'=h:=by
 unfold Anl at c;split at c
 .rename_i a b ha hb;rcases Bl c with⟨e,c⟩|⟨_,c⟩
  .rcases Bl c with⟨h1,c⟩|⟨_,c⟩
   .rcases Bl c with⟨h2,c⟩|⟨_,c⟩;. obtain⟨rfl,rfl⟩:=B4 c;have e1:=Qb ha;have i:=Qb hb;subst e1 i;exact⟨a,b,(Q3 k _).1 e,rfl,rfl,(Zu h1).2,(Zu h2).2,rfl,rfl⟩
    grind
   grind
  grind
 .cases c
def max_lt(k:IntKind)(a:Nat)(h:a<=k.max):a<2^k.bits:=by cases k<;>simp[IntKind.max,IntKind.bits,IntKind.signed]at *<;>omega
def Ju(k:IntKind)(a:Nat)(h:a<=k.max):(BitVec.ofInt k.bits a).toNat=a:=by have:=max_lt k a h;grind
def Adr(k:IntKind)(a:Nat)(h:a<=k.max):k.wrap a=a:=by apply Agq;refine⟨?_,h⟩;cases k<;>simp[IntKind.min,IntKind.bits,IntKind.signed]
def Yr(k:IntKind)(a:Nat)(h:a<=k.max):a<2^if k.signed then k.bits-1 else k.bits:=by cases k<;>simp[IntKind.max,IntKind.bits,IntKind.signed]at *<;>omega
def AfN(k:IntKind)(a:Nat)(h:a<2^if k.signed then k.bits-1 else k.bits):a<=k.max:=by cases k<;>simp[IntKind.max,IntKind.bits,IntKind.signed]at *<;>omega
def AnX(op:BinOp)(t:TypeId)(k j:IntKind)(m n:Int)(w:World)(c:AqP op k m j n h=.ok v h'):
 ∃v',(binOp op t (.int k m) (.int j n)).run P w=.ok v' w/\Au σ v v'/\h'=h:=by cases op with
 |add=>obtain⟨rfl,rfl,rfl⟩:=AjX c;exact⟨.int k (k.wrap (m+n)),by simp[binOp,Op.intArith],.int _ _,rfl⟩
 |sub=>obtain⟨rfl,rfl,rfl⟩:=AjX c;exact⟨.int k (k.wrap (m-n)),by simp[binOp,Op.intArith],.int _ _,rfl⟩
 |mul=>obtain⟨rfl,rfl,rfl⟩:=AjX c;exact⟨.int k (k.wrap (m*n)),by simp[binOp,Op.intArith],.int _ _,rfl⟩
 |quo=>obtain⟨rfl,hz,rfl,rfl⟩:=AtX c;exact⟨.int k (k.wrap (m.tdiv n)),by simp[binOp,Op.intDiv,hz],.int _ _,rfl⟩
 |rem=>obtain⟨rfl,hz,rfl,rfl⟩:=AtY c;exact⟨.int k (m.tmod n),by simp[binOp,Op.intDiv,hz],.int _ _,rfl⟩
 |eql=>obtain⟨rfl,rfl,rfl⟩:=Un c;exact⟨.bool (m == n),by simp[binOp,Op.intCmp],by rw[Q1];exact .bool _,rfl⟩
 |neq=>obtain⟨rfl,rfl,rfl⟩:=Un (g:=λa b=>Ib (ieq a b)) c;exact⟨.bool (m != n),by simp[binOp,Op.intCmp],by rw[Kb,Q1];exact .bool _,rfl⟩
 |lss=>obtain⟨rfl,rfl,rfl⟩:=Un c;exact⟨.bool (decide (m<n)),by simp[binOp,Op.intCmp],by rw[Il];exact .bool _,rfl⟩
 |leq=>obtain⟨rfl,rfl,rfl⟩:=Un (g:=λa b=>Ib (ilt b a)) c;exact⟨.bool (decide (m<=n)),by simp[binOp,Op.intCmp],by rw[Kb,Il,AcS];exact .bool _,rfl⟩
 |gtr=>obtain⟨rfl,rfl,rfl⟩:=Un (g:=λa b=>ilt b a) c;exact⟨.bool (decide (m > n)),by simp[binOp,Op.intCmp],by rw[Il];exact .bool _,rfl⟩
 |geq=>obtain⟨rfl,rfl,rfl⟩:=Un (g:=λa b=>Ib (ilt a b)) c;exact⟨.bool (decide (m ≥ n)),by simp[binOp,Op.intCmp],by rw[Kb,Il,AcS];exact .bool _,rfl⟩
 |andNot=>cases c
 |and=>obtain⟨a,b,rfl,rfl,rfl,ha,hb,rfl,rfl⟩:=AfD c;refine⟨.int k (a &&& b:Nat),?_,.int _ _,rfl⟩;have d:((a &&& b:Nat):Int)<=k.max:=AfN k _ (Nat.and_lt_two_pow _ (Yr k b hb));have e:=Adr k _ d;simp only[binOp,Op.intBits,ne_eq,Lz,Fl,BitVec.toNat_and,Ju k a ha,Ju k b hb,e];rfl
 |or=>obtain⟨a,b,rfl,rfl,rfl,ha,hb,rfl,rfl⟩:=AfD c;refine⟨.int k (a ||| b:Nat),?_,.int _ _,rfl⟩;have d:((a ||| b:Nat):Int)<=k.max:=AfN k _ (Nat.or_lt_two_pow (Yr k a ha) (Yr k b hb));have e:=Adr k _ d;simp only[binOp,Op.intBits,ne_eq,Lz,Fl,BitVec.toNat_or,Ju k a ha,Ju k b hb,e];rfl
 |xor=>obtain⟨a,b,rfl,rfl,rfl,ha,hb,rfl,rfl⟩:=AfD c;refine⟨.int k (a ^^^ b:Nat),?_,.int _ _,rfl⟩;have d:((a ^^^ b:Nat):Int)<=k.max:=AfN k _ (Nat.xor_lt_two_pow (Yr k a ha) (Yr k b hb));have e:=Adr k _ d;simp only[binOp,Op.intBits,ne_eq,Lz,Fl,BitVec.toNat_xor,Ju k a ha,Ju k b hb,e];rfl
 |shl=>
  have i:AtZ k m j n h=.ok v h':=c;unfold AtZ at i;split at i
  .rename_i b hb;obtain⟨rfl,rfl⟩:=B4 i;have e:=Qb hb;subst e;refine⟨.int k (k.wrap (m*2^(min b k.bits))),?_,?_,rfl⟩;. simp[binOp,Op.shift];intro l;omega
   .rw[Ub];have:Int.mul m (.ofNat (Nat.pow 2 (Nat.min b k.bits)))=m*2^(min b k.bits):=by show m*((2^(min b k.bits):Nat):Int)=_;simp
    rw[this];exact .int _ _
  .cases i
 |shr=>
  have i:Aua k m j n h=.ok v h':=c;unfold Aua at i;split at i
  .rename_i a b ha hb;obtain⟨rfl,rfl⟩:=B4 i;have e:=Qb ha;subst e;have e:=Qb hb;subst e;refine⟨.int k ((a:Int).fdiv (2^(min b k.bits))),?_,?_,rfl⟩;. simp[binOp,Op.shift];intro l;omega
   .have:(Int.ofNat (Nat.div a (Nat.pow 2 (Nat.min b k.bits))))=(a:Int).fdiv (2^(min b k.bits)):=by show((a/2^(min b k.bits):Nat):Int)=_;grind
    rw[this];exact .int _ _
  .cases i
def AnY(op:BinOp)(t:TypeId)(m n:ByteArray)(w:World)(b:AuB op (bytesOf m) (bytesOf n) h=.ok v h'):
 ∃v',(binOp op t (.string m) (.string n)).run P w=.ok v' w/\Au σ v v'/\h'=h:=by cases op with
 |add=>
  rcases Bl b with⟨c,b⟩|⟨_,b⟩
  .obtain⟨rfl,rfl⟩:=B4 b;have d:=Ec c;simp[Rf,Gv]at d;refine⟨.string (m++n),?_,?_,rfl⟩
   .have hn:¬ (m.size+n.size:Nat) > IntKind.i64.max:=by simp_all;omega
    have:binOp .add t (.string m) (.string n)=Op.stringOp .add m n:=rfl;rw[this];simp only[Op.stringOp,X2 hn];rfl
   .rw[AuL,<- AbU];exact .str _
  grind
 |eql=>cases b;exact⟨_,rfl,by rw[U1];exact .bool _,rfl⟩
 |neq=>cases b;exact⟨_,rfl,by simp[Kb,U1];exact .bool _,rfl⟩
 |lss=>cases b;exact⟨_,rfl,by rw[AbC];exact .bool _,rfl⟩
 |leq=>cases b;exact⟨_,rfl,by simp[Kb,Pm];rw[AbC,<- Qi,U1];exact .bool _,rfl⟩
 |gtr=>cases b;exact⟨_,rfl,by have:=Pm (bytesOf m) (bytesOf n);rw[AbC m n,<- Qi,U1]at this;rw[<- this,Bool.not_not];exact .bool _,rfl⟩
 |geq=>cases b;exact⟨_,rfl,by simp[Kb,AbC];exact .bool _,rfl⟩
 |_=>cases b
def Axh(P:Program)(t:TypeId):TK->Prop
|.bad=>True
|.bool=>P.underlying t=some .bool
|.int=>∃i,P.underlying t=some (.int i)
|.string=>P.underlying t=some .string
|.ptr=>∃e b,P.underlying t=some (.pointer e)/\P.info? e=some b/\b.size≠0
|.iface=>∃m,P.underlying t=some (.interface m)
|.struct c=>∃l,P.underlying t=some (.struct l)/\P.stoodInHeld t=false/\c=((l.toList.filter λf=>f.name != "_").map λf=>(f.type,f.offset))
|.array n e s=>∃b,P.underlying t=some (.array n e)/\P.info? e=some b/\b.size=s
|.slice=>∃e,P.underlying t=some (.slice e)
def AbD(P:Program)(t:TypeId):Axh P t (tk P t):=by
 unfold tk;cases b:P.underlying t with
 |none=>trivial
 |some d=>
  cases d with
  |pointer e=>
   dsimp only;cases g:F7 P e with
   |none=>trivial
   |some n=>
    obtain⟨c,h1,h2⟩:=F3 g;cases n with
    |zero=>trivial
    |succ n=>exact⟨e,c,b,h1,by omega⟩
  |struct l=>
   dsimp only;cases g:P.stoodInHeld t
   .simp only[Mh,Fl];exact⟨l,b,g,rfl⟩
   .simp only[Jr];trivial
  |array n e=>
   dsimp only;cases g:F7 P e with
   |none=>trivial
   |some s=>obtain⟨c,h1,h2⟩:=F3 g;exact⟨c,b,h1,h2⟩
  |bool=>exact b
  |int i=>exact⟨i,b⟩
  |string=>exact b
  |interface m=>exact⟨m,b⟩
  |slice e=>exact⟨e,b⟩
  |_=>trivial
def Afe(P:Program)(σ:Dx)(d:Nat)(eq:EqT):Prop:=
 ∀t x y b x' c,eq t x y=some b->Au σ x x'->Au σ y c->∀(D:Nat) (w:World),d<=D->(Op.equalIn D t x' c).run P w=.ok b w
def Ajq{d:Nat}{eq:EqT}(k:Afe P σ d eq)(D:Nat)(m:d<=D) xs ys xs' ys'(p:Bk σ xs xs'.toList)(hy:Bk σ ys ys'.toList) w:
 ∀g b,Amw P eq ((g.filter λf=>f.name != "_").map λf=>(f.type,f.offset)) xs ys=some b->(Op.eqFields D xs' ys' g).run P w=.ok b w:=by intro g;induction g with
 |nil=>intro b hb;cases hb;rfl
 |cons f g q=>
  intro b hb;by_cases hn:f.name = "_";. simp[Op.eqFields,hn,ne_eq,Lz,Fl];grind
  .rw[List.filter_cons_of_pos (by grind)]at hb;simp[Co,Amw]at hb;split at hb
   .rename_i u v o n;obtain⟨r,e,j⟩:=Mp o p w;obtain⟨v',c,l⟩:=Mp n hy w;split at hb;. rename_i i;have:=k _ _ _ _ _ _ i j l D w m;simp[Op.eqFields,ne_eq,hn,not_false_eq_true,Jr,Sem.run_bind,e,c,this,Result.andThen_ok,Jx,Mh,Fl];simp[*]
    .rename_i i;cases hb;have:=k _ _ _ _ _ _ i j l D w m;simp[Op.eqFields,hn,e,c,this]
    grind
   simp_all
def Ajp{d}{eq}(l:Afe P σ d eq) D(o:d<=D) e s xs ys xs' ys'(r:Bk σ xs xs'.toList)(hy:Bk σ ys ys'.toList) w:
 ∀n i b,Amv P eq e s n i xs ys=some b->(Op.eqItems D e s xs' ys' (List.range' i n)).run P w=.ok b w:=by intro n;induction n with
 |zero=>intro i b hb;cases hb;rfl
 |succ n t=>
  intro i b hb;simp[Amv]at hb;split at hb
  .rename_i u v q p;obtain⟨x,g,k⟩:=Mp q r w;obtain⟨v',c,m⟩:=Mp p hy w;split at hb;. rename_i j;have:=l _ _ _ _ _ _ j k m D w o;simp[eo,Op.eqItems,Sem.run_bind,g,c,this,Result.andThen_ok,Jx,Mh,Fl];grind
   .rename_i j;cases hb;have:=l _ _ _ _ _ _ j k m D w o;simp[eo,Op.eqItems,g,c,this]
   grind
  grind
def Apr c o o':((⟨c,o,none⟩:Addr) == ⟨c,o',none⟩)=(o == o'):=by grind
set_option maxHeartbeats 2000000 in
def Zj(P:Program)(σ:Dx):∀d,Afe P σ d (aeq P d):=by
 intro d;induction d with
 |zero=>intro t x y b x' Q h;cases h
 |succ d F=>
  intro t x y b x' Q U g hy D w W;obtain⟨D,rfl⟩:=mg D;have c:Dy P (aeq P d) t x y=some b:=U;unfold Dy at c;have p:=AbD P t;split at c<;>rename_i I<;>rw[I]at p
  .cases c
  .split at c
   .rename_i a1 b1 h1 h2;rw[Adn h1]at g;rw[Adn h2]at hy;cases g;cases hy;cases c;have j:P.underlying t=some .bool:=p;exact run_equalIn_bool w D t _ _ j
   .cases c
  .obtain⟨i,j⟩:=p;split at c
   .rename_i k a1 J b1 h1 h2;rw[P1 h1]at g;rw[P1 h2]at hy;cases g;cases hy;cases hq:kEq k J with
    |false=>rw[hq]at c;cases c
    |true=>rw[hq]at c;cases c;have:=(Q3 k J).1 hq;subst this;rw[Q1];exact run_equalIn_int w D t k i _ _ j
   .cases c
  .split at c
   .rename_i a1 b1 h1 h2;rw[Rj h1]at g;rw[Rj h2]at hy;cases g;cases hy;cases c;rw[U1];exact run_equalIn_string w D t _ _ p
   .cases c
  .obtain⟨e,z,j,hi,A⟩:=p;split at c
   .rename_i h1 h2;rw[Wv h1]at g;rw[Wv h2]at hy;cases g;cases hy;cases c;simp[Op.equalIn,run_underlying j]
   .rename_i b0 B h1 h2;rw[Wv h1]at g;rw[P2 h2]at hy;cases g;cases hy;cases c;simp[Op.equalIn,run_underlying j]
   .rename_i b0 B h1 h2;rw[P2 h1]at g;rw[Wv h2]at hy;cases g;cases hy;cases c;simp[Op.equalIn,run_underlying j]
   .rename_i b0 B b1 K h1 h2;rw[P2 h1]at g;rw[P2 h2]at hy;cases g;cases hy;rename_i V O e1 s1;cases hq:Nat.beq b0 b1 with
    |false=>rw[hq]at c;cases c
    |true=>
     rw[hq]at c;cases c;have:=Ch hq;subst this;rw[O]at s1;cases s1;have R:Nat.beq B K=(B == K):=by rw[C7];simp
     rw[R];simp[Op.equalIn,run_underlying j,sizeOf,typeInfo,hi,A,sameAddr,Apr]
   .cases c
  .obtain⟨m,j⟩:=p;split at c
   .rename_i h1 h2;rw[Y4 h1]at g;rw[Y4 h2]at hy;cases g;cases hy;cases c;simp[Op.equalIn,run_underlying j]
   .rename_i q C h1 h2;rw[Y4 h1]at g;rw[Pq h2]at hy;cases g;cases hy;cases c;simp[Op.equalIn,run_underlying j]
   .rename_i q C h1 h2;rw[Pq h1]at g;rw[Y4 h2]at hy;cases g;cases hy;cases c;simp[Op.equalIn,run_underlying j]
   .rename_i q C S v1 h1 h2;rw[Pq h1]at g;rw[Pq h2]at hy;cases g;cases hy;rename_i u0 L u1 r;cases hq:Nat.beq q S with
    |false=>rw[hq]at c;cases c;have M:=Ho hq;simp[Op.equalIn,run_underlying j,M]
    |true=>
     rw[hq]at c;have:=Ch hq;subst this;cases o:(P.info? q).any (·.comparable)with
     |false=>simp only[o]at c;cases c
     |true=>
      simp only[o]at c;have T:aeq P d q C v1=some b:=c;cases hi:P.info? q with
      |none=>simp[hi]at o
      |some z=>simp[hi]at o;have:=F q C v1 b _ _ T L r D w om;simp[Op.equalIn,run_underlying j,typeInfo,hi,o,this]
   .cases c
  .rename_i X;obtain⟨l,j,A,rfl⟩:=p;split at c
   .rename_i a1 b1 h1 h2;rw[P0 h1]at g;rw[P0 h2]at hy;cases g;cases hy;rename_i c1 l1 r c2 l2 E;have u:P.fieldsOf t=l:=by simp[Program.fieldsOf,j]
    rw[run_equalIn_struct w D t c1 c2 (by rw[u];exact j) A,u];exact Ajq F D om a1 b1 c1 c2 ⟨l1,r⟩ ⟨l2,E⟩ w l.toList b c
   .cases c
  .rename_i n e s;obtain⟨z,j,hi,A⟩:=p;split at c
   .rename_i a1 b1 h1 h2;rw[P0 h1]at g;rw[P0 h2]at hy;cases g;cases hy;rename_i c1 l1 r c2 l2 E;rw[run_equalIn_array w D c1 c2 j hi];have I:P.cellsOf e=s:=by simp[Program.cellsOf,hi,A]
    rw[I,L0];exact Ajp F D om e s a1 b1 c1 c2 ⟨l1,r⟩ ⟨l2,E⟩ w n 0 b c
   .cases c
  .obtain⟨e,j⟩:=p;split at c
   .rename_i h1 h2;rw[Ok h1]at g;rw[Ok h2]at hy;cases g;cases hy;cases c;simp[Op.equalIn,run_underlying j]
   .rename_i h1 h2;rw[Ok h1]at g;rw[Ri h2]at hy;cases g;cases c;cases hy<;>simp[Op.equalIn,run_underlying j]
   .rename_i h1 h2;rw[Ri h1]at g;rw[Ok h2]at hy;cases hy;cases c;cases g<;>simp[Op.equalIn,run_underlying j]
   .cases c
def Tt(b:Bool)(t:TypeId)(x y:Operand){u v:AV}{v':Value}(g:Au σ u j)(e:Au σ v v')(Sm:Bool)
 (hc:Sm=true->isConst x=true\/isConst y=true) (ha:Xm P t Sm (O6 u) (O6 v)=true) (w:World):(eqGuard (if b then .neq else .eql) t x y j v').run P w=.ok () w:=by
 generalize (if b then BinOp.neq else BinOp.eql)=op;cases g<;>cases e<;>first
  |(exfalso;revert ha;simp[Xm,O6];done)
  |(cases op<;>rfl)
  |skip
 .have:Sm=true:=by simpa[Xm,O6]using ha
  rcases hc this with h1|h1;. cases x<;>first|(cases h1;done)|(cases op<;>simp[eqGuard])
  .cases y<;>first|(cases h1;done)|(cases op<;>simp[eqGuard])
 .have c:Nq P t=true:=by simpa[Xm,O6]using ha
  unfold Nq at c;rw[Kb]at c;exact run_eqGuard_agg w op t x y _ _ (by simpa using c)
def AgT{c}{t}{x y}{Sm}(d:Xe c P t x y Sm h=.ok v h'):
 Xm P t Sm (O6 x) (O6 y)=true/\∃b,aeq P 20 t x y=some b/\v=.bool (c != b)/\h'=h:=by
 rcases Bl d with⟨e,d⟩|⟨_,d⟩;. grind
 grind
def Yz(t:TypeId){u v:AV}{v':Value}(e:Au σ u j)(d:Au σ v v')(Sm:Bool)(ha:Xm P t Sm (O6 u) (O6 v)=true)(w:World)(b:Bool)
 (hb:(Op.equal t j v').run P w=.ok b w):(binOp .eql t j v').run P w=.ok (.bool b) w/\(binOp .neq t j v').run P w=.ok (.bool (!b)) w:=by cases e<;>cases d<;>first
  |(exfalso;revert ha;simp[Xm,O6];done)
  |(constructor<;>simp[binOp,hb])
def Apw{y}{k}{n}{op}(b:Apv y k n op h=.ok v h'):∃c m,y=.int c m/\AqP op k n c m h=.ok v h':=by cases y<;>first|(cases b)|exact⟨_,_,rfl,b⟩
def Apy{y}{s}{op}(b:Apx y s op h=.ok v h'):∃c,y=.str c/\AuB op s c h=.ok v h':=by cases y<;>first|(cases b)|exact⟨_,rfl,b⟩
def Aco(op:BinOp)(t:TypeId)(x y:Operand)(z:TypeId):Hm P G ⟨dst,.binOp op t x y z,ty,pos,af,gd⟩:=by
 intro σ nt f a h h' w v Z B l r A;simp[Op.operands]at l;have c:=Cj r A x l.1;have hy:=Cj r A y l.2;have g:Atc (ev x f) (ev x f) (ev y f) op t (Bool.rec (isConst y) true (isConst x)) P h=.ok v h':=B;have e:(Bool.rec (isConst y) true (isConst x))=true->isConst x=true\/isConst y=true:=by
  cases D:isConst x;. simp_all
  simp
 generalize Bool.rec _ ..=Sm at *;generalize ev x f=u at *;generalize ev y f=u2 at *;have i:Ij u u2 op t Sm P h=.ok v h'->∃v' w',Ran P (execOp a.eval ⟨dst,.binOp op t x y z,ty,pos,af,gd⟩) w v' w'/\Ag4 σ h w v v' h' w':=by
  intro hb;have j:op=.eql/\Xe false P t u u2 Sm h=.ok v h'\/op=.neq/\Xe true P t u u2 Sm h=.ok v h':=by cases op<;>first|(cases hb)|exact .inl ⟨rfl,hb⟩|exact .inr ⟨rfl,hb⟩
  rcases j with⟨rfl,hb⟩|⟨rfl,hb⟩
  .obtain⟨ha,b,hq,rfl,rfl⟩:=AgT hb;have h1:=Tt false t x y c hy _ e ha w;have h2:=Yz t c hy _ ha w b (Zj P _ _ t u _ b _ _ hq c hy _ w fe);refine⟨.bool b,w,.inl ?_,.quiet _ _ ?_⟩;. simp[Mh,Fl]at h1;simp[execOp,h1,h2.1]
   .cases b<;>exact .bool _
  .obtain⟨ha,b,hq,rfl,rfl⟩:=AgT hb;have h1:=Tt true t x y c hy _ e ha w;have h2:=Yz t c hy _ ha w b (Zj P _ _ t u _ b _ _ hq c hy _ w fe);refine⟨.bool !b,w,.inl ?_,.quiet _ _ ?_⟩;. simp[Jr]at h1;simp[execOp,h1,h2.2]
   .cases b<;>exact .bool _
 cases u with
 |int k n=>obtain⟨E,m,rfl,hi⟩:=Apw (show Apv _ k n _ h=.ok v _ from g);generalize q:a.eval x=xx at *;generalize d:a.eval y=yy at *;cases c;cases hy;obtain⟨v',p,o,rfl⟩:=AnX (P:=P) _ t k _ n m w hi;exact⟨_,w,.inl (by simp[execOp,q,d,Aft,p]),.quiet _ _ o⟩
 |str s=>obtain⟨C,rfl,hi⟩:=Apy (show Apx _ s _ h=.ok v _ from g);generalize q:a.eval x=xx at *;generalize d:a.eval y=yy at *;cases c;cases hy;obtain⟨v',p,o,rfl⟩:=AnY (P:=P) _ t _ _ w hi;exact⟨_,w,.inl (by simp[execOp,q,d,Afu,p]),.quiet _ _ o⟩
 |top=>cases g
 |_=>exact i g
end ops
section ops
variable {dst:Option Tmp}{ty:TypeId}{pos:String}{af:Array Edge}{gd:Option (Nat × Bool)}
def Nt(d:Pt σ nt f a)(g:Vm G σ){x}(i:Es G x=true){n y}(hn:Vg (ev x f)=some n)(b:n<=y) code w:
 (Instr.sliceBound (a.eval x) y code).run P w=.ok n w:=by obtain⟨k,e⟩:=Us hn;have c:=Cj d g x i;rw[e]at c;generalize a.eval x=u at *;cases c;simp[Instr.sliceBound,asIntOf,b]
def Og(b:Pt σ nt f a)(c:Vm G σ){lo hi g}(h1:∀x,lo=some x->Es G x=true)(h2:∀x,hi=some x->Es G x=true)(k:∀x,g=some x->Es G x=true)
 {l u m len cap} (hm:bnd f g cap=some m) (hl:bnd f lo 0=some l) (hu:bnd f hi len=some u) (hlu:l<=u) (hum:u<=m) (hmc:m<=cap) (P5:g≠none->hi≠none) is w:
 (Instr.sliceBounds is len cap (lo.map a.eval) (hi.map a.eval) (g.map a.eval)).run P w=.ok (l,u,m) w:=by cases g with
 |none=>
  have e:m=cap:=by cases hm;rfl
  subst e;cases hi with
  |none=>
   have e:u=len:=by cases hu;rfl
   subst e;cases lo with
   |none=>
    have e:l=0:=by cases hl;rfl
    subst e;rfl
   |some x=>simp[Instr.sliceBounds,Nt b c (h1 x _) hl hlu]
  |some y=>have d:=Nt (P:=P) b c (h2 y rfl) hu hum;cases lo with
   |none=>
    have e:l=0:=by cases hl;rfl
    subst e;simp[Instr.sliceBounds,d]
   |some x=>have i:=Nt (P:=P) b c (h1 x rfl) hl hlu;simp[Instr.sliceBounds,i,d]
 |some z=>have j:=Nt (P:=P) b c (k z rfl) hm hmc;cases hi with
  |none=>grind
  |some y=>have d:=Nt (P:=P) b c (h2 y rfl) hu hum;cases lo with
   |none=>
    have e:l=0:=by cases hl;rfl
    subst e;simp[Instr.sliceBounds,d,j]
   |some x=>have i:=Nt (P:=P) b c (h1 x rfl) hl hlu;simp[Instr.sliceBounds,i,d,j]
def Abf s l u:bytesOf (s.extract l u)=((bytesOf s).drop l).take (u-l):=by unfold bytesOf;simp
def Asd{s}{l u}(b:Ai9 s l u h=.ok v h'):
 ∃d c,l=some d/\u=some c/\d<=c/\c<=s.length/\v=.str ((s.drop d).take (c-d))/\h'=h:=by
 unfold Ai9 at b;split at b
 .rcases Bl b with⟨h1,b⟩|⟨_,b⟩
  .rcases Bl b with⟨h2,b⟩|⟨_,b⟩;. obtain⟨rfl,rfl⟩:=B4 b;rw[Rf]at h2;refine⟨_,_,rfl,rfl,G2 h1,G2 h2,?_,rfl⟩;rw[Asg,Asc];rfl
   grind
  grind
 grind
def Y1{b off cap d}{ex}{l u}(c:AkE b off cap d ex l u h=.ok v h'):l<=u/\u<=cap/\h'=h /\
 (l<cap/\v=.sl b (off+l*d) (u-l) (cap-l) d ex\/l=cap/\ex=true/\v=.sl b off 0 0 d true\/l=cap/\l=0/\v=.sl b off 0 0 d ex\/l=cap/\l≠0/\ex=false/\v=.sl b (off+1) 0 0 0 false):=by
 rcases Bl c with⟨h1,c⟩|⟨_,c⟩
 .rcases Bl c with⟨h2,c⟩|⟨_,c⟩
  .have g1:=G2 h1;have g2:=G2 h2;rcases Bl c with⟨g,c⟩|⟨g,c⟩;. simp_all
   .have g3:=Ap1 g;rcases Bl c with⟨i,c⟩|⟨i,c⟩;. grind
    .rcases Bl c with⟨e,c⟩|⟨e,c⟩;. simp_all
     .obtain⟨rfl,rfl⟩:=B4 c;refine⟨g1,g2,rfl,.inr (.inr (.inr ⟨by omega,Ho e,?_,rfl⟩))⟩;grind
  simp_all
 grind
def Ai8{b off cap e l u c}(d:Amj b off cap e l u c h=.ok v h'):l<=u/\u<=c/\c<=cap/\h'=h /\
 v=.sl b (if c=l then off else off+l*e) (u-l) (c-l) e true:=by
 rcases Bl d with⟨h1,d⟩|⟨_,d⟩
 .rcases Bl d with⟨h2,d⟩|⟨_,d⟩
  .rcases Bl d with⟨g,d⟩|⟨_,d⟩;. obtain⟨rfl,rfl⟩:=B4 d;refine⟨G2 h1,G2 h2,G2 g,rfl,?_⟩;cases hq:Nat.beq c l with
     |false=>rw[X2 (Ho hq)];rfl
     |true=>simp_all
   grind
  simp_all
 grind
def AsX{G}{lo hi b}{x}(h:(Op.slice ty x lo hi b).operands.toList.all (Es G)=true):
 Es G x=true/\(∀y,lo=some y->Es G y=true)/\(∀y,hi=some y->Es G y=true)/\∀y,b=some y->Es G y=true:=by simp[Op.operands,Ol,List.all_append,Sc]at h;grind
def Acs(t:TypeId)(x:Operand)(lo hi K:Option Operand):Hm P G ⟨dst,.slice t x lo hi K,ty,pos,af,gd⟩:=by
 intro σ nt f a h h' w v Z R De D C;obtain⟨ox,M,L,O⟩:=AsX De;have q:=Cj D C x ox;have d:G5 t x lo hi K ty P Z f h=.ok v h'/\A4a hi K=true:=by
  rcases Bl R with⟨h1,R⟩|⟨_,R⟩
  .exact⟨R,h1⟩
  .cases R
 obtain⟨d,hmo⟩:=d;have P5:K≠none->hi≠none:=by
  intro h1 h2;cases K with
  |none=>exact h1 rfl
  |some m=>subst h2;cases hmo
 unfold G5 at d;generalize hy:a.eval x=y at *
 split at d
 .rename_i E;split at d
  .rename_i s hvs;rw[Rj hvs]at q;cases q;rename_i bs;obtain⟨l,u,hl,hu,X,J,rfl,rfl⟩:=Asd d;rw[Gv]at J;have U:bnd f hi bs.size=some u:=by rw[<- Gv,<- Rf];exact hu
   have hb:=Og (P:=P) D C M L O (cap:=bs.size) (len:=bs.size) (m:=bs.size) rfl hl U X J (Ye _) (λg=>absurd rfl g) false w;refine⟨.string (bs.extract l u),w,.inl ?_,.quiet _ _ ?_⟩
   .have Y:=Afb E;simp only[ey]at hb;simp[execOp,hy,Instr.sliceAt,Instr.slice,run_underlying Y,hb]
   .rw[<- Abf];exact .str _
  .cases d
 .rename_i i E;obtain⟨V,F,Q,S,k4⟩:=AiO E;split at d
  .rename_i r;rw[Ok r]at q;cases q;split at d
   .rename_i e1 A o;obtain⟨rfl,rfl⟩:=B4 d;have hb:=Og (P:=P) D C M L O (cap:=0) (len:=0) o e1 A (Ye _) (Ye _) (Ye _) P5 true w;refine⟨.slice none 0 0,w,.inl ?_,.quiet _ _ .Bv⟩;simp[execOp,hy,Instr.sliceAt,Instr.slice,run_underlying F,hb,sizeOf,typeInfo,Q]
   .cases d
  .rename_i b off len cap W ex r;rw[Ri r]at q;have AhE:=Aox E;cases q;rotate_left
   .exfalso;split at d
    .rcases Bl d with⟨hz,_⟩|⟨_,d⟩
     .have:=Ch hz;omega
     .cases d
    .split at d
     .rcases Bl d with⟨hz,_⟩|⟨_,d⟩
      .have:=Ch hz;omega
      .cases d
     .cases d
    .cases d
   rename_i e p k g1 g2 g3 g4;split at d
   .rename_i l u e1 A;rcases Bl d with⟨hz,d⟩|⟨_,d⟩
    .have B:=Ch hz;obtain⟨I,T,rfl,Al8⟩:=Y1 d;have hb:=Og (P:=P) D C M L O (cap:=p) (len:=len) (m:=p) rfl e1 A I om (Ye _) (λg=>absurd rfl g) true w;simp only[ey]at hb;have run:(execOp a.eval ⟨dst,.slice t x lo hi none,ty,pos,af,gd⟩).run P w=.ok (.value (.slice (if p=l then some ⟨e.c,off,none⟩else some ((⟨e.c,off,none⟩:Addr).add (l*i.s))) (u-l) (p-l))) w:=by simp[execOp,hy,Instr.sliceAt,Instr.slice,run_underlying F,hb,sizeOf,typeInfo,Q,S]
     rcases Al8 with⟨z,rfl⟩|⟨z,rfl,rfl⟩|⟨z,q4,rfl⟩|⟨z,q4,rfl,rfl⟩
     .refine⟨_,w,.inl run,.quiet _ _ ?_⟩;rw[X2 om,G1,<- B];refine .sl b _ _ _ _ _ e _ k om om (λg=>by rw[g3 g]) (λg=>?_);have:=g4 g;have o:l*W+(p-l)*W=p*W:=by rw[<- ag];congr 1;omega
      omega
     .have:=g3 rfl;subst this;refine⟨_,w,.inl run,.quiet _ _ ?_⟩;have o:u=l:=by omega
      rw[Xo z.symm,o,<- z,Mq];exact .sl b _ _ _ _ _ e _ k om om (λ_=>rfl) (λg=>by cases g)
     .subst q4;have o:u=0:=by omega
      refine⟨_,w,.inl run,.quiet _ _ ?_⟩;have e4:(if p=0 then some (⟨e.c,off,none⟩:Addr)else some ((⟨e.c,off,none⟩:Addr).add (0*i.s)))=some ⟨e.c,off,none⟩:=by rw[G1];simp
      rw[e4,o,ew,ew];exact .sl b _ _ _ _ _ e _ k om om (λg=>by rw[g3 g];omega) g4
     .have o:u=l:=by omega
      refine⟨_,w,.inl run,.quiet _ _ ?_⟩;rw[o,Mq];by_cases j:p=l;. rw[Xo j];exact .slw b off e k _ _
      .rw[X2 j];exact .slw b off e k _ _
    .cases d
   .rename_i l u m e1 A;split at d
    .rename_i c o;rcases Bl d with⟨hz,d⟩|⟨_,d⟩
     .have B:=Ch hz;obtain⟨I,T,z,rfl,rfl⟩:=Ai8 d;have hb:=Og (P:=P) D C M L O (cap:=p) (len:=len) (m:=c) o e1 A I T om P5 true w;refine⟨.slice (if c=l then some ⟨e.c,off,none⟩else some ((⟨e.c,off,none⟩:Addr).add (l*i.s))) (u-l) (c-l),w,.inl ?_,.quiet _ _ ?_⟩;. simp only[dy]at hb;simp[execOp,hy,Instr.sliceAt,Instr.slice,run_underlying F,hb,sizeOf,typeInfo,Q,S]
      .rw[G1,<- B];by_cases j:c=l;. rw[Xo j,Xo j];exact .sl b _ _ _ _ _ e _ k om om (λ_=>rfl) (λg=>by cases g)
       .rw[X2 j,X2 j];exact .sl b _ _ _ _ _ e _ k om om (λ_=>rfl) (λg=>by cases g)
     .cases d
    .cases d
   .cases d
  .cases d
 .rename_i n i E;obtain⟨V,F,Q,S,k4⟩:=Aat E;split at d
  .rename_i b off l u hvp e1 A;rw[P2 hvp]at q;cases q;rename_i e k;obtain⟨I,T,z,rfl,rfl⟩:=Ai8 d;have hb:=Og (P:=P) D C M L O (cap:=n) (len:=n) (m:=n) rfl e1 A I T (Ye _) (λg=>absurd rfl g) false w;refine⟨.slice (some (if n=l then⟨e.c,off,none⟩else((⟨e.c,off,none⟩:Addr).add (l*i.s)))) (u-l) (n-l),w,.inl ?_,.quiet _ _ ?_⟩;. simp only[ey]at hb;simp[execOp,hy,Instr.sliceAt,run_underlying F,hb,sizeOf,typeInfo,Q,S,Instr.sureAddr]
   .rw[G1];by_cases j:n=l;. rw[Xo j,Xo j];exact .sl b _ _ _ _ _ e _ k om om (λ_=>rfl) (λg=>by cases g)
    .rw[X2 j,X2 j];exact .sl b _ _ _ _ _ e _ k om om (λ_=>rfl) (λg=>by cases g)
  .cases d
 .cases d
end ops
section ops
variable {dst:Option Tmp}{ty:TypeId}{pos:String}{af:Array Edge}{gd:Option (Nat × Bool)}
def AmG(b:List (Value × Nat)) off(cells:Array _):(b.foldl (λcs p=>cs.setIfInBounds (off+p.2) p.1) cells).size=cells.size:=by induction b generalizing cells with
|nil=>rfl
|cons p b c=>grind
def ApW(b:List Value) off:∀k (cells:Array _) i,off+k+b.length<=cells.size ->
 ((b.zipIdx k).foldl (λcs p=>cs.setIfInBounds (off+p.2) p.1) cells)[i]?=if off+k<=i/\i<off+k+b.length then b[i-(off+k)]? else cells[i]?:=by induction b with
 |nil=>simp_all;omega
 |cons v b c=>simp[List.zipIdx_cons,du];grind
def Aci(E:Pt σ nt f a)(B:Vm G σ){place AcZ:Nat->Option (Nat × Nat)}(D:∀i q,place i=some q->AcZ i=some q):
 ∀(parts:List (Nat × Operand)) (cs r:uz) (D7:Array Value),parts.all (λp=>Es G p.2)=true->Xp place f parts cs=some r->Bk σ cs D7.toList ->
  ∃m:Array Value,Instr.fill AcZ D7 (parts.map λp=>(p.1,a.eval p.2))=some m/\Bk σ r m.toList:=by intro parts;induction parts with
 |nil=>intro cs r D7 _ c g;cases c;exact⟨D7,rfl,g⟩
 |cons p parts J=>
  obtain⟨i,x⟩:=p;intro cs r D7 l c g;simp only[Ku,Sc]at l;simp only[Xp]at c;split at c
  .rename_i off size u C K;split at c;. rename_i d s;cases hq:Nat.beq (Q4 u) size with
     |false=>simp_all
     |true=>
      rw[hq]at c;have M:=Ch hq;rw[Gh]at M;have t:=O4 K (Cj E B x l.1);obtain⟨L,_⟩:=Ns s;have n:u.length=(a.eval x).cells.size:=by rw[t.1];simp
      have I:cs.length=D7.size:=by rw[g.1];simp
      simp only[Co,Instr.fill,D i _ C];rw[X2 (by simp;omega)];refine J d r _ l.2 c ?_;have e:=λi=>ApW (a.eval x).cells.toList off 0 D7 i (by simp;omega);rw[<- Array.foldl_toList];rw[Array.toList_zipIdx];generalize o:((a.eval x).cells.toList.zipIdx 0).foldl (λcs (p:Value × Nat)=>cs.setIfInBounds (off+p.2) p.1) D7=F at e;have A:List.foldl (λcs x=>cs.setIfInBounds (off+x.2) x.1) D7 (a.eval x).cells.toList.zipIdx=F:=o;have O:F.size=D7.size:=by rw[<- o];exact AmG _ _ _
      have k:Bk σ d F.toList:=by
       refine⟨?_,λj y z hy hz=>?_⟩;. grind
       .rw[AhU s]at hy;have b:F[j]?=some z:=by simpa using hz
        rw[e j]at b;simp only[Vw,Array.length_toList]at b;by_cases hj:off<=j/\j<off+u.length;. rw[Xo hj]at hy;rw[Xo om]at b;exact t.2 (j-off) y z hy b
        .rw[X2 hj]at hy;rw[X2 om]at b;exact g.2 j y z hy (by grind)
      exact k
   .cases c
  .cases c
def AcV{t}{parts}(h:(Op.build t parts).operands.toList.all (Es G)=true):parts.toList.all (λp=>Es G p.2)=true:=by simpa[Op.operands]using h
def Vi{t}{n}{parts}(h:(Op.buildSlice t n parts).operands.toList.all (Es G)=true):parts.toList.all (λp=>Es G p.2)=true:=by simpa[Op.operands]using h
def AhY P w:∀(l:List _) b,l.mapM (λf=>(F7 P f.type).map λs=>(f.offset,s))=some b ->
 (l.mapM (λf=>do pure (f.offset,<- sizeOf f.type):Go.Field->Sem _)).run P w=.ok b w:=by intro l;induction l with
 |nil=>simp
 |cons f l g=>
  intro b h;rw[Fq]at h;simp only[bind,Uh,pure,ef,Option.map_eq_some_iff]at h;obtain⟨q,⟨s,d,rfl⟩,c,h2,rfl⟩:=h;obtain⟨i,hi,rfl⟩:=F3 d;have e:(sizeOf f.type).run P w=.ok i.size w:=by simp[sizeOf,typeInfo,hi]
  simp_all
def Afm{t}{c}{z}(h:AgS P t=.struct c z):∃b,P.underlying t=some (.struct b)/\I1 P t=some z/\b.toList.mapM (λf=>(F7 P f.type).map λs=>(f.offset,s))=some c:=by
 unfold AgS at h;split at h
 .split at h;. rename_i e d;unfold places at d;simp_all
  grind
 .grind
 grind
def Am2{t}{s}{z}(h:AgS P t=.arr s z):∃n e b,P.underlying t=some (.array n e)/\I1 P t=some z/\P.info? e=some b/\b.size=s:=by
 unfold AgS at h;split at h;. grind
 .split at h;. rename_i d c;obtain⟨b,h1,h2⟩:=F3 c;grind
  grind
 grind
def Acp t parts:Hm P G ⟨dst,.build t parts,ty,pos,af,gd⟩:=by
 intro σ nt f a h h' w v Z E F u r;have c:=AcV F;have g:Tg t _ ty P Z f h=.ok v _:=E;unfold Tg at g;have d:(parts.map λp=>(p.1,a.eval p.2)).toList=parts.toList.map λp=>(p.1,a.eval p.2):=by simp
 split at g
 .rename_i x z hb;obtain⟨cs,o,rfl,rfl⟩:=Aaj g;obtain⟨C,l,hz,B⟩:=Afm hb;obtain⟨i,zz,hi,b,k⟩:=Kn _ hz;obtain⟨y,h1,h2⟩:=Aci u r (AcZ:=λi=>x.toArray[i]?) λi q hq=>by grind _ z _ _ c o k;refine⟨_,w,.inl ?_,.quiet _ _ (.agg _ _ h2.1 h2.2)⟩;have I:=AhY P w _ _ B;have j:(C.mapM (λf=>do pure (f.offset,<- sizeOf f.type):Go.Field->Sem _)).run P w=.ok x.toArray w:=by rw[ed];simp_all
  simp only[execOp,Instr.build,zeroValue,typeInfo,Sem.run_bind,run_program,Result.andThen_ok,hi,Sem.run_pure,b,run_underlying l,j,d,h1]
 .rename_i s z hb;obtain⟨cs,o,rfl,rfl⟩:=Aaj g;obtain⟨n,e,A,l,hz,m,D⟩:=Am2 hb;obtain⟨i,zz,hi,b,k⟩:=Kn _ hz;obtain⟨y,h1,h2⟩:=Aci u r (AcZ:=λi=>some _) (λi q hq=>hq) _ z _ _ c o k;refine⟨_,w,.inl ?_,.quiet _ _ (.agg _ _ h2.1 h2.2)⟩;simp[execOp,Instr.build,zeroValue,typeInfo,sizeOf,Sem.run_bind,run_program,Result.andThen_ok,hi,Sem.run_pure,b,run_underlying l,m,D,d,h1]
 simp_all
def AkD{t}{i}(h:Tw P t=some i):0<i.s:=by
 unfold Tw at h;split at h
 .split at h;. rename_i b z hi hz;cases hq:Nat.beq (Q4 z) b.size with
    |false=>simp_all
    |true=>rw[hq]at h;have h':=h;cases c:Nat.blt 0 b.size with
     |false=>simp_all
     |true=>rw[c]at h';cases h';simp_all
  simp_all
 grind
def Pk{t}{i}(h:Tw P t=some i):∃b z zz,P.underlying t=some (.slice i.e)/\P.info? i.e=some b/\b.size=i.s/\b.bytes=i.bytes /\
 I1 P i.e=some z/\b.zero=some zz/\z.length=i.s/\zz.cells.size=i.s/\∀σ,Bk σ z zz.cells.toList:=by
 unfold Tw at h;split at h
 .split at h;. rename_i b z hi hz;cases hq:Nat.beq (Q4 z) b.size with
    |false=>simp_all
    |true=>rw[hq]at h;have h':=h;cases c:Nat.blt 0 b.size with
     |false=>simp_all
     |true=>
     rw[c]at h';have e1:=Ch hq;rw[Gh]at e1;obtain⟨d,zz,h1,h2,_⟩:=Kn (λ_=>none) hz;have j:∀σ,Bk σ z zz.cells.toList:=by intro σ;obtain⟨d,g,g1,g2,g3⟩:=Kn σ hz;simp_all
     have h9:=(j λ_=>none).1;grind
  simp_all
 grind
def ArN z:∀n j,j<n*z.length->(Ade z n)[j]?=z[j%z.length]?:=by intro n;induction n with
|zero=>simp
|succ n b=>
 intro j hj;simp[Ade,Dl];by_cases h1:j<z.length;. rw[ck h1,dm h1]
 .rw[bu om];have h2:j-z.length<n*z.length:=by grind
  rw[b _ h2,<- Nat.mod_eq_sub_mod om]
def Aix z:∀n,(Ade z n).length=n*z.length:=by intro n;induction n with
|zero=>simp[Ade]
|succ n b=>simp[Ade,Dl,Xi,b,ag];omega
def Aiy{zz:Array Value}(c:Bk σ o zz.toList) n:Bk σ (Ade o n) ((Array.range (n*o.length)).map λi=>zz[i%zz.size]!).toList:=by
 have d:o.length=zz.size:=by rw[c.1];rfl
 refine⟨by rw[Aix];simp,λi x y b hy=>?_⟩;have hi:i<n*o.length:=by grind
 rw[ArN o n i hi]at b;refine c.2 _ x y b ?_;grind
def Ro t(n:Nat) parts:Hm P G ⟨dst,.buildSlice t n parts,ty,pos,af,gd⟩:=by
 intro σ nt f a h h' w v Z E F B x;have d:=Vi F;have b:Gz t n _ ty P Z f h=.ok v _:=E;unfold Gz at b;have c:(parts.map λp=>(p.1,a.eval p.2)).toList=parts.toList.map λp=>(p.1,a.eval p.2):=by simp
 split at b
 .rename_i i D;obtain⟨A,z,zz,o,hi,u,C,hz,l,e,y,J⟩:=Pk D;rw[hz]at b;dsimp at b;split at b
  .rename_i cs I;rcases Bl b with⟨k,r⟩|⟨_,r⟩
   .obtain⟨rfl,rfl⟩:=B4 r;have L:=Ec k;obtain⟨K,h1,h2⟩:=Aci B x (AcZ:=λj=>some _) (λj q hq=>hq) _ _ _ _ d I (Aiy (J _) n);refine⟨_,_,.inl ?_,.sl _ _ _ n n _ (Ye _) h2⟩;have hn:¬ n*i.s > 2^24:=by omega
    rw[e]at h1;by_cases h0:n*i.s=0
    .have m:∀g:Nat->Value,(Array.range (n*i.s)).map g=#[]:=λg=>by simp_all
     rw[m]at h1;simp[execOp,Instr.buildSlice,typeInfo,sizeOf,Sem.run_bind,run_program,Result.andThen_ok,Sem.run_pure,run_underlying o,hi,u,X2 _,c,m,newRow,Dd];simp_all
    .simp[execOp,Instr.buildSlice,zeroValue,typeInfo,sizeOf,Sem.run_bind,run_program,Result.andThen_ok,Sem.run_pure,run_underlying o,hi,u,l,X2 hn,c,h0,Fl,newRow,run_newObj,Dd,h1]
   grind
  grind
 grind
def Ta P t:match Pw P t with
|.bad=>True
|.str=>P.underlying t=some .string
|.sl=>∃e,P.underlying t=some (.slice e)
|.map=>∃k e,P.underlying t=some (.map k e):=by unfold Pw;grind
def AeE{t:TypeId}{x:AV}(l:Au σ x j)(m:∀r,x≠.map r)(g:lnK (Pw P t) x h=.ok v h')(w:World)(ts:Array TypeId)(i:ts[0]?=some t):
 ∃v',(Builtin.len_ ts ty #[j]).run P w=.ok v' w/\Au σ v v'/\h'=h:=by have c:=Ta P t;cases y:Pw P t with
 |bad=>rw[y]at g;cases g
 |str=>
  rw[y]at g c;have d:lnS x h=.ok v h':=g;cases l<;>first|(cases d;done)|skip;rename_i s;cases d;refine⟨.int .i64 s.size,?_,?_,rfl⟩;. simp[Builtin.len_,i,run_underlying c,goInt]
  .rw[Rf,Gv];exact .int _ _
 |sl=>
  rw[y]at g c;obtain⟨e,c⟩:=c;have d:Fo x h=.ok v h':=g;cases l<;>first|(cases d;done)|skip
  .cases d;exact⟨.int .i64 0,by simp[Builtin.len_,i,run_underlying c,goInt],.int _ _,rfl⟩
  .rename_i b off len cap n ex e1 o _ _ _ _ _;cases d;exact⟨.int .i64 len,by simp[Builtin.len_,i,run_underlying c,goInt],.int _ _,rfl⟩
  .cases d;exact⟨.int .i64 0,by simp[Builtin.len_,i,run_underlying c,goInt],.int _ _,rfl⟩
 |map=>
  rw[y]at g c;obtain⟨k,e,c⟩:=c;have d:lnM x h=.ok v h':=g;unfold lnM entries at d;cases l<;>first|(cases d;done)|skip
  .cases d;exact⟨.int .i64 0,by simp[Builtin.len_,i,run_underlying c,goInt],.int _ _,rfl⟩
  .exact absurd rfl (m _)
end ops
def Cc(w:World)(c:Nat)(o:Obj):World:={ w with heap:=w.heap.setIfInBounds c o }
def Da w c o j:(Cc w c o).heap[j]?=if j=c/\c<w.heap.size then some o else w.heap[j]?:=by unfold Cc;grind
def Mr w c o:(Cc w c o).heap.size=w.heap.size:=by simp[Cc]
def Dj{w:World}{c}{o}(b:w.heap[c]?=some o):c<w.heap.size:=(Lp.1 b).1
def Ak8{w}{c i}{v}{arr}{t}{fz}(b:w.heap[c]?=some (.cells arr t fz)):
 w.setCell ⟨c,i,none⟩ v=Cc w c (.cells (arr.setIfInBounds i v) t fz):=by unfold World.setCell Cc;congr 1;grind
def J9(arr:Array Value)(o:Nat)(b:List Value):Array Value:=(arr.toList.take o++b++arr.toList.drop (o+b.length)).toArray
def Nz{arr}{o:Nat}{b:List _}(c:o+b.length<=arr.size)(i):
 (J9 arr o b)[i]?=if o<=i/\i<o+b.length then b[i-o]? else arr[i]?:=by
 unfold J9;have d:arr.toList.length=arr.size:=by rfl
 simp only[Li];by_cases h2:i<o
 .grind
 grind
def O2{arr}{o}{b}(c:o+b.length<=arr.size):(J9 arr o b).size=arr.size:=by unfold J9;grind
def AgQ{arr}{o}{v}{b}(c:o+(b.length+1)<=arr.size):
 J9 (arr.setIfInBounds o v) (o+1) b=J9 arr o (v::b):=by apply Array.ext_getElem?;intro i;rw[Nz (by grind),Nz om];grind
def AdY w c o o':Cc (Cc w c o) c o'=Cc w c o':=by unfold Cc;simp
def Nl(P:Program)(c off:Nat)(t:TypeId)(lo hi:Nat):∀(b:List Value) (i:Nat) (arr:Array Value) (w:World),w.heap[c]?=some (.cells arr t (lo,hi)) ->
 off+i+b.length<=arr.size->(∀j,off+i<=j->j<off+i+b.length->¬ (lo<=j/\j<hi))->(∀v∈b,v.oneCell'=true) ->
 (storeCells ⟨c,off,none⟩ b i).run P w=.ok () (Cc w c (.cells (J9 arr (off+i) b) t (lo,hi)))
 |[],i,arr,w,d,hle,_,_=>by
  have e:J9 arr (off+i) []=arr:=by unfold J9;simp
  rw[e];simp only[storeCells,Sem.run_pure];congr 1;unfold Cc;have s:=Dj d;have:w.heap.setIfInBounds c (.cells arr t (lo,hi))=w.heap:=by grind
  simp[*]
 |v::b,i,arr,w,d,hle,k,g=>by
  simp only[Y7]at hle k;have r:w.cell? ((⟨c,off,none⟩:Addr).add i)=some arr[off+i]:=by rw[G1];simp[World.cell?,d]
  have m:w.frozen? ((⟨c,off,none⟩:Addr).add i)=false:=by rw[G1];simp only[World.frozen?,d];simp_all
  have l:=run_store P w ((⟨c,off,none⟩:Addr).add i) v .plain (g v (by simp));rw[r,m]at l;simp only[Mh,Fl]at l;rw[G1,Ak8 d]at l;have n:(Cc w c (.cells (arr.setIfInBounds (off+i) v) t (lo,hi))).heap[c]?=some (.cells (arr.setIfInBounds (off+i) v) t (lo,hi)):=by rw[Da,Xo ⟨rfl,Dj d⟩]
  have o:=Nl P c off t lo hi b (i+1) _ _ n (by grind) (λj h1 h2=>k j om om) (λu q=>g u (by simp[q]));have p:storeCells ⟨c,off,none⟩ (v::b) i=(do store ((⟨c,off,none⟩:Addr).add i) v;storeCells ⟨c,off,none⟩ b (i+1)):=by rfl
  rw[p,Sem.run_bind,G1,l,Result.andThen_ok,o,AdY];congr 3;have:off+(i+1)=off+i+1:=by omega
  rw[this];exact AgQ om
def AjZ{n}{o}(b:AlH n o=true):o=.Fb n:=by cases o<;>first|(cases b)|skip;rename_i m;have:=Ch (show Nat.beq m n=true from b);grind
def rd_some{b}{c}(j:h.rd b=some c):∃t k,h.m.get b=.cells c t k/\Adp h.m.get k:=by have d:rdO _ h=some c:=j;cases i:h.m.get b with
|cells l t k=>rw[i]at d;have e:=d;cases k with
 |Cf g st=>have:ArJ _ _ l h=some c:=e;unfold ArJ at this;cases hq:AlH st (h.m.get g)with
  |false=>simp_all
  |true=>rw[hq]at this;cases this;exact⟨t,_,rfl,AjZ hq⟩
 |exact=>cases e;exact⟨t,_,rfl,trivial⟩
 |fz g=>cases e;exact⟨t,_,rfl,trivial⟩
 |Gt g=>cases e;exact⟨t,_,rfl,trivial⟩
|_=>rw[i]at d;cases d
def No{b}{c}{e}(j:h.rd b=some c)(hb:Gr G σ h.m.get e w (h.m.get b)):
 ∃(arr:Array _) (t:TypeId) (fz:Nat × Nat),w.heap[e.c]?=some (.cells arr t fz)/\arr.size=e.N/\c.length<=e.N/\∀(i:Nat) x y,c[i]?=some x->arr[i]?=some y->Au σ x y:=by obtain⟨t,k,d,g⟩:=rd_some j;rw[d]at hb;obtain⟨arr,lo,hi,h1,h2,n,l,_⟩:=hb.2 g;grind
def Xj{c i}{arr}{t}{fz}(b:w.heap[c]?=some (.cells arr t fz)):w.cell? ⟨c,i,none⟩=arr[i]?:=by simp[World.cell?,b]
def Mo{c off n}{arr}{t}{fz}(b:w.heap[c]?=some (.cells arr t fz))(d:off+n<=arr.size):
 (loadCells ⟨c,off,none⟩ n).run P w=.ok ((arr.toList.drop off).take n).toArray w:=by
 have:=run_loadCells_list (P:=P) w ⟨c,off,_⟩ ((arr.toList.drop off).take n) λj v hj=>by rw[G1,Xj b];grind
 grind
def Uj{c}{arr:Array _}{off n}{r}(b:Nf c off n=some r)(g:∀(i:Nat) x y,c[i]?=some x->arr[i]?=some y->Au σ x y)(d:c.length<=arr.size):
 Bk σ r ((arr.toList.drop off).take n):=by obtain⟨h1,rfl,h2⟩:=Js b;refine⟨by grind,λi x y e hy=>?_⟩;grind
def AhN{t}{c}{off}{e:SE}{arr}{ty}{fz}(b:Tn (Ft P t) c off=some v)(j:w.heap[e.c]?=some (.cells arr ty fz))
 (hle:c.length<=arr.size) (hr:∀(i:Nat) x y,c[i]?=some x->arr[i]?=some y->Au σ x y):
 ∃v',(loadVar t ⟨e.c,off,none⟩).run P w=.ok v' w/\Au σ v v':=by
 unfold Tn at b;split at b;. rename_i d;rw[Ab6]at b;have hi:=(Xh.1 b).1;have hy:arr[off]?=some arr[off]:=U0 _;refine⟨_,?_,hr _ v _ b hy⟩;simp[loadVar,Sem.run_bind,Vv d,Result.andThen_ok,Mh,Fl,run_load,Xj j,hy]
 .rename_i n d;cases g:Nf c off n with
  |none=>grind
  |some r=>simp[g]at b;subst b;have:=Uj g hr hle;refine⟨_,?_,.agg _ _ this.1 this.2⟩;obtain⟨h1,_,_⟩:=Js g;simp[loadVar,Sem.run_bind,(Kj d w).1,(Kj d w).2,Result.andThen_ok,Jr,Mo j (show off+n<=arr.size by omega),Sem.run_pure]
 grind
def Ae0{dst}{ty}{pos}{af}{gd} t x{Z}
 (he:opD (.load t x) ty P Z f h=.ok v h') (De:Es G x=true) (hf:Pt σ nt f a) (hg:Vm G σ)
 (hm:∀b off e,ev x f=.ptr b off->σ b=some e->Gr G σ h.m.get e w (h.m.get b)):
 ∃v',Ran P (execOp a.eval ⟨dst,.load t x,ty,pos,af,gd⟩) w v' w/\Au σ v v'/\h'=h:=by have A:=Cj hf hg x De;have o:ldV _ _ h=.ok v _:=he;generalize ev x f=u at *;generalize hy:a.eval x=y at *;cases A<;>first|(cases o)|skip;rename_i b off e z;have g:ldC _ _ _ h=.ok v _:=o;cases k:h.rd b with
 |none=>rw[k]at g;cases g
 |some c=>
  rw[k]at g;obtain⟨arr,C,fz,h1,h2,B,r⟩:=No k (hm b _ e rfl z);have j:Tn (Ft P t) c off=some v/\h'=h:=by have d:=g;cases l:Ft P t with
   |none=>rw[l]at d;cases d
   |some i=>rw[l]at d;cases i with
    |none=>obtain⟨g1,g2⟩:=AbA (show Py _ h=.ok v _ from d);exact⟨g1,g2⟩
    |some n=>obtain⟨cs,g1,rfl,g2⟩:=Aaj (show Ly _ h=.ok v _ from d);exact⟨by simp[Tn,g1],g2⟩
  obtain⟨p,rfl⟩:=j;obtain⟨v',s,q⟩:=AhN p h1 om r;refine⟨_,.inl ?_,q,rfl⟩;simp[execOp,hy,Instr.loadAt,Instr.sureAddr,s]
def Ph(h:H) b o(hb:b<Bq) j(hj:j<Bq):(h.put b o).m.get j=if j=b then o else h.m.get j:=KM.Dh _ b j o hb hj
def Ni(h:H) o(hb:h.nx<Bq) j(hj:j<Bq):(h.new o).m.get j=if j=h.nx then o else h.m.get j:=KM.Dh _ _ j o hb hj
def Ab7(hi:Om h){b}(hb:b<Bq)(hn:h.m.get b≠.none):b<h.nx:=by
 rcases Ui b _ with h1|h1;. omega
 .exact absurd (hi.Rm b h1 hb) hn
def Hh{b:Nat}{e:SE}{r:AO}(hi:Om h)(B:SOk σ w)(Q:V1 G σ h.m.get w)(hb:σ b=some e)(E:h.m.get b=J)(D:J≠.none)(O:∀n,J≠.Fb n)
 (hc:Ej J=none) (Wh:Ej r=none) (hk:e.k=none) (A4d:∀n,r≠.Fb n) (hr:Gr G σ (h.put b r).m.get e (Cc w e.c I) r):
 Out G σ h w σ (h.put b r) (Cc w e.c I):=by
 have o:=B.low b e hb;have C:=Ab7 hi o (by rw[E];exact D);have p:=λj hj=>Ph h b r o j hj;have q:M2 r=none:=by cases r with
  |cells l t k=>cases k<;>first|rfl|(cases Wh;done)
  |_=>rfl
 have K:∀l t k st,r≠.cells l t (.Cf k st):=by rintro l t k st rfl;cases Wh
 refine⟨[b],⟨rfl,Ye _,?_,?_,?_,?_,?_,⟨hi.top,?_,?_,?_,?_,?_⟩,λx g _ _=>by rw[T0]at g;subst g;rw[E];exact D⟩,⟨Qq.refl σ,?_,?_,?_,?_,?_,⟨rfl,rfl⟩⟩,?_⟩;. intro x g;rw[T0]at g;subst g;exact C
 .intro x h1 h2 d;rw[p x h1,X2 (λe=>d (by simp[e]))]
 .grind
 .intro x k h1 h2;exact absurd h2 (by show ¬ x<h.nx;omega)
 .grind
 .intro x h1 h2;rw[p x h2,X2 (by have:h.nx<=x:=h1;omega)];exact hi.Rm x h1 h2
 .intro x k h1 h2;rw[p x h1]at h2;split at h2;. rw[Wh]at h2;cases h2
  .obtain⟨d,n,i⟩:=hi.N3 x k h1 h2;refine⟨d,n,?_⟩;have u:k<Bq:=by have:=hi.top;omega
   grind
 .intro x y k h1 h2 d i;rw[p x h1]at d;rw[p y h2]at i;split at d;. rw[q]at d;cases d
  .split at i;. rw[q]at i;cases i
   .exact hi.Gt x y k h1 h2 d i
 .intro x l t k st n h1 h2 d;rw[p x h1]at h2;split at h2;. exact absurd h2 (K _ _ _ _)
  .obtain⟨S,R,T⟩:=hi.N3 x k h1 (by rw[h2];rfl);have u:k<Bq:=by have:=hi.top;omega
   rw[p k u]at d;split at d;. exact absurd d (A4d n)
   .exact hi.Tx x l t k st n h1 h2 d
 .intro x y l t k st l2 t2 h1 h2 d i;rw[p x h1]at d;rw[p y h2]at i;split at d;. exact absurd d (K _ _ _ _)
  .split at i;. rw[i]at q;cases q
   .exact hi.len x y l t k st l2 t2 h1 h2 d i
 .intro x s h1 h2;rw[h1]at h2;cases h2
 .exact⟨B.inj,λx s g=>by rw[Mr];exact B.rng x s g,B.low⟩
 .rw[Mr];exact Ye _
 .intro c h1 h2;rw[Da,X2];rintro ⟨rfl,_⟩;exact h2 b (by simp) e hb rfl
 .intro x s h1 h2;rw[h1]at h2;cases h2
 .intro x s g;have F:=B.low x s g;rw[p x F];by_cases A:x=b;. subst A;rw[Xo rfl];rw[hb]at g;cases g;exact hr
  .rw[X2 A];have z:s.c≠e.c:=by
    intro z;rcases B.inj x b s e g hb z with h1|⟨h1,h2⟩;. exact A h1
    .rw[h1,hk]at h2;exact h2 rfl
   refine Gr.congr (Qq.refl σ) (by rw[Da,X2 (λM=>z M.1)]) ?_ (Q x s g);intro l t k st L U;have u:k<Bq:=by have:=(hi.N3 x k F (by rw[L];rfl)).1;have:=hi.top;omega
   grind
def AhV{c k d}{off}{arr}{b}(g:Ng c d off=some k)(l:c.length<=arr.size)(j:Bk σ d b)
 (hr:∀(i:Nat) x y,c[i]?=some x->arr[i]?=some y->Au σ x y):∀(i:Nat) x y,k[i]?=some x->(J9 arr off b)[i]?=some y->Au σ x y:=by
 intro i x y e hy;obtain⟨h1,_⟩:=Ns g;have h2:=j.1;rw[AhU g]at e;rw[Nz om]at hy;by_cases hj:off<=i/\i<off+d.length;. rw[Xo hj]at e;rw[Xo om]at hy;exact j.2 _ x y e hy
 grind
def AiL{b off}{l}(q:h.wr b off l=.ok h'):
 (∃c t g,h.m.get b=cd c t/\Ng c l off=some g/\h'=h.put b (cd g t)) \/
 ∃c t k n g,h.m.get b=.cells c t (.Gt k)/\h.m.get k=.Fb n/\Ng c l off=some g/\h'=(h.put b (.cells g t (.Gt k))).put k (.Fb (n+1)):=by have e:wrO _ b _ _ h=.ok _:=q;cases p:h.m.get b with
 |cells c t k=>rw[p]at e;have i:=e;cases k with
  |exact=>have d:wrL _ b t h=.ok _:=i;cases j:Ng c .. with
   |none=>rw[j]at d;cases d
   |some g=>rw[j]at d;cases d;grind
  |Gt o=>
   have d:wrT _ _ _ b t h=.ok _:=i;unfold wrT at d;split at d
   .rename_i g n j hn;have:h.m.get o=.Fb n:=by cases hq:h.m.get _<;>rw[hq]at hn<;>cases hn;rfl
    grind
   grind
  |fz o=>cases i
  |Cf o st=>cases i
 |_=>rw[p]at e;cases e
def Ys{b k n s:Nat}{u:uz}{t:TypeId}{q:CK}{ob:Obj}(hi:Om h)(L:SOk σ w)(X:V1 G σ h.m.get w)(hb:σ b=some p)
 (ho:h.m.get b=.cells o t (.Gt k)) (S3:h.m.get k=.Fb n) (hkk:(q=.Gt k/\s=n+1)\/(q=.fz k/\s=n/\∀x y,σ x=some y->y.c=p.c->x≠b->∀o t st,h.m.get x=.cells o t (.Cf k st)->Gr G σ h.m.get y (Cc w p.c ob) (h.m.get x)))
 (S4:u.length=o.length) (hr:Gr G σ ((h.put b (.cells u t q)).put k (.Fb s)).m.get p (Cc w p.c ob) (.cells u t q)):
 Out G σ h w σ ((h.put b (.cells u t q)).put k (.Fb s)) (Cc w p.c ob):=by
 have T:=L.low b p hb;have hbn:=Ab7 hi T (by rw[ho];simp);obtain⟨A3T,_⟩:=hi.N3 b k T (by rw[ho];rfl);have F:k<Bq:=by have:=hi.top;omega
 have hkb:k≠b:=by rintro rfl;rw[ho]at S3;cases S3
 have Vb:Ahd q=some k:=by rcases hkk with⟨rfl,_⟩|⟨rfl,_⟩<;>rfl
 have S:M2 (.cells u t q)=some k:=by rcases hkk with⟨rfl,_⟩|⟨rfl,_⟩<;>rfl
 have O:∀l2 t2 d st,AO.cells u t q≠.cells l2 t2 (.Cf d st):=by rintro l2 t2 d st hh;rcases hkk with⟨rfl,_⟩|⟨rfl,_⟩<;>cases hh
 have Zo:n<=s:=by rcases hkk with⟨_,rfl⟩|⟨_,rfl,_⟩<;>omega
 have A:p.k=some k:=by have:=X b p hb;rw[ho]at this;exact this.1
 have r:∀j,j<Bq->((h.put b (.cells u t q)).put k (.Fb s)).m.get j=if j=k then .Fb s else if j=b then .cells u t q else h.m.get j:=by intro j hj;rw[Ph _ _ _ F j hj,Ph _ _ _ T j hj]
 generalize U:(h.put b (.cells u t q)).put k (.Fb s)=h' at *
 have hnx:h'.nx=h.nx:=by rw[<- U];rfl
 have hlg:h'.lg=[k,b]++h.lg:=by rw[<- U];rfl
 refine⟨[k,b],⟨hlg,by omega,?_,?_,?_,?_,?_,⟨by rw[hnx];exact hi.top,?_,?_,?_,?_,?_⟩,λx e _ _=>by simp at e;rcases e with rfl|rfl;(rw[S3];simp);(rw[ho];simp)⟩,⟨Qq.refl σ,?_,?_,?_,?_,?_,⟨rfl,rfl⟩⟩,?_⟩
 .intro x e;simp at e;rcases e with rfl|rfl<;>omega
 .intro x h1 h2 g;simp at g;rw[r x h1,X2 g.1,X2 g.2]
 .intro x e d h1 h2;simp at e;rcases e with rfl|rfl
  .rw[S3]at h2;cases h2
  .rw[ho]at h2;cases h2;simp
 .intro x d h1 h2;omega
 .intro x d h1 h2 g;rw[r x h2]at g;split at g
  .cases g
  .split at g
   .rename_i _ l;subst l;rw[ho];rw[show Ej (.cells u t q)=Ahd q from rfl,Vb]at g
    exact g
   .exact g
 .intro x h1 h2;rw[r x h2,X2 om,X2 om];exact hi.Rm x om h2
 .intro x d h1 h2;rw[r x h1]at h2;have key:d=k\/Ej (h.m.get x)=some d:=by
   split at h2
   .cases h2
   .split at h2
    .rw[show Ej (.cells u t q)=Ahd q from rfl,Vb]at h2
     cases h2;exact .inl rfl
    .exact .inr h2
  rcases key with rfl|g
  .exact⟨by omega,s,by rw[r _ F,Xo rfl]⟩
  .obtain⟨g1,m,g2⟩:=hi.N3 x d h1 g;refine⟨by omega,?_⟩;rw[r d (by have:=hi.top;omega)]
   by_cases hq:d=k
   .exact⟨s,by rw[Xo hq]⟩
   .rw[X2 hq,X2 (λp=>by subst p;rw[ho]at g2;cases g2)];exact⟨m,g2⟩
 .intro x y d h1 h2 g D;rw[r x h1]at g;rw[r y h2]at D;have tr:∀z,M2 (if z=k then .Fb s else if z=b then .cells u t q else h.m.get z)=some d->M2 (h.m.get z)=some d:=by
   intro z hz;split at hz
   .cases hz
   .split at hz
    .rename_i _ hzb;subst hzb;rw[S]at hz;rw[ho];exact hz
    .exact hz
  exact hi.Gt x y d h1 h2 (tr x g) (tr y D)
 .intro x l2 t2 d st m h1 h2 g;rw[r x h1]at h2;split at h2
  .cases h2
  .split at h2
   .exact absurd h2 (O _ _ _ _)
   .obtain⟨g1,m2,g2⟩:=hi.N3 x d h1 (by rw[h2];rfl);rw[r d (by have:=hi.top;omega)]at g
    split at g
    .rename_i hq;subst hq;cases g;have:=hi.Tx x l2 t2 d st n h1 h2 S3;omega
    .split at g
     .cases g
     .exact hi.Tx x l2 t2 d st m h1 h2 g
 .intro x y l2 t2 d st l3 t3 h1 h2 g D;rw[r x h1]at g;rw[r y h2]at D;split at g
  .cases g
  .split at g
   .exact absurd g (O _ _ _ _)
   .split at D
    .cases D
    .split at D
     .rename_i _ hyb;subst hyb;cases D;have:d=k:=by have:=S;simp[M2]at this;exact this
      subst this;rw[S4];exact hi.len x _ l2 t2 _ st o _ h1 h2 g ho
     .exact hi.len x y l2 t2 d st l3 t3 h1 h2 g D
 .intro x B h1 h2;rw[h1]at h2;cases h2
 .exact⟨L.inj,λx B e=>by rw[Mr];exact L.rng x B e,L.low⟩
 .rw[Mr];exact Ye _
 .intro c h1 h2;rw[Da,X2];rintro ⟨rfl,_⟩;exact h2 b (by simp) p hb rfl
 .intro x B h1 h2;rw[h1]at h2;cases h2
 .intro x B e;have K:=L.low x B e;rw[r x K];by_cases J:x=k
  .rw[Xo J];subst J;have R:=X _ _ e;rw[S3]at R;exact R
  rw[X2 J];by_cases l:x=b
  .subst l;rw[Xo rfl];rw[hb]at e;cases e;exact hr
  .rw[X2 l];have S7:∀l2 t2 d st,h.m.get x=.cells l2 t2 (.Cf d st)->h'.m.get d=.Fb st->h.m.get d=.Fb st:=by
    intro l2 t2 d st hl E;have M:d<Bq:=by have:=(hi.N3 x d K (by rw[hl];rfl)).1;have:=hi.top;omega
    rw[r d M]at E;split at E
    .rename_i hq;subst hq;cases E;have:=hi.Tx x l2 t2 d s n K hl S3;have:s=n:=by omega
     rw[this];exact S3
    .split at E
     .cases E
     .exact E
   by_cases I:B.c=p.c
   .rcases L.inj x b B p e hb I with h1|⟨h1,h2⟩
    .exact absurd h1 l
    .have C:=X x B e;cases i:h.m.get x with
     |none=>trivial
     |Fb m=>rw[i]at C;have h9:B.k=none:=C;rw[h1,A]at h9;cases h9
     |map es=>rw[i]at C;have h9:=C.1;rw[h1,A]at h9;cases h9
     |loop a1 a2 V W a5 a6=>rw[i]at C;have h9:=C.1;rw[h1,A]at h9;cases h9
     |dfr tk=>rw[i]at C;have h9:=C.1;rw[h1,A]at h9;cases h9
     |cells l2 t2 d=>
      rw[i]at C;have M:Ahd d=some k:=by rw[<- C.1,h1,A]
      cases d with
      |exact=>cases M
      |Gt kx=>cases M;exact absurd (hi.Gt x b k K T (by rw[i];rfl) (by rw[ho];rfl)) l
      |fz kx=>cases M;exact absurd (hi.Gt x b k K T (by rw[i];rfl) (by rw[ho];rfl)) l
      |Cf kx st=>
       cases M;rcases hkk with⟨_,rfl⟩|⟨_,rfl,hfz⟩
       .refine⟨C.1,λE=>?_⟩;have Q:h'.m.get k=.Fb st:=E;rw[r k F,Xo rfl]at Q;cases Q;have:=hi.Tx x l2 t2 k (n+1) n K i S3;omega
       .have:=hfz x B e I l l2 t2 st i;rw[i]at this;exact Gr.congr (Qq.refl σ) rfl (λa1 a2 V W Y e6=>S7 a1 a2 V W (by rw[i];exact Y) e6) this
   .refine Gr.congr (Qq.refl σ) (by rw[Da,X2 (λhh=>I hh.1)]) (λa1 a2 V W Y e6=>S7 a1 a2 V W Y e6) (X x B e)
def Agp{b off:Nat}{d:List Value}(F:h.wr b off o=.ok h')(hi:Om h)(B:SOk σ w)(q:V1 G σ h.m.get w)(hb:σ b=some p)(x:Bk σ o d)
 (AdM:∀u∈d,u.oneCell'=true):
 ∃w',(storeCells ⟨p.c,off,none⟩ d).run P w=.ok () w'/\Out G σ h w σ h' w':=by
 have K:=x.1;rcases AiL F with⟨c,t,D,y,l,rfl⟩|⟨c,t,k,n,D,y,E,l,rfl⟩
 .have i:=q b p hb;rw[y]at i;obtain⟨arr,lo,g,h1,h2,I,s,z,r⟩:=i.2 trivial;obtain⟨g1,_⟩:=Ns l;have A:=z rfl;have e:off+d.length<=arr.size:=by omega
  refine⟨_,Nl P p.c off t lo g d 0 arr w h1 (by simpa using e) (λj C J=>r trivial j om) AdM,?_⟩;refine Hh hi B q hb y (by simp) (by simp) rfl rfl i.1 (by simp) ?_;refine⟨i.1,λ_=>⟨J9 arr (off+0) d,lo,g,?_,?_,?_,?_,?_,?_⟩⟩;. rw[Da,Xo ⟨rfl,Dj h1⟩]
  .rw[O2 (by simpa using e)];exact h2
  .simp_all;omega
  .simp only[Vw];exact AhV l om x s
  .grind
  .exact r
 .have i:=q b p hb;rw[y]at i;obtain⟨arr,lo,g,h1,h2,I,s,z,r⟩:=i.2 trivial;obtain⟨g1,_⟩:=Ns l;have e:off+d.length<=arr.size:=by omega
  refine⟨_,Nl P p.c off t lo g d 0 arr w h1 (by simpa using e) (λj C J=>r trivial j om) AdM,?_⟩;refine Ys hi B q hb y E (.inl ⟨rfl,rfl⟩) (Mi l) ?_;refine⟨i.1,λ_=>⟨J9 arr (off+0) d,lo,g,?_,?_,?_,?_,?_,?_⟩⟩;. rw[Da,Xo ⟨rfl,Dj h1⟩]
  .rw[O2 (by simpa using e)];exact h2
  .grind
  .simp only[Vw];exact AhV l om x s
  simp_all;omega
def Gu(σ:Dx)(b:Nat)(e:SE):Dx:=λx=>if x=b then some e else σ x
def Ip{b}{e}(hb:σ b=none):Qq σ (Gu σ b e):=by intro x d c;unfold Gu;grind
def Lq w o j(hj:j<w.heap.size):(Dd w o).heap[j]?=w.heap[j]?:=by show(w.heap.push o)[j]?=_;grind
def F1 w o:(Dd w o).heap[w.heap.size]?=some o:=by show(w.heap.push o)[w.heap.size]?=_;simp
def size_push w o:(Dd w o).heap.size=w.heap.size+1:=by show(w.heap.push o).size=_;simp
def SOk.push{b}{e}(d:SOk σ w) ob(hb:b<Bq)(i:e.c=w.heap.size):SOk (Gu σ b e) (Dd w ob):=by
 refine⟨?_,?_,?_⟩
 .intro x y e1 j h1 h2 g;unfold Gu at h1 h2;split at h1
  .cases h1;split at h2;. grind
   .have:=d.rng y _ h2;omega
  .split at h2;. cases h2;have:=d.rng x _ h1;omega
   .exact d.inj x y _ _ h1 h2 g
 .intro x e1 h1;rw[size_push];unfold Gu at h1;split at h1;. grind
  .have:=d.rng x _ h1;omega
 .intro x e1 h1;unfold Gu at h1;split at h1;. omega
  .exact d.low x _ h1
def Yf(hi:Om h)(A:SOk σ w)(L:V1 G σ h.m.get w)(z:h.nx<Bq)(E:σ h.nx=none)(B:Ej J=none)(M:p.c=w.heap.size)
 (hr:Gr G (Gu σ h.nx p) (h.new J).m.get p (Dd w I) J):Out G σ h w (Gu σ h.nx p) (h.new J) (Dd w I):=by
 have g:=λj hj=>Ni h J z j hj;have o:M2 J=none:=by cases J with
  |cells l t k=>cases k<;>first|rfl|(cases B;done)
  |_=>rfl
 have e:∀l t k st,J≠.cells l t (.Cf k st):=by rintro l t k st rfl;cases B
 have K:(h.new J).nx=h.nx+1:=rfl;have C:∀x k,x<Bq->Ej (h.m.get x)=some k->k<h.nx/\k≠h.nx/\k<Bq:=by intro x k h1 h2;have:=(hi.N3 x k h1 h2).1;omega
 refine⟨[],⟨rfl,by omega,λb hb=>(by cases hb),?_,λb hb=>(by cases hb),?_,?_,⟨by omega,?_,?_,?_,?_,?_⟩,λb hb=>(by cases hb)⟩,⟨Ip E,?_,A.push I z M,?_,?_,?_,⟨rfl,rfl⟩⟩,?_⟩;. intro x h1 h2 _;rw[g x h1,X2 om]
 .grind
 .intro x k h1 h2 d;rw[g x h2,X2 om]at d;exact d
 .intro x h1 h2;rw[g x h2,X2 om];exact hi.Rm x om h2
 .intro x k h1 h2;rw[g x h1]at h2;split at h2;. rw[B]at h2;cases h2
  .obtain⟨d,n,i⟩:=hi.N3 x k h1 h2;grind
 .intro x y k h1 h2 d i;rw[g x h1]at d;rw[g y h2]at i;split at d;. rw[o]at d;cases d
  .split at i;. rw[o]at i;cases i
   .exact hi.Gt x y k h1 h2 d i
 .intro x l t k st n h1 h2 d;rw[g x h1]at h2;split at h2;. exact absurd h2 (e _ _ _ _)
  .have:=C x k h1 (by rw[h2];rfl);rw[g k this.2.2,X2 this.2.1]at d;exact hi.Tx x l t k st n h1 h2 d
 .intro x y l t k st l2 t2 h1 h2 d i;rw[g x h1]at d;rw[g y h2]at i;split at d;. exact absurd d (e _ _ _ _)
  .split at i;. rw[i]at o;cases o
   .exact hi.len x y l t k st l2 t2 h1 h2 d i
 .intro x u h1 h2;unfold Gu at h2;split at h2;. omega
  .rw[h1]at h2;cases h2
 .rw[size_push];omega
 .intro c h1 _;exact Lq w I c h1
 .intro x u h1 h2;unfold Gu at h2;split at h2;. cases h2;left;omega
  .rw[h1]at h2;cases h2
 .intro x u r;unfold Gu at r;split at r;. rename_i q;cases r;subst q;rw[g _ z,Xo rfl];exact hr
  .rename_i q;have D:=A.low x u r;rw[g x D,X2 q];refine Gr.congr (Ip E) (Lq w I _ (A.rng x u r)) ?_ (L x u r);intro l t k st s F;have:=C x k D (by rw[s];rfl);rw[g k this.2.2,X2 this.2.1]at F;exact F
def Bk.Zm{cs}{D7:Array _}(b:Bk σ cs D7.toList):∀(i:Nat) x y,cs[i]?=some x->D7[i]?=some y->Au σ x y:=
 λi x y c hy=>b.2 i x y c (by grind)
def Tc{cs}{D7}{t}(hi:Om h)(j:SOk σ w)(e:V1 G σ h.m.get w)(g:h.nx<Bq)(b:σ h.nx=none)(c:Bk σ cs D7.toList):
 Out G σ h w (Gu σ h.nx ⟨w.heap.size,cs.length,none⟩) (h.new (cd cs t)) (Dd w (.cells D7 t)):=by
 have d:cs.length=D7.size:=by rw[c.1];rfl
 refine Yf hi j e g b rfl rfl ⟨rfl,λ_=>⟨_,0,0,F1 w _,by grind,Ye _,λi x y k hy=>(c.Zm i x y k hy).mono (Ip b),λ_=>rfl,λ_ i _=>by simp⟩⟩
variable {w':World}
def Ae4{cs:uz}{t:TypeId}{arr:Array Value}{fz:Nat × Nat}(hi:Om h)(E:SOk σ w)(Q:V1 G σ h.m.get w)(D:h.nx+1<Bq)(A:σ h.nx=none)(C:σ (h.nx+1)=none)
 (hle:cs.length<=arr.size) (hr:∀(i:Nat) (x:AV) (y:Value),cs[i]?=some x->arr[i]?=some y->Au σ x y) (hfz:∀i,i<arr.size->¬ (fz.1<=i/\i<fz.2)):
 Out G σ h w (Gu σ (h.nx+1) ⟨w.heap.size,arr.size,some h.nx⟩) ((h.new (.Fb 0)).new (.cells cs t (.Gt h.nx))) (Dd w (.cells arr t fz)):=by
 have g:∀j,j<Bq->((h.new (.Fb 0)).new (.cells cs t (.Gt h.nx))).m.get j=if j=h.nx+1 then .cells cs t (.Gt h.nx)else if j=h.nx then .Fb 0 else h.m.get j:=by intro j hj;rw[Ni _ _ (show(h.new (.Fb 0)).nx<Bq from D) j hj,Ni _ _ om j hj];rfl
 generalize u:(h.new (.Fb 0)).new (.cells cs t (.Gt h.nx))=h' at *;have M:h'.nx=h.nx+2:=by rw[<- u];rfl
 have B:h'.lg=[]++h.lg:=by rw[<- u];rfl
 have F:∀x k,x<Bq->Ej (h.m.get x)=some k->k<h.nx:=λx k h1 h2=>(hi.N3 x k h1 h2).1;have q:∀x l t k st,x<Bq->h.m.get x=.cells l t (.Cf k st)->k<h.nx:=λx l t k st h1 h2=>F x k h1 (by rw[h2];rfl);refine⟨[],⟨B,by omega,λb hb=>(by cases hb),?_,λb hb=>(by cases hb),?_,?_,⟨by omega,?_,?_,?_,?_,?_⟩,λb hb=>(by cases hb)⟩,⟨Ip C,?_,E.push _ D rfl,?_,?_,?_,⟨rfl,rfl⟩⟩,?_⟩;. intro x h1 h2 _;rw[g x h1,X2 om,X2 om]
 .intro x k h1 h2 e d;rw[g x e]at d;split at d;. cases d;exact .inr (Ye _)
  .split at d;. cases d
   .omega
 .intro x k h1 h2 e;rw[g x h2,X2 om,X2 om]at e;exact e
 .intro x h1 h2;rw[g x h2,X2 om,X2 om];exact hi.Rm x om h2
 .intro x k h1 h2;rw[g x h1]at h2;split at h2;. cases h2;exact⟨by omega,0,by rw[g _ om,X2 om,Xo rfl]⟩
  .split at h2;. cases h2
   .obtain⟨e,n,d⟩:=hi.N3 x k h1 h2;refine⟨by omega,n,?_⟩;rw[g k om,X2 om,X2 om];exact d
 .intro x y k h1 h2 e d;rw[g x h1]at e;rw[g y h2]at d;have Cf:∀z,z<Bq->M2 (h.m.get z)=some k->k<h.nx:=by intro z hz p;refine F z k hz ?_;cases hq:h.m.get z with
   |cells l2 t2 R=>rw[hq]at p;cases R<;>cases p<;>rfl
   |_=>rw[hq]at p;cases p
  split at e
  .cases e;split at d;. omega
   .split at d;. cases d
    .have:=Cf y h2 d;omega
  .split at e;. cases e
   .split at d;. cases d;have:=Cf x h1 e;omega
    .split at d;. cases d
     .exact hi.Gt x y k h1 h2 e d
 .intro x l2 t2 k st n h1 h2 e;rw[g x h1]at h2;split at h2;. cases h2
  .split at h2;. cases h2
   .have:=q x l2 t2 k st h1 h2;rw[g k om,X2 om,X2 om]at e;exact hi.Tx x l2 t2 k st n h1 h2 e
 .intro x y l2 t2 k st l3 K h1 h2 e d;rw[g x h1]at e;rw[g y h2]at d;split at e;. cases e
  .split at e;. cases e
   .have:=q x l2 t2 k st h1 e;split at d;. cases d;omega
    .split at d;. cases d
     .exact hi.len x y l2 t2 k st l3 K h1 h2 e d
 .intro x s h1 h2;unfold Gu at h2;split at h2;. omega
  .rw[h1]at h2;cases h2
 .rw[size_push];omega
 .intro c h1 _;exact Lq w _ c h1
 .intro x s h1 h2;unfold Gu at h2;split at h2;. cases h2;left;exact Ye _
  .rw[h1]at h2;cases h2
 .intro x s o;unfold Gu at o;split at o;. rename_i r;cases o;subst r;rw[g _ D,Xo rfl];exact⟨rfl,λ_=>⟨arr,fz.1,fz.2,F1 w _,rfl,hle,λi x y o hy=>(hr i x y o hy).mono (Ip C),λO=>(by cases O),λ_ i S=>hfz i S⟩⟩
  .rename_i r;have I:=E.low x s o;rw[g x I,X2 r];split;. rename_i T;rw[T,A]at o;cases o
   .refine Gr.congr (Ip C) (Lq w _ _ (E.rng x s o)) ?_ (Q x s o);intro l2 t2 k st L J;have:=q x l2 t2 k st I L;rw[g k om,X2 om,X2 om]at J;exact J
def AiI{b k st:Nat}{L:SE}{cs:uz}{t:TypeId}(hi:Om h)(hs:SOk σ w)(hm:V1 G σ h.m.get w)(hb:σ b=some p)(s:h.m.get b=.cells o t (.Gt k))(T:h.m.get k=.Fb st)
 (hl:h.nx<Bq) (hf:σ h.nx=none) (X3:o.length<=cs.length) (Bem:L.k=some k) (hs':SOk (Gu σ h.nx L) w') (Ae9:w.heap.size<=w'.heap.size) (hio:w'.os=w.os/\w'.output=w.output)
 (Aqv:∀j,j<w.heap.size->j≠p.c->w'.heap[j]?=w.heap[j]?) (AyM:w.heap.size<=L.c\/L.c=p.c)
 (hold:∃(arr E:Array Value) (fz:Nat × Nat),w.heap[p.c]?=some (.cells arr t fz)/\w'.heap[p.c]?=some (.cells E t fz)/\E.size=arr.size/\∀i,i<o.length->E[i]?=arr[i]?)
 (Na:Gr G (Gu σ h.nx L) (((h.put b (.cells o t (.Cf k st))).put k (.Fb st)).new (.cells cs t (.Gt k))).m.get L w' (.cells cs t (.Gt k))):
 Out G σ h w (Gu σ h.nx L) (((h.put b (.cells o t (.Cf k st))).put k (.Fb st)).new (.cells cs t (.Gt k))) w':=by
 have K:=hs.low b p hb;have hbn:=Ab7 hi K (by rw[s];simp);obtain⟨A3T,_⟩:=hi.N3 b k K (by rw[s];rfl);have hkl:k<Bq:=by omega
 have hkb:k≠b:=by rintro rfl;rw[s]at T;cases T
 have F:p.k=some k:=by have:=hm b p hb;rw[s]at this;exact this.1
 have D:∀j,j<Bq->(((h.put b (.cells o t (.Cf k st))).put k (.Fb st)).new (.cells cs t (.Gt k))).m.get j=if j=h.nx then .cells cs t (.Gt k)else if j=b then .cells o t (.Cf k st)else h.m.get j:=by
  intro j hj;rw[Ni _ _ (show((h.put b (.cells o t (.Cf k st))).put k (.Fb st)).nx<Bq from hl) j hj,Ph _ _ _ hkl j hj,Ph _ _ _ K j hj]
  show(if j=h.nx then _ else _)=_;by_cases W:j=k
  .subst W;rw[X2 om,Xo rfl,X2 om,X2 hkb,T]
  .rw[X2 W]
 generalize hh':(((h.put b (.cells o t (.Cf k st))).put k (.Fb st)).new (.cells cs t (.Gt k)))=h' at *
 have hnx:h'.nx=h.nx+1:=by rw[<- hh'];rfl
 have hlg:h'.lg=[k,b]++h.lg:=by rw[<- hh'];rfl
 have Y:∀x l t k st,x<Bq->h.m.get x=.cells l t (.Cf k st)->k<h.nx:=λx l t k st h1 h2=>(hi.N3 x k h1 (by rw[h2];rfl)).1;have I:∀j,j<h.nx->j≠b->h'.m.get j=h.m.get j:=by intro j h1 h2;rw[D j om,X2 om,X2 h2]
 have A3O:h'.m.get k=.Fb st:=by rw[I k A3T hkb];exact T
 have S:∀d n,h.m.get d=.Fb n->d≠b:=by rintro d n h1 rfl;rw[s]at h1;cases h1
 refine⟨[k,b],⟨hlg,by omega,?_,?_,?_,?_,?_,⟨by omega,?_,?_,?_,?_,?_⟩,λx e _ _=>by simp at e;rcases e with rfl|rfl;(rw[T];simp);(rw[s];simp)⟩,⟨Ip hf,?_,hs',Ae9,?_,?_,hio⟩,?_⟩
 .intro x e;simp at e;rcases e with rfl|rfl<;>omega
 .intro x h1 h2 g;simp at g;exact I x h2 g.2
 .intro x e d h1 h2;simp at e;rcases e with rfl|rfl
  .rw[T]at h2;cases h2
  .rw[s]at h2;cases h2;simp
 .intro x d h1 h2 g B;have:x=h.nx:=by omega
  subst this;rw[D _ g,Xo rfl]at B;cases B;simp
 .intro x d h1 h2 g;rw[D x h2,X2 om]at g;split at g
  .rename_i A;subst A;rw[s];exact g
  .exact g
 .intro x h1 h2;rw[D x h2,X2 om,X2 om];exact hi.Rm x om h2
 .intro x d h1 h2;rw[D x h1]at h2;have key:d=k\/Ej (h.m.get x)=some d:=by
   split at h2
   .cases h2;exact .inl rfl
   .split at h2
    .cases h2;exact .inl rfl
    .exact .inr h2
  rcases key with rfl|g
  .exact⟨by omega,st,A3O⟩
  .obtain⟨g1,n,g2⟩:=hi.N3 x d h1 g;exact⟨by omega,n,by rw[I d g1 (S d n g2)];exact g2⟩
 .intro x y d h1 h2 g B;rw[D x h1]at g;rw[D y h2]at B;have tr:∀z,z<Bq->M2 (if z=h.nx then .cells cs t (.Gt k)else if z=b then .cells o t (.Cf k st)else h.m.get z)=some d->(z=h.nx/\d=k)\/(z≠b/\M2 (h.m.get z)=some d):=by
   intro z hz J;split at J
   .cases J;exact .inl ⟨by assumption,rfl⟩
   .split at J
    .cases J
    .exact .inr ⟨by assumption,J⟩
  have un:∀z,z<Bq->z≠b->M2 (h.m.get z)=some k->False:=λz hz h5 h6=>h5 (hi.Gt z b k hz K h6 (by rw[s];rfl));rcases tr x h1 g with⟨q1,M⟩|⟨q1,M⟩<;>rcases tr y h2 B with⟨r1,r2⟩|⟨r1,r2⟩
  .omega
  .subst M;exact(un y h2 r1 r2).elim
  .subst r2;exact(un x h1 q1 M).elim
  .exact hi.Gt x y d h1 h2 M r2
 .intro x l2 t2 d s2 n h1 h2 g;rw[D x h1]at h2;split at h2
  .cases h2
  .split at h2
   .cases h2;rw[A3O]at g;cases g;exact Ye _
   .have q:=Y x l2 t2 d s2 h1 h2;obtain⟨_,n0,M⟩:=hi.N3 x d h1 (by rw[h2];rfl);rw[I d q (S d n0 M)]at g;exact hi.Tx x l2 t2 d s2 n h1 h2 g
 .intro x y l2 t2 d s2 l3 t3 h1 h2 g B;rw[D x h1]at g;rw[D y h2]at B;split at B
  .cases B;split at g;. cases g
   .split at g;. cases g;exact X3
    .have:=hi.len x b l2 t2 k s2 o t h1 K g s;omega
  .split at B;. cases B
   .split at g;. cases g
    .split at g;. cases g;rename_i q _ _;exact absurd (hi.Gt y b k h2 K (by rw[B];rfl) (by rw[s];rfl)) q
     .exact hi.len x y l2 t2 d s2 l3 t3 h1 h2 g B
 .intro x e1 h1 h2;unfold Gu at h2;split at h2;. omega
  .rw[h1]at h2;cases h2
 .intro j h1 h2;exact Aqv j h1 (λC=>h2 b (by simp) p hb C.symm)
 .intro x e1 h1 h2;unfold Gu at h2;split at h2
  .cases h2;rcases AyM with g|g;. exact .inl g
   .exact .inr ⟨b,by simp,p,hb,g.symm⟩
  .rw[h1]at h2;cases h2
 .intro x e1 e;unfold Gu at e;split at e;. rename_i R;cases e;subst R;rw[D _ hl,Xo rfl];exact Na
  .rename_i R;have U:=hs.low x e1 e;rw[D x U,X2 R];obtain⟨arr,E,fz,a1,a2,a3,a4⟩:=hold;have AlJ:∀(y:SE) (l2:uz) (t2:TypeId) (d:CK),y.c=p.c->l2.length<=o.length->(∀q,d≠.exact/\(A5v d->q))->Gr G σ h.m.get y w (.cells l2 t2 d)->(Adp h'.m.get d->Adp h.m.get d)->Gr G (Gu σ h.nx L) h'.m.get y w' (.cells l2 t2 d):=by intro y l2 t2 d hy hlen X r S7;refine⟨r.1,λV=>?_⟩;obtain⟨ar,lo,Q,c1,c2,c3,c4,c5,c6⟩:=r.2 (S7 V);rw[hy,a1]at c1;cases c1;refine⟨E,lo,Q,by rw[hy];exact a2,by omega,c3,?_,λC=>absurd C (X False).1,λC=>((X False).2 C).elim⟩;intro i u z hu hz;have B6:=(Xh.1 hu).1;rw[a4 i om]at hz;exact(c4 i u z hu hz).mono (Ip hf)
   by_cases A:x=b
   .subst A;rw[Xo rfl];rw[hb]at e;cases e;have r:=hm x p hb;rw[s]at r;have A8r:Gr G σ h.m.get p w (.cells o t (.Cf k st)):=by obtain⟨ar,lo,Q,c1,c2,c3,c4,c5,c6⟩:=r.2 trivial;exact⟨r.1,λ_=>⟨ar,lo,Q,c1,c2,c3,c4,λC=>(by cases C),λC=>C.elim⟩⟩
    exact AlJ p o t _ rfl (Ye _) (λq=>⟨by simp,λC=>C.elim⟩) A8r (λ_=>T)
   .rw[X2 A];have S7:∀l2 t2 d s2,h.m.get x=.cells l2 t2 (.Cf d s2)->h'.m.get d=.Fb s2->h.m.get d=.Fb s2:=by intro l2 t2 d s2 P4 V;have q:=Y x l2 t2 d s2 U P4;obtain⟨_,n0,M⟩:=hi.N3 x d U (by rw[P4];rfl);rw[I d q (S d n0 M)]at V;exact V
    by_cases O:e1.c=p.c
    .rcases hs.inj x b e1 p e hb O with h1|⟨h1,h2⟩;. exact absurd h1 A
     .have r:=hm x e1 e;cases c:h.m.get x with
      |none=>trivial
      |Fb m=>rw[c]at r;have h9:e1.k=none:=r;rw[h1,F]at h9;cases h9
      |map es=>rw[c]at r;have h9:=r.1;rw[h1,F]at h9;cases h9
      |loop a1 a2 a3 a4 a5 a6=>rw[c]at r;have h9:=r.1;rw[h1,F]at h9;cases h9
      |dfr tk=>rw[c]at r;have h9:=r.1;rw[h1,F]at h9;cases h9
      |cells l2 t2 d=>
       rw[c]at r;have Z0:Ahd d=some k:=by rw[<- r.1,h1,F]
       cases d with
       |exact=>cases Z0
       |Gt kx=>cases Z0;exact absurd (hi.Gt x b k U K (by rw[c];rfl) (by rw[s];rfl)) A
       |fz kx=>cases Z0;exact absurd (hi.Gt x b k U K (by rw[c];rfl) (by rw[s];rfl)) A
       |Cf kx s2=>cases Z0;exact AlJ e1 l2 t2 _ O (hi.len x b l2 t2 k s2 o t U K c s) (λq=>⟨by simp,λC=>C.elim⟩) r (λV=>S7 l2 t2 k s2 c V)
    .exact Gr.congr (Ip hf) (Aqv _ (hs.rng x e1 e) O) (λa1 a2 a3 a4 e5 e6=>S7 a1 a2 a3 a4 e5 e6) (hm x e1 e)
end Go.Ev
