/- A new array whose capacity is open; a new version of one. -/
import Derived.Test.YtecikbfimlolcaaGreatDoorEvA
import Derived.Laws.Sem
import Derived.Laws.Entries
import Derived.Laws.Strings
import Derived.Laws.StructEq
import Derived.ChangeKeysEq
import Derived.Laws.Cells
set_option linter.all false
noncomputable section
namespace Go.Ev
variable {j:Value}{o:SE}{p:Obj}{C:AO}
variable [Ii]
variable {P:Program}{G:Nat}{σ:Dx}{nt:Nat}{f:L2}{a:Act}{h h':H}{w:World}{v:AV}{Z:Ac}
def Ec{a b}(h:Nat.blt a b=true):a<b:=by simp_all
def G2{a b:Nat}(h:Nat.ble a b=true):a<=b:=by simp_all
def Ch{a b:Nat}(h:Nat.beq a b=true):a=b:=by simp_all
def Ap1{a b}(h:Nat.blt a b=false):b<=a:=by
 have:¬ Nat.blt a b=true:=by grind
 simp_all
def Axo{a b:Nat}(h:Nat.ble a b=false):b<a:=by
 have:¬ Nat.ble a b=true:=by grind
 simp_all
def Ho{a b:Nat}(h:Nat.beq a b=false):a≠b:=by intro e;simp_all
def AbN σ:∀d v,Au σ (App d v) v:=by intro d;induction d with
|zero=>intro v;exact .top v
|succ d b=>intro v;unfold App;split;all_goals first|exact .bool _|exact .int ..|exact .str _|exact .Ob|exact .Bv|exact .Td|exact .Iy|exact .B3|exact .I6 _ _ _ (b _)|exact .top _|skip;refine .agg _ _ (by simp) λi x y c hy=>?_;grind
def Cj(d:Pt σ nt f a)(c:Vm G σ) x(b:Es G x=true):Au σ (ev x f) (a.eval x):=by cases x with
|tmp t=>exact d.slot t (Ec b)
|const v=>exact AbN _ 5 v
|global g=>obtain⟨e,h1,h2⟩:=c g (Ec b);have:=Au.ptr g 0 e h1;rw[h2]at this;exact this
|func g=>exact .fn _ _ _ _ _ λl=>by simp rfl λi x y b _=>by grind rfl λi x y b _=>by grind
def Abw(e:Pt σ nt f a)(d:Vm G σ) l(b:l.all (Es G)=true):Bk σ (W1 l f) (l.map a.eval):=by induction l with
|nil=>exact Bk.nil _
|cons x l c=>simp only[List.all_cons,Em]at b;exact .cons (Cj e d x b.1) (c b.2)
def Adn{x}{b}(h:vB x=.yes b):x=.bool b:=by cases x<;>cases h;rfl
def P1{x}{k}{n}(h:vI x=.yes k n):x=.int k n:=by cases x<;>cases h;rfl
def Rj{x}{s}(h:vS x=.yes s):x=.str s:=by cases x<;>cases h;rfl
def P2{x}{b o}(h:vP x=.yes b o):x=.ptr b o:=by cases x<;>cases h;rfl
def Wv{x}(h:vP x=.nil):x=.Ob:=by cases x<;>cases h;rfl
def Ri{x}{b o l c z}{e}(h:vL x=.yes b o l c z e):x=.sl b o l c z e:=by cases x<;>cases h;rfl
def Ok{x}(h:vL x=.nil):x=.Bv:=by cases x<;>cases h;rfl
def P0{x}{cs}(h:vA x=.yes cs):x=.agg cs:=by cases x<;>cases h;rfl
def Aar{x}{cs}(h:vT x=.yes cs):x=.Bj cs:=by cases x<;>cases h;rfl
def Ago{x}{r}(h:vM x=.yes r):x=.map r:=by cases x<;>cases h;rfl
def Aaq{x}{g}{a c}(h:vF x=.yes g a c):x=.fn g a c:=by cases x<;>cases h;rfl
def Pq{x}{t}{v}(h:vIf x=.yes t v):x=.I6 t v:=by cases x<;>cases h;rfl
def Y4{x}(h:vIf x=.nil):x=.B3:=by cases x<;>cases h;rfl
def O4{x}{y}{cs}(h:cellsOf x=some cs)(d:Au σ x y):Bk σ cs y.cells.toList:=by cases d with
|top v=>cases h
|Bj cs D7 c b=>cases h
|agg cs D7 c b=>cases h;exact⟨c,b⟩
|_=>cases h;exact .cons (by constructor<;>assumption) (.nil _)
def Arz{x}{y}(h:Ge x=true)(b:Au σ x y):y.oneCell'=true:=by cases b<;>first|rfl|cases h
def Ran(P:Program)(s:Sem Next)(w:World)(v':Value)(w':World):Prop:=
 s.run P w=.ok (.value v') w'\/(s.run P w=.ok .skip w'/\v'=undef)
def Dd(w:World)(o:Obj):World:={ w with heap:=w.heap.push o }
inductive Ag4(σ:Dx)(h:H)(w:World):AV->Value->H->World->Prop where
|quiet (v:AV) (v':Value) (hv:Au σ v v'):Ag4 σ h w v v' h w
|ptr (cs:List AV) (D7:Array Value) (t:TypeId) (hc:Bk σ cs D7.toList):
 Ag4 σ h w (.ptr h.nx 0) (.pointer (some ⟨w.heap.size,0,none⟩)) (h.new (.cells cs t .exact)) (Dd w (.cells D7 t))
|sl (cs:List AV) (D7:Array Value) (t:TypeId) (len cap sz:Nat) (hle:len<=cap) (hc:Bk σ cs D7.toList):
 Ag4 σ h w (.sl h.nx 0 len cap sz true) (.slice (some ⟨w.heap.size,0,none⟩) len cap) (h.new (.cells cs t .exact)) (Dd w (.cells D7 t))
def Hm(P:Program)(G:Nat)(o:Oper):Prop:=∀(σ:Dx) (nt:Nat) (f:L2) (a:Act) (h h':H) (w:World) (v:AV) (Z:Ac),
 opD o.op o.type P Z f h=.ok v h'->o.op.operands.toList.all (Es G)=true->Pt σ nt f a->Vm G σ ->
 ∃v' w',Ran P (execOp a.eval o) w v' w'/\Ag4 σ h w v v' h' w'
section ops
variable {dst:Option Tmp}{ty:TypeId}{pos:String}{af:Array Edge}{gd:Option (Nat × Bool)}
def B4{v v'}{h h'}(e:OR.ok v h=.ok v' h'):v=v'/\h=h':=by grind
def Ae1 x:Hm P G ⟨dst,.move x,ty,pos,af,gd⟩:=by intro σ nt f a h h' w v Z c De d b;obtain⟨rfl,rfl⟩:=B4 c;exact⟨_,w,.inl rfl,.quiet _ _ (Cj d b x (by simpa[Op.operands]using De))⟩
def AaD x:Hm P G ⟨dst,.assign x,ty,pos,af,gd⟩:=by intro σ nt f a h h' w v Z c De d b;obtain⟨rfl,rfl⟩:=B4 c;exact⟨_,w,.inl rfl,.quiet _ _ (Cj d b x (by simpa[Op.operands]using De))⟩
def ArE{x y z}{h}(c:Bo x y z h=.ok v h'):∃b,x=.bool b/\v=(if b then y else z)/\h'=h:=by cases x<;>first|(cases c)|skip;rename_i b;cases b<;>cases c<;>exact⟨_,rfl,rfl,rfl⟩
def Ae2 c x y:Hm P G ⟨dst,.pick c x y,ty,pos,af,gd⟩:=by
 intro σ nt f a h h' w v Z j De g e;simp[Op.operands]at De;obtain⟨b,i,rfl,rfl⟩:=ArE j;have hc:=Cj g e c De.1;rw[i]at hc;generalize d:a.eval c=cv at hc;cases hc;refine⟨if b then a.eval x else a.eval y,w,.inl (by simp[execOp,d,asBool]),.quiet _ _ ?_⟩;cases b;. exact Cj g e y De.2.2
 .exact Cj g e x De.2.1
def Kn{t}{cs} σ(h:I1 P t=some cs):∃i z,P.info? t=some i/\i.zero=some z/\Bk σ cs z.cells.toList:=by unfold I1 Ps at h;cases hi:P.info? t with
|none=>grind
|some i=>cases b:i.zero with
 |none=>grind
 |some z=>simp[hi,b]at h;exact⟨i,z,rfl,b,O4 h (AbN _ 5 z)⟩
def AlX{cs}{e}(b:AdR cs e h=.ok v h'):∃c,cs=some c/\v=.ptr h.nx 0/\h'=h.new (.cells c e .exact):=by cases cs<;>cases b;simp
def Acn e:Hm P G ⟨dst,.alloc e,ty,pos,af,gd⟩:=by intro σ nt f a h h' w v Z d De k j;obtain⟨c,hc,rfl,rfl⟩:=AlX d;obtain⟨i,z,hi,g,b⟩:=Kn _ hc;refine⟨_,_,.inl ?_,.ptr c _ e b⟩;simp[execOp,Instr.alloc,zeroValue,typeInfo,hi,g,newVar,newRow,Dd]
def Ah4 e x:Hm P G ⟨dst,.box e x,ty,pos,af,gd⟩:=by intro σ nt f a h h' w v Z g De i d;obtain⟨c,hc,rfl,rfl⟩:=AlX g;have b:=O4 hc (Cj i d x (by simpa[Op.operands]using De));refine⟨_,_,.inl ?_,.ptr c _ e b⟩;rfl
def AbA{x}(b:Py x h=.ok v h'):x=some v/\h'=h:=by cases x<;>cases b;simp
def Aaj{x}(b:Ly x h=.ok v h'):∃cs,x=some cs/\v=.agg cs/\h'=h:=by cases x<;>cases b;simp
def Bl{c:Bool}{x y:OR}{r:OR}(b:@Bool.rec (λ_=>OR) y x c=r):(c=true/\x=r)\/(c=false/\y=r):=by
 cases c
 .exact .inr ⟨rfl,b⟩
 .exact .inl ⟨rfl,b⟩
def N0{n}(b:OR.bad n=.ok v h'):False:=by grind
def Vq x:Hm P G ⟨dst,.nilCheck x,ty,pos,af,gd⟩:=by
 intro σ nt f a h h' w v Z b De j e;have c:=Cj j e x (by simpa[Op.operands]using De);rcases Bl b with⟨hn,b⟩|⟨_,b⟩;. obtain⟨rfl,rfl⟩:=B4 b;refine⟨_,w,.inl ?_,.quiet _ _ c⟩;simp[execOp];generalize ev x f=u at *;generalize a.eval x=y at *;cases c with
   |fn g as cs i D7 d _ _ _ _=>cases g<;>first|rfl|(cases hn)
   |_=>first|rfl|(cases hn)
 grind
def Xz x i:Hm P G ⟨dst,.extract x i,ty,pos,af,gd⟩:=by
 intro σ nt f a h h' w v Z e De l j;have k:=Cj l j x (by simpa[Op.operands]using De);have b:L9 _ i h=.ok v _:=e;generalize ev x f=u at *;generalize hy:a.eval x=y at *;cases k<;>first|(cases b)|skip;rename_i cs D7 m d;obtain⟨h1,rfl⟩:=AbA (show Py _ h=.ok v _ from b);rw[Ab6]at h1;obtain⟨y,g,c⟩:=Bk.get ⟨m,d⟩ h1;refine⟨y,w,.inl ?_,.quiet _ _ c⟩;have:D7[i]?=some y:=by grind
 simp[execOp,hy,Instr.extract,this]
def Sv(t:TypeId)(x:Operand):Hm P G ⟨dst,.makeInterface t x,ty,pos,af,gd⟩:=by
 intro σ nt f a h h' w v Z b De i e;have g:=Cj i e x (by simpa[Op.operands]using De);rcases Bl b with⟨hn,b⟩|⟨_,b⟩;. obtain⟨rfl,rfl⟩:=B4 b;refine⟨_,w,.inl ?_,.quiet _ _ (.I6 t _ _ g)⟩;unfold Arb at hn;cases c:P.underlying t with
   |none=>simp_all
   |some d=>rw[c]at hn;cases d<;>first|grind|simp[execOp,Instr.makeInterface,underlying,c]
 grind
def Vp(fn:Fn)(x y:Array Operand):Hm P G ⟨dst,.makeFunc fn x y,ty,pos,af,gd⟩:=by
 intro σ nt f a h h' w v Z m De g d;simp only[Op.operands,ad,List.all_append,Em]at De;have e:=Abw g d x.toList De.1;have hy:=Abw g d y.toList De.2;have c:(∀l,fn≠.yield l)/\v=.fn fn (W1 x.toList f) (W1 y.toList f)/\h=h':=by have j:Jt fn x y ty P Z f h=.ok v h':=m;unfold Jt at j;grind
 obtain⟨k,rfl,rfl⟩:=c;refine⟨.func fn (x.map a.eval) (y.map a.eval),w,.inl (by rfl),.quiet _ _ (.fn fn _ _ _ _ k ?_ ?_ ?_ ?_)⟩;. simpa using e.1
 .intro i u v b n;exact e.2 i u v b (by grind)
 .simpa using hy.1
 .intro i u v b n;exact hy.2 i u v b (by grind)
def F3{t}{n}(h:F7 P t=some n):∃i,P.info? t=some i/\i.size=n:=by unfold F7 at h;simp_all
def Xv{t u}{i o}(h:Xu P t i=some (u,o)):∃c b,P.underlying t=some (.struct c)/\c[i]?=some b/\b.type=u/\b.offset=o:=by unfold Xu at h;grind
def Ahw{t}{i o}(h:Wa P t i=some o):∃d c b,P.underlying t=some (.struct d)/\d[i]?=some c/\P.info? c.type=some b/\b.size≠0/\c.offset=o:=by
 unfold Wa at h;split at h
 .rename_i u l g;split at h;. rename_i n e;obtain⟨d,c,h1,h2,m,p⟩:=Xv g;obtain⟨b,k,j⟩:=F3 e;simp_all
  grind
 grind
def G1 c off n:(⟨c,off,none⟩:Addr).add n=⟨c,off+n,none⟩:=by unfold Addr.add;simp
def Ss t x i:Hm P G ⟨dst,.fieldAddr t x i,ty,pos,af,gd⟩:=by intro σ nt f a h h' w v Z l De r o;have m:=Cj r o x (by simpa[Op.operands]using De);have c:@Option.rec _ (λ_=>AV->H->OR) _ _ _ _ h=.ok v _:=l;cases g:Wa P t i with
|none=>simp_all
|some d=>rw[g]at c;obtain⟨z,s,k,h1,h2,q,n,rfl⟩:=Ahw g;have j:=c;generalize ev x f=u at *;generalize hy:a.eval x=y at *;cases m<;>first|(cases j;done)|skip;rename_i b off e p;cases j;refine⟨_,w,.inl ?_,.quiet _ _ (.ptr b _ e p)⟩;simp[execOp,hy,Instr.fieldAt,underlying,h1,h2,Instr.sureAddr,fieldPlace,sizeOf,typeInfo,q,n,G1]
def Akc{t}(h:Ft P t=some none):∃d i,P.underlying t=some d/\P.info? t=some i/\(∀b,d≠.struct b)/\∀n e,d≠.array n e:=by unfold Ft at h;grind
def AhO{t}{n}(h:Ft P t=some (some n)):∃d i,P.underlying t=some d/\P.info? t=some i/\i.size=n/\((∃b,d=.struct b)\/∃k e,d=.array k e):=by unfold Ft at h;grind
def Vv{t}(h:Ft P t=some none) w:(isAgg t).run P w=.ok false w:=by obtain⟨d,i,b,hi,h1,h2⟩:=Akc h;simp only[isAgg,Sem.run_bind,run_underlying b,Result.andThen_ok];rfl
def Kj{t}{n}(h:Ft P t=some (some n)) w:(isAgg t).run P w=.ok true w/\(sizeOf t).run P w=.ok n w:=by
 obtain⟨d,i,b,hi,rfl,h1⟩:=AhO h;constructor;. simp[isAgg,Sem.run_bind,run_underlying b,Result.andThen_ok];rcases h1 with⟨c,rfl⟩|⟨k,e,rfl⟩<;>rfl
 .simp[sizeOf,typeInfo,hi]
def Mp{t:TypeId}{cs:List AV}{off:Nat}{v:AV}{D7:Array Value}(b:Hc P t cs off=some v)(hc:Bk σ cs D7.toList) w:
 ∃v',(part t D7 off).run P w=.ok v' w/\Au σ v v':=by
 unfold Hc Tn at b;split at b
 .rename_i c;rw[Ab6]at b;obtain⟨y,hy,e⟩:=hc.get b;refine⟨y,?_,e⟩;have:D7[off]?=some y:=by simp_all
  simp[part,Vv c,this]
 .rename_i n c;cases d:Nf cs off n with
  |none=>grind
  |some r=>
   simp[d]at b;subst b;obtain⟨h1,rfl,_⟩:=Js d;refine⟨.agg (D7.extract off (off+n)),?_,?_⟩;. simp[part,(Kj c w).1,(Kj c w).2]
   .have:=(hc.drop off).take n;refine .agg _ _ ?_ ?_;. rw[this.1];simp
    .intro i x y g hy;refine this.2 i x y g ?_;simp_all
 grind
def Acq t x i:Hm P G ⟨dst,.field t x i,ty,pos,af,gd⟩:=by
 intro σ nt f a h h' w v Z m De z n;have g:=Cj z n x (by simpa[Op.operands]using De);have d:Ti t x i ty P Z f h=.ok v _:=m;unfold Ti at d;split at d;. rename_i cs j o e b;obtain⟨h1,rfl⟩:=AbA d;rw[P0 e]at g;generalize hy:a.eval x=y at *;cases g;rename_i D7 A l;unfold Al4 at b;cases c:Xu P t i with
   |none=>simp_all
   |some p=>obtain⟨u,D⟩:=p;simp[c]at b;obtain⟨rfl,rfl⟩:=b;obtain⟨C,B,q,r,rfl,rfl⟩:=Xv c;obtain⟨v',k,s⟩:=Mp h1 ⟨A,l⟩ w;refine⟨_,w,.inl ?_,.quiet _ _ s⟩;simp[execOp,hy,Instr.field,underlying,q,r,asAgg,k]
 grind
def Us{x}{n}(h:Vg x=some n):∃k,x=.int k (.ofNat n):=by cases x<;>first|(cases h)|skip;rename_i k m;cases m<;>cases h;simp
def Qb{m}{n}(h:Akn m=some n):m=.ofNat n:=by cases m<;>cases h;rfl
def AiO{t}{i}(h:Hp P t=.sl i):∃b,P.underlying t=some (.slice i.e)/\P.info? i.e=some b/\b.size=i.s/\b.bytes=i.bytes:=by
 unfold Hp at h;split at h<;>first|simp_all
 .split at h;. rename_i e d _ b hi;cases c:Nat.blt 0 b.size with
    |false=>simp_all
    |true=>rw[c]at h;grind
  simp_all
 grind
def Aox{t}{i}(h:Hp P t=.sl i):0<i.s:=by
 unfold Hp at h;split at h<;>first|simp_all|skip
 .split at h;. rename_i e d _ b hi;cases c:Nat.blt 0 b.size with
    |false=>simp_all
    |true=>rw[c]at h;cases h;simp_all
  grind
 grind
def Aat{t}{n}{i}(h:Hp P t=.arr n i):∃b,P.underlying t=some (.array n i.e)/\P.info? i.e=some b/\b.size=i.s/\b.bytes=i.bytes:=by unfold Hp at h;cases c:P.underlying t with
|none=>simp_all
|some d=>rw[c]at h;cases d with
 |array k e=>grind
 |slice e=>cases hi:P.info? e with
  |none=>simp_all
  |some b=>cases g:Nat.blt 0 b.size with
   |false=>simp_all
   |true=>simp_all
 |_=>cases h
def Afb{t}(h:Hp P t=.str):P.underlying t=some .string:=by
 unfold Hp at h;split at h<;>first|(cases h)|skip
 .grind
 .split at h;. rename_i b _;cases c:Nat.blt 0 b.size with
    |false=>simp_all
    |true=>simp_all
  grind
 grind
def Su(t:TypeId)(x i:Operand):Hm P G ⟨dst,.indexAddr t x i,ty,pos,af,gd⟩:=by intro σ nt f a h h' w v Z I De F D;simp[Op.operands]at De;have E:=Cj F D x De.1;have hi:=Cj F D i De.2;have d:iaX (Hp P t) (ev x f) (Vg (ev i f)) h=.ok v h':=I;generalize hy:a.eval x=y at *;generalize hj:a.eval i=j at *;cases hn:Vg (ev i f)with
|none=>rw[hn]at d;cases g:Hp P t<;>rw[g]at d<;>cases d
|some n=>rw[hn]at d;obtain⟨k,K⟩:=Us hn;rw[K]at hi;cases hi;generalize ev x f=u at *;cases g:Hp P t with
 |bad=>rw[g]at d;cases d
 |str=>rw[g]at d;cases d
 |sl l=>
  rw[g]at d;obtain⟨A,q,C,B,J⟩:=AiO g;have o:iaS u n l.s h=.ok v h':=d;cases E<;>first|(cases o;done)|skip;rename_i b off len cap R ex e O r Q M L S;rcases Bl (show @Bool.rec (λ_=>OR) (.bad 88) (.ok (.ptr b (Nat.add off (Nat.mul n l.s))) h) (Nat.blt n len)=.ok v h' from o)with⟨z,m⟩|⟨_,m⟩
  .obtain⟨rfl,rfl⟩:=B4 m;have p:=Ec z;refine⟨.pointer (some ⟨e.c,off+n*l.s,none⟩),w,.inl ?_,.quiet _ _ (.ptr b _ e r)⟩;have h0:(0:Int)<=Int.ofNat n:=bj n;have h1:(Int.ofNat n)<(len:Int):=by simpa using p
   simp[execOp,hy,hj,Instr.indexAt,asIntOf,underlying,q,p,sizeOf,typeInfo,C,B,G1]
  .exact(N0 m).elim
 |arr len l=>
  rw[g]at d;obtain⟨A,q,C,B,J⟩:=Aat g;have o:iaA u len n l.s h=.ok v h':=d;cases E<;>first|(cases o;done)|skip;rename_i b off e r;rcases Bl (show @Bool.rec (λ_=>OR) (.bad 90) (.ok (.ptr b (Nat.add off (Nat.mul n l.s))) h) (Nat.blt n len)=.ok v h' from o)with⟨z,m⟩|⟨_,m⟩;. obtain⟨rfl,rfl⟩:=B4 m;have p:=Ec z;refine⟨.pointer (some ⟨e.c,off+n*l.s,none⟩),w,.inl ?_,.quiet _ _ (.ptr b _ e r)⟩;simp[execOp,hy,hj,Instr.indexAt,asIntOf,underlying,q,p,sizeOf,typeInfo,C,B,G1,Instr.sureAddr]
  .exact(N0 m).elim
def AuQ{s}{y}(h:Au σ (.str s) y):∃bs,y=.string bs/\s=bytesOf bs:=by cases h;simp
def AgW s(n:Nat):(bytesOf s)[n]?=s[n]?.map UInt8.toNat:=by unfold bytesOf;simp[Array.getElem?_toList];rfl
def Gv s:(bytesOf s).length=s.size:=by unfold bytesOf;simp
def Akz{x}(b:Uv x h=.ok v h'):∃n,x=some n/\v=.int .u8 (.ofNat n)/\h'=h:=by cases x<;>cases b;simp
def Acr(t:TypeId)(x i:Operand):Hm P G ⟨dst,.index t x i,ty,pos,af,gd⟩:=by
 intro σ nt f a h h' w v Z F De r q;simp[Op.operands]at De;have p:=Cj r q x De.1;have hi:=Cj r q i De.2;have c:Tj t x i ty P Z f h=.ok v h':=F;unfold Tj at c;generalize hy:a.eval x=y at *;generalize hj:a.eval i=j at *;split at c;. rename_i n e hn;obtain⟨k,l⟩:=Us hn;rw[l]at hi;cases hi;generalize ev x f=u at *;cases p<;>first|(cases c;done)|skip;rename_i s;obtain⟨m,h1,rfl,rfl⟩:=Akz (show Uv (AuN (bytesOf s) n) h=.ok v h' from c);rw[AuO,AgW]at h1;cases d:s[n]? with
   |none=>simp[d]at h1
   |some b=>simp[d]at h1;subst h1;refine⟨.int .u8 b.toNat,w,.inl ?_,.quiet _ _ (.int .u8 _)⟩;simp[execOp,hy,hj,Instr.index,asIntOf,underlying,Afb e,d]
 .rename_i len M n e hn;obtain⟨k,l⟩:=Us hn;rw[l]at hi;cases hi;split at c
  .rename_i cs g;rw[P0 g]at p;cases p;rename_i D7 D A;obtain⟨J,C,L,K,O⟩:=Aat e;rcases Bl c with⟨d,o⟩|⟨_,o⟩;. obtain⟨B,rfl⟩:=AbA o;obtain⟨v',z,I⟩:=Mp (P:=P) (σ:=σ) B (D7:=D7) ⟨D,A⟩ w;have E:=Ec d;refine⟨v',w,.inl ?_,.quiet _ _ I⟩;simp[execOp,hy,hj,Instr.index,asIntOf,underlying,C,E,sizeOf,typeInfo,L,K,z]
   .exact(N0 o).elim
  .exact(N0 c).elim
 .exact(N0 c).elim
def Ud{t}{z} σ(h:Ps P t=some z):∃i b,P.info? t=some i/\i.zero=some b/\Au σ z b:=by unfold Ps at h;cases hi:P.info? t with
|none=>grind
|some i=>cases c:i.zero with
 |none=>grind
 |some b=>simp[hi,c]at h;subst h;exact⟨i,_,rfl,c,AbN _ 5 _⟩
def Ass{x y}{x' b}(h:Au σ x x')(h':Au σ y b):Au σ (.Bj [x,y]) (.tuple #[x',b]):=by have:=Bk.cons h (Bk.cons h' (Bk.nil _));exact .Bj _ _ this.1 this.2
def AaX{t}{z}(h:AkI P t=some z):∃d,P.underlying t=some d/\(∀m,d≠.interface m)/\Ps P t=some z:=by unfold AkI at h;grind
def Rp(x:Operand)(p t:TypeId)(ok:Bool):Hm P G ⟨dst,.typeAssert x p t ok,ty,pos,af,gd⟩:=by
 intro σ nt f a h h' w v Z r De C A;have l:=Cj C A x (by simpa[Op.operands]using De);have e:G0 x p t ok ty P Z f h=.ok v h':=r;unfold G0 at e;generalize hy:a.eval x=y at *
 split at e
 .rename_i z b o;rw[Y4 o]at l;cases l;obtain⟨d,j,hd,b⟩:=AaX b;obtain⟨i,B,hi,c,n⟩:=Ud σ b;cases ok
  .exact(N0 e).elim
  .obtain⟨rfl,rfl⟩:=B4 e;refine⟨_,w,.inl ?_,.quiet _ _ (Ass n (.bool false))⟩;cases d<;>first|(exact absurd rfl (hd _))|simp[execOp,hy,Instr.typeAssert,underlying,j,zeroValue,typeInfo,hi,c]
 .rename_i z u D b o;rw[Pq o]at l;cases l;rename_i q g;obtain⟨d,j,hd,b⟩:=AaX b;obtain⟨i,B,hi,c,n⟩:=Ud σ b;rcases Bl e with⟨m,k⟩|⟨m,k⟩
  .obtain⟨rfl,rfl⟩:=B4 k;have:=Ch m;subst this;cases ok
   .refine⟨q,w,.inl ?_,.quiet _ _ g⟩;cases d<;>first|(exact absurd rfl (hd _))|simp[execOp,hy,Instr.typeAssert,underlying,j]
   .refine⟨_,w,.inl ?_,.quiet _ _ (Ass g (.bool true))⟩;cases d<;>first|(exact absurd rfl (hd _))|simp[execOp,hy,Instr.typeAssert,underlying,j]
  .have s:=Ho m;cases ok
   .exact(N0 k).elim
   .obtain⟨rfl,rfl⟩:=B4 k;refine⟨_,w,.inl ?_,.quiet _ _ (Ass n (.bool false))⟩;cases d<;>first|(exact absurd rfl (hd _))|simp[execOp,hy,Instr.typeAssert,underlying,j,zeroValue,typeInfo,hi,c,s]
 .exact(N0 e).elim
def Ae3 op t x:Hm P G ⟨dst,.unOp op t x,ty,pos,af,gd⟩:=by intro σ nt f a h h' w v Z g De j i;have e:=Cj j i x (by simpa[Op.operands]using De);have c:AaP _ t x ty P Z f h=.ok v _:=g;unfold AaP at c;generalize hy:a.eval x=y at *;cases op with
|not=>cases d:vB (ev x f)with
 |no=>grind
 |yes b=>rw[d]at c;rw[Adn d]at e;cases e;obtain⟨rfl,rfl⟩:=B4 c;refine⟨.bool !b,w,.inl (by simp[execOp,hy,Op.unary]),.quiet _ _ ?_⟩;rw[Kb];exact .bool _
|neg=>cases d:vI (ev x f)with
 |no=>grind
 |yes k n=>rw[d]at c;rw[P1 d]at e;cases e;obtain⟨rfl,rfl⟩:=B4 c;refine⟨.int k (k.wrap (0-n)),w,.inl (by simp[execOp,hy,Op.unary,Op.intArith]),.quiet _ _ ?_⟩;rw[Ub];exact .int ..
|_=>grind
end ops
section ops
variable {dst:Option Tmp}{ty:TypeId}{pos:String}{af:Array Edge}{gd:Option (Nat × Bool)}
def toNat_inj{a b:UInt8}:a.toNat=b.toNat ↔ a=b:=UInt8.toNat_inj
def Aul(l m:List _):(l.map UInt8.toNat == m.map UInt8.toNat)=(l == m):=by
 rw[C7];simp[beq_iff_eq];constructor;. intro e;induction l generalizing m with
   |nil=>simp_all
   |cons a l c=>cases m with
    |nil=>grind
    |cons b m=>simp[Co,Ll]at e;rw[toNat_inj.1 e.1,c m e.2]
 grind
def Rg x y a b:Gn (x::a) (y::b)=(decide (x<y)||x == y&&Gn a b):=by
 have:Gn (x::a) (y::b)=@Bool.rec (λ_=>Bool) _ ..:=rfl;rw[this];have e1:Nat.blt x y=decide (x<y):=by rw[C7];simp
 have c:Nat.beq x y=(x == y):=by rw[C7];simp
 rw[e1,c];cases decide (x<y)<;>cases x == y<;>rfl
def AaW:∀l m,Gn (l.map UInt8.toNat) (m.map UInt8.toNat)=Op.bytesLess l m
|[],[]=>rfl
|[],_::_=>rfl
|_::_,[]=>rfl
|a::l,b::m=>by simp[Co,Rg,Op.bytesLess,AaW l m];congr 1;congr 1;rw[C7];simp[beq_iff_eq];exact toNat_inj
def Pm:∀l m,(!Gn m l)=(Gn l m||l == m)
|[],[]=>rfl
|[],_::_=>rfl
|_::_,[]=>rfl
|x::l,y::m=>by rw[Rg,Rg,List.cons_beq_cons];have b:=Pm l m;grind
def U1 a b:Qh (bytesOf a) (bytesOf b)=(a.toList == b.toList):=by rw[Qi,ByteArray.toList_eq,ByteArray.toList_eq];exact Aul ..
def AbC a b:Gn (bytesOf a) (bytesOf b)=Op.bytesLess a.toList b.toList:=by rw[ByteArray.toList_eq,ByteArray.toList_eq];exact AaW ..
def AbU a b:bytesOf (a++b)=bytesOf a++bytesOf b:=by unfold bytesOf;simp
def Aft op t x y k k' m n w:(eqGuard op t x y (.int k m) (.int k' n)).run P w=.ok () w:=by unfold eqGuard;simp
def Afu op t x y m n w:(eqGuard op t x y (.string m) (.string n)).run P w=.ok () w:=by unfold eqGuard;simp
def AcS(a b:Int):(!decide (a<b))=decide (b<=a):=by grind
def AjX{g}{k k'}{m n}(b:iAr g k m k' n h=.ok v h'):k=k'/\v=.int k (k.wrap (g m n))/\h'=h:=by
 rcases Bl b with⟨c,b⟩|⟨_,b⟩;. obtain⟨rfl,rfl⟩:=B4 b;exact⟨(Q3 k _).1 c,by rw[Ub],rfl⟩
 grind
def Un{g}{k k'}{m n}(b:AjY g k m k' n h=.ok v h'):k=k'/\v=.bool (g m n)/\h'=h:=by
 rcases Bl b with⟨c,b⟩|⟨_,b⟩;. obtain⟨rfl,rfl⟩:=B4 b;exact⟨(Q3 k _).1 c,rfl,rfl⟩
 grind
def AtX{k k'}{m n}(b:A4x k m k' n h=.ok v h'):k=k'/\n≠0/\v=.int k (k.wrap (m.tdiv n))/\h'=h:=by
 rcases Bl b with⟨d,b⟩|⟨_,b⟩
 .rcases Bl b with⟨_,b⟩|⟨c,b⟩;. grind
  .obtain⟨rfl,rfl⟩:=B4 b;rw[Q1]at c;exact⟨(Q3 k _).1 d,by grind,by rw[Ub],rfl⟩
 grind
def AtY{k k'}{m n}(b:A4y k m k' n h=.ok v h'):k=k'/\n≠0/\v=.int k (m.tmod n)/\h'=h:=by
 rcases Bl b with⟨d,b⟩|⟨_,b⟩
 .rcases Bl b with⟨_,b⟩|⟨c,b⟩;. grind
  .obtain⟨rfl,rfl⟩:=B4 b;rw[Q1]at c;exact⟨(Q3 k _).1 d,by grind,rfl,rfl⟩
 grind
def AnX(op:BinOp)(t:TypeId)(k k':IntKind)(m n:Int)(w:World)(c:AqP op k m k' n h=.ok v h'):
 ∃v',(binOp op t (.int k m) (.int k' n)).run P w=.ok v' w/\Au σ v v'/\h'=h:=by
 cases op with
 |add=>obtain⟨rfl,rfl,rfl⟩:=AjX c;exact⟨.int k (k.wrap (m+n)),by simp[binOp,Op.intArith],.int _ _,rfl⟩
 |sub=>obtain⟨rfl,rfl,rfl⟩:=AjX c;exact⟨.int k (k.wrap (m-n)),by simp[binOp,Op.intArith],.int _ _,rfl⟩
 |mul=>obtain⟨rfl,rfl,rfl⟩:=AjX c;exact⟨.int k (k.wrap (m*n)),by simp[binOp,Op.intArith],.int _ _,rfl⟩
 |quo=>obtain⟨rfl,j,rfl,rfl⟩:=AtX c;exact⟨.int k (k.wrap (m.tdiv n)),by simp[binOp,Op.intDiv,j],.int _ _,rfl⟩
 |rem=>obtain⟨rfl,j,rfl,rfl⟩:=AtY c;exact⟨.int k (m.tmod n),by simp[binOp,Op.intDiv,j],.int _ _,rfl⟩
 |eql=>obtain⟨rfl,rfl,rfl⟩:=Un c;exact⟨.bool (m == n),by simp[binOp,Op.intCmp],by rw[Q1];exact .bool _,rfl⟩
 |neq=>obtain⟨rfl,rfl,rfl⟩:=Un (g:=λa b=>Ib (ieq a b)) c;exact⟨.bool (m != n),by simp[binOp,Op.intCmp],by rw[Kb,Q1];exact .bool _,rfl⟩
 |lss=>obtain⟨rfl,rfl,rfl⟩:=Un c;exact⟨.bool (decide (m<n)),by simp[binOp,Op.intCmp],by rw[Il];exact .bool _,rfl⟩
 |leq=>obtain⟨rfl,rfl,rfl⟩:=Un (g:=λa b=>Ib (ilt b a)) c;exact⟨.bool (decide (m<=n)),by simp[binOp,Op.intCmp],by rw[Kb,Il,AcS];exact .bool _,rfl⟩
 |gtr=>obtain⟨rfl,rfl,rfl⟩:=Un (g:=λa b=>ilt b a) c;exact⟨.bool (decide (m > n)),by simp[binOp,Op.intCmp],by rw[Il];exact .bool _,rfl⟩
 |geq=>obtain⟨rfl,rfl,rfl⟩:=Un (g:=λa b=>Ib (ilt a b)) c;exact⟨.bool (decide (m ≥ n)),by simp[binOp,Op.intCmp],by rw[Kb,Il,AcS];exact .bool _,rfl⟩
 |andNot=>cases c
 |and=>cases c
 |or=>cases c
 |xor=>cases c
 |shl=>
  have d:AtZ k m k' n h=.ok v h':=c;unfold AtZ at d;split at d
  .rename_i b i;obtain⟨rfl,rfl⟩:=B4 d;have e:=Qb i;subst e;refine⟨.int k (k.wrap (m*2^(min b k.bits))),?_,?_,rfl⟩
   .simp[binOp,Op.shift];intro o;omega
   .rw[Ub];have:Int.mul m (.ofNat (Nat.pow 2 (Nat.min b k.bits)))=m*2^(min b k.bits):=by show m*((2^(min b k.bits):Nat):Int)=_;simp
    rw[this];exact .int _ _
  .cases d
 |shr=>
  have d:Aua k m k' n h=.ok v h':=c;unfold Aua at d;split at d
  .rename_i a b l i;obtain⟨rfl,rfl⟩:=B4 d;have e:=Qb l;subst e;have e:=Qb i;subst e;refine⟨.int k ((a:Int).fdiv (2^(min b k.bits))),?_,?_,rfl⟩
   .simp[binOp,Op.shift];intro o;omega
   .have:(Int.ofNat (Nat.div a (Nat.pow 2 (Nat.min b k.bits))))=(a:Int).fdiv (2^(min b k.bits)):=by show((a/2^(min b k.bits):Nat):Int)=_;rw[Int.fdiv_eq_ediv_of_nonneg _ (by exact_mod_cast Jv _)];simp
    rw[this];exact .int _ _
  .cases d
def AnY(op:BinOp)(t:TypeId)(m n:ByteArray)(w:World)(b:AuB op (bytesOf m) (bytesOf n) h=.ok v h'):
 ∃v',(binOp op t (.string m) (.string n)).run P w=.ok v' w/\Au σ v v'/\h'=h:=by cases op with
 |add=>
  rcases Bl b with⟨c,b⟩|⟨_,b⟩
  .obtain⟨rfl,rfl⟩:=B4 b;have d:=Ec c;simp[Rf,Gv]at d;refine⟨.string (m++n),?_,?_,rfl⟩
   .have hn:¬ (m.size+n.size:Nat) > IntKind.i64.max:=by simp_all;omega
    have:binOp .add t (.string m) (.string n)=Op.stringOp .add m n:=rfl;rw[this];simp only[Op.stringOp,X2 hn];rfl
   .rw[AuL,<- AbU];exact .str _
  grind
 |eql=>cases b;exact⟨_,rfl,by rw[U1];exact .bool _,rfl⟩
 |neq=>cases b;exact⟨_,rfl,by simp[Kb,U1];exact .bool _,rfl⟩
 |lss=>cases b;exact⟨_,rfl,by rw[AbC];exact .bool _,rfl⟩
 |leq=>cases b;exact⟨_,rfl,by simp[Kb,Pm];rw[AbC,<- Qi,U1];exact .bool _,rfl⟩
 |gtr=>cases b;exact⟨_,rfl,by have:=Pm (bytesOf m) (bytesOf n);rw[AbC m n,<- Qi,U1]at this;rw[<- this,Bool.not_not];exact .bool _,rfl⟩
 |geq=>cases b;exact⟨_,rfl,by simp[Kb,AbC];exact .bool _,rfl⟩
 |_=>cases b
def Axh(P:Program)(t:TypeId):TK->Prop
|.bad=>True
|.bool=>P.underlying t=some .bool
|.int=>∃i,P.underlying t=some (.int i)
|.string=>P.underlying t=some .string
|.ptr=>∃e b,P.underlying t=some (.pointer e)/\P.info? e=some b/\b.size≠0
|.iface=>∃m,P.underlying t=some (.interface m)
|.struct c=>∃l,P.underlying t=some (.struct l)/\P.stoodInHeld t=false/\c=((l.toList.filter λf=>f.name != "_").map λf=>(f.type,f.offset))
|.array n e s=>∃b,P.underlying t=some (.array n e)/\P.info? e=some b/\b.size=s
|.slice=>∃e,P.underlying t=some (.slice e)
def AbD(P:Program)(t:TypeId):Axh P t (tk P t):=by
 unfold tk;cases b:P.underlying t with
 |none=>trivial
 |some d=>
  cases d with
  |pointer e=>
   dsimp only;cases g:F7 P e with
   |none=>trivial
   |some n=>
    obtain⟨c,h1,h2⟩:=F3 g;cases n with
    |zero=>trivial
    |succ n=>exact⟨e,c,b,h1,by omega⟩
  |struct l=>
   dsimp only;cases g:P.stoodInHeld t
   .simp only[Mh,Fl];exact⟨l,b,g,rfl⟩
   .simp only[Jr];trivial
  |array n e=>
   dsimp only;cases g:F7 P e with
   |none=>trivial
   |some s=>obtain⟨c,h1,h2⟩:=F3 g;exact⟨c,b,h1,h2⟩
  |bool=>exact b
  |int i=>exact⟨i,b⟩
  |string=>exact b
  |interface m=>exact⟨m,b⟩
  |slice e=>exact⟨e,b⟩
  |_=>trivial
def Afe(P:Program)(σ:Dx)(d:Nat)(e:EqT):Prop:=
 ∀t x y b x' c,e t x y=some b->Au σ x x'->Au σ y c->∀(D:Nat) (w:World),d<=D->(Op.equalIn D t x' c).run P w=.ok b w
def Ajq{d:Nat}{l:EqT}(n:Afe P σ d l)(D:Nat)(o:d<=D) xs ys xs' ys'(p:Bk σ xs xs'.toList)(hy:Bk σ ys ys'.toList) w:
 ∀g b,Amw P l ((g.filter λf=>f.name != "_").map λf=>(f.type,f.offset)) xs ys=some b->(Op.eqFields D xs' ys' g).run P w=.ok b w:=by intro g;induction g with
 |nil=>intro b c;cases c;rfl
 |cons f g s=>
  intro b c;by_cases hn:f.name = "_";. simp[Op.eqFields,hn,ne_eq,not_true_eq_false,Fl];grind
  .rw[List.filter_cons_of_pos (by grind)]at c;simp[Co,Amw]at c;split at c
   .rename_i u v q r;obtain⟨t,i,k⟩:=Mp q p w;obtain⟨v',e,m⟩:=Mp r hy w;split at c;. rename_i j;have:=n _ _ _ _ _ _ j k m D w o;simp[Op.eqFields,ne_eq,hn,not_false_eq_true,Jr,Sem.run_bind,i,e,this,Result.andThen_ok,Bool.not_true,Mh,Fl];simp[*]
    .rename_i j;cases c;have:=n _ _ _ _ _ _ j k m D w o;simp[Op.eqFields,hn,i,e,this]
    grind
   simp_all
def Ajp{d}{m}(p:Afe P σ d m) D(q:d<=D) e s xs ys xs' ys'(r:Bk σ xs xs'.toList)(hy:Bk σ ys ys'.toList) w:
 ∀n i b,Amv P m e s n i xs ys=some b->(Op.eqItems D e s xs' ys' (List.range' i n)).run P w=.ok b w:=by intro n;induction n with
 |zero=>intro i b c;cases c;rfl
 |succ n y=>
  intro i b c;simp[Amv]at c;split at c
  .rename_i u v t x;obtain⟨z,j,l⟩:=Mp t r w;obtain⟨v',g,o⟩:=Mp x hy w;split at c;. rename_i k;have:=p _ _ _ _ _ _ k l o D w q;simp[eo,Op.eqItems,Sem.run_bind,j,g,this,Result.andThen_ok,Bool.not_true,Mh,Fl];grind
   .rename_i k;cases c;have:=p _ _ _ _ _ _ k l o D w q;simp[eo,Op.eqItems,j,g,this]
   grind
  grind
def Apr c o o':((⟨c,o,none⟩:Addr) == ⟨c,o',none⟩)=(o == o'):=by grind
set_option maxHeartbeats 2000000 in
def Zj(P:Program)(σ:Dx):∀d,Afe P σ d (aeq P d):=by
 intro d;induction d with
 |zero=>intro t x y b x' R h;cases h
 |succ d C=>
  intro t x y b x' R S g hy D w U;obtain⟨D,rfl⟩:∃k,D=k+1:=⟨D-1,by omega⟩;have c:Dy P (aeq P d) t x y=some b:=S;unfold Dy at c;have p:=AbD P t;split at c<;>rename_i hc<;>rw[hc]at p
  .cases c
  .split at c
   .rename_i a1 b1 h1 h2;rw[Adn h1]at g;rw[Adn h2]at hy;cases g;cases hy;cases c;have j:P.underlying t=some .bool:=p;exact run_equalIn_bool w D t _ _ j
   .cases c
  .obtain⟨i,j⟩:=p;split at c
   .rename_i k a1 k' b1 h1 h2;rw[P1 h1]at g;rw[P1 h2]at hy;cases g;cases hy;cases hq:kEq k k' with
    |false=>rw[hq]at c;cases c
    |true=>rw[hq]at c;cases c;have:=(Q3 k k').1 hq;subst this;rw[Q1];exact run_equalIn_int w D t k i _ _ j
   .cases c
  .split at c
   .rename_i a1 b1 h1 h2;rw[Rj h1]at g;rw[Rj h2]at hy;cases g;cases hy;cases c;rw[U1];exact run_equalIn_string w D t _ _ p
   .cases c
  .obtain⟨e,u,j,hi,r⟩:=p;split at c
   .rename_i h1 h2;rw[Wv h1]at g;rw[Wv h2]at hy;cases g;cases hy;cases c;simp[Op.equalIn,run_underlying j]
   .rename_i I B h1 h2;rw[Wv h1]at g;rw[P2 h2]at hy;cases g;cases hy;cases c;simp[Op.equalIn,run_underlying j]
   .rename_i I B h1 h2;rw[P2 h1]at g;rw[Wv h2]at hy;cases g;cases hy;cases c;simp[Op.equalIn,run_underlying j]
   .rename_i I B b1 L h1 h2;rw[P2 h1]at g;rw[P2 h2]at hy;cases g;cases hy;rename_i V M e1 K;cases hq:Nat.beq I b1 with
    |false=>rw[hq]at c;cases c
    |true=>
     rw[hq]at c;cases c;have:=Ch hq;subst this;rw[M]at K;cases K;have Q:Nat.beq B L=(B == L):=by rw[C7];simp
     rw[Q];simp[Op.equalIn,run_underlying j,sizeOf,typeInfo,hi,r,sameAddr,Apr]
   .cases c
  .obtain⟨m,j⟩:=p;split at c
   .rename_i h1 h2;rw[Y4 h1]at g;rw[Y4 h2]at hy;cases g;cases hy;cases c;simp[Op.equalIn,run_underlying j]
   .rename_i q A h1 h2;rw[Y4 h1]at g;rw[Pq h2]at hy;cases g;cases hy;cases c;simp[Op.equalIn,run_underlying j]
   .rename_i q A h1 h2;rw[Pq h1]at g;rw[Y4 h2]at hy;cases g;cases hy;cases c;simp[Op.equalIn,run_underlying j]
   .rename_i q A t1 J h1 h2;rw[Pq h1]at g;rw[Pq h2]at hy;cases g;cases hy;rename_i u0 r0 u1 r1;cases hq:Nat.beq q t1 with
    |false=>rw[hq]at c;cases c;have O:=Ho hq;simp[Op.equalIn,run_underlying j,O]
    |true=>
     rw[hq]at c;have:=Ch hq;subst this;cases o:(P.info? q).any (·.comparable)with
     |false=>simp only[o]at c;cases c
     |true=>
      simp only[o]at c;have T:aeq P d q A J=some b:=c;cases hi:P.info? q with
      |none=>simp[hi]at o
      |some u=>simp[hi]at o;have:=C q A J b _ _ T r0 r1 D w om;simp[Op.equalIn,run_underlying j,typeInfo,hi,o,this]
   .cases c
  .rename_i W;obtain⟨l,j,r,rfl⟩:=p;split at c
   .rename_i a1 b1 h1 h2;rw[P0 h1]at g;rw[P0 h2]at hy;cases g;cases hy;rename_i c1 l1 r1 c2 F E;have z:P.fieldsOf t=l:=by simp[Program.fieldsOf,j]
    rw[run_equalIn_struct w D t c1 c2 (by rw[z];exact j) r,z];exact Ajq C D om a1 b1 c1 c2 ⟨l1,r1⟩ ⟨F,E⟩ w l.toList b c
   .cases c
  .rename_i n e s;obtain⟨u,j,hi,r⟩:=p;split at c
   .rename_i a1 b1 h1 h2;rw[P0 h1]at g;rw[P0 h2]at hy;cases g;cases hy;rename_i c1 l1 r1 c2 F E;rw[run_equalIn_array w D c1 c2 j hi];have hc:P.cellsOf e=s:=by simp[Program.cellsOf,hi,r]
    rw[hc,List.range_eq_range'];exact Ajp C D om e s a1 b1 c1 c2 ⟨l1,r1⟩ ⟨F,E⟩ w n 0 b c
   .cases c
  .obtain⟨e,j⟩:=p;split at c
   .rename_i h1 h2;rw[Ok h1]at g;rw[Ok h2]at hy;cases g;cases hy;cases c;simp[Op.equalIn,run_underlying j]
   .rename_i h1 h2;rw[Ok h1]at g;rw[Ri h2]at hy;cases g;cases c;cases hy<;>simp[Op.equalIn,run_underlying j]
   .rename_i h1 h2;rw[Ri h1]at g;rw[Ok h2]at hy;cases hy;cases c;cases g<;>simp[Op.equalIn,run_underlying j]
   .cases c
def Tt(neg:Bool)(t:TypeId)(x y:Operand){u v:AV}{v':Value}(e:Au σ u j)(d:Au σ v v')(Sm:Bool)
 (hc:Sm=true->isConst x=true\/isConst y=true) (ha:Xm P t Sm (O6 u) (O6 v)=true) (w:World):(eqGuard (if neg then .neq else .eql) t x y j v').run P w=.ok () w:=by
 generalize (if neg then BinOp.neq else BinOp.eql)=op;cases e<;>cases d<;>first
  |(exfalso;revert ha;simp[Xm,O6];done)
  |(cases op<;>rfl)
  |skip
 .have:Sm=true:=by simpa[Xm,O6]using ha
  rcases hc this with h1|h1;. cases x<;>first|(cases h1;done)|(cases op<;>simp[eqGuard])
  .cases y<;>first|(cases h1;done)|(cases op<;>simp[eqGuard])
 .have b:Nq P t=true:=by simpa[Xm,O6]using ha
  unfold Nq at b;rw[Kb]at b;exact run_eqGuard_agg w op t x y _ _ (by simpa using b)
def AgT{neg}{t}{x y}{Sm}(c:Xe neg P t x y Sm h=.ok v h'):
 Xm P t Sm (O6 x) (O6 y)=true/\∃b,aeq P 20 t x y=some b/\v=.bool (neg != b)/\h'=h:=by
 rcases Bl c with⟨d,c⟩|⟨_,c⟩;. grind
 grind
def Yz(t:TypeId){u v:AV}{v':Value}(d:Au σ u j)(e:Au σ v v')(Sm:Bool)(g:Xm P t Sm (O6 u) (O6 v)=true)(w:World)(b:Bool)
 (hb:(Op.equal t j v').run P w=.ok b w):(binOp .eql t j v').run P w=.ok (.bool b) w/\(binOp .neq t j v').run P w=.ok (.bool (!b)) w:=by cases d<;>cases e<;>first
  |(exfalso;revert g;simp[Xm,O6];done)
  |(constructor<;>simp[binOp,hb])
def Apw{y}{k}{n}{op}(b:Apv y k n op h=.ok v h'):∃k' m,y=.int k' m/\AqP op k n k' m h=.ok v h':=by cases y<;>first|(cases b)|exact⟨_,_,rfl,b⟩
def Apy{y}{s}{op}(b:Apx y s op h=.ok v h'):∃c,y=.str c/\AuB op s c h=.ok v h':=by cases y<;>first|(cases b)|exact⟨_,rfl,b⟩
def Aco(op:BinOp)(t:TypeId)(x y:Operand)(B:TypeId):Hm P G ⟨dst,.binOp op t x y B,ty,pos,af,gd⟩:=by
 intro σ nt f a h h' w v Z C De A z;simp[Op.operands]at De;have c:=Cj A z x De.1;have hy:=Cj A z y De.2;have j:Atc (ev x f) (ev x f) (ev y f) op t (@Bool.rec (λ_=>Bool) (isConst y) true (isConst x)) P h=.ok v h':=C;have i:(@Bool.rec (λ_=>Bool) (isConst y) true (isConst x))=true->isConst x=true\/isConst y=true:=by
  cases hc:isConst x;. simp_all
  simp
 generalize @Bool.rec (λ_=>Bool) _ ..=Sm at *;generalize ev x f=u at *;generalize ev y f=u2 at *;have l:Ij u u2 op t Sm P h=.ok v h'->∃v' w',Ran P (execOp a.eval ⟨dst,.binOp op t x y B,ty,pos,af,gd⟩) w v' w'/\Ag4 σ h w v v' h' w':=by
  intro d;have q:op=.eql/\Xe false P t u u2 Sm h=.ok v h'\/op=.neq/\Xe true P t u u2 Sm h=.ok v h':=by cases op<;>first|(cases d)|exact .inl ⟨rfl,d⟩|exact .inr ⟨rfl,d⟩
  rcases q with⟨rfl,d⟩|⟨rfl,d⟩
  .obtain⟨g,b,hq,rfl,rfl⟩:=AgT d;have h1:=Tt false t x y c hy _ i g w;have h2:=Yz t c hy _ g w b (Zj P _ _ t u _ b _ _ hq c hy _ w fe);refine⟨.bool b,w,.inl ?_,.quiet _ _ ?_⟩;. simp[Mh,Fl]at h1;simp[execOp,h1,h2.1]
   .cases b<;>exact .bool _
  .obtain⟨g,b,hq,rfl,rfl⟩:=AgT d;have h1:=Tt true t x y c hy _ i g w;have h2:=Yz t c hy _ g w b (Zj P _ _ t u _ b _ _ hq c hy _ w fe);refine⟨.bool !b,w,.inl ?_,.quiet _ _ ?_⟩;. simp[Jr]at h1;simp[execOp,h1,h2.2]
   .cases b<;>exact .bool _
 cases u with
 |int k n=>obtain⟨k',m,rfl,hi⟩:=Apw (show Apv _ k n _ h=.ok v _ from j);generalize o:a.eval x=xx at *;generalize e:a.eval y=yy at *;cases c;cases hy;obtain⟨v',p,r,rfl⟩:=AnX (P:=P) _ t k _ n m w hi;exact⟨_,w,.inl (by simp[execOp,o,e,Aft,p]),.quiet _ _ r⟩
 |str s=>obtain⟨D,rfl,hi⟩:=Apy (show Apx _ s _ h=.ok v _ from j);generalize o:a.eval x=xx at *;generalize e:a.eval y=yy at *;cases c;cases hy;obtain⟨v',p,r,rfl⟩:=AnY (P:=P) _ t _ _ w hi;exact⟨_,w,.inl (by simp[execOp,o,e,Afu,p]),.quiet _ _ r⟩
 |top=>cases j
 |_=>exact l j
end ops
section ops
variable {dst:Option Tmp}{ty:TypeId}{pos:String}{af:Array Edge}{gd:Option (Nat × Bool)}
def Nt(i:Pt σ nt f a)(e:Vm G σ){x}(g:Es G x=true){n y}(hn:Vg (ev x f)=some n)(b:n<=y) code w:
 (Instr.sliceBound (a.eval x) y code).run P w=.ok n w:=by obtain⟨k,d⟩:=Us hn;have c:=Cj i e x g;rw[d]at c;generalize a.eval x=u at *;cases c;simp[Instr.sliceBound,asIntOf,b]
def Og(c:Pt σ nt f a)(b:Vm G σ){lo hi d}(h1:∀x,lo=some x->Es G x=true)(h2:∀x,hi=some x->Es G x=true)(j:∀x,d=some x->Es G x=true)
 {l u m len cap} (hm:bnd f d cap=some m) (hl:bnd f lo 0=some l) (hu:bnd f hi len=some u) (hlu:l<=u) (hum:u<=m) (hmc:m<=cap) (P5:d≠none->hi≠none) is w:
 (Instr.sliceBounds is len cap (lo.map a.eval) (hi.map a.eval) (d.map a.eval)).run P w=.ok (l,u,m) w:=by cases d with
 |none=>
  have e:m=cap:=by cases hm;rfl
  subst e;cases hi with
  |none=>
   have e:u=len:=by cases hu;rfl
   subst e;cases lo with
   |none=>
    have e:l=0:=by cases hl;rfl
    subst e;rfl
   |some x=>simp[Instr.sliceBounds,Nt c b (h1 x _) hl hlu]
  |some y=>have g:=Nt (P:=P) c b (h2 y rfl) hu hum;cases lo with
   |none=>
    have e:l=0:=by cases hl;rfl
    subst e;simp[Instr.sliceBounds,g]
   |some x=>have r1:=Nt (P:=P) c b (h1 x rfl) hl hlu;simp[Instr.sliceBounds,r1,g]
 |some z=>have i:=Nt (P:=P) c b (j z rfl) hm hmc;cases hi with
  |none=>grind
  |some y=>have g:=Nt (P:=P) c b (h2 y rfl) hu hum;cases lo with
   |none=>
    have e:l=0:=by cases hl;rfl
    subst e;simp[Instr.sliceBounds,g,i]
   |some x=>have r1:=Nt (P:=P) c b (h1 x rfl) hl hlu;simp[Instr.sliceBounds,r1,g,i]
def Abf s l u:bytesOf (s.extract l u)=((bytesOf s).drop l).take (u-l):=by unfold bytesOf;simp
def Asd{s}{l u}(b:Ai9 s l u h=.ok v h'):
 ∃l' c,l=some l'/\u=some c/\l'<=c/\c<=s.length/\v=.str ((s.drop l').take (c-l'))/\h'=h:=by
 unfold Ai9 at b;split at b
 .rcases Bl b with⟨h1,b⟩|⟨_,b⟩
  .rcases Bl b with⟨h2,b⟩|⟨_,b⟩;. obtain⟨rfl,rfl⟩:=B4 b;rw[Rf]at h2;refine⟨_,_,rfl,rfl,G2 h1,G2 h2,?_,rfl⟩;rw[Asg,Asc];rfl
   grind
  grind
 grind
def Y1{b off cap d}{ex}{l u}(c:AkE b off cap d ex l u h=.ok v h'):l<=u/\u<=cap/\h'=h /\
 (l<cap/\v=.sl b (off+l*d) (u-l) (cap-l) d ex\/l=cap/\ex=true/\v=.sl b off 0 0 d true\/l=cap/\l=0/\v=.sl b off 0 0 d ex\/l=cap/\l≠0/\ex=false/\v=.sl b (off+1) 0 0 0 false):=by
 rcases Bl c with⟨h1,c⟩|⟨_,c⟩
 .rcases Bl c with⟨h2,c⟩|⟨_,c⟩
  .have i:=G2 h1;have j:=G2 h2;rcases Bl c with⟨g,c⟩|⟨g,c⟩;. simp_all
   .have m:=Ap1 g;rcases Bl c with⟨k,c⟩|⟨k,c⟩;. grind
    .rcases Bl c with⟨e,c⟩|⟨e,c⟩;. simp_all
     .obtain⟨rfl,rfl⟩:=B4 c;refine⟨i,j,rfl,.inr (.inr (.inr ⟨by omega,Ho e,?_,rfl⟩))⟩;grind
  simp_all
 grind
def Ai8{b off cap e l u c}(d:Amj b off cap e l u c h=.ok v h'):l<=u/\u<=c/\c<=cap/\h'=h /\
 v=.sl b (if c=l then off else off+l*e) (u-l) (c-l) e true:=by
 rcases Bl d with⟨h1,d⟩|⟨_,d⟩
 .rcases Bl d with⟨h2,d⟩|⟨_,d⟩
  .rcases Bl d with⟨g,d⟩|⟨_,d⟩;. obtain⟨rfl,rfl⟩:=B4 d;refine⟨G2 h1,G2 h2,G2 g,rfl,?_⟩;cases hq:Nat.beq c l with
     |false=>rw[X2 (Ho hq)];rfl
     |true=>simp_all
   grind
  simp_all
 grind
def AsX{G}{lo hi b}{x}(h:(Op.slice ty x lo hi b).operands.toList.all (Es G)=true):
 Es G x=true/\(∀y,lo=some y->Es G y=true)/\(∀y,hi=some y->Es G y=true)/\∀y,b=some y->Es G y=true:=by simp[Op.operands,ad,List.all_append,Em]at h;grind
def Acs(t:TypeId)(x:Operand)(lo hi K:Option Operand):Hm P G ⟨dst,.slice t x lo hi K,ty,pos,af,gd⟩:=by
 intro σ nt f a h h' w v Z M De I F;obtain⟨ox,O,J,Q⟩:=AsX De;have r:=Cj I F x ox;have d:G5 t x lo hi K ty P Z f h=.ok v h'/\A4a hi K=true:=by
  rcases Bl M with⟨h1,M⟩|⟨_,M⟩
  .exact⟨M,h1⟩
  .cases M
 obtain⟨d,hmo⟩:=d;have P5:K≠none->hi≠none:=by
  intro h1 h2;cases K with
  |none=>exact h1 rfl
  |some m=>subst h2;cases hmo
 unfold G5 at d;generalize hy:a.eval x=y at *
 split at d
 .rename_i E;split at d
  .rename_i s hvs;rw[Rj hvs]at r;cases r;rename_i bs;obtain⟨l,u,hl,hu,hlu,R,rfl,rfl⟩:=Asd d;rw[Gv]at R;have hu':bnd f hi bs.size=some u:=by rw[<- Gv,<- Rf];exact hu
   have j:=Og (P:=P) I F O J Q (cap:=bs.size) (len:=bs.size) (m:=bs.size) rfl hl hu' hlu R (Yw _) (λg=>absurd rfl g) false w;refine⟨.string (bs.extract l u),w,.inl ?_,.quiet _ _ ?_⟩
   .have X:=Afb E;simp only[ey]at j;simp[execOp,hy,Instr.sliceAt,Instr.slice,run_underlying X,j]
   .rw[<- Abf];exact .str _
  .cases d
 .rename_i i E;obtain⟨inf,L,T,V,k4⟩:=AiO E;split at d
  .rename_i z;rw[Ok z]at r;cases r;split at d
   .rename_i e1 A o;obtain⟨rfl,rfl⟩:=B4 d;have j:=Og (P:=P) I F O J Q (cap:=0) (len:=0) o e1 A (Yw _) (Yw _) (Yw _) P5 true w;refine⟨.slice none 0 0,w,.inl ?_,.quiet _ _ .Bv⟩;simp[execOp,hy,Instr.sliceAt,Instr.slice,run_underlying L,j,sizeOf,typeInfo,T]
   .cases d
  .rename_i b off len cap sz ex z;rw[Ri z]at r;have AhE:=Aox E;cases r;rotate_left
   .exfalso;split at d
    .rcases Bl d with⟨D,_⟩|⟨_,d⟩
     .have:=Ch D;omega
     .cases d
    .split at d
     .rcases Bl d with⟨D,_⟩|⟨_,d⟩
      .have:=Ch D;omega
      .cases d
     .cases d
    .cases d
   rename_i e q p g1 g2 W g4;split at d
   .rename_i l u e1 A;rcases Bl d with⟨D,d⟩|⟨_,d⟩
    .have B:=Ch D;obtain⟨S,U,rfl,Al8⟩:=Y1 d;have j:=Og (P:=P) I F O J Q (cap:=q) (len:=len) (m:=q) rfl e1 A S om (Yw _) (λg=>absurd rfl g) true w;simp only[ey]at j;have run:(execOp a.eval ⟨dst,.slice t x lo hi none,ty,pos,af,gd⟩).run P w=.ok (.value (.slice (if q=l then some ⟨e.c,off,none⟩else some ((⟨e.c,off,none⟩:Addr).add (l*i.s))) (u-l) (q-l))) w:=by simp[execOp,hy,Instr.sliceAt,Instr.slice,run_underlying L,j,sizeOf,typeInfo,T,V]
     rcases Al8 with⟨C,rfl⟩|⟨C,rfl,rfl⟩|⟨C,q4,rfl⟩|⟨C,q4,rfl,rfl⟩
     .refine⟨_,w,.inl run,.quiet _ _ ?_⟩;rw[X2 om,G1,<- B];refine .sl b _ _ _ _ _ e _ p om om (λg=>by rw[W g]) (λg=>?_);have:=g4 g;have o:l*sz+(q-l)*sz=q*sz:=by rw[<- ag];congr 1;omega
      omega
     .have:=W rfl;subst this;refine⟨_,w,.inl run,.quiet _ _ ?_⟩;have o:u=l:=by omega
      rw[W5 C.symm,o,<- C,Nat.sub_self];exact .sl b _ _ _ _ _ e _ p om om (λ_=>rfl) (λg=>by cases g)
     .subst q4;have o:u=0:=by omega
      refine⟨_,w,.inl run,.quiet _ _ ?_⟩;have e4:(if q=0 then some (⟨e.c,off,none⟩:Addr)else some ((⟨e.c,off,none⟩:Addr).add (0*i.s)))=some ⟨e.c,off,none⟩:=by rw[G1];simp
      rw[e4,o,ew,ew];exact .sl b _ _ _ _ _ e _ p om om (λg=>by rw[W g];omega) g4
     .have o:u=l:=by omega
      refine⟨_,w,.inl run,.quiet _ _ ?_⟩;rw[o,Nat.sub_self];by_cases k:q=l;. rw[W5 k];exact .slw b off e p _ _
      .rw[X2 k];exact .slw b off e p _ _
    .cases d
   .rename_i l u m e1 A;split at d
    .rename_i c o;rcases Bl d with⟨D,d⟩|⟨_,d⟩
     .have B:=Ch D;obtain⟨S,U,C,rfl,rfl⟩:=Ai8 d;have j:=Og (P:=P) I F O J Q (cap:=q) (len:=len) (m:=c) o e1 A S U om P5 true w;refine⟨.slice (if c=l then some ⟨e.c,off,none⟩else some ((⟨e.c,off,none⟩:Addr).add (l*i.s))) (u-l) (c-l),w,.inl ?_,.quiet _ _ ?_⟩;. simp only[dy]at j;simp[execOp,hy,Instr.sliceAt,Instr.slice,run_underlying L,j,sizeOf,typeInfo,T,V]
      .rw[G1,<- B];by_cases k:c=l;. rw[W5 k,W5 k];exact .sl b _ _ _ _ _ e _ p om om (λ_=>rfl) (λg=>by cases g)
       .rw[X2 k,X2 k];exact .sl b _ _ _ _ _ e _ p om om (λ_=>rfl) (λg=>by cases g)
     .cases d
    .cases d
   .cases d
  .cases d
 .rename_i n i E;obtain⟨inf,L,T,V,k4⟩:=Aat E;split at d
  .rename_i b off l u Y e1 A;rw[P2 Y]at r;cases r;rename_i e p;obtain⟨S,U,C,rfl,rfl⟩:=Ai8 d;have j:=Og (P:=P) I F O J Q (cap:=n) (len:=n) (m:=n) rfl e1 A S U (Yw _) (λg=>absurd rfl g) false w;refine⟨.slice (some (if n=l then⟨e.c,off,none⟩else((⟨e.c,off,none⟩:Addr).add (l*i.s)))) (u-l) (n-l),w,.inl ?_,.quiet _ _ ?_⟩;. simp only[ey]at j;simp[execOp,hy,Instr.sliceAt,run_underlying L,j,sizeOf,typeInfo,T,V,Instr.sureAddr]
   .rw[G1];by_cases k:n=l;. rw[W5 k,W5 k];exact .sl b _ _ _ _ _ e _ p om om (λ_=>rfl) (λg=>by cases g)
    .rw[X2 k,X2 k];exact .sl b _ _ _ _ _ e _ p om om (λ_=>rfl) (λg=>by cases g)
  .cases d
 .cases d
end ops
section ops
variable {dst:Option Tmp}{ty:TypeId}{pos:String}{af:Array Edge}{gd:Option (Nat × Bool)}
def AmG(b:List (Value × Nat)) off(cells:Array _):(b.foldl (λcs p=>cs.setIfInBounds (off+p.2) p.1) cells).size=cells.size:=by induction b generalizing cells with
|nil=>rfl
|cons p b c=>grind
def ApW(b:List Value) off:∀k (cells:Array _) i,off+k+b.length<=cells.size ->
 ((b.zipIdx k).foldl (λcs p=>cs.setIfInBounds (off+p.2) p.1) cells)[i]?=if off+k<=i/\i<off+k+b.length then b[i-(off+k)]? else cells[i]?:=by induction b with
 |nil=>simp_all;omega
 |cons v b c=>simp[List.zipIdx_cons,du];grind
def Aci(O:Pt σ nt f a)(J:Vm G σ){place AcZ:Nat->Option (Nat × Nat)}(C:∀i q,place i=some q->AcZ i=some q):
 ∀(b:List (Nat × Operand)) (cs r:List AV) (D7:Array Value),b.all (λp=>Es G p.2)=true->Xp place f b cs=some r->Bk σ cs D7.toList ->
  ∃o:Array Value,Instr.fill AcZ D7 (b.map λp=>(p.1,a.eval p.2))=some o/\Bk σ r o.toList:=by intro b;induction b with
 |nil=>intro cs r D7 _ d hc;cases d;exact⟨D7,rfl,hc⟩
 |cons p b t=>
  obtain⟨i,x⟩:=p;intro cs r D7 De d hc;simp only[List.all_cons,Em]at De;simp only[Xp]at d;split at d
  .rename_i off size u A I;split at d;. rename_i e l;cases hq:Nat.beq (Q4 u) size with
     |false=>simp_all
     |true=>
      rw[hq]at d;have L:=Ch hq;rw[Gh]at L;have m:=O4 I (Cj O J x De.1);obtain⟨B,_⟩:=Ns l;have s:u.length=(a.eval x).cells.size:=by rw[m.1];simp
      have E:cs.length=D7.size:=by rw[hc.1];simp
      simp only[Co,Instr.fill,C i _ A];rw[X2 (by simp;omega)];refine t e r _ De.2 d ?_;have g:=λi=>ApW (a.eval x).cells.toList off 0 D7 i (by simp;omega);rw[<- Array.foldl_toList];rw[Array.toList_zipIdx];generalize n:((a.eval x).cells.toList.zipIdx 0).foldl (λcs (p:Value × Nat)=>cs.setIfInBounds (off+p.2) p.1) D7=F at g;have D:List.foldl (λcs x=>cs.setIfInBounds (off+x.2) x.1) D7 (a.eval x).cells.toList.zipIdx=F:=n;have K:F.size=D7.size:=by rw[<- n];exact AmG _ _ _
      have k:Bk σ e F.toList:=by
       refine⟨?_,λj y z hy M=>?_⟩;. grind
       .rw[AhU l]at hy;have c:F[j]?=some z:=by simpa using M
        rw[g j]at c;simp only[Mz,Array.length_toList]at c;by_cases hj:off<=j/\j<off+u.length;. rw[W5 hj]at hy;rw[W5 om]at c;exact m.2 (j-off) y z hy c
        .rw[X2 hj]at hy;rw[X2 om]at c;exact hc.2 j y z hy (by grind)
      exact k
   .cases d
  .cases d
def AcV{t}{b}(h:(Op.build t b).operands.toList.all (Es G)=true):b.toList.all (λp=>Es G p.2)=true:=by simpa[Op.operands]using h
def Vi{t}{n}{b}(h:(Op.buildSlice t n b).operands.toList.all (Es G)=true):b.toList.all (λp=>Es G p.2)=true:=by simpa[Op.operands]using h
def AhY P w:∀(l:List _) pl,l.mapM (λf=>(F7 P f.type).map λs=>(f.offset,s))=some pl ->
 (l.mapM (λf=>do pure (f.offset,<- sizeOf f.type):Go.Field->Sem _)).run P w=.ok pl w:=by intro l;induction l with
 |nil=>simp
 |cons f l e=>
  intro pl h;rw[fc]at h;simp only[bind,Option.bind_eq_some_iff,pure,ef,Option.map_eq_some_iff]at h;obtain⟨q,⟨s,c,rfl⟩,d,h2,rfl⟩:=h;obtain⟨i,hi,rfl⟩:=F3 c;have b:(sizeOf f.type).run P w=.ok i.size w:=by simp[sizeOf,typeInfo,hi]
  simp_all
def Afm{t}{pl}{z}(h:AgS P t=.struct pl z):∃b,P.underlying t=some (.struct b)/\I1 P t=some z/\b.toList.mapM (λf=>(F7 P f.type).map λs=>(f.offset,s))=some pl:=by
 unfold AgS at h;split at h
 .split at h;. rename_i d c;unfold places at c;simp_all
  grind
 .grind
 grind
def Am2{t}{s}{z}(h:AgS P t=.arr s z):∃n e b,P.underlying t=some (.array n e)/\I1 P t=some z/\P.info? e=some b/\b.size=s:=by
 unfold AgS at h;split at h;. grind
 .split at h;. rename_i d c;obtain⟨b,h1,h2⟩:=F3 c;grind
  grind
 grind
def Acp t parts:Hm P G ⟨dst,.build t parts,ty,pos,af,gd⟩:=by
 intro σ nt f a h h' w v Z B De x u;have d:=AcV De;have g:Tg t _ ty P Z f h=.ok v _:=B;unfold Tg at g;have c:(parts.map λp=>(p.1,a.eval p.2)).toList=parts.toList.map λp=>(p.1,a.eval p.2):=by simp
 split at g
 .rename_i pl z l;obtain⟨cs,hc,rfl,rfl⟩:=Aaj g;obtain⟨E,r,o,y⟩:=Afm l;obtain⟨i,zz,hi,b,j⟩:=Kn _ o;obtain⟨D,h1,h2⟩:=Aci x u (AcZ:=λi=>pl.toArray[i]?) λi q hq=>by grind _ z _ _ d hc j;refine⟨_,w,.inl ?_,.quiet _ _ (.agg _ _ h2.1 h2.2)⟩;have F:=AhY P w _ _ y;have k:(E.mapM (λf=>do pure (f.offset,<- sizeOf f.type):Go.Field->Sem _)).run P w=.ok pl.toArray w:=by rw[ed];simp_all
  simp only[execOp,Instr.build,zeroValue,typeInfo,Sem.run_bind,run_program,Result.andThen_ok,hi,Sem.run_pure,b,run_underlying r,k,c,h1]
 .rename_i s z l;obtain⟨cs,hc,rfl,rfl⟩:=Aaj g;obtain⟨n,e,C,r,o,m,A⟩:=Am2 l;obtain⟨i,zz,hi,b,j⟩:=Kn _ o;obtain⟨D,h1,h2⟩:=Aci x u (AcZ:=λi=>some _) (λi q hq=>hq) _ z _ _ d hc j;refine⟨_,w,.inl ?_,.quiet _ _ (.agg _ _ h2.1 h2.2)⟩;simp[execOp,Instr.build,zeroValue,typeInfo,sizeOf,Sem.run_bind,run_program,Result.andThen_ok,hi,Sem.run_pure,b,run_underlying r,m,A,c,h1]
 simp_all
def AkD{t}{i}(h:Tw P t=some i):0<i.s:=by
 unfold Tw at h;split at h
 .split at h;. rename_i b z hi d;cases hq:Nat.beq (Q4 z) b.size with
    |false=>simp_all
    |true=>rw[hq]at h;have h':=h;cases c:Nat.blt 0 b.size with
     |false=>simp_all
     |true=>rw[c]at h';cases h';simp_all
  simp_all
 grind
def Pk{t}{i}(h:Tw P t=some i):∃b z zz,P.underlying t=some (.slice i.e)/\P.info? i.e=some b/\b.size=i.s/\b.bytes=i.bytes /\
 I1 P i.e=some z/\b.zero=some zz/\z.length=i.s/\zz.cells.size=i.s/\∀σ,Bk σ z zz.cells.toList:=by
 unfold Tw at h;split at h
 .split at h;. rename_i b z hi g;cases hq:Nat.beq (Q4 z) b.size with
    |false=>simp_all
    |true=>rw[hq]at h;have h':=h;cases d:Nat.blt 0 b.size with
     |false=>simp_all
     |true=>
     rw[d]at h';have e1:=Ch hq;rw[Gh]at e1;obtain⟨c,zz,h1,h2,_⟩:=Kn (λ_=>none) g;have k:∀σ,Bk σ z zz.cells.toList:=by intro σ;obtain⟨c,j,m,n,l⟩:=Kn σ g;simp_all
     have o:=(k λ_=>none).1;grind
  simp_all
 grind
def ArN z:∀n j,j<n*z.length->(Ade z n)[j]?=z[j%z.length]?:=by intro n;induction n with
|zero=>simp
|succ n b=>
 intro j hj;simp[Ade,Dl];by_cases h1:j<z.length;. rw[ck h1,dm h1]
 .rw[bu om];have h2:j-z.length<n*z.length:=by grind
  rw[b _ h2,<- Nat.mod_eq_sub_mod om]
def Aix z:∀n,(Ade z n).length=n*z.length:=by intro n;induction n with
|zero=>simp[Ade]
|succ n b=>simp[Ade,Dl,X8,b,ag];omega
def Aiy{z:List AV}{zz:Array Value}(c:Bk σ z zz.toList) n:Bk σ (Ade z n) ((Array.range (n*z.length)).map λi=>zz[i%zz.size]!).toList:=by
 have d:z.length=zz.size:=by rw[c.1];rfl
 refine⟨by rw[Aix];simp,λi x y b hy=>?_⟩;have hi:i<n*z.length:=by grind
 rw[ArN z n i hi]at b;refine c.2 _ x y b ?_;grind
def Ro t(n:Nat) parts:Hm P G ⟨dst,.buildSlice t n parts,ty,pos,af,gd⟩:=by
 intro σ nt f a h h' w v Z A De I E;have k:=Vi De;have b:Gz t n _ ty P Z f h=.ok v _:=A;unfold Gz at b;have c:(parts.map λp=>(p.1,a.eval p.2)).toList=parts.toList.map λp=>(p.1,a.eval p.2):=by simp
 split at b
 .rename_i i x;obtain⟨C,z,zz,r,hi,o,D,F,e,l,B,y⟩:=Pk x;rw[F]at b;dsimp at b;split at b
  .rename_i cs hc;rcases Bl b with⟨d,u⟩|⟨_,u⟩
   .obtain⟨rfl,rfl⟩:=B4 u;have J:=Ec d;obtain⟨K,h1,h2⟩:=Aci I E (AcZ:=λj=>some _) (λj q hq=>hq) _ _ _ _ k hc (Aiy (y _) n);refine⟨_,_,.inl ?_,.sl _ _ _ n n _ (Yw _) h2⟩;have hn:¬ n*i.s > 2^24:=by omega
    rw[l]at h1;by_cases h0:n*i.s=0
    .have m:∀g:Nat->Value,(Array.range (n*i.s)).map g=#[]:=λg=>by simp_all
     rw[m]at h1;simp[execOp,Instr.buildSlice,typeInfo,sizeOf,Sem.run_bind,run_program,Result.andThen_ok,Sem.run_pure,run_underlying r,hi,o,X2 _,c,m,newRow,Dd];simp_all
    .simp[execOp,Instr.buildSlice,zeroValue,typeInfo,sizeOf,Sem.run_bind,run_program,Result.andThen_ok,Sem.run_pure,run_underlying r,hi,o,e,X2 hn,c,h0,Fl,newRow,run_newObj,Dd,h1]
   grind
  grind
 grind
def Ta(P:Program)(t:TypeId):match Pw P t with
 |.bad=>True
 |.str=>P.underlying t=some .string
 |.sl=>∃e,P.underlying t=some (.slice e):=by
 unfold Pw;cases b:P.underlying t with
 |none=>trivial
 |some d=>cases d<;>first|trivial|exact⟨_,rfl⟩|exact⟨_,_,rfl⟩
def AeE{t:TypeId}{x:AV}(k:Au σ x j)(g:lnK (Pw P t) x h=.ok v h')(w:World)(ts:Array TypeId)(i:ts[0]?=some t):
 ∃v',(Builtin.len_ ts ty #[j]).run P w=.ok v' w/\Au σ v v'/\h'=h:=by
 have c:=Ta P t;cases y:Pw P t with
 |bad=>rw[y]at g;cases g
 |str=>
  rw[y]at g c;have d:lnS x h=.ok v h':=g;cases k<;>first|(cases d;done)|skip
  rename_i s;cases d;refine⟨.int .i64 s.size,?_,?_,rfl⟩
  .simp[Builtin.len_,i,run_underlying c,goInt]
  .rw[Rf,Gv];exact .int _ _
 |sl=>
  rw[y]at g c;obtain⟨e,c⟩:=c;have d:Fo x h=.ok v h':=g;cases k<;>first|(cases d;done)|skip
  .cases d;exact⟨.int .i64 0,by simp[Builtin.len_,i,run_underlying c,goInt],.int _ _,rfl⟩
  .rename_i b off len cap l ex e1 m _ _ _ _ _;cases d;exact⟨.int .i64 len,by simp[Builtin.len_,i,run_underlying c,goInt],.int _ _,rfl⟩
  .cases d;exact⟨.int .i64 0,by simp[Builtin.len_,i,run_underlying c,goInt],.int _ _,rfl⟩
end ops
def Cc(w:World)(c:Nat)(o:Obj):World:={ w with heap:=w.heap.setIfInBounds c o }
def Da w c o j:(Cc w c o).heap[j]?=if j=c/\c<w.heap.size then some o else w.heap[j]?:=by unfold Cc;grind
def Mr w c o:(Cc w c o).heap.size=w.heap.size:=by simp[Cc]
def Dj{w:World}{c}{o}(hc:w.heap[c]?=some o):c<w.heap.size:=(Lp.1 hc).1
def Ak8{w}{c i}{v}{arr}{t}{fz}(hc:w.heap[c]?=some (.cells arr t fz)):
 w.setCell ⟨c,i,none⟩ v=Cc w c (.cells (arr.setIfInBounds i v) t fz):=by unfold World.setCell Cc;congr 1;grind
def J9(arr:Array Value)(o:Nat)(b:List Value):Array Value:=(arr.toList.take o++b++arr.toList.drop (o+b.length)).toArray
def Nz{arr}{o:Nat}{b:List _}(c:o+b.length<=arr.size)(i):
 (J9 arr o b)[i]?=if o<=i/\i<o+b.length then b[i-o]? else arr[i]?:=by
 unfold J9;have d:arr.toList.length=arr.size:=by rfl
 simp only[bl];by_cases h2:i<o
 .grind
 grind
def O2{arr}{o}{b}(c:o+b.length<=arr.size):(J9 arr o b).size=arr.size:=by unfold J9;grind
def AgQ{arr}{o}{v}{b}(c:o+(b.length+1)<=arr.size):
 J9 (arr.setIfInBounds o v) (o+1) b=J9 arr o (v::b):=by apply Array.ext_getElem?;intro i;rw[Nz (by grind),Nz om];grind
def AdY w c o o':Cc (Cc w c o) c o'=Cc w c o':=by unfold Cc;simp
def Nl(P:Program)(c off:Nat)(t:TypeId)(lo hi:Nat):∀(b:List Value) (i:Nat) (arr:Array Value) (w:World),w.heap[c]?=some (.cells arr t (lo,hi)) ->
 off+i+b.length<=arr.size->(∀j,off+i<=j->j<off+i+b.length->¬ (lo<=j/\j<hi))->(∀v∈b,v.oneCell'=true) ->
 (storeCells ⟨c,off,none⟩ b i).run P w=.ok () (Cc w c (.cells (J9 arr (off+i) b) t (lo,hi)))
 |[],i,arr,w,hc,hle,_,_=>by
  have e:J9 arr (off+i) []=arr:=by unfold J9;simp
  rw[e];simp only[storeCells,Sem.run_pure];congr 1;unfold Cc;have r:=Dj hc;have:w.heap.setIfInBounds c (.cells arr t (lo,hi))=w.heap:=by grind
  simp[*]
 |v::b,i,arr,w,hc,hle,d,g=>by
  simp only[R6]at hle d;have q:w.cell? ((⟨c,off,none⟩:Addr).add i)=some arr[off+i]:=by rw[G1];simp[World.cell?,hc]
  have m:w.frozen? ((⟨c,off,none⟩:Addr).add i)=false:=by rw[G1];simp only[World.frozen?,hc];simp_all
  have k:=run_store P w ((⟨c,off,none⟩:Addr).add i) v .plain (g v (by simp));rw[q,m]at k;simp only[Mh,Fl]at k;rw[G1,Ak8 hc]at k;have l:(Cc w c (.cells (arr.setIfInBounds (off+i) v) t (lo,hi))).heap[c]?=some (.cells (arr.setIfInBounds (off+i) v) t (lo,hi)):=by rw[Da,W5 ⟨rfl,Dj hc⟩]
  have n:=Nl P c off t lo hi b (i+1) _ _ l (by grind) (λj h1 h2=>d j om om) (λu p=>g u (by simp[p]));have o:storeCells ⟨c,off,none⟩ (v::b) i=(do store ((⟨c,off,none⟩:Addr).add i) v;storeCells ⟨c,off,none⟩ b (i+1)):=by rfl
  rw[o,Sem.run_bind,G1,k,Result.andThen_ok,n,AdY];congr 3;have:off+(i+1)=off+i+1:=by omega
  rw[this];exact AgQ om
def AjZ{n}{o}(b:AlH n o=true):o=.Fb n:=by cases o<;>first|(cases b)|skip;rename_i m;have:=Ch (show Nat.beq m n=true from b);grind
def rd_some{b}{c}(i:h.rd b=some c):∃t k,h.m.get b=.cells c t k/\Adp h.m.get k:=by have d:rdO _ h=some c:=i;cases g:h.m.get b with
|cells l t k=>rw[g]at d;have e:=d;cases k with
 |Cf cl st=>have:ArJ _ _ l h=some c:=e;unfold ArJ at this;cases hq:AlH st (h.m.get cl)with
  |false=>simp_all
  |true=>rw[hq]at this;cases this;exact⟨t,_,rfl,AjZ hq⟩
 |exact=>cases e;exact⟨t,_,rfl,trivial⟩
 |fz cl=>cases e;exact⟨t,_,rfl,trivial⟩
 |Gt cl=>cases e;exact⟨t,_,rfl,trivial⟩
|_=>rw[g]at d;cases d
def No{b}{c}{e}(g:h.rd b=some c)(d:Gr G σ h.m.get e w (h.m.get b)):
 ∃(arr:Array _) (t:TypeId) (fz:Nat × Nat),w.heap[e.c]?=some (.cells arr t fz)/\arr.size=e.N/\c.length<=e.N/\∀(i:Nat) x y,c[i]?=some x->arr[i]?=some y->Au σ x y:=by obtain⟨t,k,j,l⟩:=rd_some g;rw[j]at d;obtain⟨arr,lo,hi,h1,h2,n,o,_⟩:=d.2 l;grind
def Xj{c i}{arr}{t}{fz}(hc:w.heap[c]?=some (.cells arr t fz)):w.cell? ⟨c,i,none⟩=arr[i]?:=by simp[World.cell?,hc]
def Mo{c off n}{arr}{t}{fz}(hc:w.heap[c]?=some (.cells arr t fz))(b:off+n<=arr.size):
 (loadCells ⟨c,off,none⟩ n).run P w=.ok ((arr.toList.drop off).take n).toArray w:=by
 have:=run_loadCells_list (P:=P) w ⟨c,off,_⟩ ((arr.toList.drop off).take n) λj v hj=>by rw[G1,Xj hc];grind
 grind
def Uj{c}{arr:Array _}{off n}{r}(d:Nf c off n=some r)(e:∀(i:Nat) x y,c[i]?=some x->arr[i]?=some y->Au σ x y)(b:c.length<=arr.size):
 Bk σ r ((arr.toList.drop off).take n):=by obtain⟨h1,rfl,h2⟩:=Js d;refine⟨by grind,λi x y g hy=>?_⟩;grind
def AhN{t}{c}{off}{e:SE}{arr}{ty}{fz}(b:Tn (Ft P t) c off=some v)(hc:w.heap[e.c]?=some (.cells arr ty fz))
 (hle:c.length<=arr.size) (hr:∀(i:Nat) x y,c[i]?=some x->arr[i]?=some y->Au σ x y):
 ∃v',(loadVar t ⟨e.c,off,none⟩).run P w=.ok v' w/\Au σ v v':=by
 unfold Tn at b;split at b;. rename_i d;rw[Ab6]at b;have hi:=(R4.1 b).1;have hy:arr[off]?=some arr[off]:=S2 _;refine⟨_,?_,hr _ v _ b hy⟩;simp[loadVar,Sem.run_bind,Vv d,Result.andThen_ok,Mh,Fl,run_load,Xj hc,hy]
 .rename_i n d;cases g:Nf c off n with
  |none=>grind
  |some r=>simp[g]at b;subst b;have:=Uj g hr hle;refine⟨_,?_,.agg _ _ this.1 this.2⟩;obtain⟨h1,_,_⟩:=Js g;simp[loadVar,Sem.run_bind,(Kj d w).1,(Kj d w).2,Result.andThen_ok,Jr,Mo hc (show off+n<=arr.size by omega),Sem.run_pure]
 grind
def Ae0{dst}{ty}{pos}{af}{gd} t x{Z}
 (he:opD (.load t x) ty P Z f h=.ok v h') (De:Es G x=true) (hf:Pt σ nt f a) (hg:Vm G σ)
 (hm:∀b off e,ev x f=.ptr b off->σ b=some e->Gr G σ h.m.get e w (h.m.get b)):
 ∃v',Ran P (execOp a.eval ⟨dst,.load t x,ty,pos,af,gd⟩) w v' w/\Au σ v v'/\h'=h:=by have z:=Cj hf hg x De;have p:ldV _ _ h=.ok v _:=he;generalize ev x f=u at *;generalize hy:a.eval x=y at *;cases z<;>first|(cases p)|skip;rename_i b off e B;have g:ldC _ _ _ h=.ok v _:=p;cases l:h.rd b with
 |none=>rw[l]at g;cases g
 |some c=>
  rw[l]at g;obtain⟨arr,tt,fz,h1,h2,D,A⟩:=No l (hm b _ e rfl B);have o:Tn (Ft P t) c off=some v/\h'=h:=by have d:=g;cases q:Ft P t with
   |none=>rw[q]at d;cases d
   |some i=>rw[q]at d;cases i with
    |none=>obtain⟨j,k⟩:=AbA (show Py _ h=.ok v _ from d);exact⟨j,k⟩
    |some n=>obtain⟨cs,j,rfl,k⟩:=Aaj (show Ly _ h=.ok v _ from d);exact⟨by simp[Tn,j],k⟩
  obtain⟨s,rfl⟩:=o;obtain⟨v',r,C⟩:=AhN s h1 om A;refine⟨_,.inl ?_,C,rfl⟩;simp[execOp,hy,Instr.loadAt,Instr.sureAddr,r]
def Ph(h:H) b o(c:b<Bq) j(hj:j<Bq):(h.put b o).m.get j=if j=b then o else h.m.get j:=KM.Dh _ b j o c hj
def Ni(h:H) o(b:h.nx<Bq) j(hj:j<Bq):(h.new o).m.get j=if j=h.nx then o else h.m.get j:=KM.Dh _ _ j o b hj
def Ab7(hi:Om h){b}(c:b<Bq)(hn:h.m.get b≠.none):b<h.nx:=by
 rcases Fv b _ with h1|h1;. omega
 .exact absurd (hi.Rm b h1 c) hn
def Hh{b:Nat}{e:SE}{r:AO}(hi:Om h)(A:SOk σ w)(O:V1 G σ h.m.get w)(B:σ b=some e)(J:h.m.get b=C)(D:C≠.none)(R:∀n,C≠.Fb n)
 (hc:Ej C=none) (Wh:Ej r=none) (hk:e.k=none) (A4d:∀n,r≠.Fb n) (hr:Gr G σ (h.put b r).m.get e (Cc w e.c p) r):
 Out G σ h w σ (h.put b r) (Cc w e.c p):=by
 have I:=A.low b e B;have E:=Ab7 hi I (by rw[J];exact D);have o:=λj hj=>Ph h b r I j hj;have q:M2 r=none:=by cases r with
  |cells l t k=>cases k<;>first|rfl|(cases Wh;done)
  |_=>rfl
 have F:∀l t k st,r≠.cells l t (.Cf k st):=by rintro l t k st rfl;cases Wh
 refine⟨[b],⟨rfl,Yw _,?_,?_,?_,?_,?_,⟨hi.top,?_,?_,?_,?_,?_⟩,λx g _ _=>by rw[Qv]at g;subst g;rw[J];exact D⟩,⟨Qq.refl σ,?_,?_,?_,?_,?_,⟨rfl,rfl⟩⟩,?_⟩;. intro x g;rw[Qv]at g;subst g;exact E
 .intro x h1 h2 d;rw[o x h1,X2 (λe=>d (by simp[e]))]
 .grind
 .intro x k h1 h2;exact absurd h2 (by show ¬ x<h.nx;omega)
 .grind
 .intro x h1 h2;rw[o x h2,X2 (by have:h.nx<=x:=h1;omega)];exact hi.Rm x h1 h2
 .intro x k h1 h2;rw[o x h1]at h2;split at h2;. rw[Wh]at h2;cases h2
  .obtain⟨d,n,i⟩:=hi.N3 x k h1 h2;refine⟨d,n,?_⟩;have z:k<Bq:=by have:=hi.top;omega
   grind
 .intro x y k h1 h2 d i;rw[o x h1]at d;rw[o y h2]at i;split at d;. rw[q]at d;cases d
  .split at i;. rw[q]at i;cases i
   .exact hi.Gt x y k h1 h2 d i
 .intro x l t k st n h1 h2 d;rw[o x h1]at h2;split at h2;. exact absurd h2 (F _ _ _ _)
  .obtain⟨U,T,V⟩:=hi.N3 x k h1 (by rw[h2];rfl);have z:k<Bq:=by have:=hi.top;omega
   rw[o k z]at d;split at d;. exact absurd d (A4d n)
   .exact hi.Tx x l t k st n h1 h2 d
 .intro x y l t k st Q t2 h1 h2 d i;rw[o x h1]at d;rw[o y h2]at i;split at d;. exact absurd d (F _ _ _ _)
  .split at i;. rw[i]at q;cases q
   .exact hi.len x y l t k st Q t2 h1 h2 d i
 .intro x e' h1 h2;rw[h1]at h2;cases h2
 .exact⟨A.inj,λx e' g=>by rw[Mr];exact A.rng x e' g,A.low⟩
 .rw[Mr];exact Yw _
 .intro c h1 h2;rw[Da,X2];rintro ⟨rfl,_⟩;exact h2 b (by simp) e B rfl
 .intro x e' h1 h2;rw[h1]at h2;cases h2
 .intro x e' g;have K:=A.low x e' g;rw[o x K];by_cases s:x=b;. subst s;rw[W5 rfl];rw[B]at g;cases g;exact hr
  .rw[X2 s];have u:e'.c≠e.c:=by
    intro u;rcases A.inj x b e' e g B u with h1|⟨h1,h2⟩;. exact s h1
    .rw[h1,hk]at h2;exact h2 rfl
   refine Gr.congr (Qq.refl σ) (by rw[Da,X2 (λL=>u L.1)]) ?_ (O x e' g);intro l t k st M S;have z:k<Bq:=by have:=(hi.N3 x k K (by rw[M];rfl)).1;have:=hi.top;omega
   grind
def AhV{c k e}{off}{arr}{b}(g:Ng c e off=some k)(l:c.length<=arr.size)(j:Bk σ e b)
 (hr:∀(i:Nat) x y,c[i]?=some x->arr[i]?=some y->Au σ x y):∀(i:Nat) x y,k[i]?=some x->(J9 arr off b)[i]?=some y->Au σ x y:=by
 intro i x y d hy;obtain⟨h1,_⟩:=Ns g;have h2:=j.1;rw[AhU g]at d;rw[Nz om]at hy;by_cases hj:off<=i/\i<off+e.length;. rw[W5 hj]at d;rw[W5 om]at hy;exact j.2 _ x y d hy
 grind
def AiL{b off}{l}(p:h.wr b off l=.ok h'):
 (∃c t g,h.m.get b=.cells c t .exact/\Ng c l off=some g/\h'=h.put b (.cells g t .exact)) \/
 ∃c t k n g,h.m.get b=.cells c t (.Gt k)/\h.m.get k=.Fb n/\Ng c l off=some g/\h'=(h.put b (.cells g t (.Gt k))).put k (.Fb (n+1)):=by have e:wrO _ b _ _ h=.ok _:=p;cases o:h.m.get b with
 |cells c t k=>rw[o]at e;have i:=e;cases k with
  |exact=>have d:wrL _ b t h=.ok _:=i;cases j:Ng c .. with
   |none=>rw[j]at d;cases d
   |some g=>rw[j]at d;cases d;grind
  |Gt cl=>
   have d:wrT _ _ _ b t h=.ok _:=i;unfold wrT at d;split at d
   .rename_i g n j hn;have:h.m.get cl=.Fb n:=by cases hq:h.m.get _<;>rw[hq]at hn<;>cases hn;rfl
    grind
   grind
  |fz cl=>cases i
  |Cf cl st=>cases i
 |_=>rw[o]at e;cases e
def Ys{b k n u:Nat}{l l':List AV}{t:TypeId}{q:CK}{ob:Obj}(hi:Om h)(K:SOk σ w)(Y:V1 G σ h.m.get w)(S:σ b=some o)
 (ho:h.m.get b=.cells l t (.Gt k)) (S3:h.m.get k=.Fb n) (hkk:(q=.Gt k/\u=n+1)\/(q=.fz k/\u=n/\∀x y,σ x=some y->y.c=o.c->x≠b->∀l t st,h.m.get x=.cells l t (.Cf k st)->Gr G σ h.m.get y (Cc w o.c ob) (h.m.get x)))
 (S4:l'.length=l.length) (hr:Gr G σ ((h.put b (.cells l' t q)).put k (.Fb u)).m.get o (Cc w o.c ob) (.cells l' t q)):
 Out G σ h w σ ((h.put b (.cells l' t q)).put k (.Fb u)) (Cc w o.c ob):=by
 have T:=K.low b o S;have hbn:=Ab7 hi T (by rw[ho];simp);obtain⟨A3T,_⟩:=hi.N3 b k T (by rw[ho];rfl);have J:k<Bq:=by have:=hi.top;omega
 have hkb:k≠b:=by rintro rfl;rw[ho]at S3;cases S3
 have Vb:Ahd q=some k:=by rcases hkk with⟨rfl,_⟩|⟨rfl,_⟩<;>rfl
 have U:M2 (.cells l' t q)=some k:=by rcases hkk with⟨rfl,_⟩|⟨rfl,_⟩<;>rfl
 have Q:∀r t2 d st,AO.cells l' t q≠.cells r t2 (.Cf d st):=by rintro r t2 d st hh;rcases hkk with⟨rfl,_⟩|⟨rfl,_⟩<;>cases hh
 have Zo:n<=u:=by rcases hkk with⟨_,rfl⟩|⟨_,rfl,_⟩<;>omega
 have B:o.k=some k:=by have:=Y b o S;rw[ho]at this;exact this.1
 have s:∀j,j<Bq->((h.put b (.cells l' t q)).put k (.Fb u)).m.get j=if j=k then .Fb u else if j=b then .cells l' t q else h.m.get j:=by intro j hj;rw[Ph _ _ _ J j hj,Ph _ _ _ T j hj]
 generalize R:(h.put b (.cells l' t q)).put k (.Fb u)=h' at *
 have hnx:h'.nx=h.nx:=by rw[<- R];rfl
 have hlg:h'.lg=[k,b]++h.lg:=by rw[<- R];rfl
 refine⟨[k,b],⟨hlg,by omega,?_,?_,?_,?_,?_,⟨by rw[hnx];exact hi.top,?_,?_,?_,?_,?_⟩,λx e _ _=>by simp at e;rcases e with rfl|rfl;(rw[S3];simp);(rw[ho];simp)⟩,⟨Qq.refl σ,?_,?_,?_,?_,?_,⟨rfl,rfl⟩⟩,?_⟩
 .intro x e;simp at e;rcases e with rfl|rfl<;>omega
 .intro x h1 h2 g;simp at g;rw[s x h1,X2 g.1,X2 g.2]
 .intro x e d h1 h2;simp at e;rcases e with rfl|rfl
  .rw[S3]at h2;cases h2
  .rw[ho]at h2;cases h2;simp
 .intro x d h1 h2;omega
 .intro x d h1 h2 g;rw[s x h2]at g;split at g
  .cases g
  .split at g
   .rename_i _ p;subst p;rw[ho];rw[show Ej (.cells l' t q)=Ahd q from rfl,Vb]at g
    exact g
   .exact g
 .intro x h1 h2;rw[s x h2,X2 om,X2 om];exact hi.Rm x om h2
 .intro x d h1 h2;rw[s x h1]at h2;have key:d=k\/Ej (h.m.get x)=some d:=by
   split at h2
   .cases h2
   .split at h2
    .rw[show Ej (.cells l' t q)=Ahd q from rfl,Vb]at h2
     cases h2;exact .inl rfl
    .exact .inr h2
  rcases key with rfl|g
  .exact⟨by omega,u,by rw[s _ J,W5 rfl]⟩
  .obtain⟨g1,m,X⟩:=hi.N3 x d h1 g;refine⟨by omega,?_⟩;rw[s d (by have:=hi.top;omega)]
   by_cases hq:d=k
   .exact⟨u,by rw[W5 hq]⟩
   .rw[X2 hq,X2 (λo=>by subst o;rw[ho]at X;cases X)];exact⟨m,X⟩
 .intro x y d h1 h2 g D;rw[s x h1]at g;rw[s y h2]at D;have tr:∀z,M2 (if z=k then .Fb u else if z=b then .cells l' t q else h.m.get z)=some d->M2 (h.m.get z)=some d:=by
   intro z O;split at O
   .cases O
   .split at O
    .rename_i _ hzb;subst hzb;rw[U]at O;rw[ho];exact O
    .exact O
  exact hi.Gt x y d h1 h2 (tr x g) (tr y D)
 .intro x r t2 d st m h1 h2 g;rw[s x h1]at h2;split at h2
  .cases h2
  .split at h2
   .exact absurd h2 (Q _ _ _ _)
   .obtain⟨g1,m2,X⟩:=hi.N3 x d h1 (by rw[h2];rfl);rw[s d (by have:=hi.top;omega)]at g
    split at g
    .rename_i hq;subst hq;cases g;have:=hi.Tx x r t2 d st n h1 h2 S3;omega
    .split at g
     .cases g
     .exact hi.Tx x r t2 d st m h1 h2 g
 .intro x y r t2 d st l3 t3 h1 h2 g D;rw[s x h1]at g;rw[s y h2]at D;split at g
  .cases g
  .split at g
   .exact absurd g (Q _ _ _ _)
   .split at D
    .cases D
    .split at D
     .rename_i _ hyb;subst hyb;cases D;have:d=k:=by have:=U;simp[M2]at this;exact this
      subst this;rw[S4];exact hi.len x _ r t2 _ st l _ h1 h2 g ho
     .exact hi.len x y r t2 d st l3 t3 h1 h2 g D
 .intro x e' h1 h2;rw[h1]at h2;cases h2
 .exact⟨K.inj,λx e' e=>by rw[Mr];exact K.rng x e' e,K.low⟩
 .rw[Mr];exact Yw _
 .intro c h1 h2;rw[Da,X2];rintro ⟨rfl,_⟩;exact h2 b (by simp) o S rfl
 .intro x e' h1 h2;rw[h1]at h2;cases h2
 .intro x e' e;have M:=K.low x e' e;rw[s x M];by_cases F:x=k
  .rw[W5 F];subst F;have V:=Y _ _ e;rw[S3]at V;exact V
  rw[X2 F];by_cases p:x=b
  .subst p;rw[W5 rfl];rw[S]at e;cases e;exact hr
  .rw[X2 p];have S7:∀r t2 d st,h.m.get x=.cells r t2 (.Cf d st)->h'.m.get d=.Fb st->h.m.get d=.Fb st:=by
    intro r t2 d st hl E;have L:d<Bq:=by have:=(hi.N3 x d M (by rw[hl];rfl)).1;have:=hi.top;omega
    rw[s d L]at E;split at E
    .rename_i hq;subst hq;cases E;have:=hi.Tx x r t2 d u n M hl S3;have:u=n:=by omega
     rw[this];exact S3
    .split at E
     .cases E
     .exact E
   by_cases I:e'.c=o.c
   .rcases K.inj x b e' o e S I with h1|⟨h1,h2⟩
    .exact absurd h1 p
    .have C:=Y x e' e;cases i:h.m.get x with
     |none=>trivial
     |Fb m=>rw[i]at C;have A:e'.k=none:=C;rw[h1,B]at A;cases A
     |map es=>rw[i]at C;have A:=C.1;rw[h1,B]at A;cases A
     |loop a1 a2 a3 a4 a5 a6=>rw[i]at C;have A:=C.1;rw[h1,B]at A;cases A
     |dfr tk=>rw[i]at C;have A:=C.1;rw[h1,B]at A;cases A
     |cells r t2 d=>
      rw[i]at C;have L:Ahd d=some k:=by rw[<- C.1,h1,B]
      cases d with
      |exact=>cases L
      |Gt kx=>cases L;exact absurd (hi.Gt x b k M T (by rw[i];rfl) (by rw[ho];rfl)) p
      |fz kx=>cases L;exact absurd (hi.Gt x b k M T (by rw[i];rfl) (by rw[ho];rfl)) p
      |Cf kx st=>
       cases L;rcases hkk with⟨_,rfl⟩|⟨_,rfl,hfz⟩
       .refine⟨C.1,λE=>?_⟩;have W:h'.m.get k=.Fb st:=E;rw[s k J,W5 rfl]at W;cases W;have:=hi.Tx x r t2 k (n+1) n M i S3;omega
       .have:=hfz x e' e I p r t2 st i;rw[i]at this;exact Gr.congr (Qq.refl σ) rfl (λa1 a2 a3 a4 e5 e6=>S7 a1 a2 a3 a4 (by rw[i];exact e5) e6) this
   .refine Gr.congr (Qq.refl σ) (by rw[Da,X2 (λhh=>I hh.1)]) (λa1 a2 a3 a4 e5 e6=>S7 a1 a2 a3 a4 e5 e6) (Y x e' e)
def Agp{b off:Nat}{A:List AV}{d:List Value}(I:h.wr b off A=.ok h')(hi:Om h)(z:SOk σ w)(r:V1 G σ h.m.get w)(q:σ b=some o)(x:Bk σ A d)
 (AdM:∀u∈d,u.oneCell'=true):
 ∃w',(storeCells ⟨o.c,off,none⟩ d).run P w=.ok () w'/\Out G σ h w σ h' w':=by
 have M:=x.1;rcases AiL I with⟨c,t,K,e,l,rfl⟩|⟨c,t,k,n,K,e,J,l,rfl⟩
 .have i:=r b o q;rw[e]at i;obtain⟨arr,lo,g,h1,h2,L,y,B,s⟩:=i.2 trivial;obtain⟨E,_⟩:=Ns l;have C:=B rfl;have p:off+d.length<=arr.size:=by omega
  refine⟨_,Nl P o.c off t lo g d 0 arr w h1 (by simpa using p) (λj F D=>s trivial j om) AdM,?_⟩;refine Hh hi z r q e (by simp) (by simp) rfl rfl i.1 (by simp) ?_;refine⟨i.1,λ_=>⟨J9 arr (off+0) d,lo,g,?_,?_,?_,?_,?_,?_⟩⟩;. rw[Da,W5 ⟨rfl,Dj h1⟩]
  .rw[O2 (by simpa using p)];exact h2
  .simp_all;omega
  .simp only[Mz];exact AhV l om x y
  .grind
  .exact s
 .have i:=r b o q;rw[e]at i;obtain⟨arr,lo,g,h1,h2,L,y,B,s⟩:=i.2 trivial;obtain⟨E,_⟩:=Ns l;have p:off+d.length<=arr.size:=by omega
  refine⟨_,Nl P o.c off t lo g d 0 arr w h1 (by simpa using p) (λj F D=>s trivial j om) AdM,?_⟩;refine Ys hi z r q e J (.inl ⟨rfl,rfl⟩) (Mi l) ?_;refine⟨i.1,λ_=>⟨J9 arr (off+0) d,lo,g,?_,?_,?_,?_,?_,?_⟩⟩;. rw[Da,W5 ⟨rfl,Dj h1⟩]
  .rw[O2 (by simpa using p)];exact h2
  .grind
  .simp only[Mz];exact AhV l om x y
  simp_all;omega
def Gu(σ:Dx)(b:Nat)(e:SE):Dx:=λx=>if x=b then some e else σ x
def Ip{b}{e}(c:σ b=none):Qq σ (Gu σ b e):=by intro x e' d;unfold Gu;grind
def Lq w o j(hj:j<w.heap.size):(Dd w o).heap[j]?=w.heap[j]?:=by show(w.heap.push o)[j]?=_;grind
def F1 w o:(Dd w o).heap[w.heap.size]?=some o:=by show(w.heap.push o)[w.heap.size]?=_;simp
def size_push w o:(Dd w o).heap.size=w.heap.size+1:=by show(w.heap.push o).size=_;simp
def SOk.push{b}{e}(d:SOk σ w) ob(i:b<Bq)(j:e.c=w.heap.size):SOk (Gu σ b e) (Dd w ob):=by
 refine⟨?_,?_,?_⟩
 .intro x y e1 k h1 h2 g;unfold Gu at h1 h2;split at h1
  .cases h1;split at h2;. grind
   .have:=d.rng y _ h2;omega
  .split at h2;. cases h2;have:=d.rng x _ h1;omega
   .exact d.inj x y _ _ h1 h2 g
 .intro x e1 h1;rw[size_push];unfold Gu at h1;split at h1;. grind
  .have:=d.rng x _ h1;omega
 .intro x e1 h1;unfold Gu at h1;split at h1;. omega
  .exact d.low x _ h1
def Yf(hi:Om h)(z:SOk σ w)(J:V1 G σ h.m.get w)(A:h.nx<Bq)(F:σ h.nx=none)(hc:Ej C=none)(I:o.c=w.heap.size)
 (hr:Gr G (Gu σ h.nx o) (h.new C).m.get o (Dd w p) C):Out G σ h w (Gu σ h.nx o) (h.new C) (Dd w p):=by
 have g:=λj hj=>Ni h C A j hj;have s:M2 C=none:=by cases C with
  |cells l t k=>cases k<;>first|rfl|(cases hc;done)
  |_=>rfl
 have e:∀l t k st,C≠.cells l t (.Cf k st):=by rintro l t k st rfl;cases hc
 have M:(h.new C).nx=h.nx+1:=rfl;have B:∀x k,x<Bq->Ej (h.m.get x)=some k->k<h.nx/\k≠h.nx/\k<Bq:=by intro x k h1 h2;have:=(hi.N3 x k h1 h2).1;omega
 refine⟨[],⟨rfl,by omega,λb u=>(by cases u),?_,λb u=>(by cases u),?_,?_,⟨by omega,?_,?_,?_,?_,?_⟩,λb u=>(by cases u)⟩,⟨Ip F,?_,z.push p A I,?_,?_,?_,⟨rfl,rfl⟩⟩,?_⟩;. intro x h1 h2 _;rw[g x h1,X2 om]
 .grind
 .intro x k h1 h2 d;rw[g x h2,X2 om]at d;exact d
 .intro x h1 h2;rw[g x h2,X2 om];exact hi.Rm x om h2
 .intro x k h1 h2;rw[g x h1]at h2;split at h2;. rw[hc]at h2;cases h2
  .obtain⟨d,n,i⟩:=hi.N3 x k h1 h2;grind
 .intro x y k h1 h2 d i;rw[g x h1]at d;rw[g y h2]at i;split at d;. rw[s]at d;cases d
  .split at i;. rw[s]at i;cases i
   .exact hi.Gt x y k h1 h2 d i
 .intro x l t k st n h1 h2 d;rw[g x h1]at h2;split at h2;. exact absurd h2 (e _ _ _ _)
  .have:=B x k h1 (by rw[h2];rfl);rw[g k this.2.2,X2 this.2.1]at d;exact hi.Tx x l t k st n h1 h2 d
 .intro x y l t k st L t2 h1 h2 d i;rw[g x h1]at d;rw[g y h2]at i;split at d;. exact absurd d (e _ _ _ _)
  .split at i;. rw[i]at s;cases s
   .exact hi.len x y l t k st L t2 h1 h2 d i
 .intro x e' h1 h2;unfold Gu at h2;split at h2;. omega
  .rw[h1]at h2;cases h2
 .rw[size_push];omega
 .intro c h1 _;exact Lq w p c h1
 .intro x e' h1 h2;unfold Gu at h2;split at h2;. cases h2;left;omega
  .rw[h1]at h2;cases h2
 .intro x e' r;unfold Gu at r;split at r;. rename_i q;cases r;subst q;rw[g _ A,W5 rfl];exact hr
  .rename_i q;have E:=z.low x e' r;rw[g x E,X2 q];refine Gr.congr (Ip F) (Lq w p _ (z.rng x e' r)) ?_ (J x e' r);intro l t k st K D;have:=B x k E (by rw[K];rfl);rw[g k this.2.2,X2 this.2.1]at D;exact D
def Bk.Zm{cs}{D7:Array _}(hc:Bk σ cs D7.toList):∀(i:Nat) x y,cs[i]?=some x->D7[i]?=some y->Au σ x y:=
 λi x y b hy=>hc.2 i x y b (by grind)
def Tc{cs}{D7}{t}(hi:Om h)(d:SOk σ w)(e:V1 G σ h.m.get w)(j:h.nx<Bq)(c:σ h.nx=none)(hc:Bk σ cs D7.toList):
 Out G σ h w (Gu σ h.nx ⟨w.heap.size,cs.length,none⟩) (h.new (.cells cs t .exact)) (Dd w (.cells D7 t)):=by
 have b:cs.length=D7.size:=by rw[hc.1];rfl
 refine Yf hi d e j c rfl rfl ⟨rfl,λ_=>⟨_,0,0,F1 w _,by grind,Yw _,λi x y g hy=>(hc.Zm i x y g hy).mono (Ip c),λ_=>rfl,λ_ i _=>by simp⟩⟩
variable {w':World}
def Ae4{cs:List AV}{t:TypeId}{arr:Array Value}{fz:Nat × Nat}(hi:Om h)(B:SOk σ w)(Q:V1 G σ h.m.get w)(C:h.nx+1<Bq)(D:σ h.nx=none)(F:σ (h.nx+1)=none)
 (hle:cs.length<=arr.size) (hr:∀(i:Nat) (x:AV) (y:Value),cs[i]?=some x->arr[i]?=some y->Au σ x y) (hfz:∀i,i<arr.size->¬ (fz.1<=i/\i<fz.2)):
 Out G σ h w (Gu σ (h.nx+1) ⟨w.heap.size,arr.size,some h.nx⟩) ((h.new (.Fb 0)).new (.cells cs t (.Gt h.nx))) (Dd w (.cells arr t fz)):=by
 have g:∀j,j<Bq->((h.new (.Fb 0)).new (.cells cs t (.Gt h.nx))).m.get j=if j=h.nx+1 then .cells cs t (.Gt h.nx)else if j=h.nx then .Fb 0 else h.m.get j:=by intro j hj;rw[Ni _ _ (show(h.new (.Fb 0)).nx<Bq from C) j hj,Ni _ _ om j hj];rfl
 generalize u:(h.new (.Fb 0)).new (.cells cs t (.Gt h.nx))=h' at *;have S:h'.nx=h.nx+2:=by rw[<- u];rfl
 have E:h'.lg=[]++h.lg:=by rw[<- u];rfl
 have I:∀x k,x<Bq->Ej (h.m.get x)=some k->k<h.nx:=λx k h1 h2=>(hi.N3 x k h1 h2).1;have s:∀x l t k st,x<Bq->h.m.get x=.cells l t (.Cf k st)->k<h.nx:=λx l t k st h1 h2=>I x k h1 (by rw[h2];rfl);refine⟨[],⟨E,by omega,λb A=>(by cases A),?_,λb A=>(by cases A),?_,?_,⟨by omega,?_,?_,?_,?_,?_⟩,λb A=>(by cases A)⟩,⟨Ip F,?_,B.push _ C rfl,?_,?_,?_,⟨rfl,rfl⟩⟩,?_⟩;. intro x h1 h2 _;rw[g x h1,X2 om,X2 om]
 .intro x k h1 h2 e d;rw[g x e]at d;split at d;. cases d;exact .inr (Yw _)
  .split at d;. cases d
   .omega
 .intro x k h1 h2 e;rw[g x h2,X2 om,X2 om]at e;exact e
 .intro x h1 h2;rw[g x h2,X2 om,X2 om];exact hi.Rm x om h2
 .intro x k h1 h2;rw[g x h1]at h2;split at h2;. cases h2;exact⟨by omega,0,by rw[g _ om,X2 om,W5 rfl]⟩
  .split at h2;. cases h2
   .obtain⟨e,n,d⟩:=hi.N3 x k h1 h2;refine⟨by omega,n,?_⟩;rw[g k om,X2 om,X2 om];exact d
 .intro x y k h1 h2 e d;rw[g x h1]at e;rw[g y h2]at d;have Cf:∀z,z<Bq->M2 (h.m.get z)=some k->k<h.nx:=by intro z V p;refine I z k V ?_;cases hq:h.m.get z with
   |cells q t2 U=>rw[hq]at p;cases U<;>cases p<;>rfl
   |_=>rw[hq]at p;cases p
  split at e
  .cases e;split at d;. omega
   .split at d;. cases d
    .have:=Cf y h2 d;omega
  .split at e;. cases e
   .split at d;. cases d;have:=Cf x h1 e;omega
    .split at d;. cases d
     .exact hi.Gt x y k h1 h2 e d
 .intro x q t2 k st n h1 h2 e;rw[g x h1]at h2;split at h2;. cases h2
  .split at h2;. cases h2
   .have:=s x q t2 k st h1 h2;rw[g k om,X2 om,X2 om]at e;exact hi.Tx x q t2 k st n h1 h2 e
 .intro x y q t2 k st M t3 h1 h2 e d;rw[g x h1]at e;rw[g y h2]at d;split at e;. cases e
  .split at e;. cases e
   .have:=s x q t2 k st h1 e;split at d;. cases d;omega
    .split at d;. cases d
     .exact hi.len x y q t2 k st M t3 h1 h2 e d
 .intro x e' h1 h2;unfold Gu at h2;split at h2;. omega
  .rw[h1]at h2;cases h2
 .rw[size_push];omega
 .intro c h1 _;exact Lq w _ c h1
 .intro x e' h1 h2;unfold Gu at h2;split at h2;. cases h2;left;exact Yw _
  .rw[h1]at h2;cases h2
 .intro x e' o;unfold Gu at o;split at o;. rename_i r;cases o;subst r;rw[g _ C,W5 rfl];exact⟨rfl,λ_=>⟨arr,fz.1,fz.2,F1 w _,rfl,hle,λi x y o hy=>(hr i x y o hy).mono (Ip F),λL=>(by cases L),λ_ i O=>hfz i O⟩⟩
  .rename_i r;have K:=B.low x e' o;rw[g x K,X2 r];split;. rename_i T;rw[T,D]at o;cases o
   .refine Gr.congr (Ip F) (Lq w _ _ (B.rng x e' o)) ?_ (Q x e' o);intro q t2 k st R J;have:=s x q t2 k st K R;rw[g k om,X2 om,X2 om]at J;exact J
def AiI{b k st:Nat}{e':SE}{c cs:List AV}{t:TypeId}(hi:Om h)(hs:SOk σ w)(hm:V1 G σ h.m.get w)(Q:σ b=some o)(B:h.m.get b=.cells c t (.Gt k))(R:h.m.get k=.Fb st)
 (hl:h.nx<Bq) (hf:σ h.nx=none) (X3:c.length<=cs.length) (Bem:e'.k=some k) (hs':SOk (Gu σ h.nx e') w') (Ae9:w.heap.size<=w'.heap.size) (hio:w'.os=w.os/\w'.output=w.output)
 (Aqv:∀j,j<w.heap.size->j≠o.c->w'.heap[j]?=w.heap[j]?) (AyM:w.heap.size<=e'.c\/e'.c=o.c)
 (hold:∃(arr K:Array Value) (fz:Nat × Nat),w.heap[o.c]?=some (.cells arr t fz)/\w'.heap[o.c]?=some (.cells K t fz)/\K.size=arr.size/\∀i,i<c.length->K[i]?=arr[i]?)
 (Na:Gr G (Gu σ h.nx e') (((h.put b (.cells c t (.Cf k st))).put k (.Fb st)).new (.cells cs t (.Gt k))).m.get e' w' (.cells cs t (.Gt k))):
 Out G σ h w (Gu σ h.nx e') (((h.put b (.cells c t (.Cf k st))).put k (.Fb st)).new (.cells cs t (.Gt k))) w':=by
 have M:=hs.low b o Q;have hbn:=Ab7 hi M (by rw[B];simp);obtain⟨A3T,_⟩:=hi.N3 b k M (by rw[B];rfl);have hkl:k<Bq:=by omega
 have hkb:k≠b:=by rintro rfl;rw[B]at R;cases R
 have L:o.k=some k:=by have:=hm b o Q;rw[B]at this;exact this.1
 have E:∀j,j<Bq->(((h.put b (.cells c t (.Cf k st))).put k (.Fb st)).new (.cells cs t (.Gt k))).m.get j=if j=h.nx then .cells cs t (.Gt k)else if j=b then .cells c t (.Cf k st)else h.m.get j:=by
  intro j hj;rw[Ni _ _ (show((h.put b (.cells c t (.Cf k st))).put k (.Fb st)).nx<Bq from hl) j hj,Ph _ _ _ hkl j hj,Ph _ _ _ M j hj]
  show(if j=h.nx then _ else _)=_;by_cases Y:j=k
  .subst Y;rw[X2 om,W5 rfl,X2 om,X2 hkb,R]
  .rw[X2 Y]
 generalize hh':(((h.put b (.cells c t (.Cf k st))).put k (.Fb st)).new (.cells cs t (.Gt k)))=h' at *
 have hnx:h'.nx=h.nx+1:=by rw[<- hh'];rfl
 have hlg:h'.lg=[k,b]++h.lg:=by rw[<- hh'];rfl
 have hct:∀x l t k st,x<Bq->h.m.get x=.cells l t (.Cf k st)->k<h.nx:=λx l t k st h1 h2=>(hi.N3 x k h1 (by rw[h2];rfl)).1;have J:∀j,j<h.nx->j≠b->h'.m.get j=h.m.get j:=by intro j h1 h2;rw[E j om,X2 om,X2 h2]
 have A3O:h'.m.get k=.Fb st:=by rw[J k A3T hkb];exact R
 have V:∀d n,h.m.get d=.Fb n->d≠b:=by rintro d n h1 rfl;rw[B]at h1;cases h1
 refine⟨[k,b],⟨hlg,by omega,?_,?_,?_,?_,?_,⟨by omega,?_,?_,?_,?_,?_⟩,λx p _ _=>by simp at p;rcases p with rfl|rfl;(rw[R];simp);(rw[B];simp)⟩,⟨Ip hf,?_,hs',Ae9,?_,?_,hio⟩,?_⟩
 .intro x p;simp at p;rcases p with rfl|rfl<;>omega
 .intro x h1 h2 g;simp at g;exact J x h2 g.2
 .intro x p d h1 h2;simp at p;rcases p with rfl|rfl
  .rw[R]at h2;cases h2
  .rw[B]at h2;cases h2;simp
 .intro x d h1 h2 g D;have:x=h.nx:=by omega
  subst this;rw[E _ g,W5 rfl]at D;cases D;simp
 .intro x d h1 h2 g;rw[E x h2,X2 om]at g;split at g
  .rename_i A;subst A;rw[B];exact g
  .exact g
 .intro x h1 h2;rw[E x h2,X2 om,X2 om];exact hi.Rm x om h2
 .intro x d h1 h2;rw[E x h1]at h2;have key:d=k\/Ej (h.m.get x)=some d:=by
   split at h2
   .cases h2;exact .inl rfl
   .split at h2
    .cases h2;exact .inl rfl
    .exact .inr h2
  rcases key with rfl|g
  .exact⟨by omega,st,A3O⟩
  .obtain⟨g1,n,g2⟩:=hi.N3 x d h1 g;exact⟨by omega,n,by rw[J d g1 (V d n g2)];exact g2⟩
 .intro x y d h1 h2 g D;rw[E x h1]at g;rw[E y h2]at D;have tr:∀z,z<Bq->M2 (if z=h.nx then .cells cs t (.Gt k)else if z=b then .cells c t (.Cf k st)else h.m.get z)=some d->(z=h.nx/\d=k)\/(z≠b/\M2 (h.m.get z)=some d):=by
   intro z hz F;split at F
   .cases F;exact .inl ⟨by assumption,rfl⟩
   .split at F
    .cases F
    .exact .inr ⟨by assumption,F⟩
  have un:∀z,z<Bq->z≠b->M2 (h.m.get z)=some k->False:=λz hz h5 h6=>h5 (hi.Gt z b k hz M h6 (by rw[B];rfl));rcases tr x h1 g with⟨q1,O⟩|⟨q1,O⟩<;>rcases tr y h2 D with⟨r1,r2⟩|⟨r1,r2⟩
  .omega
  .subst O;exact(un y h2 r1 r2).elim
  .subst r2;exact(un x h1 q1 O).elim
  .exact hi.Gt x y d h1 h2 O r2
 .intro x r t2 d s2 n h1 h2 g;rw[E x h1]at h2;split at h2
  .cases h2
  .split at h2
   .cases h2;rw[A3O]at g;cases g;exact Yw _
   .have q:=hct x r t2 d s2 h1 h2;obtain⟨_,n0,O⟩:=hi.N3 x d h1 (by rw[h2];rfl);rw[J d q (V d n0 O)]at g;exact hi.Tx x r t2 d s2 n h1 h2 g
 .intro x y r t2 d s2 l3 t3 h1 h2 g D;rw[E x h1]at g;rw[E y h2]at D;split at D
  .cases D;split at g;. cases g
   .split at g;. cases g;exact X3
    .have:=hi.len x b r t2 k s2 c t h1 M g B;omega
  .split at D;. cases D
   .split at g;. cases g
    .split at g;. cases g;rename_i q _ _;exact absurd (hi.Gt y b k h2 M (by rw[D];rfl) (by rw[B];rfl)) q
     .exact hi.len x y r t2 d s2 l3 t3 h1 h2 g D
 .intro x e1 h1 h2;unfold Gu at h2;split at h2;. omega
  .rw[h1]at h2;cases h2
 .intro j h1 h2;exact Aqv j h1 (λC=>h2 b (by simp) o Q C.symm)
 .intro x e1 h1 h2;unfold Gu at h2;split at h2
  .cases h2;rcases AyM with g|g;. exact .inl g
   .exact .inr ⟨b,by simp,o,Q,g.symm⟩
  .rw[h1]at h2;cases h2
 .intro x e1 p;unfold Gu at p;split at p;. rename_i S;cases p;subst S;rw[E _ hl,W5 rfl];exact Na
  .rename_i S;have X:=hs.low x e1 p;rw[E x X,X2 S];obtain⟨arr,K,fz,a1,a2,a3,a4⟩:=hold;have AlJ:∀(y:SE) (r:List AV) (t2:TypeId) (d:CK),y.c=o.c->r.length<=c.length->(∀q,d≠.exact/\(A5v d->q))->Gr G σ h.m.get y w (.cells r t2 d)->(Adp h'.m.get d->Adp h.m.get d)->Gr G (Gu σ h.nx e') h'.m.get y w' (.cells r t2 d):=by intro y r t2 d hy hlen hkk s S7;refine⟨s.1,λW=>?_⟩;obtain⟨ar,lo,U,c1,c2,c3,c4,c5,c6⟩:=s.2 (S7 W);rw[hy,a1]at c1;cases c1;refine⟨K,lo,U,by rw[hy];exact a2,by omega,c3,?_,λC=>absurd C (hkk False).1,λC=>((hkk False).2 C).elim⟩;intro i u z hu hz;have B6:=(R4.1 hu).1;rw[a4 i om]at hz;exact(c4 i u z hu hz).mono (Ip hf)
   by_cases A:x=b
   .subst A;rw[W5 rfl];rw[Q]at p;cases p;have s:=hm x o Q;rw[B]at s;have A8r:Gr G σ h.m.get o w (.cells c t (.Cf k st)):=by obtain⟨ar,lo,U,c1,c2,c3,c4,c5,c6⟩:=s.2 trivial;exact⟨s.1,λ_=>⟨ar,lo,U,c1,c2,c3,c4,λC=>(by cases C),λC=>C.elim⟩⟩
    exact AlJ o c t _ rfl (Yw _) (λq=>⟨by simp,λC=>C.elim⟩) A8r (λ_=>R)
   .rw[X2 A];have S7:∀r t2 d s2,h.m.get x=.cells r t2 (.Cf d s2)->h'.m.get d=.Fb s2->h.m.get d=.Fb s2:=by intro r t2 d s2 P4 W;have q:=hct x r t2 d s2 X P4;obtain⟨_,n0,O⟩:=hi.N3 x d X (by rw[P4];rfl);rw[J d q (V d n0 O)]at W;exact W
    by_cases T:e1.c=o.c
    .rcases hs.inj x b e1 o p Q T with h1|⟨h1,h2⟩;. exact absurd h1 A
     .have s:=hm x e1 p;cases e:h.m.get x with
      |none=>trivial
      |Fb m=>rw[e]at s;have I:e1.k=none:=s;rw[h1,L]at I;cases I
      |map es=>rw[e]at s;have I:=s.1;rw[h1,L]at I;cases I
      |loop a1 a2 a3 a4 a5 a6=>rw[e]at s;have I:=s.1;rw[h1,L]at I;cases I
      |dfr tk=>rw[e]at s;have I:=s.1;rw[h1,L]at I;cases I
      |cells r t2 d=>
       rw[e]at s;have Z0:Ahd d=some k:=by rw[<- s.1,h1,L]
       cases d with
       |exact=>cases Z0
       |Gt kx=>cases Z0;exact absurd (hi.Gt x b k X M (by rw[e];rfl) (by rw[B];rfl)) A
       |fz kx=>cases Z0;exact absurd (hi.Gt x b k X M (by rw[e];rfl) (by rw[B];rfl)) A
       |Cf kx s2=>cases Z0;exact AlJ e1 r t2 _ T (hi.len x b r t2 k s2 c t X M e B) (λq=>⟨by simp,λC=>C.elim⟩) s (λW=>S7 r t2 k s2 e W)
    .exact Gr.congr (Ip hf) (Aqv _ (hs.rng x e1 p) T) (λa1 a2 a3 a4 e5 e6=>S7 a1 a2 a3 a4 e5 e6) (hm x e1 p)
end Go.Ev
